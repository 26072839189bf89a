import PyProof.Rows.All
import Wide.All
import OpenK.AllK
import Wide.FinOn
import HandS.ForMost
import HandS.Walk
import HandS.Flow
import HandS.Defaults
import HandS.Lambda
import HandS.TupAny
import HandS.TupMul
import HandS.Zip
import HandS.Deep
import PyProof.ReprRoads
import PyProof.ReprLen
import HandS.WideBits
import HandS.IsInst
import HandS.Iter
import HandS.Style
import HandS.Conv
import HandS.Text
import HandS.Codes
import HandS.List
import HandS.HeadHook1
import HandS.HeadHook2
import HandS.Dict
import HandS.Star
import HandS.Replace
import HandS.StrMore
import KE.KDictPairs
import PyProof.ListStr
import PyProof.StrBlock2
import PyProof.Rows.StrMul
import PyProof.Rows.StrCase
import HandS.Property
import HandS.ClsMeth
import KE.KIndexOf
import KE.GoesEnum
import PyProof.TupleOfStr
import HandS.TupLe
import KE.KRevSl
import HandS.FStr
import PyProof.NeKinds
import KE.GoesZip
import HandS.SetFor
import HandS.Exc
import HandS.ExcInit
import PyProof.InstNe
import PyProof.InstEq
import KE.KExcInit
import PyProof.ExcBaseAll.LookupError
import PyProof.ExcBaseAll.OverflowError
import HandS.ExcIs
import HandS.ExcField
import KE.KTryMore
import HandS.NoneIn
import HandS.EndTab
import KE.KNestM
import KE.KDictZip
import KE.KTurns
import PyProof.ListNew
import KE.GoesEnumKw
import KE.DataFind
import OpenK.KMore
import PyProof.CollectIter
import PyProof.Walks
import KE.KUnpack
import KE.KStateDown
import Lean
import HandS.Head0
import HandS.Head1
import HandS.Head2
import HandS.HeadEnd
import PySem.Challenge.RW_carryprobe_k92_texts_of_orders_refused
set_option Elab.async false
set_option linter.all false
set_option maxRecDepth 100000
set_option autoImplicit false
set_option maxHeartbeats 4000000
namespace DX
open PySem PySem.Spec L2

/-! ### data -/
inductive D where
  | non | bl (b : Bool) | int (i : Int) | str (x : Str) | adr (a : Addr) | ty (n : String)
  | tup (ds : List D) | lst (ds : List D) | scr (ns : List Int)
  | ins (C : Addr) (fs : List (Str × D))
  | dct (kvs : List (Key × D))
  | stup (ds : List D)
  | exn (C : Addr) (fs : List (Str × D))
  | tbl (q : Str)

/-- at a: an error of the class at C that was caught, its dict at d -/
def exH (a C : Addr) (d : Option Addr) : HO := .ext fun h => ∃ (oe : Obj) (vs : Array Value), h.get? a = some oe ∧ oe.cls = .ref C ∧ oe.dict = d ∧ oe.data = .fields vs

mutual
inductive Rp (K : PySem.W.Frag) (F : Hp) : V → D → Prop
  | non : Rp K F .non .non
  | bl (b : Bool) : Rp K F (.bl b) (.bl b)
  | int (i : Int) : Rp K F (.int i) (.int i)
  | str (x : Str) : Rp K F (.str x) (.str x)
  | adr (a : Addr) : Rp K F (.ref a) (.adr a)
  | ty (n : String) : Rp K F (.ty n) (.ty n)
  | tup {a : Addr} {xs : List V} {ds : List D} : SqT K F a xs → Rps K F xs ds → Rp K F (.ref a) (.tup ds)
  | lst {a : Addr} {xs : List V} {ds : List D} : F a = some (.lst xs) → Rps K F xs ds → Rp K F (.ref a) (.lst ds)
  | scr {a : Addr} {ns : List Int} : SqL K F a (ns.map V.int) → Rp K F (.ref a) (.scr ns)
  | ins {a C dx : Addr} {fs : List (Str × V)} {gs : List (Str × D)} : F a = some (.ins C dx fs) → Rfs K F fs gs → Rp K F (.ref a) (.ins C gs)
  | dct {a : Addr} {kvs : List (Key × V)} {ds : List (Key × D)} : F a = some (.dK kvs) → Rks K F kvs ds → Rp K F (.ref a) (.dct ds)
  | stup {a : Addr} {o : Obj} {xs : List V} {ds : List D} : F a = some (.frz o (.tup xs)) → (o.cls = .type "tuple" ∧ o.dict = none) → Rps K F xs ds → Rp K F (.ref a) (.stup ds)
  | exn {a C : Addr} {d : Option Addr} {fs : List (Str × V)} {gs : List (Str × D)} : F a = some (exH a C d) → ((d = none ∧ fs = []) ∨ ∃ dd, d = some dd ∧ F dd = some (.xd fs)) → Rfs K F fs gs → Rp K F (.ref a) (.exn C gs)
inductive Rps (K : PySem.W.Frag) (F : Hp) : List V → List D → Prop
  | nil : Rps K F [] []
  | cons {v : V} {d : D} {vs : List V} {ds : List D} : Rp K F v d → Rps K F vs ds → Rps K F (v :: vs) (d :: ds)
inductive Rfs (K : PySem.W.Frag) (F : Hp) : List (Str × V) → List (Str × D) → Prop
  | nil : Rfs K F [] []
  | cons {x : Str} {v : V} {d : D} {vs : List (Str × V)} {ds : List (Str × D)} : Rp K F v d → Rfs K F vs ds → Rfs K F ((x, v) :: vs) ((x, d) :: ds)
inductive Rks (K : PySem.W.Frag) (F : Hp) : List (Key × V) → List (Key × D) → Prop
  | nil : Rks K F [] []
  | cons {x : Key} {v : V} {d : D} {vs : List (Key × V)} {ds : List (Key × D)} : Rp K F v d → Rks K F vs ds → Rks K F ((x, v) :: vs) ((x, d) :: ds)
end

section
variable {K : PySem.W.Frag} {F F' H H' : Hp}
theorem same_rd {a : Addr} {u : HO} (e : Same H H') (h : Rd H a u) : Rd H' a u := by
  rcases h with h | ⟨o, h⟩
  · exact .inl (e _ _ h)
  · exact .inr ⟨o, e _ _ h⟩
theorem same_l {a : Addr} {xs : List V} (e : Same H H') (h : SqL K H a xs) : SqL K H' a xs := by
  rcases h with h | h
  · exact .inl (same_rd e h)
  · exact .inr h
theorem same_t {a : Addr} {xs : List V} (e : Same H H') (h : SqT K H a xs) : SqT K H' a xs := by
  rcases h with h | h
  · exact .inl (same_rd e h)
  · exact .inr h
mutual
theorem Rp.mono (e : Same F F') : ∀ {v : V} {d : D}, Rp K F v d → Rp K F' v d
  | _, _, .non => .non
  | _, _, .bl b => .bl b
  | _, _, .int i => .int i
  | _, _, .str x => .str x
  | _, _, .adr a => .adr a
  | _, _, .ty n => .ty n
  | _, _, .tup h r => .tup (same_t e h) (Rps.mono e r)
  | _, _, .lst h r => .lst (e _ _ h) (Rps.mono e r)
  | _, _, .scr h => .scr (same_l e h)
  | _, _, .ins h r => .ins (e _ _ h) (Rfs.mono e r)
  | _, _, .dct h r => .dct (e _ _ h) (Rks.mono e r)
  | _, _, .stup h c r => .stup (e _ _ h) c (Rps.mono e r)
  | _, _, .exn h c r => .exn (e _ _ h) (c.imp id fun ⟨dd, h1, h2⟩ => ⟨dd, h1, e _ _ h2⟩) (Rfs.mono e r)
theorem Rps.mono (e : Same F F') : ∀ {v : List V} {d : List D}, Rps K F v d → Rps K F' v d
  | _, _, .nil => .nil
  | _, _, .cons h r => .cons (Rp.mono e h) (Rps.mono e r)
theorem Rfs.mono (e : Same F F') : ∀ {v : List (Str × V)} {d : List (Str × D)}, Rfs K F v d → Rfs K F' v d
  | _, _, .nil => .nil
  | _, _, .cons h r => .cons (Rp.mono e h) (Rfs.mono e r)
theorem Rks.mono (e : Same F F') : ∀ {v : List (Key × V)} {d : List (Key × D)}, Rks K F v d → Rks K F' v d
  | _, _, .nil => .nil
  | _, _, .cons h r => .cons (Rp.mono e h) (Rks.mono e r)
end
theorem Rps.length : ∀ {v : List V} {d : List D}, Rps K F v d → v.length = d.length
  | _, _, .nil => rfl
  | _, _, .cons _ r => congrArg Nat.succ (Rps.length r)
theorem Rps.append : ∀ {v w : List V} {d e : List D}, Rps K F v d → Rps K F w e → Rps K F (v ++ w) (d ++ e)
  | _, _, _, _, .nil, s => s
  | _, _, _, _, .cons h r, s => .cons h (Rps.append r s)
theorem Rps.get : ∀ {v : List V} {d : List D} {i : Nat} {x : D}, Rps K F v d → d[i]? = some x → ∃ y, v[i]? = some y ∧ Rp K F y x
  | _, _, i, _, .nil, e => by simp at e
  | _, _, 0, _, .cons h _, e => by simp at e; subst e; exact ⟨_, rfl, h⟩
  | _, _, i + 1, x, .cons _ r, e => by
    obtain ⟨y, h1, h2⟩ := Rps.get (i := i) (x := x) r (by simpa using e)
    exact ⟨y, by simpa using h1, h2⟩
theorem Rps.getV : ∀ {v : List V} {d : List D} {i : Nat} {y : V}, Rps K F v d → v[i]? = some y → ∃ x, d[i]? = some x ∧ Rp K F y x
  | _, _, i, _, .nil, e => by simp at e
  | _, _, 0, _, .cons h _, e => by simp at e; subst e; exact ⟨_, rfl, h⟩
  | _, _, i + 1, x, .cons _ r, e => by
    obtain ⟨y, h1, h2⟩ := Rps.getV (i := i) (y := x) r (by simpa using e)
    exact ⟨y, by simpa using h1, h2⟩
theorem Rps.set : ∀ {v : List V} {d : List D} {y : V} {x : D} (i : Nat), Rps K F v d → Rp K F y x → Rps K F (v.set i y) (d.set i x)
  | _, _, _, _, _, .nil, _ => .nil
  | _, _, _, _, 0, .cons _ r, h => .cons h r
  | _, _, _, _, i + 1, .cons h' r, h => .cons h' (Rps.set i r h)
theorem Rps.drop : ∀ {v : List V} {d : List D} (i : Nat), Rps K F v d → Rps K F (v.drop i) (d.drop i)
  | _, _, 0, r => r
  | _, _, _ + 1, .nil => .nil
  | _, _, i + 1, .cons _ r => Rps.drop i r
theorem Rps.take : ∀ {v : List V} {d : List D} (i : Nat), Rps K F v d → Rps K F (v.take i) (d.take i)
  | _, _, 0, _ => .nil
  | _, _, _ + 1, .nil => .nil
  | _, _, i + 1, .cons h r => .cons h (Rps.take i r)
theorem Rps.rep {v : List V} {d : List D} (r : Rps K F v d) : ∀ n : Nat, Rps K F (List.replicate n v).flatten (List.replicate n d).flatten
  | 0 => .nil
  | n + 1 => by
    rw [List.replicate_succ, List.replicate_succ, List.flatten_cons, List.flatten_cons]
    exact r.append (Rps.rep r n)
theorem Rps.reverse : ∀ {v : List V} {d : List D}, Rps K F v d → Rps K F v.reverse d.reverse
  | _, _, .nil => .nil
  | _, _, .cons h r => by
    rw [List.reverse_cons, List.reverse_cons]
    exact (Rps.reverse r).append (.cons h .nil)
theorem Rps.ints : ∀ {v : List V} {ns : List Int}, Rps K F v (ns.map D.int) → v = ns.map V.int
  | v, [], h => by cases h; rfl
  | v, n :: ns, h => by
    cases h with
    | cons a r =>
      cases a
      rw [Rps.ints r]; rfl
theorem Rps.ofInts : ∀ {ns : List Int}, Rps K F (ns.map V.int) (ns.map D.int)
  | [] => .nil
  | n :: ns => .cons (.int n) Rps.ofInts
theorem Rps.strs : ∀ {v : List V} {ns : List Str}, Rps K F v (ns.map D.str) → v = ns.map V.str
  | v, [], h => by cases h; rfl
  | v, n :: ns, h => by
    cases h with
    | cons a r =>
      cases a
      rw [Rps.strs r]; rfl
theorem Rps.ofStrs : ∀ {ns : List Str}, Rps K F (ns.map V.str) (ns.map D.str)
  | [] => .nil
  | n :: ns => .cons (.str n) Rps.ofStrs
theorem Rps.bls : ∀ {v : List V} {ns : List Bool}, Rps K F v (ns.map D.bl) → v = ns.map V.bl
  | v, [], h => by cases h; rfl
  | v, n :: ns, h => by
    cases h with
    | cons a r =>
      cases a
      rw [Rps.bls r]; rfl
end

/-! ### the names' data -/
abbrev DEnv := List (Option D)
def look : DEnv → Nat → Option D
  | [], _ => none
  | d :: _, 0 => d
  | _ :: r, n + 1 => look r n
def put : DEnv → Nat → D → DEnv
  | [], _, _ => []
  | _ :: r, 0, d => some d :: r
  | x :: r, n + 1, d => x :: put r n d
/-- a slot forgotten -/
def cut : DEnv → Nat → DEnv
  | [], _ => []
  | _ :: r, 0 => none :: r
  | x :: r, n + 1 => x :: cut r n
def cuts (ρ : DEnv) : List Nat → DEnv
  | [] => ρ
  | v :: vs => cut (cuts ρ vs) v
inductive En (K : PySem.W.Frag) (F : Hp) : St → DEnv → Prop
  | nil : En K F [] []
  | cons {v : Option V} {d : Option D} {σ : St} {ρ : DEnv} : (∀ x, d = some x → ∃ y, v = some y ∧ Rp K F y x) → En K F σ ρ → En K F (v :: σ) (d :: ρ)
section
variable {K : PySem.W.Frag} {F F' H H' : Hp}
theorem En.mono (e : Same F F') : ∀ {σ : St} {ρ : DEnv}, En K F σ ρ → En K F' σ ρ
  | _, _, .nil => .nil
  | _, _, .cons h r => .cons (fun x q => let ⟨y, a, b⟩ := h x q; ⟨y, a, b.mono e⟩) (En.mono e r)
theorem En.look : ∀ {σ : St} {ρ : DEnv} {i : Nat} {d : D}, En K F σ ρ → DX.look ρ i = some d → ∃ y, σ[i]? = some (some y) ∧ Rp K F y d
  | _, _, i, _, .nil, e => by simp [DX.look] at e
  | _, _, 0, d, .cons h r, e => by
    obtain ⟨y, a, b⟩ := h d e
    exact ⟨y, by rw [a]; rfl, b⟩
  | _, _, i + 1, d, .cons h r, e => by
    obtain ⟨y, a, b⟩ := En.look (i := i) r e
    exact ⟨y, by simpa using a, b⟩
theorem En.put : ∀ {σ : St} {ρ : DEnv} {y : V} {d : D} (i : Nat), En K F σ ρ → Rp K F y d → En K F (σ.set i (some y)) (DX.put ρ i d)
  | _, _, _, _, _, .nil, _ => .nil
  | _, _, y, d, 0, .cons _ r, h => .cons (fun x q => ⟨y, rfl, by cases q; exact h⟩) r
  | _, _, _, _, i + 1, .cons h' r, h => .cons h' (En.put i r h)
theorem En.cut : ∀ {σ : St} {ρ : DEnv} (i : Nat), En K F σ ρ → En K F (σ.set i none) (DX.cut ρ i)
  | _, _, _, .nil => .nil
  | _, _, 0, .cons _ r => .cons (fun x q => by cases q) r
  | _, _, i + 1, .cons h' r => .cons h' (En.cut i r)
theorem En.cuts {σ : St} {ρ : DEnv} (h : En K F σ ρ) : ∀ vs : List Nat, En K F (wipe σ vs) (DX.cuts ρ vs)
  | [] => h
  | v :: vs => En.cut v (En.cuts h vs)
def startD (n : Nat) (ds : List D) : DEnv := ds.map some ++ List.replicate n none
theorem En.rep : ∀ n : Nat, En K F (List.replicate n none) (List.replicate n none)
  | 0 => .nil
  | n + 1 => .cons (fun x q => by cases q) (En.rep n)
theorem En.start : ∀ {vs : List V} {ds : List D} (n : Nat), Rps K F vs ds → En K F (vs.map some ++ List.replicate n none) (startD n ds)
  | _, _, n, .nil => En.rep n
  | _, _, n, .cons h r => .cons (fun x q => ⟨_, rfl, by cases q; exact h⟩) (En.start n r)
end

/-! ### what may change -/
abbrev Mem := Addr → Option D
def up (M : Mem) (a : Addr) (d : D) : Mem := fun b => if b = a then some d else M b
def rm (M : Mem) (a : Addr) : Mem := fun b => if b = a then none else M b
theorem up_same {M : Mem} {a : Addr} {d : D} : up M a d a = some d := if_pos rfl
theorem up_ne {M : Mem} {a b : Addr} {d : D} (h : b ≠ a) : up M a d b = M b := if_neg h
theorem up_up {M : Mem} {a : Addr} {d e : D} : up (up M a d) a e = up M a e := by
  funext b; unfold up; split <;> rfl
theorem up_comm {M : Mem} {a b : Addr} {d e : D} (h : a ≠ b) : up (up M a d) b e = up (up M b e) a d := by
  funext c; unfold up
  by_cases h1 : c = a
  · subst h1
    rw [if_neg h]; simp
  · simp [h1]
theorem rm_up {M : Mem} {a : Addr} {d : D} (h : M a = none) : rm (up M a d) a = M := by
  funext c; unfold rm up
  by_cases h1 : c = a
  · subst h1; rw [if_pos rfl, h]
  · rw [if_neg h1, if_neg h1]
theorem up_self {M : Mem} {a : Addr} {d : D} (h : M a = some d) : up M a d = M := by
  funext c; unfold up
  by_cases h1 : c = a
  · subst h1; rw [if_pos rfl, h]
  · rw [if_neg h1]
def Mt (K : PySem.W.Frag) (F H : Hp) (a : Addr) : D → Prop
  | .lst ds => ∃ xs, H a = some (.lst xs) ∧ Rps K F xs ds
  | .ins C gs => ∃ dx fs, H a = some (.ins C dx fs) ∧ Rfs K F fs gs
  | .dct ds => ∃ kvs, H a = some (.dK kvs) ∧ Rks K F kvs ds
  | .tbl q => ∃ ps : Array Value, H a = some (.tbl ps) ∧ TriplesOk ps.toList ∧ ∀ (pos : Pos) (cv : Value), codeAmong pos ps.toList = some cv → ∃ c, cv = .ref c ∧ F c = some (LamX.CodeO c q)
  | _ => False
structure Ok (K : PySem.W.Frag) (F : Hp) (M : Mem) (H : Hp) : Prop where
  ex : Same F H
  mt : ∀ a d, M a = some d → F a = none ∧ Mt K F H a d
section
variable {K : PySem.W.Frag} {F F' H H' : Hp} {M : Mem}
theorem Mt.there {a : Addr} {d : D} (m : Mt K F H a d) : ∃ o, H a = some o := by
  cases d <;> first
    | exact m.elim
    | (obtain ⟨_, h, _⟩ := m; exact ⟨_, h⟩)
    | (obtain ⟨_, _, h, _⟩ := m; exact ⟨_, h⟩)
theorem Mt.mono {a : Addr} {d : D} (e : Same F F') (h : H' a = H a) (m : Mt K F H a d) : Mt K F' H' a d := by
  cases d <;> first
    | exact m.elim
    | (obtain ⟨xs, p, r⟩ := m; exact ⟨xs, by rw [h]; exact p, r.mono e⟩)
    | (obtain ⟨dx, fs, p, r⟩ := m; exact ⟨dx, fs, by rw [h]; exact p, r.mono e⟩)
    | (obtain ⟨ps, p, t, r⟩ := m; exact ⟨ps, by rw [h]; exact p, t, fun pos cv z => let ⟨c, h1, h2⟩ := r pos cv z; ⟨c, h1, e _ _ h2⟩⟩)
theorem same_new {a : Addr} {o : HO} (h : H a = none) : Same H (upd H a o) := fun b u e => by
  rw [upd_ne (ne_of_none e h)]
  exact e
theorem Ok.nn (k : Ok K F M H) {a : Addr} (h : H a = none) : F a = none ∧ M a = none := by
  refine ⟨k.ex.free h, ?_⟩
  cases q : M a with
  | none => rfl
  | some d =>
    obtain ⟨o, e⟩ := (k.mt a d q).2.there
    rw [h] at e; cases e
/-- a new object that is never to change -/
theorem Ok.fix (k : Ok K F M H) {a : Addr} {o : HO} (h : H a = none) : Ok K (upd F a o) M (upd H a o) := by
  obtain ⟨h1, h2⟩ := k.nn h
  refine ⟨fun b u e => ?_, fun b d e => ?_⟩
  · by_cases hb : b = a
    · subst hb; rw [upd_same] at e ⊢; exact e
    · rw [upd_ne hb] at e ⊢; exact k.ex b u e
  · have hb : b ≠ a := fun z => by subst z; rw [h2] at e; cases e
    obtain ⟨m1, m2⟩ := k.mt b d e
    exact ⟨by rw [upd_ne hb]; exact m1, m2.mono (same_new h1) (upd_ne hb)⟩
theorem Ok.fixSame (k : Ok K F M H) {a : Addr} {o : HO} (h : H a = Option.none) : Same F (upd F a o) := same_new (k.nn h).1
/-- a new object that may change -/
theorem Ok.lay (k : Ok K F M H) {a : Addr} {o : HO} {d : D} (h : H a = Option.none) (m : Mt K F (upd H a o) a d) : Ok K F (up M a d) (upd H a o) := by
  obtain ⟨h1, h2⟩ := k.nn h
  refine ⟨fun b u e => ?_, fun b d' e => ?_⟩
  · rw [upd_ne (ne_of_none e h1)]
    exact k.ex b u e
  · by_cases hb : b = a
    · subst hb
      rw [up_same] at e; cases e
      exact ⟨h1, m⟩
    · rw [up_ne hb] at e
      obtain ⟨m1, m2⟩ := k.mt b d' e
      exact ⟨m1, m2.mono (Same.refl F) (upd_ne hb)⟩
/-- it changes -/
theorem Ok.set (k : Ok K F M H) {a : Addr} {o : HO} {d d' : D} (h : M a = some d) (m : Mt K F (upd H a o) a d') : Ok K F (up M a d') (upd H a o) := by
  have h1 := (k.mt a d h).1
  refine ⟨fun b u e => ?_, fun b d' e => ?_⟩
  · rw [upd_ne (ne_of_none e h1)]
    exact k.ex b u e
  · by_cases hb : b = a
    · subst hb
      rw [up_same] at e; cases e
      exact ⟨h1, m⟩
    · rw [up_ne hb] at e
      obtain ⟨m1, m2⟩ := k.mt b d' e
      exact ⟨m1, m2.mono (Same.refl F) (upd_ne hb)⟩
/-- it is not to change any more -/
theorem Ok.freeze (k : Ok K F M H) {a : Addr} {o : HO} {d : D} (h : M a = some d) (ho : H a = some o) : Same F (upd F a o) ∧ Ok K (upd F a o) (rm M a) H := by
  have h1 := (k.mt a d h).1
  refine ⟨same_new h1, fun b u e => ?_, fun b d' e => ?_⟩
  · by_cases hb : b = a
    · subst hb; rw [upd_same] at e; cases e; exact ho
    · rw [upd_ne hb] at e; exact k.ex b u e
  · unfold rm at e
    by_cases hb : b = a
    · rw [if_pos hb] at e; cases e
    · rw [if_neg hb] at e
      obtain ⟨m1, m2⟩ := k.mt b d' e
      exact ⟨by rw [upd_ne hb]; exact m1, m2.mono (same_new h1) rfl⟩
end

/-! ### judgements over data -/
/-- what stays known, whatever is added -/
structure Gh where
  p : Hp → Prop
  mono : ∀ F F', Same F F' → p F → p F'
def Gh.triv : Gh := ⟨fun _ => True, fun _ _ _ h => h⟩
structure Sts (K : PySem.W.Frag) (J : Gh) (F : Hp) (σ : St) (H : Hp) (ρ : DEnv) (M : Mem) : Prop where
  en : En K F σ ρ
  ok : Ok K F M H
  gh : J.p F
def Kt (K : PySem.W.Frag) (F : Hp) (P : D → Mem → Prop) (Q : VK) : Prop := ∀ d v M' F' H', P d M' → Same F F' → Ok K F' M' H' → Rp K F' v d → Q v H'
def Kb (K : PySem.W.Frag) (F : Hp) (P : Bool → Mem → Prop) (Q : Bool → Hp → Prop) : Prop := ∀ b M' F' H', P b M' → Same F F' → Ok K F' M' H' → Q b H'
def Ka (K : PySem.W.Frag) (F : Hp) (P : List D → Mem → Prop) (Q : List V → Hp → Prop) : Prop := ∀ ds vs M' F' H', P ds M' → Same F F' → Ok K F' M' H' → Rps K F' vs ds → Q vs H'
def tD (K : PySem.W.Frag) (J : Gh) (ρ : DEnv) (M : Mem) (P : D → Mem → Prop) : TE := fun σ H Q => ∃ F, Sts K J F σ H ρ M ∧ Kt K F P Q
def tT (K : PySem.W.Frag) (J : Gh) (ρ : DEnv) (M : Mem) (P : Bool → Mem → Prop) : TT := fun σ H Q => ∃ F, Sts K J F σ H ρ M ∧ Kb K F P Q
def tA (K : PySem.W.Frag) (J : Gh) (ρ : DEnv) (M : Mem) (P : List D → Mem → Prop) : TA := fun σ H Q => ∃ F, Sts K J F σ H ρ M ∧ Ka K F P Q
def EX (X : Cx) (J : Gh) (e : Expr) (ρ : DEnv) (M : Mem) (P : D → Mem → Prop) : Prop := PE X e (tD X.K J ρ M P)
def TX (X : Cx) (J : Gh) (e : Expr) (ρ : DEnv) (M : Mem) (P : Bool → Mem → Prop) : Prop := PT X e (tT X.K J ρ M P)
def WX (X : Cx) (J : Gh) (e : Expr) (ρ : DEnv) (M : Mem) (P : Bool → Mem → Prop) : Prop := PW X e (tT X.K J ρ M P)
def AX (X : Cx) (J : Gh) (es : List Expr) (ρ : DEnv) (M : Mem) (P : List D → Mem → Prop) : Prop := PA X es (tA X.K J ρ M P)
/-- the reading that any derivation may fill -/
def tE (X : Cx) (e : Expr) : TE := fun σ H Q => ∃ t, PE X e t ∧ t σ H Q
def tTe (X : Cx) (e : Expr) : TT := fun σ H Q => ∃ t, PT X e t ∧ t σ H Q
def tWe (X : Cx) (e : Expr) : TT := fun σ H Q => ∃ t, PW X e t ∧ t σ H Q
def tAe (X : Cx) (es : List Expr) : TA := fun σ H Q => ∃ t, PA X es t ∧ t σ H Q
section
variable {X : Cx} {J : Gh} {e : Expr} {es : List Expr} {ρ : DEnv} {M M' : Mem} {F F' H H' : Hp} {σ : St} {P : D → Mem → Prop} {K : PySem.W.Frag}
theorem pe_any : PE X e (tE X e) := ⟨fun pins s σ H Q I ⟨t, h, q⟩ => h.run pins s σ H Q I q⟩
theorem pt_any : PT X e (tTe X e) := ⟨fun pins s σ H Q I ⟨t, h, q⟩ => h.run pins s σ H Q I q⟩
theorem pw_any : PW X e (tWe X e) := ⟨fun wh pins s σ H Q I ⟨t, h, q⟩ => h.run wh pins s σ H Q I q⟩
theorem pa_any : PA X es (tAe X es) := ⟨fun pos pins s σ H Q I ⟨t, h, q⟩ => h.run pos pins s σ H Q I q⟩
theorem Sts.to (s : Sts K J F σ H ρ M) (e : Same F F') (o : Ok K F' M' H') : Sts K J F' σ H' ρ M' := ⟨s.en.mono e, o, J.mono _ _ e s.gh⟩
theorem Kt.to {Q : VK} (k : Kt K F P Q) (e : Same F F') : Kt K F' P Q := fun d v M' F2 H' p e2 => k d v M' F2 H' p (e.trans e2)
theorem Kb.to {P : Bool → Mem → Prop} {Q : Bool → Hp → Prop} (k : Kb K F P Q) (e : Same F F') : Kb K F' P Q := fun b M' F2 H' p e2 => k b M' F2 H' p (e.trans e2)
theorem Ka.to {P : List D → Mem → Prop} {Q : List V → Hp → Prop} (k : Ka K F P Q) (e : Same F F') : Ka K F' P Q := fun b vs M' F2 H' p e2 => k b vs M' F2 H' p (e.trans e2)
theorem EX.go (h : EX X J e ρ M P) (s : Sts X.K J F σ H ρ M) {Q : VK} (k : Kt X.K F P Q) : tE X e σ H Q := ⟨_, h, F, s, k⟩
theorem TX.go {P : Bool → Mem → Prop} (h : TX X J e ρ M P) (s : Sts X.K J F σ H ρ M) {Q : Bool → Hp → Prop} (k : Kb X.K F P Q) : tTe X e σ H Q := ⟨_, h, F, s, k⟩
theorem WX.go {P : Bool → Mem → Prop} (h : WX X J e ρ M P) (s : Sts X.K J F σ H ρ M) {Q : Bool → Hp → Prop} (k : Kb X.K F P Q) : tWe X e σ H Q := ⟨_, h, F, s, k⟩
theorem AX.go {P : List D → Mem → Prop} (h : AX X J es ρ M P) (s : Sts X.K J F σ H ρ M) {Q : List V → Hp → Prop} (k : Ka X.K F P Q) : tAe X es σ H Q := ⟨_, h, F, s, k⟩
theorem ex_of {t : TE} (h : PE X e t) (k : ∀ F σ H Q, Sts X.K J F σ H ρ M → Kt X.K F P Q → t σ H Q) : EX X J e ρ M P := ⟨fun pins s σ H Q I ⟨F, st, q⟩ => h.run pins s σ H Q I (k F σ H Q st q)⟩
theorem tx_of {t : TT} {P : Bool → Mem → Prop} (h : PT X e t) (k : ∀ F σ H Q, Sts X.K J F σ H ρ M → Kb X.K F P Q → t σ H Q) : TX X J e ρ M P := ⟨fun pins s σ H Q I ⟨F, st, q⟩ => h.run pins s σ H Q I (k F σ H Q st q)⟩
theorem wx_of {t : TT} {P : Bool → Mem → Prop} (h : PW X e t) (k : ∀ F σ H Q, Sts X.K J F σ H ρ M → Kb X.K F P Q → t σ H Q) : WX X J e ρ M P := ⟨fun wh pins s σ H Q I ⟨F, st, q⟩ => h.run wh pins s σ H Q I (k F σ H Q st q)⟩
theorem ax_of {t : TA} {P : List D → Mem → Prop} (h : PA X es t) (k : ∀ F σ H Q, Sts X.K J F σ H ρ M → Ka X.K F P Q → t σ H Q) : AX X J es ρ M P := ⟨fun pos pins s σ H Q I ⟨F, st, q⟩ => h.run pos pins s σ H Q I (k F σ H Q st q)⟩
theorem EX.imp {P' : D → Mem → Prop} (h : EX X J e ρ M P) (k : ∀ d M', P d M' → P' d M') : EX X J e ρ M P' := ex_of h fun F σ H Q st q => ⟨F, st, fun d v M' F' H' p => q d v M' F' H' (k d M' p)⟩
theorem TX.imp {P P' : Bool → Mem → Prop} (h : TX X J e ρ M P) (k : ∀ d M', P d M' → P' d M') : TX X J e ρ M P' := tx_of h fun F σ H Q st q => ⟨F, st, fun d M' F' H' p => q d M' F' H' (k d M' p)⟩
/-- the value as it is, nothing changed -/
theorem Kt.here {Q : VK} {d : D} {v : V} (k : Kt K F P Q) (p : P d M) (o : Ok K F M H) (r : Rp K F v d) : Q v H := k d v M F H p (Same.refl F) o r
theorem Kb.here {P : Bool → Mem → Prop} {Q : Bool → Hp → Prop} {b : Bool} (k : Kb K F P Q) (p : P b M) (o : Ok K F M H) : Q b H := k b M F H p (Same.refl F) o
end
end DX
namespace DX
open PySem PySem.Spec L2

section
variable {X : Cx} {J : Gh} {e a b c : Expr} {es : List Expr} {ρ : DEnv} {M M' : Mem} {F F' H H' : Hp} {σ : St} {P : D → Mem → Prop} {PB : Bool → Mem → Prop} {PA' : List D → Mem → Prop} {K : PySem.W.Frag} {pos : Pos} {x : Str}

/-! ### names, constants -/
theorem ex_var {d : D} (i : Nat) (h : look ρ i = some d) (p : P d M) (hN : X.N[i]? = some x := by rfl) (hv : Vis X.env.scope x := by first | exact Or.inl rfl | exact Or.inr (Or.inl rfl) | exact Or.inr (Or.inr rfl)) (hd : (x == ("__debug__" : Str)) = false := by decide)
    (hcd : (x == ("__classdict__" : Str)) = false := by decide) : EX X J (.Name x pos) ρ M P :=
  ex_of (pe_var hN hv hd hcd) fun F σ H Q st k => by
    obtain ⟨v, h1, h2⟩ := st.en.look h
    exact ⟨v, h1, k.here p st.ok h2⟩
theorem ex_int {i : Int} {j} (p : P (.int i) M) : EX X J (.Constant (.int i) j pos) ρ M P := ex_of pe_int fun F σ H Q st k => k.here p st.ok (.int i)
theorem ex_bl {i : Bool} {j} (p : P (.bl i) M) : EX X J (.Constant (.bool i) j pos) ρ M P := ex_of pe_bl fun F σ H Q st k => k.here p st.ok (.bl i)
theorem ex_non {j} (p : P .non M) : EX X J (.Constant .none j pos) ρ M P := ex_of pe_non fun F σ H Q st k => k.here p st.ok .non
theorem ex_str {i : Str} {j} (p : P (.str i) M) : EX X J (.Constant (.str i) j pos) ρ M P := ex_of pe_str fun F σ H Q st k => k.here p st.ok (.str i)
/-- a module's constant -/
theorem ex_glob {v : V} {u : Value} {d : D} (hg : Gl X x) (hm : X.mg x = some u) (r : RelV v u) (hr : ∀ F, Rp X.K F v d) (p : P d M) (hd : (x == ("__debug__" : Str)) = false := by decide) : EX X J (.Name x pos) ρ M P :=
  ex_of (pe_glob hg hm r hd) fun F σ H Q st k => k.here p st.ok (hr F)

/-! ### argument lists -/
theorem ax_nil (p : PA' [] M) : AX X J [] ρ M PA' := ax_of pa_nil fun F σ H Q st k => k [] [] M F H p (Same.refl F) st.ok .nil
theorem ax_cons (h : EX X J e ρ M fun d M1 => AX X J es ρ M1 fun ds M2 => PA' (d :: ds) M2) (hs : starEach (e :: es) X.env = (false, eval e X.env) :: starEach es X.env := by rfl) : AX X J (e :: es) ρ M PA' :=
  ax_of (pa_cons pe_any pa_any hs) fun F σ H Q st k => h.go st fun d v M1 F1 H1 p e1 o1 r1 => AX.go p (st.to e1 o1) fun ds vs M2 F2 H2 p2 e2 o2 r2 => k _ _ M2 F2 H2 p2 (e1.trans e2) o2 (.cons (r1.mono e2) r2)

/-! ### operations on values -/
def rAnyO (X : Cx) (f : Value → Value → Sem Value) : R2 := fun v u H Q => ∃ r, OpR X f r ∧ r v u H Q
theorem op_any {f : Value → Value → Sem Value} : OpR X f (rAnyO X f) := fun pins s σ H x y v u Q I rx ry ⟨r, h, q⟩ => h pins s σ H x y v u Q I rx ry q
/-- f at the data x, y: what comes -/
def OD (X : Cx) (f : Value → Value → Sem Value) (x y : D) (M : Mem) (P : D → Mem → Prop) : Prop :=
  ∃ r, OpR X f r ∧ ∀ F H v u Q, Ok X.K F M H → Rp X.K F v x → Rp X.K F u y → Kt X.K F P Q → r v u H Q
theorem OD.go {f : Value → Value → Sem Value} {x y : D} (h : OD X f x y M P) {v u : V} {Q : VK} (o : Ok X.K F M H) (rx : Rp X.K F v x) (ry : Rp X.K F u y) (k : Kt X.K F P Q) : rAnyO X f v u H Q := by
  obtain ⟨r, h1, h2⟩ := h
  exact ⟨r, h1, h2 F H v u Q o rx ry k⟩
theorem ex_bin {op : Operator} (h : EX X J a ρ M fun x M1 => EX X J b ρ M1 fun y M2 => OD X (binaryOp op) x y M2 P) : EX X J (.BinOp a op b pos) ρ M P :=
  ex_of (pe_op op_any pe_any pe_any) fun F σ H Q st k => h.go st fun d v M1 F1 H1 p e1 o1 r1 => EX.go p (st.to e1 o1) fun d2 v2 M2 F2 H2 p2 e2 o2 r2 => p2.go o2 (r1.mono e2) r2 (k.to (e1.trans e2))
/-- a comparison as a value; as a test -/
theorem ex_cmp {op : CmpOp} (h : EX X J a ρ M fun x M1 => EX X J b ρ M1 fun y M2 => OD X (compareOp op) x y M2 P) (hm : behindInMarks op b = false := by rfl) : EX X J (.Compare a [op] [b] pos) ρ M P :=
  ex_of (pe_cmpR op_any pe_any pe_any hm) fun F σ H Q st k => h.go st fun d v M1 F1 H1 p e1 o1 r1 => EX.go p (st.to e1 o1) fun d2 v2 M2 F2 H2 p2 e2 o2 r2 => p2.go o2 (r1.mono e2) r2 (k.to (e1.trans e2))
def PBl (PB : Bool → Mem → Prop) : D → Mem → Prop := fun d M => ∃ c, d = .bl c ∧ PB c M
theorem kt_bl {Q : Bool → Hp → Prop} (k : Kb K F PB Q) : Kt K F (PBl PB) (fun x H' => ∃ k, x = .bl k ∧ Q k H') := fun d v M' F' H' p e o r => by
  obtain ⟨c, rfl, p⟩ := p
  cases r
  exact ⟨c, rfl, k c M' F' H' p e o⟩
theorem tx_cmp {op : CmpOp} (h : EX X J a ρ M fun x M1 => EX X J b ρ M1 fun y M2 => OD X (compareOp op) x y M2 (PBl PB)) (hm : behindInMarks op b = false := by rfl) : TX X J (.Compare a [op] [b] pos) ρ M PB :=
  tx_of (pt_cmpR op_any pe_any pe_any hm) fun F σ H Q st k => h.go st fun d v M1 F1 H1 p e1 o1 r1 => EX.go p (st.to e1 o1) fun d2 v2 M2 F2 H2 p2 e2 o2 r2 => p2.go o2 (r1.mono e2) r2 ((kt_bl k).to (e1.trans e2))
/-- a op b op' c -/
theorem ex_chain {op op' : CmpOp} (h : EX X J a ρ M fun x M1 => EX X J b ρ M1 fun y M2 => OD X (compareOp op) x y M2 (PBl fun t M3 => (t = true → EX X J c ρ M3 fun z M4 => OD X (compareOp op') y z M4 P) ∧ (t = false → P (.bl false) M3)))
    (h1 : lastMarks [op, op'] [b, c] = false := by with_unfolding_all rfl) : EX X J (.Compare a [op, op'] [b, c] pos) ρ M P :=
  ex_of (pe_chain op_any op_any pe_any pe_any pe_any h1) fun F σ H Q st k => h.go st fun d v M1 F1 H1 p e1 o1 r1 => EX.go p (st.to e1 o1) fun d2 v2 M2 F2 H2 p2 e2 o2 r2 => p2.go o2 (r1.mono e2) r2 fun d3 v3 M3 F3 H3 p3 e3 o3 r3 => by
    obtain ⟨t, rfl, p4, p5⟩ := p3
    cases r3
    refine ⟨t, rfl, ?_⟩
    cases t with
    | true => exact iteT ((p4 rfl).go (st.to ((e1.trans e2).trans e3) o3) fun d4 v4 M4 F4 H4 p6 e4 o4 r4 => OD.go p6 o4 ((r2.mono e3).mono e4) r4 (k.to (((e1.trans e2).trans e3).trans e4)))
    | false => exact iteF (k _ _ _ _ _ (p5 rfl) ((e1.trans e2).trans e3) o3 (.bl false))
theorem tx_chain {op op' : CmpOp} (h : EX X J a ρ M fun x M1 => EX X J b ρ M1 fun y M2 => OD X (compareOp op) x y M2 (PBl fun t M3 => (t = true → EX X J c ρ M3 fun z M4 => OD X (compareOp op') y z M4 (PBl PB)) ∧ (t = false → PB false M3)))
    (h1 : lastMarks [op, op'] [b, c] = false := by with_unfolding_all rfl) : TX X J (.Compare a [op, op'] [b, c] pos) ρ M PB :=
  tx_of (pt_chain op_any op_any pe_any pe_any pe_any h1) fun F σ H Q st k => h.go st fun d v M1 F1 H1 p e1 o1 r1 => EX.go p (st.to e1 o1) fun d2 v2 M2 F2 H2 p2 e2 o2 r2 => p2.go o2 (r1.mono e2) r2 fun d3 v3 M3 F3 H3 p3 e3 o3 r3 => by
    obtain ⟨t, rfl, p4, p5⟩ := p3
    cases r3
    refine ⟨t, rfl, ?_⟩
    cases t with
    | true => exact iteT ((p4 rfl).go (st.to ((e1.trans e2).trans e3) o3) fun d4 v4 M4 F4 H4 p6 e4 o4 r4 => OD.go p6 o4 ((r2.mono e3).mono e4) r4 ((kt_bl k).to (((e1.trans e2).trans e3).trans e4)))
    | false => exact iteF ⟨false, rfl, k _ _ _ _ (p5 rfl) ((e1.trans e2).trans e3) o3⟩

/-! ### ints -/
theorem od_int {f : Value → Value → Sem Value} {C : Int → Int → Prop} {g : Int → Int → V} {g' : Int → Int → D} (h : OpR X f (rI C g)) {i j : Int} (hc : C i j) (hr : ∀ F, Rp X.K F (g i j) (g' i j)) (p : P (g' i j) M) : OD X f (.int i) (.int j) M P :=
  ⟨_, h, fun F H v u Q o rx ry k => by
    cases rx; cases ry
    exact ⟨i, j, rfl, rfl, hc, k.here p o (hr F)⟩⟩
theorem od_int0 {f : Value → Value → Sem Value} {g : Int → Int → V} {g' : Int → Int → D} (h : OpR X f (rI0 g)) {i j : Int} (hr : ∀ F, Rp X.K F (g i j) (g' i j)) (p : P (g' i j) M) : OD X f (.int i) (.int j) M P :=
  ⟨_, h, fun F H v u Q o rx ry k => by
    cases rx; cases ry
    exact ⟨i, j, rfl, rfl, k.here p o (hr F)⟩⟩
variable {i j : Int}
theorem od_add (p : P (.int (i + j)) M) : OD X (binaryOp .Add) (.int i) (.int j) M P := od_int0 (g' := fun i j => .int (i + j)) op_add (fun F => .int _) p
theorem od_sub (p : P (.int (i - j)) M) : OD X (binaryOp .Sub) (.int i) (.int j) M P := od_int0 (g' := fun i j => .int (i - j)) op_sub (fun F => .int _) p
theorem od_mul (hc : CMul i j) (p : P (.int (i * j)) M) : OD X (binaryOp .Mult) (.int i) (.int j) M P := od_int (g' := fun i j => .int (i * j)) op_mul hc (fun F => .int _) p
theorem od_fdiv (hc : CDiv i j) (p : P (.int (i / j)) M) : OD X (binaryOp .FloorDiv) (.int i) (.int j) M P := od_int (g' := fun i j => .int (i / j)) op_fdiv hc (fun F => .int _) p
theorem od_mod (hc : 0 < j) (p : P (.int (i % j)) M) : OD X (binaryOp .Mod) (.int i) (.int j) M P := od_int (g' := fun i j => .int (i % j)) op_mod hc (fun F => .int _) p
theorem od_pow (hc : CPow i j) (p : P (.int (i ^ j.toNat)) M) : OD X (binaryOp .Pow) (.int i) (.int j) M P := od_int (g' := fun i j => .int (i ^ j.toNat)) op_pow hc (fun F => .int _) p
theorem od_shl (hc : CPow i j) (p : P (.int (i * 2 ^ j.toNat)) M) : OD X (binaryOp .LShift) (.int i) (.int j) M P := od_int (g' := fun i j => .int (i * 2 ^ j.toNat)) op_shl hc (fun F => .int _) p
theorem od_shr (hc : 0 ≤ j) (p : P (.int (i / 2 ^ j.toNat)) M) : OD X (binaryOp .RShift) (.int i) (.int j) M P := od_int (g' := fun i j => .int (i / 2 ^ j.toNat)) op_shr hc (fun F => .int _) p
theorem od_and (p : P (.int (Builtin.bitAnd i j)) M) : OD X (binaryOp .BitAnd) (.int i) (.int j) M P := od_int0 (g' := fun i j => .int (Builtin.bitAnd i j)) op_and (fun F => .int _) p
theorem od_xor (p : P (.int (Builtin.bitXor i j)) M) : OD X (binaryOp .BitXor) (.int i) (.int j) M P := od_int0 (g' := fun i j => .int (Builtin.bitXor i j)) op_xor (fun F => .int _) p
theorem od_lt (p : P (.bl (decide (i < j))) M) : OD X (compareOp .Lt) (.int i) (.int j) M P := od_int0 (g' := fun i j => .bl (decide (i < j))) op_lt (fun F => .bl _) p
theorem od_le (p : P (.bl (decide (i ≤ j))) M) : OD X (compareOp .LtE) (.int i) (.int j) M P := od_int0 (g' := fun i j => .bl (decide (i ≤ j))) op_le (fun F => .bl _) p
theorem od_gt (p : P (.bl (decide (j < i))) M) : OD X (compareOp .Gt) (.int i) (.int j) M P := od_int0 (g' := fun i j => .bl (decide (j < i))) op_gt (fun F => .bl _) p
theorem od_ge (p : P (.bl (decide (j ≤ i))) M) : OD X (compareOp .GtE) (.int i) (.int j) M P := od_int0 (g' := fun i j => .bl (decide (j ≤ i))) op_ge (fun F => .bl _) p
/-- scalars: == and != -/
def sc : D → D → Bool
  | .non, .non => true
  | .non, .int _ => true
  | .int _, .non => true
  | .non, .bl _ => true
  | .bl _, .non => true
  | .non, .str _ => true
  | .str _, .non => true
  | .int _, .int _ => true
  | .bl _, .bl _ => true
  | .str _, .str _ => true
  | .int _, .str _ => true
  | .str _, .int _ => true
  | .bl _, .str _ => true
  | .str _, .bl _ => true
  | _, _ => false
def sceq : D → D → Bool
  | .non, .non => true
  | .int i, .int j => decide (i = j)
  | .bl i, .bl j => decide (i = j)
  | .str i, .str j => decide (i = j)
  | _, _ => false
theorem sc_ok {x y : D} {v u : V} (h : sc x y = true) (rx : Rp K F v x) (ry : Rp K F u y) : scal v u = true ∧ decide (v = u) = sceq x y := by
  cases rx <;> cases ry <;> first
    | exact absurd h Bool.false_ne_true
    | exact ⟨rfl, by simp [sceq]⟩
theorem od_eq {x y : D} (h : sc x y = true) (p : P (.bl (sceq x y)) M) : OD X (compareOp .Eq) x y M P :=
  ⟨_, op_eq, fun F H v u Q o rx ry k => by
    obtain ⟨h1, h2⟩ := sc_ok h rx ry
    exact ⟨h1, by rw [h2]; exact k.here p o (.bl _)⟩⟩
theorem od_ne {x y : D} (h : sc x y = true) (p : P (.bl (!sceq x y)) M) : OD X (compareOp .NotEq) x y M P :=
  ⟨_, op_ne, fun F H v u Q o rx ry k => by
    obtain ⟨h1, h2⟩ := sc_ok h rx ry
    exact ⟨h1, by rw [h2]; exact k.here p o (.bl _)⟩⟩
theorem od_isN {x : D} {t : Bool} (h : ∀ K F v, Rp K F v x → decide (v = V.non) = t) (p : P (.bl t) M) : OD X (compareOp .Is) x .non M P :=
  ⟨_, op_isN, fun F H v u Q o rx ry k => by
    cases ry
    refine ⟨rfl, ?_⟩
    rw [h _ _ _ rx]
    exact k.here p o (.bl _)⟩
theorem od_notN {x : D} {t : Bool} (h : ∀ K F v, Rp K F v x → decide (v = V.non) = t) (p : P (.bl (!t)) M) : OD X (compareOp .IsNot) x .non M P :=
  ⟨_, op_notN, fun F H v u Q o rx ry k => by
    cases ry
    refine ⟨rfl, ?_⟩
    rw [h _ _ _ rx]
    exact k.here p o (.bl _)⟩
theorem isNon_non : ∀ K F v, Rp K F v .non → decide (v = V.non) = true := fun K F v r => by cases r; rfl
theorem isNon_int {i : Int} : ∀ K F v, Rp K F v (.int i) → decide (v = V.non) = false := fun K F v r => by cases r; rfl
theorem isNon_bl {i : Bool} : ∀ K F v, Rp K F v (.bl i) → decide (v = V.non) = false := fun K F v r => by cases r; rfl
theorem isNon_str {i : Str} : ∀ K F v, Rp K F v (.str i) → decide (v = V.non) = false := fun K F v r => by cases r; rfl
theorem isNon_tup {i : List D} : ∀ K F v, Rp K F v (.tup i) → decide (v = V.non) = false := fun K F v r => by cases r; rfl
theorem isNon_lst {i : List D} : ∀ K F v, Rp K F v (.lst i) → decide (v = V.non) = false := fun K F v r => by cases r; rfl
/-- -x -/
theorem ex_neg (h : EX X J a ρ M fun x M1 => ∃ i, x = .int i ∧ P (.int (-i)) M1) : EX X J (.UnaryOp .USub a pos) ρ M P :=
  ex_of (pe_un un_neg pe_any) fun F σ H Q st k => h.go st fun d v M1 F1 H1 p e1 o1 r1 => by
    obtain ⟨i, rfl, p⟩ := p
    cases r1
    exact ⟨i, rfl, k _ _ _ _ _ p e1 o1 (.int _)⟩

/-! ### truth, and, or, not, if -/
theorem tx_val (h : EX X J e ρ M (PBl PB)) (he : ∀ whole, isTrue e X.env whole = (do let v ← whole; standAt e.pos; holding [v] (truthy v)) := by intro _; rfl) : TX X J e ρ M PB :=
  tx_of (pt_val pe_any he) fun F σ H Q st k => h.go st (kt_bl k)
theorem tx_pw (h : WX X J e ρ M PB) : TX X J e ρ M PB := PW.pt h
theorem wx_and1 (h : TX X J a ρ M PB) : WX X J (.BoolOp .And [a] pos) ρ M PB := pw_and1 h
theorem wx_or1 (h : TX X J a ρ M PB) : WX X J (.BoolOp .Or [a] pos) ρ M PB := pw_or1 h
theorem wx_and {rest : List Expr} (h : TX X J a ρ M fun t M1 => (t = true → WX X J (.BoolOp .And (b :: rest) pos) ρ M1 PB) ∧ (t = false → PB false M1)) : WX X J (.BoolOp .And (a :: b :: rest) pos) ρ M PB :=
  wx_of (pw_and pt_any pw_any) fun F σ H Q st k => h.go st fun t M1 F1 H1 p e1 o1 => by
    cases t with
    | true => exact iteT ((p.1 rfl).go (st.to e1 o1) (k.to e1))
    | false => exact iteF (k _ _ _ _ (p.2 rfl) e1 o1)
theorem wx_or {rest : List Expr} (h : TX X J a ρ M fun t M1 => (t = false → WX X J (.BoolOp .Or (b :: rest) pos) ρ M1 PB) ∧ (t = true → PB true M1)) : WX X J (.BoolOp .Or (a :: b :: rest) pos) ρ M PB :=
  wx_of (pw_or pt_any pw_any) fun F σ H Q st k => h.go st fun t M1 F1 H1 p e1 o1 => by
    cases t with
    | false => exact iteF ((p.1 rfl).go (st.to e1 o1) (k.to e1))
    | true => exact iteT (k _ _ _ _ (p.2 rfl) e1 o1)
theorem tx_not (h : TX X J a ρ M fun t M1 => PB (!t) M1) : TX X J (.UnaryOp .Not a pos) ρ M PB :=
  tx_of (pt_not pt_any) fun F σ H Q st k => h.go st fun t M1 F1 H1 p e1 o1 => k _ _ _ _ p e1 o1
/-- as values, bools -/
theorem ex_one {op} (h : EX X J a ρ M P) : EX X J (.BoolOp op [a] pos) ρ M P := pe_one h
theorem ex_and {rest : List Expr} (h : EX X J a ρ M (PBl fun t M1 => (t = true → EX X J (.BoolOp .And (b :: rest) pos) ρ M1 P) ∧ (t = false → P (.bl false) M1))) : EX X J (.BoolOp .And (a :: b :: rest) pos) ρ M P :=
  ex_of (pe_and pe_any pe_any) fun F σ H Q st k => h.go st fun d v M1 F1 H1 p e1 o1 r1 => by
    obtain ⟨t, rfl, p⟩ := p
    cases r1
    refine ⟨t, rfl, ?_⟩
    cases t with
    | true => exact iteT ((p.1 rfl).go (st.to e1 o1) (k.to e1))
    | false => exact iteF (k _ _ _ _ _ (p.2 rfl) e1 o1 (.bl _))
theorem ex_or {rest : List Expr} (h : EX X J a ρ M (PBl fun t M1 => (t = false → EX X J (.BoolOp .Or (b :: rest) pos) ρ M1 P) ∧ (t = true → P (.bl true) M1))) : EX X J (.BoolOp .Or (a :: b :: rest) pos) ρ M P :=
  ex_of (pe_or pe_any pe_any) fun F σ H Q st k => h.go st fun d v M1 F1 H1 p e1 o1 r1 => by
    obtain ⟨t, rfl, p⟩ := p
    cases r1
    refine ⟨t, rfl, ?_⟩
    cases t with
    | false => exact iteF ((p.1 rfl).go (st.to e1 o1) (k.to e1))
    | true => exact iteT (k _ _ _ _ _ (p.2 rfl) e1 o1 (.bl _))
theorem ex_not (h : EX X J a ρ M (PBl fun t M1 => P (.bl (!t)) M1)) : EX X J (.UnaryOp .Not a pos) ρ M P :=
  ex_of (pe_not pe_any) fun F σ H Q st k => h.go st fun d v M1 F1 H1 p e1 o1 r1 => by
    obtain ⟨t, rfl, p⟩ := p
    cases r1
    exact ⟨t, rfl, k _ _ _ _ _ p e1 o1 (.bl _)⟩
theorem ex_if (h : TX X J c ρ M fun t M1 => (t = true → EX X J a ρ M1 P) ∧ (t = false → EX X J b ρ M1 P)) : EX X J (.IfExp c a b pos) ρ M P :=
  ex_of (pe_ifExp pt_any pe_any pe_any) fun F σ H Q st k => h.go st fun t M1 F1 H1 p e1 o1 => by
    cases t with
    | true => exact iteT ((p.1 rfl).go (st.to e1 o1) (k.to e1))
    | false => exact iteF ((p.2 rfl).go (st.to e1 o1) (k.to e1))

/-! ### lists, tuples, texts -/
inductive Sq (M : Mem) : D → List D → Prop
  | lst {ds : List D} : Sq M (.lst ds) ds
  | tup {ds : List D} : Sq M (.tup ds) ds
  | adr {p : Addr} {ds : List D} : M p = some (.lst ds) → Sq M (.adr p) ds
inductive Sl (M : Mem) : D → List D → Prop
  | lst {ds : List D} : Sl M (.lst ds) ds
  | adr {p : Addr} {ds : List D} : M p = some (.lst ds) → Sl M (.adr p) ds
theorem Sl.get {d : D} {ds : List D} {v : V} (s : Sl M d ds) (o : Ok K F M H) (r : Rp K F v d) : ∃ p xs, v = .ref p ∧ H p = some (.lst xs) ∧ Rps K F xs ds := by
  cases s with
  | lst =>
    cases r with
    | lst h r => exact ⟨_, _, rfl, o.ex _ _ h, r⟩
  | adr h =>
    cases r
    obtain ⟨_, xs, h1, h2⟩ := o.mt _ _ h
    exact ⟨_, xs, rfl, h1, h2⟩
theorem Sq.get {d : D} {ds : List D} {v : V} (s : Sq M d ds) (o : Ok K F M H) (r : Rp K F v d) : ∃ p xs, v = .ref p ∧ (SqL K H p xs ∨ SqT K H p xs) ∧ Rps K F xs ds := by
  cases s with
  | lst =>
    cases r with
    | lst h r => exact ⟨_, _, rfl, .inl (SqL.of (o.ex _ _ h)), r⟩
  | tup =>
    cases r with
    | tup h r => exact ⟨_, _, rfl, .inr (same_t o.ex h), r⟩
  | adr h =>
    cases r
    obtain ⟨_, xs, h1, h2⟩ := o.mt _ _ h
    exact ⟨_, xs, rfl, .inl (SqL.of h1), h2⟩
theorem Sl.sq {d : D} {ds : List D} (s : Sl M d ds) : Sq M d ds := by
  cases s with
  | lst => exact .lst
  | adr h => exact .adr h
/-- a new tuple, a new list that is not to change -/
theorem ex_tup {x1} (h : AX X J es ρ M fun ds M1 => ds.length ≤ 1000000 ∧ P (.tup ds) M1) : EX X J (.Tuple es x1 pos) ρ M P :=
  ex_of (pe_tup pa_any) fun F σ H Q st k => h.go st fun ds vs M1 F1 H1 p e1 o1 r1 => ⟨by rw [r1.length, sizeLine_eq]; omega, fun q hq =>
    k _ _ _ _ _ p.2 (e1.trans (o1.fixSame hq)) (o1.fix hq) (.tup (SqT.of upd_same) (r1.mono (o1.fixSame hq)))⟩
theorem ex_lst (h : AX X J es ρ M fun ds M1 => ds.length ≤ 1000000 ∧ P (.lst ds) M1) : EX X J (.List es pos) ρ M P :=
  ex_of (pe_lst pa_any) fun F σ H Q st k => h.go st fun ds vs M1 F1 H1 p e1 o1 r1 => ⟨by rw [r1.length, sizeLine_eq]; omega, fun q hq =>
    k _ _ _ _ _ p.2 (e1.trans (o1.fixSame hq)) (o1.fix hq) (.lst upd_same (r1.mono (o1.fixSame hq)))⟩
/-- a new list that may change -/
theorem ex_lstM (h : AX X J es ρ M fun ds M1 => ds.length ≤ 1000000 ∧ ∀ p, M1 p = none → P (.adr p) (up M1 p (.lst ds))) : EX X J (.List es pos) ρ M P :=
  ex_of (pe_lst pa_any) fun F σ H Q st k => h.go st fun ds vs M1 F1 H1 p e1 o1 r1 => ⟨by rw [r1.length, sizeLine_eq]; omega, fun q hq =>
    k _ _ _ _ _ (p.2 q (o1.nn hq).2) e1 (o1.lay hq ⟨vs, upd_same, r1⟩) (.adr q)⟩
/-- x[i] -/
def rAnyI (X : Cx) : R2 := fun v u H Q => ∃ r, IxR X r ∧ r v u H Q
theorem ix_any : IxR X (rAnyI X) := fun value slice pins s σ H x y v u Q I rx ry ⟨r, h, q⟩ hs => h value slice pins s σ H x y v u Q I rx ry q hs
def ID (X : Cx) (x y : D) (M : Mem) (P : D → Mem → Prop) : Prop :=
  ∃ r, IxR X r ∧ ∀ F H v u Q, Ok X.K F M H → Rp X.K F v x → Rp X.K F u y → Kt X.K F P Q → r v u H Q
theorem ex_ix (h : EX X J a ρ M fun x M1 => EX X J b ρ M1 fun y M2 => ID X x y M2 P) (hs : PlainIx b := by intro _ _; rfl) : EX X J (.Subscript a b pos) ρ M P :=
  ex_of (pe_ix ix_any pe_any pe_any hs) fun F σ H Q st k => h.go st fun d v M1 F1 H1 p e1 o1 r1 => EX.go p (st.to e1 o1) fun d2 v2 M2 F2 H2 p2 e2 o2 r2 => by
    obtain ⟨r, h1, h2⟩ := p2
    exact ⟨r, h1, h2 F2 H2 v v2 Q o2 (r1.mono e2) r2 (k.to (e1.trans e2))⟩
theorem atI_of {ds : List D} {xs : List V} {i : Int} {d : D} (r : Rps K F xs ds) (h : atI ds i = some d) : ∃ v, atI xs i = some v ∧ Rp K F v d := by
  unfold atI at h ⊢
  rw [r.length]
  cases e : ixN ds.length i with
  | none => rw [e] at h; cases h
  | some j =>
    rw [e] at h
    obtain ⟨v, h1, h2⟩ := r.get (show ds[j]? = some d from h)
    exact ⟨v, h1, h2⟩
theorem id_seq {x d : D} {ds : List D} (s : Sq M x ds) (h : atI ds i = some d) (p : P d M) : ID X x (.int i) M P :=
  ⟨_, ix_list.or ix_tup, fun F H v u Q o rx ry k => by
    cases ry
    obtain ⟨q, xs, rfl, hs, r⟩ := s.get o rx
    obtain ⟨w, h1, h2⟩ := atI_of r h
    rcases hs with hs | hs
    · exact .inl ⟨q, xs, i, w, rfl, rfl, hs, h1, k.here p o h2⟩
    · exact .inr ⟨q, xs, i, w, rfl, rfl, hs, h1, k.here p o h2⟩⟩
theorem id_str {z : Str} {n : Nat} (hz : z.length ≤ 1000000) (h : atI z.cps.toList i = some n) (p : P (.str ⟨#[n]⟩) M) : ID X (.str z) (.int i) M P :=
  ⟨_, ix_str, fun F H v u Q o rx ry k => by
    cases rx; cases ry
    exact ⟨z, i, n, rfl, rfl, by rw [sizeLine_eq]; omega, h, k.here p o (.str _)⟩⟩
/-- x + y of texts, lists, tuples; x * n -/
theorem od_addS {x y : Str} (hz : x.length + y.length ≤ 1000000) (p : P (.str (x ++ y)) M) : OD X (binaryOp .Add) (.str x) (.str y) M P :=
  ⟨_, op_add_str, fun F H v u Q o rx ry k => by
    cases rx; cases ry
    exact ⟨x, y, rfl, rfl, by rw [sizeLine_eq]; omega, k.here p o (.str _)⟩⟩
theorem od_addL {x y : D} {ds es : List D} (sx : Sl M x ds) (sy : Sl M y es) (hz : ds.length + es.length ≤ 1000000) (p : P (.lst (ds ++ es)) M) : OD X (binaryOp .Add) x y M P :=
  ⟨_, op_cat, fun F H v u Q o rx ry k => by
    obtain ⟨a, xs, rfl, h1, r1⟩ := sx.get o rx
    obtain ⟨b, ys, rfl, h2, r2⟩ := sy.get o ry
    exact ⟨a, b, xs, ys, rfl, rfl, h1, h2, by rw [r1.length, r2.length, sizeLine_eq]; omega, fun q hq => k _ _ _ _ _ p (o.fixSame hq) (o.fix hq) (.lst upd_same ((r1.append r2).mono (o.fixSame hq)))⟩⟩
theorem od_addT {ds es : List D} (hz : ds.length + es.length ≤ 1000000) (p : P (.tup (ds ++ es)) M) : OD X (binaryOp .Add) (.tup ds) (.tup es) M P :=
  ⟨_, op_catA, fun F H v u Q o rx ry k => by
    cases rx with
    | @tup a xs _ h1 r1 =>
    cases ry with
    | @tup b ys _ h2 r2 =>
      have g1 := same_t o.ex h1
      have g2 := same_t o.ex h2
      refine ⟨a, b, xs, ys, rfl, rfl, g1, g2, by rw [r1.length, r2.length, sizeLine_eq]; omega, fun e => ?_, fun _ e => ?_, fun _ _ q hq => ?_⟩
      · subst e
        have : ds = [] := by cases r1; rfl
        subst this
        exact k.here p o (.tup h2 (by simpa using r2))
      · subst e
        have : es = [] := by cases r2; rfl
        subst this
        exact k.here p o (.tup h1 (by simpa using r1))
      · exact k _ _ _ _ _ p (o.fixSame hq) (o.fix hq) (.tup (SqT.of upd_same) ((r1.append r2).mono (o.fixSame hq)))⟩
theorem od_mulL {x : D} {ds : List D} {n : Int} (sx : Sl M x ds) (h0 : -(2 ^ 62) ≤ n ∧ n < 2 ^ 62) (hz : ds.length * n.toNat ≤ 1000000) (p : P (.lst (List.replicate n.toNat ds).flatten) M) : OD X (binaryOp .Mult) x (.int n) M P :=
  ⟨_, op_rep, fun F H v u Q o rx ry k => by
    cases ry
    obtain ⟨a, xs, rfl, h1, r1⟩ := sx.get o rx
    exact ⟨a, n, xs, rfl, rfl, h1, by omega, by omega, by rw [r1.length, sizeLine_eq]; omega, fun q hq => k _ _ _ _ _ p (o.fixSame hq) (o.fix hq) (.lst upd_same ((r1.rep _).mono (o.fixSame hq)))⟩⟩
/-- slices of lists, tuples, texts -/
def tOe (X : Cx) (e : Option Expr) : TO := fun σ H Q => ∃ t, PO X e t ∧ t σ H Q
theorem po_any {eo : Option Expr} : PO X eo (tOe X eo) := ⟨fun pins s σ H Q I ⟨t, h, q⟩ => h.run pins s σ H Q I q⟩
def Ko (K : PySem.W.Frag) (F : Hp) (P : Option Int → Mem → Prop) (Q : Option Int → Hp → Prop) : Prop := ∀ b M' F' H', P b M' → Same F F' → Ok K F' M' H' → Q b H'
def OX (X : Cx) (J : Gh) (eo : Option Expr) (ρ : DEnv) (M : Mem) (P : Option Int → Mem → Prop) : Prop := ∀ F σ H Q, Sts X.K J F σ H ρ M → Ko X.K F P Q → tOe X eo σ H Q
theorem ox_none {PO' : Option Int → Mem → Prop} (p : PO' none M) : OX X J none ρ M PO' := fun F σ H Q st k => ⟨_, po_none, k _ _ _ _ p (Same.refl F) st.ok⟩
theorem ox_some {PO' : Option Int → Mem → Prop} (h : EX X J e ρ M fun x M1 => ∃ i, x = .int i ∧ PO' (some i) M1) : OX X J (some e) ρ M PO' := fun F σ H Q st k => ⟨_, po_some pe_any, h.go st fun d v M1 F1 H1 p e1 o1 r1 => by
  obtain ⟨i, rfl, p⟩ := p
  cases r1
  exact ⟨i, rfl, k _ _ _ _ p e1 o1⟩⟩
def rAnyS (X : Cx) : V → Option Int → Option Int → Hp → VK → Prop := fun v l h H Q => ∃ r, SlR X r ∧ r v l h H Q
theorem sl_any : SlR X (rAnyS X) := fun pins s σ H x v vl vu lo hi sl Q I rx hs pl pu ⟨r, h1, h2⟩ => h1 pins s σ H x v vl vu lo hi sl Q I rx hs pl pu h2
def SD (X : Cx) (x : D) (l h : Option Int) (M : Mem) (P : D → Mem → Prop) : Prop :=
  ∃ r, SlR X r ∧ ∀ F H v Q, Ok X.K F M H → Rp X.K F v x → Kt X.K F P Q → r v l h H Q
theorem ex_slice {lo hi : Option Expr} {p2 : Pos} (h : EX X J e ρ M fun x M1 => OX X J lo ρ M1 fun l M2 => OX X J hi ρ M2 fun u M3 => SD X x l u M3 P) : EX X J (.Subscript e (.Slice lo hi none p2) pos) ρ M P :=
  ex_of (pe_slice sl_any pe_any po_any po_any) fun F σ H Q st k => h.go st fun d v M1 F1 H1 p e1 o1 r1 => p F1 σ H1 _ (st.to e1 o1) fun l M2 F2 H2 p2 e2 o2 => p2 F2 σ H2 _ (st.to (e1.trans e2) o2) fun u M3 F3 H3 p3 e3 o3 => by
    obtain ⟨r, h1, h2⟩ := p3
    exact ⟨r, h1, h2 F3 H3 v Q o3 ((r1.mono e2).mono e3) (k.to ((e1.trans e2).trans e3))⟩
def cutD (ds : List D) (lo hi : Option Int) : List D := (ds.drop (HT.sIx ds.length 0 lo)).take (HT.sIx ds.length ds.length hi - HT.sIx ds.length 0 lo)
theorem cut_of {ds : List D} {xs : List V} (r : Rps K F xs ds) (lo hi : Option Int) : Rps K F (cutV xs lo hi) (cutD ds lo hi) := by
  unfold cutV cutD
  rw [r.length]
  exact (r.drop _).take _
theorem sd_list {x : D} {ds : List D} {l u : Option Int} (s : Sl M x ds) (p : P (.lst (cutD ds l u)) M) : SD X x l u M P :=
  ⟨_, sl_list, fun F H v Q o rx k => by
    obtain ⟨a, xs, rfl, h1, r1⟩ := s.get o rx
    exact ⟨a, xs, rfl, SqL.of h1, fun q hq => k _ _ _ _ _ p (o.fixSame hq) (o.fix hq) (.lst upd_same ((cut_of r1 l u).mono (o.fixSame hq)))⟩⟩
end
end DX
namespace DX
open PySem PySem.Spec L2

/-! ### statements -/
structure Bd where
  nx : DEnv → Mem → Prop
  rt : D → Mem → Prop
  bk : DEnv → Mem → Prop := fun _ _ => False
  ct : DEnv → Mem → Prop := fun _ _ => False
structure Kd (K : PySem.W.Frag) (F : Hp) (B : Bd) (E : Ends) : Prop where
  nx : ∀ F' σ' H' ρ' M', B.nx ρ' M' → Same F F' → En K F' σ' ρ' → Ok K F' M' H' → E.nx σ' H'
  rt : Kt K F B.rt E.rt
  bk : ∀ F' σ' H' ρ' M', B.bk ρ' M' → Same F F' → En K F' σ' ρ' → Ok K F' M' H' → E.bk σ' H'
  ct : ∀ F' σ' H' ρ' M', B.ct ρ' M' → Same F F' → En K F' σ' ρ' → Ok K F' M' H' → E.ct σ' H'
def tSd (K : PySem.W.Frag) (J : Gh) (ρ : DEnv) (M : Mem) (B : Bd) : TS := fun E σ H => ∃ F, Sts K J F σ H ρ M ∧ Kd K F B E
def GX (X : Cx) (J : Gh) (st : List Stmt) (ρ : DEnv) (M : Mem) (B : Bd) : Prop := PSs X st (tSd X.K J ρ M B)
def G1 (X : Cx) (J : Gh) (st : Stmt) (ρ : DEnv) (M : Mem) (B : Bd) : Prop := PS X st (tSd X.K J ρ M B)
def tSe (X : Cx) (st : List Stmt) : TS := fun E σ H => ∃ t, PSs X st t ∧ t E σ H
def tS1 (X : Cx) (st : Stmt) : TS := fun E σ H => ∃ t, PS X st t ∧ t E σ H
section
variable {X : Cx} {J : Gh} {e a b c : Expr} {es : List Expr} {st : Stmt} {rest sts : List Stmt} {ρ ρ' : DEnv} {M M' : Mem} {F F' H H' : Hp} {σ : St} {B : Bd} {K : PySem.W.Frag} {pos p : Pos} {x : Str} {E : Ends}
theorem pss_any : PSs X sts (tSe X sts) := ⟨fun pins s σ H D I ⟨t, h, q⟩ => h.run pins s σ H D I q⟩
theorem ps_any : PS X st (tS1 X st) := ⟨fun pins s σ H D I ⟨t, h, q⟩ => h.run pins s σ H D I q⟩
theorem Kd.to (k : Kd K F B E) (e : Same F F') : Kd K F' B E :=
  ⟨fun F2 σ' H' ρ' M' p e2 => k.nx F2 σ' H' ρ' M' p (e.trans e2), k.rt.to e, fun F2 σ' H' ρ' M' p e2 => k.bk F2 σ' H' ρ' M' p (e.trans e2), fun F2 σ' H' ρ' M' p e2 => k.ct F2 σ' H' ρ' M' p (e.trans e2)⟩
theorem GX.go (h : GX X J sts ρ M B) (s : Sts X.K J F σ H ρ M) (k : Kd X.K F B E) : tSe X sts E σ H := ⟨_, h, F, s, k⟩
theorem G1.go (h : G1 X J st ρ M B) (s : Sts X.K J F σ H ρ M) (k : Kd X.K F B E) : tS1 X st E σ H := ⟨_, h, F, s, k⟩
theorem gx_of {t : TS} (h : PSs X sts t) (k : ∀ F σ H E, Sts X.K J F σ H ρ M → Kd X.K F B E → t E σ H) : GX X J sts ρ M B := ⟨fun pins s σ H D I ⟨F, st, q⟩ => h.run pins s σ H D I (k F σ H D st q)⟩
theorem g1_of {t : TS} (h : PS X st t) (k : ∀ F σ H E, Sts X.K J F σ H ρ M → Kd X.K F B E → t E σ H) : G1 X J st ρ M B := ⟨fun pins s σ H D I ⟨F, st, q⟩ => h.run pins s σ H D I (k F σ H D st q)⟩
/-- the ends with another way on -/
def Bd.thn (B : Bd) (nx : DEnv → Mem → Prop) : Bd := { B with nx := nx }
theorem gx_nil (h : B.nx ρ M) : GX X J [] ρ M B := gx_of pss_nil fun F σ H E st k => k.nx F σ H ρ M h (Same.refl F) st.en st.ok
/-- a statement, then the rest -/
theorem gx_cons (h : G1 X J st ρ M (B.thn fun ρ' M' => GX X J rest ρ' M' B)) (hJ : ∀ F, J.p F → ∀ F', Same F F' → J.p F') : GX X J (st :: rest) ρ M B :=
  gx_of (pss_cons ps_any pss_any) fun F σ H E s k => h.go s
    ⟨fun F' σ' H' ρ' M' q e en o => GX.go q ⟨en, o, J.mono _ _ e s.gh⟩ (k.to e), k.rt, k.bk, k.ct⟩
theorem gx_seq (h : G1 X J st ρ M (B.thn fun ρ' M' => GX X J rest ρ' M' B)) : GX X J (st :: rest) ρ M B := gx_cons h fun F q F' e => J.mono F F' e q
theorem GX.imp {B' : Bd} (h : GX X J sts ρ M B) (h1 : ∀ ρ' M', B.nx ρ' M' → B'.nx ρ' M') (h2 : ∀ d M', B.rt d M' → B'.rt d M') (h3 : ∀ ρ' M', B.bk ρ' M' → B'.bk ρ' M') (h4 : ∀ ρ' M', B.ct ρ' M' → B'.ct ρ' M') : GX X J sts ρ M B' :=
  gx_of h fun F σ H E st k => ⟨F, st, fun F' σ' H' ρ' M' q => k.nx F' σ' H' ρ' M' (h1 _ _ q), fun d v M' F' H' q => k.rt d v M' F' H' (h2 _ _ q), fun F' σ' H' ρ' M' q => k.bk F' σ' H' ρ' M' (h3 _ _ q), fun F' σ' H' ρ' M' q => k.ct F' σ' H' ρ' M' (h4 _ _ q)⟩
/-- a word between: what follows is shown once, from Mid -/
theorem gx_mid (Mid : DEnv → Mem → Prop) (h : GX X J sts ρ M (B.thn Mid)) (k : ∀ ρ' M', Mid ρ' M' → B.nx ρ' M') : GX X J sts ρ M B := h.imp k (fun _ _ q => q) (fun _ _ q => q) (fun _ _ q => q)

/-! ### targets -/
/-- at d, into the names ρ: then P of the names -/
def AsD (X : Cx) (target : Expr) (d : D) (ρ : DEnv) (P : DEnv → Prop) : Prop :=
  ∃ g, PG X target g ∧ ∀ F M v σ H Q, Ok X.K F M H → Rp X.K F v d → En X.K F σ ρ → (∀ σ' ρ', P ρ' → En X.K F σ' ρ' → Q σ' H) → g v σ H Q
def AsDs (X : Cx) (ts : List Expr) (ds : List D) (ρ : DEnv) (P : DEnv → Prop) : Prop :=
  ∃ g, PGs X ts g ∧ ∀ F M vs σ H Q, Ok X.K F M H → Rps X.K F vs ds → En X.K F σ ρ → (∀ σ' ρ', P ρ' → En X.K F σ' ρ' → Q σ' H) → g vs σ H Q
def gE (X : Cx) (target : Expr) : TG := fun v σ H Q => ∃ g, PG X target g ∧ g v σ H Q
theorem pg_any {target : Expr} : PG X target (gE X target) := ⟨fun pins s σ H v u Q I r ⟨g, h, q⟩ => h.run pins s σ H v u Q I r q⟩
theorem as_name {d : D} {P : DEnv → Prop} (i : Nat) (h : P (put ρ i d)) (hN : X.N.Nodup := by rfl) (hi : X.N[i]? = some x := by rfl) (hx : Loc X.env.scope x := by first | exact Or.inl rfl | exact Or.inr rfl) (hf : X.fn x = true ∨ X.env.scope.names.lookup x = some .local := by first | exact .inl rfl | exact .inr rfl) : AsD X (.Name x pos) d ρ P :=
  ⟨_, pg_name hN hi hx hf, fun F M v σ H Q o r en k => k _ _ h (en.put i r)⟩
theorem as_tup {ds : List D} {k : Nat} {P : DEnv → Prop} (hc : X.calm = true) (hl : (assignEach es X.env).length = ds.length) (h : AsDs X es ds ρ P) (hst : (assignEach es X.env).findIdx? (·.1) = none := by rfl) : AsD X (.Tuple es k pos) (.tup ds) ρ P := by
  obtain ⟨g, hg, h⟩ := h
  refine ⟨_, pg_tup hc hg hl hst, fun F M v σ H Q o r en k => ?_⟩
  cases r with
  | tup h1 r1 => exact ⟨_, _, rfl, same_t o.ex h1, r1.length, h F M _ σ H Q o r1 en k⟩
theorem asd_go {target : Expr} {d : D} {P : DEnv → Prop} (h : AsD X target d ρ P) {v : V} {Q : St → Hp → Prop} (o : Ok X.K F M H) (r : Rp X.K F v d) (en : En X.K F σ ρ) (k : ∀ σ' ρ', P ρ' → En X.K F σ' ρ' → Q σ' H) : gE X target v σ H Q := by
  obtain ⟨g, hg, h⟩ := h
  exact ⟨g, hg, h F M v σ H Q o r en k⟩
theorem asd_nil {P : DEnv → Prop} (h : P ρ) : AsDs X [] [] ρ P := ⟨_, pgs_nil, fun F M vs σ H Q o r en k => by cases r; exact ⟨rfl, k _ _ h en⟩⟩
theorem asd_cons {t : Expr} {ts : List Expr} {d : D} {ds : List D} {P : DEnv → Prop} (h : AsD X t d ρ fun ρ' => AsDs X ts ds ρ' P)
    (hs : (assignEach (t :: ts) X.env).map (·.2) = assign t X.env :: (assignEach ts X.env).map (·.2) := by rfl) : AsDs X (t :: ts) (d :: ds) ρ P :=
  ⟨_, pgs_cons pg_any (⟨fun pins s σ H vs us Q I r ⟨g, h, q⟩ => h.run pins s σ H vs us Q I r q⟩ : PGs X ts (fun vs σ H Q => ∃ g, PGs X ts g ∧ g vs σ H Q)) hs, fun F M vs σ H Q o r en k => by
    cases r with
    | cons h1 r1 => exact ⟨_, _, rfl, asd_go h o h1 en fun σ' ρ' q en' => by
        obtain ⟨g, hg, q⟩ := q
        exact ⟨g, hg, q F M _ σ' H Q o r1 en' k⟩⟩⟩

/-! ### the small statements -/
theorem g1_asg {tg : Expr} (h : EX X J e ρ M fun d M1 => AsD X tg d ρ fun ρ' => B.nx ρ' M1) (hs : swapsWithSole [tg] e pos.line X.env = pure false := by rfl) (hw : swappedStores [tg] e X.env = pure none := by rfl)
    (h1 : (assignEach [tg] X.env).map (·.2) = [assign tg X.env] := by rfl) : G1 X J (.Assign [tg] e pos) ρ M B :=
  g1_of (ps_asg pe_any pg_any hs hw h1) fun F σ H E s k => h.go s fun d v M1 F1 H1 p e1 o1 r1 => asd_go p o1 r1 (s.en.mono e1) fun σ' ρ' q en => k.nx F1 σ' H1 ρ' M1 q e1 en o1
/-- a, b = x, y -/
theorem g1_par {x y : Str} {px py pt : Pos} {kt k2 pt2} (i j : Nat) (hc : X.calm = true) (hij : i ≠ j) (h : AX X J [a, b] ρ M fun ds M1 => ∃ d1 d2, ds = [d1, d2] ∧ B.nx (put (put ρ i d1) j d2) M1)
    (hN : X.N.Nodup := by rfl) (hi : X.N[i]? = some x := by rfl) (hj : X.N[j]? = some y := by rfl) (hx : X.env.scope.names.lookup x = some .local := by rfl) (hy : X.env.scope.names.lookup y = some .local := by rfl)
    (hw : swappedStores [.Tuple [.Name x px, .Name y py] kt pt] (.Tuple [a, b] k2 pt2) X.env = pure (some [x, y]) := by rfl)
    (hs : swapsWithSole [.Tuple [.Name x px, .Name y py] kt pt] (.Tuple [a, b] k2 pt2) pos.line X.env = pure false := by rfl) :
    G1 X J (.Assign [.Tuple [.Name x px, .Name y py] kt pt] (.Tuple [a, b] k2 pt2) pos) ρ M B :=
  g1_of (ps_par hc hN hi hj hij hx hy pa_any hw hs) fun F σ H E s k => h.go s fun ds vs M1 F1 H1 p e1 o1 r1 => by
    obtain ⟨d1, d2, rfl, p⟩ := p
    cases r1 with
    | cons h1 r1 =>
      cases r1 with
      | cons h2 r1 =>
        cases r1
        exact ⟨_, _, rfl, k.nx F1 _ H1 _ M1 p e1 (((s.en.mono e1).put i h1).put j h2) o1⟩
/-- x += e and its like, ints -/
theorem g1_aug {x : Str} {op : Operator} {f : Int → Int → Int} (ho : PIp X op (ipI f)) (i : Nat) (h : ∃ u, look ρ i = some (.int u) ∧ EX X J e ρ M fun d M1 => ∃ v, d = .int v ∧ B.nx (put ρ i (.int (f u v))) M1)
    (hN : X.N.Nodup := by rfl) (hi : X.N[i]? = some x := by rfl) (hx : Loc X.env.scope x := by first | exact Or.inl rfl | exact Or.inr rfl) (hf : X.fn x = true ∨ X.env.scope.names.lookup x = some .local := by first | exact .inl rfl | exact .inr rfl) :
    G1 X J (.AugAssign (.Name x p) op e pos) ρ M B := by
  obtain ⟨u, hu, h⟩ := h
  exact g1_of (ps_aug hN hi hx pe_any ho hf) fun F σ H E s k => by
    obtain ⟨v0, h1, h2⟩ := s.en.look hu
    cases h2
    refine ⟨_, h1, h.go s fun d v M1 F1 H1 q e1 o1 r1 => ?_⟩
    obtain ⟨w, rfl, q⟩ := q
    cases r1
    exact ⟨u, w, rfl, rfl, k.nx F1 _ H1 _ M1 q e1 ((s.en.mono e1).put i (.int _)) o1⟩
theorem g1_ret (h : EX X J e ρ M B.rt) : G1 X J (.Return (some e) pos) ρ M B := g1_of (ps_ret pe_any) fun F σ H E s k => h.go s k.rt
theorem g1_retN (h : B.rt .non M) : G1 X J (.Return none pos) ρ M B := g1_of ps_retN fun F σ H E s k => k.rt.here h s.ok .non
theorem g1_expr (h : EX X J e ρ M fun _ M1 => B.nx ρ M1) (hs : swapsWith e none pos.line X.env = pure false := by rfl) : G1 X J (.Expr e pos) ρ M B :=
  g1_of (ps_expr pe_any hs) fun F σ H E s k => h.go s fun d v M1 F1 H1 p e1 o1 r1 => k.nx F1 σ H1 ρ M1 p e1 (s.en.mono e1) o1
theorem g1_pass (h : B.nx ρ M) : G1 X J (.Pass pos) ρ M B := g1_of ps_pass fun F σ H E s k => k.nx F σ H ρ M h (Same.refl F) s.en s.ok
theorem g1_break (h : B.bk ρ M) : G1 X J (.Break pos) ρ M B := g1_of ps_break fun F σ H E s k => k.bk F σ H ρ M h (Same.refl F) s.en s.ok
theorem g1_cont (h : B.ct ρ M) : G1 X J (.Continue pos) ρ M B := g1_of ps_continue fun F σ H E s k => k.ct F σ H ρ M h (Same.refl F) s.en s.ok
theorem g1_if {s1 s2 : List Stmt} (h : TX X J c ρ M fun t M1 => (t = true → GX X J s1 ρ M1 B) ∧ (t = false → GX X J s2 ρ M1 B)) : G1 X J (.If c s1 s2 pos) ρ M B :=
  g1_of (ps_if pt_any pss_any pss_any) fun F σ H E s k => h.go s fun t M1 F1 H1 p e1 o1 => by
    cases t with
    | true => exact iteT ((p.1 rfl).go (s.to e1 o1) (k.to e1))
    | false => exact iteF ((p.2 rfl).go (s.to e1 o1) (k.to e1))

/-! ### loops -/
structure Wk (K : PySem.W.Frag) (F : Hp) (I : It) (ds : List D) : Prop where
  goes : ∀ i H, i < ds.length → Same F H → I.go i H
  stops : ∀ H, Same F H → I.stop ds.length H
  yields : ∀ i d H x H' F1 M, ds[i]? = some d → Same F F1 → Ok K F1 M H → I.yld i H x H' → ∃ F2, Same F1 F2 ∧ Ok K F2 M H' ∧ Rp K F2 x d
theorem Wk.mono {I : It} {ds : List D} (w : Wk K F I ds) (e : Same F F') : Wk K F' I ds :=
  ⟨fun i H hi s => w.goes i H hi (e.trans s), fun H s => w.stops H (e.trans s), fun i d H x H' F1 M hd s => w.yields i d H x H' F1 M hd (e.trans s)⟩
def Ki (K : PySem.W.Frag) (F : Hp) (P : List D → Mem → Prop) (R : It → Hp → Prop) : Prop := ∀ ds I M' F' H', P ds M' → Same F F' → Ok K F' M' H' → Wk K F' I ds → R I H'
/-- what a loop walks -/
def IX (X : Cx) (J : Gh) (tg iter : Expr) (ρ : DEnv) (M : Mem) (P : List D → Mem → Prop) : Prop := PI X tg iter fun σ H R => ∃ F, Sts X.K J F σ H ρ M ∧ Ki X.K F P R
def tIe (X : Cx) (tg iter : Expr) : TI := fun σ H R => ∃ t, PI X tg iter t ∧ t σ H R
theorem pi_any {tg iter : Expr} : PI X tg iter (tIe X tg iter) := ⟨fun pins s σ H R I ⟨t, h, q⟩ => h.run pins s σ H R I q⟩
theorem IX.go {tg iter : Expr} {P : List D → Mem → Prop} (h : IX X J tg iter ρ M P) (s : Sts X.K J F σ H ρ M) {R : It → Hp → Prop} (k : Ki X.K F P R) : tIe X tg iter σ H R := ⟨_, h, F, s, k⟩
theorem ix_of {tg iter : Expr} {t : TI} {P : List D → Mem → Prop} (h : PI X tg iter t) (k : ∀ F σ H R, Sts X.K J F σ H ρ M → Ki X.K F P R → t σ H R) : IX X J tg iter ρ M P := ⟨fun pins s σ H R I ⟨F, st, q⟩ => h.run pins s σ H R I (k F σ H R st q)⟩
theorem wk_list {q : Addr} {xs : List V} {ds : List D} (h : F q = some (.lst xs)) (r : Rps K F xs ds) : Wk K F (Itl K q) ds :=
  ⟨fun i H hi s => ⟨xs, xs[i]'(by rw [r.length]; exact hi), SqL.of (s _ _ h), by simp⟩, fun H s => ⟨xs, SqL.of (s _ _ h), by rw [r.length]; exact Nat.le_refl _⟩,
    fun i d H x H' F1 M hd s o y => by
      obtain ⟨rfl, y⟩ := y
      obtain ⟨v, h1, h2⟩ := r.get hd
      have e1 := y xs (SqL.of (o.ex _ _ (s _ _ h)))
      rw [h1] at e1; cases e1
      exact ⟨F1, Same.refl _, o, h2.mono s⟩⟩
theorem wk_tup {q : Addr} {xs : List V} {ds : List D} (h : SqT K F q xs) (r : Rps K F xs ds) : Wk K F (Itt K q) ds :=
  ⟨fun i H hi s => ⟨xs, xs[i]'(by rw [r.length]; exact hi), same_t s h, by simp⟩, fun H s => ⟨xs, same_t s h, by rw [r.length]; exact Nat.le_refl _⟩,
    fun i d H x H' F1 M hd s o y => by
      obtain ⟨rfl, y⟩ := y
      obtain ⟨v, h1, h2⟩ := r.get hd
      have e1 := y xs (same_t o.ex (same_t s h))
      rw [h1] at e1; cases e1
      exact ⟨F1, Same.refl _, o, h2.mono s⟩⟩
theorem ix_lst {tg : Expr} {P : List D → Mem → Prop} (h : EX X J e ρ M fun d M1 => ∃ ds, d = .lst ds ∧ P ds M1) : IX X J tg e ρ M P :=
  ix_of (pi_list pe_any) fun F σ H R s k => h.go s fun d v M1 F1 H1 p e1 o1 r1 => by
    obtain ⟨ds, rfl, p⟩ := p
    cases r1 with
    | lst h1 r1 => exact ⟨_, rfl, ⟨_, SqL.of (o1.ex _ _ h1)⟩, k ds _ M1 F1 H1 p e1 o1 (wk_list h1 r1)⟩
theorem ix_tup {tg : Expr} {P : List D → Mem → Prop} (h : EX X J e ρ M fun d M1 => ∃ ds, d = .tup ds ∧ P ds M1) : IX X J tg e ρ M P :=
  ix_of (pi_tup pe_any) fun F σ H R s k => h.go s fun d v M1 F1 H1 p e1 o1 r1 => by
    obtain ⟨ds, rfl, p⟩ := p
    cases r1 with
    | tup h1 r1 => exact ⟨_, rfl, ⟨_, same_t o1.ex h1⟩, k ds _ M1 F1 H1 p e1 o1 (wk_tup h1 r1)⟩
def rngD (lo : Int) (n : Nat) : List D := (List.range n).map fun (i : Nat) => D.int (lo + (i : Int))
theorem rngD_len {lo : Int} {n : Nat} : (rngD lo n).length = n := by unfold rngD; simp
theorem rngD_at {lo : Int} {n i : Nat} {d : D} (h : (rngD lo n)[i]? = some d) : i < n ∧ d = .int (lo + (i : Int)) := by
  unfold rngD at h
  rw [List.getElem?_map] at h
  by_cases hi : i < n
  · rw [List.getElem?_range hi] at h
    cases h
    exact ⟨hi, rfl⟩
  · rw [List.getElem?_eq_none (by simp; omega)] at h
    cases h
theorem wk_rng {lo : Int} {n : Nat} : Wk K F (Itr lo n) (rngD lo n) :=
  ⟨fun i H hi s => by rw [rngD_len] at hi; exact hi, fun H s => by rw [rngD_len]; exact Nat.le_refl _, fun i d H x H' F1 M hd s o y => by
    obtain ⟨rfl, rfl⟩ := y
    obtain ⟨_, rfl⟩ := rngD_at hd
    exact ⟨F1, Same.refl _, o, .int _⟩⟩
theorem ix_range1 {tg : Expr} {P : List D → Mem → Prop} (hm : X.mg "range" = none) (h : AX X J [a] ρ M fun ds M1 => ∃ j, ds = [.int j] ∧ (-(2 ^ 62) ≤ j ∧ j < 2 ^ 62) ∧ P (rngD 0 j.toNat) M1) (hg : Gl X "range" := by rfl)
    (hs : starEach [a] X.env = [(false, eval a X.env)] := by rfl) : IX X J tg (.Call (.Name "range" p) [a] [] pos) ρ M P :=
  ix_of (pi_range1 hg hm pa_any hs) fun F σ H R s k => h.go s fun ds vs M1 F1 H1 q e1 o1 r1 => by
    obtain ⟨j, rfl, hj, q⟩ := q
    cases r1 with
    | cons h1 r1 =>
      cases r1
      cases h1
      exact ⟨j, rfl, hj.1, hj.2, k _ _ M1 F1 H1 q e1 o1 wk_rng⟩
theorem ix_range2 {tg : Expr} {P : List D → Mem → Prop} (hm : X.mg "range" = none) (h : AX X J [a, b] ρ M fun ds M2 => ∃ i j, ds = [.int i, .int j] ∧ (-(2 ^ 62) ≤ i ∧ i < 2 ^ 62 ∧ -(2 ^ 62) ≤ j ∧ j < 2 ^ 62) ∧ P (rngD i (j - i).toNat) M2) (hg : Gl X "range" := by rfl)
    (hs : starEach [a, b] X.env = [(false, eval a X.env), (false, eval b X.env)] := by rfl) (hs2 : starEach [b] X.env = [(false, eval b X.env)] := by rfl) : IX X J tg (.Call (.Name "range" p) [a, b] [] pos) ρ M P :=
  ix_of (pi_range2 hg hm pa_any hs hs2) fun F σ H R s k => h.go s fun ds vs M1 F1 H1 q e1 o1 r1 => by
    obtain ⟨i, j, rfl, hj, q2⟩ := q
    cases r1 with
    | cons h1 r1 =>
      cases r1 with
      | cons h2 r1 =>
        cases r1
        cases h1; cases h2
        exact ⟨i, j, rfl, hj, k _ _ M1 F1 H1 q2 e1 o1 wk_rng⟩
/-- zip of two lists, of two tuples -/
def zipD : List D → List D → List D
  | x :: xs, y :: ys => .tup [x, y] :: zipD xs ys
  | _, _ => []
theorem zipD_len : ∀ (xs ys : List D), (zipD xs ys).length = min xs.length ys.length
  | [], ys => by simp [zipD]
  | x :: xs, [] => by simp [zipD]
  | x :: xs, y :: ys => by simp [zipD, zipD_len xs ys]
theorem zipD_at : ∀ {xs ys : List D} {i : Nat} {d : D}, (zipD xs ys)[i]? = some d → ∃ x y, xs[i]? = some x ∧ ys[i]? = some y ∧ d = .tup [x, y]
  | [], ys, i, d, h => by simp [zipD] at h
  | x :: xs, [], i, d, h => by simp [zipD] at h
  | x :: xs, y :: ys, 0, d, h => by simp [zipD] at h; exact ⟨x, y, rfl, rfl, h.symm⟩
  | x :: xs, y :: ys, i + 1, d, h => by
    obtain ⟨a, b, h1, h2, h3⟩ := zipD_at (xs := xs) (ys := ys) (i := i) (by simpa [zipD] using h)
    exact ⟨a, b, by simpa using h1, by simpa using h2, h3⟩
theorem pair_new {x y d1 d2 : D} {v1 v2 : V} {T : Addr} (o : Ok K F M H) (h : H T = none) (r1 : Rp K F v1 d1) (r2 : Rp K F v2 d2) : ∃ F2, Same F F2 ∧ Ok K F2 M (upd H T (.tup [v1, v2])) ∧ Rp K F2 (.ref T) (.tup [d1, d2]) :=
  ⟨_, o.fixSame h, o.fix h, .tup (SqT.of upd_same) (.cons (r1.mono (o.fixSame h)) (.cons (r2.mono (o.fixSame h)) .nil))⟩
theorem wk_zip {q r : Addr} {xs ys : List V} {ds es : List D} (h : F q = some (.lst xs)) (g : F r = some (.lst ys)) (hx : Rps K F xs ds) (hy : Rps K F ys es) : Wk K F (Itz K q r) (zipD ds es) := by
  refine ⟨fun i H hi s => ?_, fun H s => ⟨xs, ys, SqL.of (s _ _ h), SqL.of (s _ _ g), by rw [zipD_len, hx.length, hy.length]; omega⟩, fun i d H x H' F1 M hd s o y => ?_⟩
  · rw [zipD_len] at hi
    have h1 : i < xs.length := by rw [hx.length]; omega
    have h2 : i < ys.length := by rw [hy.length]; omega
    exact ⟨xs, ys, xs[i], ys[i], SqL.of (s _ _ h), SqL.of (s _ _ g), by simp [h1], by simp [h2]⟩
  · obtain ⟨T, v1, v2, rfl, h2, rfl, h4, h5⟩ := y
    obtain ⟨d1, d2, g1, g2, rfl⟩ := zipD_at hd
    obtain ⟨w1, k1, k2⟩ := hx.get g1
    obtain ⟨w2, k3, k4⟩ := hy.get g2
    have e1 := h4 xs (SqL.of (o.ex _ _ (s _ _ h)))
    have e2 := h5 ys (SqL.of (o.ex _ _ (s _ _ g)))
    rw [k1] at e1; cases e1
    rw [k3] at e2; cases e2
    exact pair_new (x := d1) (y := d2) o h2 (k2.mono s) (k4.mono s)
theorem wk_zipT {q r : Addr} {xs ys : List V} {ds es : List D} (h : SqT K F q xs) (g : SqT K F r ys) (hx : Rps K F xs ds) (hy : Rps K F ys es) : Wk K F (RZ.ItzT K q r) (zipD ds es) := by
  refine ⟨fun i H hi s => ?_, fun H s => ⟨xs, ys, same_t s h, same_t s g, by rw [zipD_len, hx.length, hy.length]; omega⟩, fun i d H x H' F1 M hd s o y => ?_⟩
  · rw [zipD_len] at hi
    have h1 : i < xs.length := by rw [hx.length]; omega
    have h2 : i < ys.length := by rw [hy.length]; omega
    exact ⟨xs, ys, xs[i], ys[i], same_t s h, same_t s g, by simp [h1], by simp [h2]⟩
  · obtain ⟨T, v1, v2, rfl, h2, rfl, h4, h5⟩ := y
    obtain ⟨d1, d2, g1, g2, rfl⟩ := zipD_at hd
    obtain ⟨w1, k1, k2⟩ := hx.get g1
    obtain ⟨w2, k3, k4⟩ := hy.get g2
    have e1 := h4 xs (same_t o.ex (same_t s h))
    have e2 := h5 ys (same_t o.ex (same_t s g))
    rw [k1] at e1; cases e1
    rw [k3] at e2; cases e2
    exact pair_new (x := d1) (y := d2) o h2 (k2.mono s) (k4.mono s)
/-- both lists, or both tuples -/
inductive Zs : D → D → List D → List D → Prop
  | lst {ds es : List D} : Zs (.lst ds) (.lst es) ds es
  | tup {ds es : List D} : Zs (.tup ds) (.tup es) ds es
theorem ix_zip {elts : List Expr} {kk : Nat} {tpos : Pos} {P : List D → Mem → Prop} (hm : X.mg "zip" = none) (h : AX X J [a, b] ρ M fun ws M2 => ∃ d d2 ds es, ws = [d, d2] ∧ Zs d d2 ds es ∧ P (zipD ds es) M2) (hg : Gl X "zip" := by rfl)
    (hs : starEach [a, b] X.env = (false, eval a X.env) :: starEach [b] X.env := by rfl) (hpl : (backTo pos (starEach [b] X.env)).any (·.1) = false := by rfl) : IX X J (.Tuple elts kk tpos) (.Call (.Name "zip" p) [a, b] [] pos) ρ M P :=
  ix_of (RZ.pi_zipA hg hm pa_any hs hpl) fun F σ H R s k => h.go s fun ws vs M2 F2 H2 q e1 o2 r1 => by
    obtain ⟨d, d2, ds, es, rfl, z, q2⟩ := q
    cases r1 with
    | cons h1 r1 =>
      cases r1 with
      | cons h2 r1 =>
        cases r1
        cases z with
        | lst =>
          cases h1 with
          | lst h1 k1 =>
            cases h2 with
            | lst h2 k2 => exact ⟨_, _, _, _, rfl, .inl ⟨SqL.of (o2.ex _ _ h1), SqL.of (o2.ex _ _ h2), k _ _ M2 F2 H2 q2 e1 o2 (wk_zip h1 h2 k1 k2)⟩⟩
        | tup =>
          cases h1 with
          | tup h1 k1 =>
            cases h2 with
            | tup h2 k2 => exact ⟨_, _, _, _, rfl, .inr ⟨same_t o2.ex h1, same_t o2.ex h2, k _ _ M2 F2 H2 q2 e1 o2 (wk_zipT h1 h2 k1 k2)⟩⟩
/-- enumerate of a list -/
def enumD (i : Nat) : List D → List D
  | [] => []
  | x :: xs => .tup [.int (i : Int), x] :: enumD (i + 1) xs
theorem enumD_len : ∀ (i : Nat) (xs : List D), (enumD i xs).length = xs.length
  | i, [] => rfl
  | i, x :: xs => by simp [enumD, enumD_len (i + 1) xs]
theorem enumD_at : ∀ {xs : List D} {k i : Nat} {d : D}, (enumD k xs)[i]? = some d → ∃ x, xs[i]? = some x ∧ d = .tup [.int ((k + i : Nat) : Int), x]
  | [], k, i, d, h => by simp [enumD] at h
  | x :: xs, k, 0, d, h => by simp [enumD] at h; exact ⟨x, rfl, h.symm⟩
  | x :: xs, k, i + 1, d, h => by
    obtain ⟨y, h1, h2⟩ := enumD_at (xs := xs) (k := k + 1) (i := i) (by simpa [enumD] using h)
    exact ⟨y, by simpa using h1, by rw [h2, Nat.add_assoc, Nat.add_comm 1 i]⟩
theorem wk_enum {q : Addr} {xs : List V} {ds : List D} (h : F q = some (.lst xs)) (hx : Rps K F xs ds) : Wk K F (Ite K q) (enumD 0 ds) := by
  refine ⟨fun i H hi s => ?_, fun H s => ⟨xs, SqL.of (s _ _ h), by rw [enumD_len, hx.length]; exact Nat.le_refl _⟩, fun i d H x H' F1 M hd s o y => ?_⟩
  · rw [enumD_len] at hi
    have h1 : i < xs.length := by rw [hx.length]; omega
    exact ⟨xs, xs[i], SqL.of (s _ _ h), by simp [h1]⟩
  · obtain ⟨T, v1, rfl, h2, rfl, h4⟩ := y
    obtain ⟨d1, g1, rfl⟩ := enumD_at hd
    obtain ⟨w1, k1, k2⟩ := hx.get g1
    have e1 := h4 xs (SqL.of (o.ex _ _ (s _ _ h)))
    rw [k1] at e1; cases e1
    rw [Nat.zero_add]
    exact pair_new (x := d1) (y := d1) o h2 (.int _) (k2.mono s)
theorem ix_enum {elts : List Expr} {kk : Nat} {tpos : Pos} {P : List D → Mem → Prop} (hm : X.mg "enumerate" = none) (h : AX X J [a] ρ M fun ws M1 => ∃ ds, ws = [.lst ds] ∧ P (enumD 0 ds) M1) (hg : Gl X "enumerate" := by rfl)
    (hs : starEach [a] X.env = [(false, eval a X.env)] := by rfl) : IX X J (.Tuple elts kk tpos) (.Call (.Name "enumerate" p) [a] [] pos) ρ M P :=
  ix_of (pi_enum hg hm pa_any hs) fun F σ H R s k => h.go s fun ws vs M1 F1 H1 q e1 o1 r1 => by
    obtain ⟨ds, rfl, q⟩ := q
    cases r1 with
    | cons h1 r1 =>
      cases r1
      cases h1 with
      | lst h1 k1 => exact ⟨_, _, rfl, SqL.of (o1.ex _ _ h1), k _ _ M1 F1 H1 q e1 o1 (wk_enum h1 k1)⟩
/-- the signs of a text -/
def signs (z : Str) : List D := z.cps.toList.map fun c => D.str ⟨#[c]⟩
theorem wk_str {z : Str} : Wk K F (Its z) (signs z) := by
  refine ⟨fun i H hi s => ?_, fun H s => ?_, fun i d H x H' F1 M hd s o y => ?_⟩
  · unfold signs at hi; simp at hi; exact hi
  · unfold signs; simp; exact Nat.le_refl _
  · obtain ⟨rfl, c, h1, rfl⟩ := y
    unfold signs at hd
    rw [List.getElem?_map] at hd
    have : z.cps.toList[i]? = some c := by simpa using h1
    rw [this] at hd
    cases hd
    exact ⟨F1, Same.refl _, o, .str _⟩
theorem ix_str {tg : Expr} {P : List D → Mem → Prop} (h : EX X J e ρ M fun d M1 => ∃ z, d = .str z ∧ P (signs z) M1) : IX X J tg e ρ M P :=
  ix_of (pi_str pe_any) fun F σ H R s k => h.go s fun d v M1 F1 H1 p e1 o1 r1 => by
    obtain ⟨z, rfl, p⟩ := p
    cases r1
    exact ⟨z, rfl, k _ _ M1 F1 H1 p e1 o1 wk_str⟩
/-- for -/
theorem g1_for {tg iter : Expr} {body : List Stmt} (hp : PassesOwn (model X.prog X.w) X.A X.env X.xe) (hc : X.calm = true)
    (h : IX X J tg iter ρ M fun ds M1 => ∃ Wd : Nat → DEnv → Mem → Prop, Wd 0 ρ M1 ∧
      (∀ i d ρ' M', ds[i]? = some d → Wd i ρ' M' → AsD X tg d ρ' fun ρ2 => GX X J body ρ2 M' ⟨Wd (i + 1), B.rt, B.nx, Wd (i + 1)⟩) ∧ ∀ ρ' M', Wd ds.length ρ' M' → B.nx ρ' M')
    (hs : ∀ x, foldedSetIterable iter X.env x = pure x := by intro _; rfl) : G1 X J (.For tg iter body [] pos) ρ M B :=
  g1_of (ps_for hp hc pi_any pg_any pss_any hs) fun F σ H E s k => h.go s fun ds I M1 F1 H1 ⟨Wd, h0, hs, hd⟩ e1 o1 w => by
    refine ⟨fun i m σ H => m = ds.length - i ∧ i ≤ ds.length ∧ ∃ F' ρ' M', Same F1 F' ∧ Sts X.K J F' σ H ρ' M' ∧ Wd i ρ' M', ⟨ds.length, by simp, Nat.zero_le _, F1, ρ, M1, Same.refl _, s.to e1 o1, h0⟩, ?_⟩
    rintro i m σ' H' ⟨rfl, hi, F', ρ', M', e2, s2, q⟩
    by_cases hlt : i < ds.length
    · refine .inr ⟨w.goes i H' hlt (e2.trans s2.ok.ex), _, fun σ3 H3 n3 => n3, fun x H3 y => ?_⟩
      · obtain ⟨F3, e3, o3, r3⟩ := w.yields i ds[i] H' x H3 F' M' (by simp [hlt]) e2 s2.ok y
        refine asd_go (hs i ds[i] ρ' M' (by simp [hlt]) q) o3 r3 (s2.en.mono e3) fun σ4 ρ4 q4 en4 => GX.go q4 ⟨en4, o3, J.mono _ _ e3 s2.gh⟩ ?_
        have nxt : ∀ F' σ' H' ρ' M', Wd (i + 1) ρ' M' → Same F3 F' → En X.K F' σ' ρ' → Ok X.K F' M' H' → ∃ m', m' < ds.length - i ∧ m' = ds.length - (i + 1) ∧ i + 1 ≤ ds.length ∧ ∃ F' ρ' M', Same F1 F' ∧ Sts X.K J F' σ' H' ρ' M' ∧ Wd (i + 1) ρ' M' :=
          fun F5 σ5 H5 ρ5 M5 q5 e5 en5 o5 => ⟨_, by omega, rfl, hlt, F5, ρ5, M5, (e2.trans e3).trans e5, ⟨en5, o5, J.mono _ _ (e3.trans e5) s2.gh⟩, q5⟩
        exact ⟨nxt, k.rt.to ((e1.trans e2).trans e3), fun F5 σ5 H5 ρ5 M5 q5 e5 en5 o5 => k.nx F5 σ5 H5 ρ5 M5 q5 (((e1.trans e2).trans e3).trans e5) en5 o5, nxt⟩
    · have e : i = ds.length := by omega
      subst e
      exact .inl ⟨w.stops H' (e2.trans s2.ok.ex), k.nx F' σ' H' ρ' M' (hd ρ' M' q) (e1.trans e2) s2.en s2.ok⟩
/-- while: the word with its measure -/
theorem g1_while {body : List Stmt} (hp : PassesOwn (model X.prog X.w) X.A X.env X.xe) (Wd : Nat → DEnv → Mem → Prop) (m0 : Nat) (h0 : Wd m0 ρ M)
    (hs : ∀ m ρ' M', Wd m ρ' M' → TX X J c ρ' M' fun t M1 => (t = true → GX X J body ρ' M1 ⟨fun ρ2 M2 => ∃ m', m' < m ∧ Wd m' ρ2 M2, B.rt, B.nx, fun ρ2 M2 => ∃ m', m' < m ∧ Wd m' ρ2 M2⟩) ∧ (t = false → B.nx ρ' M1)) : G1 X J (.While c body [] pos) ρ M B :=
  g1_of (ps_while hp pt_any pss_any) fun F σ H E s k => by
    refine ⟨fun m σ' H' => ∃ F' ρ' M', Same F F' ∧ Sts X.K J F' σ' H' ρ' M' ∧ Wd m ρ' M', ⟨m0, F, ρ, M, Same.refl _, s, h0⟩, ?_⟩
    rintro m σ' H' ⟨F', ρ', M', e2, s2, q⟩
    refine (hs m ρ' M' q).go s2 fun t M1 F1 H1 p e1 o1 => ?_
    cases t with
    | true =>
      refine iteT ⟨fun σ3 H3 => ∃ m', m' < m ∧ ∃ F' ρ' M', Same F F' ∧ Sts X.K J F' σ3 H3 ρ' M' ∧ Wd m' ρ' M', fun _ _ n => n, (p.1 rfl).go (s2.to e1 o1) ?_⟩
      have nxt : ∀ F3 σ3 H3 ρ3 M3, (∃ m', m' < m ∧ Wd m' ρ3 M3) → Same F1 F3 → En X.K F3 σ3 ρ3 → Ok X.K F3 M3 H3 → ∃ m', m' < m ∧ ∃ F' ρ' M', Same F F' ∧ Sts X.K J F' σ3 H3 ρ' M' ∧ Wd m' ρ' M' :=
        fun F3 σ3 H3 ρ3 M3 ⟨m', hm, q3⟩ e3 en3 o3 => ⟨m', hm, F3, ρ3, M3, (e2.trans e1).trans e3, ⟨en3, o3, J.mono _ _ (e1.trans e3) s2.gh⟩, q3⟩
      exact ⟨nxt, k.rt.to (e2.trans e1), fun F5 σ5 H5 ρ5 M5 q5 e5 en5 o5 => k.nx F5 σ5 H5 ρ5 M5 q5 ((e2.trans e1).trans e5) en5 o5, nxt⟩
    | false => exact iteF (k.nx F1 σ' H1 ρ' M1 (p.2 rfl) (e2.trans e1) (s2.en.mono e1) o1)
end
end DX
namespace DX
open PySem PySem.Spec L2

theorem wipe_get (σ : St) (i : Nat) : ∀ vs : List Nat, (wipe σ vs)[i]? = if i ∈ vs then (σ[i]?).map (fun _ => none) else σ[i]?
  | [] => by simp [wipe]
  | v :: vs => by
    unfold wipe
    rw [List.getElem?_set]
    by_cases h : v = i
    · subst h
      rw [if_pos rfl, wipe_length]
      by_cases hl : v < σ.length
      · rw [if_pos hl, if_pos List.mem_cons_self, List.getElem?_eq_getElem hl]; rfl
      · rw [if_neg hl, if_pos List.mem_cons_self, List.getElem?_eq_none (by omega)]; rfl
    · rw [if_neg h, wipe_get σ i vs]
      have e : (i ∈ v :: vs) = (i ∈ vs) := by simp [Ne.symm h]
      simp only [e]
theorem wipe_set {σ : St} {j : Nat} {x : Option V} {vs : List Nat} (h : j ∈ vs) : wipe (σ.set j x) vs = wipe σ vs := by
  apply List.ext_getElem?
  intro i
  rw [wipe_get, wipe_get]
  by_cases hi : i ∈ vs
  · rw [if_pos hi, if_pos hi, List.getElem?_set]
    by_cases hj : j = i
    · subst hj
      rw [if_pos rfl]
      by_cases hl : j < σ.length
      · rw [if_pos hl, List.getElem?_eq_getElem hl]; rfl
      · rw [if_neg hl, List.getElem?_eq_none (by omega)]
    · rw [if_neg hj]
  · rw [if_neg hi, if_neg hi, List.getElem?_set_ne]
    intro z; subst z; exact hi h
theorem wipe_wipe (σ : St) (vs : List Nat) : wipe (wipe σ vs) vs = wipe σ vs := by
  apply List.ext_getElem?
  intro i
  rw [wipe_get, wipe_get]
  by_cases hi : i ∈ vs
  · rw [if_pos hi, if_pos hi]
    cases σ[i]? <;> rfl
  · rw [if_neg hi, if_neg hi]

section
variable {X : Cx} {J : Gh} {e a b c : Expr} {es : List Expr} {st : Stmt} {rest sts : List Stmt} {ρ ρ' : DEnv} {M M' : Mem} {F F' H H' : Hp} {σ : St} {B : Bd} {K : PySem.W.Frag} {pos p apos : Pos} {x : Str} {P : D → Mem → Prop}

/-! ### list comprehensions -/
abbrev Blk (X : Cx) (scope : Scope) : Type := Shared × Hp × Addr × List (Str × Addr) × List Addr
abbrev Blk.cx {X : Cx} {scope : Scope} (b : Blk X scope) : Cx := X.blk b.1 b.2.1 scope (compEnvC scope b.2.2.2.1 b.2.2.1 X.env) b.2.2.2.2
def EXb (X : Cx) (J : Gh) (scope : Scope) (e : Expr) (ρ : DEnv) (M : Mem) (P : D → Mem → Prop) : Prop := ∀ (s : Shared) (H : Hp) (C : Addr) (cl : List (Str × Addr)) (fp : List Addr), EX (X.blk s H scope (compEnvC scope cl C X.env) fp) J e ρ M P
def TXb (X : Cx) (J : Gh) (scope : Scope) (ifs : List Expr) (ρ : DEnv) (M : Mem) (P : Bool → Mem → Prop) : Prop := ∃ t, (∀ (s : Shared) (H : Hp) (C : Addr) (cl : List (Str × Addr)) (fp : List Addr), PTs (X.blk s H scope (compEnvC scope cl C X.env) fp) ifs t) ∧ ∀ F σ H Q, Sts X.K J F σ H ρ M → Kb X.K F P Q → t σ H Q
def AsB (X : Cx) (scope : Scope) (vs : List Nat) (target : Expr) (d : D) (ρ : DEnv) (P : DEnv → Prop) : Prop :=
  ∃ g, (∀ (s : Shared) (H : Hp) (C : Addr) (cl : List (Str × Addr)) (fp : List Addr), PG (X.blk s H scope (compEnvC scope cl C X.env) fp) target g) ∧
    ∀ F M v σ H Q, Ok X.K F M H → Rp X.K F v d → En X.K F σ ρ → (∀ σ' ρ', P ρ' → En X.K F σ' ρ' → wipe σ' vs = wipe σ vs → Q σ' H) → g v σ H Q
def AsBs (X : Cx) (scope : Scope) (vs : List Nat) (ts : List Expr) (ds : List D) (ρ : DEnv) (P : DEnv → Prop) : Prop :=
  ∃ g, (∀ (s : Shared) (H : Hp) (C : Addr) (cl : List (Str × Addr)) (fp : List Addr), PGs (X.blk s H scope (compEnvC scope cl C X.env) fp) ts g) ∧
    ∀ F M xs σ H Q, Ok X.K F M H → Rps X.K F xs ds → En X.K F σ ρ → (∀ σ' ρ', P ρ' → En X.K F σ' ρ' → wipe σ' vs = wipe σ vs → Q σ' H) → g xs σ H Q
def tEb (X : Cx) (scope : Scope) (e : Expr) : TE := fun σ H Q => ∃ t, (∀ (s : Shared) (H : Hp) (C : Addr) (cl : List (Str × Addr)) (fp : List Addr), PE (X.blk s H scope (compEnvC scope cl C X.env) fp) e t) ∧ t σ H Q
def tTb (X : Cx) (scope : Scope) (ifs : List Expr) : TT := fun σ H Q => ∃ t, (∀ (s : Shared) (H : Hp) (C : Addr) (cl : List (Str × Addr)) (fp : List Addr), PTs (X.blk s H scope (compEnvC scope cl C X.env) fp) ifs t) ∧ t σ H Q
def gB (X : Cx) (scope : Scope) (target : Expr) : TG := fun v σ H Q => ∃ g, (∀ (s : Shared) (H : Hp) (C : Addr) (cl : List (Str × Addr)) (fp : List Addr), PG (X.blk s H scope (compEnvC scope cl C X.env) fp) target g) ∧ g v σ H Q
variable {scope : Scope} {tg iter elt : Expr} {ifs : List Expr}
theorem txb_nil {P : Bool → Mem → Prop} (h : P true M) : TXb X J scope [] ρ M P := ⟨tYes, fun _ _ _ _ _ => pts_nil, fun F σ H Q st k => k _ _ _ _ h (Same.refl F) st.ok⟩
theorem txb_one {P : Bool → Mem → Prop} (h : ∀ (s : Shared) (H : Hp) (C : Addr) (cl : List (Str × Addr)) (fp : List Addr), TX (X.blk s H scope (compEnvC scope cl C X.env) fp) J c ρ M P) : TXb X J scope [c] ρ M P :=
  ⟨tT X.K J ρ M P, fun s H C cl fp => pts_one (h s H C cl fp), fun F σ H Q st k => ⟨F, st, k⟩⟩
theorem pe_lcA {own : List (Str × Nat)} (hc : X.calm = true) (hN : X.N.Nodup) (ok : BlkOk X.N X.env.scope scope own) (hs : ∀ x, foldedSetIterable iter X.env x = pure x := by intro _; rfl) :
    PE X (.ListComp elt [⟨tg, iter, ifs, 0⟩] scope pos) (tLc (tIe X tg iter) (gB X scope tg) (tTb X scope ifs) (tEb X scope elt) (own.map (·.2))) :=
  pe_lc hc hN pi_any ok (fun s H C cl fp => ⟨fun pins s' σ H' v u Q I r ⟨g, h, q⟩ => (h s H C cl fp).run pins s' σ H' v u Q I r q⟩)
    (fun s H C cl fp => ⟨fun pins s' σ H' Q I ⟨t, h, q⟩ => (h s H C cl fp).run pins s' σ H' Q I q⟩) (fun s H C cl fp => ⟨fun pins s' σ H' Q I ⟨t, h, q⟩ => (h s H C cl fp).run pins s' σ H' Q I q⟩) hs
theorem asb_name {d : D} {vs : List Nat} {P : DEnv → Prop} (i : Nat) (h : P (put ρ i d)) (hv : i ∈ vs := by decide) (hN : X.N.Nodup := by rfl) (hi : X.N[i]? = some x := by rfl) (hx : ∀ (s : Shared) (H : Hp) (C : Addr) (cl : List (Str × Addr)) (fp : List Addr), Loc (X.blk s H scope (compEnvC scope cl C X.env) fp).env.scope x := by intros; first | exact Or.inl rfl | exact Or.inr rfl)
    (hf : ∀ (s : Shared) (H : Hp) (C : Addr) (cl : List (Str × Addr)) (fp : List Addr), (X.blk s H scope (compEnvC scope cl C X.env) fp).fn x = true ∨ (X.blk s H scope (compEnvC scope cl C X.env) fp).env.scope.names.lookup x = some .local := by intros; first | exact .inr rfl | exact .inl rfl) : AsB X scope vs (.Name x pos) d ρ P :=
  ⟨_, fun s H C cl fp => pg_name (X := X.blk s H scope (compEnvC scope cl C X.env) fp) hN hi (hx s H C cl fp) (hf s H C cl fp), fun F M v σ H Q o r en k => k _ _ h (en.put i r) (wipe_set hv)⟩
theorem asb_nil {vs : List Nat} {P : DEnv → Prop} (h : P ρ) : AsBs X scope vs [] [] ρ P := ⟨_, fun _ _ _ _ _ => pgs_nil, fun F M xs σ H Q o r en k => by cases r; exact ⟨rfl, k _ _ h en rfl⟩⟩
theorem asb_cons {vs : List Nat} {t : Expr} {ts : List Expr} {d : D} {ds : List D} {P : DEnv → Prop} (h : AsB X scope vs t d ρ fun ρ' => AsBs X scope vs ts ds ρ' P)
    (hs : ∀ (s : Shared) (H : Hp) (C : Addr) (cl : List (Str × Addr)) (fp : List Addr), (assignEach (t :: ts) (X.blk s H scope (compEnvC scope cl C X.env) fp).env).map (·.2) = assign t (X.blk s H scope (compEnvC scope cl C X.env) fp).env :: (assignEach ts (X.blk s H scope (compEnvC scope cl C X.env) fp).env).map (·.2) := by intros; rfl) : AsBs X scope vs (t :: ts) (d :: ds) ρ P := by
  obtain ⟨g, hg, h⟩ := h
  refine ⟨_, fun s H C cl fp => pgs_cons (hg s H C cl fp) (⟨fun pins s' σ H' us ws Q I r ⟨g, h, q⟩ => (h s H C cl fp).run pins s' σ H' us ws Q I r q⟩ : PGs (X.blk s H scope (compEnvC scope cl C X.env) fp) ts (fun us σ H Q => ∃ g, (∀ (s : Shared) (H : Hp) (C : Addr) (cl : List (Str × Addr)) (fp : List Addr), PGs (X.blk s H scope (compEnvC scope cl C X.env) fp) ts g) ∧ g us σ H Q)) (hs s H C cl fp), fun F M xs σ H Q o r en k => ?_⟩
  cases r with
  | cons h1 r1 =>
    refine ⟨_, _, rfl, h F M _ σ H _ o h1 en fun σ' ρ' q en' w => ?_⟩
    obtain ⟨g2, hg2, q⟩ := q
    exact ⟨g2, hg2, q F M _ σ' H Q o r1 en' fun σ2 ρ2 q2 en2 w2 => k σ2 ρ2 q2 en2 (w2.trans w)⟩
theorem asb_tup {ds : List D} {k : Nat} {vs : List Nat} {P : DEnv → Prop} (hc : X.calm = true) (h : AsBs X scope vs es ds ρ P)
    (hl : ∀ (s : Shared) (H : Hp) (C : Addr) (cl : List (Str × Addr)) (fp : List Addr), (assignEach es (X.blk s H scope (compEnvC scope cl C X.env) fp).env).length = ds.length := by intros; rfl)
    (hst : ∀ (s : Shared) (H : Hp) (C : Addr) (cl : List (Str × Addr)) (fp : List Addr), (assignEach es (X.blk s H scope (compEnvC scope cl C X.env) fp).env).findIdx? (·.1) = none := by intros; rfl) : AsB X scope vs (.Tuple es k pos) (.tup ds) ρ P := by
  obtain ⟨g, hg, h⟩ := h
  refine ⟨gTup X.K ds.length g, fun s H C cl fp => pg_tup (X := X.blk s H scope (compEnvC scope cl C X.env) fp) hc (hg s H C cl fp) (hl s H C cl fp) (hst s H C cl fp), fun F M v σ H Q o r en k => ?_⟩
  cases r with
  | tup h1 r1 => exact ⟨_, _, rfl, same_t o.ex h1, r1.length, h F M _ σ H Q o r1 en k⟩
/-- [elt for tg in iter if ..]: the word by the turn, what is made so far, the memory (the new list, at Dl, in it while a turn runs) -/
def LcW (X : Cx) (J : Gh) (scope : Scope) (vs : List Nat) (tg : Expr) (ifs : List Expr) (elt : Expr) (ρ : DEnv) (P : D → Mem → Prop) (ds : List D) (M1 : Mem) : Prop := ∃ Wd : Nat → List D → Mem → Prop, Wd 0 [] M1 ∧
  (∀ i d acc M' Dl, ds[i]? = some d → Wd i acc M' → M' Dl = none → acc.length < 1000000 ∧ AsB X scope vs tg d (cuts ρ vs) fun ρ2 =>
    TXb X J scope ifs ρ2 (up M' Dl (.lst acc)) fun t M2 => (t = true → EXb X J scope elt ρ2 M2 fun y M3 => ∃ M4, M4 Dl = none ∧ M3 = up M4 Dl (.lst acc) ∧ Wd (i + 1) (acc ++ [y]) M4) ∧
      (t = false → ∃ M4, M4 Dl = none ∧ M2 = up M4 Dl (.lst acc) ∧ Wd (i + 1) acc M4)) ∧
  ∀ acc M', Wd ds.length acc M' → P (.lst acc) M'
theorem lc_go {vs : List Nat} {Q : VK} (st : Sts X.K J F σ H ρ M) (k : Kt X.K F P Q) (h : IX X J tg iter ρ M (LcW X J scope vs tg ifs elt ρ P)) :
    tLc (tIe X tg iter) (gB X scope tg) (tTb X scope ifs) (tEb X scope elt) vs σ H Q := by
  refine h.go st fun ds I M1 F1 H1 ⟨Wd, h0, hs, hd⟩ e1 o1 w Dl hD => ?_
  have hm1 := o1.nn hD
  refine ⟨fun i m H2 => m = ds.length - i ∧ i ≤ ds.length ∧ ∃ F' M' acc xs, Same F1 F' ∧ Ok X.K F' (up M' Dl (.lst acc)) H2 ∧ M' Dl = none ∧ H2 Dl = some (.lst xs) ∧ Wd i acc M', ⟨ds.length, by simp, Nat.zero_le _, F1, M1, [], [], Same.refl _, o1.lay hD ⟨[], upd_same, .nil⟩, hm1.2, upd_same, h0⟩, ?_⟩
  rintro i m H2 ⟨rfl, hi, F', M', acc, xs, e2, o2, hn, hx, q⟩
  by_cases hlt : i < ds.length
  · refine .inr ⟨w.goes i H2 hlt (e2.trans o2.ex), fun H3 => ∃ m', m' < ds.length - i ∧ m' = ds.length - (i + 1) ∧ i + 1 ≤ ds.length ∧ ∃ F' M' acc xs, Same F1 F' ∧ Ok X.K F' (up M' Dl (.lst acc)) H3 ∧ M' Dl = none ∧ H3 Dl = some (.lst xs) ∧ Wd (i + 1) acc M', fun H3 n3 => n3, fun x H3 y => ?_⟩
    obtain ⟨F3, e3, o3, r3⟩ := w.yields i ds[i] H2 x H3 F' _ (by simp [hlt]) e2 o2 y
    obtain ⟨ha, g, hg, hgo⟩ := hs i ds[i] acc M' Dl (by simp [hlt]) q hn
    have en3 : En X.K F3 (wipe σ vs) (cuts ρ vs) := (((st.en.cuts vs).mono e1).mono e2).mono e3
    refine ⟨g, hg, hgo F3 _ x _ H3 _ o3 r3 en3 fun σ4 ρ4 q4 en4 w4 => ⟨w4.trans (wipe_wipe σ vs), ?_⟩⟩
    obtain ⟨t, ht, q4⟩ := q4
    refine ⟨t, ht, q4 F3 σ4 H3 _ ⟨en4, o3, J.mono _ _ ((e1.trans e2).trans e3) st.gh⟩ fun tb M5 F5 H5 q5 e5 o5 => ?_⟩
    have fin : ∀ F6 M6 acc6 H6, Same F5 F6 → M6 Dl = none → Ok X.K F6 (up M6 Dl (.lst acc6)) H6 → Wd (i + 1) acc6 M6 → ∃ m', m' < ds.length - i ∧ m' = ds.length - (i + 1) ∧ i + 1 ≤ ds.length ∧ ∃ F' M' acc xs, Same F1 F' ∧ Ok X.K F' (up M' Dl (.lst acc)) H6 ∧ M' Dl = none ∧ H6 Dl = some (.lst xs) ∧ Wd (i + 1) acc M' := by
      intro F6 M6 acc6 H6 e6 n6 o6 q6
      obtain ⟨_, xs6, h6, _⟩ := o6.mt Dl _ up_same
      exact ⟨_, by omega, rfl, hlt, F6, M6, acc6, xs6, ((e2.trans e3).trans e5).trans e6, o6, n6, h6, q6⟩
    cases tb with
    | true =>
      refine iteT ⟨tD X.K J ρ4 M5 _, q5.1 rfl, F5, ⟨en4.mono e5, o5, J.mono _ _ (((e1.trans e2).trans e3).trans e5) st.gh⟩, fun y v M7 F7 H7 ⟨M4, n4, e4, q7⟩ e7 o7 r7 => ?_⟩
      subst e4
      obtain ⟨_, ys, hy, ry⟩ := o7.mt Dl _ up_same
      refine ⟨ys, hy, by rw [ry.length, sizeLine_eq]; omega, fin F7 M4 (acc ++ [y]) _ e7 n4 ?_ q7⟩
      have := o7.set (o := .lst (ys ++ [v])) (d' := .lst (acc ++ [y])) up_same ⟨_, upd_same, ry.append (.cons r7 .nil)⟩
      rwa [up_up] at this
    | false =>
      obtain ⟨M4, n4, e4, q7⟩ := q5.2 rfl
      subst e4
      exact iteF (fin F5 M4 acc H5 (Same.refl _) n4 o5 q7)
  · have e : i = ds.length := by omega
    subst e
    obtain ⟨_, ys, hy, ry⟩ := o2.mt Dl _ up_same
    obtain ⟨s1, o4⟩ := o2.freeze up_same hy
    rw [rm_up hn] at o4
    exact .inl ⟨w.stops H2 (e2.trans o2.ex), k _ _ _ _ _ (hd acc M' q) ((e1.trans e2).trans s1) o4 (.lst upd_same (ry.mono s1))⟩
theorem ex_lc {own : List (Str × Nat)} (hc : X.calm = true) (h : IX X J tg iter ρ M (LcW X J scope (own.map (·.2)) tg ifs elt ρ P)) (hN : X.N.Nodup := by rfl) (ok : blkC X.N X.env.scope scope own = true := by rfl) (hs : ∀ x, foldedSetIterable iter X.env x = pure x := by intro _; rfl) :
    EX X J (.ListComp elt [⟨tg, iter, ifs, 0⟩] scope pos) ρ M P :=
  ex_of (pe_lcA hc hN (blkOk_by ok) hs) fun F σ H Q st k => lc_go st k h
theorem g1_lc {y : Str} {py : Pos} {spos : Pos} {own : List (Str × Nat)} (i : Nat) (hc : X.calm = true) (h : IX X J tg iter ρ M (LcW X J scope (own.map (·.2)) tg ifs elt ρ fun d M1 => B.nx (put ρ i d) M1)) (hN : X.N.Nodup := by rfl) (hy : X.N[i]? = some y := by rfl) (hyl : X.env.scope.names.lookup y = some .local := by rfl)
    (hsw : swapsWith (.ListComp elt [⟨tg, iter, ifs, 0⟩] scope pos) (some (.Name y py)) spos.line X.env = pure true := by rfl) (ok : blkC X.N X.env.scope scope own = true := by rfl) (hs : ∀ x, foldedSetIterable iter X.env x = pure x := by intro _; rfl) :
    G1 X J (.Assign [.Name y py] (.ListComp elt [⟨tg, iter, ifs, 0⟩] scope pos) spos) ρ M B :=
  g1_of (ps_setLc hc hN hy hyl hsw pi_any (blkOk_by ok) (fun s H C cl fp => ⟨fun pins s' σ H' v u Q I r ⟨g, h, q⟩ => (h s H C cl fp).run pins s' σ H' v u Q I r q⟩)
    (fun s H C cl fp => ⟨fun pins s' σ H' Q I ⟨t, h, q⟩ => (h s H C cl fp).run pins s' σ H' Q I q⟩) (fun s H C cl fp => ⟨fun pins s' σ H' Q I ⟨t, h, q⟩ => (h s H C cl fp).run pins s' σ H' Q I q⟩) hs)
    fun F σ H E st k => lc_go st (P := fun d M1 => B.nx (put ρ i d) M1) (fun d v M' F' H' q e o r => k.nx F' _ H' _ M' q e ((st.en.mono e).put i r) o) h

/-! ### calls of defs -/
abbrev Tr := List D → Mem → (D → Mem → Prop) → Prop
def SpD (K : PySem.W.Frag) (T : Tr) : Sp := fun vs H Q _ => ∃ F M ds P, Ok K F M H ∧ Rps K F vs ds ∧ T ds M P ∧ Kt K F P Q
theorem ex_call {k : Nat} {f : Addr} {fd : FuncData} {ps : List Str} {T : Tr} {dvs : List V} {dds : List D} {ds : List Value} (G : FnOk X.prog X.w X.K X.mg X.base CX0 k f fd ps (SpD X.K T)) (hr : Room k X.A) (hm : X.mg x = some (.ref f)) (hk : PySem.W.keepIn X.K (.ref f) = true)
    (hb : Binds X.K fd ps ds) (hd : Vals dvs ds) (hdd : ∀ F, Rps X.K F dvs dds) (h : AX X J (e :: es) ρ M fun ds M1 => T (ds ++ dds) M1 P) (hg : Gl X x := by rfl) (hdb : (x == ("__debug__" : Str)) = false := by decide)
    (he : starEach (e :: es) X.env = (false, eval e X.env) :: starEach es X.env := by rfl) (hpl : (backTo pos (starEach es X.env)).any (·.1) = false := by rfl) : EX X J (.Call (.Name x p) (e :: es) [] pos) ρ M P :=
  ex_of (pe_call (E := E0) G hr hg hm hk hb hd pass0 pa_any hdb he hpl) fun F σ H Q st k => h.go st fun ds vs M1 F1 H1 q e1 o1 r1 => ⟨F1, M1, _, P, o1, r1.append (hdd F1), q, k.to e1⟩
theorem ex_call0 {k : Nat} {f : Addr} {fd : FuncData} {ps : List Str} {T : Tr} {dvs : List V} {dds : List D} {ds : List Value} (G : FnOk X.prog X.w X.K X.mg X.base CX0 k f fd ps (SpD X.K T)) (hr : Room k X.A) (hm : X.mg x = some (.ref f)) (hk : PySem.W.keepIn X.K (.ref f) = true)
    (hb : Binds X.K fd ps ds) (hd : Vals dvs ds) (hdd : ∀ F, Rps X.K F dvs dds) (h : T dds M P) (hg : Gl X x := by rfl) (hdb : (x == ("__debug__" : Str)) = false := by decide) : EX X J (.Call (.Name x p) [] [] pos) ρ M P :=
  ex_of (pe_call0 (E := E0) G hr hg hm hk hb hd pass0 hdb) fun F σ H Q st k => ⟨F, M, dds, P, st.ok, by simpa using hdd F, h, k⟩
/-- a def by its body -/
theorem fn_okD {P' : Program} {w : World} {K : PySem.W.Frag} {mg : Str → Option Value} {base : Heap} {x qual : Str} {params : Arguments} {body : List Stmt} {scope : Scope} {dvs : List V} {kws : List (Str × V)} {f : Addr} {fd : FuncData} {N ps : List Str} {k : Nat} {T : Tr}
    (F : FunD K x qual params body scope dvs kws f fd) (S : FnScope N ps scope) (len : ∀ ds M P, T ds M P → ds.length = ps.length)
    (hbody : ∀ (cdv : Value) (A : Around) (outer : List PySem.Env) (s : Shared) (H : Hp) (ds : List D) (M : Mem) (P : D → Mem → Prop), Room k (A.deeper (PyProof.Rows.envOfC qual scope s.heap.objs.size f cdv)) → T ds M P →
      GX (cxOf CX0 P' w K mg base N qual scope f cdv A outer s H E0).nox Gh.triv body (startD (N.length - ps.length) ds) M ⟨fun _ M' => P .non M', P, fun _ _ => False, fun _ _ => False⟩) : FnOk P' w K mg base CX0 (k + 1) f fd ps (SpD K T) := by
  refine F.ok S (fun vs H Q E ⟨F0, M, ds, P, o, r, t, q⟩ => by rw [r.length]; exact len ds M P t) (fun cdv A outer s H vs Q E hr h => ?_)
  obtain ⟨F0, M, ds, P, o, r, t, q⟩ := h
  have hb := hbody cdv A outer s H ds M P hr t
  refine ⟨_, PSs.nox (X := cxOf CX0 P' w K mg base N qual scope f cdv A outer s H E) (show PSs (cxOf CX0 P' w K mg base N qual scope f cdv A outer s H E).nox body _ from hb), F0, ⟨?_, o, trivial⟩, ⟨fun F' σ' H' ρ' M' p e en o' => ?_, q, fun F' σ' H' ρ' M' p => p.elim, fun F' σ' H' ρ' M' p => p.elim⟩⟩
  · have hl : vs.length = ps.length := by rw [r.length]; exact len ds M P t
    unfold L2.start
    rw [hl]
    exact En.start _ r
  · exact q _ _ _ _ _ p e o' .non

/-! ### built-in calls -/
def rAnyC (X : Cx) (f : Value) : List V → Hp → VK → Prop := fun vs H Q => ∃ r, CallR X f r ∧ r vs H Q
theorem cr_anyR {f : Value} : CallR X f (rAnyC X f) := fun pins s σ H vs us Q I r ⟨t, h, q⟩ => h pins s σ H vs us Q I r q
def CD (X : Cx) (f : Value) (ds : List D) (M : Mem) (P : D → Mem → Prop) : Prop :=
  ∃ r, CallR X f r ∧ ∀ F H vs Q, Ok X.K F M H → Rps X.K F vs ds → Kt X.K F P Q → r vs H Q
theorem ex_blt {id : String} (hm : X.mg x = none) (hv : bootBuiltins x = some (.builtin id)) (h : AX X J (e :: es) ρ M fun ds M1 => CD X (.builtin id) ds M1 P) (hg : Gl X x := by rfl) (hn : x ≠ "__name__" := by decide) (hdb : (x == ("__debug__" : Str)) = false := by decide)
    (he : starEach (e :: es) X.env = (false, eval e X.env) :: starEach es X.env := by rfl) (hpl : (backTo pos (starEach es X.env)).any (·.1) = false := by rfl) : EX X J (.Call (.Name x p) (e :: es) [] pos) ρ M P :=
  ex_of (pe_callB cr_anyR hg hm hv pa_any hn hdb he hpl) fun F σ H Q st k => h.go st fun ds vs M1 F1 H1 q e1 o1 r1 => by
    obtain ⟨r, h1, h2⟩ := q
    exact ⟨r, h1, h2 F1 H1 vs Q o1 r1 (k.to e1)⟩
theorem ex_ty {T : String} (hm : X.mg x = none) (hv : bootBuiltins x = some (.type T)) (h : AX X J (e :: es) ρ M fun ds M1 => CD X (.type T) ds M1 P) (hg : Gl X x := by rfl) (hn : x ≠ "__name__" := by decide) (hdb : (x == ("__debug__" : Str)) = false := by decide)
    (he : starEach (e :: es) X.env = (false, eval e X.env) :: starEach es X.env := by rfl) (hpl : (backTo pos (starEach es X.env)).any (·.1) = false := by rfl) : EX X J (.Call (.Name x p) (e :: es) [] pos) ρ M P :=
  ex_of (pe_callTy cr_anyR hg hm hv pa_any hn hdb he hpl) fun F σ H Q st k => h.go st fun ds vs M1 F1 H1 q e1 o1 r1 => by
    obtain ⟨r, h1, h2⟩ := q
    exact ⟨r, h1, h2 F1 H1 vs Q o1 r1 (k.to e1)⟩
theorem bb_len : bootBuiltins "len" = some (.builtin "len") := by decide +kernel
theorem bb_abs : bootBuiltins "abs" = some (.builtin "abs") := by decide +kernel
theorem bb_repr : bootBuiltins "repr" = some (.builtin "repr") := by decide +kernel
theorem bb_isi : bootBuiltins "isinstance" = some (.builtin "isinstance") := by decide +kernel
theorem bb_min : bootBuiltins "min" = some (.builtin "min") := by decide +kernel
theorem bb_max : bootBuiltins "max" = some (.builtin "max") := by decide +kernel
theorem bb_sum : bootBuiltins "sum" = some (.builtin "sum") := by decide +kernel
theorem bb_all : bootBuiltins "all" = some (.builtin "all") := by decide +kernel
theorem bb_any : bootBuiltins "any" = some (.builtin "any") := by decide +kernel
theorem bb_int : bootBuiltins "int" = some (.type "int") := by decide +kernel
theorem bb_str : bootBuiltins "str" = some (.type "str") := by decide +kernel
theorem bb_list : bootBuiltins "list" = some (.type "list") := by decide +kernel
theorem bb_tuple : bootBuiltins "tuple" = some (.type "tuple") := by decide +kernel
theorem cd_len {d : D} {ds : List D} (s : Sq M d ds) (q : P (.int (ds.length : Int)) M) : CD X (.builtin "len") [d] M P :=
  ⟨_, call_len_seq, fun F H vs Q o r k => by
    cases r with
    | cons h1 r =>
      cases r
      obtain ⟨a, xs, rfl, h2, r2⟩ := s.get o h1
      refine ⟨a, xs, rfl, h2, ?_⟩
      rw [r2.length]
      exact k.here q o (.int _)⟩
theorem cd_lenS {z : Str} (hz : z.length ≤ 1000000) (q : P (.int (z.length : Int)) M) : CD X (.builtin "len") [.str z] M P :=
  ⟨_, call_len_str, fun F H vs Q o r k => by
    cases r with
    | cons h1 r =>
      cases r
      cases h1
      exact ⟨z, rfl, by rw [sizeLine_eq]; omega, k.here q o (.int _)⟩⟩
theorem cd_list {d : D} {ds : List D} (s : Sq M d ds) (q : P (.lst ds) M) : CD X (.type "list") [d] M P :=
  ⟨_, call_list_of, fun F H vs Q o r k => by
    cases r with
    | cons h1 r =>
      cases r
      obtain ⟨a, xs, rfl, h2, r2⟩ := s.get o h1
      exact ⟨a, xs, rfl, h2, fun l hl => k _ _ _ _ _ q (o.fixSame hl) (o.fix hl) (.lst upd_same (r2.mono (o.fixSame hl)))⟩⟩
theorem cd_tuple {d : D} {ds : List D} (s : Sl M d ds) (q : P (.tup ds) M) : CD X (.type "tuple") [d] M P :=
  ⟨_, call_tuple_of, fun F H vs Q o r k => by
    cases r with
    | cons h1 r =>
      cases r
      obtain ⟨a, xs, rfl, h2, r2⟩ := s.get o h1
      exact ⟨a, xs, rfl, .inl ⟨SqL.of h2, fun l hl => k _ _ _ _ _ q (o.fixSame hl) (o.fix hl) (.tup (SqT.of upd_same) (r2.mono (o.fixSame hl)))⟩⟩⟩
theorem cd_tupleT {ds : List D} (q : P (.tup ds) M) : CD X (.type "tuple") [.tup ds] M P :=
  ⟨_, call_tuple_of, fun F H vs Q o r k => by
    cases r with
    | cons h1 r =>
      cases r
      cases h1 with
      | tup h2 r2 => exact ⟨_, _, rfl, .inr ⟨same_t o.ex h2, k.here q o (.tup h2 r2)⟩⟩⟩
theorem cd_intB {t : Bool} (q : P (.int (if t = true then 1 else 0)) M) : CD X (.type "int") [.bl t] M P :=
  ⟨_, call_int1, fun F H vs Q o r k => by
    cases r with
    | cons h1 r =>
      cases r
      cases h1
      exact .inr ⟨t, rfl, k.here q o (.int _)⟩⟩
theorem cd_intI {t : Int} (q : P (.int t) M) : CD X (.type "int") [.int t] M P :=
  ⟨_, call_int1, fun F H vs Q o r k => by
    cases r with
    | cons h1 r =>
      cases r
      cases h1
      exact .inl ⟨t, rfl, k.here q o (.int _)⟩⟩
theorem cd_abs {t : Int} (q : P (.int (if t < 0 then -t else t)) M) : CD X (.builtin "abs") [.int t] M P :=
  ⟨_, call_abs, fun F H vs Q o r k => by
    cases r with
    | cons h1 r =>
      cases r
      cases h1
      exact ⟨t, rfl, k.here q o (.int _)⟩⟩
/-! ### == and repr of data -/
mutual
def D.py : D → Option PyData
  | .non => some .none
  | .bl b => some (.bool b)
  | .int i => some (.int i)
  | .str x => some (.str x)
  | .tup ds => (pys ds).map .tuple
  | .lst ds => (pys ds).map .list
  | _ => none
def pys : List D → Option (List PyData)
  | [] => some []
  | d :: ds => (D.py d).bind fun z => (pys ds).map fun zs => z :: zs
end
mutual
theorem Rp.dp (hs : Same F H) : ∀ {d : D} {v : V} {z : PyData}, Rp K F v d → d.py = some z → Dp K H v z
  | .non, _, z, .non, e => by simp [D.py] at e; subst e; exact .non
  | .bl b, _, z, .bl _, e => by simp [D.py] at e; subst e; exact .bl b
  | .int i, _, z, .int _, e => by simp [D.py] at e; subst e; exact .int i
  | .str x, _, z, .str _, e => by simp [D.py] at e; subst e; exact .str x
  | .tup ds, _, z, .tup h r, e => by
    rw [D.py] at e
    obtain ⟨zs, h1, rfl⟩ := Option.map_eq_some_iff.mp e
    exact .tup (same_t hs h) (Rps.dps hs r h1)
  | .lst ds, _, z, .lst h r, e => by
    rw [D.py] at e
    obtain ⟨zs, h1, rfl⟩ := Option.map_eq_some_iff.mp e
    exact .lst (SqL.of (hs _ _ h)) (Rps.dps hs r h1)
  | .adr _, _, z, _, e => by simp [D.py] at e
  | .ty _, _, z, _, e => by simp [D.py] at e
  | .ins _ _, _, z, _, e => by simp [D.py] at e
  | .scr _, _, z, _, e => by simp [D.py] at e
  | .dct _, _, z, _, e => by simp [D.py] at e
  | .stup _, _, z, _, e => by simp [D.py] at e
theorem Rps.dps (hs : Same F H) : ∀ {ds : List D} {vs : List V} {zs : List PyData}, Rps K F vs ds → pys ds = some zs → DpAll K H vs zs
  | [], _, zs, .nil, e => by simp [pys] at e; subst e; exact .nil
  | d :: ds, _, zs, .cons h r, e => by
    rw [pys] at e
    obtain ⟨z, h1, e⟩ := Option.bind_eq_some_iff.mp e
    obtain ⟨ws, h2, rfl⟩ := Option.map_eq_some_iff.mp e
    exact .cons (Rp.dp hs h h1) (Rps.dps hs r h2)
end
theorem od_eqD {d1 d2 : D} {z1 z2 : PyData} (hu : X.A.units + 64 < cLine) (h1 : d1.py = some z1) (h2 : d2.py = some z2) (s1 : SeqAt.shaped z1 = true) (s2 : SeqAt.shaped z2 = true) (q : P (.bl (PyData.eqv z1 z2)) M) : OD X (compareOp .Eq) d1 d2 M P :=
  ⟨_, op_eqD hu, fun F H v u Q o rx ry k => ⟨z1, z2, rx.dp o.ex h1, ry.dp o.ex h2, s1, s2, k.here q o (.bl _)⟩⟩
theorem od_neD {d1 d2 : D} {z1 z2 : PyData} (hu : X.A.units + 64 < cLine) (h1 : d1.py = some z1) (h2 : d2.py = some z2) (s1 : SeqAt.shaped z1 = true) (s2 : SeqAt.shaped z2 = true) (q : P (.bl (!PyData.eqv z1 z2)) M) : OD X (compareOp .NotEq) d1 d2 M P :=
  ⟨_, op_neD hu, fun F H v u Q o rx ry k => ⟨z1, z2, rx.dp o.ex h1, ry.dp o.ex h2, s1, s2, k.here q o (.bl _)⟩⟩
end
end DX
namespace DX
open PySem PySem.Spec L2

/-! ### defs that are called where no guard stands: what repr asks -/
structure FnG (pg : Program) (w : World) (K : PySem.W.Frag) (mg : Str → Option Value) (base : Heap) (k : Nat) (f : Addr) (fd : FuncData) (ps : List Str) (T : Tr) : Prop where
  len : ∀ ds M P, T ds M P → ds.length = ps.length
  go : ∀ (A : Around) (outer : List PySem.Env) (s : Shared) (H F : Hp) (M : Mem) (ds : List D) (P : D → Mem → Prop) (args : Args) (us : List Value) (vs : List V) (Q : VK), A.guards = some [] → Room k A → Env0 pg w K mg base A outer s H →
    BindsTo s fd args (ps.zip us) → Vals vs us → Ok K F M H → Rps K F vs ds → T ds M P → Kt K F P Q → codeAny (model pg w) A (.call (.ref f) args) (CR CX0 outer pg w H s Q E0) s
theorem FnG.mono {pg : Program} {w : World} {K : PySem.W.Frag} {mg : Str → Option Value} {base : Heap} {j k : Nat} {f : Addr} {fd : FuncData} {ps : List Str} {T : Tr} (G : FnG pg w K mg base j f fd ps T) (h : j ≤ k) : FnG pg w K mg base k f fd ps T :=
  ⟨G.len, fun A outer s H F M ds P args us vs Q g hr => G.go A outer s H F M ds P args us vs Q g (hr.mono h)⟩
section
variable {X : Cx} {J : Gh} {e a b c : Expr} {es : List Expr} {ρ ρ' : DEnv} {M M' : Mem} {F F' H H' : Hp} {σ : St} {B : Bd} {K : PySem.W.Frag} {pos p apos : Pos} {x : Str} {P : D → Mem → Prop}
theorem run_fnG {k : Nat} {f : Addr} {fd : FuncData} {ps : List Str} {T : Tr} {dvs : List V} {dds : List D} {dus : List Value} {pins : List (Addr × Obj)} {s : Shared} {Q : VK} {us : List Value} {vs : List V} {ds : List D} (G : FnG X.prog X.w X.K X.mg X.base k f fd ps T) (hg : X.A.guards = some []) (hr : Room k X.A)
    (hb : Binds X.K fd ps dus) (hd : Vals dvs dus) (hdd : ∀ F, Rps X.K F dvs dds) (I : L2.Inv X pins σ H s) (r : Vals vs us) (o : Ok X.K F M H) (rd : Rps X.K F vs ds) (t : T (ds ++ dds) M P) (kt : Kt X.K F P Q) :
    wpAny (model X.prog X.w) X.A (call (.ref f) us) (EP X pins σ Q) X.xe s := by
  have both : Vals (vs ++ dvs) (us ++ dus) := r.append hd
  have size : (us ++ dus).length = ps.length := by rw [← both.length, (rd.append (hdd F)).length]; exact G.len _ _ _ t
  refine wpAny_call (codeAny_mono (G.go X.A X.stack s H F M _ P ⟨us, []⟩ (us ++ dus) (vs ++ dvs) Q hg hr I.env0 (hb s us I.kIn size) both o (rd.append (hdd F)) t kt) fun res s' end_ => ?_)
  match res, end_ with
  | .error _, end_ => exact end_.elim
  | .ok (.ret _), end_ => exact I.after end_
  | .ok .next, end_ => exact end_.elim
  | .ok .brk, end_ => exact end_.elim
  | .ok .cont, end_ => exact end_.elim
/-- f(e, ..) -/
theorem ex_callG {k : Nat} {f : Addr} {fd : FuncData} {ps : List Str} {T : Tr} {dvs : List V} {dds : List D} {dus : List Value} (G : FnG X.prog X.w X.K X.mg X.base k f fd ps T) (hgd : X.A.guards = some []) (hr : Room k X.A) (hm : X.mg x = some (.ref f)) (hk : PySem.W.keepIn X.K (.ref f) = true)
    (hb : Binds X.K fd ps dus) (hd : Vals dvs dus) (hdd : ∀ F, Rps X.K F dvs dds) (h : AX X J (e :: es) ρ M fun ds M1 => T (ds ++ dds) M1 P) (hg : Gl X x := by rfl) (hdb : (x == ("__debug__" : Str)) = false := by decide)
    (he : starEach (e :: es) X.env = (false, eval e X.env) :: starEach es X.env := by rfl) (hpl : (backTo pos (starEach es X.env)).any (·.1) = false := by rfl) : EX X J (.Call (.Name x p) (e :: es) [] pos) ρ M P := by
  refine ⟨fun pins s σ H Q I ⟨F, st, kt⟩ => wpAny_Call_Name_kw (ld_glob I hg hm (PySem.W.callWith_K (h₀ := X.base) I.ok.mod.kin hk (thn ((pa_any (X := X) (es := e :: es)).run pos pins s σ H (fun vs H1 => ∃ F1 M1 ds, Same F F1 ∧ Ok X.K F1 M1 H1 ∧ Rps X.K F1 vs ds ∧ T (ds ++ dds) M1 P) I
    (h.go st fun ds vs M1 F1 H1 q e1 o1 r1 => ⟨F1, M1, ds, e1, o1, r1, q⟩)) fun us s1 ⟨vs, H1, I1, r, F1, M1, ds, e1, o1, rd, t⟩ => ⟨I1.kIn, run_fnG G hgd hr hb hd hdd I1 r o1 rd t (kt.to e1)⟩) he hpl) hdb)⟩
end
/-- a def by its body -/
theorem fn_okG {pg : Program} {w : World} {K : PySem.W.Frag} {mg : Str → Option Value} {base : Heap} {x qual : Str} {params : Arguments} {body : List Stmt} {scope : Scope} {dvs : List V} {kws : List (Str × V)} {f : Addr} {fd : FuncData} {N ps : List Str} {k : Nat} {T : Tr}
    (F : FunD K x qual params body scope dvs kws f fd) (S : FnScope N ps scope) (len : ∀ ds M P, T ds M P → ds.length = ps.length)
    (hbody : ∀ (cdv : Value) (A : Around) (outer : List PySem.Env) (s : Shared) (H : Hp) (ds : List D) (M : Mem) (P : D → Mem → Prop), A.guards = some [] → Room k (A.deeper (PyProof.Rows.envOfC qual scope s.heap.objs.size f cdv)) → T ds M P →
      GX (cxOf CX0 pg w K mg base N qual scope f cdv A outer s H E0).nox Gh.triv body (startD (N.length - ps.length) ds) M ⟨fun _ M' => P .non M', P, fun _ _ => False, fun _ _ => False⟩) : FnG pg w K mg base (k + 1) f fd ps T := by
  obtain ⟨oc, od, dV, kV, doc, pm, an, cdv, ct, osl, rfl, lk, hcd, _, _⟩ := F.ex
  refine ⟨len, fun A outer s H F0 M ds P args us vs Q hg hr e0 hb rv o rd t kt => ?_⟩
  have many : vs.length = ps.length := by rw [rd.length]; exact len ds M P t
  have here : K.In s.heap := e0.mod.kin.keeps fun ad ob z => (e0.bs ad ob z).1
  have free : s.heap.NoLimit := e0.mod.nolimit.keeps fun ad ob z => (e0.bs ad ob z).1
  have kinds : ∀ q ∈ ps.zip us, scope.names.lookup q.1 = some .local ∨ (scope.names.lookup q.1 = some .cell ∧ ((PySem.cellsFrom (s.heap.objs.size + 1) scope.names []).lookup q.1).isSome = true) := by
    rintro ⟨n, v⟩ hq
    exact (S.par n (List.of_mem_zip hq).1).imp id fun z => ⟨z, PySem.W.cellsFrom_some _ _ _ (.inl z)⟩
  refine codeAny_call_function hr.depth (here _ _ lk) rfl S.co S.gen rfl (PySem.W.codeRec_of here hcd) (hb _ _ _ _ (wpAny_newFunctionEnv_cells S.kind kinds fun env hen s1 inside => ?_))
  subst hen
  refine ⟨free.keeps inside.toInCall.keep, codeAny_func ?_⟩
  have body_ := hbody cdv A outer s H ds M P hg (hr.deeper _) t
  have J0 : L2.Inv (cxOf CX0 pg w K mg base N qual scope f cdv A outer s H E0) [] (L2.start N vs) H s1 := inv_start S hr.hd e0 many rv inside
  have en : En K F0 (L2.start N vs) (startD (N.length - ps.length) ds) := by
    unfold L2.start
    rw [many]
    exact En.start _ rd
  have kd : Kd K F0 ⟨fun _ M' => P .non M', P, fun _ _ => False, fun _ _ => False⟩ { nx := fun _ H' => Q .non H', rt := Q } :=
    ⟨fun F' σ' H' ρ' M' q z1 z2 z3 => kt _ _ _ _ _ q z1 z3 .non, kt, fun F' σ' H' ρ' M' q => q.elim, fun F' σ' H' ρ' M' q => q.elim⟩
  refine wpAny_mono ((PSs.nox (X := cxOf CX0 pg w K mg base N qual scope f cdv A outer s H E0) (show PSs (cxOf CX0 pg w K mg base N qual scope f cdv A outer s H E0).nox body _ from body_)).run [] s1 (L2.start N vs) H _ J0 ⟨F0, ⟨en, o, trivial⟩, kd⟩) (fun fl s' q => ?_) fun er s' q => q
  match fl, q with
  | .ret u, ⟨v, σ', H', I, r, q⟩ => exact ⟨v, H', I.os, I.bare, I.base, I.hok, r, q⟩
  | .next, ⟨σ', H', I, q⟩ => exact ⟨V.non, H', I.os, I.bare, I.base, I.hok, rfl, q⟩
  | .brk, ⟨_, _, _, q⟩ => exact q.elim
  | .cont, ⟨_, _, _, q⟩ => exact q.elim

/-! ### the law's own call -/
/-- the script is handed in as a list that is known to its object, or one of the module's -/
theorem law_goG {pg : Program} {w : World} {K : PySem.W.Frag} {mg mb : Str → Option Value} {k : Nat} {fa a : Addr} {fd : FuncData} {x : Str} {T : Tr} {s1 : Shared} {vs : List Value} {ns : List Int}
    (KX : K.In s1.heap) (gN : s1.heap.Ns mainGlobals mg) (bN : s1.heap.Ns builtinsNs mb) (bA : ∀ y : Str, y ≠ "__name__" → mb y = bootBuiltins y) (lim : s1.heap.NoLimit) (gens : s1.gens = #[])
    (ha : s1.heap.get? a = some { cls := .type "list", data := .seq vs.toArray }) (hi : PyProof.Rows.IntsAre vs ns) (hl : ns.length ≤ sizeLine) (hr : Room k callerA)
    (G : ∀ base : Heap, K.In base → base.Ns mainGlobals mg → FnG pg w K mg base k fa fd [x] T) (hb : ∀ (s : Shared) (u : Value), BindsTo s fd ⟨[u], []⟩ [(x, u)])
    (ht : ∀ H : Hp, SqL K H a (ns.map V.int) → ∃ F M ds, Ok K F M H ∧ Rps K F [.ref a] ds ∧ T ds M fun d _ => d = .bl true) :
    codeAny (model pg w) callerA (.call (.ref fa) ⟨[.ref a], []⟩) (fun r s' => r = .ok (.ret (.bool true)) ∧ OldK s1.heap s'.heap ∧ s'.os = s1.os ∧ PyProof.Rows.AllBare s'.gens) s1 := by
  have vals := vals_ints hi
  have main : ∀ H : Hp, (∀ b u, H b = some u → b = a ∧ K.lookup a = none ∧ u = .frz { cls := .type "list", data := .seq vs.toArray } (.lst (ns.map V.int))) → SqL K H a (ns.map V.int) → HOk pg w H s1.heap →
      codeAny (model pg w) callerA (.call (.ref fa) ⟨[.ref a], []⟩) (fun r s' => r = .ok (.ret (.bool true)) ∧ OldK s1.heap s'.heap ∧ s'.os = s1.os ∧ PyProof.Rows.AllBare s'.gens) s1 := by
    intro H only seq hok
    have kept : ∀ {b : Addr} {m : Str → Option Value}, s1.heap.Ns b m → (hidT s1.heap H).Ns b m := by
      rintro b m ⟨ob, es, ep, h1, h2, h3⟩
      refine ⟨ob, es, ep, hidT_get h1 ?_, h2, h3⟩
      cases q : H b with
      | none => rfl
      | some u =>
        obtain ⟨rfl, _, _⟩ := only b u q
        rw [ha] at h1; cases h1
        cases h2
    have kin : K.In (hidT s1.heap H) := by
      intro b ob h1
      refine hidT_get (KX b ob h1) ?_
      cases q : H b with
      | none => rfl
      | some u =>
        obtain ⟨rfl, h2, _⟩ := only b u q
        rw [h2] at h1; cases h1
    have start_ : Env0 pg w K mg (hidT s1.heap H) callerA [] s1 H :=
      ⟨rfl, ⟨kin, kept gN, ⟨mb, kept bN, bA⟩, let ⟨mc, z1, z2⟩ := lim; ⟨mc, kept z1, z2⟩⟩, fun b ob z => of_hidT z, Nat.le_of_eq (hidT_size _ _), trivial, fun b z => (List.not_mem_nil z).elim, hok, .of_eq gens⟩
    obtain ⟨F, M, ds, o, rd, t⟩ := ht H seq
    refine codeAny_mono ((G _ kin (kept gN)).go callerA [] s1 H F M ds _ ⟨[.ref a], []⟩ [.ref a] [.ref a] (fun v _ => v = .bl true) rfl hr start_ (hb s1 (.ref a)) (.cons rfl .nil) o rd t fun d v M' F' H' z1 _ _ z2 => by subst z1; cases z2; rfl) fun res s' end_ => ?_
    match res, end_ with
    | .error _, end_ => exact end_.elim
    | .ok .next, end_ => exact end_.elim
    | .ok .brk, end_ => exact end_.elim
    | .ok .cont, end_ => exact end_.elim
    | .ok (.ret u), ⟨v, H', h1, h2, h3, h4, h5, h6⟩ =>
      subst h6
      cases (show u = Value.bool true from h5)
      refine ⟨rfl, OldK.of_keep fun b ob z => ?_, h1, h2⟩
      cases q : H b with
      | none => exact h3.keep b ob z q List.not_mem_nil List.not_mem_nil
      | some u =>
        obtain ⟨rfl, _, rfl⟩ := only b u q
        obtain ⟨e1, _⟩ := h4 b _ (h3.frzs b _ _ q)
        rw [ha] at z; cases z
        exact e1
  cases q : K.lookup a with
  | some ob =>
    have e1 := KX a ob q
    rw [ha] at e1; cases e1
    exact main (fun _ => none) (fun b u z => by cases z) (.inr ⟨_, vs.toArray, _, q, rfl, rfl, rfl, by simpa [hi.length] using hl, by simpa using vals⟩) fun b u z => by cases z
  | none =>
    have own : ∀ b u, (if b = a then some (HO.frz { cls := .type "list", data := .seq vs.toArray } (.lst (ns.map V.int))) else none) = some u → b = a ∧ u = .frz { cls := .type "list", data := .seq vs.toArray } (.lst (ns.map V.int)) := by
      intro b u z
      by_cases e : b = a
      · rw [if_pos e] at z; cases z; exact ⟨e, rfl⟩
      · rw [if_neg e] at z; cases z
    refine main (fun b => if b = a then some (.frz { cls := .type "list", data := .seq vs.toArray } (.lst (ns.map V.int))) else none) (fun b u z => ⟨(own b u z).1, q, (own b u z).2⟩) (.inl (.inr ⟨_, if_pos rfl⟩)) fun b u z => ?_
    obtain ⟨rfl, rfl⟩ := own b u z
    exact ⟨ha, by rw [List.length_map]; exact hl, vs, _, vals, ha⟩
theorem walk_ofG {l : PySem.W.OpenLaw} {k : Nat} {q : Program} {loose : List Str} {XP : (Str → Option Value) → Heap → Prop} {YP : World → Heap → Prop} {d : DefRec} {x : Str} (hn : l.most = some 63) (hdf : d.params.defaults = []) (hr : Room k callerA)
    (G : ∀ (w : World) (mg : Str → Option Value) (fa : Addr) (h : Heap), YP w h → h.Ns mainGlobals mg → mg d.name = some (.ref fa) →
      ∃ (K : PySem.W.Frag) (fd : FuncData) (T : Tr), K.In h ∧ (∀ (s : Shared) (u : Value), BindsTo s fd ⟨[u], []⟩ [(x, u)]) ∧
        (∀ (H : Hp) (a : Addr) (ns : List Int), ns.length ≤ 63 → SqL K H a (ns.map V.int) → ∃ F M ds, Ok K F M H ∧ Rps K F [.ref a] ds ∧ T ds M fun d _ => d = .bl true) ∧
        ∀ base : Heap, K.In base → base.Ns mainGlobals mg → FnG l.prog w K mg base k fa fd [x] T) :
    PySem.W.WalkO q loose XP YP l.row.toRowW d [] (fun f vs => PySem.call f vs) :=
  Att.attach_call hn hdf fun w s0 s1 mg mb fa o pm cd doc a vs ns Gr Y ho hd hcd hmg hobj hints hlen hgens => by
    obtain ⟨K, fd, T, KX, hb, ht, hF⟩ := G w mg fa _ Y Gr.T.g hmg
    exact law_goG KX Gr.T.g Gr.T.b Gr.T.builtins Gr.T.nolimit hgens hobj hints (Nat.le_trans hlen (by decide)) hr hF hb fun H hS => ht H a ns hlen hS

/-! ### repr -/
theorem repr_all {K : PySem.W.Frag} {X : Cx} {pins : List (Addr × Obj)} {σ : St} {H : Hp} {s : Shared} {z : PyData} {v : V} {u : Value} {Q : Value → Shared → Prop} (hg : X.A.guards = some []) (hu : X.A.units + (z.depth + 1) < cLine) (I : L2.Inv X pins σ H s) (h : Dp X.K H v z) (r : RelV v u) (hs : z.showable = true) (hd : z.hasDict = false)
    (hz : z.shown.length ≤ sizeLine) (k : ∀ t s', L2.Inv X pins σ H s' → Q (.str z.shown t) s') : wpAny (model X.prog X.w) X.A (call (.builtin "repr") [u]) Q X.xe s := by
  cases h with
  | non => cases r; exact PySem.P.repr_of_none (by simpa [PyData.shown] using k _ _ (I.tok _))
  | bl b => cases r; exact PySem.P.repr_of_bool (by simpa [PyData.shown] using k _ _ (I.tok _))
  | int i =>
    obtain ⟨t, rfl⟩ := r
    exact PySem.P.repr_of_int (by simpa [PyData.showable] using hs) (by simpa [PyData.shown] using k _ _ (I.tok _))
  | str y =>
    obtain ⟨t, rfl⟩ := r
    exact PySem.P.repr_of_str (by simpa [PyData.shown] using k _ _ (I.tok _)) (by simpa [PyData.shown] using hz)
  | lst h1 h2 =>
    obtain ⟨as, rd⟩ := Dp.reads I _ _ u (.lst h1 h2) r
    cases r
    exact repr_of_reads' rd hs (fun q => by rw [hd] at q; cases q) hg hu (fun b ob z => z) (fun h' t tk hk => k t _ (I.kept hk)) hz
  | tup h1 h2 =>
    obtain ⟨as, rd⟩ := Dp.reads I _ _ u (.tup h1 h2) r
    cases r
    exact repr_of_reads' rd hs (fun q => by rw [hd] at q; cases q) hg hu (fun b ob z => z) (fun h' t tk hk => k t _ (I.kept hk)) hz
end DX
namespace DX
open PySem PySem.Spec L2

/-! ### what can be shown and compared as data -/
mutual
/-- ints below 2^200, texts of signs, lists and tuples of such -/
def good : D → Prop
  | .non => True
  | .bl _ => True
  | .int i => -(2 ^ 200) ≤ i ∧ i ≤ 2 ^ 200
  | .str x => PyData.strOk x = true
  | .tup ds => goods ds
  | .lst ds => goods ds
  | _ => False
def goods : List D → Prop
  | [] => True
  | d :: ds => good d ∧ goods ds
end
mutual
/-- at least as much as its text is long -/
def wt : D → Nat
  | .str x => 10 * x.length + 2
  | .tup ds => wts ds + 3
  | .lst ds => wts ds + 3
  | _ => 64
def wts : List D → Nat
  | [] => 0
  | d :: ds => wt d + 2 + wts ds
end
mutual
def dep : D → Nat
  | .tup ds => deps ds + 1
  | .lst ds => deps ds + 1
  | _ => 0
def deps : List D → Nat
  | [] => 0
  | d :: ds => max (dep d) (deps ds)
end
mutual
def pyd : D → PyData
  | .bl b => .bool b
  | .int i => .int i
  | .str x => .str x
  | .tup ds => .tuple (pyds ds)
  | .lst ds => .list (pyds ds)
  | _ => .none
def pyds : List D → List PyData
  | [] => []
  | d :: ds => pyd d :: pyds ds
end
/-- the text that repr gives -/
def txt (d : D) : Str := (pyd d).shown
theorem small_log {i : Int} (h : -(2 ^ 200) ≤ i ∧ i ≤ 2 ^ 200) : i.natAbs.log2 < 1920 := by
  have h1 : i.natAbs ≤ 2 ^ 200 := by omega
  by_cases h0 : i.natAbs = 0
  · rw [h0]; decide
  · rw [Nat.log2_lt h0]
    exact Nat.lt_of_le_of_lt h1 (by decide)
mutual
theorem good_py : ∀ {d : D}, good d → d.py = some (pyd d)
  | .non, _ => rfl
  | .bl _, _ => rfl
  | .int _, _ => rfl
  | .str _, _ => rfl
  | .tup ds, h => by rw [D.py, goods_py h]; rfl
  | .lst ds, h => by rw [D.py, goods_py h]; rfl
theorem goods_py : ∀ {ds : List D}, goods ds → pys ds = some (pyds ds)
  | [], _ => rfl
  | d :: ds, h => by rw [pys, good_py h.1, goods_py h.2]; rfl
end
mutual
theorem good_lay : ∀ {d : D}, good d → (pyd d).canLay0 = true
  | .non, _ => by simp [pyd, PyData.canLay0]
  | .bl _, _ => by simp [pyd, PyData.canLay0]
  | .int _, _ => by simp [pyd, PyData.canLay0]
  | .str _, h => by simp only [pyd, PyData.canLay0]; exact h
  | .tup ds, h => by simp only [pyd, PyData.canLay0]; exact goods_lay h
  | .lst ds, h => by simp only [pyd, PyData.canLay0]; exact goods_lay h
theorem goods_lay : ∀ {ds : List D}, goods ds → PyData.canLayAll0 (pyds ds) = true
  | [], _ => by simp [pyds, PyData.canLayAll0]
  | d :: ds, h => by simp only [pyds, PyData.canLayAll0, good_lay h.1, goods_lay h.2, Bool.and_self]
end
mutual
theorem good_show : ∀ {d : D}, good d → (pyd d).showable = true
  | .non, _ => by simp [pyd, PyData.showable]
  | .bl _, _ => by simp [pyd, PyData.showable]
  | .int i, h => by simp only [pyd, PyData.showable]; exact decide_eq_true (small_log h)
  | .str _, h => by simp [pyd, PyData.showable]
  | .tup ds, h => by simp only [pyd, PyData.showable]; exact goods_show h
  | .lst ds, h => by simp only [pyd, PyData.showable]; exact goods_show h
theorem goods_show : ∀ {ds : List D}, goods ds → PyData.showableAll (pyds ds) = true
  | [], _ => by simp [pyds, PyData.showableAll]
  | d :: ds, h => by simp only [pyds, PyData.showableAll, good_show h.1, goods_show h.2, Bool.and_self]
end
mutual
theorem dep_py : ∀ {d : D}, good d → (pyd d).depth ≤ dep d + 1
  | .non, _ => by simp [pyd, PyData.depth]
  | .bl _, _ => by simp [pyd, PyData.depth]
  | .int i, h => by simp [pyd, PyData.depth]
  | .str _, h => by simp [pyd, PyData.depth]
  | .tup ds, h => by simp only [pyd, PyData.depth, dep]; have := deps_py (ds := ds) h; omega
  | .lst ds, h => by simp only [pyd, PyData.depth, dep]; have := deps_py (ds := ds) h; omega
theorem deps_py : ∀ {ds : List D}, goods ds → PyData.depthAll (pyds ds) ≤ deps ds + 1
  | [], _ => by simp [pyds, PyData.depthAll]
  | d :: ds, h => by
    simp only [pyds, PyData.depthAll, deps]
    have h1 := dep_py h.1
    have h2 := deps_py h.2
    omega
end
mutual
theorem wt_py : ∀ {d : D}, good d → (pyd d).shown.length ≤ wt d
  | .non, _ => by simp only [pyd, PyData.shown, wt]; decide +kernel
  | .bl b, _ => by cases b <;> (simp only [pyd, PyData.shown, wt]; decide +kernel)
  | .int i, h => by
    simp only [pyd, PyData.shown, wt]
    have h0 : -(2 ^ 200) ≤ i ∧ i ≤ 2 ^ 200 := h
    have h1 : i.natAbs < 10 ^ 61 := Nat.lt_of_le_of_lt (show i.natAbs ≤ 2 ^ 200 by omega) (by decide)
    have h2 := int_text_length_le10 (a := i) (k := 61) (by decide) h1
    rw [← PySem.ofString_length] at h2
    omega
  | .str x, h => by
    simp only [pyd, PyData.shown, wt]
    refine StrLaws.reprText_len x fun c hc => ?_
    have h1 : x.cps.all (· < 0x110000) = true := h
    have h2 := Array.all_eq_true_iff_forall_mem.mp h1 c (by simpa using hc)
    have h3 : c < 0x110000 := by simpa using h2
    exact Nat.lt_trans h3 (by decide)
  | .tup ds, h => by
    simp only [pyd, PyData.shown, wt]
    have h1 := tupleText_len_le (PyData.shownAll (pyds ds))
    have h2 := wts_py (ds := ds) h
    omega
  | .lst ds, h => by
    simp only [pyd, PyData.shown, wt]
    have h1 := listText_len_le (PyData.shownAll (pyds ds))
    have h2 := wts_py (ds := ds) h
    omega
theorem wts_py : ∀ {ds : List D}, goods ds → ((PyData.shownAll (pyds ds)).map (·.length)).sum + 2 * (PyData.shownAll (pyds ds)).length ≤ wts ds
  | [], _ => by simp [pyds, PyData.shownAll, wts]
  | d :: ds, h => by
    simp only [pyds, PyData.shownAll, wts, List.map_cons, List.sum_cons, List.length_cons]
    have h1 := wt_py h.1
    have h2 := wts_py h.2
    omega
end
mutual
theorem eqv_refl : ∀ {d : D}, good d → PyData.eqv (pyd d) (pyd d) = true
  | .non, _ => by simp [pyd, PyData.eqv]
  | .bl b, _ => by cases b <;> simp [pyd, PyData.eqv]
  | .int i, h => by simp [pyd, PyData.eqv]
  | .str _, h => by simp [pyd, PyData.eqv]
  | .tup ds, h => by simp only [pyd, PyData.eqv]; exact eqvs_refl h
  | .lst ds, h => by simp only [pyd, PyData.eqv]; exact eqvs_refl h
theorem eqvs_refl : ∀ {ds : List D}, goods ds → PyData.eqvAll (pyds ds) (pyds ds) = true
  | [], _ => by simp [pyds, PyData.eqvAll]
  | d :: ds, h => by simp only [pyds, PyData.eqvAll, eqv_refl h.1, eqvs_refl h.2, Bool.and_self]
end

section
variable {X : Cx} {J : Gh} {e a b c o : Expr} {es : List Expr} {ρ ρ' : DEnv} {M M' : Mem} {F F' H H' : Hp} {σ : St} {B : Bd} {K : PySem.W.Frag} {pos p apos cpos : Pos} {x : Str} {P : D → Mem → Prop}
def rReprD (K : PySem.W.Frag) : List V → Hp → VK → Prop := fun xs H Q => ∃ y z, xs = [y] ∧ Dp K H y z ∧ z.showable = true ∧ z.hasDict = false ∧ z.depth ≤ 60 ∧ z.shown.length ≤ sizeLine ∧ Q (.str z.shown) H
theorem call_reprD (hg : X.A.guards = some []) (hu : X.A.units + 64 < cLine) : CallR X (.builtin "repr") (rReprD X.K) := by
  intro pins s σ H vs us Q I r h
  obtain ⟨y, z, rfl, hz, h1, h2, h3, h4, q⟩ := h
  obtain ⟨u, rfl, ru⟩ := Vals.one r
  exact repr_all (K := X.K) hg (by omega) I hz ru h1 h2 h4 fun t s' I' => ⟨.str z.shown, H, I', ⟨t, rfl⟩, q⟩
theorem cd_repr {d : D} (hg : X.A.guards = some []) (hu : X.A.units + 64 < cLine) (h : good d) (hw : wt d ≤ 16000000) (hd : dep d ≤ 50) (q : P (.str (txt d)) M) : CD X (.builtin "repr") [d] M P :=
  ⟨_, call_reprD hg hu, fun F H vs Q o r k => by
    cases r with
    | cons h1 r =>
      cases r
      have h2 := dep_py h
      have h3 := wt_py h
      exact ⟨_, _, rfl, h1.dp o.ex (good_py h), good_show h, PyData.hasDict_of_canLay _ (good_lay h), by omega, by rw [sizeLine_eq]; omega, k.here q o (.str _)⟩⟩
theorem shaped_good {d : D} (h : good d) (hd : dep d ≤ 50) : SeqAt.shaped (pyd d) = true := by
  have := dep_py h
  unfold SeqAt.shaped
  rw [good_lay h, Bool.true_and]
  exact decide_eq_true (by omega)
/-- == of data -/
def eqD (d1 d2 : D) : Bool := PyData.eqv (pyd d1) (pyd d2)
theorem eqD_refl {d : D} (h : good d) : eqD d d = true := eqv_refl h
theorem od_eqG {d1 d2 : D} (hu : X.A.units + 64 < cLine) (h1 : good d1) (h2 : good d2) (s1 : dep d1 ≤ 50) (s2 : dep d2 ≤ 50) (q : P (.bl (eqD d1 d2)) M) : OD X (compareOp .Eq) d1 d2 M P :=
  od_eqD hu (good_py h1) (good_py h2) (shaped_good h1 s1) (shaped_good h2 s2) q
theorem od_neG {d1 d2 : D} (hu : X.A.units + 64 < cLine) (h1 : good d1) (h2 : good d2) (s1 : dep d1 ≤ 50) (s2 : dep d2 ≤ 50) (q : P (.bl (!eqD d1 d2)) M) : OD X (compareOp .NotEq) d1 d2 M P :=
  od_neD hu (good_py h1) (good_py h2) (shaped_good h1 s1) (shaped_good h2 s2) q

/-! ### lists that change -/
/-- at h stands d; with another in its place the memory is f of it -/
structure At (M : Mem) (h : Addr) (d : D) (f : D → Mem) : Prop where
  get : M h = some d
  set : ∀ d', f d' = up M h d'
theorem at0 {h : Addr} {d : D} : At (up M h d) h d (fun d' => up M h d') := ⟨up_same, fun _ => up_up.symm⟩
theorem at1 {h q : Addr} {d l : D} {f : D → Mem} (hq : h ≠ q) (A : At M h d f) : At (up M q l) h d (fun d' => up (f d') q l) :=
  ⟨by rw [up_ne hq]; exact A.get, fun d' => by rw [A.set, up_comm hq]⟩
theorem at_gen {h : Addr} {d : D} (e : M h = some d) : At M h d (fun d' => up M h d') := ⟨e, fun _ => rfl⟩
/-- x.append(e) -/
theorem tyV_lst {K : PySem.W.Frag} {a : Addr} {xs : List V} {H : Hp} (h : H a = some (.lst xs)) : tyV K "list" (.ref a) H := Or.inl ⟨rfl, _, Or.inl (Or.inl h)⟩
theorem ex_append (h : EX X J o ρ M fun d M1 => ∃ q ds1, d = .adr q ∧ M1 q = some (.lst ds1) ∧ AX X J [e] ρ M1 fun ys M2 => ∃ y ds f, ys = [y] ∧ At M2 q (.lst ds) f ∧ ds.length < 1000000 ∧ P .non (f (.lst (ds ++ [y]))))
    (hbase : attributeBase o "append" X.env (eval o X.env) = eval o X.env := by rfl)
    (few : ((backTo cpos (starEach [e] X.env)).all (fun x => !x.1) && (backToKw cpos (keywordEach [] X.env)).all (fun x => x.1.isSome) && decide ([e].length + ([] : List Keyword).length + (if ([] : List Keyword).isEmpty then 0 else 1) < 30)) = true := by rfl)
    (line : (apos.endLine == cpos.line) = true := by rfl) (hst : starEach [e] X.env = (false, eval e X.env) :: starEach [] X.env := by rfl) (hpl : (backTo cpos (starEach [] X.env)).any (·.1) = false := by rfl) :
    EX X J (.Call (.Attribute o "append" apos) [e] [] cpos) ρ M P :=
  ex_of (pe_bm PySem.F.plainAttrs_list PySem.F.slot_list_append PySem.F.type_list_append mt_append pe_any pa_any hbase few line hst hpl) fun F σ H Q st k => h.go st fun d v M1 F1 H1 q1 e1 o1 r1 => by
    obtain ⟨q, ds1, rfl, hq, q2⟩ := q1
    cases r1
    obtain ⟨_, xs1, hx1, _⟩ := o1.mt _ _ hq
    refine ⟨tyV_lst hx1, q2.go (st.to e1 o1) fun ys vs M2 F2 H2 q3 e2 o2 r2 => ?_⟩
    obtain ⟨y, ds, f, rfl, hA, hz, q3⟩ := q3
    cases r2 with
    | cons r2 r3 =>
      cases r3
      obtain ⟨_, xs, hx, rx⟩ := o2.mt _ _ hA.get
      refine ⟨q, xs, _, rfl, rfl, hx, by rw [rx.length, sizeLine_eq]; omega, k _ _ _ _ _ q3 (e1.trans e2) ?_ .non⟩
      rw [hA.set]
      exact o2.set (o := .lst (xs ++ [_])) hA.get ⟨_, upd_same, rx.append (.cons r2 .nil)⟩
/-- x[i] = e -/
theorem g1_setIx {tp : Pos} (h : EX X J e ρ M fun y M1 => EX X J o ρ M1 fun d M2 => EX X J a ρ M2 fun i M3 => ∃ q ds f n m, d = .adr q ∧ i = .int n ∧ At M3 q (.lst ds) f ∧ ixN ds.length n = some m ∧ B.nx ρ (f (.lst (ds.set m y))))
    (hs : swapsWithSole [.Subscript o a tp] e pos.line X.env = pure false := by rfl) (hw : swappedStores [.Subscript o a tp] e X.env = pure none := by rfl)
    (h1 : (assignEach [.Subscript o a tp] X.env).map (·.2) = [assign (.Subscript o a tp) X.env] := by rfl)
    (ha : ∀ v, assign (.Subscript o a tp) X.env v = (do let ov ← holding [v] (eval o X.env); let iv ← holding [v, ov] (eval a X.env); standAt tp; holding [v, ov, iv] (setItem ov iv v); release [v, ov, iv] []) := by intro _; rfl) : G1 X J (.Assign [.Subscript o a tp] e pos) ρ M B :=
  g1_of (ps_asg pe_any (pg_sub pe_any pe_any set_list ha) hs hw h1) fun F σ H E s k => h.go s fun y v M1 F1 H1 q1 e1 o1 r1 => q1.go (s.to e1 o1) fun d w M2 F2 H2 q2 e2 o2 r2 => q2.go (s.to (e1.trans e2) o2) fun i u M3 F3 H3 q3 e3 o3 r3 => by
    obtain ⟨q, ds, f, n, m, rfl, rfl, hA, hm, q3⟩ := q3
    cases r2; cases r3
    obtain ⟨_, xs, hx, rx⟩ := o3.mt _ _ hA.get
    refine ⟨q, xs, n, m, rfl, rfl, hx, by rw [rx.length]; exact hm, k.nx F3 _ _ _ _ q3 ((e1.trans e2).trans e3) (((s.en.mono e1).mono e2).mono e3) ?_⟩
    rw [hA.set]
    exact o3.set (o := .lst (xs.set m v)) hA.get ⟨_, upd_same, rx.set m ((r1.mono e2).mono e3)⟩

/-! ### keywords -/
def pick {α : Type} (l : List α) (ix : List Nat) : List α := ix.filterMap fun i => l[i]?
theorem pick_vals {vs : List V} {us : List Value} (r : Vals vs us) : ∀ ix : List Nat, Vals (pick vs ix) (pick us ix)
  | [] => .nil
  | i :: ix => by
    unfold pick
    rw [List.filterMap_cons, List.filterMap_cons]
    cases e : vs[i]? with
    | none => rw [Vals.none_of r e]; exact pick_vals r ix
    | some v =>
      obtain ⟨u, h1, h2⟩ := r.get e
      rw [h1]
      exact .cons h2 (pick_vals r ix)
theorem pick_rps {vs : List V} {ds : List D} (r : Rps K F vs ds) : ∀ ix : List Nat, Rps K F (pick vs ix) (pick ds ix)
  | [] => .nil
  | i :: ix => by
    unfold pick
    rw [List.filterMap_cons, List.filterMap_cons]
    cases e : vs[i]? with
    | none =>
      have : ds[i]? = none := by
        rw [List.getElem?_eq_none_iff] at e ⊢
        rw [← r.length]; exact e
      rw [this]; exact pick_rps r ix
    | some v =>
      obtain ⟨d, h1, h2⟩ := r.getV e
      rw [h1]
      exact .cons h2 (pick_rps r ix)
/-- a call with n values by place and the keywords ks: the parameters' values out of both and the defaults -/
theorem kbn0 {x qual : Str} {params : Arguments} {body : List Stmt} {scope : Scope} {kws : List (Str × V)} {f : Addr} {fd : FuncData} {ps : List Str} (F : FunD K x qual params body scope [] kws f fd) (n : Nat) (ks : List Str) (ix : List Nat)
    (h : ∀ (kV doc pm : Value) (an : Option Addr) (cdv ct : Value) (us ws : List Value), us.length = n → ws.length = ks.length → bindArgs (PySem.W.fnOf x qual params body scope .none kV doc pm an cdv ct) ⟨us, ks.zip ws⟩ = pure (ps.zip (pick (us ++ ws) ix))) :
    KBn K fd ps n ks (fun us ws => pick (us ++ ws) ix) (fun vs zs => pick (vs ++ zs) ix) := by
  obtain ⟨oc, od, dV, kV, doc, pm, an, cdv, ct, osl, rfl, lk, hcd, hD, hK⟩ := F.ex
  rcases hD with ⟨_, rfl⟩ | ⟨e, _⟩
  · exact ⟨fun s us ws X l1 l2 => .of_eq (h kV doc pm an cdv ct us ws l1 l2), fun r1 r2 => pick_vals (r1.append r2) ix⟩
  · exact absurd rfl e
theorem kbn1 {x qual : Str} {params : Arguments} {body : List Stmt} {scope : Scope} {dvs : List V} {kws : List (Str × V)} {f : Addr} {fd : FuncData} {ps : List Str} (F : FunD K x qual params body scope dvs kws f fd) (hd : dvs ≠ []) (n : Nat) (ks : List Str) (ix : List Nat)
    (h : ∀ (T : Addr) (kV doc pm : Value) (an : Option Addr) (cdv ct : Value) (us its ws : List Value), us.length = n → its.length = dvs.length → ws.length = ks.length →
      ∃ k, bindArgs (PySem.W.fnOf x qual params body scope (.ref T) kV doc pm an cdv ct) ⟨us, ks.zip ws⟩ = seqItems? (.ref T) >>= k ∧ k (some its.toArray) = pure (ps.zip (pick (us ++ (its ++ ws)) ix))) :
    ∃ its, KBn K fd ps n ks (fun us ws => pick (us ++ (its ++ ws)) ix) (fun vs zs => pick (vs ++ (dvs ++ zs)) ix) := by
  obtain ⟨oc, od, dV, kV, doc, pm, an, cdv, ct, osl, rfl, lk, hcd, hD, hK⟩ := F.ex
  rcases hD with ⟨e, _⟩ | ⟨_, T, ob, its, m, rfl, lT, oT, rT⟩
  · exact absurd e hd
  · refine ⟨its, ⟨fun s us ws X l1 l2 => ?_, fun r1 r2 => pick_vals (r1.append (rT.append r2)) ix⟩⟩
    obtain ⟨k, e1, e2⟩ := h T kV doc pm an cdv ct us its ws l1 rT.length.symm l2
    exact BindsTo.of_looks fun M => by rw [e1]; exact looks_items X lT oT (.of_pure e2)
def KX (X : Cx) (J : Gh) (kws : List Keyword) (ρ : DEnv) (M : Mem) (P : List D → Mem → Prop) : Prop := PK X kws (tA X.K J ρ M P)
def tKe (X : Cx) (kws : List Keyword) : TA := fun σ H Q => ∃ t, PK X kws t ∧ t σ H Q
theorem pk_any {kws : List Keyword} : PK X kws (tKe X kws) := ⟨fun pos pins s σ H Q I ⟨t, h, q⟩ => h.run pos pins s σ H Q I q⟩
theorem KX.go {kws : List Keyword} {P : List D → Mem → Prop} (h : KX X J kws ρ M P) (s : Sts X.K J F σ H ρ M) {Q : List V → Hp → Prop} (k : Ka X.K F P Q) : tKe X kws σ H Q := ⟨_, h, F, s, k⟩
theorem kx_nil {P : List D → Mem → Prop} (q : P [] M) : KX X J [] ρ M P := ⟨fun pos pins s σ H Q I ⟨F, st, k⟩ => pk_nil.run pos pins s σ H Q I (k [] [] M F H q (Same.refl F) st.ok .nil)⟩
theorem kx_cons {kws : List Keyword} {nm : Option Str} {kpos : Pos} {P : List D → Mem → Prop} (h : EX X J e ρ M fun d M1 => KX X J kws ρ M1 fun ds M2 => P (d :: ds) M2) : KX X J (⟨nm, e, kpos⟩ :: kws) ρ M P :=
  ⟨fun pos pins s σ H Q I ⟨F, st, k⟩ => (pk_cons pe_any pk_any).run pos pins s σ H Q I (h.go st fun d v M1 F1 H1 q e1 o1 r1 => KX.go q (st.to e1 o1) fun ds vs M2 F2 H2 q2 e2 o2 r2 => k _ _ M2 F2 H2 q2 (e1.trans e2) o2 (.cons (r1.mono e2) r2))⟩
/-- f(k = v, ..) -/
theorem pe_callN0 {CX : CXT} {k : Nat} {f : Addr} {fd : FuncData} {ps ks : List Str} {sp : Sp} {E : XK} {kws : List Keyword} {tk : TA} {g : List Value → List Value → List Value} {gV : List V → List V → List V} (G : FnOk X.prog X.w X.K X.mg X.base CX k f fd ps sp) (hr : Room k X.A) (hg : Gl X x) (hm : X.mg x = some (.ref f))
    (hk : PySem.W.keepIn X.K (.ref f) = true) (hb : KBn X.K fd ps 0 ks g gV) (hx : Passes CX X E) (hkw : PK X kws tk) (hall : (backToKw pos (keywordEach kws X.env)).all (·.1.isSome) = true) (hks : (backToKw pos (keywordEach kws X.env)).filterMap (·.1) = ks)
    (hdb : (x == ("__debug__" : Str)) = false) (hpl : ((backTo pos (starEach [] X.env)).any (·.1) || (backToKw pos (keywordEach kws X.env)).any (·.1.isNone)) = false) :
    PE X (.Call (.Name x p) [] kws pos) (fun σ H Q => tk σ H fun zs H2 => zs.length = ks.length ∧ sp (gV [] zs) H2 Q E) :=
  ⟨fun pins s σ H Q I h => wpAny_Call_Name_kw (ld_glob I hg hm (PySem.W.callWith_KW0 (h₀ := X.base) I.ok.mod.kin hk hall (thn (hkw.run pos pins s σ H _ I h) fun ws s2 ⟨zs, H2, I2, rz, l2, q2⟩ => ⟨I2.kIn, by
    rw [hks]
    exact run_fnN (us := []) G hr hb hx I2 .nil rz rfl l2 q2⟩) hpl) hdb)⟩
theorem ex_callK {k n : Nat} {f : Addr} {fd : FuncData} {ps ks : List Str} {T : Tr} {kws : List Keyword} {g : List Value → List Value → List Value} {dvs : List V} {dds : List D} {ix : List Nat} (G : FnOk X.prog X.w X.K X.mg X.base CX0 k f fd ps (SpD X.K T)) (hr : Room k X.A) (hm : X.mg x = some (.ref f)) (hk : PySem.W.keepIn X.K (.ref f) = true)
    (hb : KBn X.K fd ps n ks g (fun vs zs => pick (vs ++ (dvs ++ zs)) ix)) (hdd : ∀ F, Rps X.K F dvs dds) (h : AX X J (e :: es) ρ M fun ds M1 => KX X J kws ρ M1 fun zs M2 => ds.length = n ∧ zs.length = ks.length ∧ T (pick (ds ++ (dds ++ zs)) ix) M2 P)
    (hg : Gl X x := by rfl) (hall : (backToKw pos (keywordEach kws X.env)).all (·.1.isSome) = true := by rfl) (hks : (backToKw pos (keywordEach kws X.env)).filterMap (·.1) = ks := by rfl)
    (hdb : (x == ("__debug__" : Str)) = false := by decide) (he : starEach (e :: es) X.env = (false, eval e X.env) :: starEach es X.env := by rfl)
    (hpl : ((backTo pos (starEach (e :: es) X.env)).any (·.1) || (backToKw pos (keywordEach kws X.env)).any (·.1.isNone)) = false := by rfl) : EX X J (.Call (.Name x p) (e :: es) kws pos) ρ M P :=
  ex_of (pe_callN (E := E0) G hr hg hm hk hb pass0 pa_any pk_any hall hks hdb he hpl) fun F σ H Q st k => h.go st fun ds vs M1 F1 H1 q e1 o1 r1 => q.go (st.to e1 o1) fun zs ws M2 F2 H2 q2 e2 o2 r2 => by
    obtain ⟨l1, l2, t⟩ := q2
    exact ⟨r1.length.trans l1, r2.length.trans l2, F2, M2, _, P, o2, pick_rps ((r1.mono e2).append ((hdd F2).append r2)) ix, t, k.to (e1.trans e2)⟩
theorem ex_callK0 {k : Nat} {f : Addr} {fd : FuncData} {ps ks : List Str} {T : Tr} {kws : List Keyword} {g : List Value → List Value → List Value} {dvs : List V} {dds : List D} {ix : List Nat} (G : FnOk X.prog X.w X.K X.mg X.base CX0 k f fd ps (SpD X.K T)) (hr : Room k X.A) (hm : X.mg x = some (.ref f)) (hk : PySem.W.keepIn X.K (.ref f) = true)
    (hb : KBn X.K fd ps 0 ks g (fun vs zs => pick (vs ++ (dvs ++ zs)) ix)) (hdd : ∀ F, Rps X.K F dvs dds) (h : KX X J kws ρ M fun zs M2 => zs.length = ks.length ∧ T (pick (dds ++ zs) ix) M2 P)
    (hg : Gl X x := by rfl) (hall : (backToKw pos (keywordEach kws X.env)).all (·.1.isSome) = true := by rfl) (hks : (backToKw pos (keywordEach kws X.env)).filterMap (·.1) = ks := by rfl)
    (hdb : (x == ("__debug__" : Str)) = false := by decide) (hpl : ((backTo pos (starEach [] X.env)).any (·.1) || (backToKw pos (keywordEach kws X.env)).any (·.1.isNone)) = false := by rfl) : EX X J (.Call (.Name x p) [] kws pos) ρ M P :=
  ex_of (pe_callN0 (E := E0) G hr hg hm hk hb pass0 pk_any hall hks hdb hpl) fun F σ H Q st k => h.go st fun zs ws M2 F2 H2 q2 e2 o2 r2 => by
    obtain ⟨l2, t⟩ := q2
    exact ⟨r2.length.trans l2, F2, M2, _, P, o2, pick_rps (show Rps X.K F2 ([] ++ (dvs ++ ws)) ([] ++ (dds ++ zs)) from (hdd F2).append r2) ix, t, k.to e2⟩
/-! ### max, min of two ints; all, any of a list of bools; sum -/
theorem cd_max2 {i j : Int} (hc : X.calm = true) (q : P (.int (if j > i then j else i)) M) : CD X (.builtin "max") [.int i, .int j] M P :=
  ⟨_, call_max2 hc, fun F H vs Q o r k => by
    cases r with
    | cons h1 r =>
      cases r with
      | cons h2 r => cases r; cases h1; cases h2; exact ⟨i, j, rfl, k.here q o (.int _)⟩⟩
theorem cd_min2 {i j : Int} (hc : X.calm = true) (q : P (.int (if j < i then j else i)) M) : CD X (.builtin "min") [.int i, .int j] M P :=
  ⟨_, call_min2 hc, fun F H vs Q o r k => by
    cases r with
    | cons h1 r =>
      cases r with
      | cons h2 r => cases r; cases h1; cases h2; exact ⟨i, j, rfl, k.here q o (.int _)⟩⟩
theorem cd_all {d : D} {bs : List Bool} (hc : X.calm = true) (s : Sl M d (bs.map D.bl)) (q : P (.bl (bs.all id)) M) : CD X (.builtin "all") [d] M P :=
  ⟨_, cr_all hc, fun F H vs Q o r k => by
    cases r with
    | cons h1 r =>
      cases r
      obtain ⟨a, xs, rfl, h2, r2⟩ := s.get o h1
      exact ⟨a, bs, rfl, by rw [← r2.bls]; exact SqL.of h2, k.here q o (.bl _)⟩⟩
theorem cd_any {d : D} {bs : List Bool} (hc : X.calm = true) (s : Sl M d (bs.map D.bl)) (q : P (.bl (bs.any id)) M) : CD X (.builtin "any") [d] M P :=
  ⟨_, cr_any hc, fun F H vs Q o r k => by
    cases r with
    | cons h1 r =>
      cases r
      obtain ⟨a, xs, rfl, h2, r2⟩ := s.get o h1
      exact ⟨a, bs, rfl, by rw [← r2.bls]; exact SqL.of h2, k.here q o (.bl _)⟩⟩
end
end DX
namespace DX
open PySem PySem.Spec L2
theorem le_b {m n : Nat} (h : Nat.ble m n = true) : m ≤ n := Nat.le_of_ble_eq_true h
section
variable {X : Cx} {J : Gh} {e a b c o : Expr} {es : List Expr} {st : Stmt} {ρ ρ' : DEnv} {M M' : Mem} {F F' H H' : Hp} {σ : St} {B : Bd} {K : PySem.W.Frag} {pos p apos cpos : Pos} {x : Str} {P : D → Mem → Prop}
/-- a word between a statement and the rest -/
theorem g1_mid (Mid : DEnv → Mem → Prop) (h : G1 X J st ρ M (B.thn Mid)) (k : ∀ ρ' M', Mid ρ' M' → B.nx ρ' M') : G1 X J st ρ M B :=
  g1_of h fun F σ H E st kd => ⟨F, st, fun F' σ' H' ρ' M' q => kd.nx F' σ' H' ρ' M' (k _ _ q), kd.rt, kd.bk, kd.ct⟩
/-- an item at a place that is only bounded -/
theorem id_all {y : D} {ds : List D} {i : Int} (s : Sq M y ds) (h0 : 0 ≤ i) (h1 : i < (ds.length : Int)) (h : ∀ d, d ∈ ds → P d M) : ID X y (.int i) M P := by
  have hi : i.toNat < ds.length := by omega
  have e : atI ds i = some ds[i.toNat] := by
    have := atI_nat (xs := ds) (j := i.toNat) (v := ds[i.toNat]) (by simp [hi])
    rwa [Int.toNat_of_nonneg h0] at this
  exact id_seq s e (h _ (List.getElem_mem hi))
theorem atI_ints {ns : List Int} {i : Int} (h0 : 0 ≤ i) (h1 : i < (ns.length : Int)) : atI (ns.map D.int) i = some (.int (ns.getD i.toNat 0)) := by
  have hi : i.toNat < ns.length := by omega
  have := atI_nat (xs := ns.map D.int) (j := i.toNat) (v := .int (ns.getD i.toNat 0)) (by simp [hi])
  rwa [Int.toNat_of_nonneg h0] at this
/-- the script's first items, as a list -/
theorem sd_scr {ns : List Int} {k : Nat} (q : P (.lst ((ns.take k).map D.int)) M) : SD X (.scr ns) none (some (k : Int)) M P :=
  ⟨_, sl_list, fun F H v Q o rx kt => by
    cases rx with
    | scr h =>
      refine ⟨_, _, rfl, same_l o.ex h, fun q' hq => kt _ _ _ _ _ q (o.fixSame hq) (o.fix hq) (.lst upd_same ?_)⟩
      have e1 : cutV (ns.map V.int) none (some (k : Int)) = (ns.take k).map V.int := by
        unfold cutV
        rw [HT.sIx_none, HT.sIx_nat, Nat.sub_zero, List.drop_zero, List.map_take, List.length_map]
        by_cases hk : k ≤ ns.length
        · rw [Nat.min_eq_left hk]
        · rw [Nat.min_eq_right (by omega), List.take_of_length_le (by simp), List.take_of_length_le (by simp; omega)]
      rw [e1]
      exact Rps.ofInts⟩
theorem od_andM {i : Int} {k : Nat} (q : P (.int (i % 2 ^ k)) M) : OD X (binaryOp .BitAnd) (.int i) (.int (2 ^ k - 1)) M P :=
  ⟨_, op_andM, fun F H v u Q o rx ry kt => by
    cases rx; cases ry
    exact ⟨i, k, rfl, rfl, kt.here q o (.int _)⟩⟩
theorem pyds_ints : ∀ ns : List Int, pys (ns.map D.int) = some (ns.map PyData.int)
  | [] => rfl
  | n :: ns => by rw [List.map_cons, pys, pyds_ints ns]; rfl
theorem lay_ints : ∀ ns : List Int, PyData.canLayAll0 (ns.map PyData.int) = true
  | [] => by simp [PyData.canLayAll0]
  | n :: ns => by simp only [List.map_cons, PyData.canLayAll0, PyData.canLay0, lay_ints ns, Bool.and_self]
theorem dep_ints : ∀ ns : List Int, PyData.depthAll (ns.map PyData.int) ≤ 1
  | [] => by simp [PyData.depthAll]
  | n :: ns => by have := dep_ints ns; simp only [List.map_cons, PyData.depthAll, PyData.depth]; omega
theorem shaped_ints (ns : List Int) : SeqAt.shaped (.list (ns.map PyData.int)) = true := by
  have := dep_ints ns
  unfold SeqAt.shaped
  rw [Bool.and_eq_true]
  exact ⟨by simp only [PyData.canLay0]; exact lay_ints ns, decide_eq_true (by simp only [PyData.depth]; omega)⟩
/-- ints != [] -/
theorem od_neNil {ns : List Int} (hu : X.A.units + 64 < cLine) (q : P (.bl (!ns.isEmpty)) M) : OD X (compareOp .NotEq) (.lst (ns.map D.int)) (.lst []) M P := by
  refine od_neD (z1 := .list (ns.map PyData.int)) (z2 := .list []) hu (by rw [D.py, pyds_ints]; rfl) rfl (shaped_ints ns) (shaped_ints []) ?_
  cases ns with
  | nil => simpa [PyData.eqv, PyData.eqvAll] using q
  | cons n ns => simpa [PyData.eqv, PyData.eqvAll] using q
end

/-! ### what draws -/
structure Hs where
  cells : List Int
  at_ : Int
  gr : Int
def hand (s : Hs) : D := .lst [.lst (s.cells.map D.int), .int s.at_, .int s.gr]
structure HOk (s : Hs) (n : Int) : Prop where
  a0 : 0 ≤ s.at_
  an : s.at_ ≤ n
  g0 : 0 ≤ s.gr
theorem HOk.mono {s : Hs} {n m : Int} (h : HOk s n) (l : n ≤ m) : HOk s m := ⟨h.a0, by have := h.an; omega, h.g0⟩
/-- a draw: any number below the bound -/
def trTake : Tr := fun ds M P => ∃ h s b M0 n, ds = [.adr h, .int b] ∧ M = up M0 h (hand s) ∧ HOk s n ∧ n ≤ 1000000 ∧ (0 < b ∧ b < 1000000000) ∧ ∀ k s', 0 ≤ k → k < b → HOk s' (n + 1) → P (.int k) (up M0 h (hand s'))
def trBegin : Tr := fun ds M P => ∃ ns, ds = [.scr ns] ∧ ∀ h s, M h = none → HOk s 0 → P (.adr h) (up M h (hand s))
theorem law_start {T : Tr} (hT : ∀ ns M P, (∀ M', P (.bl true) M') → T [.scr ns] M P) {K : PySem.W.Frag} {H : Hp} {a : Addr} {ns : List Int} (hS : SqL K H a (ns.map V.int)) : ∃ F M ds, Ok K F M H ∧ Rps K F [.ref a] ds ∧ T ds M fun d _ => d = .bl true :=
  ⟨H, fun _ => none, [.scr ns], ⟨Same.refl H, fun a d e => by cases e⟩, .cons (.scr hS) .nil, hT ns _ _ fun _ => rfl⟩
end DX
namespace DX
open PySem PySem.Spec L2
/-! ### isinstance of plain data -/
def kn : D → String
  | .bl _ => "bool"
  | .int _ => "int"
  | .str _ => "str"
  | .tup _ => "tuple"
  | .lst _ => "list"
  | .dct _ => "dict"
  | _ => "NoneType"
def plain : D → Bool
  | .adr _ => false
  | .ty _ => false
  | .scr _ => false
  | .ins _ _ => false
  | .stup _ => false
  | .exn _ _ => false
  | _ => true
def isi (n : String) (d : D) : Bool := (kn d == n) || (kn d == "bool" && n == "int")
theorem kit_names : ∀ a ∈ ["NoneType", "bool", "int", "str", "tuple", "list", "dict"], ∀ n ∈ ["int", "bool", "str", "tuple", "list", "dict"], kitB a n = some ((a == n) || (a == "bool" && n == "int")) := by decide +kernel
theorem kn_mem (d : D) : kn d ∈ ["NoneType", "bool", "int", "str", "tuple", "list", "dict"] := by
  cases d <;> simp [kn]
section
variable {X : Cx} {J : Gh} {e a b c o : Expr} {es : List Expr} {st : Stmt} {ρ ρ' : DEnv} {M M' : Mem} {F F' H H' : Hp} {σ : St} {B : Bd} {K : PySem.W.Frag} {pos p apos cpos : Pos} {x : Str} {P : D → Mem → Prop}
theorem ty_of {d : D} {v : V} (h : plain d = true) (hs : Same F H) (r : Rp K F v d) : TyX K H v (.type (kn d)) := by
  cases r with
  | non => exact .base .non
  | bl b => exact .base (.bl b)
  | int i => exact .base (.int i)
  | str x => exact .base (.str x)
  | lst h1 r => exact .base (.lst (hs _ _ h1))
  | tup h1 r =>
    rcases h1 with (h1 | ⟨o, h1⟩) | ⟨o, its, n, h1, h2, _⟩
    · exact .base (.tup (hs _ _ h1))
    · exact .fTuple (hs _ _ h1)
    · exact .kTuple h1 h2
  | dct h1 r => exact .base (.dK (hs _ _ h1))
  | adr a => cases h
  | ty n => cases h
  | scr h1 => cases h
  | exn h1 c r => cases h
  | ins h1 r => cases h
  | stup h1 c r => cases h
theorem cd_isi {d : D} {n : String} (hn : n ∈ ["int", "bool", "str", "tuple", "list", "dict"]) (h : plain d = true) (q : P (.bl (isi n d)) M) : CD X (.builtin "isinstance") [d, .ty n] M P :=
  ⟨_, call_isi, fun F H vs Q ok r k => by
    cases r with
    | cons h1 r =>
      cases r with
      | cons h2 r =>
        cases r
        cases h2
        exact ⟨_, _, _, _, _, rfl, .ty n, ty_of h ok.ex h1, kit_ty (kit_names _ (kn_mem d) _ hn), k.here q ok (.bl _)⟩⟩
/-- a built-in type by its name -/
theorem ex_tyn {n : String} (hm : X.mg x = none) (hv : bootBuiltins x = some (.type n)) (q : P (.ty n) M) (hg : Gl X x := by rfl) (hn : x ≠ "__name__" := by decide) (hd : (x == ("__debug__" : Str)) = false := by decide) : EX X J (.Name x pos) ρ M P :=
  ex_of (pe_bltn (v := .ty n) hg hm hv rfl hn hd) fun F σ H Q st k => k.here q st.ok (.ty n)
theorem bb_bool : bootBuiltins "bool" = some (.type "bool") := by decide +kernel
/-- a text, a tuple of the module by its name -/
theorem ex_gstr {z : Str} (hm : ∃ t, X.mg x = some (.str z t)) (q : P (.str z) M) (hg : Gl X x := by rfl) (hd : (x == ("__debug__" : Str)) = false := by decide) : EX X J (.Name x pos) ρ M P := by
  obtain ⟨t, h⟩ := hm
  exact ex_glob (v := .str z) hg h ⟨t, rfl⟩ (fun F => .str z) q hd
theorem ex_gint {z : Int} (hm : ∃ t, X.mg x = some (.int z t)) (q : P (.int z) M) (hg : Gl X x := by rfl) (hd : (x == ("__debug__" : Str)) = false := by decide) : EX X J (.Name x pos) ρ M P := by
  obtain ⟨t, h⟩ := hm
  exact ex_glob (v := .int z) hg h ⟨t, rfl⟩ (fun F => .int z) q hd
theorem ex_gtup {a : Addr} {xs : List V} {ds : List D} (hm : X.mg x = some (.ref a)) (ht : ∀ F, SqT X.K F a xs) (hr : ∀ F, Rps X.K F xs ds) (q : P (.tup ds) M) (hg : Gl X x := by rfl) (hd : (x == ("__debug__" : Str)) = false := by decide) : EX X J (.Name x pos) ρ M P :=
  ex_glob (v := .ref a) hg hm rfl (fun F => .tup (ht F) (hr F)) q hd
end
end DX
namespace DX
open PySem PySem.Spec L2
section
variable {X : Cx} {J : Gh} {e : Expr} {ρ : DEnv} {M : Mem} {P : D → Mem → Prop}
/-- a list that changed until here and does no more -/
theorem ex_frz (h : EX X J e ρ M fun d M1 => ∃ p ds M0, d = .adr p ∧ M0 p = none ∧ M1 = up M0 p (.lst ds) ∧ P (.lst ds) M0) : EX X J e ρ M P :=
  ex_of h fun F σ H Q st k => ⟨F, st, fun d v M' F' H' q e1 o r => by
    obtain ⟨p, ds, M0, rfl, hn, rfl, q⟩ := q
    cases r
    obtain ⟨_, ys, hy, ry⟩ := o.mt p _ up_same
    obtain ⟨s1, o4⟩ := o.freeze up_same hy
    rw [rm_up hn] at o4
    exact k _ _ _ _ _ q (e1.trans s1) o4 (.lst upd_same (ry.mono s1))⟩
end
/-! ### bits -/
def bits (v : Int) (n : Nat) : List D := (List.range n).map fun i => D.int (v / 2 ^ i % 2)
theorem bits_len {v : Int} {n : Nat} : (bits v n).length = n := by simp [bits]
theorem bits_succ {v : Int} {n : Nat} : bits v (n + 1) = bits v n ++ [.int (v / 2 ^ n % 2)] := by simp [bits, List.range_succ]
theorem bits_at {v : Int} {n i : Nat} (h : i < n) : (bits v n)[i]? = some (.int (v / 2 ^ i % 2)) := by simp [bits, h]
theorem pow_pos2 (i : Nat) : (0 : Int) < 2 ^ i := Int.pow_pos (by decide)
theorem div_succ (v : Int) (i : Nat) : v / 2 ^ i / 2 = v / 2 ^ (i + 1) := by
  rw [Int.pow_succ, Int.ediv_ediv_of_nonneg (Int.le_of_lt (pow_pos2 i))]
theorem mod_succ (x : Int) (i : Nat) : x % 2 ^ (i + 1) = x % 2 ^ i + 2 ^ i * (x / 2 ^ i % 2) := by
  rw [Int.emod_def x (2 ^ (i + 1)), Int.emod_def x (2 ^ i), Int.emod_def (x / 2 ^ i) 2, div_succ, Int.mul_sub, Int.pow_succ]
  have := Int.mul_assoc (2 ^ i) 2 (x / (2 ^ i * 2))
  omega
theorem pow_mono : ∀ {m n : Nat}, m ≤ n → (2 : Int) ^ m ≤ 2 ^ n := by
  intro m n h
  induction h with
  | refl => exact Int.le_refl _
  | step h ih => rename_i k; rw [Int.pow_succ]; have := pow_pos2 k; omega
theorem pow_le24 {n : Int} (h : 0 ≤ n ∧ n ≤ 24) : (1 : Int) ≤ 2 ^ n.toNat ∧ (2 : Int) ^ n.toNat ≤ 16777216 := by
  have h1 := pow_pos2 n.toNat
  have h2 : (2 : Int) ^ n.toNat ≤ 2 ^ 24 := pow_mono (by omega)
  exact ⟨by omega, by omega⟩
theorem pow_ge2 {n : Int} (h : 1 ≤ n) : (2 : Int) ≤ 2 ^ n.toNat := by
  have h2 : (2 : Int) ^ 1 ≤ 2 ^ n.toNat := pow_mono (by omega)
  omega
theorem emod_in {a b : Int} (h : 0 < b) : 0 ≤ a % b ∧ a % b < b := ⟨Int.emod_nonneg _ (by omega), Int.emod_lt_of_pos _ h⟩
/-- adding bit by bit: the sum of the low parts -/
def low (a b c : Int) (i : Nat) : Int := a % 2 ^ i + b % 2 ^ i + c
theorem low_succ (a b c : Int) (i : Nat) : low a b c (i + 1) = low a b c i + 2 ^ i * (a / 2 ^ i % 2 + b / 2 ^ i % 2) := by
  unfold low; rw [mod_succ, mod_succ, Int.mul_add]; omega
theorem low_div (a b c : Int) (i : Nat) : a / 2 ^ i % 2 + b / 2 ^ i % 2 + low a b c i / 2 ^ i = low a b c (i + 1) / 2 ^ i := by
  rw [low_succ, Int.add_mul_ediv_left _ _ (by have := pow_pos2 i; omega)]; omega
theorem low_total (a b c : Int) (i : Nat) : low a b c i % 2 ^ i + 2 ^ i * ((a / 2 ^ i % 2 + b / 2 ^ i % 2 + low a b c i / 2 ^ i) % 2) = low a b c (i + 1) % 2 ^ (i + 1) := by
  rw [low_div, mod_succ (low a b c (i + 1)), low_succ, Int.add_mul_emod_self_left]
theorem low_enter (a b c : Int) (i : Nat) : (a / 2 ^ i % 2 + b / 2 ^ i % 2 + low a b c i / 2 ^ i) / 2 = low a b c (i + 1) / 2 ^ (i + 1) := by
  rw [low_div, div_succ]
theorem low_all {a b c : Int} {n : Nat} (ha : 0 ≤ a ∧ a < 2 ^ n) (hb : 0 ≤ b ∧ b < 2 ^ n) : low a b c n = a + b + c := by
  unfold low; rw [Int.emod_eq_of_lt ha.1 ha.2, Int.emod_eq_of_lt hb.1 hb.2]
end DX
namespace DX
open PySem PySem.Spec L2
open PyProof.Rows hiding St
section
variable {X : Cx} {J : Gh} {e a b c o : Expr} {es : List Expr} {ρ : DEnv} {M : Mem} {F F' H H' : Hp} {σ : St} {K : PySem.W.Frag} {pos p apos cpos : Pos} {P : D → Mem → Prop}
/-! ### joined texts -/
def toS : D → Str
  | .str z => z
  | _ => Str.empty
def AllS (ds : List D) : Prop := (ds.map toS).map D.str = ds
theorem alls_nil : AllS [] := rfl
theorem alls_cons {z : Str} {ds : List D} (h : AllS ds) : AllS (.str z :: ds) := by unfold AllS at h ⊢; rw [List.map_cons, List.map_cons, h]; rfl
theorem alls_map {α : Type} {f : α → Str} {l : List α} : AllS (l.map fun x => D.str (f x)) := by
  unfold AllS; rw [List.map_map, List.map_map]; rfl
theorem vals_strs : ∀ {xs : List V} {zs : List Str}, Rps K F xs (zs.map D.str) → xs = zs.map V.str
  | _, [], .nil => rfl
  | _, z :: zs, .cons h r => by cases h; rw [vals_strs r]; rfl
def sizeJ (ds : List D) : Nat := ((ds.map toS).map (·.length)).sum
theorem ex_join (h : EX X J o ρ M fun d M1 => ∃ z, d = .str z ∧ EX X J e ρ M1 fun d2 M2 => ∃ ds, Sq M2 d2 ds ∧ AllS ds ∧ sizeJ ds + ds.length * z.length ≤ 16777216 ∧ P (.str (Txt.join z (ds.map toS))) M2)
    (hs : starEach [e] X.env = [(false, eval e X.env)] := by rfl) (hbase : attributeBase o "join" X.env (eval o X.env) = eval o X.env := by rfl) (hline : (apos.endLine == pos.line) = true := by rfl) :
    EX X J (.Call (.Attribute o "join" apos) [e] [] pos) ρ M P :=
  ex_of (pe_join pe_any pe_any hs hbase hline) fun F σ H Q st k => h.go st fun d v M1 F1 H1 q e1 o1 r1 => by
    obtain ⟨z, rfl, q⟩ := q
    cases r1
    refine ⟨⟨_, rfl⟩, EX.go q (st.to e1 o1) fun d2 v2 M2 F2 H2 q2 e2 o2 r2 => ?_⟩
    obtain ⟨ds, s, ha, hz, q3⟩ := q2
    obtain ⟨p, xs, rfl, h2, r3⟩ := s.get o2 r2
    have e3 : xs = (ds.map toS).map V.str := vals_strs (by rw [ha]; exact r3)
    refine ⟨z, p, ds.map toS, rfl, rfl, by rw [← e3]; exact h2, by rw [List.length_map]; exact hz, k _ _ _ _ _ q3 (e1.trans e2) o2 (.str _)⟩
/-! ### backwards -/
theorem ex_revL {k : Nat} {p1 p2 p3 : Pos} (h : EX X J e ρ M fun d M1 => ∃ ds, Sl M1 d ds ∧ P (.lst ds.reverse) M1) : EX X J (.Subscript e (.Slice none none (some (.UnaryOp .USub (.Constant (.int 1) k p1) p2)) p3) pos) ρ M P :=
  ex_of (pe_revL pe_any) fun F σ H Q st k => h.go st fun d v M1 F1 H1 q e1 o1 r1 => by
    obtain ⟨ds, s, q⟩ := q
    obtain ⟨p, xs, rfl, h2, r2⟩ := s.get o1 r1
    exact ⟨p, xs, rfl, SqL.of h2, fun l hl => k _ _ _ _ _ q (e1.trans (o1.fixSame hl)) (o1.fix hl) (.lst upd_same (Rps.mono (o1.fixSame hl) (rps_rev r2)))⟩
where
  rps_rev {K : PySem.W.Frag} {F : Hp} : ∀ {xs : List V} {ds : List D}, Rps K F xs ds → Rps K F xs.reverse ds.reverse
    | _, _, .nil => .nil
    | _, _, .cons h r => by
      rw [List.reverse_cons, List.reverse_cons]
      exact Rps.append (rps_rev r) (.cons h .nil)
/-! ### ranges -/
def rngC (a c : Int) (n : Nat) : List D := (List.range n).map fun (i : Nat) => D.int (a + (i : Int) * c)
theorem rngC_len {a c : Int} {n : Nat} : (rngC a c n).length = n := by simp [rngC]
theorem rngC_one {a : Int} {n : Nat} : rngC a 1 n = rngD a n := by unfold rngC rngD; simp only [Int.mul_one]
theorem rngC_at {a c : Int} {n i : Nat} {d : D} (h : (rngC a c n)[i]? = some d) : i < n ∧ d = .int (a + (i : Int) * c) := by
  unfold rngC at h
  rw [List.getElem?_map] at h
  by_cases hi : i < n
  · rw [List.getElem?_range hi] at h
    cases h
    exact ⟨hi, rfl⟩
  · rw [List.getElem?_eq_none (by simp; omega)] at h
    cases h
def PRc (X : Cx) (e : Expr) (t : St → Hp → (Int → Int → Nat → Hp → Prop) → Prop) : Prop :=
  ∀ (pins : List (Addr × Obj)) (s : Shared) (σ : St) (H : Hp) (Q : Int → Int → Nat → Hp → Prop), Inv X pins σ H s → t σ H Q →
    wpAny (model X.prog X.w) X.A (eval e X.env) (fun x s' => ∃ r a b c n t u v H', x = .ref r ∧ IsRange s'.heap r a b c t u v ∧ RgC a b c n ∧ n ≤ 2 ^ 24 ∧ Inv X pins σ H' s' ∧ Q a c n H') X.xe s
def tRc (ta : TA) : St → Hp → (Int → Int → Nat → Hp → Prop) → Prop := fun σ H Q => ta σ H fun vs H1 => ∃ i j c n, (vs = [.int i, .int j, .int c] ∨ (vs = [.int i, .int j] ∧ c = 1) ∨ (vs = [.int j] ∧ i = 0 ∧ c = 1)) ∧ RgC i j c n ∧ n ≤ 2 ^ 24 ∧ Q i c n H1
theorem rgc_pos {i j : Int} (ha : -(2 ^ 62) ≤ i) (ha' : i < 2 ^ 62) (hb : -(2 ^ 62) ≤ j) (hb' : j < 2 ^ 62) : RgC i j 1 (j - i).toNat :=
  ⟨by decide, by decide, small_one ha ha' hb hb', rangeSize_nat i j⟩
theorem prc {ta : TA} (hg : Gl X "range") (hm : X.mg "range" = none) (ha : PA X (a :: es) ta)
    (hs : starEach (a :: es) X.env = (false, eval a X.env) :: starEach es X.env := by rfl) (hpl : (backTo pos (starEach es X.env)).any (·.1) = false := by rfl) :
    PRc X (.Call (.Name "range" p) (a :: es) [] pos) (tRc ta) := by
  intro pins s σ H Q I h
  refine Call_ (ld_blt I hg hm boot_range (callWith_type1 (thn (ha.run pos pins s σ H _ I h) fun us s1 ⟨vs, H1, I1, r1, q1⟩ => ?_) hs hpl))
  obtain ⟨i, j, c, n, e, hc, hn, q⟩ := q1
  rcases e with e | ⟨e, ec⟩ | ⟨e, ei, ec⟩
  · subst e
    cases r1 with
    | cons r rr =>
      cases rr with
      | cons r' rr =>
        cases rr with
        | cons r'' rr =>
          cases rr
          obtain ⟨t, rfl⟩ := r
          obtain ⟨t', rfl⟩ := r'
          obtain ⟨t'', rfl⟩ := r''
          exact call_range_3 hc.1 ⟨_, i, j, c, n, _, _, _, H1, rfl, IsRange.new .., hc, hn, I1.kept (t' := s1.toks) fun b o e => Heap.get?_push_of_some _ e, q⟩ (.inl (PyProof.noPylong_small hc.2.1))
  · subst e ec
    cases r1 with
    | cons r rr =>
      cases rr with
      | cons r' rr =>
        cases rr
        obtain ⟨t, rfl⟩ := r
        obtain ⟨t', rfl⟩ := r'
        exact call_range_2 ⟨_, i, j, 1, n, _, _, _, H1, rfl, IsRange.new .., hc, hn, I1.kept fun b o e => Heap.get?_push_of_some _ e, q⟩
  · subst e ei ec
    cases r1 with
    | cons r rr =>
      cases rr
      obtain ⟨t, rfl⟩ := r
      exact call_range_1 ⟨_, 0, j, 1, n, _, _, _, H1, rfl, IsRange.new .., hc, hn, I1.kept fun b o e => Heap.get?_push_of_some _ e, q⟩
def rgC (a c : Int) (n : Nat) : List V := (List.range n).map fun (i : Nat) => V.int (a + (i : Int) * c)
theorem rps_rgC {a c : Int} {n : Nat} : Rps K F (rgC a c n) (rngC a c n) := by
  unfold rgC rngC
  induction (List.range n) with
  | nil => exact .nil
  | cons i r ih => exact .cons (.int _) ih
theorem vals_rgC {a c : Int} {n : Nat} {acc : Array Value} (h : ItemsOf (fun i v => ∃ t, v = .int (a + i * c) t) acc n) : Vals (rgC a c n) acc.toList := by
  have e : acc.toList.length = n := by rw [Array.length_toList]; exact h.1
  unfold rgC
  rw [← e]
  refine vals_of_get acc.toList _ fun j u hj => ?_
  obtain ⟨t, rfl⟩ := h.2 j u (by rw [← hj, Array.getElem?_toList])
  exact ⟨t, rfl⟩
theorem rgC_len {a c : Int} {n : Nat} : (rgC a c n).length = n := by simp [rgC]
def tLstRc (te : St → Hp → (Int → Int → Nat → Hp → Prop) → Prop) : TE := fun σ H Q => te σ H fun a c n H1 => ∀ q, H1 q = none → Q (.ref q) (upd H1 q (.lst (rgC a c n)))
def tTupRc (te : St → Hp → (Int → Int → Nat → Hp → Prop) → Prop) : TE := fun σ H Q => te σ H fun a c n H1 => ∀ q, H1 q = none → Q (.ref q) (upd H1 q (.tup (rgC a c n)))
variable {te : St → Hp → (Int → Int → Nat → Hp → Prop) → Prop}
theorem pe_lstRc (hc : X.calm = true) (hg : Gl X "list") (hm : X.mg "list" = none) (he : PRc X e te) (na : starEach [e] X.env = (false, eval e X.env) :: starEach [] X.env := by rfl) : PE X (.Call (.Name "list" p) [e] [] pos) (tLstRc te) := by
  refine ⟨fun pins s σ H Q I h => ?_⟩
  refine Call_ (ld_blt I hg hm boot_list (callWith_type1 (args_cons (thn (he pins s σ H _ I h) fun x s1 ⟨r, a, b, c, n, t, u, v, H1, ex, hr, ok, hn, I1, q⟩ => args_nil ?_) na) na))
  subst ex
  refine call_list_range (n := n) (I1.ok.hd hc) hr ok.2.2.1 ok.2.2.2 hn fun h' tk acc c' hk e' hi => ?_
  refine ⟨.ref s1.heap.objs.size, upd H1 s1.heap.objs.size (.lst (rgC a c n)), I1.laid hk (Nat.le_refl _) (show ObjOk X.prog X.w _ _ _ (.lst (rgC a c n)) from ⟨?_, acc.toList, c', vals_rgC hi, ?_⟩), rfl, q _ (I1.hok.fresh (Nat.le_refl _))⟩
  · rw [rgC_len, sizeLine_eq]; omega
  · rw [Array.toArray_toList]; exact e'
theorem pe_tupRc (hc : X.calm = true) (hg : Gl X "tuple") (hm : X.mg "tuple" = none) (he : PRc X e te) (na : starEach [e] X.env = (false, eval e X.env) :: starEach [] X.env := by rfl) : PE X (.Call (.Name "tuple" p) [e] [] pos) (tTupRc te) := by
  refine ⟨fun pins s σ H Q I h => ?_⟩
  refine Call_ (ld_blt I hg hm boot_tuple (callWith_type1 (args_cons (thn (he pins s σ H _ I h) fun x s1 ⟨r, a, b, c, n, t, u, v, H1, ex, hr, ok, hn, I1, q⟩ => args_nil ?_) na) na))
  subst ex
  refine call_tuple_range (n := n) (I1.ok.hd hc) hr ok.2.2.1 ok.2.2.2 hn fun h' tk acc hk hi => ?_
  have I2 : Inv X pins σ H1 { s1 with heap := h', toks := tk } := I1.kept hk
  refine ⟨.ref h'.objs.size, upd H1 h'.objs.size (.tup (rgC a c n)), I2.laid (t' := tk) (fun c o e => Heap.get?_push_of_some _ e) (Nat.le_refl _) (show ObjOk X.prog X.w _ _ _ (.tup (rgC a c n)) from ⟨?_, acc.toList, vals_rgC hi, ?_⟩), rfl, q _ (I2.hok.fresh (Nat.le_refl _))⟩
  · rw [rgC_len, sizeLine_eq]; omega
  · rw [Array.toArray_toList]; exact IsTup.new _ _
/-- what range is asked -/
def Rg (ds : List D) (i c : Int) (n : Nat) : Prop := ∃ j, (ds = [.int i, .int j, .int c] ∨ (ds = [.int i, .int j] ∧ c = 1) ∨ (ds = [.int j] ∧ i = 0 ∧ c = 1)) ∧ RgC i j c n ∧ n ≤ 2 ^ 24
theorem rg1 {j : Int} (h : -16777216 ≤ j ∧ j ≤ 16777216) : Rg [.int j] 0 1 j.toNat := ⟨j, .inr (.inr ⟨rfl, rfl, rfl⟩), by have := rgc_pos (i := 0) (j := j) (by omega) (by omega) (by omega) (by omega); rwa [Int.sub_zero] at this, by omega⟩
theorem rg2 {i j : Int} (h : (0 ≤ i ∧ i ≤ 16777216) ∧ -16777216 ≤ j ∧ j ≤ 16777216) : Rg [.int i, .int j] i 1 (j - i).toNat := ⟨j, .inr (.inl ⟨rfl, rfl⟩), rgc_pos (by omega) (by omega) (by omega) (by omega), by omega⟩
theorem rg3 {i j : Int} (h : (-1000000 ≤ i ∧ i ≤ 1000000) ∧ -1000000 ≤ j ∧ j ≤ 1000000) : Rg [.int i, .int j, .int (-1)] i (-1) (i - j).toNat := ⟨j, .inl rfl, RgC.neg (by omega) (by omega) (by omega) (by omega), by omega⟩
theorem Rg.raw {ds : List D} {vs : List V} {i c : Int} {n : Nat} (h : Rg ds i c n) (r : Rps K F vs ds) : ∃ i' j c' n', (vs = [.int i', .int j, .int c'] ∨ (vs = [.int i', .int j] ∧ c' = 1) ∨ (vs = [.int j] ∧ i' = 0 ∧ c' = 1)) ∧ RgC i' j c' n' ∧ n' ≤ 2 ^ 24 ∧ i' = i ∧ c' = c ∧ n' = n := by
  obtain ⟨j, h, hr, hn⟩ := h
  rcases h with rfl | ⟨rfl, hc⟩ | ⟨rfl, hi, hc⟩
  · cases r with | cons h1 r => cases r with | cons h2 r => cases r with | cons h3 r => cases r; cases h1; cases h2; cases h3; exact ⟨i, j, c, n, .inl rfl, hr, hn, rfl, rfl, rfl⟩
  · cases r with | cons h1 r => cases r with | cons h2 r => cases r; cases h1; cases h2; exact ⟨i, j, c, n, .inr (.inl ⟨rfl, hc⟩), hr, hn, rfl, rfl, rfl⟩
  · cases r with | cons h1 r => cases r; cases h1; exact ⟨i, j, c, n, .inr (.inr ⟨rfl, hi, hc⟩), hr, hn, rfl, rfl, rfl⟩
theorem ex_tupR {p' pos' : Pos} (hc : X.calm = true) (hmt : X.mg "tuple" = none) (hm : X.mg "range" = none) (h : AX X J (a :: es) ρ M fun ds M1 => ∃ i c n, Rg ds i c n ∧ P (.tup (rngC i c n)) M1) (hgt : Gl X "tuple" := by rfl) (hg : Gl X "range" := by rfl)
    (hs : starEach (a :: es) X.env = (false, eval a X.env) :: starEach es X.env := by rfl) (hpl : (backTo pos (starEach es X.env)).any (·.1) = false := by rfl) (na : starEach [.Call (.Name "range" p) (a :: es) [] pos] X.env = (false, eval (.Call (.Name "range" p) (a :: es) [] pos) X.env) :: starEach [] X.env := by rfl) :
    EX X J (.Call (.Name "tuple" p') [.Call (.Name "range" p) (a :: es) [] pos] [] pos') ρ M P :=
  ex_of (pe_tupRc hc hgt hmt (prc hg hm pa_any hs hpl) na) fun F σ H Q st k => h.go st fun ds vs M1 F1 H1 q e1 o1 r1 => by
    obtain ⟨i, c, n, hr, q⟩ := q
    obtain ⟨i', j, c', n', h1, h2, h3, rfl, rfl, rfl⟩ := hr.raw r1
    exact ⟨i', j, c', n', h1, h2, h3, fun l hl => k _ _ _ _ _ q (e1.trans (o1.fixSame hl)) (o1.fix hl) (.tup (.inl (.inl upd_same)) rps_rgC)⟩
theorem ex_lstR {p' pos' : Pos} (hc : X.calm = true) (hmt : X.mg "list" = none) (hm : X.mg "range" = none) (h : AX X J (a :: es) ρ M fun ds M1 => ∃ i c n, Rg ds i c n ∧ P (.lst (rngC i c n)) M1) (hgt : Gl X "list" := by rfl) (hg : Gl X "range" := by rfl)
    (hs : starEach (a :: es) X.env = (false, eval a X.env) :: starEach es X.env := by rfl) (hpl : (backTo pos (starEach es X.env)).any (·.1) = false := by rfl) (na : starEach [.Call (.Name "range" p) (a :: es) [] pos] X.env = (false, eval (.Call (.Name "range" p) (a :: es) [] pos) X.env) :: starEach [] X.env := by rfl) :
    EX X J (.Call (.Name "list" p') [.Call (.Name "range" p) (a :: es) [] pos] [] pos') ρ M P :=
  ex_of (pe_lstRc hc hgt hmt (prc hg hm pa_any hs hpl) na) fun F σ H Q st k => h.go st fun ds vs M1 F1 H1 q e1 o1 r1 => by
    obtain ⟨i, c, n, hr, q⟩ := q
    obtain ⟨i', j, c', n', h1, h2, h3, rfl, rfl, rfl⟩ := hr.raw r1
    exact ⟨i', j, c', n', h1, h2, h3, fun l hl => k _ _ _ _ _ q (e1.trans (o1.fixSame hl)) (o1.fix hl) (.lst upd_same rps_rgC)⟩
theorem wk_rngC {lo c : Int} {n : Nat} : Wk K F (Itc lo c n) (rngC lo c n) :=
  ⟨fun i H hi s => by rw [rngC_len] at hi; exact hi, fun H s => by rw [rngC_len]; exact Nat.le_refl _, fun i d H x H' F1 M hd s o y => by
    obtain ⟨rfl, rfl⟩ := y
    obtain ⟨_, rfl⟩ := rngC_at hd
    exact ⟨F1, Same.refl _, o, .int _⟩⟩
theorem ix_range3 {tg : Expr} {P : List D → Mem → Prop} (hm : X.mg "range" = none) (h : AX X J [a, b, c] ρ M fun ds M2 => ∃ i j, ds = [.int i, .int j, .int (-1)] ∧ ((-1000000 ≤ i ∧ i ≤ 1000000) ∧ -1000000 ≤ j ∧ j ≤ 1000000) ∧ P (rngC i (-1) (i - j).toNat) M2) (hg : Gl X "range" := by rfl)
    (hs : starEach [a, b, c] X.env = (false, eval a X.env) :: starEach [b, c] X.env := by rfl) (hpl : (backTo pos (starEach [b, c] X.env)).any (·.1) = false := by rfl) : IX X J tg (.Call (.Name "range" p) [a, b, c] [] pos) ρ M P :=
  ix_of (pi_range3 hg hm pa_any hs hpl) fun F σ H R s k => h.go s fun ds vs M1 F1 H1 q e1 o1 r1 => by
    obtain ⟨i, j, rfl, hj, q2⟩ := q
    cases r1 with | cons h1 r1 => cases r1 with | cons h2 r1 => cases r1 with | cons h3 r1 =>
      cases r1
      cases h1; cases h2; cases h3
      exact ⟨i, j, -1, (i - j).toNat, rfl, RgC.neg (by omega) (by omega) (by omega) (by omega), k _ _ M1 F1 H1 q2 e1 o1 wk_rngC⟩
end
end DX
namespace DX
open PySem PySem.Spec L2
open SX
section
variable {X : Cx} {J : Gh} {M : Mem} {P : D → Mem → Prop}
/-! ### texts by their signs -/
def isS (c : Nat) : Prop := c = 71 ∨ c = 75 ∨ c = 80
def sgl (L : List Nat) : List D := L.map fun c => D.str (S [c])
theorem tl_S {l : List Nat} : (S l).cps.toList = l := rfl
theorem joinL_one : ∀ L : List Nat, TL.joinL [] (L.map fun c => [c]) = L
  | [] => rfl
  | [c] => rfl
  | c :: d :: r => by
    have := joinL_one (d :: r)
    simp only [List.map_cons] at this
    simp only [List.map_cons, TL.joinL, this]
    simp
theorem sgl_toS (L : List Nat) : (sgl L).map toS = (L.map fun c => [c]).map S := by
  unfold sgl; rw [List.map_map, List.map_map]; rfl
theorem empty_S : ("" : Str) = S [] := by decide
theorem join_sgl (L : List Nat) : Txt.join "" ((sgl L).map toS) = S L := by
  rw [sgl_toS, empty_S, join_S, joinL_one]
theorem sgl_all (L : List Nat) : AllS (sgl L) := alls_map
theorem sgl_len {L : List Nat} : (sgl L).length = L.length := by simp [sgl]
theorem sgl_size : ∀ {L : List Nat}, sizeJ (sgl L) = L.length
  | [] => rfl
  | c :: r => by
    have := sgl_size (L := r)
    unfold sizeJ sgl at this ⊢
    simp only [List.map_cons, List.sum_cons, this, List.length_cons]
    show (S [c]).length + _ = _
    rw [S_len]; simp; omega
theorem sgl_rev {L : List Nat} : (sgl L).reverse = sgl L.reverse := by simp [sgl]
theorem sgl_app {L R : List Nat} : sgl L ++ sgl R = sgl (L ++ R) := by simp [sgl]
theorem signs_S {l : List Nat} : signs (S l) = sgl l := rfl
theorem id_strA {z : Str} {i : Int} (h : 0 ≤ i ∧ i < (z.cps.toList.length : Int)) (hz : z.cps.toList.length ≤ 1000000) (p : P (.str (S [z.cps.toList.getD i.toNat 0])) M) : ID X (.str z) (.int i) M P := by
  have hi : i.toNat < z.cps.toList.length := by omega
  refine id_str (n := z.cps.toList.getD i.toNat 0) (by unfold Str.length; rw [← Array.length_toList]; exact hz) ?_ p
  have := atI_nat (xs := z.cps.toList) (j := i.toNat) (v := z.cps.toList.getD i.toNat 0) (by rw [List.getD_eq_getElem?_getD, List.getElem?_eq_getElem hi]; rfl)
  rwa [Int.toNat_of_nonneg h.1] at this
/-! ### states of positions -/
def stp (l : List Nat) (p : Int) : Nat := l.getD (l.length - 1 - p.toNat) 0
def firstS (l : List Nat) : List Int → Nat
  | [] => 80
  | p :: ps => if stp l p = 80 then firstS l ps else stp l p
def carryS (c : Nat) : Int := if c = 71 then 1 else 0
def down (a b : Int) : List Int := (List.range (a - b).toNat).map fun (i : Nat) => a + (i : Int) * (-1)
theorem rngC_down {a b : Int} : rngC a (-1) (a - b).toNat = (down a b).map D.int := by unfold rngC down; rw [List.map_map]; rfl
theorem down_len {a b : Int} : (down a b).length = (a - b).toNat := by simp [down]
theorem down_mem {a b p : Int} (h : p ∈ down a b) : b < p ∧ p ≤ a := by
  unfold down at h
  simp only [List.mem_map, List.mem_range] at h
  obtain ⟨i, hi, rfl⟩ := h
  omega
theorem down_nil {a b : Int} (h : a ≤ b) : down a b = [] := by unfold down; rw [show (a - b).toNat = 0 by omega]; rfl
theorem down_cons {a b : Int} (h : b < a) : down a b = a :: down (a - 1) b := by
  unfold down
  rw [show (a - b).toNat = (a - 1 - b).toNat + 1 by omega, List.range_succ_eq_map, List.map_cons, List.map_map]
  congr 1
  · simp
  · apply List.map_congr_left
    intro i _
    simp only [Function.comp]
    omega
def dueP (n o : Int) (r : Bool) : List Int := if r then down o 0 ++ down n o else down o (-1)
theorem dueP_mem {n o p : Int} {r : Bool} (h0 : 0 ≤ o ∧ o ≤ n) (h : p ∈ dueP n o r) : 0 ≤ p ∧ p ≤ n := by
  unfold dueP at h
  split at h
  · rw [List.mem_append] at h
    rcases h with h | h <;> have := down_mem h <;> omega
  · have := down_mem h; omega
def upto (a b : Int) : List Int := (List.range (b - a).toNat).map fun (i : Nat) => a + (i : Int)
theorem rngD_upto {a b : Int} : rngD a (b - a).toNat = (upto a b).map D.int := by unfold rngD upto; rw [List.map_map]; rfl
theorem upto_mem {a b p : Int} (h : p ∈ upto a b) : a ≤ p ∧ p < b := by
  unfold upto at h
  simp only [List.mem_map, List.mem_range] at h
  obtain ⟨i, hi, rfl⟩ := h
  omega
theorem upto_len {a b : Int} : (upto a b).length = (b - a).toNat := by simp [upto]
def isRing (l : List Nat) : Bool := decide (stp l 0 = 80)
def trueS (l : List Nat) (o : Int) : Int := carryS (firstS l (dueP ((l.length : Int) - 1) o (isRing l)))
def trueAll (l : List Nat) : List Int := (upto (if isRing l then 1 else 0) ((l.length : Int) - 1 + 1)).map (trueS l)
theorem sceq_S {a b : List Nat} : sceq (.str (S a)) (.str (S b)) = decide (a = b) := by
  show decide (S a = S b) = _
  exact decide_eq_decide.mpr ⟨S_inj, fun h => by rw [h]⟩
theorem goods_ints : ∀ {l : List Int}, (∀ i ∈ l, -(2 ^ 200) ≤ i ∧ i ≤ 2 ^ 200) → goods (l.map D.int)
  | [], _ => trivial
  | i :: r, h => ⟨h i (by simp), goods_ints fun j hj => h j (by simp [hj])⟩
theorem wts_ints : ∀ {l : List Int}, wts (l.map D.int) = 66 * l.length
  | [] => rfl
  | i :: r => by rw [List.map_cons, wts, wts_ints, List.length_cons]; show 64 + 2 + _ = _; omega
theorem deps_ints : ∀ {l : List Int}, deps (l.map D.int) = 0
  | [] => rfl
  | i :: r => by rw [List.map_cons, deps, deps_ints]; rfl
theorem tint {l : List Int} (h : ∀ i ∈ l, -(2 ^ 200) ≤ i ∧ i ≤ 2 ^ 200) (hl : l.length ≤ 7000) : good (.tup (l.map D.int)) ∧ wt (.tup (l.map D.int)) ≤ 16000000 ∧ dep (.tup (l.map D.int)) ≤ 50 :=
  ⟨goods_ints h, by rw [wt, wts_ints]; omega, by rw [dep, deps_ints]; omega⟩
theorem lint {l : List Int} (h : ∀ i ∈ l, -(2 ^ 200) ≤ i ∧ i ≤ 2 ^ 200) (hl : l.length ≤ 7000) : good (.lst (l.map D.int)) ∧ wt (.lst (l.map D.int)) ≤ 16000000 ∧ dep (.lst (l.map D.int)) ≤ 50 :=
  ⟨goods_ints h, by rw [wt, wts_ints]; omega, by rw [dep, deps_ints]; omega⟩
theorem lit_G : ("G" : Str) = S [71] := by decide
theorem lit_K : ("K" : Str) = S [75] := by decide
theorem lit_P : ("P" : Str) = S [80] := by decide
theorem getD_mem {l : List Nat} {i : Nat} (h : i < l.length) : l.getD i 0 ∈ l := by
  rw [List.getD_eq_getElem?_getD, List.getElem?_eq_getElem h]; exact List.getElem_mem h
end
end DX
namespace DX
open PySem PySem.Spec L2
open SX
section
variable {X : Cx} {J : Gh} {M : Mem} {P : D → Mem → Prop}
/-! ### slices of texts and tuples -/
def cutA {α : Type} (xs : List α) (lo hi : Option Int) : List α := (xs.drop (HT.sIx xs.length 0 lo)).take (HT.sIx xs.length xs.length hi - HT.sIx xs.length 0 lo)
theorem sd_str {z : Str} {l u : Option Int} (hz : z.cps.toList.length ≤ 1000000) (p : P (.str (S (cutA z.cps.toList l u))) M) : SD X (.str z) l u M P :=
  ⟨_, sl_str, fun F H v Q o rx k => by
    cases rx
    have hl : z.length = z.cps.toList.length := by unfold Str.length; rw [Array.length_toList]
    refine ⟨z, rfl, by rw [sizeLine_eq]; omega, ?_⟩
    have e : cutS z l u = S (cutA z.cps.toList l u) := by unfold cutS cutA; rw [hl]
    rw [e]
    exact k.here p o (.str _)⟩
theorem sd_tup {ds : List D} {l u : Option Int} (hw : ¬ (HT.sIx ds.length 0 l = 0 ∧ HT.sIx ds.length ds.length u = ds.length)) (p : P (.tup (cutD ds l u)) M) : SD X (.tup ds) l u M P :=
  ⟨_, sl_tup, fun F H v Q o rx k => by
    cases rx with
    | tup h1 r1 => exact ⟨_, _, rfl, same_t o.ex h1, by rw [r1.length]; exact hw, fun q hq => k _ _ _ _ _ p (o.fixSame hq) (o.fix hq) (.tup (.inl (.inl upd_same)) ((cut_of r1 l u).mono (o.fixSame hq)))⟩⟩
theorem cut_init {α : Type} {xs : List α} : cutA xs none (some (-1)) = xs.dropLast := by
  unfold cutA
  rw [HT.sIx_none, List.drop_zero, Nat.sub_zero, List.dropLast_eq_take]
  congr 1
  show (if (-1 : Int) < 0 then (-1 + (xs.length : Int)).toNat else min (-1 : Int).toNat xs.length) = xs.length - 1
  rw [if_pos (by decide)]
  omega
theorem init_rev {c : Nat} {L : List Nat} : cutA (c :: L).reverse none (some (-1)) = L.reverse := by
  rw [cut_init, List.reverse_cons, List.dropLast_concat]
theorem od_and1 {i : Int} (p : P (.int (i % 2)) M) : OD X (binaryOp .BitAnd) (.int i) (.int 1) M P := by
  have h := od_andM (X := X) (M := M) (P := P) (i := i) (k := 1) (by simpa using p)
  exact h
/-- a list that changed is left behind -/
theorem ex_drop {e : Expr} {ρ : DEnv} (h : EX X J e ρ M fun d M1 => ∃ p ds M0, M0 p = none ∧ M1 = up M0 p (.lst ds) ∧ P d M0) : EX X J e ρ M P :=
  ex_of h fun F σ H Q st k => ⟨F, st, fun d v M' F' H' q e1 o r => by
    obtain ⟨p, ds, M0, hn, rfl, q⟩ := q
    obtain ⟨_, ys, hy, ry⟩ := o.mt p _ up_same
    obtain ⟨s1, o4⟩ := o.freeze up_same hy
    rw [rm_up hn] at o4
    exact k _ _ _ _ _ q (e1.trans s1) o4 (r.mono s1)⟩
theorem g1_par3 {a b c : Expr} {ρ : DEnv} {B : Bd} {pos : Pos} {x y z : Str} {px py pz pt : Pos} {kt k2 pt2} (i j l : Nat) (hc : X.calm = true) (hij : i ≠ j) (hil : i ≠ l) (hjl : j ≠ l) (h : AX X J [a, b, c] ρ M fun ds M1 => ∃ d1 d2 d3, ds = [d1, d2, d3] ∧ B.nx (put (put (put ρ i d1) j d2) l d3) M1)
    (hN : X.N.Nodup := by rfl) (hi : X.N[i]? = some x := by rfl) (hj : X.N[j]? = some y := by rfl) (hl : X.N[l]? = some z := by rfl) (hx : X.env.scope.names.lookup x = some .local := by rfl) (hy : X.env.scope.names.lookup y = some .local := by rfl) (hz : X.env.scope.names.lookup z = some .local := by rfl)
    (hw : swappedStores [.Tuple [.Name x px, .Name y py, .Name z pz] kt pt] (.Tuple [a, b, c] k2 pt2) X.env = pure (some [x, y, z]) := by rfl)
    (hs : swapsWithSole [.Tuple [.Name x px, .Name y py, .Name z pz] kt pt] (.Tuple [a, b, c] k2 pt2) pos.line X.env = pure false := by rfl) :
    G1 X J (.Assign [.Tuple [.Name x px, .Name y py, .Name z pz] kt pt] (.Tuple [a, b, c] k2 pt2) pos) ρ M B :=
  g1_of (ps_par3 hc hN hi hj hl hij hil hjl hx hy hz pa_any hw hs) fun F σ H E s k => h.go s fun ds vs M1 F1 H1 p e1 o1 r1 => by
    obtain ⟨d1, d2, d3, rfl, p⟩ := p
    cases r1 with
    | cons h1 r1 => cases r1 with
      | cons h2 r1 => cases r1 with
        | cons h3 r1 =>
          cases r1
          exact ⟨_, _, _, rfl, k.nx F1 _ H1 _ M1 p e1 ((((s.en.mono e1).put i h1).put j h2).put l h3) o1⟩
/-! ### numbers by their bits -/
def acc (f : Nat → Int) : Nat → Int
  | 0 => 0
  | i + 1 => acc f i + 2 ^ i * f i
theorem acc_in {f : Nat → Int} (hf : ∀ i, 0 ≤ f i ∧ f i ≤ 1) : ∀ n, 0 ≤ acc f n ∧ acc f n < 2 ^ n
  | 0 => ⟨Int.le_refl 0, by show (0 : Int) < 2 ^ 0; decide⟩
  | n + 1 => by
    have ih := acc_in hf n
    have h1 := hf n
    have h2 : 0 ≤ 2 ^ n * f n := Int.mul_nonneg (Int.le_of_lt (pow_pos2 n)) h1.1
    have h3 : 2 ^ n * f n ≤ 2 ^ n * 1 := Int.mul_le_mul_of_nonneg_left h1.2 (Int.le_of_lt (pow_pos2 n))
    rw [acc, Int.pow_succ]
    omega
theorem acc_bit {f : Nat → Int} (hf : ∀ i, 0 ≤ f i ∧ f i ≤ 1) : ∀ n i, i < n → acc f n / 2 ^ i % 2 = f i
  | n + 1, i, h => by
    have hn := acc_in hf n
    have h1 := hf n
    rw [acc]
    by_cases e : i = n
    · subst e
      rw [Int.add_mul_ediv_left _ _ (by have := pow_pos2 i; omega), Int.ediv_eq_zero_of_lt hn.1 hn.2]
      omega
    · have ih := acc_bit hf n i (by omega)
      have hp : (2 : Int) ^ n = 2 ^ i * (2 * 2 ^ (n - i - 1)) := by
        have e2 : n = i + (n - i - 1 + 1) := by omega
        rw [← Int.pow_succ', ← Int.pow_add, ← e2]
      rw [hp, Int.mul_assoc, Int.add_mul_ediv_left _ _ (by have := pow_pos2 i; omega), Int.mul_assoc]
      omega
/-- the state that two bits make -/
def ltr (x y : Int) : Nat := if x ≠ y then 80 else if x = 1 then 71 else 75
def stL (a b : Int) (n : Nat) : List Nat := (List.range n).map fun i => ltr (a / 2 ^ i % 2) (b / 2 ^ i % 2)
theorem stL_len {a b : Int} {n : Nat} : (stL a b n).length = n := by simp [stL]
theorem stL_succ {a b : Int} {n : Nat} : stL a b (n + 1) = stL a b n ++ [ltr (a / 2 ^ n % 2) (b / 2 ^ n % 2)] := by simp [stL, List.range_succ]
theorem stL_at {a b : Int} {n i : Nat} (h : i < n) : (stL a b n).getD i 0 = ltr (a / 2 ^ i % 2) (b / 2 ^ i % 2) := by
  unfold stL
  rw [List.getD_eq_getElem?_getD, List.getElem?_map, List.getElem?_range h]; rfl
theorem stL_isS {a b : Int} {n : Nat} : ∀ c ∈ stL a b n, isS c := by
  intro c hc
  unfold stL at hc
  simp only [List.mem_map] at hc
  obtain ⟨i, _, rfl⟩ := hc
  unfold ltr isS
  split
  · exact .inr (.inr rfl)
  · split
    · exact .inl rfl
    · exact .inr (.inl rfl)
theorem strOk_S {l : List Nat} (h : ∀ c ∈ l, isS c) : PyData.strOk (S l) = true := by
  unfold PyData.strOk
  simp only [List.all_toArray, List.all_eq_true, decide_eq_true_eq]
  intro c hc
  rcases h c hc with g | g | g <;> rw [g] <;> decide
theorem good_S {l : List Nat} (h : ∀ c ∈ l, isS c) (hl : l.length ≤ 1000) : good (.str (S l)) ∧ wt (.str (S l)) ≤ 16000000 ∧ dep (.str (S l)) ≤ 50 :=
  ⟨strOk_S h, by show 10 * (S l).length + 2 ≤ _; rw [S_len]; omega, Nat.zero_le _⟩
theorem isS_rev {c : Nat} {L : List Nat} (hc : isS c) (h : ∀ c ∈ L, isS c) : ∀ d ∈ (c :: L).reverse, isS d := by
  intro d hd
  rw [List.mem_reverse, List.mem_cons] at hd
  rcases hd with rfl | hd
  · exact hc
  · exact h d hd
theorem acc_congr {f g : Nat → Int} : ∀ n, (∀ i, i < n → f i = g i) → acc f n = acc g n
  | 0, _ => rfl
  | n + 1, h => by rw [acc, acc, acc_congr n fun i hi => h i (by omega), h n (by omega)]
def fA (L : List Nat) (i : Nat) : Int := if L.getD i 0 = 75 then 0 else 1
def fB (L : List Nat) (i : Nat) : Int := if L.getD i 0 = 71 then 1 else 0
theorem fA_in {L : List Nat} (i : Nat) : 0 ≤ fA L i ∧ fA L i ≤ 1 := by unfold fA; split <;> omega
theorem fB_in {L : List Nat} (i : Nat) : 0 ≤ fB L i ∧ fB L i ≤ 1 := by unfold fB; split <;> omega
theorem stL_back {L : List Nat} (h : ∀ c ∈ L, isS c) : stL (acc (fA L) L.length) (acc (fB L) L.length) L.length = L := by
  refine List.ext_getElem (by rw [stL_len]) fun i h1 h2 => ?_
  have e : L.getD i 0 = L[i] := by rw [List.getD_eq_getElem?_getD, List.getElem?_eq_getElem h2]; rfl
  have e1 : (stL (acc (fA L) L.length) (acc (fB L) L.length) L.length)[i] = ltr (fA L i) (fB L i) := by
    have e3 := stL_at (a := acc (fA L) L.length) (b := acc (fB L) L.length) h2
    rw [List.getD_eq_getElem?_getD, List.getElem?_eq_getElem h1, acc_bit fA_in _ _ h2, acc_bit fB_in _ _ h2] at e3
    exact e3
  rw [e1]
  unfold fA fB
  rw [e]
  rcases h _ (List.getElem_mem h2) with g | g | g <;> rw [g] <;> decide
end
end DX
namespace DX
open PySem PySem.Spec L2
open SX
section
variable {X : Cx} {J : Gh} {M : Mem} {P : D → Mem → Prop}
theorem dx_sub {α β : Sort _} {a a0 : α} {b b0 : β} {p : α → β → Prop} (h : b = b0 ∧ a = a0) (k : p a0 b0) : p a b := by
  obtain ⟨rfl, rfl⟩ := h
  exact k
/-! ### not in a tuple of texts -/
def inS (z : Str) (ds : List D) : Bool := ds.any fun d => decide (toS d = z)
theorem inV_strs {z : Str} : ∀ zs : List Str, inV (.str z) (zs.map V.str) = zs.any fun y => decide (y = z)
  | [] => rfl
  | y :: zs => by
    have ih := inV_strs (z := z) zs
    unfold inV at ih ⊢
    rw [List.map_cons, List.any_cons, List.any_cons, ih]
    rfl
theorem flat_strs : ∀ zs : List Str, (zs.map V.str).all flatV = true
  | [] => rfl
  | y :: zs => by rw [List.map_cons, List.all_cons, flat_strs zs]; rfl
theorem inS_toS {z : Str} {ds : List D} : ((ds.map toS).any fun y => decide (y = z)) = inS z ds := by unfold inS; rw [List.any_map]; rfl
theorem od_notInA {z : Str} {ds : List D} (ha : AllS ds) (p : P (.bl (!inS z ds)) M) : OD X (compareOp .NotIn) (.str z) (.tup ds) M P :=
  ⟨_, op_notIn_seq, fun F H v u Q o rx ry k => by
    cases rx
    cases ry with
    | tup h1 r1 =>
      have e3 := vals_strs (zs := ds.map toS) (by rw [ha]; exact r1)
      subst e3
      refine ⟨_, _, rfl, .inr (same_t o.ex h1), rfl, flat_strs _, ?_⟩
      rw [inV_strs, inS_toS]
      exact k.here p o (.bl _)⟩
theorem od_inA {z : Str} {ds : List D} (ha : AllS ds) (p : P (.bl (inS z ds)) M) : OD X (compareOp .In) (.str z) (.tup ds) M P :=
  ⟨_, op_in_seq, fun F H v u Q o rx ry k => by
    cases rx
    cases ry with
    | tup h1 r1 =>
      have e3 := vals_strs (zs := ds.map toS) (by rw [ha]; exact r1)
      subst e3
      refine ⟨_, _, rfl, .inr (same_t o.ex h1), rfl, flat_strs _, ?_⟩
      rw [inV_strs, inS_toS]
      exact k.here p o (.bl _)⟩
end
/-! ### a look at the module that asks one thing more -/
def lookY (fa : List He.Fa) (fn : List He.DefD) (ex : PySem.W.Frag → Bool) (n : Nat) (g : Addr → Option Obj) : He.AlD × Bool :=
  (He.obsDG n fa fn g, ex (He.frG g (He.asD g n)))
def hookY (n : Nat) (fa : List He.Fa) (fn : List He.DefD) (ex : PySem.W.Frag → Bool) : PySem.W.Hook where
  α := He.AlD × Bool
  obs := fun s => lookY fa fn ex n s.heap.get?
  val := fun _ => (He.valD fn, true)
  says := fun _ h => ∃ K : PySem.W.Frag, K.In h ∧ He.SaysD fa fn K ∧ ex K = true
  of := fun _ _ e => ⟨_, He.frG_in, congrArg Prod.fst e, congrArg Prod.snd e⟩
  keeps := fun _ _ _ ⟨K, hK, c, d⟩ k => ⟨K, PySem.W.Frag.In.keeps hK k, c, d⟩
theorem lookY_eq {n : Nat} {fa : List He.Fa} {fn : List He.DefD} {ex : PySem.W.Frag → Bool} {g : Addr → Option Obj} {s : Shared} (h : ∀ a, g a = s.heap.get? a) : lookY fa fn ex n g = (hookY n fa fn ex).obs s := by
  have e : g = s.heap.get? := funext h
  subst e
  rfl
end DX
namespace DX
open PySem PySem.Spec L2 PyProof.Rows StX

/-! ### calls of any form: values by place, keywords; star parameters -/
/-- t looks names up in the dict at D, one behind another, and ends in what fin says -/
def KwChainE {α : Type} (D : Addr) (fin : Sem α → Prop) : List (Str × Value) → Sem α → Prop
  | [], t => fin t
  | q :: l, t => ∃ (β γ : Type) (k1 : Option Value → Sem β) (k2 : β → Sem γ) (k3 : γ → Sem α) (a : β), t = ((nsGet D q.1 >>= k1) >>= k2) >>= k3 ∧ k1 (some q.2) = pure a ∧ KwChainE D fin l (k2 a >>= k3)
theorem KwChainE.run {α : Type} {K : PySem.W.Frag} {M : Model} {A : Around} {s : Shared} {D : Addr} {fin : Sem α → Prop} {Q : α → Shared → Prop} {E : Value → Shared → Prop} (X : K.In s.heap) (hf : ∀ t, fin t → wpAny M A t Q E s) :
    ∀ {l : List (Str × Value)} {t : Sem α}, (∀ q ∈ l, PySem.W.nsIn K D q.1 = some (some q.2)) → KwChainE D fin l t → wpAny M A t Q E s
  | [], t, _, e => hf t e
  | q :: l, t, hl, e => by
    obtain ⟨β, γ, k1, k2, k3, a, e1, e2, e3⟩ := e
    have l1 : PySem.W.Looks M s.heap (nsGet D q.1 >>= k1) a := (PySem.W.looks_nsIn X (hl q (List.mem_cons_self ..))).andThen (PySem.W.Looks.of_pure e2)
    rw [e1, bind_assoc]
    exact wpAny_bind (l1.here (KwChainE.run X hf (fun p hp => hl p (List.mem_cons_of_mem _ hp)) e3))
abbrev TrV := List D → List D → Mem → (D → Mem → Prop) → Prop
structure FnV (pg : Program) (w : World) (K : PySem.W.Frag) (mg : Str → Option Value) (base : Heap) (gd : Bool) (k : Nat) (f : Addr) (ks : List Str) (T : TrV) : Prop where
  go : ∀ (A : Around) (outer : List PySem.Env) (s : Shared) (H F : Hp) (M : Mem) (ds zs : List D) (P : D → Mem → Prop) (us ws : List Value) (vs xs : List V) (Q : VK), (gd = true → A.guards = some []) → Room k A → Env0 pg w K mg base A outer s H →
    Vals vs us → Vals xs ws → ws.length = ks.length → Ok K F M H → Rps K F vs ds → Rps K F xs zs → T ds zs M P → Kt K F P Q → codeAny (model pg w) A (.call (.ref f) ⟨us, ks.zip ws⟩) (CR CX0 outer pg w H s Q E0) s
/-- a def's body keeps the promise T of what stands in its parameters -/
def BodyOk (pg : Program) (w : World) (K : PySem.W.Frag) (mg : Str → Option Value) (base : Heap) (gd : Bool) (k : Nat) (f : Addr) (qual : Str) (body : List Stmt) (scope : Scope) (N ps : List Str) (T : Tr) : Prop :=
  ∀ (cdv : Value) (A : Around) (outer : List PySem.Env) (s : Shared) (H : Hp) (ds : List D) (M : Mem) (P : D → Mem → Prop), (gd = true → A.guards = some []) → Room k (A.deeper (PyProof.Rows.envOfC qual scope s.heap.objs.size f cdv)) → T ds M P →
      GX (cxOf CX0 pg w K mg base N qual scope f cdv A outer s H E0).nox Gh.triv body (startD (N.length - ps.length) ds) M ⟨fun _ M' => P .non M', P, fun _ _ => False, fun _ _ => False⟩
theorem up_tup_same {H : Hp} {a : Addr} {xs : List V} : upd H a (.tup xs) a = some (.tup xs) := upd_same
section
variable {pg : Program} {w : World} {K : PySem.W.Frag} {mg : Str → Option Value} {base : Heap} {x qual : Str} {params : Arguments} {body : List Stmt} {scope : Scope} {kws : List (Str × V)} {f : Addr} {fd : FuncData} {N pn : List Str} {pv : Str} {k : Nat} {T : Tr} {gd : Bool}
/-- the values in the parameters, from the body on -/
theorem body_run {ps : List Str} (B : BodyOk pg w K mg base gd k f qual body scope N ps T) (S : FnScope N ps scope) (cdv : Value) {A : Around} {outer : List PySem.Env} {s2 : Shared} {H2 F : Hp} {M : Mem} {ds : List D} {vs : List V} {P : D → Mem → Prop} {Q : VK}
    (hg : gd = true → A.guards = some []) (hr : Room k (A.deeper (PyProof.Rows.envOfC qual scope s2.heap.objs.size f cdv))) (hl : vs.length = ps.length) (o : Ok K F M H2) (rd : Rps K F vs ds) (t : T ds M P) (kt : Kt K F P Q) :
    ∃ t, PSs (cxOf CX0 pg w K mg base N qual scope f cdv A outer s2 H2 E0) body t ∧ t { nx := fun _ H' => Q .non H', rt := Q } (L2.start N vs) H2 := by
  have hb := B cdv A outer s2 H2 ds M P hg hr t
  refine ⟨_, PSs.nox (X := cxOf CX0 pg w K mg base N qual scope f cdv A outer s2 H2 E0) (show PSs (cxOf CX0 pg w K mg base N qual scope f cdv A outer s2 H2 E0).nox body _ from hb), F, ⟨?_, o, trivial⟩, ⟨fun F' σ' H' ρ' M' p e en o' => kt _ _ _ _ _ p e o' .non, kt, fun F' σ' H' ρ' M' p => p.elim, fun F' σ' H' ρ' M' p => p.elim⟩⟩
  unfold L2.start
  rw [hl]
  exact En.start _ rd
theorem rps_pick {F : Hp} {vs xs mvs : List V} {ds zs mds : List D} (r : Rps K F vs ds) (rm : Rps K F mvs mds) (rz : Rps K F xs zs) (ix : List Nat) : Rps K F (pick (vs ++ (mvs ++ xs)) ix) (pick (ds ++ (mds ++ zs)) ix) := pick_rps (r.append (rm.append rz)) ix
theorem Rps.split {F : Hp} : ∀ {vs : List V} {d1 d2 : List D}, Rps K F vs (d1 ++ d2) → ∃ v1 v2, vs = v1 ++ v2 ∧ Rps K F v1 d1 ∧ Rps K F v2 d2
  | vs, [], d2, h => ⟨[], vs, rfl, .nil, h⟩
  | _, d :: d1, d2, h => by
    cases h with
    | cons a r =>
      obtain ⟨v1, v2, e, r1, r2⟩ := Rps.split r
      exact ⟨_ :: v1, v2, by rw [e]; rfl, .cons a r1, r2⟩
/-- def f(a, .., *v, k=.., ..) -/
theorem fn_starV (F : FunD K x qual params body scope [] kws f fd) (S : FnScope N (pn ++ [pv]) scope) (B : BodyOk pg w K mg base gd k f qual body scope N (pn ++ [pv]) T) (np : Nat) (ks : List Str) (ms : List (Str × V)) (mds : List D) (ix : List Nat)
    (hms : ∀ q ∈ ms, q ∈ kws) (hmd : ∀ F, Rps K F (ms.map (·.2)) mds) (tp : List D → D) (htp : tp = .tup ∨ tp = .stup) (r0 : Bool)
    (h : ∀ (kV : Value) (D : Addr) (doc pm : Value) (an : Option Addr) (cdv ct : Value) (us rest mv ws : List Value), (kws ≠ [] → kV = .ref D) → (r0 = true → rest = []) → us.length = np → mv.length = ms.length → ws.length = ks.length →
      KwChainE D (fun t => t = (newTuple rest >>= fun t => pure (pn.zip (pick (us ++ (mv ++ ws)) ix) ++ [(pv, t)]))) ((ms.map (·.1)).zip mv) (bindArgs (PySem.W.fnOf x qual params body scope .none kV doc pm an cdv ct) ⟨us ++ rest, ks.zip ws⟩))
    (hix : ∀ (us mv ws : List V), us.length = np → mv.length = ms.length → ws.length = ks.length → (pick (us ++ (mv ++ ws)) ix).length = pn.length) :
    FnV pg w K mg base gd (k + 1) f ks (fun ds zs M P => ∃ d0 dr, ds = d0 ++ dr ∧ d0.length = np ∧ zs.length = ks.length ∧ dr.length ≤ 1000000 ∧ (r0 = true → dr = []) ∧ T (pick (d0 ++ (mds ++ zs)) ix ++ [tp dr]) M P) := by
  obtain ⟨oc, od, dV, kV, doc, pm, an, cdv, ct, osl, rfl, lk, hcd, hD, hK⟩ := F.ex
  obtain rfl : dV = .none := by
    rcases hD with ⟨_, e⟩ | ⟨e, _⟩
    · exact e
    · exact absurd rfl e
  obtain ⟨D, hkV, hq⟩ : ∃ D : Addr, (kws ≠ [] → kV = .ref D) ∧ ∀ q ∈ kws, ∃ u, PySem.W.nsIn K D q.1 = some (some u) ∧ RelV q.2 u := by
    rcases hK with e | ⟨D, e, hq⟩
    · exact ⟨0, fun z => absurd e z, fun q hq => by rw [e] at hq; cases hq⟩
    · exact ⟨D, fun _ => e, hq⟩
  obtain ⟨mv, hml, rmv, hmk⟩ := kwd_vals (ms := ms) fun q hm => hq q (hms q hm)
  refine ⟨fun A outer s H F0 M ds zs P us0 ws vs xs Q hg hr e0 rv rx hw o rd rz t kt => ?_⟩
  obtain ⟨d0, dr, rfl, hd0, hzl, hdr, hd00, t⟩ := t
  obtain ⟨v1, v2, rfl, rd1, rd2⟩ := Rps.split rd
  obtain ⟨us, rest, rfl, r1, r2⟩ := vals_split rv
  have l1 : us.length = np := by rw [← r1.length, rd1.length]; exact hd0
  have hz : rest.length ≤ sizeLine := by rw [← r2.length, rd2.length, sizeLine_eq]; omega
  have hn : H s.heap.objs.size = Option.none := e0.hok.fresh (Nat.le_refl _)
  have lm : mv.length = ms.length := hml
  have vl : (pick (v1 ++ (ms.map (·.2) ++ xs)) ix).length = pn.length := hix _ _ _ (by rw [r1.length]; exact l1) (by rw [List.length_map]) (by rw [rx.length]; exact hw)
  have vr : Vals (pick (v1 ++ (ms.map (·.2) ++ xs)) ix) (pick (us ++ (mv ++ ws)) ix) := pick_vals (r1.append (rmv.append rx)) ix
  refine run_bnd (CX := CX0) (E := E0) lk hcd S hr e0 (G := fun ys H2 => ∃ p, H p = Option.none ∧ ys = pick (v1 ++ (ms.map (·.2) ++ xs)) ix ++ [V.ref p] ∧ H2 = upd H p (.frz { cls := .type "tuple", data := .seq rest.toArray } (.tup v2))) (fun A' Ex Q' hh => ?_) fun s2 H2 ys ⟨p, hp, ey, eH⟩ hr' => ?_
  · refine KwChainE.run (K := K) (e0.mod.kin.keeps fun b o e => (e0.bs b o e).1) (fun t et => ?_) (fun q hq => hmk q hq) (h kV D doc pm an cdv ct us rest mv ws hkV (fun z => List.eq_nil_of_length_eq_zero (by rw [← r2.length, rd2.length, hd00 z]; rfl)) l1 lm hw)
    subst et
    refine wpAny_bind (wpAny_newTuple (wpAny_pure ?_) hz)
    have new : ObjOk pg w (upd H s.heap.objs.size (.frz { cls := .type "tuple", data := .seq rest.toArray } (.tup v2))) (s.heap.push ({ cls := .type "tuple", data := .seq rest.toArray } : Obj)) s.heap.objs.size (.frz { cls := .type "tuple", data := .seq rest.toArray } (.tup v2)) := ⟨Heap.get?_push_size _ rfl, by rw [r2.length]; exact hz, rest, r2, ⟨_, Heap.get?_push_size _ rfl, rfl, _, rfl⟩⟩
    have un := un_laid (fs := frs outer) (s := s) (o := ({ cls := .type "tuple", data := .seq rest.toArray } : Obj)) (u := .frz { cls := .type "tuple", data := .seq rest.toArray } (.tup v2)) hn
    have z := hh _ _ (pick (v1 ++ (ms.map (·.2) ++ xs)) ix ++ [V.ref s.heap.objs.size]) (pick (us ++ (mv ++ ws)) ix ++ [Value.ref s.heap.objs.size]) (env0_laid e0 new) un rfl (fun e s' z => z) (vr.append (.cons rfl .nil))
      (by rw [List.length_append, List.length_append, vl] <;> rfl) ⟨_, hn, rfl, rfl⟩
    rw [List.zip_append (by rw [← vr.length, vl])] at z
    exact z
  · subst ey eH
    have k0 := o.fixSame (o := .frz { cls := .type "tuple", data := .seq rest.toArray } (.tup v2)) hp
    have rt : Rp K (upd F0 p (.frz { cls := .type "tuple", data := .seq rest.toArray } (.tup v2))) (.ref p) (tp dr) := by
      rcases htp with e | e <;> rw [e]
      · exact .tup (.inl (.inr ⟨_, upd_same⟩)) (rd2.mono k0)
      · exact .stup upd_same ⟨rfl, rfl⟩ (rd2.mono k0)
    refine body_run B S cdv hg hr' (by rw [List.length_append, List.length_append, vl] <;> rfl) (o.fix hp) ((pick_rps ((rd1.mono k0).append ((hmd _).append (rz.mono k0))) ix).append (.cons rt .nil)) t (kt.to k0)
/-- def f(a, .., k=..): no star -/
theorem fn_kwV (F : FunD K x qual params body scope [] kws f fd) (S : FnScope N pn scope) (B : BodyOk pg w K mg base gd k f qual body scope N pn T) (np : Nat) (ks : List Str) (ms : List (Str × V)) (mds : List D) (ix : List Nat)
    (hms : ∀ q ∈ ms, q ∈ kws) (hmd : ∀ F, Rps K F (ms.map (·.2)) mds)
    (h : ∀ (kV : Value) (D : Addr) (doc pm : Value) (an : Option Addr) (cdv ct : Value) (us mv ws : List Value), (kws ≠ [] → kV = .ref D) → us.length = np → mv.length = ms.length → ws.length = ks.length →
      KwChainE D (fun t => t = pure (pn.zip (pick (us ++ (mv ++ ws)) ix))) ((ms.map (·.1)).zip mv) (bindArgs (PySem.W.fnOf x qual params body scope .none kV doc pm an cdv ct) ⟨us, ks.zip ws⟩))
    (hix : ∀ (us mv ws : List V), us.length = np → mv.length = ms.length → ws.length = ks.length → (pick (us ++ (mv ++ ws)) ix).length = pn.length) :
    FnV pg w K mg base gd (k + 1) f ks (fun ds zs M P => ds.length = np ∧ zs.length = ks.length ∧ T (pick (ds ++ (mds ++ zs)) ix) M P) := by
  obtain ⟨oc, od, dV, kV, doc, pm, an, cdv, ct, osl, rfl, lk, hcd, hD, hK⟩ := F.ex
  obtain rfl : dV = .none := by
    rcases hD with ⟨_, e⟩ | ⟨e, _⟩
    · exact e
    · exact absurd rfl e
  obtain ⟨D, hkV, hq⟩ : ∃ D : Addr, (kws ≠ [] → kV = .ref D) ∧ ∀ q ∈ kws, ∃ u, PySem.W.nsIn K D q.1 = some (some u) ∧ RelV q.2 u := by
    rcases hK with e | ⟨D, e, hq⟩
    · exact ⟨0, fun z => absurd e z, fun q hq => by rw [e] at hq; cases hq⟩
    · exact ⟨D, fun _ => e, hq⟩
  obtain ⟨mv, hml, rmv, hmk⟩ := kwd_vals (ms := ms) fun q hm => hq q (hms q hm)
  refine ⟨fun A outer s H F0 M ds zs P us ws vs xs Q hg hr e0 rv rx hw o rd rz t kt => ?_⟩
  obtain ⟨hd0, hzl, t⟩ := t
  have l1 : us.length = np := by rw [← rv.length, rd.length]; exact hd0
  have lm : mv.length = ms.length := hml
  have vl : (pick (vs ++ (ms.map (·.2) ++ xs)) ix).length = pn.length := hix _ _ _ (by rw [rv.length]; exact l1) (by rw [List.length_map]) (by rw [rx.length]; exact hw)
  have vr : Vals (pick (vs ++ (ms.map (·.2) ++ xs)) ix) (pick (us ++ (mv ++ ws)) ix) := pick_vals (rv.append (rmv.append rx)) ix
  refine run_bnd (CX := CX0) (E := E0) lk hcd S hr e0 (G := fun ys H2 => ys = pick (vs ++ (ms.map (·.2) ++ xs)) ix ∧ H2 = H) (fun A' Ex Q' hh => ?_) fun s2 H2 ys ⟨ey, eH⟩ hr' => ?_
  · refine KwChainE.run (K := K) (e0.mod.kin.keeps fun b o e => (e0.bs b o e).1) (fun t et => ?_) (fun q hq => hmk q hq) (h kV D doc pm an cdv ct us mv ws hkV l1 lm hw)
    subst et
    exact wpAny_pure (hh s H _ _ e0 Un.refl rfl (fun e s' z => z) vr vl ⟨rfl, rfl⟩)
  · subst ey eH
    exact body_run B S cdv hg hr' vl o (pick_rps (rd.append ((hmd _).append rz)) ix) t kt
end

section
variable {X : Cx} {J : Gh} {e a b c o : Expr} {es : List Expr} {ρ ρ' : DEnv} {M M' : Mem} {F F' H H' : Hp} {σ : L2.St} {B : Bd} {K : PySem.W.Frag} {pos p apos cpos : Pos} {x : Str} {P : D → Mem → Prop}
theorem run_fnV {k : Nat} {gd : Bool} {f : Addr} {ks : List Str} {T : TrV} {pins : List (Addr × Obj)} {s : Shared} {Q : VK} {us ws : List Value} {vs xs : List V} {ds zs : List D} (G : FnV X.prog X.w X.K X.mg X.base gd k f ks T) (hg : gd = true → X.A.guards = some []) (hr : Room k X.A)
    (I : L2.Inv X pins σ H s) (r : Vals vs us) (rx : Vals xs ws) (hw : zs.length = ks.length) (o : Ok X.K F M H) (rd : Rps X.K F vs ds) (rz : Rps X.K F xs zs) (t : T ds zs M P) (kt : Kt X.K F P Q) :
    wpAny (model X.prog X.w) X.A (call (.ref f) us (ks.zip ws)) (EP X pins σ Q) X.xe s := by
  refine wpAny_call (codeAny_mono (G.go X.A X.stack s H F M _ _ P us ws vs xs Q hg hr I.env0 r rx (by rw [← rx.length, rz.length]; exact hw) o rd rz t kt) fun res s' end_ => ?_)
  match res, end_ with
  | .error _, end_ => exact end_.elim
  | .ok (.ret _), end_ => exact I.after end_
  | .ok .next, end_ => exact end_.elim
  | .ok .brk, end_ => exact end_.elim
  | .ok .cont, end_ => exact end_.elim
/-- f(e, .., k = v, ..) -/
theorem ex_callV {k : Nat} {gd : Bool} {f : Addr} {ks : List Str} {T : TrV} {kws : List Keyword} (G : FnV X.prog X.w X.K X.mg X.base gd k f ks T) (hgd : gd = true → X.A.guards = some []) (hr : Room k X.A) (hm : X.mg x = some (.ref f)) (hk : PySem.W.keepIn X.K (.ref f) = true)
    (h : AX X J (e :: es) ρ M fun ds M1 => KX X J kws ρ M1 fun zs M2 => zs.length = ks.length ∧ T ds zs M2 P)
    (hg : Gl X x := by rfl) (hall : (backToKw pos (keywordEach kws X.env)).all (·.1.isSome) = true := by rfl) (hks : (backToKw pos (keywordEach kws X.env)).filterMap (·.1) = ks := by rfl)
    (hdb : (x == ("__debug__" : Str)) = false := by decide) (he : starEach (e :: es) X.env = (false, eval e X.env) :: starEach es X.env := by rfl)
    (hpl : ((backTo pos (starEach (e :: es) X.env)).any (·.1) || (backToKw pos (keywordEach kws X.env)).any (·.1.isNone)) = false := by rfl) : EX X J (.Call (.Name x p) (e :: es) kws pos) ρ M P := by
  refine ⟨fun pins s σ H Q I ⟨F, st, kt⟩ => ?_⟩
  refine wpAny_Call_Name_kw (ld_glob I hg hm ?_ hdb)
  refine PySem.W.callWith_KW (h₀ := X.base) I.ok.mod.kin hk hall (thn ((pa_any (X := X) (es := e :: es)).run pos pins s σ H (fun vs H1 => ∃ F1 M1 ds, Same F F1 ∧ Ok X.K F1 M1 H1 ∧ Rps X.K F1 vs ds ∧ KX X J kws ρ M1 fun zs M2 => zs.length = ks.length ∧ T ds zs M2 P) I
    (h.go st fun ds vs M1 F1 H1 q e1 o1 r1 => ⟨F1, M1, ds, e1, o1, r1, q⟩)) fun us s1 ⟨vs, H1, I1, r, F1, M1, ds, e1, o1, rd, q⟩ => ?_) hpl he
  refine thn ((pk_any (X := X) (kws := kws)).run pos pins s1 σ H1 (fun xs H2 => ∃ F2 M2 zs, Same F1 F2 ∧ Ok X.K F2 M2 H2 ∧ Rps X.K F2 xs zs ∧ zs.length = ks.length ∧ T ds zs M2 P) I1 (q.go (st.to e1 o1) fun zs xs M2 F2 H2 q2 e2 o2 r2 => ⟨F2, M2, zs, e2, o2, r2, q2.1, q2.2⟩)) fun ws s2 ⟨xs, H2, I2, rx, F2, M2, zs, e2, o2, rz, hl, t⟩ => ⟨I2.kIn, ?_⟩
  rw [hks]
  exact run_fnV G hgd hr I2 r rx hl o2 (rd.mono e2) rz t (kt.to (e1.trans e2))
/-- f(k = v, ..) -/
theorem ex_callV0 {k : Nat} {gd : Bool} {f : Addr} {ks : List Str} {T : TrV} {kws : List Keyword} (G : FnV X.prog X.w X.K X.mg X.base gd k f ks T) (hgd : gd = true → X.A.guards = some []) (hr : Room k X.A) (hm : X.mg x = some (.ref f)) (hk : PySem.W.keepIn X.K (.ref f) = true)
    (h : KX X J kws ρ M fun zs M2 => zs.length = ks.length ∧ T [] zs M2 P)
    (hg : Gl X x := by rfl) (hall : (backToKw pos (keywordEach kws X.env)).all (·.1.isSome) = true := by rfl) (hks : (backToKw pos (keywordEach kws X.env)).filterMap (·.1) = ks := by rfl)
    (hdb : (x == ("__debug__" : Str)) = false := by decide) (hpl : ((backTo pos (starEach [] X.env)).any (·.1) || (backToKw pos (keywordEach kws X.env)).any (·.1.isNone)) = false := by rfl) : EX X J (.Call (.Name x p) [] kws pos) ρ M P := by
  refine ⟨fun pins s σ H Q I ⟨F, st, kt⟩ => ?_⟩
  refine wpAny_Call_Name_kw (ld_glob I hg hm ?_ hdb)
  refine PySem.W.callWith_KW0 (h₀ := X.base) I.ok.mod.kin hk hall (thn ((pk_any (X := X) (kws := kws)).run pos pins s σ H (fun xs H2 => ∃ F2 M2 zs, Same F F2 ∧ Ok X.K F2 M2 H2 ∧ Rps X.K F2 xs zs ∧ zs.length = ks.length ∧ T [] zs M2 P) I (h.go st fun zs xs M2 F2 H2 q2 e2 o2 r2 => ⟨F2, M2, zs, e2, o2, r2, q2.1, q2.2⟩)) fun ws s2 ⟨xs, H2, I2, rx, F2, M2, zs, e2, o2, rz, hl, t⟩ => ⟨I2.kIn, ?_⟩) hpl
  rw [hks]
  exact run_fnV (us := []) G hgd hr I2 .nil rx hl o2 .nil rz t (kt.to e2)
/-! ### dict(..) of a tuple of pairs, .get -/
def kD : Key → D
  | .inl i => .int i
  | .inr z => .str z
theorem kD_rp {k : Key} {v : V} (r : Rp K F v (kD k)) : v = kV k := by cases k <;> (cases r; rfl)
def valD (kvs : List (Key × D)) (k : Key) : Option D := (kvs.find? fun kv => decide (kv.1 = k)).map (·.2)
def putD (kvs : List (Key × D)) (k : Key) (v : D) : List (Key × D) :=
  if (kvs.any fun kv => decide (kv.1 = k)) = true then kvs.map (fun kv => if kv.1 = k then (kv.1, v) else kv) else kvs ++ [(k, v)]
def mergeD (kvs more : List (Key × D)) : List (Key × D) := more.foldl (fun acc kv => putD acc kv.1 kv.2) kvs
theorem Rks.get {k : Key} : ∀ {vs : List (Key × V)} {ds : List (Key × D)}, Rks K F vs ds → (valV vs k = none ∧ valD ds k = none) ∨ ∃ v d, valV vs k = some v ∧ valD ds k = some d ∧ Rp K F v d
  | _, _, .nil => .inl ⟨rfl, rfl⟩
  | _, _, .cons (x := y) h r => by
    by_cases e : y = k
    · exact .inr ⟨_, _, valV_pos e, by simp [valD, List.find?_cons, e], h⟩
    · rcases Rks.get (k := k) r with ⟨h1, h2⟩ | ⟨v, d, h1, h2, h3⟩
      · exact .inl ⟨by rw [valV_neg e]; exact h1, by simpa [valD, List.find?_cons, e] using h2⟩
      · exact .inr ⟨v, d, by rw [valV_neg e]; exact h1, by simpa [valD, List.find?_cons, e] using h2, h3⟩
theorem Rks.any {k : Key} : ∀ {vs : List (Key × V)} {ds : List (Key × D)}, Rks K F vs ds → (vs.any fun kv => decide (kv.1 = k)) = ds.any fun kv => decide (kv.1 = k)
  | _, _, .nil => rfl
  | _, _, .cons h r => by rw [List.any_cons, List.any_cons, Rks.any r]
theorem Rks.over {k : Key} {v : V} {d : D} (h : Rp K F v d) : ∀ {vs : List (Key × V)} {ds : List (Key × D)}, Rks K F vs ds → Rks K F (vs.map fun kv => if kv.1 = k then (kv.1, v) else kv) (ds.map fun kv => if kv.1 = k then (kv.1, d) else kv)
  | _, _, .nil => .nil
  | _, _, .cons (x := y) h' r => by
    rw [List.map_cons, List.map_cons]
    by_cases e : y = k
    · rw [if_pos e, if_pos e]; exact .cons h (Rks.over h r)
    · rw [if_neg e, if_neg e]; exact .cons h' (Rks.over h r)
theorem Rks.append : ∀ {v w : List (Key × V)} {d e : List (Key × D)}, Rks K F v d → Rks K F w e → Rks K F (v ++ w) (d ++ e)
  | _, _, _, _, .nil, s => s
  | _, _, _, _, .cons h r, s => .cons h (Rks.append r s)
theorem Rks.put {k : Key} {v : V} {d : D} {vs : List (Key × V)} {ds : List (Key × D)} (h : Rp K F v d) (r : Rks K F vs ds) : Rks K F (putK vs k v) (putD ds k d) := by
  unfold putK putD
  rw [r.any]
  split
  · exact r.over h
  · exact r.append (.cons h .nil)
theorem Rks.merge : ∀ {more : List (Key × V)} {rs : List (Key × D)} {vs : List (Key × V)} {ds : List (Key × D)}, Rks K F more rs → Rks K F vs ds → Rks K F (mergeK vs more) (mergeD ds rs)
  | _, _, _, _, .nil, q => q
  | _, _, _, _, .cons (x := kk) h r, q => by have := Rks.merge r (q.put (k := kk) h); exact this
/-- pairs of keys and values -/
def prsD (kvs : List (Key × D)) : List D := kvs.map fun kv => .tup [kD kv.1, kv.2]
theorem prs_of : ∀ {kvs : List (Key × D)} {vs : List V}, Rps K F vs (prsD kvs) → ∃ (ps : List Addr) (ws : List (Key × V)), vs = ps.map V.ref ∧ Paired (fun q kv => SqT K F q [kV kv.1, kv.2]) ps ws ∧ Rks K F ws kvs
  | [], _, .nil => ⟨[], [], rfl, .nil, .nil⟩
  | kv :: kvs, _, .cons h r => by
    obtain ⟨ps, ws, e1, e2, e3⟩ := prs_of r
    cases h with
    | tup h1 r1 =>
      cases r1 with
      | cons a r1 =>
        cases r1 with
        | cons b r1 =>
          cases r1
          rw [kD_rp a] at h1
          exact ⟨_ :: ps, (kv.1, _) :: ws, by rw [e1]; rfl, .cons h1 e2, .cons b e3⟩
theorem paired_mono {R R' : Addr → (Key × V) → Prop} (i : ∀ a b, R a b → R' a b) : ∀ {xs : List Addr} {ys : List (Key × V)}, Paired R xs ys → Paired R' xs ys
  | _, _, .nil => .nil
  | _, _, .cons h r => .cons (i _ _ h) (paired_mono i r)
/-- the values of pairs, as they stand -/
def PW (h : Heap) (prs : List (Key × Value)) (Ts : List Addr) : Prop := True
/-- dict(xs) of a tuple of pairs whose object is known -/
theorem call_dictT (hcalm : X.calm = true) : CallR X (.type "dict") (fun xs H Q => ∃ (a : Addr) (ob : Obj) (ps : List Addr) (kvs : List (Key × V)), xs = [.ref a] ∧ H a = some (.frz ob (.tup (ps.map V.ref))) ∧ ob.cls = .type "tuple" ∧ ob.dict = none ∧ Paired (fun p kv => SqT X.K H p [kV kv.1, kv.2]) ps kvs ∧
    ∀ p, H p = none → Q (.ref p) (upd H p (.dK (mergeK [] kvs)))) := by
  intro pins s σ H xs us Q I r q
  obtain ⟨a, ob, ps, kvs, ex, hq, hoc, hod, hp, q⟩ := q
  subst ex
  obtain ⟨u, eu, rx⟩ := vals1 r
  subst eu
  cases rx
  obtain ⟨hget, hz, its, rv, ⟨o2, ho2, hc2, n, hdat⟩⟩ := I.hok a _ hq
  rw [hget] at ho2
  cases ho2
  have ei := refs_at rv
  subst ei
  rw [List.length_map] at hz
  obtain ⟨prs, rel, hl, hpr⟩ := pairs_of I hp
  have hpr' : ∀ (j : Nat) (q : Key × Value), prs[j]? = some q → ∃ u : Value, (ps.map Value.ref).toArray[j]? = some (.ref (ps.getD j 0)) ∧ IsTup s.heap (ps.getD j 0) #[u, q.2] ∧ keyIs q.1 u = true := by
    intro j q e
    obtain ⟨b, u, e1, e2, e3⟩ := hpr j q e
    have eb : ps.getD j 0 = b := by rw [List.getD_eq_getElem?_getD, e1]; rfl
    exact ⟨u, by simp [e1, eb], by rw [eb]; exact e2, e3⟩
  have key : ∃ pv : List (Value × Value), pv.length = prs.length ∧ ∀ (j : Nat) (kk v : Value), pv[j]? = some (kk, v) → ∃ kx, prs[j]? = some (kx, v) ∧ keyIs kx kk = true ∧ IsTup s.heap (ps.getD j 0) #[kk, v] := by
    have : ∀ (L : List (Key × Value)) (i0 : Nat), (∀ j q, L[j]? = some q → ∃ u : Value, IsTup s.heap (ps.getD (i0 + j) 0) #[u, q.2] ∧ keyIs q.1 u = true) →
        ∃ pv : List (Value × Value), pv.length = L.length ∧ ∀ (j : Nat) (kk v : Value), pv[j]? = some (kk, v) → ∃ kx, L[j]? = some (kx, v) ∧ keyIs kx kk = true ∧ IsTup s.heap (ps.getD (i0 + j) 0) #[kk, v] := by
      intro L
      induction L with
      | nil => exact fun i0 _ => ⟨[], rfl, fun j kk v e => by simp at e⟩
      | cons q L ih =>
        intro i0 h
        obtain ⟨u, h1, h2⟩ := h 0 q rfl
        obtain ⟨pv, h3, h4⟩ := ih (i0 + 1) fun j q' e => by
          obtain ⟨u, h5, h6⟩ := h (j + 1) q' (by simpa using e)
          exact ⟨u, by rw [show i0 + 1 + j = i0 + (j + 1) by omega]; exact h5, h6⟩
        refine ⟨(u, q.2) :: pv, by simp [h3], fun j kk v e => ?_⟩
        cases j with
        | zero =>
          simp only [List.getElem?_cons_zero, Option.some.injEq, Prod.mk.injEq] at e
          obtain ⟨rfl, rfl⟩ := e
          exact ⟨q.1, rfl, h2, h1⟩
        | succ j =>
          obtain ⟨kx, h5, h6, h7⟩ := h4 j kk v (by simpa using e)
          exact ⟨kx, by simpa using h5, h6, by rw [show i0 + (j + 1) = i0 + 1 + j by omega]; exact h7⟩
    obtain ⟨pv, h1, h2⟩ := this prs 0 fun j q e => by
      obtain ⟨u, _, h3, h4⟩ := hpr' j q e
      exact ⟨u, by rw [Nat.zero_add]; exact h3, h4⟩
    exact ⟨pv, h1, fun j kk v e => by
      obtain ⟨kx, h3, h4, h5⟩ := h2 j kk v e
      exact ⟨kx, h3, h4, by rw [Nat.zero_add] at h5; exact h5⟩⟩
  obtain ⟨pv, hpl, hpv⟩ := key
  refine PySem.call_dict_pairs (knd := mixKind X.prog X.w) (kvs := prs) (PairArg.tuple a (ps.map Value.ref).toArray (fun j => ps.getD j 0) pv) (I.ok.hd hcalm) ⟨⟨ob, n, hget, hoc, hod, hdat⟩, ⟨by simp [hpl, hl], fun j kk v e => ?_⟩⟩ ⟨by rw [hpl], fun i kk v e => ?_⟩ (by rw [hpl, hl]; exact hz) fun h' tk hd' k => ?_
  · obtain ⟨kx, h1, h2, h3⟩ := hpv j kk v e
    obtain ⟨_, h4, _⟩ := hpr' j _ h1
    exact ⟨h4, .inl h3⟩
  · obtain ⟨kx, h1, h2, h3⟩ := hpv i kk v e
    exact ⟨kx, h1, h2⟩
  · have hm : (s.heap.objs.size == sysModules) = false := beq_eq_false_iff_ne.mpr (Nat.ne_of_gt I.big)
    have hlen : (mergeK [] kvs).length ≤ sizeLine := by
      refine Nat.le_trans (length_mergeK kvs []) ?_
      rw [List.length_nil, Nat.zero_add, rel.length, hl]
      exact hz
    exact ⟨.ref s.heap.objs.size, upd H s.heap.objs.size (.dK (mergeK [] kvs)), I.laid (t' := tk) (fun b o => k b o (by simp)) (Nat.le_refl _) (show ObjOk X.prog X.w _ _ _ (.dK (mergeK [] kvs)) from ⟨hlen, hm, merged [] prs, KV.merge rel .nil, hd'⟩), rfl, q _ (I.hok.fresh (Nat.le_refl _))⟩
theorem bb_dict : bootBuiltins "dict" = some (.type "dict") := by decide +kernel
theorem cd_dict {kvs : List (Key × D)} (hc : X.calm = true) (q : P (.dct (mergeD [] kvs)) M) : CD X (.type "dict") [.stup (prsD kvs)] M P :=
  ⟨_, call_dictT hc, fun F H vs Q o r k => by
    cases r with
    | cons h1 r =>
      cases r
      cases h1 with
      | stup h2 hc r2 =>
        obtain ⟨ps, ws, e1, e2, e3⟩ := prs_of r2
        subst e1
        exact ⟨_, _, ps, ws, rfl, o.ex _ _ h2, hc.1, hc.2, paired_mono (fun _ _ z => same_t o.ex z) e2, fun l hl => k _ _ _ _ _ q (o.fixSame hl) (o.fix hl) (.dct upd_same ((e3.merge .nil).mono (o.fixSame hl)))⟩⟩
/-- d.get(k, x) -/
theorem ex_dget2 (hu : X.A.units + 64 < cLine) (h : EX X J o ρ M fun d M1 => ∃ kvs, d = .dct kvs ∧ EX X J a ρ M1 fun y M2 => ∃ k, y = kD k ∧ EX X J b ρ M2 fun z M3 => P ((valD kvs k).getD z) M3)
    (hbase : attributeBase o "get" X.env (eval o X.env) = eval o X.env := by rfl)
    (few : ((backTo cpos (starEach [a, b] X.env)).all (fun x => !x.1) && (backToKw cpos (keywordEach [] X.env)).all (fun x => x.1.isSome) && decide ([a, b].length + ([] : List Keyword).length + (if ([] : List Keyword).isEmpty then 0 else 1) < 30)) = true := by rfl)
    (line : (apos.endLine == cpos.line) = true := by rfl) (trees : backTo cpos (starEach [a, b] X.env) = [(false, eval a X.env), (false, eval b X.env)] := by rfl) :
    EX X J (.Call (.Attribute o "get" apos) [a, b] [] cpos) ρ M P :=
  ex_of (pe_dget2 (by omega) pe_any pe_any pe_any ⟨hbase, few, line, trees⟩) fun F σ H Q st kt => h.go st fun d v M1 F1 H1 q1 e1 o1 r1 => by
    obtain ⟨kvs, rfl, q1⟩ := q1
    cases r1 with
    | dct h1 r1 =>
      refine ⟨_, rfl, .inl ⟨_, .inl (o1.ex _ _ h1)⟩, q1.go (st.to e1 o1) fun y w M2 F2 H2 q2 e2 o2 r2 => ?_⟩
      obtain ⟨kk, rfl, q2⟩ := q2
      have := kD_rp r2
      subst this
      refine q2.go (st.to (e1.trans e2) o2) fun z u M3 F3 H3 q3 e3 o3 r3 => ?_
      refine ⟨_, .inl ⟨_, kk, .inl (o3.ex _ _ (e3 _ _ (e2 _ _ h1))), rfl, rfl⟩, ?_⟩
      rcases ((r1.mono e2).mono e3).get (k := kk) with ⟨g1, g2⟩ | ⟨v', d', g1, g2, g3⟩
      · rw [g1]; rw [g2] at q3
        exact kt _ _ _ _ _ q3 ((e1.trans e2).trans e3) o3 r3
      · rw [g1]; rw [g2] at q3
        exact kt _ _ _ _ _ q3 ((e1.trans e2).trans e3) o3 g3
/-- xs.pop(i) -/
theorem Rps.eraseIdx : ∀ {v : List V} {d : List D} (i : Nat), Rps K F v d → Rps K F (v.eraseIdx i) (d.eraseIdx i)
  | _, _, _, .nil => .nil
  | _, _, 0, .cons _ r => r
  | _, _, i + 1, .cons h r => .cons h (Rps.eraseIdx i r)
theorem ex_pop (h : EX X J o ρ M fun d M1 => ∃ q ds1, d = .adr q ∧ M1 q = some (.lst ds1) ∧ AX X J [e] ρ M1 fun ys M2 => ∃ i ds f y n, ys = [.int i] ∧ At M2 q (.lst ds) f ∧ (-(2 ^ 63) ≤ i ∧ i < 2 ^ 63) ∧ ixN ds.length i = some n ∧ ds[n]? = some y ∧ P y (f (.lst (ds.eraseIdx n))))
    (hbase : attributeBase o "pop" X.env (eval o X.env) = eval o X.env := by rfl)
    (few : ((backTo cpos (starEach [e] X.env)).all (fun x => !x.1) && (backToKw cpos (keywordEach [] X.env)).all (fun x => x.1.isSome) && decide ([e].length + ([] : List Keyword).length + (if ([] : List Keyword).isEmpty then 0 else 1) < 30)) = true := by rfl)
    (line : (apos.endLine == cpos.line) = true := by rfl) (hst : starEach [e] X.env = (false, eval e X.env) :: starEach [] X.env := by rfl) (hpl : (backTo cpos (starEach [] X.env)).any (·.1) = false := by rfl) :
    EX X J (.Call (.Attribute o "pop" apos) [e] [] cpos) ρ M P :=
  ex_of (pe_bm PySem.F.plainAttrs_list PySem.F.slot_list_pop PySem.F.type_list_pop mt_popAt pe_any pa_any hbase few line hst hpl) fun F σ H Q st k => h.go st fun d v M1 F1 H1 q1 e1 o1 r1 => by
    obtain ⟨q, ds1, rfl, hq, q2⟩ := q1
    cases r1
    obtain ⟨_, xs1, hx1, _⟩ := o1.mt _ _ hq
    refine ⟨tyV_lst hx1, q2.go (st.to e1 o1) fun ys vs M2 F2 H2 q3 e2 o2 r2 => ?_⟩
    obtain ⟨i, ds, f, y, n, rfl, hA, hi, hn, hy, q3⟩ := q3
    cases r2 with
    | cons r2 r3 =>
      cases r3
      cases r2
      obtain ⟨_, xs, hx, rx⟩ := o2.mt _ _ hA.get
      obtain ⟨w, hw, rw'⟩ := rx.get hy
      refine ⟨q, xs, i, n, w, rfl, rfl, hx, hi.1, hi.2, (ixN_seq (by rw [rx.length]; exact hn)).1, hw, k _ _ _ _ _ q3 (e1.trans e2) ?_ rw'⟩
      rw [hA.set]
      exact o2.set (o := .lst (xs.eraseIdx n)) hA.get ⟨_, upd_same, rx.eraseIdx n⟩
/-- z.index(y) of texts -/
theorem ex_sindex (h : EX X J o ρ M fun d M1 => ∃ z, d = .str z ∧ AX X J [e] ρ M1 fun ys M2 => ∃ y i rest, ys = [.str y] ∧ Builtin.Str.occurrences z y 0 z.length 1 = i :: rest ∧ P (.int ((i : Nat) : Int)) M2)
    (hbase : attributeBase o "index" X.env (eval o X.env) = eval o X.env := by rfl)
    (few : ((backTo cpos (starEach [e] X.env)).all (fun x => !x.1) && (backToKw cpos (keywordEach [] X.env)).all (fun x => x.1.isSome) && decide ([e].length + ([] : List Keyword).length + (if ([] : List Keyword).isEmpty then 0 else 1) < 30)) = true := by rfl)
    (line : (apos.endLine == cpos.line) = true := by rfl) (hst : starEach [e] X.env = (false, eval e X.env) :: starEach [] X.env := by rfl) (hpl : (backTo cpos (starEach [] X.env)).any (·.1) = false := by rfl) :
    EX X J (.Call (.Attribute o "index" apos) [e] [] cpos) ρ M P :=
  ex_of (pe_bm PySem.F.plainAttrs_str PySem.F.slot_str_index PySem.F.type_str_index mt_sindex pe_any pa_any hbase few line hst hpl) fun F σ H Q st k => h.go st fun d v M1 F1 H1 q1 e1 o1 r1 => by
    obtain ⟨z, rfl, q2⟩ := q1
    cases r1
    refine ⟨rfl, q2.go (st.to e1 o1) fun ys vs M2 F2 H2 q3 e2 o2 r2 => ?_⟩
    obtain ⟨y, i, rest, rfl, ho, q3⟩ := q3
    cases r2 with
    | cons r2 r3 =>
      cases r3
      cases r2
      exact ⟨z, y, i, rest, rfl, rfl, ho, k _ _ _ _ _ q3 (e1.trans e2) o2 (.int _)⟩
/-- *e among the arguments -/
theorem ax_star {PA' : List D → Mem → Prop} {sp : Pos} (h : EX X J e ρ M fun d M1 => ∃ ds, Sq M1 d ds ∧ AX X J es ρ M1 fun ds2 M2 => PA' (ds ++ ds2) M2) (hs : starEach (.Starred e sp :: es) X.env = (true, eval e X.env) :: starEach es X.env := by rfl) : AX X J (.Starred e sp :: es) ρ M PA' :=
  ax_of (pa_star pe_any pa_any hs) fun F σ H Q st k => h.go st fun d v M1 F1 H1 q1 e1 o1 r1 => by
    obtain ⟨ds, sq, q1⟩ := q1
    obtain ⟨q, xs, rfl, hx, rx⟩ := sq.get o1 r1
    exact ⟨q, xs, rfl, hx.symm, q1.go (st.to e1 o1) fun ds2 vs M2 F2 H2 q2 e2 o2 r2 => k _ _ M2 F2 H2 q2 (e1.trans e2) o2 ((rx.mono e2).append r2)⟩
end
end DX
namespace DX
open PySem PySem.Spec L2
section
variable {X : Cx} {J : Gh} {e a b c o : Expr} {es : List Expr} {ρ ρ' : DEnv} {M M' : Mem} {F F' H H' : Hp} {σ : St} {B : Bd} {K : PySem.W.Frag} {pos p apos cpos : Pos} {x : Str} {P : D → Mem → Prop}
/-- list(range(..)) that may change -/
theorem ex_lstRM {p' pos' : Pos} (hc : X.calm = true) (hmt : X.mg "list" = none) (hm : X.mg "range" = none) (h : AX X J (a :: es) ρ M fun ds M1 => ∃ i c n, Rg ds i c n ∧ ∀ q, M1 q = none → P (.adr q) (up M1 q (.lst (rngC i c n)))) (hgt : Gl X "list" := by rfl) (hg : Gl X "range" := by rfl)
    (hs : starEach (a :: es) X.env = (false, eval a X.env) :: starEach es X.env := by rfl) (hpl : (backTo pos (starEach es X.env)).any (·.1) = false := by rfl) (na : starEach [.Call (.Name "range" p) (a :: es) [] pos] X.env = (false, eval (.Call (.Name "range" p) (a :: es) [] pos) X.env) :: starEach [] X.env := by rfl) :
    EX X J (.Call (.Name "list" p') [.Call (.Name "range" p) (a :: es) [] pos] [] pos') ρ M P :=
  ex_of (pe_lstRc hc hgt hmt (prc hg hm pa_any hs hpl) na) fun F σ H Q st k => h.go st fun ds vs M1 F1 H1 q e1 o1 r1 => by
    obtain ⟨i, c, n, hr, q⟩ := q
    obtain ⟨i', j, c', n', h1, h2, h3, rfl, rfl, rfl⟩ := hr.raw r1
    exact ⟨i', j, c', n', h1, h2, h3, fun l hl => k _ _ _ _ _ (q l (o1.nn hl).2) e1 (o1.lay hl ⟨_, upd_same, rps_rgC⟩) (.adr l)⟩
/-- xs * n, a list that may change -/
theorem od_mulLM {x : D} {ds : List D} {n : Int} (sx : Sl M x ds) (h0 : -(2 ^ 62) ≤ n ∧ n < 2 ^ 62) (hz : ds.length * n.toNat ≤ 1000000) (p : ∀ q, M q = none → P (.adr q) (up M q (.lst (List.replicate n.toNat ds).flatten))) : OD X (binaryOp .Mult) x (.int n) M P :=
  ⟨_, op_rep, fun F H v u Q o rx ry k => by
    cases ry
    obtain ⟨a, xs, rfl, h1, r1⟩ := sx.get o rx
    exact ⟨a, n, xs, rfl, rfl, h1, by omega, by omega, by rw [r1.length, sizeLine_eq]; omega, fun q hq => k _ _ _ _ _ (p q (o.nn hq).2) (Same.refl _) (o.lay hq ⟨_, upd_same, r1.rep _⟩) (.adr q)⟩⟩
/-- xs + ys, a list that may change -/
theorem od_addLM {x y : D} {ds es : List D} (sx : Sl M x ds) (sy : Sl M y es) (hz : ds.length + es.length ≤ 1000000) (p : ∀ q, M q = none → P (.adr q) (up M q (.lst (ds ++ es)))) : OD X (binaryOp .Add) x y M P :=
  ⟨_, op_cat, fun F H v u Q o rx ry k => by
    obtain ⟨a, xs, rfl, h1, r1⟩ := sx.get o rx
    obtain ⟨b, ys, rfl, h2, r2⟩ := sy.get o ry
    exact ⟨a, b, xs, ys, rfl, rfl, h1, h2, by rw [r1.length, r2.length, sizeLine_eq]; omega, fun q hq => k _ _ _ _ _ (p q (o.nn hq).2) (Same.refl _) (o.lay hq ⟨_, upd_same, r1.append r2⟩) (.adr q)⟩⟩
/-- list(x), a list that may change -/
theorem cd_listM {d : D} {ds : List D} (s : Sq M d ds) (q : ∀ l, M l = none → P (.adr l) (up M l (.lst ds))) : CD X (.type "list") [d] M P :=
  ⟨_, call_list_of, fun F H vs Q o r k => by
    cases r with
    | cons h1 r =>
      cases r
      obtain ⟨a, xs, rfl, h2, r2⟩ := s.get o h1
      exact ⟨a, xs, rfl, h2, fun l hl => k _ _ _ _ _ (q l (o.nn hl).2) (Same.refl _) (o.lay hl ⟨_, upd_same, r2⟩) (.adr l)⟩⟩
/-! ### comprehensions whose elements change nothing: element i gives g i, is taken if t i -/
variable {scope : Scope} {tg iter elt : Expr} {ifs : List Expr}
def lcR (n : Nat) (t : Nat → Bool) (g : Nat → D) : List D := ((List.range n).filter t).map g
theorem lcR_succ {n : Nat} {t : Nat → Bool} {g : Nat → D} : lcR (n + 1) t g = lcR n t g ++ if t n then [g n] else [] := by
  unfold lcR
  rw [List.range_succ, List.filter_append, List.map_append]
  congr 1
  cases h : t n <;> simp [h]
theorem lcR_len {n : Nat} {t : Nat → Bool} {g : Nat → D} : (lcR n t g).length ≤ n := by
  unfold lcR
  rw [List.length_map]
  exact Nat.le_trans (List.length_filter_le _ _) (by rw [List.length_range]; exact Nat.le_refl _)
theorem lcR_all {n : Nat} {g : Nat → D} : lcR n (fun _ => true) g = (List.range n).map g := by unfold lcR; rw [List.filter_eq_self.mpr (fun _ _ => rfl)]
theorem lcR_map {ds : List D} {g : D → D} {n : Nat} {f : Nat → D} (hn : ds.length = n) (h : ∀ i d, ds[i]? = some d → f i = g d) : lcR n (fun _ => true) f = ds.map g := by
  rw [lcR_all]
  apply List.ext_getElem?
  intro i
  rw [List.getElem?_map, List.getElem?_map]
  by_cases hi : i < ds.length
  · rw [List.getElem?_range (by omega), List.getElem?_eq_getElem hi]
    show some (f i) = some (g ds[i])
    rw [h i ds[i] (List.getElem?_eq_getElem hi)]
  · rw [List.getElem?_eq_none (by rw [List.length_range]; omega), List.getElem?_eq_none (by omega)]; rfl
theorem lcI {vs : List Nat} {ds : List D} {M1 : Mem} (g : Nat → D) (t : Nat → Bool)
    (h : ∀ i d acc Dl, ds[i]? = some d → i < ds.length → M1 Dl = none → AsB X scope vs tg d (cuts ρ vs) fun ρ2 => TXb X J scope ifs ρ2 (up M1 Dl (.lst acc)) fun tb M2 => tb = t i ∧ M2 = up M1 Dl (.lst acc) ∧ (t i = true → EXb X J scope elt ρ2 M2 fun y M3 => y = g i ∧ M3 = up M1 Dl (.lst acc)))
    (hl : ds.length ≤ 1000000) (k : P (.lst (lcR ds.length t g)) M1) : LcW X J scope vs tg ifs elt ρ P ds M1 := by
  refine ⟨fun i acc M' => M' = M1 ∧ acc = lcR i t g, ⟨rfl, rfl⟩, ?_, fun acc M' q => by obtain ⟨rfl, rfl⟩ := q; exact k⟩
  rintro i d acc M' Dl hd ⟨rfl, rfl⟩ hD
  have hi : i < ds.length := by
    by_cases hi : i < ds.length
    · exact hi
    · rw [List.getElem?_eq_none (by omega)] at hd; cases hd
  refine ⟨by have := lcR_len (n := i) (t := t) (g := g); omega, ?_⟩
  obtain ⟨gg, h1, h2⟩ := h i d (lcR i t g) Dl hd hi hD
  refine ⟨gg, h1, fun F M v σ H Q o r en kk => h2 F M v σ H Q o r en fun σ' ρ' q en' w => kk σ' ρ' ?_ en' w⟩
  obtain ⟨tt, h3, h4⟩ := q
  refine ⟨tt, h3, fun F σ H Q st kb => h4 F σ H Q st fun tb M2 F' H' q e o => kb tb M2 F' H' ?_ e o⟩
  obtain ⟨rfl, rfl, q⟩ := q
  refine ⟨fun ht => ?_, fun ht => ⟨M', hD, rfl, rfl, by rw [lcR_succ, ht]; simp⟩⟩
  intro s H C cl fp
  exact (q ht s H C cl fp).imp fun y M3 hy => ⟨M', hD, hy.2, rfl, by rw [lcR_succ, ht, hy.1]; rfl⟩
end
end DX
namespace DX
open PySem PySem.Spec L2
/-! ### repr where dicts stand among the data -/
def keyP : Key → PyData
  | .inl i => .int i
  | .inr x => .str x
mutual
def pydR : D → PyData
  | .bl b => .bool b
  | .int i => .int i
  | .str x => .str x
  | .tup ds => .tuple (pydRs ds)
  | .lst ds => .list (pydRs ds)
  | .dct kvs => .dict (pydRk kvs)
  | _ => .none
def pydRs : List D → List PyData
  | [] => []
  | d :: ds => pydR d :: pydRs ds
def pydRk : List (Key × D) → List (PyData × PyData)
  | [] => []
  | (k, d) :: ds => (keyP k, pydR d) :: pydRk ds
end
mutual
/-- what may be shown -/
def shw : D → Bool
  | .non => true
  | .bl _ => true
  | .int _ => true
  | .str _ => true
  | .tup ds => shws ds
  | .lst ds => shws ds
  | .dct kvs => shwk kvs
  | _ => false
def shws : List D → Bool
  | [] => true
  | d :: ds => shw d && shws ds
def shwk : List (Key × D) → Bool
  | [] => true
  | (_, d) :: ds => shw d && shwk ds
end
/-- the text that repr gives -/
def txtR (d : D) : Str := (pydR d).shown
/-- all that repr asks of the data (to be shown by computation or by rules below) -/
structure ROk (d : D) : Prop where
  sh : shw d = true
  ok : (pydR d).showable = true
  dp : (pydR d).depth ≤ 60
  sz : (pydR d).shown.length ≤ 16000000
/-- sys.modules' place holds a dict: read off the written part -/
def sysB (K : PySem.W.Frag) : Bool := match K.lookup sysModules with
  | some o => decide (o.cls = .type "dict")
  | none => false
section
variable {X : Cx} {pins : List (Addr × Obj)} {σ : L2.St} {F H : Hp} {s : Shared}
theorem sys_dict (hS : sysB X.K = true) (I : L2.Inv X pins σ H s) : ∃ o, s.heap.get? sysModules = some o ∧ o.cls = .type "dict" := by
  unfold sysB at hS
  cases e : X.K.lookup sysModules with
  | none => rw [e] at hS; cases hS
  | some o =>
    rw [e] at hS
    exact ⟨o, I.kIn _ _ e, of_decide_eq_true hS⟩
theorem not_sys (hS : sysB X.K = true) (I : L2.Inv X pins σ H s) {a : Addr} {o : Obj} (h : s.heap.get? a = some o) (hc : o.cls = .type "list") : sysModules ≠ a := by
  intro e
  obtain ⟨o2, h2, h3⟩ := sys_dict hS I
  rw [e, h] at h2
  cases h2
  rw [hc] at h3
  exact absurd h3 (by decide)
theorem pairs_reads {h : Heap} {vs : List (Key × Value)} {es : List DictEntry} (ps : Pairs (mixKind X.prog X.w) es vs) : ReadsAll h (es.map (·.key)) (vs.map fun q => keyP q.1) [] ∧ es.map (·.val) = vs.map (·.2) := by
  induction ps with
  | nil => exact ⟨.nil, rfl⟩
  | @cons e kv es kvs hk hv _ ih =>
    refine ⟨?_, by rw [List.map_cons, List.map_cons, ih.2, hv]⟩
    rw [List.map_cons, List.map_cons]
    have hr : Reads h e.key (keyP kv.1) [] := by
      rcases keyIs_shape (show keyIs kv.1 e.key = true from hk) with ⟨i, t, e1, e2⟩ | ⟨x, t, e1, e2⟩
      · rw [e1, e2]; exact .int i t
      · rw [e1, e2]; exact .str x t
    exact ReadsAll.cons (as := []) (bs := []) hr ih.1
mutual
theorem Rp.reads (hS : sysB X.K = true) (I : L2.Inv X pins σ H s) (hs : Same F H) : ∀ (d : D) (v : V) (u : Value), shw d = true → Rp X.K F v d → RelV v u → ∃ as, Reads s.heap u (pydR d) as ∧ sysModules ∉ as
  | .non, _, _, _, .non, r => by cases r; exact ⟨_, .none, by simp⟩
  | .bl b, _, _, _, .bl _, r => by cases r; exact ⟨_, .bool b, by simp⟩
  | .int i, _, _, _, .int _, r => by obtain ⟨t, rfl⟩ := r; exact ⟨_, .int i t, by simp⟩
  | .str x, _, _, _, .str _, r => by obtain ⟨t, rfl⟩ := r; exact ⟨_, .str x t, by simp⟩
  | .lst ds, _, _, h, .lst h1 h2, r => by
    cases r
    obtain ⟨its, rv, ⟨o, n, ho, hc, _, hd⟩, _⟩ := I.list (SqL.of (hs _ _ h1))
    obtain ⟨as, hr, hn⟩ := Rps.readsAll hS I hs ds _ its (by rw [shw] at h; exact h) h2 rv
    have q := Reads.list ho hc hd hr
    rw [show pydR (.lst ds) = .list (pydRs ds) by rw [pydR]]
    exact ⟨_, q, by rw [List.mem_cons, not_or]; exact ⟨not_sys hS I ho hc, hn⟩⟩
  | .tup ds, _, _, h, .tup h1 h2, r => by
    cases r
    obtain ⟨its, rv, ⟨o, ho, hc, n, hd⟩, _⟩ := I.tuple (same_t hs h1)
    obtain ⟨as, hr, hn⟩ := Rps.readsAll hS I hs ds _ its (by rw [shw] at h; exact h) h2 rv
    have q := Reads.tuple ho hc hd hr
    rw [show pydR (.tup ds) = .tuple (pydRs ds) by rw [pydR]]
    exact ⟨_, q, hn⟩
  | .dct kvs, _, _, h, .dct h1 h2, r => by
    cases r
    obtain ⟨_, hne, vs, rel, o, es, ep, ho, hx, hd, _, hp, _⟩ := I.hok _ _ (hs _ _ h1)
    obtain ⟨k1, k2⟩ := pairs_reads (h := s.heap) hp
    obtain ⟨bs, hr, hn⟩ := Rks.readsAll hS I hs kvs _ vs (by rw [shw] at h; exact h) h2 rel
    have e : (pydRk kvs).map (·.1) = vs.map fun q => keyP q.1 := hr.2
    have k3 : ReadsAll s.heap (es.toList.map (·.key)) ((pydRk kvs).map (·.1)) [] := by rw [e]; exact k1
    have k4 : ReadsAll s.heap (es.toList.map (·.val)) ((pydRk kvs).map (·.2)) bs := by rw [k2]; exact hr.1
    have q := Reads.dict (as := []) ho hx.1 hd k3 k4
    rw [show pydR (.dct kvs) = .dict (pydRk kvs) by rw [pydR]]
    refine ⟨_, q, ?_⟩
    simp only [List.append_nil, List.cons_append, List.nil_append, List.mem_cons, not_or]
    exact ⟨fun z => by rw [← z] at hne; simp at hne, hn⟩
  | .adr _, _, _, h, _, _ => by simp [shw] at h
  | .ty _, _, _, h, _, _ => by simp [shw] at h
  | .scr _, _, _, h, _, _ => by simp [shw] at h
  | .ins _ _, _, _, h, _, _ => by simp [shw] at h
  | .stup _, _, _, h, _, _ => by simp [shw] at h
theorem Rps.readsAll (hS : sysB X.K = true) (I : L2.Inv X pins σ H s) (hs : Same F H) : ∀ (ds : List D) (vs : List V) (us : List Value), shws ds = true → Rps X.K F vs ds → Vals vs us → ∃ as, ReadsAll s.heap us (pydRs ds) as ∧ sysModules ∉ as
  | [], _, _, _, .nil, .nil => ⟨_, .nil, by simp⟩
  | d :: ds, _, _, h, .cons h1 h2, .cons r1 r2 => by
    rw [shws, Bool.and_eq_true] at h
    obtain ⟨as, q1, n1⟩ := Rp.reads hS I hs d _ _ h.1 h1 r1
    obtain ⟨bs, q2, n2⟩ := Rps.readsAll hS I hs ds _ _ h.2 h2 r2
    exact ⟨_, ReadsAll.cons q1 q2, by rw [List.mem_append, not_or]; exact ⟨n1, n2⟩⟩
theorem Rks.readsAll (hS : sysB X.K = true) (I : L2.Inv X pins σ H s) (hs : Same F H) : ∀ (ds : List (Key × D)) (vs : List (Key × V)) (us : List (Key × Value)), shwk ds = true → Rks X.K F vs ds → KV vs us →
    ∃ as, (ReadsAll s.heap (us.map (·.2)) ((pydRk ds).map (·.2)) as ∧ (pydRk ds).map (·.1) = us.map fun q => keyP q.1) ∧ sysModules ∉ as
  | [], _, _, _, .nil, .nil => ⟨_, ⟨.nil, rfl⟩, by simp⟩
  | (k, d) :: ds, _, _, h, .cons h1 h2, .cons (b := q) r1 r2 => by
    rw [shwk, Bool.and_eq_true] at h
    obtain ⟨as, q1, n1⟩ := Rp.reads hS I hs d _ _ h.1 h1 r1.2
    obtain ⟨bs, ⟨q2, q3⟩, n2⟩ := Rks.readsAll hS I hs ds _ _ h.2 h2 r2
    refine ⟨_, ⟨ReadsAll.cons q1 q2, ?_⟩, by rw [List.mem_append, not_or]; exact ⟨n1, n2⟩⟩
    rw [pydRk, List.map_cons, List.map_cons, q3, ← r1.1]
end
end
section
variable {X : Cx} {J : Gh} {e a b c o : Expr} {es : List Expr} {ρ ρ' : DEnv} {M M' : Mem} {F F' H H' : Hp} {σ : L2.St} {B : Bd} {K : PySem.W.Frag} {pos p apos cpos : Pos} {x : Str} {P : D → Mem → Prop}
theorem repr_allR {pins : List (Addr × Obj)} {s : Shared} {d : D} {v : V} {u : Value} {Q : Value → Shared → Prop} (hS : sysB X.K = true) (hg : X.A.guards = some []) (hu : X.A.units + 64 < cLine) (I : L2.Inv X pins σ H s) (hs : Same F H) (hR : ROk d) (h : Rp X.K F v d) (r : RelV v u)
    (k : ∀ t s', L2.Inv X pins σ H s' → Q (.str (txtR d) t) s') : wpAny (model X.prog X.w) X.A (call (.builtin "repr") [u]) Q X.xe s := by
  have hz : (pydR d).shown.length ≤ sizeLine := by rw [sizeLine_eq]; have := hR.sz; omega
  have hd := hR.dp
  unfold txtR at k
  obtain ⟨as, rd, hn⟩ := Rp.reads hS I hs d v u hR.sh h r
  have big : ∀ a, u = .ref a → wpAny (model X.prog X.w) X.A (call (.builtin "repr") [u]) Q X.xe s := by
    rintro a rfl
    exact repr_of_reads' rd hR.ok (fun _ => hn) hg (by omega) (fun b ob z => z) (fun h' t tk hk => k t _ (I.kept hk)) hz
  have hsh := hR.ok
  clear rd hn
  cases h with
  | non => cases r; exact PySem.P.repr_of_none (by simpa [pydR, PyData.shown] using k _ _ (I.tok _))
  | bl b => cases r; exact PySem.P.repr_of_bool (by simpa [pydR, PyData.shown] using k _ _ (I.tok _))
  | int i =>
    obtain ⟨t, rfl⟩ := r
    exact PySem.P.repr_of_int (by simpa [pydR, PyData.showable] using hsh) (by simpa [pydR, PyData.shown] using k _ _ (I.tok _))
  | str y =>
    obtain ⟨t, rfl⟩ := r
    exact PySem.P.repr_of_str (by simpa [pydR, PyData.shown] using k _ _ (I.tok _)) (by simpa [pydR, PyData.shown] using hz)
  | lst _ _ => exact big _ r
  | tup _ _ => exact big _ r
  | dct _ _ => exact big _ r
  | adr _ => have := hR.sh; simp [shw] at this
  | ty _ => have := hR.sh; simp [shw] at this
  | scr _ => have := hR.sh; simp [shw] at this
  | ins _ _ => have := hR.sh; simp [shw] at this
  | stup _ _ _ => have := hR.sh; simp [shw] at this
  | exn _ _ _ => have := hR.sh; simp [shw] at this
theorem call_reprR (hS : sysB X.K = true) (hg : X.A.guards = some []) (hu : X.A.units + 64 < cLine) : CallR X (.builtin "repr") (fun xs H Q => ∃ F v d, xs = [v] ∧ Same F H ∧ ROk d ∧ Rp X.K F v d ∧ Q (.str (txtR d)) H) := by
  intro pins s σ H xs us Q I r h
  obtain ⟨F, v, d, rfl, hs, hR, h, q⟩ := h
  obtain ⟨u, rfl, rx⟩ := vals1 r
  exact repr_allR hS hg hu I hs hR h rx fun t s' I' => ⟨.str (txtR d), H, I', ⟨t, rfl⟩, q⟩
theorem cd_reprR {d : D} (hS : sysB X.K = true) (hg : X.A.guards = some []) (hu : X.A.units + 64 < cLine) (hR : ROk d) (q : P (.str (txtR d)) M) : CD X (.builtin "repr") [d] M P :=
  ⟨_, call_reprR hS hg hu, fun F H vs Q o r k => by
    cases r with
    | cons h1 r =>
      cases r
      exact ⟨F, _, d, rfl, o.ex, hR, h1, k.here q o (.str _)⟩⟩
/-! ### list(text) -/
theorem call_list_text (hc : X.calm = true) : CallR X (.type "list") (fun xs H Q => ∃ z : Str, xs = [.str z] ∧ z.length ≤ 1000000 ∧ ∀ l, H l = none → Q (.ref l) (upd H l (.lst (z.cps.toList.map fun c => V.str ⟨#[c]⟩)))) := by
  intro pins s σ H xs us Q I r h
  obtain ⟨z, rfl, hz, q⟩ := h
  obtain ⟨u, rfl, rx⟩ := vals1 r
  obtain ⟨t, rfl⟩ := rx
  have hz2 : z.cps.size ≤ 1000000 := hz
  refine call_list_str (I.ok.hd hc) z t (hn := by rw [sizeLine_eq]; omega) fun h' tk acc c' kp e hi => ?_
  refine ⟨.ref s.heap.objs.size, _, I.laid (t' := tk) kp (Nat.le_refl _) (show ObjOk X.prog X.w _ h' _ (.lst (z.cps.toList.map fun c => V.str ⟨#[c]⟩)) from ⟨?_, acc.toList, c', ?_, e⟩), rfl, q _ (I.hok.fresh (Nat.le_refl _))⟩
  · rw [List.length_map, Array.length_toList, sizeLine_eq]; omega
  · have e1 : acc.toList.length = z.cps.toList.length := by rw [Array.length_toList, Array.length_toList]; exact hi.1
    have e2 : (z.cps.toList.map fun c => V.str ⟨#[c]⟩) = (List.range acc.toList.length).map fun j => V.str ⟨#[z.cps.toList.getD j 0]⟩ := by
      rw [e1]
      apply List.ext_getElem
      · simp
      · intro j h1 h2
        rw [List.length_map] at h1
        rw [List.getElem_map, List.getElem_map, List.getElem_range, List.getD_eq_getElem?_getD, List.getElem?_eq_getElem h1]; rfl
    rw [e2]
    refine vals_of_get _ _ fun j w hj => ?_
    obtain ⟨c, u, h1, h2⟩ := hi.2 j w (by rw [← hj, Array.getElem?_toList])
    have : z.cps.toList[j]? = some c := by rw [Array.getElem?_toList]; exact h1
    rw [List.getD_eq_getElem?_getD, this]
    exact ⟨u, h2⟩
theorem cd_listS {z : Str} (hc : X.calm = true) (hz : z.cps.toList.length ≤ 1000000) (q : P (.lst (signs z)) M) : CD X (.type "list") [.str z] M P :=
  ⟨_, call_list_text hc, fun F H vs Q o r k => by
    cases r with
    | cons h1 r =>
      cases r
      cases h1
      refine ⟨z, rfl, ?_, fun l hl => ?_⟩
      · show z.cps.size ≤ _
        rw [← Array.length_toList]; exact hz
      · refine k _ _ _ _ _ q (o.fixSame hl) (o.fix hl) (.lst upd_same ?_)
        have e : (z.cps.toList.map fun c => V.str ⟨#[c]⟩) = (z.cps.toList.map fun c => (⟨#[c]⟩ : Str)).map V.str := by rw [List.map_map]; rfl
        have e2 : signs z = (z.cps.toList.map fun c => (⟨#[c]⟩ : Str)).map D.str := by unfold signs; rw [List.map_map]; rfl
        rw [e, e2]
        exact Rps.ofStrs⟩
/-! ### dicts written out -/
theorem ex_dct0 (p : P (.dct []) M) : EX X J (.Dict [] [] pos) ρ M P :=
  ex_of pe_dnewK fun F σ H Q st k => fun l hl => k _ _ _ _ _ p (st.ok.fixSame hl) (st.ok.fix hl) (.dct upd_same .nil)
/-- {k: v} -/
theorem ex_dct1 (h : ∀ p, M p = none → EX X J a ρ (up M p (.dct [])) fun y M1 => ∃ k, y = kD k ∧ EX X J b ρ M1 fun d M2 => ∃ M3, M3 p = none ∧ M2 = up M3 p (.dct []) ∧ P (.dct [(k, d)]) M3) : EX X J (.Dict [some a] [b] pos) ρ M P :=
  ex_of (pe_disp (pps_cons pe_any pe_any pps_nil) rfl rfl (by simp) (Nat.le_of_ble_eq_true rfl)) fun F σ H Q st kt => fun l hl => by
    have hM := st.ok.nn hl
    have o0 : Ok X.K F (up M l (.dct [])) (upd H l (.dK [])) := st.ok.lay hl ⟨[], upd_same, .nil⟩
    refine (h l hM.2).go ⟨st.en, o0, st.gh⟩ fun y v M1 F1 H1 q1 e1 o1 r1 => ?_
    obtain ⟨k, rfl, q1⟩ := q1
    refine q1.go ⟨st.en.mono e1, o1, J.mono _ _ e1 st.gh⟩ fun d w M2 F2 H2 q2 e2 o2 r2 => ?_
    obtain ⟨M3, hn, rfl, q2⟩ := q2
    obtain ⟨_, kvs0, hk0, rk0⟩ := o2.mt l _ up_same
    cases rk0
    refine ⟨hk0, [(k, w)], ?_, Nat.le_of_ble_eq_true rfl, ?_⟩
    · rw [kD_rp r1]; rfl
    · have e : mergeK [] [(k, w)] = [(k, w)] := rfl
      rw [e]
      have o3 := o2.set (o := .dK [(k, w)]) (d' := .dct [(k, d)]) up_same ⟨_, upd_same, .cons r2 .nil⟩
      rw [up_up] at o3
      obtain ⟨s1, o4⟩ := o3.freeze up_same upd_same
      rw [rm_up hn] at o4
      exact kt _ _ _ _ _ q2 ((e1.trans e2).trans s1) o4 (.dct upd_same (.cons (r2.mono s1) .nil))
/-- z.lower() -/
theorem ex_lower (h : EX X J o ρ M fun d M1 => ∃ z, d = .str z ∧ z.length ≤ 1000000 ∧ P (.str (Txt.lower z)) M1)
    (hbase : attributeBase o "lower" X.env (eval o X.env) = eval o X.env := by rfl) (hline : (apos.endLine == cpos.line) = true := by rfl) : EX X J (.Call (.Attribute o "lower" apos) [] [] cpos) ρ M P :=
  ex_of (pe_bm0 PySem.F.plainAttrs_str PySem.F.slot_str_lower PySem.F.type_str_lower mt_lower pe_any hbase hline) fun F σ H Q st k => h.go st fun d v M1 F1 H1 q1 e1 o1 r1 => by
    obtain ⟨z, rfl, hz, q⟩ := q1
    cases r1
    exact ⟨rfl, z, rfl, rfl, by omega, k _ _ _ _ _ q e1 o1 (.str _)⟩
end
end DX
namespace DX
open PySem PySem.Spec L2 SX
/-! ### a look at the module that sees sys.modules' place, too -/
def lookS (fa : List He.Fa) (fn : List He.DefD) (ex : PySem.W.Frag → Bool) (n : Nat) (g : Addr → Option Obj) : He.AlD × Bool :=
  (He.obsD fa fn (He.frG g (sysModules :: He.asD g n)), ex (He.frG g (sysModules :: He.asD g n)))
def hookS (n : Nat) (fa : List He.Fa) (fn : List He.DefD) (ex : PySem.W.Frag → Bool) : PySem.W.Hook where
  α := He.AlD × Bool
  obs := fun s => lookS fa fn ex n s.heap.get?
  val := fun _ => (He.valD fn, true)
  says := fun _ h => ∃ K : PySem.W.Frag, K.In h ∧ He.SaysD fa fn K ∧ ex K = true
  of := fun _ _ e => ⟨_, He.frG_in, congrArg Prod.fst e, congrArg Prod.snd e⟩
  keeps := fun _ _ _ ⟨K, hK, c, d⟩ k => ⟨K, PySem.W.Frag.In.keeps hK k, c, d⟩
theorem lookS_eq {n : Nat} {fa : List He.Fa} {fn : List He.DefD} {ex : PySem.W.Frag → Bool} {g : Addr → Option Obj} {s : Shared} (h : ∀ a, g a = s.heap.get? a) : lookS fa fn ex n g = (hookS n fa fn ex).obs s := by
  have e : g = s.heap.get? := funext h
  subst e
  rfl
/-! ### texts times numbers -/
section
variable {X : Cx} {M : Mem} {P : D → Mem → Prop}
theorem op_mul_str : OpR X (binaryOp .Mult) (fun x y H Q => ∃ z n, x = .str z ∧ y = .int n ∧ z.length ≤ 1000 ∧ -(2 ^ 62) ≤ n ∧ n ≤ 10000 ∧ Q (.str (Txt.mul z n)) H) := by
  intro pins s σ H x y v u Q I rx ry h
  obtain ⟨z, n, rfl, rfl, hz, h1, h2, q⟩ := h
  obtain ⟨t, rfl⟩ := rx
  obtain ⟨t', rfl⟩ := ry
  exact PySem.SB.mul (PyProof.Rows.mulOk_of 1000 10000 hz h2 (by omega) (by decide) (by decide)) fun t' k => ⟨.str (Txt.mul z n), H, I.tok _, ⟨_, rfl⟩, q⟩
theorem foldl_arr (c : Nat) : ∀ (n : Nat) (acc : Array Nat), (List.replicate n #[c]).foldl (· ++ ·) acc = acc ++ (List.replicate n c).toArray
  | 0, acc => by simp
  | n + 1, acc => by
    rw [List.replicate_succ, List.foldl_cons, foldl_arr c n, List.replicate_succ, Array.append_assoc]
    congr 1
    apply Array.ext'
    simp
theorem mul_S {c : Nat} {n : Int} (h : 0 ≤ n) : Txt.mul (S [c]) n = S (List.replicate n.toNat c) := by
  unfold Txt.mul
  by_cases h1 : n < 1
  · rw [if_pos h1, show n.toNat = 0 by omega]; rfl
  · rw [if_neg h1]
    by_cases h2 : n = 1
    · subst h2; rfl
    · rw [if_neg (by simp [h2, S, Str.length])]
      show (⟨(List.replicate n.toNat #[c]).foldl (· ++ ·) #[]⟩ : Str) = ⟨(List.replicate n.toNat c).toArray⟩
      rw [foldl_arr]; simp
theorem od_mulS {z : Str} {n : Int} {c : Nat} (hz : z = S [c]) (h : 0 ≤ n ∧ n ≤ 10000) (p : P (.str (S (List.replicate n.toNat c))) M) : OD X (binaryOp .Mult) (.str z) (.int n) M P :=
  ⟨_, op_mul_str, fun F H v u Q o rx ry k => by
    subst hz
    cases rx; cases ry
    exact ⟨S [c], n, rfl, rfl, by rw [S_len]; simp, by omega, h.2, by rw [mul_S h.1]; exact k.here p o (.str _)⟩⟩
end
/-! ### what may be shown, of data without dicts -/
mutual
theorem good_R : ∀ {d : D}, good d → pydR d = pyd d ∧ shw d = true
  | .non, _ => ⟨by simp [pydR, pyd], by simp [shw]⟩
  | .bl _, _ => ⟨by simp [pydR, pyd], by simp [shw]⟩
  | .int _, _ => ⟨by simp [pydR, pyd], by simp [shw]⟩
  | .str _, _ => ⟨by simp [pydR, pyd], by simp [shw]⟩
  | .tup ds, h => by have := goods_R (ds := ds) h; exact ⟨by rw [pydR, pyd, this.1], by rw [shw, this.2]⟩
  | .lst ds, h => by have := goods_R (ds := ds) h; exact ⟨by rw [pydR, pyd, this.1], by rw [shw, this.2]⟩
theorem goods_R : ∀ {ds : List D}, goods ds → pydRs ds = pyds ds ∧ shws ds = true
  | [], _ => ⟨by simp [pydRs, pyds], by simp [shws]⟩
  | d :: ds, h => by
    have h1 := good_R h.1
    have h2 := goods_R h.2
    exact ⟨by rw [pydRs, pyds, h1.1, h2.1], by rw [shws, h1.2, h2.2]; rfl⟩
end
theorem rok_good {d : D} (h : good d) (hw : wt d ≤ 16000000) (hd : dep d ≤ 50) : ROk d := by
  obtain ⟨h1, h2⟩ := good_R h
  have h3 := dep_py h
  have h4 := wt_py h
  exact ⟨h2, by rw [h1]; exact good_show h, by rw [h1]; omega, by rw [h1]; omega⟩
theorem txtR_good {d : D} (h : good d) : txtR d = txt d := by unfold txtR txt; rw [(good_R h).1]
/-! ### texts of signs below 128 -/
def tx (l : List Nat) : Prop := ∀ c ∈ l, c < 128
theorem tx_app {a b : List Nat} (h : tx a) (g : tx b) : tx (a ++ b) := fun c hc => by
  rcases List.mem_append.mp hc with q | q
  · exact h c q
  · exact g c q
theorem tx_cut {l : List Nat} {a b : Option Int} (h : tx l) : tx (cutA l a b) := fun c hc => h c (List.mem_of_mem_drop (List.mem_of_mem_take hc))
theorem cut_le {α : Type} {l : List α} {a b : Option Int} : (cutA l a b).length ≤ l.length := by unfold cutA; rw [List.length_take, List.length_drop]; omega
theorem tx_isS {l : List Nat} (h : ∀ c ∈ l, isS c) : tx l := fun c hc => by rcases h c hc with rfl | rfl | rfl <;> decide
theorem tx_lower {l : List Nat} (h : tx l) : ∃ m, Txt.lower (S l) = S m ∧ tx m ∧ m.length = l.length := by
  refine ⟨l.map PyProof.Rows.lo1, ?_, ?_, by simp⟩
  · rw [PyProof.Rows.lower_ascii (x := S l) h]
    show (⟨(l.toArray).map PyProof.Rows.lo1⟩ : Str) = ⟨(l.map PyProof.Rows.lo1).toArray⟩
    simp
  · intro c hc
    rw [List.mem_map] at hc
    obtain ⟨d, hd, rfl⟩ := hc
    have := h d hd
    unfold PyProof.Rows.lo1
    split <;> omega
theorem tx_ok {l : List Nat} (h : tx l) : PyData.strOk (S l) = true := by
  show (l.toArray).all (· < 0x110000) = true
  rw [Array.all_eq_true_iff_forall_mem]
  intro c hc
  have := h c (by simpa using hc)
  simp; omega
theorem good_tx {l : List Nat} (h : tx l) (hl : l.length ≤ 10000) : good (.str (S l)) ∧ wt (.str (S l)) ≤ 16000000 ∧ dep (.str (S l)) ≤ 50 := ⟨tx_ok h, by rw [wt, S_len]; omega, le_b rfl⟩
theorem goods_sgl : ∀ {l : List Nat}, tx l → goods (sgl l)
  | [], _ => trivial
  | c :: l, h => ⟨tx_ok fun d hd => h d (by rw [List.mem_singleton] at hd; rw [hd]; exact List.mem_cons_self ..), goods_sgl fun d hd => h d (List.mem_cons_of_mem _ hd)⟩
theorem wts_sgl : ∀ l : List Nat, wts (sgl l) = 14 * l.length
  | [] => rfl
  | c :: l => by
    show wt (.str (S [c])) + 2 + wts (sgl l) = _
    rw [wts_sgl l, wt, S_len, List.length_cons, List.length_cons, List.length_nil]; omega
theorem deps_sgl : ∀ l : List Nat, deps (sgl l) = 0
  | [] => rfl
  | c :: l => by
    show max (dep (.str (S [c]))) (deps (sgl l)) = _
    rw [deps_sgl l]; rfl
/-- a text, if it is one, is short and of such signs -/
def txz (d : D) : Prop := ∀ z, d = .str z → tx z.cps.toList ∧ z.cps.toList.length ≤ 1000
/-- values that laws hand in: shown, asked for their kind, short if texts -/
structure Th (d : D) : Prop where
  pl : plain d = true
  ro : ROk d
  tz : txz d
theorem th_tx {l : List Nat} (h : tx l) (hl : l.length ≤ 1000) : Th (.str (S l)) := by
  obtain ⟨g1, g2, g3⟩ := good_tx h (by omega)
  exact ⟨rfl, rok_good g1 g2 g3, fun z e => by cases e; exact ⟨h, hl⟩⟩
theorem th_str {z : Str} {l : List Nat} (e : z = S l) (h : tx l) (hl : l.length ≤ 1000) : Th (.str z) := by rw [e]; exact th_tx h hl
theorem th_good {d : D} (hp : plain d = true) (hn : ∀ z, d ≠ .str z) (g : good d) (w : wt d ≤ 16000000) (q : dep d ≤ 50) : Th d := ⟨hp, rok_good g w q, fun z e => absurd e (hn z)⟩
theorem th_sgl {l : List Nat} (h : tx l) (hl : l.length ≤ 1000) : Th (.lst (sgl l)) := th_good rfl (fun z e => by cases e) (goods_sgl h) (by rw [wt, wts_sgl]; omega) (by rw [dep, deps_sgl]; exact le_b rfl)
theorem th_tsgl {l : List Nat} (h : tx l) (hl : l.length ≤ 1000) : Th (.tup (sgl l)) := th_good rfl (fun z e => by cases e) (goods_sgl h) (by rw [wt, wts_sgl]; omega) (by rw [dep, deps_sgl]; exact le_b rfl)
theorem th_tup1 {l : List Nat} (h : tx l) (hl : l.length ≤ 1000) : Th (.tup [.str (S l)]) := by
  obtain ⟨g1, g2, g3⟩ := good_tx h (by omega)
  exact th_good rfl (fun z e => by cases e) ⟨g1, trivial⟩ (by simp only [wt, wts, S_len]; omega) (le_b rfl)
theorem th_int {i : Int} (h : -(2 ^ 200) ≤ i ∧ i ≤ 2 ^ 200) : Th (.int i) := th_good rfl (fun z e => by cases e) h (le_b rfl) (le_b rfl)
theorem th_non : Th .non := th_good rfl (fun z e => by cases e) trivial (le_b rfl) (le_b rfl)
theorem th_bl {b : Bool} : Th (.bl b) := th_good rfl (fun z e => by cases e) trivial (le_b rfl) (le_b rfl)
theorem th_nil : Th (.lst []) := th_good rfl (fun z e => by cases e) trivial (le_b rfl) (le_b rfl)
theorem th_tnil : Th (.tup []) := th_good rfl (fun z e => by cases e) trivial (le_b rfl) (le_b rfl)
theorem th_dct0 : Th (.dct []) := ⟨rfl, ⟨by simp [shw, shwk], by simp [pydR, pydRk, PyData.showable, PyData.showableKv], by simp [pydR, pydRk, PyData.depth, PyData.depthKv], by
  simp only [pydR, pydRk, PyData.shown, PyData.shownKv]
  exact Nat.le_trans (dictText_len_le []) (by decide)⟩, fun z e => by cases e⟩
theorem th_dct1 {k : Str} {l : List Nat} (hk : (reprText k).length ≤ 1000) (h : tx l) (hl : l.length ≤ 1000) : Th (.dct [(.inr k, .str (S l))]) :=
  ⟨rfl, ⟨by simp [shw, shwk], by simp [pydR, pydRk, keyP, PyData.showable, PyData.showableKv], by simp [pydR, pydRk, keyP, PyData.depth, PyData.depthKv], by
    simp only [pydR, pydRk, keyP, PyData.shown, PyData.shownKv]
    refine Nat.le_trans (dictText_len_le _) ?_
    have h1 := StrLaws.reprText_len (S l) fun c hc => by
      have := h c hc
      exact Nat.lt_trans this (by decide)
    have h2 : (S l).length = l.length := S_len l
    have e2 : (reprText k ++ ": " ++ reprText (S l)).length = (reprText k).length + 2 + (reprText (S l)).length := by
      rw [strLen_append, strLen_append]; rfl
    simp only [List.map_cons, List.map_nil, List.sum_cons, List.sum_nil, List.length_cons, List.length_nil]
    rw [e2]
    omega⟩, fun z e => by cases e⟩
end DX
namespace DX
open PySem PySem.Spec L2 StX PyProof.Rows
/-! ### + by an own __add__ -/
theorem looks_fills {K : PySem.W.Frag} {M : Model} {h : Heap} {C f : Addr} {nm : String} (X : K.In h) (hsf : PySem.W.selfFirst K C = true) (hs : PySem.W.findIn K (.ref C) (dunder nm) = some (some (.ref f))) : PySem.W.Looks M h (fillsNumberSlot (.ref C) nm) true := by
  unfold PySem.W.selfFirst at hsf
  cases hc : PySem.W.clsIn K C with
  | none => rw [hc] at hsf; cases hsf
  | some cd =>
    rw [hc] at hsf
    have hh : cd.mro.head? = some (.ref C) := by simpa using hsf
    cases hm : cd.mro with
    | nil => rw [hm] at hh; cases hh
    | cons v rest =>
      rw [hm] at hh
      cases hh
      have L1 : PySem.W.Looks M h (mroOf (.ref C)) (.ref C :: rest) := by
        show PySem.W.Looks M h (classData C >>= fun d => pure d.mro) _
        exact (PySem.W.looks_clsIn X hc).andThen (by rw [hm]; exact PySem.W.Looks.now)
      show PySem.W.Looks M h (mroOf (.ref C) >>= fun l => l.anyM _) true
      refine L1.andThen ?_
      rw [List.anyM]
      refine PySem.W.Looks.andThen (a := true) ?_ PySem.W.Looks.now
      show PySem.W.Looks M h ([dunder nm, dunderR nm].anyM _) true
      rw [List.anyM]
      refine PySem.W.Looks.andThen (a := true) ?_ PySem.W.Looks.now
      refine (PySem.W.looks_findIn X hs).andThen ?_
      exact PySem.W.Looks.now
section
variable {prog : Program} {w : World} {A : Around} {E : Value → Shared → Prop} {s : Shared} {K : PySem.W.Frag} {x y C f : Addr} {ox oy : Obj} {od od' : Option Obj}
theorem special_K {name : Str} {args : List Value} {Q : Option Value → Shared → Prop} (X : K.In s.heap) (I : PySem.W.InstAt s.heap x ox C od) (hs : PySem.W.findIn K (.ref C) name = some (some (.ref f))) (hf : PySem.W.isFn K (.ref f) = true)
    (h : wpAny (model prog w) A (call (.ref f) (.ref x :: args)) (fun v => Q (some v)) E s) : wpAny (model prog w) A (callSpecial? (.ref x) name args) Q E s := by
  unfold callSpecial? specialOf
  refine wpAny_bind (wpAny_bind (I.type.here ((PySem.W.looks_findIn X hs).here ?_)))
  refine wpAny_holding (wpAny_bind ((PySem.W.bind_fn X _ (beq_iff_eq.mp hf)).here ?_))
  exact wpAny_bind (wpAny_mono h (fun v s' h' => wpAny_pure h') fun _ _ h' => h')
theorem add_own {Q : Value → Shared → Prop} (X : K.In s.heap) (I : PySem.W.InstAt s.heap x ox C od) (J : PySem.W.InstAt s.heap y oy C od') (hsf : PySem.W.selfFirst K C = true) (hs : PySem.W.findIn K (.ref C) "__add__" = some (some (.ref f))) (hf : PySem.W.isFn K (.ref f) = true)
    (h : wpAny (model prog w) A (call (.ref f) [.ref x, .ref y]) (fun v s' => v ≠ .notImplemented ∧ Q v s') E s) : wpAny (model prog w) A (binaryOp .Add (.ref x) (.ref y)) Q E s := by
  have one : wpAny (model prog w) A (binaryOp1 "add" (.ref x) (.ref y)) (fun r s' => ∃ v, r = some v ∧ Q v s') E s := by
    simp only [binaryOp1]
    refine wpAny_bind (I.type.here (wpAny_bind (J.type.here (wpAny_bind ((looks_fills (nm := "add") X hsf (by exact hs)).here ?_)))))
    simp only [beq_self_eq_true, if_true, pure_bind, Bool.and_false, Bool.false_and, Bool.false_eq_true, if_false]
    refine wpAny_bind ?_
    unfold tryMethod
    refine wpAny_bind (special_K (args := [.ref y]) X I (by exact hs) hf (wpAny_mono h (fun v s' h' => ?_) fun _ _ h' => h'))
    obtain ⟨h1, h2⟩ := h'
    cases v <;> first | exact absurd rfl h1 | exact wpAny_pure (wpAny_pure ⟨_, rfl, h2⟩)
  show wpAny (model prog w) A (holding [.ref x, .ref y] _) Q E s
  refine wpAny_holding (wpAny_bind (wpAny_mono one (fun r s' z => ?_) fun _ _ h' => h'))
  obtain ⟨v, rfl, hq⟩ := z
  exact wpAny_pure hq
end

/-! ### instances as data -/
inductive Is (M : Mem) : D → Addr → List (Str × D) → Prop
  | frz {C : Addr} {gs : List (Str × D)} : Is M (.ins C gs) C gs
  | adr {p C : Addr} {gs : List (Str × D)} : M p = some (.ins C gs) → Is M (.adr p) C gs
section
variable {K : PySem.W.Frag} {F H : Hp} {M : Mem}
theorem Is.get {d : D} {C : Addr} {gs : List (Str × D)} {v : V} (s : Is M d C gs) (o : Ok K F M H) (r : Rp K F v d) : ∃ a dx fs, v = .ref a ∧ H a = some (.ins C dx fs) ∧ Rfs K F fs gs := by
  cases s with
  | frz =>
    cases r with
    | ins h r => exact ⟨_, _, _, rfl, o.ex _ _ h, r⟩
  | adr h =>
    cases r
    obtain ⟨_, dx, fs, h1, h2⟩ := o.mt _ _ h
    exact ⟨_, dx, fs, rfl, h1, h2⟩
theorem Rfs.look {f : Str} : ∀ {fs : List (Str × V)} {gs : List (Str × D)}, Rfs K F fs gs → (fs.lookup f = none ∧ gs.lookup f = none) ∨ ∃ v d, fs.lookup f = some v ∧ gs.lookup f = some d ∧ Rp K F v d
  | _, _, .nil => .inl ⟨rfl, rfl⟩
  | _, _, .cons (x := x) h r => by
    by_cases e : f = x
    · subst e; exact .inr ⟨_, _, by simp [List.lookup], by simp [List.lookup], h⟩
    · have e2 : (f == x) = false := by simpa using e
      rcases Rfs.look (f := f) r with ⟨h1, h2⟩ | ⟨v, d, h1, h2, h3⟩
      · exact .inl ⟨by simpa [List.lookup, e2] using h1, by simpa [List.lookup, e2] using h2⟩
      · exact .inr ⟨v, d, by simpa [List.lookup, e2] using h1, by simpa [List.lookup, e2] using h2, h3⟩
def putG (f : Str) (v : D) : List (Str × D) → List (Str × D)
  | [] => [(f, v)]
  | (g, x) :: r => if g = f then (g, v) :: r else (g, x) :: putG f v r
theorem Rfs.put {f : Str} {v : V} {d : D} (h : Rp K F v d) : ∀ {fs : List (Str × V)} {gs : List (Str × D)}, Rfs K F fs gs → Rfs K F (putF f v fs) (putG f d gs)
  | _, _, .nil => .cons h .nil
  | _, _, .cons (x := x) h' r => by
    unfold putF putG
    by_cases e : x = f
    · rw [if_pos e, if_pos e]; exact .cons h r
    · rw [if_neg e, if_neg e]; exact .cons h' (Rfs.put h r)
theorem Rfs.length : ∀ {fs : List (Str × V)} {gs : List (Str × D)}, Rfs K F fs gs → fs.length = gs.length
  | _, _, .nil => rfl
  | _, _, .cons _ r => congrArg Nat.succ r.length
/-- an object beside -/
theorem Ok.more (k : Ok K F M H) {a : Addr} {o : HO} (h : H a = none) : Ok K F M (upd H a o) := by
  refine ⟨fun b u e => ?_, fun b d e => ?_⟩
  · rw [upd_ne (ne_of_none (k.ex b u e) h)]; exact k.ex b u e
  · obtain ⟨m1, m2⟩ := k.mt b d e
    obtain ⟨o2, h2⟩ := m2.there
    exact ⟨m1, m2.mono (Same.refl F) (upd_ne (ne_of_none h2 h))⟩
end
section
variable {X : Cx} {J : Gh} {e a b c o : Expr} {es : List Expr} {ρ ρ' : DEnv} {M M' : Mem} {F F' H H' : Hp} {σ : L2.St} {B : Bd} {K : PySem.W.Frag} {pos p apos cpos : Pos} {x f : Str} {P : D → Mem → Prop}
/-- e.f, a field -/
theorem ex_fld (h : EX X J e ρ M fun d M1 => ∃ C gs y, Is M1 d C gs ∧ Cls X.K C ∧ NoAttr X.K C f ∧ gs.lookup f = some y ∧ P y M1) (hb : attributeBase e f X.env (eval e X.env) = eval e X.env := by rfl) : EX X J (.Attribute e f pos) ρ M P :=
  ex_of (pe_fld pe_any hb) fun F σ H Q st k => h.go st fun d v M1 F1 H1 q1 e1 o1 r1 => by
    obtain ⟨C, gs, y, hi, hc, hn, hl, q⟩ := q1
    obtain ⟨a, dx, fs, rfl, h1, h2⟩ := hi.get o1 r1
    rcases h2.look (f := f) with ⟨_, h3⟩ | ⟨w, d', h3, h4, h5⟩
    · rw [h3] at hl; cases hl
    · rw [h4] at hl; cases hl
      exact ⟨a, C, dx, fs, w, rfl, h1, hc, hn, h3, k _ _ _ _ _ q e1 o1 h5⟩
/-- e.f, a constant of the class -/
theorem ex_con (h : EX X J e ρ M fun d M1 => ∃ C gs v u y, Is M1 d C gs ∧ Cls X.K C ∧ Con X.K C f v u ∧ gs.lookup f = none ∧ (∀ F, Rp X.K F v y) ∧ P y M1) (hb : attributeBase e f X.env (eval e X.env) = eval e X.env := by rfl) : EX X J (.Attribute e f pos) ρ M P :=
  ex_of (pe_con pe_any hb) fun F σ H Q st k => h.go st fun d v M1 F1 H1 q1 e1 o1 r1 => by
    obtain ⟨C, gs, v, u, y, hi, hc, hk, hl, hy, q⟩ := q1
    obtain ⟨a, dx, fs, rfl, h1, h2⟩ := hi.get o1 r1
    rcases h2.look (f := f) with ⟨h3, _⟩ | ⟨w, d', h3, h4, h5⟩
    · exact ⟨a, C, dx, fs, v, u, rfl, h1, hc, hk, h3, k _ _ _ _ _ q e1 o1 (hy _)⟩
    · rw [h4] at hl; cases hl
/-- e.f, a property -/
theorem ex_prop {k : Nat} {C q g : Addr} {fd : FuncData} {ps : List Str} {T : Tr} (c : Cls X.K C) (hp : PropOf X.K C f q g) (G : FnOk X.prog X.w X.K X.mg X.base CX0 k g fd ps (SpD X.K T)) (hr : Room (k + 1) X.A) (hb : Binds X.K fd ps [])
    (h : EX X J e ρ M fun d M1 => ∃ gs, Is M1 d C gs ∧ T [d] M1 P) (hab : attributeBase e f X.env (eval e X.env) = eval e X.env := by rfl) : EX X J (.Attribute e f pos) ρ M P :=
  ex_of (pe_prop (E := E0) pe_any c hp G hr hb .nil pass0 hab) fun F σ H Q st k => h.go st fun d v M1 F1 H1 q1 e1 o1 r1 => by
    obtain ⟨gs, hi, t⟩ := q1
    obtain ⟨a, dx, fs, rfl, h1, h2⟩ := hi.get o1 r1
    exact ⟨a, dx, fs, rfl, h1, F1, M1, [d], P, o1, .cons r1 .nil, t, k.to e1⟩
/-- o.f = e, o an instance that may change -/
theorem g1_setFld {fp : Pos} (h : EX X J e ρ M fun y M1 => EX X J o ρ M1 fun d M2 => ∃ q C gs, d = .adr q ∧ M2 q = some (.ins C gs) ∧ Cls X.K C ∧ NoAttr X.K C f ∧ gs.length < 1000 ∧ B.nx ρ (up M2 q (.ins C (putG f y gs))))
    (hs : swapsWith e (some (.Attribute o f fp)) pos.line X.env = pure false := by rfl) : G1 X J (.Assign [.Attribute o f fp] e pos) ρ M B :=
  g1_of (ps_fld pe_any pe_any hs) fun F σ H E s k => h.go s fun y v M1 F1 H1 q1 e1 o1 r1 => q1.go (s.to e1 o1) fun d w M2 F2 H2 q2 e2 o2 r2 => by
    obtain ⟨q, C, gs, rfl, hq, hc, hn, hl, q3⟩ := q2
    cases r2
    obtain ⟨_, dx, fs, h1, h2⟩ := o2.mt _ _ hq
    refine ⟨q, C, dx, fs, rfl, h1, hc, hn, by rw [h2.length]; exact hl, k.nx F2 _ _ _ _ q3 (e1.trans e2) ((s.en.mono e1).mono e2) ?_⟩
    exact o2.set (o := .ins C dx (putF f v fs)) hq ⟨dx, _, upd_same, h2.put (r1.mono e2)⟩
/-- what is made by C(..), told of its values -/
def TMk (C : Addr) (T : TrV) (ds : List D) (M : Mem) (P : D → Mem → Prop) : Prop := ∀ a, M a = none → T (.adr a :: ds) [] (up M a (.ins C [])) fun d M2 => d = .non ∧ ∃ gs M0, M0 a = none ∧ M2 = up M0 a (.ins C gs) ∧ P (.ins C gs) M0
theorem run_makeV {k : Nat} {C g : Addr} {T : TrV} {pins : List (Addr × Obj)} {s : Shared} {Q : VK} {us : List Value} {vs : List V} {ds : List D} (Mk0 : Mk X.K C g) (G : FnV X.prog X.w X.K X.mg X.base false k g [] T) (hr : Room (k + 1) X.A)
    (I : L2.Inv X pins σ H s) (r : Vals vs us) (o : Ok X.K F M H) (rd : Rps X.K F vs ds) (t : TMk C T ds M P) (kt : Kt X.K F P Q) : wpAny (model X.prog X.w) X.A (call (.ref C) us) (EP X pins σ Q) X.xe s := by
  have h1 : H (s.heap.objs.size + 1) = none := I.hok.fresh (Nat.le_succ _)
  have h0 : H s.heap.objs.size = none := I.hok.fresh (Nat.le_refl _)
  have I2 := Inv.made (C := C) I
  have o1 := o.more (o := .own (s.heap.objs.size + 1)) h0
  have h2 : upd H s.heap.objs.size (.own (s.heap.objs.size + 1)) (s.heap.objs.size + 1) = none := by rw [upd_ne (Nat.succ_ne_self _)]; exact h1
  have o2 := o1.lay (o := .ins C s.heap.objs.size []) (d := .ins C []) h2 ⟨_, [], upd_same, .nil⟩
  have hM := (o.nn h1).2
  have r2 : Vals (V.ref (s.heap.objs.size + 1) :: vs) (Value.ref (s.heap.objs.size + 1) :: us) := .cons rfl r
  refine wpAny_call (make_map (f := g) I.kIn Mk0.makes Mk0.init (beq_iff_eq.mp Mk0.fn) (codeAny_mono (G.go _ X.stack _ _ F _ _ [] _ (Value.ref (s.heap.objs.size + 1) :: us) [] _ [] (fun v H2 => v = .non ∧ Q (.ref (s.heap.objs.size + 1)) H2) (fun z => nomatch z) (hr.make C us []) (I2.env0.make C us []) r2 .nil rfl o2 (.cons (.adr _) rd) .nil (t _ hM) ?_) fun r s' hq' => ?_))
  · rintro d v M' F' H' ⟨rfl, gs, M0, hn, rfl, q⟩ e' o' r'
    cases r'
    refine ⟨rfl, ?_⟩
    obtain ⟨_, dx, fs, h3, h4⟩ := o'.mt _ _ up_same
    obtain ⟨s1, o5⟩ := o'.freeze up_same h3
    rw [rm_up hn] at o5
    exact kt _ _ _ _ _ q (e'.trans s1) o5 (.ins upd_same (h4.mono s1))
  · cases r with
    | error e => exact hq'.elim
    | ok fl =>
      cases fl with
      | ret u =>
        obtain ⟨v, H', I3, rv, ev, q3⟩ := I2.after hq'
        subst ev
        exact ⟨rv, ⟨V.ref (s.heap.objs.size + 1), H', I3, rfl, q3⟩⟩
      | next => exact False.elim hq'
      | brk => exact False.elim hq'
      | cont => exact False.elim hq'
/-- C(e, ..) -/
theorem ex_make {k : Nat} {C g : Addr} {T : TrV} (Mk0 : Mk X.K C g) (G : FnV X.prog X.w X.K X.mg X.base false k g [] T) (hr : Room (k + 1) X.A) (hm : X.mg x = some (.ref C)) (h : AX X J (e :: es) ρ M fun ds M1 => TMk C T ds M1 P) (hg : Gl X x := by rfl) (hdb : (x == ("__debug__" : Str)) = false := by decide)
    (he : starEach (e :: es) X.env = (false, eval e X.env) :: starEach es X.env := by rfl) (hpl : (backTo pos (starEach es X.env)).any (·.1) = false := by rfl) : EX X J (.Call (.Name x p) (e :: es) [] pos) ρ M P := by
  refine ⟨fun pins s σ H Q I ⟨F, st, kt⟩ => ?_⟩
  refine wpAny_Call_Name_kw (ld_glob I hg hm ?_ hdb)
  refine PySem.W.callWith_K (h₀ := X.base) I.ok.mod.kin Mk0.kp (thn ((pa_any (X := X) (es := e :: es)).run pos pins s σ H (fun vs H1 => ∃ F1 M1 ds, Same F F1 ∧ Ok X.K F1 M1 H1 ∧ Rps X.K F1 vs ds ∧ TMk C T ds M1 P) I
    (h.go st fun ds vs M1 F1 H1 q e1 o1 r1 => ⟨F1, M1, ds, e1, o1, r1, q⟩)) fun us s1 ⟨vs, H1, I1, r, F1, M1, ds, e1, o1, rd, q⟩ => ⟨I1.kIn, ?_⟩) he hpl
  exact run_makeV Mk0 G hr I1 r o1 rd q (kt.to e1)
/-- C() -/
theorem ex_make0 {k : Nat} {C g : Addr} {T : TrV} (Mk0 : Mk X.K C g) (G : FnV X.prog X.w X.K X.mg X.base false k g [] T) (hr : Room (k + 1) X.A) (hm : X.mg x = some (.ref C)) (h : TMk C T [] M P) (hg : Gl X x := by rfl) (hdb : (x == ("__debug__" : Str)) = false := by decide) : EX X J (.Call (.Name x p) [] [] pos) ρ M P := by
  refine ⟨fun pins s σ H Q I ⟨F, st, kt⟩ => ?_⟩
  refine wpAny_Call_Name_kw (ld_glob I hg hm ?_ hdb)
  exact PySem.W.callWith_K0 I.kIn Mk0.kp (run_makeV Mk0 G hr I .nil st.ok .nil h kt)
theorem evalArgs_two {Mo : Model} {A : Around} {E : Value → Shared → Prop} {s : Shared} {fv : Value} {u1 u2 : Bool × Sem Value} {rest : List (Bool × Sem Value)} {Q : Args → Shared → Prop}
    (h : wpAny Mo A (spliced (u1 :: u2 :: rest)) (fun vs s' => Q ⟨vs, []⟩ s') E s) : wpAny Mo A (evalArgs fv true (u1 :: u2 :: rest) []) Q E s := by
  unfold evalArgs
  obtain ⟨b1, x1⟩ := u1
  cases b1 <;>
  · show wpAny Mo A (spliced _ >>= _) Q E s
    refine wpAny_bind (wpAny_mono h (fun vs s' h' => ?_) fun _ _ x => x)
    refine wpAny_holding ?_
    exact wpAny_bind (wpAny_pure (wpAny_bind (wpAny_pure (wpAny_pure h'))))
/-- C( *a, *b) -/
theorem ex_makeS2 {k : Nat} {C g : Addr} {T : TrV} {p1 p2 : Pos} (Mk0 : Mk X.K C g) (G : FnV X.prog X.w X.K X.mg X.base false k g [] T) (hr : Room (k + 1) X.A) (hm : X.mg x = some (.ref C)) (h : AX X J [.Starred a p1, .Starred b p2] ρ M fun ds M1 => TMk C T ds M1 P) (hg : Gl X x := by rfl) (hdb : (x == ("__debug__" : Str)) = false := by decide)
    (he : starEach [.Starred a p1, .Starred b p2] X.env = [(true, eval a X.env), (true, eval b X.env)] := by rfl) : EX X J (.Call (.Name x p) [.Starred a p1, .Starred b p2] [] pos) ρ M P := by
  refine ⟨fun pins s σ H Q I ⟨F, st, kt⟩ => ?_⟩
  refine wpAny_Call_Name_kw (ld_glob I hg hm ?_ hdb)
  have hh := (pa_any (X := X) (es := [.Starred a p1, .Starred b p2])).run pos pins s σ H (fun vs H1 => ∃ F1 M1 ds, Same F F1 ∧ Ok X.K F1 M1 H1 ∧ Rps X.K F1 vs ds ∧ TMk C T ds M1 P) I
    (h.go st fun ds vs M1 F1 H1 q e1 o1 r1 => ⟨F1, M1, ds, e1, o1, r1, q⟩)
  rw [he] at hh ⊢
  refine PySem.W.ks_call (P := X.K.In) rfl (PySem.W.keeps_K Mk0.kp) (evalArgs_two (thn hh fun us s1 ⟨vs, H1, I1, r, F1, M1, ds, e1, o1, rd, q⟩ => ⟨I1.kIn, ?_⟩))
  exact run_makeV Mk0 G hr I1 r o1 rd q (kt.to e1)
/-! ### instances called; +, == -/
def SpV (K : PySem.W.Frag) (T : TrV) : Sp := fun vs H Q _ => ∃ F M ds P, Ok K F M H ∧ Rps K F vs ds ∧ T ds [] M P ∧ Kt K F P Q
theorem fnR_of {pg : Program} {w : World} {mg : Str → Option Value} {base : Heap} {k : Nat} {g : Addr} {T : TrV} (G : FnV pg w K mg base false k g [] T) : FnR pg w K mg base CX0 k g (SpV K T) := by
  intro A outer s H us vs Q E hr e0 r ⟨F, M, ds, P, o, rd, t, kt⟩
  refine codeAny_mono (G.go A outer s H F M ds [] P us [] vs [] Q (fun z => nomatch z) hr e0 r .nil rfl o rd .nil t kt) fun res s' h => ?_
  cases res with
  | error e => exact h.elim
  | ok fl => cases fl <;> exact h
theorem ex_callO {k : Nat} {C g : Addr} {T : TrV} (c0 : CallO X.K C g) (G : FnV X.prog X.w X.K X.mg X.base false k g [] T) (hr : Room k X.A) (h : EX X J o ρ M fun d M1 => (∃ gs, Is M1 d C gs) ∧ AX X J (e :: es) ρ M1 fun ds M2 => ∃ gs, Is M2 d C gs ∧ T (d :: ds) [] M2 P)
    (ht : eval (.Call o (e :: es) [] pos) X.env = (do callWith pos (← eval o X.env) [] (backTo pos (starEach (e :: es) X.env)) (backToKw pos (keywordEach [] X.env))) := by rfl)
    (he : starEach (e :: es) X.env = (false, eval e X.env) :: starEach es X.env := by rfl) (hpl : (backTo pos (starEach es X.env)).any (·.1) = false := by rfl) : EX X J (.Call o (e :: es) [] pos) ρ M P := by
  refine ⟨fun pins s σ H Q I ⟨F, st, kt⟩ => ?_⟩
  refine Call_ (thn ((pe_any (X := X) (e := o)).run pins s σ H (fun v H1 => ∃ F1 M1 d, Same F F1 ∧ Ok X.K F1 M1 H1 ∧ Rp X.K F1 v d ∧ (∃ gs, Is M1 d C gs) ∧ AX X J (e :: es) ρ M1 fun ds M2 => ∃ gs, Is M2 d C gs ∧ T (d :: ds) [] M2 P) I (h.go st fun d v M1 F1 H1 q e1 o1 r1 => ⟨F1, M1, d, e1, o1, r1, q⟩)) fun u s1 ⟨y, H1, I1, ry, F1, M1, d, e1, o1, rd, ⟨gs0, hi0⟩, q⟩ => ?_) ht
  obtain ⟨a, _, _, rfl, _, _⟩ := hi0.get o1 rd
  obtain rfl : u = Value.ref a := ry
  refine callO_with (thn ((pa_any (X := X) (es := e :: es)).run pos pins s1 σ H1 (fun vs H2 => ∃ F2 M2 ds, Same F1 F2 ∧ Ok X.K F2 M2 H2 ∧ Rps X.K F2 vs ds ∧ ∃ gs, Is M2 d C gs ∧ T (d :: ds) [] M2 P) I1 (q.go (st.to e1 o1) fun ds vs M2 F2 H2 q2 e2 o2 r2 => ⟨F2, M2, ds, e2, o2, r2, q2⟩)) fun us s2 ⟨vs, H2, I2, r, F2, M2, ds, e2, o2, rds, gs, hi, t⟩ => ?_) he hpl
  obtain ⟨a', dx, fs, ea, h1, h2⟩ := hi.get o2 (rd.mono e2)
  cases ea
  obtain ⟨ox, od, J0, hd⟩ := insC_at (X := X) I2 (.inr ⟨dx, fs, h1⟩)
  exact ⟨⟨C, ox, od, J0, hd⟩, run_callO (E := E0) c0 (fnR_of G) hr pass0 I2 (.inr ⟨dx, fs, h1⟩) r ⟨F2, M2, _, P, o2, .cons (rd.mono e2) rds, t, kt.to (e1.trans e2)⟩⟩
/-- x + y by the class's __add__, which gives an instance -/
theorem od_addOwn {k : Nat} {C g : Addr} {T : TrV} {x y : D} {gs hs : List (Str × D)} (G : FnV X.prog X.w X.K X.mg X.base false k g [] T) (hr : Room k X.A) (hsf : PySem.W.selfFirst X.K C = true) (hm : Meth X.K C "__add__" g) (hx : Is M x C gs) (hy : Is M y C hs)
    (t : T [x, y] [] M fun d M2 => (∃ C' gs', d = .ins C' gs') ∧ P d M2) : OD X (binaryOp .Add) x y M P :=
  ⟨fun v u H Q => ∃ F, Ok X.K F M H ∧ Rp X.K F v x ∧ Rp X.K F u y ∧ Kt X.K F P Q, fun pins s σ H v0 u0 v u Q I rv ru ⟨F, o, rx, ry, kt⟩ => by
    obtain ⟨a, dx, fs, rfl, h1, _⟩ := hx.get o rx
    obtain ⟨b, dy, fs', rfl, h2, _⟩ := hy.get o ry
    obtain rfl : v = Value.ref a := rv
    obtain rfl : u = Value.ref b := ru
    obtain ⟨ox, od, J0, _⟩ := insC_at (X := X) I (.inr ⟨dx, fs, h1⟩)
    obtain ⟨oy, od', J1, _⟩ := insC_at (X := X) I (.inr ⟨dy, fs', h2⟩)
    have hc : wpAny (model X.prog X.w) X.A (call (.ref g) [.ref a, .ref b]) (EP X pins σ fun v H' => (∃ a, v = .ref a) ∧ Q v H') X.xe s := wpAny_call (run_fnR (E := E0) (us := [.ref a, .ref b]) (vs := [V.ref a, V.ref b]) (fnR_of G) hr pass0 I (.cons rfl (.cons rfl .nil)) ⟨F, M, _, _, o, .cons rx (.cons ry .nil), t, fun d v M' F' H' q e o' r => by
      obtain ⟨⟨C', gs', rfl⟩, q⟩ := q
      exact ⟨by cases r; exact ⟨_, rfl⟩, kt _ _ _ _ _ q e o' r⟩⟩)
    refine add_own I.kIn J0 J1 hsf hm.at_ hm.fn (wpAny_mono hc (fun v' s' h => ?_) fun _ _ z => z)
    obtain ⟨v, H', I', rv', ⟨a', rfl⟩, q⟩ := h
    obtain rfl : v' = Value.ref a' := rv'
    exact ⟨fun z => (nomatch z), V.ref a', H', I', rfl, q⟩, fun F H v u Q o rx ry kt => ⟨F, o, rx, ry, kt⟩⟩
/-- x == y by the class's __eq__ -/
theorem od_eqOwn {k : Nat} {C g : Addr} {T : TrV} {x y : D} {gs hs : List (Str × D)} (G : FnV X.prog X.w X.K X.mg X.base false k g [] T) (hr : Room k X.A) (hm : Meth X.K C "__eq__" g) (hx : Is M x C gs) (hy : Is M y C hs)
    (t : T [x, y] [] M fun d M2 => (∃ b, d = .bl b) ∧ P d M2) : OD X (compareOp .Eq) x y M P :=
  ⟨fun v u H Q => ∃ F, Ok X.K F M H ∧ Rp X.K F v x ∧ Rp X.K F u y ∧ Kt X.K F P Q, fun pins s σ H v0 u0 v u Q I rv ru ⟨F, o, rx, ry, kt⟩ => by
    obtain ⟨a, dx, fs, rfl, h1, _⟩ := hx.get o rx
    obtain ⟨b, dy, fs', rfl, h2, _⟩ := hy.get o ry
    obtain rfl : v = Value.ref a := rv
    obtain rfl : u = Value.ref b := ru
    obtain ⟨ox, od, J0, _⟩ := insC_at (X := X) I (.inr ⟨dx, fs, h1⟩)
    obtain ⟨oy, od', J1, _⟩ := insC_at (X := X) I (.inr ⟨dy, fs', h2⟩)
    have hc : wpAny (model X.prog X.w) X.A (call (.ref g) [.ref a, .ref b]) (EP X pins σ fun v H' => (∃ a, v = .bl a) ∧ Q v H') X.xe s := wpAny_call (run_fnR (E := E0) (us := [.ref a, .ref b]) (vs := [V.ref a, V.ref b]) (fnR_of G) hr pass0 I (.cons rfl (.cons rfl .nil)) ⟨F, M, _, _, o, .cons rx (.cons ry .nil), t, fun d v M' F' H' q e o' r => by
      obtain ⟨⟨b', rfl⟩, q⟩ := q
      exact ⟨by cases r; exact ⟨_, rfl⟩, kt _ _ _ _ _ q e o' r⟩⟩)
    obtain ⟨m, hF⟩ := I.fr
    show wpAny (model X.prog X.w) X.A (richCompare .Eq (.ref a) (.ref b)) (EP X pins σ Q) X.xe s
    refine PySem.W.cmp_K (op := .Eq) (tb := .ref C) hr.units0 hF I.ok.mod.kin J0 J1.type (by simp [PySem.W.notFirst]) hm.at_ hm.fn (wpAny_mono hc (fun v' s' h => ?_) fun _ _ z => z)
    obtain ⟨v, H', I', rv', ⟨b', rfl⟩, q⟩ := h
    obtain rfl : v' = Value.bool b' := rv'
    exact ⟨V.bl b', H', I', rfl, q⟩, fun F H v u Q o rx ry kt => ⟨F, o, rx, ry, kt⟩⟩
end
end DX
namespace DX
open PySem PySem.Spec L2
/-! ### a look at the module: properties, sys.modules' place -/
def prAd (K : PySem.W.Frag) (C f : Str) : Addr × Addr := match PySem.W.findIn K (.ref (He.ga K C)) f with
  | some (some (.ref p)) => (match PySem.W.recIn K p "property" with
    | some (.ref g :: _) => (p, g)
    | _ => (match PySem.W.recIn K p "classmethod" with
      | some (.ref g :: _) => (p, g)
      | _ => (0, 0)))
  | _ => (0, 0)
def fnWA (K : PySem.W.Frag) (a : Addr) : He.FnW := match K.lookup a with
  | some ⟨_, _, .func fd, _⟩ => some (fd.name, fd.qualname, fd.params, fd.body, fd.scope, fd.globals, fd.closure, fd.builtins)
  | _ => none
/-- a property's getter: the class, the property's name; its def -/
def prB (K : PySem.W.Frag) (C f q : Str) : Bool :=
  He.eqO (PySem.W.findIn K (.ref (He.ga K C)) f) (some (some (.ref (prAd K C f).1))) && (He.eqO (PySem.W.specialIn K (.ref (prAd K C f).1) "__get__") (some (some (.builtin "property.__get__"))) &&
    (decide (PySem.W.takesIn K (.ref (prAd K C f).1) = some true) && ((match PySem.W.recIn K (prAd K C f).1 "property" with
      | some (v :: _) => decide (v = .ref (prAd K C f).2)
      | _ => false) && (PySem.W.keepIn K (.ref (prAd K C f).2) && (match K.lookup (prAd K C f).2 with
        | some ⟨_, _, .func fd, _⟩ => PySem.W.codeIn K fd.code q && (He.dflB K fd.defaults [] && He.kwdB K fd.kwdefaults [])
        | _ => false)))))
theorem prB_prop {K : PySem.W.Frag} {C f q : Str} (h : prB K C f q = true) : PropOf K (He.ga K C) f (prAd K C f).1 (prAd K C f).2 := by
  obtain ⟨h1, h⟩ := He.ba h
  obtain ⟨h2, h⟩ := He.ba h
  obtain ⟨h3, h⟩ := He.ba h
  obtain ⟨h4, h⟩ := He.ba h
  refine ⟨He.eqO_ok h1, He.eqO_ok h2, of_decide_eq_true h3, ?_⟩
  cases e : PySem.W.recIn K (prAd K C f).1 "property" with
  | none => rw [e] at h4; cases h4
  | some l =>
    cases l with
    | nil => rw [e] at h4; cases h4
    | cons v r =>
      rw [e] at h4
      rw [of_decide_eq_true h4]
      exact ⟨r, rfl⟩
theorem prB_fun {K : PySem.W.Frag} {C f : Str} {name qual : Str} {params : Arguments} {body : List Stmt} {scope : Scope} (h : prB K C f qual = true) (e : fnWA K (prAd K C f).2 = some (name, qual, params, .stmts body, scope, mainGlobals, [], builtinsNs)) :
    ∃ fd, FunD K name qual params body scope [] [] (prAd K C f).2 fd := by
  obtain ⟨_, h⟩ := He.ba h
  obtain ⟨_, h⟩ := He.ba h
  obtain ⟨_, h⟩ := He.ba h
  obtain ⟨_, h⟩ := He.ba h
  obtain ⟨kp, c2⟩ := He.ba h
  unfold fnWA at e
  cases q : K.lookup (prAd K C f).2 with
  | none => rw [q] at c2; cases c2
  | some o =>
    obtain ⟨oc, od, dt, osl⟩ := o
    rw [q] at c2 e
    cases dt with
    | func fd =>
      obtain ⟨n1, n2, n3, n4, n5, n6, n7, n8, n9, n10, n11, n12, n13, n14, n15⟩ := fd
      have e2 : (some (n1, n2, n3, n4, n5, n6, n7, n15) : He.FnW) = some (name, qual, params, .stmts body, scope, mainGlobals, [], builtinsNs) := e
      simp only [Option.some.injEq, Prod.mk.injEq] at e2
      obtain ⟨h1, h2, h3, h4, h5, h6, h7, h8⟩ := e2
      subst h1 h2 h3 h4 h5 h6 h7 h8
      have c3 : (PySem.W.codeIn K n13 _ && (He.dflB K n8 [] && He.kwdB K n9 [])) = true := c2
      obtain ⟨k1, k2⟩ := He.ba c3
      obtain ⟨k3, k4⟩ := He.ba k2
      exact ⟨_, ⟨oc, od, n8, n9, n10, n11, n12, n13, n14, osl, rfl, q, k1, He.dflB_ok k3, He.kwdB_ok k4⟩, kp⟩
    | _ => cases c2
/-- a classmethod: the class, its name; its def -/
def cmB (K : PySem.W.Frag) (C f q : Str) : Bool :=
  PySem.W.readsIn K (He.ga K C) (.type "type") && (He.eqO (PySem.W.specialIn K (.ref (He.ga K C)) "__getattribute__") (some (some (.builtin "type.__getattribute__"))) &&
    ((match PySem.W.findCls K (.ref (He.ga K C)) (.type "type") f with
      | some (.get (.builtin g) (.ref p) .none (.ref D)) => decide (g = "classmethod.__get__") && (decide (p = (prAd K C f).1) && decide (D = He.ga K C))
      | _ => false) && ((match PySem.W.recIn K (prAd K C f).1 "classmethod" with
      | some (v :: _) => decide (v = .ref (prAd K C f).2)
      | _ => false) && (PySem.W.fnIn K (prAd K C f).2 && (PySem.W.keepIn K (.ref (prAd K C f).2) && (match K.lookup (prAd K C f).2 with
        | some ⟨_, _, .func fd, _⟩ => PySem.W.codeIn K fd.code q && (He.dflB K fd.defaults [] && He.kwdB K fd.kwdefaults [])
        | _ => false))))))
theorem cmB_cm {K : PySem.W.Frag} {C f q : Str} (h : cmB K C f q = true) : ClX.CRead K (He.ga K C) (.type "type") ∧ ClX.CMet K (He.ga K C) (.type "type") f (prAd K C f).1 (prAd K C f).2 := by
  obtain ⟨h1, h⟩ := He.ba h
  obtain ⟨h2, h⟩ := He.ba h
  obtain ⟨h3, h⟩ := He.ba h
  obtain ⟨h4, h⟩ := He.ba h
  obtain ⟨h5, h⟩ := He.ba h
  refine ⟨⟨h1, He.eqO_ok h2⟩, ?_, ?_, h5⟩
  · clear h4
    split at h3
    · rename_i g p D e
      obtain ⟨k1, k⟩ := He.ba h3
      obtain ⟨k2, k3⟩ := He.ba k
      rw [e, of_decide_eq_true k1, of_decide_eq_true k2, of_decide_eq_true k3]
    · cases h3
  · cases e : PySem.W.recIn K (prAd K C f).1 "classmethod" with
    | none => rw [e] at h4; cases h4
    | some l =>
      cases l with
      | nil => rw [e] at h4; cases h4
      | cons v r =>
        rw [e] at h4
        rw [of_decide_eq_true h4]
        exact ⟨r, rfl⟩
theorem cmB_fun {K : PySem.W.Frag} {C f : Str} {name qual : Str} {params : Arguments} {body : List Stmt} {scope : Scope} (h : cmB K C f qual = true) (e : fnWA K (prAd K C f).2 = some (name, qual, params, .stmts body, scope, mainGlobals, [], builtinsNs)) :
    ∃ fd, FunD K name qual params body scope [] [] (prAd K C f).2 fd := by
  obtain ⟨_, h⟩ := He.ba h
  obtain ⟨_, h⟩ := He.ba h
  obtain ⟨_, h⟩ := He.ba h
  obtain ⟨_, h⟩ := He.ba h
  obtain ⟨_, h⟩ := He.ba h
  obtain ⟨kp, c2⟩ := He.ba h
  unfold fnWA at e
  cases q : K.lookup (prAd K C f).2 with
  | none => rw [q] at c2; cases c2
  | some o =>
    obtain ⟨oc, od, dt, osl⟩ := o
    rw [q] at c2 e
    cases dt with
    | func fd =>
      obtain ⟨n1, n2, n3, n4, n5, n6, n7, n8, n9, n10, n11, n12, n13, n14, n15⟩ := fd
      have e2 : (some (n1, n2, n3, n4, n5, n6, n7, n15) : He.FnW) = some (name, qual, params, .stmts body, scope, mainGlobals, [], builtinsNs) := e
      simp only [Option.some.injEq, Prod.mk.injEq] at e2
      obtain ⟨h1, h2, h3, h4, h5, h6, h7, h8⟩ := e2
      subst h1 h2 h3 h4 h5 h6 h7 h8
      have c3 : (PySem.W.codeIn K n13 _ && (He.dflB K n8 [] && He.kwdB K n9 [])) = true := c2
      obtain ⟨k1, k2⟩ := He.ba c3
      obtain ⟨k3, k4⟩ := He.ba k2
      exact ⟨_, ⟨oc, od, n8, n9, n10, n11, n12, n13, n14, osl, rfl, q, k1, He.dflB_ok k3, He.kwdB_ok k4⟩, kp⟩
    | _ => cases c2
/-- a setter: the property's record, its second def -/
def psAd (K : PySem.W.Frag) (C f : Str) : Addr × Addr := match PySem.W.findIn K (.ref (He.ga K C)) f with
  | some (some (.ref p)) => (match PySem.W.recIn K p "property" with
    | some (_ :: .ref g :: _) => (p, g)
    | _ => (0, 0))
  | _ => (0, 0)
structure PSetOf (K : PySem.W.Frag) (C : Addr) (f : Str) (p g : Addr) : Prop where
  tak : PySem.W.takerIn K C f = some (some (.ref p))
  ty : PySem.W.typeIn K (.ref p) = some (.type "property")
  rec_ : ∃ a rest, PySem.W.recIn K p "property" = some (a :: .ref g :: rest)
def psB (K : PySem.W.Frag) (C f q : Str) : Bool :=
  He.eqO (PySem.W.takerIn K (He.ga K C) f) (some (some (.ref (psAd K C f).1))) && (decide (PySem.W.typeIn K (.ref (psAd K C f).1) = some (.type "property")) &&
    ((match PySem.W.recIn K (psAd K C f).1 "property" with
      | some (_ :: v :: _) => decide (v = .ref (psAd K C f).2)
      | _ => false) && (PySem.W.keepIn K (.ref (psAd K C f).2) && (match K.lookup (psAd K C f).2 with
        | some ⟨_, _, .func fd, _⟩ => PySem.W.codeIn K fd.code q && (He.dflB K fd.defaults [] && He.kwdB K fd.kwdefaults [])
        | _ => false))))
theorem psB_set {K : PySem.W.Frag} {C f q : Str} (h : psB K C f q = true) : PSetOf K (He.ga K C) f (psAd K C f).1 (psAd K C f).2 := by
  obtain ⟨h1, h⟩ := He.ba h
  obtain ⟨h2, h⟩ := He.ba h
  obtain ⟨h4, h⟩ := He.ba h
  refine ⟨He.eqO_ok h1, of_decide_eq_true h2, ?_⟩
  cases e : PySem.W.recIn K (psAd K C f).1 "property" with
  | none => rw [e] at h4; cases h4
  | some l =>
    match l, e with
    | [], e => rw [e] at h4; cases h4
    | [a], e => rw [e] at h4; cases h4
    | a :: v :: r, e =>
      rw [e] at h4
      rw [of_decide_eq_true h4]
      exact ⟨a, r, rfl⟩
theorem psB_fun {K : PySem.W.Frag} {C f : Str} {name qual : Str} {params : Arguments} {body : List Stmt} {scope : Scope} (h : psB K C f qual = true) (e : fnWA K (psAd K C f).2 = some (name, qual, params, .stmts body, scope, mainGlobals, [], builtinsNs)) :
    ∃ fd, FunD K name qual params body scope [] [] (psAd K C f).2 fd := by
  obtain ⟨_, h⟩ := He.ba h
  obtain ⟨_, h⟩ := He.ba h
  obtain ⟨_, h⟩ := He.ba h
  obtain ⟨kp, c2⟩ := He.ba h
  unfold fnWA at e
  cases q : K.lookup (psAd K C f).2 with
  | none => rw [q] at c2; cases c2
  | some o =>
    obtain ⟨oc, od, dt, osl⟩ := o
    rw [q] at c2 e
    cases dt with
    | func fd =>
      obtain ⟨n1, n2, n3, n4, n5, n6, n7, n8, n9, n10, n11, n12, n13, n14, n15⟩ := fd
      have e2 : (some (n1, n2, n3, n4, n5, n6, n7, n15) : He.FnW) = some (name, qual, params, .stmts body, scope, mainGlobals, [], builtinsNs) := e
      simp only [Option.some.injEq, Prod.mk.injEq] at e2
      obtain ⟨h1, h2, h3, h4, h5, h6, h7, h8⟩ := e2
      subst h1 h2 h3 h4 h5 h6 h7 h8
      have c3 : (PySem.W.codeIn K n13 _ && (He.dflB K n8 [] && He.kwdB K n9 [])) = true := c2
      obtain ⟨k1, k2⟩ := He.ba c3
      obtain ⟨k3, k4⟩ := He.ba k2
      exact ⟨_, ⟨oc, od, n8, n9, n10, n11, n12, n13, n14, osl, rfl, q, k1, He.dflB_ok k3, He.kwdB_ok k4⟩, kp⟩
    | _ => cases c2
/-- a getter's def (0; at_: the class, the property), a classmethod's (1), a setter's (2) -/
structure PrD where
  kd : Nat
  cls : Str
  nm : Str
  qual : Str
  params : Arguments
  body : List Stmt
  scope : Scope
def PrD.ad (K : PySem.W.Frag) (d : PrD) : Addr × Addr := match d.kd with
  | 2 => psAd K d.cls d.nm
  | _ => prAd K d.cls d.nm
def PrD.okB (K : PySem.W.Frag) (d : PrD) : Bool := match d.kd with
  | 0 => prB K d.cls d.nm d.qual
  | 1 => cmB K d.cls d.nm d.qual
  | 2 => psB K d.cls d.nm d.qual
  | _ => false
def PrD.val (d : PrD) : He.FnW := some (d.nm, d.qual, d.params, .stmts d.body, d.scope, mainGlobals, [], builtinsNs)
def obsP (fa : List He.Fa) (fn : List He.DefD) (pr : List PrD) (ex : PySem.W.Frag → Bool) (K : PySem.W.Frag) : He.AlD × Bool × List He.FnW :=
  (He.obsD fa fn K, ex K && pr.all (fun d => d.okB K), pr.map fun d => fnWA K (d.ad K).2)
def lookP (fa : List He.Fa) (fn : List He.DefD) (pr : List PrD) (ex : PySem.W.Frag → Bool) (n : Nat) (g : Addr → Option Obj) : He.AlD × Bool × List He.FnW := obsP fa fn pr ex (He.frG g (cStatics :: sysModules :: He.asD g n))
def SaysP (fa : List He.Fa) (fn : List He.DefD) (pr : List PrD) (ex : PySem.W.Frag → Bool) (K : PySem.W.Frag) : Prop := obsP fa fn pr ex K = (He.valD fn, true, pr.map PrD.val)
def hookP (n : Nat) (fa : List He.Fa) (fn : List He.DefD) (pr : List PrD) (ex : PySem.W.Frag → Bool) : PySem.W.Hook where
  α := He.AlD × Bool × List He.FnW
  obs := fun s => lookP fa fn pr ex n s.heap.get?
  val := fun _ => (He.valD fn, true, pr.map PrD.val)
  says := fun _ h => ∃ K : PySem.W.Frag, K.In h ∧ SaysP fa fn pr ex K
  of := fun _ _ e => ⟨_, He.frG_in, e⟩
  keeps := fun _ _ _ ⟨K, hK, c⟩ k => ⟨K, PySem.W.Frag.In.keeps hK k, c⟩
theorem lookP_eq {n : Nat} {fa : List He.Fa} {fn : List He.DefD} {pr : List PrD} {ex : PySem.W.Frag → Bool} {g : Addr → Option Obj} {s : Shared} (h : ∀ a, g a = s.heap.get? a) : lookP fa fn pr ex n g = (hookP n fa fn pr ex).obs s := by
  have e : g = s.heap.get? := funext h
  subst e
  rfl
section
variable {fa : List He.Fa} {fn : List He.DefD} {pr : List PrD} {ex : PySem.W.Frag → Bool} {K : PySem.W.Frag}
theorem SaysP.says (c : SaysP fa fn pr ex K) : He.SaysD fa fn K := congrArg Prod.fst c
theorem SaysP.exx (c : SaysP fa fn pr ex K) : ex K = true := (He.ba (congrArg (fun z => z.2.1) c)).1
theorem SaysP.wr_ (c : SaysP fa fn pr ex K) (i : Nat) {d : PrD} (h : pr[i]? = some d) : d.okB K = true ∧ fnWA K (d.ad K).2 = d.val := by
  have c2 := (He.ba (congrArg (fun z => z.2.1) c)).2
  have e : pr.map (fun d => fnWA K (d.ad K).2) = pr.map PrD.val := congrArg (fun z => z.2.2) c
  have e2 : (pr.map fun d => fnWA K (d.ad K).2)[i]? = (pr.map PrD.val)[i]? := by rw [e]
  rw [List.getElem?_map, List.getElem?_map, h] at e2
  exact ⟨List.all_eq_true.mp c2 d (List.mem_of_getElem? h), Option.some.inj e2⟩
theorem SaysP.pr_ (c : SaysP fa fn pr ex K) (i : Nat) {d : PrD} (h : pr[i]? = some d := by rfl) (hc : d.kd = 0 := by rfl) : PropOf K (He.ga K d.cls) d.nm (prAd K d.cls d.nm).1 (prAd K d.cls d.nm).2 ∧ ∃ fd, FunD K d.nm d.qual d.params d.body d.scope [] [] (prAd K d.cls d.nm).2 fd := by
  obtain ⟨hb, e⟩ := c.wr_ i h
  unfold PrD.okB at hb
  unfold PrD.ad at e
  rw [hc] at hb e
  exact ⟨prB_prop hb, prB_fun hb e⟩
theorem SaysP.cm_ (c : SaysP fa fn pr ex K) (i : Nat) {d : PrD} (h : pr[i]? = some d := by rfl) (hc : d.kd = 1 := by rfl) : (ClX.CRead K (He.ga K d.cls) (.type "type") ∧ ClX.CMet K (He.ga K d.cls) (.type "type") d.nm (prAd K d.cls d.nm).1 (prAd K d.cls d.nm).2) ∧ ∃ fd, FunD K d.nm d.qual d.params d.body d.scope [] [] (prAd K d.cls d.nm).2 fd := by
  obtain ⟨hb, e⟩ := c.wr_ i h
  unfold PrD.okB at hb
  unfold PrD.ad at e
  rw [hc] at hb e
  exact ⟨cmB_cm hb, cmB_fun hb e⟩
theorem SaysP.ps_ (c : SaysP fa fn pr ex K) (i : Nat) {d : PrD} (h : pr[i]? = some d := by rfl) (hc : d.kd = 2 := by rfl) : PSetOf K (He.ga K d.cls) d.nm (psAd K d.cls d.nm).1 (psAd K d.cls d.nm).2 ∧ ∃ fd, FunD K d.nm d.qual d.params d.body d.scope [] [] (psAd K d.cls d.nm).2 fd := by
  obtain ⟨hb, e⟩ := c.wr_ i h
  unfold PrD.okB at hb
  unfold PrD.ad at e
  rw [hc] at hb e
  exact ⟨psB_set hb, psB_fun hb e⟩
end
/-- a class that stands first among those that its instances are looked up in -/
def sfB (K : PySem.W.Frag) (C : Str) : Bool := PySem.W.selfFirst K (He.ga K C)
/-- a constant of a class, an int -/
def conB (K : PySem.W.Frag) (C f : Str) (i : Int) : Bool := match PySem.W.findIn K (.ref (He.ga K C)) f with
  | some (some (.int j t)) => decide (j = i) && He.eqO (PySem.W.specialIn K (.int j t) "__get__") (some none)
  | _ => false
theorem conB_ok {K : PySem.W.Frag} {C f : Str} {i : Int} (h : conB K C f i = true) (hc : PySem.W.copiedNames.contains f = false) : ∃ u, Con K (He.ga K C) f (.int i) u := by
  unfold conB at h
  cases e : PySem.W.findIn K (.ref (He.ga K C)) f with
  | none => rw [e] at h; cases h
  | some v =>
    cases v with
    | none => rw [e] at h; cases h
    | some w =>
      rw [e] at h
      cases w with
      | int j t =>
        obtain ⟨h1, h2⟩ := He.ba h
        have := of_decide_eq_true h1
        subst this
        exact ⟨_, e, ⟨t, rfl⟩, He.eqO_ok h2, hc⟩
      | _ => cases h
/-- its instances may be called -/
def callB (K : PySem.W.Frag) (C : Str) : Bool := He.eqO (PySem.W.findIn K (.ref (He.ga K C)) "__call__") (some (some (.ref (He.ma K (He.ga K C) "__call__")))) && (PySem.W.isFn K (.ref (He.ma K (He.ga K C) "__call__")) && PySem.W.fnIn K (He.ma K (He.ga K C) "__call__"))
theorem callB_ok {K : PySem.W.Frag} {C : Str} (h : callB K C = true) : StX.CallO K (He.ga K C) (He.ma K (He.ga K C) "__call__") := by
  obtain ⟨h1, h⟩ := He.ba h
  obtain ⟨h2, h3⟩ := He.ba h
  exact ⟨He.eqO_ok h1, h2, h3⟩
end DX
namespace DX
open PySem PySem.Spec L2
open SX
section
variable {X : Cx} {J : Gh} {M : Mem} {P : D → Mem → Prop} {ρ : DEnv} {o e : Expr} {pos apos cpos : Pos}
/-! ### in, not in: ints; signs of a text -/
theorem flat_ints : ∀ ns : List Int, (ns.map V.int).all flatV = true
  | [] => rfl
  | y :: ns => by rw [List.map_cons, List.all_cons, flat_ints ns]; rfl
theorem inV_ints {i : Int} : ∀ ns : List Int, inV (.int i) (ns.map V.int) = decide (i ∈ ns)
  | [] => by simp [inV]
  | y :: ns => by
    have ih := inV_ints (i := i) ns
    unfold inV at ih ⊢
    rw [List.map_cons, List.any_cons, ih]
    show (y == i || decide (i ∈ ns)) = decide (i ∈ y :: ns)
    by_cases h : y = i
    · subst h; simp
    · have h' : ¬ i = y := fun z => h z.symm
      simp [h, h']
theorem od_inI {i : Int} {c : D} {ds : List D} {ns : List Int} (s : Sq M c ds) (e : ds = ns.map D.int) (p : P (.bl (decide (i ∈ ns))) M) : OD X (compareOp .In) (.int i) c M P :=
  ⟨_, op_in_seq, fun F H v u Q o rx ry k => by
    subst e
    cases rx
    obtain ⟨q, xs, rfl, hx, rs⟩ := s.get o ry
    obtain rfl := rs.ints
    refine ⟨_, _, rfl, hx, rfl, flat_ints _, ?_⟩
    rw [inV_ints]
    exact k.here p o (.bl _)⟩
theorem od_notInI {i : Int} {c : D} {ds : List D} {ns : List Int} (s : Sq M c ds) (e : ds = ns.map D.int) (p : P (.bl (!decide (i ∈ ns))) M) : OD X (compareOp .NotIn) (.int i) c M P :=
  ⟨_, op_notIn_seq, fun F H v u Q o rx ry k => by
    subst e
    cases rx
    obtain ⟨q, xs, rfl, hx, rs⟩ := s.get o ry
    obtain rfl := rs.ints
    refine ⟨_, _, rfl, hx, rfl, flat_ints _, ?_⟩
    rw [inV_ints]
    exact k.here p o (.bl _)⟩
theorem od_inC {y z : Str} {c : Nat} (e : y = ⟨#[c]⟩) (p : P (.bl (decide (c ∈ z.cps.toList))) M) : OD X (compareOp .In) (.str y) (.str z) M P :=
  ⟨_, op_in_sign, fun F H v u Q o rx ry k => by
    subst e
    cases rx; cases ry
    exact ⟨c, z, rfl, rfl, k.here p o (.bl _)⟩⟩
theorem od_notInC {y z : Str} {c : Nat} (e : y = ⟨#[c]⟩) (p : P (.bl (!decide (c ∈ z.cps.toList))) M) : OD X (compareOp .NotIn) (.str y) (.str z) M P :=
  ⟨_, op_notIn_sign, fun F H v u Q o rx ry k => by
    subst e
    cases rx; cases ry
    exact ⟨c, z, rfl, rfl, k.here p o (.bl _)⟩⟩
/-! ### max, min of a list of ints -/
theorem cd_maxL {d : D} {ds : List D} {ns : List Int} (hc : X.calm = true) (s : Sl M d ds) (e : ds = ns.map D.int) (hn : 0 < ns.length) (q : ∀ m, m ∈ ns → (∀ y, y ∈ ns → y ≤ m) → P (.int m) M) : CD X (.builtin "max") [d] M P :=
  ⟨_, cr_max hc, fun F H vs Q o r k => by
    subst e
    cases r with
    | cons h1 r =>
      cases r
      obtain ⟨a, xs, rfl, h2, r2⟩ := s.get o h1
      exact ⟨a, ns, rfl, by rw [← r2.ints]; exact SqL.of h2, hn, fun m h3 h4 => k.here (q m h3 h4) o (.int _)⟩⟩
theorem cd_minL {d : D} {ds : List D} {ns : List Int} (hc : X.calm = true) (s : Sl M d ds) (e : ds = ns.map D.int) (hn : 0 < ns.length) (q : ∀ m, m ∈ ns → (∀ y, y ∈ ns → m ≤ y) → P (.int m) M) : CD X (.builtin "min") [d] M P :=
  ⟨_, cr_min hc, fun F H vs Q o r k => by
    subst e
    cases r with
    | cons h1 r =>
      cases r
      obtain ⟨a, xs, rfl, h2, r2⟩ := s.get o h1
      exact ⟨a, ns, rfl, by rw [← r2.ints]; exact SqL.of h2, hn, fun m h3 h4 => k.here (q m h3 h4) o (.int _)⟩⟩
/-! ### z.count(y) -/
theorem ex_scount (h : EX X J o ρ M fun d M1 => ∃ z, d = .str z ∧ AX X J [e] ρ M1 fun ys M2 => ∃ y, ys = [.str y] ∧ P (.int (Txt.count z y)) M2)
    (hbase : attributeBase o "count" X.env (eval o X.env) = eval o X.env := by rfl)
    (few : ((backTo cpos (starEach [e] X.env)).all (fun x => !x.1) && (backToKw cpos (keywordEach [] X.env)).all (fun x => x.1.isSome) && decide ([e].length + ([] : List Keyword).length + (if ([] : List Keyword).isEmpty then 0 else 1) < 30)) = true := by rfl)
    (line : (apos.endLine == cpos.line) = true := by rfl) (hst : starEach [e] X.env = (false, eval e X.env) :: starEach [] X.env := by rfl) (hpl : (backTo cpos (starEach [] X.env)).any (·.1) = false := by rfl) :
    EX X J (.Call (.Attribute o "count" apos) [e] [] cpos) ρ M P :=
  ex_of (pe_bm PySem.F.plainAttrs_str PySem.F.slot_str_count PySem.F.type_str_count mt_count pe_any pa_any hbase few line hst hpl) fun F σ H Q st k => h.go st fun d v M1 F1 H1 q1 e1 o1 r1 => by
    obtain ⟨z, rfl, q2⟩ := q1
    cases r1
    refine ⟨rfl, q2.go (st.to e1 o1) fun ys vs M2 F2 H2 q3 e2 o2 r2 => ?_⟩
    obtain ⟨y, rfl, q3⟩ := q3
    cases r2 with
    | cons r2 r3 =>
      cases r3
      cases r2
      exact ⟨z, y, rfl, rfl, k _ _ _ _ _ q3 (e1.trans e2) o2 (.int _)⟩
/-! ### == [], != [] of a list that may change -/
theorem pyds_nil {ds : List D} : PyData.eqv (.list (pyds ds)) (.list []) = ds.isEmpty := by
  cases ds with
  | nil => simp [pyds, PyData.eqv, PyData.eqvAll]
  | cons d ds => simp [pyds, PyData.eqv, PyData.eqvAll]
theorem sl_dp {K : PySem.W.Frag} {F H : Hp} {x : D} {ds : List D} {v : V} (o : Ok K F M H) (s : Sl M x ds) (r : Rp K F v x) (hg : goods ds) : Dp K H v (.list (pyds ds)) := by
  obtain ⟨p, xs, rfl, h1, h2⟩ := s.get o r
  exact .lst (SqL.of h1) (Rps.dps o.ex h2 (goods_py hg))
theorem shaped_l {ds : List D} (hg : goods ds) (hd : deps ds ≤ 40) : SeqAt.shaped (.list (pyds ds)) = true := by
  have := shaped_good (d := .lst ds) hg (by rw [dep]; omega)
  simpa [pyd] using this
theorem od_neNilA {x : D} {ds : List D} (hu : X.A.units + 64 < cLine) (s : Sl M x ds) (hg : goods ds) (hd : deps ds ≤ 40) (q : P (.bl (!ds.isEmpty)) M) : OD X (compareOp .NotEq) x (.lst []) M P :=
  ⟨_, op_neD hu, fun F H v u Q o rx ry k => ⟨.list (pyds ds), .list [], sl_dp o s rx hg, sl_dp (ds := []) o .lst ry trivial, shaped_l hg hd, shaped_l (ds := []) trivial (by decide), by rw [pyds_nil]; exact k.here q o (.bl _)⟩⟩
theorem od_eqNilA {x : D} {ds : List D} (hu : X.A.units + 64 < cLine) (s : Sl M x ds) (hg : goods ds) (hd : deps ds ≤ 40) (q : P (.bl ds.isEmpty) M) : OD X (compareOp .Eq) x (.lst []) M P :=
  ⟨_, op_eqD hu, fun F H v u Q o rx ry k => ⟨.list (pyds ds), .list [], sl_dp o s rx hg, sl_dp (ds := []) o .lst ry trivial, shaped_l hg hd, shaped_l (ds := []) trivial (by decide), by rw [pyds_nil]; exact k.here q o (.bl _)⟩⟩
/-! ### what changed is left behind -/
theorem Ok.less {K : PySem.W.Frag} {F H : Hp} {p : Addr} {d : D} (o : Ok K F (up M p d) H) (hp : M p = none) : Ok K F M H :=
  ⟨o.ex, fun a d' h => o.mt a d' (by rw [up_ne (fun e => by subst e; rw [hp] at h; cases h)]; exact h)⟩
theorem gx_drop {sts : List Stmt} {B : Bd} {p : Addr} {d : D} (hp : M p = none) (h : GX X J sts ρ M B) : GX X J sts ρ (up M p d) B :=
  ⟨fun pins s σ H E I ⟨F, st, k⟩ => h.run pins s σ H E I ⟨F, ⟨st.en, st.ok.less hp, st.gh⟩, k⟩⟩
theorem g1_drop {st : Stmt} {B : Bd} {p : Addr} {d : D} (hp : M p = none) (h : G1 X J st ρ M B) : G1 X J st ρ (up M p d) B :=
  ⟨fun pins s σ H E I ⟨F, st, k⟩ => h.run pins s σ H E I ⟨F, ⟨st.en, st.ok.less hp, st.gh⟩, k⟩⟩
end
end DX
/-! enumerate(t) of a tuple -/
namespace EnT
open PySem PySem.Spec L2 PyProof.Rows
theorem meets1 {v : Value} {o : Obj} {Hh : Heap → Prop} (B : Begins v o Hh) :
    Meets (Builtin.«enumerate.__new__» ⟨[.type "enumerate", v], []⟩) (fun _ R s => Hh s.heap ∧
      R (.ok (.ret (.ref (s.heap.push o).objs.size))) { s with heap := (s.heap.push o).push { cls := .type "enumerate", data := .fields #[.none, .bool false, .ref s.heap.objs.size, rawInt 0, .none, .none] } }) :=
  .of_wp fun prog w A R s h => by
    obtain ⟨hp, g, d, tk, os⟩ := s
    obtain ⟨h1, h⟩ := h
    have hsub := sub_enumerate
    have it1 : ∀ {A' : Around} {E : Value → Shared → Prop} {Q : Value → Shared → Prop}, Q (.ref hp.objs.size) ⟨hp.push o, g, d, tk, os⟩ → wpAny (model prog w) A' (pyIter v) Q E ⟨hp, g, d, tk, os⟩ :=
      fun q => B.iter prog w _ _ ⟨hp, g, d, tk, os⟩ _ h1 q
    wp_walk using it1
    refine wpAny_stack_any fun st => wpAny_pure ?_
    split
    · rename_i c _ _ _ _ _
      by_cases z : (c == Value.type "enumerate") = true
      · rw [z]; wp_walk using it1
        exact ⟨_, rfl, h⟩
      · rw [Bool.not_eq_true] at z
        rw [z]; wp_walk using it1
        exact ⟨_, rfl, h⟩
    · wp_walk using it1
      exact ⟨_, rfl, h⟩
section
variable {prog : Program} {w : World} {A : Around} {E : Value → Shared → Prop} {s : Shared}
theorem begins1 {v : Value} {o : Obj} {Hh : Heap → Prop} {Q : Value → Shared → Prop} (B : Begins v o Hh) (h1 : Hh s.heap)
    (h : ∀ h', IsEnum h' (s.heap.objs.size + 1) s.heap.objs.size 0 .none → h'.get? s.heap.objs.size = some o → h'.objs.size = s.heap.objs.size + 2 →
      (∀ b ob, s.heap.get? b = some ob → h'.get? b = some ob) → Q (.ref (s.heap.objs.size + 1)) { s with heap := h' }) : wpAny (model prog w) A (call (.type "enumerate") [v]) Q E s := by
  refine callType_new F.called_enumerate (by decide) (F.typeCall_enumerate_1 _) (F.newCall_enumerate_1 _) (fun obj => F.args_object_init_2 obj _) F.entry_enumerate_new (meets1 B) ⟨h1, ?_⟩
  have n1 : (s.heap.push o).objs.size = s.heap.objs.size + 1 := Heap.size_push ..
  have g0 := Heap.get?_push_size (s.heap.push o) (o := { cls := .type "enumerate", data := .fields #[.none, .bool false, .ref s.heap.objs.size, rawInt 0, .none, .none] }) rfl
  show _ ∧ _
  rw [n1] at g0 ⊢
  exact ⟨⟨_, g0, rfl⟩, h _ g0 (Heap.get?_push_of_some _ (Heap.get?_push_size _ B.free)) (by rw [Heap.size_push, n1]) fun b ob z => Heap.get?_push_of_some _ (Heap.get?_push_of_some _ z)⟩
end
/-- the tuple at a, its items in new pairs -/
def IteT (K : PySem.W.Frag) (a : Addr) : It :=
  ⟨fun i H => ∃ (xs : List V) (x : V), SqT K H a xs ∧ xs[i]? = some x, fun i H v H' => ∃ T x, v = .ref T ∧ H T = none ∧ H' = upd H T (.tup [.int (i : Nat), x]) ∧ ∀ xs, SqT K H a xs → xs[i]? = some x, fun i H => ∃ xs : List V, SqT K H a xs ∧ xs.length ≤ i⟩
theorem turnT {P : Program} {w : World} {K : PySem.W.Frag} {elts : List Expr} {kk : Nat} {tpos : Pos} (a e it : Addr) (hai : a ≠ it) (hae : a ≠ e) :
    Turn P w K (.Tuple elts kk tpos) (IteT K a) [e, it] e (fun i h => (∃ old, IsEnum h e it ((i : Nat) : Int) old) ∧ h.IsTupleIter it a i ∧ e ≠ it) where
  mem := by simp
  obj := fun i h st b hb => by
    obtain ⟨⟨old, he⟩, ⟨o, ho, hc, hd⟩, _⟩ := st
    rcases (show b = e ∨ b = it by simpa using hb) with z | z
    · rw [z]; exact ⟨_, he, fun v q => nomatch q⟩
    · rw [z]; exact ⟨o, ho, fun v q => by rw [hd] at q; cases q⟩
  keep := fun i h h' st k => let ⟨⟨old, he⟩, hi, hne⟩ := st; ⟨⟨old, k e (by simp) _ he⟩, hi.at fun o q => k it (by simp) o q, hne⟩
  item := by
    intro X hP hw hK hc i pins s σ H E I hf st hg
    subst hP hw hK
    obtain ⟨⟨old, he⟩, hit, hne⟩ := st
    obtain ⟨xs, x, hq, hx⟩ := hg
    obtain ⟨its, rv, p, hz⟩ := I.tuple hq
    obtain ⟨u, hu, ru⟩ := rv.get hx
    have hel : e < s.heap.objs.size := Heap.lt_size he
    have hil : it < s.heap.objs.size := by obtain ⟨_, q, _⟩ := hit; exact Heap.lt_size q
    have hin : i < its.toArray.size := by simpa using (List.getElem?_eq_some_iff.mp hu).1
    have D := Draws.tuple (prog := X.prog) (w := X.w) (A := X.A.in1) (show X.A.in1.handled = none from I.ok.hd hc) it a hai its.toArray
    refine wpAny_pyNext_enum_itemD D he ⟨hit, p⟩ hin hne (by simp [hne, Ne.symm hae]) fun y h' tk hy ho hst hT hsz hk => ?_
    obtain rfl : u = y := Option.some.inj ((by simpa using hu : its.toArray[i]? = some u).symm.trans hy)
    refine ⟨_, rfl, wpAny_letOwnedTupleGo_enum (s := { s with heap := h', toks := tk + 1 }) ho fun h'' he' sb => ?_⟩
    have hT2 : h''.get? s.heap.objs.size = some { cls := .type "tuple", data := .seq #[.int i tk, u] } := (sb.2 _ (Nat.ne_of_gt hel)).trans hT
    have new : ObjOk X.prog X.w (upd H s.heap.objs.size (.tup [.int (i : Nat), x])) h'' s.heap.objs.size (.tup [.int (i : Nat), x]) :=
      ⟨by show 2 ≤ sizeLine; decide, [.int i tk, u], .cons ⟨_, rfl⟩ (.cons ru .nil), ⟨_, hT2, rfl, _, rfl⟩⟩
    have I1 : Inv X pins σ (upd H s.heap.objs.size (.tup [.int (i : Nat), x])) { s with heap := h'', toks := tk + 1 } :=
      I.turnedNew (ch := [e, it]) (fun b ob hb q => (sb.2 b (fun z => hb (by simp [z]))).trans (hk b ob (fun z => hb (by simp [z])) (fun z => hb (by simp [z])) q)) hf (Nat.le_refl _) new
    refine ⟨.ref s.heap.objs.size, _, I1, rfl, ⟨_, x, rfl, I.hok.fresh (Nat.le_refl _), rfl, fun ys hy => by rw [I.tuple_inj hy hq]; exact hx⟩, ⟨⟨u, ?_⟩, hst.1.at fun o q => (sb.2 it (Ne.symm hne)).trans q, hne⟩, fun b hb => ?_⟩
    · rw [show ((i + 1 : Nat) : Int) = (i : Int) + 1 by omega]; exact he'
    · have hb' : b < s.heap.objs.size := by
        rcases (show b = e ∨ b = it by simpa using hb) with z | z
        · rw [z]; exact hel
        · rw [z]; exact hil
      rw [upd_ne (Nat.ne_of_lt hb')]
      exact (hf b hb).1
  done := by
    intro X hP hw hK hc i pins s σ H E I hf st hg
    subst hP hw hK
    obtain ⟨⟨old, he⟩, hit, hne⟩ := st
    obtain ⟨xs, hq, hx⟩ := hg
    obtain ⟨its, rv, p, hz⟩ := I.tuple hq
    obtain ⟨f0, f1, f2, f3, f4, f5⟩ := hf it (by simp)
    have hl := rv.length
    have hT : s.TypeIs (.ref e) "enumerate" := ⟨_, he, rfl⟩
    unfold pyNext
    refine wpAny_bind (wpAny_attempt (wpAny_callSpecial?_slot (name := Str.ofString "__next__") hT F.slot_enumerate_next
      (wpAny_call_entry F.slot_enumerate_next hT F.entry_enumerate_next ?_ (F.args_enumerate_next_1 _))))
    show wpAny _ _ (field (.ref e) 2 >>= _) _ _ _
    refine wpAny_bind (wpAny_field he rfl (x := .ref it) rfl ?_)
    refine wpAny_bind (wpAny_nextOf_tuple_end (I.ok.hd hc) hit p (by simp; omega) fun h' y eb hy => ?_)
    obtain ⟨o, ho, hc'⟩ := hy
    refine wpAny_bind (wpAny_isInstance (T := "StopIteration") (b := true) ⟨o, ho, hc'⟩ isSubtype_stop ?_)
    exact wpAny_pure ⟨rfl, I.turned (t' := s.toks) (fun b o hb q => eb b o hb q) f0 f1 f3 f4 f5⟩
  self := fun A i s Q E st h => let ⟨⟨_, he⟩, _⟩ := st; wpAny_pyIter_enum he h
def iEnumT (K : PySem.W.Frag) (ta : TA) : TI := fun σ H R => ta σ H fun vs H1 => ∃ a xs, vs = [.ref a] ∧ SqT K H1 a xs ∧ R (IteT K a) H1
theorem pi_enumT {X : Cx} {e : Expr} {ta : TA} {p pos tpos : Pos} {elts : List Expr} {kk : Nat} (hg : Gl X "enumerate") (hm : X.mg "enumerate" = none) (ha : PA X [e] ta) (hs : starEach [e] X.env = [(false, eval e X.env)] := by rfl) :
    PI X (.Tuple elts kk tpos) (.Call (.Name "enumerate" p) [e] [] pos) (iEnumT X.K ta) := by
  refine ⟨fun pins s σ H R I h => ?_⟩
  refine Call_ (ld_blt I hg hm boot_enumerate (PyProof.Rows.callWith_type1 (thn (ha.run pos pins s σ H _ I h) fun us s1 ⟨vs, H1, I1, r1, q1⟩ => ?_) hs rfl))
  obtain ⟨a, xs, ex, hq, q⟩ := q1
  subst ex
  cases r1 with
  | cons r rr =>
    cases rr
    cases r
    obtain ⟨its, rv, p', hz⟩ := I1.tuple hq
    have hal : a < s1.heap.objs.size := p'.lt
    refine begins1 (begins_tuple a its.toArray) p' fun h' he hit hsz hk => wpAny_pyIter_enum he ?_
    have I2 : Inv X pins σ H1 { s1 with heap := h' } := I1.kept (t' := s1.toks) hk
    refine ⟨s1.heap.objs.size + 1, [s1.heap.objs.size + 1, s1.heap.objs.size], _, _, H1, rfl, I2, turnT a (s1.heap.objs.size + 1) s1.heap.objs.size (Nat.ne_of_lt hal) (Nat.ne_of_lt (Nat.lt_succ_of_lt hal)), ⟨⟨.none, he⟩, ⟨_, hit, rfl, rfl⟩, Nat.succ_ne_self _⟩, fun b hb => ?_, q⟩
    have hle : s1.heap.objs.size ≤ b := by
      rcases (show b = s1.heap.objs.size + 1 ∨ b = s1.heap.objs.size by simpa using hb) with z | z
      · rw [z]; exact Nat.le_add_right _ _
      · rw [z]; exact Nat.le_refl _
    exact I1.fpOk hle (I1.hok.fresh hle)
end EnT
namespace DX
open PySem PySem.Spec L2
variable {X : Cx} {J : Gh} {M : Mem} {F : Hp} {K : PySem.W.Frag} {ρ : DEnv} {a : Expr} {p pos : Pos}
/-! ### a if t else b as a test -/
def tIfT (t ta tb : TT) : TT := fun σ H Q => t σ H fun c H1 => if c = true then ta σ H1 Q else tb σ H1 Q
theorem pt_ifExp {b c : Expr} {t ta tb : TT} (hc : PT X c t) (ha : PT X a ta) (hb : PT X b tb) : PT X (.IfExp c a b pos) (tIfT t ta tb) := by
  refine ⟨fun pins s σ H Q I h => ?_⟩
  refine PyProof.Rows.isTrue_IfExp (thn (hc.run pins s σ H _ I h) fun d s1 ⟨H1, I1, q1⟩ => ?_)
  cases d with
  | true => exact ha.run pins s1 σ H1 Q I1 q1
  | false => exact hb.run pins s1 σ H1 Q I1 q1
theorem tx_if {b c : Expr} {PB : Bool → Mem → Prop} (h : TX X J c ρ M fun t M1 => (t = true → TX X J a ρ M1 PB) ∧ (t = false → TX X J b ρ M1 PB)) : TX X J (.IfExp c a b pos) ρ M PB :=
  tx_of (pt_ifExp pt_any pt_any pt_any) fun F σ H Q st k => h.go st fun t M1 F1 H1 p e1 o1 => by
    cases t with
    | true => exact iteT ((p.1 rfl).go (st.to e1 o1) (k.to e1))
    | false => exact iteF ((p.2 rfl).go (st.to e1 o1) (k.to e1))
theorem wk_enumT {q : Addr} {xs : List V} {ds : List D} (h : SqT K F q xs) (hx : Rps K F xs ds) : Wk K F (EnT.IteT K q) (enumD 0 ds) := by
  refine ⟨fun i H hi s => ?_, fun H s => ⟨xs, same_t s h, by rw [enumD_len, hx.length]; exact Nat.le_refl _⟩, fun i d H x H' F1 M hd s o y => ?_⟩
  · rw [enumD_len] at hi
    have h1 : i < xs.length := by rw [hx.length]; omega
    exact ⟨xs, xs[i], same_t s h, by simp [h1]⟩
  · obtain ⟨T, v1, rfl, h2, rfl, h4⟩ := y
    obtain ⟨d1, g1, rfl⟩ := enumD_at hd
    obtain ⟨w1, k1, k2⟩ := hx.get g1
    have e1 := h4 xs (same_t o.ex (same_t s h))
    rw [k1] at e1; cases e1
    rw [Nat.zero_add]
    exact pair_new (x := d1) (y := d1) o h2 (.int _) (k2.mono s)
theorem ix_enumT {elts : List Expr} {kk : Nat} {tpos : Pos} {P : List D → Mem → Prop} (hm : X.mg "enumerate" = none) (h : AX X J [a] ρ M fun ws M1 => ∃ ds, ws = [.tup ds] ∧ P (enumD 0 ds) M1) (hg : Gl X "enumerate" := by rfl)
    (hs : starEach [a] X.env = [(false, eval a X.env)] := by rfl) : IX X J (.Tuple elts kk tpos) (.Call (.Name "enumerate" p) [a] [] pos) ρ M P :=
  ix_of (EnT.pi_enumT hg hm pa_any hs) fun F σ H R s k => h.go s fun ws vs M1 F1 H1 q e1 o1 r1 => by
    obtain ⟨ds, rfl, q⟩ := q
    cases r1 with
    | cons h1 r1 =>
      cases r1
      cases h1 with
      | tup h1 k1 => exact ⟨_, _, rfl, same_t o1.ex h1, k _ _ M1 F1 H1 q e1 o1 (wk_enumT h1 k1)⟩
/-! ### tuple(text) -/
open PyProof.Rows in
theorem call_tuple_text (hc : X.calm = true) : CallR X (.type "tuple") (fun xs H Q => ∃ z : Str, xs = [.str z] ∧ z.length ≤ 1000000 ∧ ∀ l, H l = none → Q (.ref l) (upd H l (.tup (z.cps.toList.map fun c => V.str ⟨#[c]⟩)))) := by
  intro pins s σ H xs us Q I r h
  obtain ⟨z, rfl, hz, q⟩ := h
  obtain ⟨u, rfl, rx⟩ := vals1 r
  obtain ⟨t, rfl⟩ := rx
  have hz2 : z.cps.size ≤ 1000000 := hz
  refine call_tuple_str (I.ok.hd hc) z t (fun h' tk acc kp hi => ?_) (hsz := by rw [sizeLine_eq]; omega)
  have I1 : Inv X pins σ H { s with heap := h', toks := tk } := I.kept (t' := tk) kp
  have e1 : acc.toList.length = z.cps.toList.length := by rw [Array.length_toList, Array.length_toList]; exact hi.1
  have hv : Vals (z.cps.toList.map fun c => V.str ⟨#[c]⟩) acc.toList := by
    have e2 : (z.cps.toList.map fun c => V.str ⟨#[c]⟩) = (List.range acc.toList.length).map fun j => V.str ⟨#[z.cps.toList.getD j 0]⟩ := by
      rw [e1]
      apply List.ext_getElem
      · simp
      · intro j h1 h2
        rw [List.length_map] at h1
        rw [List.getElem_map, List.getElem_map, List.getElem_range, List.getD_eq_getElem?_getD, List.getElem?_eq_getElem h1]; rfl
    rw [e2]
    refine vals_of_get _ _ fun j w hj => ?_
    obtain ⟨c, u, h1, h2⟩ := hi.2 j w (by rw [← hj, Array.getElem?_toList])
    have : z.cps.toList[j]? = some c := by rw [Array.getElem?_toList]; exact h1
    rw [List.getD_eq_getElem?_getD, this]
    exact ⟨u, h2⟩
  have I2 : Inv X pins σ (upd H h'.objs.size (.tup (z.cps.toList.map fun c => V.str ⟨#[c]⟩))) { s with heap := h'.push { cls := .type "tuple", data := .seq acc }, toks := tk } :=
    I1.laid (t' := tk) (fun b o e => Heap.get?_push_of_some _ e) (Nat.le_refl _) (show ObjOk X.prog X.w _ _ _ (.tup (z.cps.toList.map fun c => V.str ⟨#[c]⟩)) from ⟨by rw [List.length_map, Array.length_toList, sizeLine_eq]; omega, acc.toList, hv, IsTup.new _ _⟩)
  exact ⟨.ref h'.objs.size, _, I2, rfl, q _ (I1.hok.fresh (Nat.le_refl _))⟩
theorem cd_tupleS {P : D → Mem → Prop} {z : Str} (hc : X.calm = true) (hz : z.cps.toList.length ≤ 1000000) (q : P (.tup (signs z)) M) : CD X (.type "tuple") [.str z] M P :=
  ⟨_, call_tuple_text hc, fun F H vs Q o r k => by
    cases r with
    | cons h1 r =>
      cases r
      cases h1
      refine ⟨z, rfl, ?_, fun l hl => ?_⟩
      · show z.cps.size ≤ _
        rw [← Array.length_toList]; exact hz
      · refine k _ _ _ _ _ q (o.fixSame hl) (o.fix hl) (.tup (SqT.of upd_same) ?_)
        have e : (z.cps.toList.map fun c => V.str ⟨#[c]⟩) = (z.cps.toList.map fun c => (⟨#[c]⟩ : Str)).map V.str := by rw [List.map_map]; rfl
        have e2 : signs z = (z.cps.toList.map fun c => (⟨#[c]⟩ : Str)).map D.str := by unfold signs; rw [List.map_map]; rfl
        rw [e, e2]
        exact Rps.ofStrs⟩
theorem od_isB {P : D → Mem → Prop} {x y : Bool} (p : P (.bl (decide (x = y))) M) : OD X (compareOp .Is) (.bl x) (.bl y) M P :=
  ⟨_, op_is_bl, fun F H v u Q o rx ry k => by
    cases rx; cases ry
    exact ⟨x, y, rfl, rfl, k.here p o (.bl _)⟩⟩
end DX
namespace DX
open PySem PySem.Spec L2
/-! ### isinstance with an own class -/
/-- what a look at the module tells of the class C -/
def isiB (K : PySem.W.Frag) (C : Str) : Bool :=
  He.eqO (PySem.W.findIn K (.ref (He.ga K C)) "__class__") (some (some (.builtin "object.__class__"))) && (He.eqO (PySem.W.specialIn K (.builtin "object.__class__") "__get__") (some (some (.builtin "getset_descriptor.__get__"))) &&
    (decide (PySem.W.takesIn K (.builtin "object.__class__") = some true) && (decide (PySem.W.mroIn K (He.ga K C) (.type "object") = some true) &&
      (["NoneType", "bool", "int", "str", "tuple", "list", "dict"].all fun n => decide (PySem.W.kitOne K (.type n) (.ref (He.ga K C)) = some false)))))
structure IsiC (K : PySem.W.Frag) (C : Addr) : Prop where
  ha : PySem.W.findIn K (.ref C) "__class__" = some (some (.builtin "object.__class__"))
  hn : PySem.W.specialIn K (.builtin "object.__class__") "__get__" = some (some (.builtin "getset_descriptor.__get__"))
  htk : PySem.W.takesIn K (.builtin "object.__class__") = some true
  hm : PySem.W.mroIn K C (.type "object") = some true
  no : ∀ n ∈ ["NoneType", "bool", "int", "str", "tuple", "list", "dict"], PySem.W.kitOne K (.type n) (.ref C) = some false
theorem isiB_ok {K : PySem.W.Frag} {C : Str} (h : isiB K C = true) : IsiC K (He.ga K C) := by
  obtain ⟨h1, h⟩ := He.ba h
  obtain ⟨h2, h⟩ := He.ba h
  obtain ⟨h3, h⟩ := He.ba h
  obtain ⟨h4, h5⟩ := He.ba h
  exact ⟨He.eqO_ok h1, He.eqO_ok h2, of_decide_eq_true h3, of_decide_eq_true h4, fun n hn => of_decide_eq_true (List.all_eq_true.mp h5 n hn)⟩
section
variable {X : Cx} {J : Gh} {M : Mem} {P : D → Mem → Prop} {ρ : DEnv} {pos : Pos} {x : Str}
/-- the class's name -/
theorem ex_gcls {C : Addr} (hm : X.mg x = some (.ref C)) (p : P (.adr C) M) (hg : Gl X x := by rfl) (hdb : (x == ("__debug__" : Str)) = false := by decide) : EX X J (.Name x pos) ρ M P :=
  ex_glob (v := .ref C) hg hm rfl (fun F => .adr C) p hdb
/-- an instance is one -/
theorem cd_isiO {d : D} {C : Addr} {gs : List (Str × D)} (c : Cls X.K C) (ic : IsiC X.K C) (hi : Is M d C gs) (q : P (.bl true) M) : CD X (.builtin "isinstance") [d, .adr C] M P :=
  ⟨_, call_isi, fun F H vs Q o r k => by
    cases r with
    | cons h1 r =>
      cases r with
      | cons h2 r =>
        cases r
        cases h2
        obtain ⟨a, dx, fs, rfl, e, _⟩ := hi.get o h1
        refine ⟨_, _, .ref C, .ref C, true, rfl, .own C, .base (.ins e c ic.ha ic.hn ic.htk ic.hm), ?_, k.here q o (.bl _)⟩
        unfold PySem.W.kitOne
        rw [if_pos (by simp)]⟩
/-- plain data are none -/
theorem cd_isiN {d : D} {C : Addr} (ic : IsiC X.K C) (h : plain d = true) (q : P (.bl false) M) : CD X (.builtin "isinstance") [d, .adr C] M P :=
  ⟨_, call_isi, fun F H vs Q o r k => by
    cases r with
    | cons h1 r =>
      cases r with
      | cons h2 r =>
        cases r
        cases h2
        exact ⟨_, _, _, .ref C, false, rfl, .own C, ty_of h o.ex h1, ic.no _ (kn_mem d), k.here q o (.bl _)⟩⟩
end
end DX
/-! t[::-1] of a tuple: a new tuple whose object is known; t.index(i) of such -/
namespace RevT
open PySem PySem.Spec L2 PyProof.Rows HT
theorem fm_congr {α β : Type} {f g : α → Option β} : ∀ {l : List α}, (∀ a ∈ l, f a = g a) → l.filterMap f = l.filterMap g
  | [], _ => rfl
  | a :: l, h => by rw [List.filterMap_cons, List.filterMap_cons, h a List.mem_cons_self, fm_congr (fun b hb => h b (List.mem_cons_of_mem _ hb))]
theorem rev_pick (xs : Array Value) : ((List.range xs.size).filterMap fun (k : Nat) => xs[(((xs.size : Int) - 1) + (k : Int) * (-1)).toNat]?) = xs.toList.reverse := by
  have e : ((List.range xs.size).filterMap fun (k : Nat) => xs[(((xs.size : Int) - 1) + (k : Int) * (-1)).toNat]?) = ((List.range xs.size).map fun k => xs.size - 1 - k).filterMap (xs[·]?) := by
    rw [List.filterMap_map]
    refine fm_congr fun k hk => ?_
    have := List.mem_range.mp hk
    have e3 : (((xs.size : Int) - 1) + (k : Int) * (-1)).toNat = xs.size - 1 - k := by omega
    show xs[(((xs.size : Int) - 1) + (k : Int) * (-1)).toNat]? = xs[xs.size - 1 - k]?
    rw [e3]
  have e2 : ((List.range xs.size).map fun k => xs.size - 1 - k) = (List.range xs.size).reverse := by
    apply List.ext_getElem
    · simp
    · intro i h1 h2
      simp at h1 h2 ⊢
  rw [e, e2, List.filterMap_reverse, PySem.W.krv_all]
section
variable {prog : Program} {w : World} {A : Around} {E : Value → Shared → Prop} {s : Shared}
theorem getItem_rev {t sl : Addr} {items : Array Value} {vs : Value} {Q : Value → Shared → Prop} (ht : IsTup s.heap t items) (hs : s.heap.IsSliceOf sl .none .none vs) (ps : IsPart vs (some (-1)))
    (h : Q (.ref s.heap.objs.size) { s with heap := s.heap.push { cls := .type "tuple", data := .seq items.toList.reverse.toArray } }) (hsz : items.size ≤ sizeLine) : wpAny (model prog w) A (getItem (.ref t) (.ref sl)) Q E s := by
  have hok : sizeOk (.seq items.toList.reverse.toArray) := by
    show items.toList.reverse.toArray.size ≤ sizeLine
    rw [List.size_toArray, List.length_reverse, Array.length_toList]
    exact hsz
  obtain ⟨os, hos, hcs, hds⟩ := id hs
  have hTs : s.TypeIs (.ref sl) "slice" := ⟨os, hos, hcs⟩
  unfold getItem
  try with_reducible refine wpAny_holding ?_
  first | refine wpAny_bind (wpAny_pure ?_) | skip
  refine wpAny_bind (wpAny_sequenceKey ht.typeIs (by decide) ?_)
  refine wpAny_bind (wpAny_callSpecial?_slot (name := Str.ofString "__getitem__") ht.typeIs PyProof.Rows.slot_tuple_getitem
    (wpAny_call_entry PyProof.Rows.slot_tuple_getitem ht.typeIs entry_tuple_getitem ?_ (args_tuple_getitem _ _)))
  show wpAny _ _ (Builtin.Tuple.tupleItemsOf (.ref t) >>= _) _ _ s
  refine wpAny_bind (tupleItemsOf_ ht ?_)
  refine wpAny_bind (wpAny_typeOf hTs ?_)
  rw [if_pos (by decide)]
  refine wpAny_bind ?_
  · unfold Builtin.Slice.sliceApplied Builtin.Slice.sliceFields
    refine wpAny_bind (wpAny_bind (wpAny_field hos hds (x := .none) rfl (wpAny_bind (wpAny_field hos hds (x := .none) rfl (wpAny_bind (wpAny_field hos hds (x := vs) rfl (wpAny_pure ?_)))))))
    refine wpAny_bind (slicePart_ ps ?_)
    show wpAny _ _ (if ((-1 : Int) == 0) = true then _ else _) _ _ s
    rw [if_neg (by decide)]
    refine wpAny_bind (slicePart_none (wpAny_bind (slicePart_none (wpAny_bind (wpAny_pure ?_)))))
    show wpAny _ _ (pure ((items.size : Int) - 1, (-1 : Int), Builtin.Slice.slicePlaces ((items.size : Int) - 1) (-1) (-1))) _ _ s
    have e : Builtin.Slice.slicePlaces ((items.size : Int) - 1) (-1) (-1) = items.size := by
      unfold Builtin.Slice.slicePlaces
      rw [if_neg (by decide), show (-(-1) : Int) = 1 from rfl, Int.ediv_one]
      split <;> omega
    rw [e]
    refine wpAny_pure ?_
    have hno : ¬ ((((items.size : Int) - 1) == 0 && (-1 : Int) == 1 && items.size == items.size) = true) := by simp
    show wpAny _ _ (if (((items.size : Int) - 1) == 0 && (-1 : Int) == 1 && items.size == items.size) = true then _ else _) _ _ s
    rw [if_neg hno, rev_pick]
    first
      | exact wpAny_bind (m := Builtin.Tuple.tupleExact _) (wpAny_newObj_type (wpAny_pure ⟨_, rfl, wpAny_pure h⟩) hok)
      | exact wpAny_bind (m := Builtin.Tuple.tupleExact _) (wpAny_newObj_type (wpAny_bind (wpAny_pure (wpAny_pure ⟨_, rfl, wpAny_pure h⟩))) hok)
      | exact wpAny_bind (wpAny_bind (m := Builtin.Tuple.tupleExact _) (wpAny_newObj_type (wpAny_pure (wpAny_pure ⟨_, rfl, wpAny_pure h⟩)) hok))
      | exact wpAny_bind (wpAny_bind (m := Builtin.Tuple.tupleExact _) (wpAny_newObj_type (wpAny_pure ⟨_, rfl, wpAny_pure h⟩) hok))
end
end RevT
namespace RevT
open PySem PySem.Spec L2 PyProof.Rows HT
def tRevT (K : PySem.W.Frag) (te : TE) : TE := fun σ H Q => te σ H fun x H1 => ∃ a xs, x = .ref a ∧ SqT K H1 a xs ∧ ∀ p (ob : Obj), H1 p = none → (ob.cls = .type "tuple" ∧ ob.dict = none) → Q (.ref p) (upd H1 p (.frz ob (.tup xs.reverse)))
theorem pe_revT {X : Cx} {e : Expr} {te : TE} {k : Nat} {p1 p2 p3 pos : Pos} (he : PE X e te) : PE X (.Subscript e (.Slice none none (some (.UnaryOp .USub (.Constant (.int 1) k p1) p2)) p3) pos) (tRevT X.K te) := by
  refine ⟨fun pins s σ H Q I h => ?_⟩
  refine Subscript_ (thn (he.run pins s σ H _ I h) fun v s1 ⟨x, H1, I1, r1, q1⟩ => ?_)
  obtain ⟨a, xs, ex, hx, q⟩ := q1
  subst ex
  cases r1
  have hst : PO X (some (.UnaryOp .USub (.Constant (.int 1) k p1) p2)) (tPart (tUn (rU fun i => .int (-i)) (tC (.int 1)))) := po_some (pe_un un_neg pe_int)
  refine wpAny_Slice (thn (po_none.run pins s1 σ H1 (fun o H2 => o = none ∧ H2 = H1) I1 ⟨rfl, rfl⟩) fun vl s2 ⟨l, H2, I2, pl, el, e2⟩ => ?_)
  subst el e2
  refine thn (po_none.run pins s2 σ H2 (fun o H3 => o = none ∧ H3 = H2) I2 ⟨rfl, rfl⟩) fun vu s3 ⟨u, H3, I3, pu, eu, e3⟩ => ?_
  subst eu e3
  refine thn (hst.run pins s3 σ H3 (fun o H4 => o = some (-1) ∧ H4 = H3) I3 ⟨1, rfl, -1, rfl, rfl, rfl⟩) fun vs s4 ⟨o, H4, I4, ps, eo, e4⟩ => ?_
  subst eo e4
  cases pl
  cases pu
  have I5 : Inv X pins σ H4 { s4 with heap := s4.heap.push { cls := .type "slice", data := .fields #[.none, .none, vs] } } := I4.kept (t' := s4.toks) fun b ob q => Heap.get?_push_of_some _ q
  obtain ⟨its, r, ht, hz⟩ := I5.tuple hx
  have hlen := r.length
  show wpAny (model X.prog X.w) X.A (subscriptTail e (.Slice none none (some (.UnaryOp .USub (.Constant (.int 1) k p1) p2)) p3) (.ref a) (.ref s4.heap.objs.size)) (EP X pins σ Q) X.xe { s4 with heap := s4.heap.push { cls := .type "slice", data := .fields #[.none, .none, vs] } }
  refine tail_any (ops := [.ref a, .ref s4.heap.objs.size]) ht.typeIs (PyProof.Rows.slot_tuple_getitem.lookup) ?_ (by with_unfolding_all rfl)
  refine getItem_rev ht (Heap.IsSliceOf.new _ .none .none vs) ps ?_ (by rw [List.size_toArray]; omega)
  have e1 : its.toArray.toList.reverse.toArray = its.reverse.toArray := by simp
  rw [e1]
  refine ⟨.ref _, _, I5.laid (t' := s4.toks) (o := .frz { cls := .type "tuple", data := .seq its.reverse.toArray } (.tup xs.reverse)) (fun b ob q => Heap.get?_push_of_some _ q) (Nat.le_refl _) ?_, rfl, q _ _ (I5.hok.fresh (Nat.le_refl _)) ⟨rfl, rfl⟩⟩
  exact ⟨Heap.get?_push_size _ rfl, by rw [List.length_reverse]; exact hz, its.reverse, r.reverse, IsTup.new _ _⟩
/-- o.m(e, ..) of an object that is known -/
def tBMK (T : String) (r : V → List V → Hp → VK → Prop) (to : TE) (t : TA) : TE := fun σ H Q => to σ H fun x H1 => (∃ p ob u, x = .ref p ∧ H1 p = some (.frz ob u) ∧ ob.cls = .type T ∧ ob.dict = none) ∧ t σ H1 fun xs H2 => r x xs H2 Q
theorem pe_bmK {X : Cx} {o e : Expr} {es : List Expr} {to : TE} {t : TA} {name : Str} {apos cpos : Pos} {T id : String} {r : V → List V → Hp → VK → Prop}
    (pa : PlainAttrs T) (slot : Slot T name id) (hty : typeOf (.builtin id) = pure (.type "method_descriptor")) (hm : MtR X id r) (ho : PE X o to) (ha : PA X (e :: es) t)
    (hbase : attributeBase o name X.env (eval o X.env) = eval o X.env := by rfl)
    (hfew : ((backTo cpos (starEach (e :: es) X.env)).all (fun x => !x.1) && (backToKw cpos (keywordEach [] X.env)).all (fun x => x.1.isSome)
      && decide ((e :: es).length + ([] : List Keyword).length + (if ([] : List Keyword).isEmpty then 0 else 1) < 30)) = true := by rfl)
    (hline : (apos.endLine == cpos.line) = true := by rfl) (hs : starEach (e :: es) X.env = (false, eval e X.env) :: starEach es X.env := by rfl) (hplain : (backTo cpos (starEach es X.env)).any (·.1) = false := by rfl) :
    PE X (.Call (.Attribute o name apos) (e :: es) [] cpos) (tBMK T r to t) := by
  refine ⟨fun pins s σ H Q I h => ?_⟩
  refine wpAny_Call_method_late hbase hfew hline rfl (thn (ho.run pins s σ H _ I h) fun v s1 ⟨x, H1, I1, r1, ty, q1⟩ => ?_)
  obtain ⟨p, ob, u, rfl, hp, hc, hd⟩ := ty
  obtain rfl : v = Value.ref p := r1
  have hob := (I1.hok p _ hp).1
  refine ⟨T, id, pa, slot, hty, ⟨ob, hob, hc⟩, fun a ea => by cases ea; exact ⟨ob, hob, hd⟩, ?_⟩
  have hA := ha.run cpos pins s1 σ H1 _ I1 q1
  rw [hs] at hA ⊢
  refine Calls.callWith_builtin (by show (false || (backTo cpos (starEach es X.env)).any (·.1)) = false; rw [hplain] <;> rfl) (Calls.evalArgs_plain ?_)
  exact thn hA fun us s2 ⟨vs, H2, I2, r2, q2⟩ => hm pins s2 σ H2 (V.ref p) vs (Value.ref p) us Q I2 (show L2.RelV (V.ref p) (Value.ref p) from rfl) r2 q2
/-- t.index(i), the first place -/
theorem mt_tupIdxI {X : Cx} : MtR X "tuple.index" (fun x xs H Q => ∃ p, ∃ ns : List Int, ∃ i, x = .ref p ∧ xs = [.int i] ∧ SqT X.K H p (ns.map V.int) ∧ i ∈ ns ∧ Q (.int (ns.idxOf i : Nat)) H) := by
  intro pins s σ H x xs v us Q I rx rs h
  obtain ⟨p, ns, i, rfl, rfl, hq, hi, q⟩ := h
  cases rx
  obtain ⟨u, rfl, t, rfl⟩ := vals1 rs
  obtain ⟨its, r, pl, hz⟩ := I.tuple hq
  exact SeqAt.tuple_index_ints pl (intsAre_of r) hi ⟨.int _, H, I.tok _, ⟨_, rfl⟩, q⟩
end RevT
namespace DX
open PySem PySem.Spec L2
section
variable {X : Cx} {J : Gh} {M : Mem} {P : D → Mem → Prop} {ρ : DEnv} {o e : Expr} {pos apos cpos : Pos} {F H : Hp} {K : PySem.W.Frag}
theorem rps_rev : ∀ {xs : List V} {ds : List D}, Rps K F xs ds → Rps K F xs.reverse ds.reverse
  | _, _, .nil => .nil
  | _, _, .cons h r => by
    rw [List.reverse_cons, List.reverse_cons]
    exact Rps.append (rps_rev r) (.cons h .nil)
theorem ex_revT {k : Nat} {p1 p2 p3 : Pos} (h : EX X J e ρ M fun d M1 => ∃ ds, d = .tup ds ∧ P (.stup ds.reverse) M1) : EX X J (.Subscript e (.Slice none none (some (.UnaryOp .USub (.Constant (.int 1) k p1) p2)) p3) pos) ρ M P :=
  ex_of (RevT.pe_revT pe_any) fun F σ H Q st k => h.go st fun d v M1 F1 H1 q e1 o1 r1 => by
    obtain ⟨ds, rfl, q⟩ := q
    cases r1 with
    | tup h2 r2 => exact ⟨_, _, rfl, same_t o1.ex h2, fun l ob hl hc => k _ _ _ _ _ q (e1.trans (o1.fixSame hl)) (o1.fix hl) (.stup upd_same hc (Rps.mono (o1.fixSame hl) (rps_rev r2)))⟩
/-- a tuple whose object is known is a tuple -/
theorem Rp.unst {v : V} {ds : List D} (r : Rp K F v (.stup ds)) : Rp K F v (.tup ds) := by
  cases r with
  | stup h c r => exact .tup (.inl (.inr ⟨_, h⟩)) r
theorem ex_unst (h : EX X J e ρ M fun d M1 => ∃ ds, d = .stup ds ∧ P (.tup ds) M1) : EX X J e ρ M P :=
  ex_of h fun F σ H Q st k => ⟨F, st, fun d v M' F' H' q e1 o r => by
    obtain ⟨ds, rfl, q⟩ := q
    exact k _ _ _ _ _ q e1 o r.unst⟩
/-- t.index(i), t's object known -/
theorem ex_tindex (h : EX X J o ρ M fun d M1 => ∃ ns : List Int, d = .stup (ns.map D.int) ∧ AX X J [e] ρ M1 fun ys M2 => ∃ i, ys = [.int i] ∧ i ∈ ns ∧ P (.int ((ns.idxOf i : Nat) : Int)) M2)
    (hbase : attributeBase o "index" X.env (eval o X.env) = eval o X.env := by rfl)
    (few : ((backTo cpos (starEach [e] X.env)).all (fun x => !x.1) && (backToKw cpos (keywordEach [] X.env)).all (fun x => x.1.isSome) && decide ([e].length + ([] : List Keyword).length + (if ([] : List Keyword).isEmpty then 0 else 1) < 30)) = true := by rfl)
    (line : (apos.endLine == cpos.line) = true := by rfl) (hst : starEach [e] X.env = (false, eval e X.env) :: starEach [] X.env := by rfl) (hpl : (backTo cpos (starEach [] X.env)).any (·.1) = false := by rfl) :
    EX X J (.Call (.Attribute o "index" apos) [e] [] cpos) ρ M P :=
  ex_of (RevT.pe_bmK PySem.F.plainAttrs_tuple PySem.F.slot_tuple_index PySem.F.type_tuple_index RevT.mt_tupIdxI pe_any pa_any hbase few line hst hpl) fun F σ H Q st k => h.go st fun d v M1 F1 H1 q1 e1 o1 r1 => by
    obtain ⟨ns, rfl, q2⟩ := q1
    cases r1 with
    | stup h1 hc rs =>
      refine ⟨⟨_, _, _, rfl, o1.ex _ _ h1, hc.1, hc.2⟩, q2.go (st.to e1 o1) fun ys vs M2 F2 H2 q3 e2 o2 r2 => ?_⟩
      obtain ⟨i, rfl, hi, q3⟩ := q3
      cases r2 with
      | cons r2 r3 =>
        cases r3
        cases r2
        obtain rfl := rs.ints
        exact ⟨_, ns, i, rfl, rfl, .inl (.inr ⟨_, o2.ex _ _ (e2 _ _ h1)⟩), hi, k _ _ _ _ _ q3 (e1.trans e2) o2 (.int _)⟩
theorem En.unst : ∀ {σ : St} {ρ : DEnv} {i : Nat} {ds : List D}, En K F σ ρ → DX.look ρ i = some (.stup ds) → En K F σ (DX.put ρ i (.tup ds))
  | _, _, i, _, .nil, e => by simp [DX.look] at e
  | _, _, 0, ds, .cons h r, e => .cons (fun x q => by
    obtain ⟨y, a, b⟩ := h (.stup ds) e
    cases q
    exact ⟨y, a, b.unst⟩) r
  | _, _, i + 1, ds, .cons h r, e => .cons h (En.unst r e)
theorem gx_unst {sts : List Stmt} {B : Bd} (i : Nat) {ds : List D} (hi : DX.look ρ i = some (.stup ds)) (h : GX X J sts (DX.put ρ i (.tup ds)) M B) : GX X J sts ρ M B :=
  ⟨fun pins s σ H E I ⟨F, st, k⟩ => h.run pins s σ H E I ⟨F, ⟨st.en.unst hi, st.ok, st.gh⟩, k⟩⟩
/-- t[l:u], also where it is the whole of t -/
theorem sd_tupA {ds : List D} {l u : Option Int} (p : P (.tup (cutD ds l u)) M) : SD X (.tup ds) l u M P :=
  ⟨_, sl_tupA, fun F H v Q o rx k => by
    cases rx with
    | tup h1 r1 =>
      refine ⟨_, _, rfl, same_t o.ex h1, fun hw => ?_, fun hw q hq => k _ _ _ _ _ p (o.fixSame hq) (o.fix hq) (.tup (.inl (.inl upd_same)) ((cut_of r1 l u).mono (o.fixSame hq)))⟩
      rw [r1.length] at hw
      have e : cutD ds l u = ds := by
        unfold cutD
        rw [hw.1, hw.2, Nat.sub_zero, List.drop_zero, List.take_length]
      rw [e] at p
      exact k.here p o (.tup h1 r1)⟩
end
end DX
/-! x.extend(l); l.index(text); range with a step above 0 -/
namespace DX
open PySem PySem.Spec L2
section
variable {X : Cx} {J : Gh} {M : Mem} {P : D → Mem → Prop} {ρ : DEnv} {a b c o e : Expr} {p pos apos cpos : Pos} {K : PySem.W.Frag} {F : Hp}
/-- x.extend(l) -/
theorem ex_extend (h : EX X J o ρ M fun d M1 => ∃ q ds1, d = .adr q ∧ M1 q = some (.lst ds1) ∧ AX X J [e] ρ M1 fun ys M2 => ∃ y ds es f, ys = [y] ∧ Sl M2 y es ∧ At M2 q (.lst ds) f ∧ ds.length + es.length ≤ 1000000 ∧ P .non (f (.lst (ds ++ es))))
    (hbase : attributeBase o "extend" X.env (eval o X.env) = eval o X.env := by rfl)
    (few : ((backTo cpos (starEach [e] X.env)).all (fun x => !x.1) && (backToKw cpos (keywordEach [] X.env)).all (fun x => x.1.isSome) && decide ([e].length + ([] : List Keyword).length + (if ([] : List Keyword).isEmpty then 0 else 1) < 30)) = true := by rfl)
    (line : (apos.endLine == cpos.line) = true := by rfl) (hst : starEach [e] X.env = (false, eval e X.env) :: starEach [] X.env := by rfl) (hpl : (backTo cpos (starEach [] X.env)).any (·.1) = false := by rfl) :
    EX X J (.Call (.Attribute o "extend" apos) [e] [] cpos) ρ M P :=
  ex_of (pe_bm PySem.F.plainAttrs_list PySem.F.slot_list_extend PySem.F.type_list_extend mt_extend pe_any pa_any hbase few line hst hpl) fun F σ H Q st k => h.go st fun d v M1 F1 H1 q1 e1 o1 r1 => by
    obtain ⟨q, ds1, rfl, hq, q2⟩ := q1
    cases r1
    obtain ⟨_, xs1, hx1, _⟩ := o1.mt _ _ hq
    refine ⟨tyV_lst hx1, q2.go (st.to e1 o1) fun ys vs M2 F2 H2 q3 e2 o2 r2 => ?_⟩
    obtain ⟨y, ds, es, f, rfl, hs, hA, hz, q3⟩ := q3
    cases r2 with
    | cons r2 r3 =>
      cases r3
      obtain ⟨_, xs, hx, rx⟩ := o2.mt _ _ hA.get
      obtain ⟨b, zs, rfl, hb, rz⟩ := hs.get o2 r2
      refine ⟨q, b, xs, zs, rfl, rfl, hx, hb, by rw [rx.length, rz.length, sizeLine_eq]; omega, k _ _ _ _ _ q3 (e1.trans e2) ?_ .non⟩
      rw [hA.set]
      exact o2.set (o := .lst (xs ++ zs)) hA.get ⟨_, upd_same, rx.append rz⟩
/-- l.index(z) of a list of texts -/
theorem ex_lindexS (h : EX X J o ρ M fun d M1 => ∃ zs : List Str, d = .lst (zs.map D.str) ∧ AX X J [e] ρ M1 fun ys M2 => ∃ y, ys = [.str y] ∧ y ∈ zs ∧ P (.int ((zs.idxOf y : Nat) : Int)) M2)
    (hbase : attributeBase o "index" X.env (eval o X.env) = eval o X.env := by rfl)
    (few : ((backTo cpos (starEach [e] X.env)).all (fun x => !x.1) && (backToKw cpos (keywordEach [] X.env)).all (fun x => x.1.isSome) && decide ([e].length + ([] : List Keyword).length + (if ([] : List Keyword).isEmpty then 0 else 1) < 30)) = true := by rfl)
    (line : (apos.endLine == cpos.line) = true := by rfl) (hst : starEach [e] X.env = (false, eval e X.env) :: starEach [] X.env := by rfl) (hpl : (backTo cpos (starEach [] X.env)).any (·.1) = false := by rfl) :
    EX X J (.Call (.Attribute o "index" apos) [e] [] cpos) ρ M P :=
  ex_of (pe_bm PySem.F.plainAttrs_list PySem.F.slot_list_index PySem.F.type_list_index mt_index pe_any pa_any hbase few line hst hpl) fun F σ H Q st k => h.go st fun d v M1 F1 H1 q1 e1 o1 r1 => by
    obtain ⟨zs, rfl, q2⟩ := q1
    cases r1 with
    | lst h1 rs =>
      refine ⟨tyV_lst (o1.ex _ _ h1), q2.go (st.to e1 o1) fun ys vs M2 F2 H2 q3 e2 o2 r2 => ?_⟩
      obtain ⟨y, rfl, hy, q3⟩ := q3
      cases r2 with
      | cons r2 r3 =>
        cases r3
        cases r2
        obtain rfl := vals_strs rs
        have hlt := List.idxOf_lt_length_of_mem hy
        refine ⟨_, zs.map V.str, .str y, zs.idxOf y, .str y, rfl, rfl, SqL.of (o2.ex _ _ (e2 _ _ h1)), rfl, flat_strs _, ?_, by simp [eqV], fun m z' hm hz => ?_, k _ _ _ _ _ q3 (e1.trans e2) o2 (.int _)⟩
        · rw [List.getElem?_map, List.getElem?_eq_getElem hlt, List.getElem_idxOf]; rfl
        · rw [List.getElem?_map, List.getElem?_eq_getElem (by omega)] at hz
          cases hz
          have hne := List.not_of_lt_findIdx (p := fun x => x == y) hm
          simpa [eqV] using hne
/-- how many numbers range(i, j, c) has -/
def cntP (i j c : Int) : Nat := if i < j then ((j - i - 1) / c + 1).toNat else 0
theorem rgcP {i j c : Int} (hc : 1 ≤ c ∧ c ≤ 1000) (hi : -1000000 ≤ i ∧ i ≤ 1000000) (hj : -1000000 ≤ j ∧ j ≤ 1000000) : RgC i j c (cntP i j c) := by
  have e : Builtin.Range.rangeSize i j c = (cntP i j c : Nat) := by
    unfold Builtin.Range.rangeSize cntP
    rw [if_pos (by omega)]
    by_cases h : i < j
    · rw [if_pos h, if_pos h]
      have : 0 ≤ (j - i - 1) / c := Int.ediv_nonneg (by omega) (by omega)
      omega
    · rw [if_neg h, if_neg h]; rfl
  have hn : (cntP i j c : Int) ≤ 2000000 := by
    unfold cntP
    split
    · have h1 : (j - i - 1) / c ≤ j - i - 1 := Int.ediv_le_self _ (by omega)
      omega
    · simp
  refine ⟨by omega, by omega, ?_, e⟩
  unfold Builtin.Range.small
  rw [e]
  rw [if_pos (show c > 0 by omega)]
  simp only [Builtin.Range.rangeFitsLong, Bool.and_eq_true, Bool.or_eq_true, decide_eq_true_eq, beq_iff_eq]
  omega
theorem ix_rangeP {tg : Expr} {P : List D → Mem → Prop} (hm : X.mg "range" = none) (h : AX X J [a, b, c] ρ M fun ds M2 => ∃ i j d, ds = [.int i, .int j, .int d] ∧ ((-1000000 ≤ i ∧ i ≤ 1000000) ∧ (-1000000 ≤ j ∧ j ≤ 1000000) ∧ 1 ≤ d ∧ d ≤ 1000) ∧ P (rngC i d (cntP i j d)) M2) (hg : Gl X "range" := by rfl)
    (hs : starEach [a, b, c] X.env = (false, eval a X.env) :: starEach [b, c] X.env := by rfl) (hpl : (backTo pos (starEach [b, c] X.env)).any (·.1) = false := by rfl) : IX X J tg (.Call (.Name "range" p) [a, b, c] [] pos) ρ M P :=
  ix_of (pi_range3 hg hm pa_any hs hpl) fun F σ H R s k => h.go s fun ds vs M1 F1 H1 q e1 o1 r1 => by
    obtain ⟨i, j, d, rfl, hj, q2⟩ := q
    cases r1 with | cons h1 r1 => cases r1 with | cons h2 r1 => cases r1 with | cons h3 r1 =>
      cases r1
      cases h1; cases h2; cases h3
      exact ⟨i, j, d, cntP i j d, rfl, rgcP hj.2.2 hj.1 hj.2.1, k _ _ M1 F1 H1 q2 e1 o1 wk_rngC⟩
theorem cntP_at {i j c : Int} {k : Nat} (hc : 1 ≤ c) (h : k < cntP i j c) : i + (k : Int) * c < j := by
  unfold cntP at h
  split at h
  · have h1 : (k : Int) ≤ (j - i - 1) / c := by
      have : 0 ≤ (j - i - 1) / c := Int.ediv_nonneg (by omega) (by omega)
      omega
    have h2 : (k : Int) * c ≤ j - i - 1 := Int.le_trans (Int.mul_le_mul_of_nonneg_right h1 (by omega)) (Int.ediv_mul_le _ (by omega))
    omega
  · omega
end
end DX
/-! comprehensions whose list changes later; a variable's list is frozen; all([..]) -/
namespace DX
open PySem PySem.Spec L2
section
variable {X : Cx} {J : Gh} {e a b c : Expr} {es : List Expr} {ρ ρ' : DEnv} {M M' : Mem} {F F' H H' : Hp} {σ : St} {B : Bd} {K : PySem.W.Frag} {pos p : Pos} {x : Str} {P : D → Mem → Prop}
variable {scope : Scope} {tg iter elt : Expr} {ifs : List Expr}
/-- LcW, where the list goes on changing -/
def LcWM (X : Cx) (J : Gh) (scope : Scope) (vs : List Nat) (tg : Expr) (ifs : List Expr) (elt : Expr) (ρ : DEnv) (P : D → Mem → Prop) (ds : List D) (M1 : Mem) : Prop := ∃ Wd : Nat → List D → Mem → Prop, Wd 0 [] M1 ∧
  (∀ i d acc M' Dl, ds[i]? = some d → Wd i acc M' → M' Dl = none → acc.length < 1000000 ∧ AsB X scope vs tg d (cuts ρ vs) fun ρ2 =>
    TXb X J scope ifs ρ2 (up M' Dl (.lst acc)) fun t M2 => (t = true → EXb X J scope elt ρ2 M2 fun y M3 => ∃ M4, M4 Dl = none ∧ M3 = up M4 Dl (.lst acc) ∧ Wd (i + 1) (acc ++ [y]) M4) ∧
      (t = false → ∃ M4, M4 Dl = none ∧ M2 = up M4 Dl (.lst acc) ∧ Wd (i + 1) acc M4)) ∧
  ∀ acc M' Dl, Wd ds.length acc M' → M' Dl = none → P (.adr Dl) (up M' Dl (.lst acc))
theorem lc_goM {vs : List Nat} {Q : VK} (st : Sts X.K J F σ H ρ M) (k : Kt X.K F P Q) (h : IX X J tg iter ρ M (LcWM X J scope vs tg ifs elt ρ P)) :
    tLc (tIe X tg iter) (gB X scope tg) (tTb X scope ifs) (tEb X scope elt) vs σ H Q := by
  refine h.go st fun ds I M1 F1 H1 ⟨Wd, h0, hs, hd⟩ e1 o1 w Dl hD => ?_
  have hm1 := o1.nn hD
  refine ⟨fun i m H2 => m = ds.length - i ∧ i ≤ ds.length ∧ ∃ F' M' acc xs, Same F1 F' ∧ Ok X.K F' (up M' Dl (.lst acc)) H2 ∧ M' Dl = none ∧ H2 Dl = some (.lst xs) ∧ Wd i acc M', ⟨ds.length, by simp, Nat.zero_le _, F1, M1, [], [], Same.refl _, o1.lay hD ⟨[], upd_same, .nil⟩, hm1.2, upd_same, h0⟩, ?_⟩
  rintro i m H2 ⟨rfl, hi, F', M', acc, xs, e2, o2, hn, hx, q⟩
  by_cases hlt : i < ds.length
  · refine .inr ⟨w.goes i H2 hlt (e2.trans o2.ex), fun H3 => ∃ m', m' < ds.length - i ∧ m' = ds.length - (i + 1) ∧ i + 1 ≤ ds.length ∧ ∃ F' M' acc xs, Same F1 F' ∧ Ok X.K F' (up M' Dl (.lst acc)) H3 ∧ M' Dl = none ∧ H3 Dl = some (.lst xs) ∧ Wd (i + 1) acc M', fun H3 n3 => n3, fun x H3 y => ?_⟩
    obtain ⟨F3, e3, o3, r3⟩ := w.yields i ds[i] H2 x H3 F' _ (by simp [hlt]) e2 o2 y
    obtain ⟨ha, g, hg, hgo⟩ := hs i ds[i] acc M' Dl (by simp [hlt]) q hn
    have en3 : En X.K F3 (wipe σ vs) (cuts ρ vs) := (((st.en.cuts vs).mono e1).mono e2).mono e3
    refine ⟨g, hg, hgo F3 _ x _ H3 _ o3 r3 en3 fun σ4 ρ4 q4 en4 w4 => ⟨w4.trans (wipe_wipe σ vs), ?_⟩⟩
    obtain ⟨t, ht, q4⟩ := q4
    refine ⟨t, ht, q4 F3 σ4 H3 _ ⟨en4, o3, J.mono _ _ ((e1.trans e2).trans e3) st.gh⟩ fun tb M5 F5 H5 q5 e5 o5 => ?_⟩
    have fin : ∀ F6 M6 acc6 H6, Same F5 F6 → M6 Dl = none → Ok X.K F6 (up M6 Dl (.lst acc6)) H6 → Wd (i + 1) acc6 M6 → ∃ m', m' < ds.length - i ∧ m' = ds.length - (i + 1) ∧ i + 1 ≤ ds.length ∧ ∃ F' M' acc xs, Same F1 F' ∧ Ok X.K F' (up M' Dl (.lst acc)) H6 ∧ M' Dl = none ∧ H6 Dl = some (.lst xs) ∧ Wd (i + 1) acc M' := by
      intro F6 M6 acc6 H6 e6 n6 o6 q6
      obtain ⟨_, xs6, h6, _⟩ := o6.mt Dl _ up_same
      exact ⟨_, by omega, rfl, hlt, F6, M6, acc6, xs6, ((e2.trans e3).trans e5).trans e6, o6, n6, h6, q6⟩
    cases tb with
    | true =>
      refine iteT ⟨tD X.K J ρ4 M5 _, q5.1 rfl, F5, ⟨en4.mono e5, o5, J.mono _ _ (((e1.trans e2).trans e3).trans e5) st.gh⟩, fun y v M7 F7 H7 ⟨M4, n4, e4, q7⟩ e7 o7 r7 => ?_⟩
      subst e4
      obtain ⟨_, ys, hy, ry⟩ := o7.mt Dl _ up_same
      refine ⟨ys, hy, by rw [ry.length, sizeLine_eq]; omega, fin F7 M4 (acc ++ [y]) _ e7 n4 ?_ q7⟩
      have := o7.set (o := .lst (ys ++ [v])) (d' := .lst (acc ++ [y])) up_same ⟨_, upd_same, ry.append (.cons r7 .nil)⟩
      rwa [up_up] at this
    | false =>
      obtain ⟨M4, n4, e4, q7⟩ := q5.2 rfl
      subst e4
      exact iteF (fin F5 M4 acc H5 (Same.refl _) n4 o5 q7)
  · have e : i = ds.length := by omega
    subst e
    exact .inl ⟨w.stops H2 (e2.trans o2.ex), k _ _ _ _ _ (hd acc M' Dl q hn) (e1.trans e2) o2 (.adr Dl)⟩
theorem ex_lcM {own : List (Str × Nat)} (hc : X.calm = true) (h : IX X J tg iter ρ M (LcWM X J scope (own.map (·.2)) tg ifs elt ρ P)) (hN : X.N.Nodup := by rfl) (ok : blkC X.N X.env.scope scope own = true := by rfl) (hs : ∀ x, foldedSetIterable iter X.env x = pure x := by intro _; rfl) :
    EX X J (.ListComp elt [⟨tg, iter, ifs, 0⟩] scope pos) ρ M P :=
  ex_of (pe_lcA hc hN (blkOk_by ok) hs) fun F σ H Q st k => lc_goM st k h
theorem g1_lcM {y : Str} {py : Pos} {spos : Pos} {own : List (Str × Nat)} (i : Nat) (hc : X.calm = true) (h : IX X J tg iter ρ M (LcWM X J scope (own.map (·.2)) tg ifs elt ρ fun d M1 => B.nx (put ρ i d) M1)) (hN : X.N.Nodup := by rfl) (hy : X.N[i]? = some y := by rfl) (hyl : X.env.scope.names.lookup y = some .local := by rfl)
    (hsw : swapsWith (.ListComp elt [⟨tg, iter, ifs, 0⟩] scope pos) (some (.Name y py)) spos.line X.env = pure true := by rfl) (ok : blkC X.N X.env.scope scope own = true := by rfl) (hs : ∀ x, foldedSetIterable iter X.env x = pure x := by intro _; rfl) :
    G1 X J (.Assign [.Name y py] (.ListComp elt [⟨tg, iter, ifs, 0⟩] scope pos) spos) ρ M B :=
  g1_of (ps_setLc hc hN hy hyl hsw pi_any (blkOk_by ok) (fun s H C cl fp => ⟨fun pins s' σ H' v u Q I r ⟨g, h, q⟩ => (h s H C cl fp).run pins s' σ H' v u Q I r q⟩)
    (fun s H C cl fp => ⟨fun pins s' σ H' Q I ⟨t, h, q⟩ => (h s H C cl fp).run pins s' σ H' Q I q⟩) (fun s H C cl fp => ⟨fun pins s' σ H' Q I ⟨t, h, q⟩ => (h s H C cl fp).run pins s' σ H' Q I q⟩) hs)
    fun F σ H E st k => lc_goM st (P := fun d M1 => B.nx (put ρ i d) M1) (fun d v M' F' H' q e o r => k.nx F' _ H' _ M' q e ((st.en.mono e).put i r) o) h
/-- the pure one -/
theorem lcIM {vs : List Nat} {ds : List D} {M1 : Mem} (g : Nat → D) (t : Nat → Bool)
    (h : ∀ i d acc Dl, ds[i]? = some d → i < ds.length → M1 Dl = none → AsB X scope vs tg d (cuts ρ vs) fun ρ2 => TXb X J scope ifs ρ2 (up M1 Dl (.lst acc)) fun tb M2 => tb = t i ∧ M2 = up M1 Dl (.lst acc) ∧ (t i = true → EXb X J scope elt ρ2 M2 fun y M3 => y = g i ∧ M3 = up M1 Dl (.lst acc)))
    (hl : ds.length ≤ 1000000) (k : ∀ Dl, M1 Dl = none → P (.adr Dl) (up M1 Dl (.lst (lcR ds.length t g)))) : LcWM X J scope vs tg ifs elt ρ P ds M1 := by
  refine ⟨fun i acc M' => M' = M1 ∧ acc = lcR i t g, ⟨rfl, rfl⟩, ?_, fun acc M' Dl q hn => by obtain ⟨rfl, rfl⟩ := q; exact k Dl hn⟩
  rintro i d acc M' Dl hd ⟨rfl, rfl⟩ hD
  have hi : i < ds.length := by
    by_cases hi : i < ds.length
    · exact hi
    · rw [List.getElem?_eq_none (by omega)] at hd; cases hd
  refine ⟨by have := lcR_len (n := i) (t := t) (g := g); omega, ?_⟩
  obtain ⟨gg, h1, h2⟩ := h i d (lcR i t g) Dl hd hi hD
  refine ⟨gg, h1, fun F M v σ H Q o r en kk => h2 F M v σ H Q o r en fun σ' ρ' q en' w => kk σ' ρ' ?_ en' w⟩
  obtain ⟨tt, h3, h4⟩ := q
  refine ⟨tt, h3, fun F σ H Q st kb => h4 F σ H Q st fun tb M2 F' H' q e o => kb tb M2 F' H' ?_ e o⟩
  obtain ⟨rfl, rfl, q⟩ := q
  refine ⟨fun ht => ?_, fun ht => ⟨M', hD, rfl, rfl, by rw [lcR_succ, ht]; simp⟩⟩
  intro s H C cl fp
  exact (q ht s H C cl fp).imp fun y M3 hy => ⟨M', hD, hy.2, rfl, by rw [lcR_succ, ht, hy.1]; rfl⟩
/-! ### a variable's list changes no more -/
theorem En.frz : ∀ {σ : St} {ρ : DEnv} {i : Nat} {q : Addr} {d : D}, En K F σ ρ → DX.look ρ i = some (.adr q) → Rp K F (.ref q) d → En K F σ (DX.put ρ i d)
  | _, _, i, _, _, .nil, e, _ => by simp [DX.look] at e
  | _, _, 0, q, d, .cons h r, e, rq => .cons (fun x z => by
    obtain ⟨y, a, b⟩ := h (.adr q) e
    cases z
    cases b
    exact ⟨_, a, rq⟩) r
  | _, _, i + 1, q, d, .cons h r, e, rq => .cons h (En.frz r e rq)
theorem gx_frzv {sts : List Stmt} {p : Addr} {ds : List D} {M0 : Mem} (i : Nat) (hi : DX.look ρ i = some (.adr p)) (hn : M0 p = none) (h : GX X J sts (DX.put ρ i (.lst ds)) M0 B) : GX X J sts ρ (up M0 p (.lst ds)) B :=
  ⟨fun pins s σ H E I ⟨F, st, k⟩ => by
    obtain ⟨_, ys, hy, ry⟩ := st.ok.mt p _ up_same
    obtain ⟨s1, o4⟩ := st.ok.freeze up_same hy
    rw [rm_up hn] at o4
    exact h.run pins s σ H E I ⟨_, ⟨(st.en.mono s1).frz hi (.lst upd_same (ry.mono s1)), o4, J.mono _ _ s1 st.gh⟩, ⟨fun F' σ' H' ρ' M' q z1 z2 z3 => k.nx F' σ' H' ρ' M' q (s1.trans z1) z2 z3, k.rt.to s1, fun F' σ' H' ρ' M' q z1 z2 z3 => k.bk F' σ' H' ρ' M' q (s1.trans z1) z2 z3, fun F' σ' H' ρ' M' q z1 z2 z3 => k.ct F' σ' H' ρ' M' q (s1.trans z1) z2 z3⟩⟩⟩
/-! ### all([..]) -/
theorem cd_allE {d : D} {ds : List D} {bs : List Bool} (hc : X.calm = true) (s : Sl M d ds) (e : ds = bs.map D.bl) (q : P (.bl (bs.all id)) M) : CD X (.builtin "all") [d] M P := by
  subst e; exact cd_all hc s q
theorem cd_anyE {d : D} {ds : List D} {bs : List Bool} (hc : X.calm = true) (s : Sl M d ds) (e : ds = bs.map D.bl) (q : P (.bl (bs.any id)) M) : CD X (.builtin "any") [d] M P := by
  subst e; exact cd_any hc s q
theorem lcR_bls {n : Nat} {t : Nat → Bool} {g : Nat → Bool} : lcR n t (fun i => D.bl (g i)) = (((List.range n).filter t).map g).map D.bl := by
  unfold lcR; rw [List.map_map]; rfl
end
end DX
/-! l.index(int) -/
namespace DX
open PySem PySem.Spec L2
section
variable {X : Cx} {J : Gh} {M : Mem} {P : D → Mem → Prop} {ρ : DEnv} {o e : Expr} {apos cpos : Pos} {K : PySem.W.Frag} {F : Hp}
theorem flatI : ∀ zs : List Int, (zs.map V.int).all flatV = true
  | [] => rfl
  | y :: zs => by rw [List.map_cons, List.all_cons, flatI zs]; rfl
/-- l.index(i) of a list of ints -/
theorem ex_lindexI (h : EX X J o ρ M fun d M1 => ∃ zs : List Int, d = .lst (zs.map D.int) ∧ AX X J [e] ρ M1 fun ys M2 => ∃ y, ys = [.int y] ∧ y ∈ zs ∧ P (.int ((zs.idxOf y : Nat) : Int)) M2)
    (hbase : attributeBase o "index" X.env (eval o X.env) = eval o X.env := by rfl)
    (few : ((backTo cpos (starEach [e] X.env)).all (fun x => !x.1) && (backToKw cpos (keywordEach [] X.env)).all (fun x => x.1.isSome) && decide ([e].length + ([] : List Keyword).length + (if ([] : List Keyword).isEmpty then 0 else 1) < 30)) = true := by rfl)
    (line : (apos.endLine == cpos.line) = true := by rfl) (hst : starEach [e] X.env = (false, eval e X.env) :: starEach [] X.env := by rfl) (hpl : (backTo cpos (starEach [] X.env)).any (·.1) = false := by rfl) :
    EX X J (.Call (.Attribute o "index" apos) [e] [] cpos) ρ M P :=
  ex_of (pe_bm PySem.F.plainAttrs_list PySem.F.slot_list_index PySem.F.type_list_index mt_index pe_any pa_any hbase few line hst hpl) fun F σ H Q st k => h.go st fun d v M1 F1 H1 q1 e1 o1 r1 => by
    obtain ⟨zs, rfl, q2⟩ := q1
    cases r1 with
    | lst h1 rs =>
      refine ⟨tyV_lst (o1.ex _ _ h1), q2.go (st.to e1 o1) fun ys vs M2 F2 H2 q3 e2 o2 r2 => ?_⟩
      obtain ⟨y, rfl, hy, q3⟩ := q3
      cases r2 with
      | cons r2 r3 =>
        cases r3
        cases r2
        obtain rfl := rs.ints
        have hlt := List.idxOf_lt_length_of_mem hy
        refine ⟨_, zs.map V.int, .int y, zs.idxOf y, .int y, rfl, rfl, SqL.of (o2.ex _ _ (e2 _ _ h1)), rfl, flatI _, ?_, by simp [eqV], fun m z' hm hz => ?_, k _ _ _ _ _ q3 (e1.trans e2) o2 (.int _)⟩
        · rw [List.getElem?_map, List.getElem?_eq_getElem hlt, List.getElem_idxOf]; rfl
        · rw [List.getElem?_map, List.getElem?_eq_getElem (by omega)] at hz
          cases hz
          have hne := List.not_of_lt_findIdx (p := fun x => x == y) hm
          simpa [eqV] using hne
theorem od_isnotB {x y : Bool} (p : P (.bl (!decide (x = y))) M) : OD X (compareOp .IsNot) (.bl x) (.bl y) M P :=
  ⟨_, op_isnot_bl, fun F H v u Q o rx ry k => by
    cases rx; cases ry
    exact ⟨x, y, rfl, rfl, k.here p o (.bl _)⟩⟩
end
end DX
/-! operations on data, each a plain function; what the program's operation gives is what the function gives -/
namespace DX
open PySem PySem.Spec L2 SX

noncomputable section
open Classical in
def chk {α : Type} (p : Prop) (x : α) : Option α := if p then some x else none
theorem chk_inv {α : Type} {p : Prop} {x y : α} (h : chk p x = some y) : p ∧ x = y := by
  unfold chk at h
  split at h
  · exact ⟨by assumption, Option.some.inj h⟩
  · cases h
theorem chk_pos {α : Type} {p : Prop} {x : α} (h : p) : chk p x = some x := if_pos h
theorem bi {α β : Type} {o : Option α} {f : α → Option β} {r : β} {C : Prop} (h : o.bind f = some r) (k : ∀ v, o = some v → f v = some r → C) : C := by
  cases o with
  | none => cases h
  | some v => exact k v rfl h
theorem so {α : Type} {a b : α} (h : some a = some b) : a = b := Option.some.inj h
theorem iT {α : Type} {c : Bool} {a b r : α} (q : c = true) (h : (if c = true then a else b) = r) : a = r := by rwa [if_pos q] at h
theorem iF {α : Type} {c : Bool} {a b r : α} (q : c = false) (h : (if c = true then a else b) = r) : b = r := by rwa [if_neg (by rw [q]; decide)] at h

def frzD : D → Bool
  | .lst _ => true
  | .ins _ _ => true
  | .dct _ => true
  | _ => false
/-- x, as it stands in a name, is seen as d -/
inductive Vw (M : Mem) : D → D → Prop
  | id {d : D} : Vw M d d
  | ad {p : Addr} {d : D} : M p = some d → frzD d = true → Vw M (.adr p) d
section
variable {X : Cx} {J : Gh} {e a b c o : Expr} {es : List Expr} {ρ ρ' : DEnv} {M M' : Mem} {F F' H H' : Hp} {σ : L2.St} {B : Bd} {K : PySem.W.Frag} {pos p apos cpos : Pos} {x y dx dy z : D} {P : D → Mem → Prop} {t : Bool}
theorem Vw.sl {ds : List D} (v : Vw M x (.lst ds)) : Sl M x ds := by
  cases v with
  | id => exact .lst
  | ad h hf => exact .adr h
theorem Vw.sq {ds : List D} (v : Vw M x (.lst ds)) : Sq M x ds := v.sl.sq
theorem Vw.rtup {ds : List D} {v : V} (w : Vw M x (.tup ds)) (o : Ok K F M H) (r : Rp K F v x) : Rp K F v (.tup ds) := by
  cases w with
  | id => exact r
  | ad h hf => exact (o.mt _ _ h).2.elim
theorem Vw.int {i : Int} (w : Vw M x (.int i)) (o : Ok K F M H) : x = .int i := by
  cases w with
  | id => rfl
  | ad h hf => exact (o.mt _ _ h).2.elim
theorem Vw.str {i : Str} (w : Vw M x (.str i)) (o : Ok K F M H) : x = .str i := by
  cases w with
  | id => rfl
  | ad h hf => exact (o.mt _ _ h).2.elim
/-- a list, a tuple, as lists of V -/
theorem Vw.seq {ds : List D} {v : V} (w : Vw M x z) (hz : z = .lst ds ∨ z = .tup ds) (o : Ok K F M H) (r : Rp K F v x) : ∃ p xs, v = .ref p ∧ (SqL K H p xs ∨ SqT K H p xs) ∧ Rps K F xs ds := by
  rcases hz with rfl | rfl
  · exact w.sq.get o r
  · have r := w.rtup o r
    cases r with
    | tup h r => exact ⟨_, _, rfl, .inr (same_t o.ex h), r⟩
/-- plain data but in what changes -/
def imm : D → Bool
  | .lst _ => false
  | .ins _ _ => false
  | .dct _ => false
  | .tbl _ => false
  | _ => true
theorem Vw.rp {v : V} (w : Vw M x z) (hz : imm z = true) (o : Ok K F M H) (r : Rp K F v x) : Rp K F v z := by
  cases w with
  | id => exact r
  | ad h hf =>
    have := (o.mt _ _ h).2
    cases z <;> first | exact this.elim | cases hz

/-! ### operators -/
theorem od_by {f : Value → Value → Sem Value} (hx : imm dx = true) (hy : imm dy = true) (vx : Vw M x dx) (vy : Vw M y dy) (h : OD X f dx dy M P) : OD X f x y M P := by
  obtain ⟨r, h1, h2⟩ := h
  exact ⟨r, h1, fun F H v u Q o rx ry k => h2 F H v u Q o (vx.rp hx o rx) (vy.rp hy o ry) k⟩
def dAdd : D → D → Option D
  | .int i, .int j => some (.int (i + j))
  | .str a, .str b => chk (a.length + b.length ≤ 1000000) (.str (a ++ b))
  | .lst a, .lst b => chk (a.length + b.length ≤ 1000000) (.lst (a ++ b))
  | .tup a, .tup b => chk (a.length + b.length ≤ 1000000) (.tup (a ++ b))
  | _, _ => none
theorem od_dAdd (vx : Vw M x dx) (vy : Vw M y dy) (h : dAdd dx dy = some z) (p : P z M) : OD X (binaryOp .Add) x y M P := by
  unfold dAdd at h
  split at h
  · cases h; exact od_by rfl rfl vx vy (od_add p)
  · obtain ⟨h1, rfl⟩ := chk_inv h; exact od_by rfl rfl vx vy (od_addS h1 p)
  · obtain ⟨h1, rfl⟩ := chk_inv h; exact od_addL vx.sl vy.sl h1 p
  · obtain ⟨h1, rfl⟩ := chk_inv h; exact od_by rfl rfl vx vy (od_addT h1 p)
  · cases h
/-- the same, of lists, the new one may change -/
def lAdd : D → D → Option (List D)
  | .lst a, .lst b => chk (a.length + b.length ≤ 1000000) (a ++ b)
  | _, _ => none
theorem od_lAdd {l : List D} (vx : Vw M x dx) (vy : Vw M y dy) (h : lAdd dx dy = some l) (p : ∀ q, M q = none → P (.adr q) (up M q (.lst l))) : OD X (binaryOp .Add) x y M P := by
  unfold lAdd at h
  split at h
  · obtain ⟨h1, rfl⟩ := chk_inv h; exact od_addLM vx.sl vy.sl h1 p
  · cases h
def dSub : D → D → Option D
  | .int i, .int j => some (.int (i - j))
  | _, _ => none
theorem od_dSub (vx : Vw M x dx) (vy : Vw M y dy) (h : dSub dx dy = some z) (p : P z M) : OD X (binaryOp .Sub) x y M P := by
  unfold dSub at h
  split at h
  · cases h; exact od_by rfl rfl vx vy (od_sub p)
  · cases h
def dMul : D → D → Option D
  | .int i, .int j => chk (CMul i j) (.int (i * j))
  | .str a, .int n => chk (a.length ≤ 1000 ∧ -(2 ^ 62) ≤ n ∧ n ≤ 10000) (.str (Txt.mul a n))
  | .lst a, .int n => chk ((-(2 ^ 62) ≤ n ∧ n < 2 ^ 62) ∧ a.length * n.toNat ≤ 1000000) (.lst (List.replicate n.toNat a).flatten)
  | .tup a, .int n => chk (a ≠ [] ∧ 2 ≤ n ∧ n ≤ 1000 ∧ a.length ≤ 1000) (.tup (List.replicate n.toNat a).flatten)
  | _, _ => none
theorem od_dMul (vx : Vw M x dx) (vy : Vw M y dy) (h : dMul dx dy = some z) (p : P z M) : OD X (binaryOp .Mult) x y M P := by
  unfold dMul at h
  split at h
  · obtain ⟨h1, rfl⟩ := chk_inv h; exact od_by rfl rfl vx vy (od_mul h1 p)
  · obtain ⟨h1, rfl⟩ := chk_inv h
    refine od_by rfl rfl vx vy ⟨_, op_mul_str, fun F H v u Q o rx ry k => ?_⟩
    cases rx; cases ry
    exact ⟨_, _, rfl, rfl, h1.1, h1.2.1, h1.2.2, k.here p o (.str _)⟩
  · rename_i a n
    obtain ⟨h1, rfl⟩ := chk_inv h
    obtain ⟨r, g1, g2⟩ := od_mulL (X := X) vx.sl h1.1 h1.2 p
    exact ⟨r, g1, fun F H v u Q o rx ry k => g2 F H v u Q o rx (vy.rp rfl o ry) k⟩
  · obtain ⟨h1, rfl⟩ := chk_inv h
    refine od_by rfl rfl vx vy ⟨_, op_repT, fun F H v u Q o rx ry k => ?_⟩
    cases ry
    cases rx with
    | @tup a xs _ g1 r1 =>
    refine ⟨a, _, xs, rfl, rfl, same_t o.ex g1, fun e => ?_, h1.2.1, h1.2.2.1, by rw [r1.length]; exact h1.2.2.2, fun q hq => k _ _ _ _ _ p (o.fixSame hq) (o.fix hq) (.tup (SqT.of upd_same) ((r1.rep _).mono (o.fixSame hq)))⟩
    subst e
    cases r1
    exact h1.1 rfl
  · cases h
def lMul : D → D → Option (List D)
  | .lst a, .int n => chk ((-(2 ^ 62) ≤ n ∧ n < 2 ^ 62) ∧ a.length * n.toNat ≤ 1000000) (List.replicate n.toNat a).flatten
  | _, _ => none
theorem od_lMul {l : List D} (vx : Vw M x dx) (vy : Vw M y dy) (h : lMul dx dy = some l) (p : ∀ q, M q = none → P (.adr q) (up M q (.lst l))) : OD X (binaryOp .Mult) x y M P := by
  unfold lMul at h
  split at h
  · obtain ⟨h1, rfl⟩ := chk_inv h
    obtain ⟨r, g1, g2⟩ := od_mulLM (X := X) vx.sl h1.1 h1.2 p
    exact ⟨r, g1, fun F H v u Q o rx ry k => g2 F H v u Q o rx (vy.rp rfl o ry) k⟩
  · cases h
def dFdiv : D → D → Option D
  | .int i, .int j => chk (CDiv i j) (.int (i / j))
  | _, _ => none
theorem od_dFdiv (vx : Vw M x dx) (vy : Vw M y dy) (h : dFdiv dx dy = some z) (p : P z M) : OD X (binaryOp .FloorDiv) x y M P := by
  unfold dFdiv at h
  split at h
  · obtain ⟨h1, rfl⟩ := chk_inv h; exact od_by rfl rfl vx vy (od_fdiv h1 p)
  · cases h
def dMod : D → D → Option D
  | .int i, .int j => chk (0 < j) (.int (i % j))
  | _, _ => none
theorem od_dMod (vx : Vw M x dx) (vy : Vw M y dy) (h : dMod dx dy = some z) (p : P z M) : OD X (binaryOp .Mod) x y M P := by
  unfold dMod at h
  split at h
  · obtain ⟨h1, rfl⟩ := chk_inv h; exact od_by rfl rfl vx vy (od_mod h1 p)
  · cases h
def dPow : D → D → Option D
  | .int i, .int j => chk (CPow i j) (.int (i ^ j.toNat))
  | _, _ => none
theorem od_dPow (vx : Vw M x dx) (vy : Vw M y dy) (h : dPow dx dy = some z) (p : P z M) : OD X (binaryOp .Pow) x y M P := by
  unfold dPow at h
  split at h
  · obtain ⟨h1, rfl⟩ := chk_inv h; exact od_by rfl rfl vx vy (od_pow h1 p)
  · cases h
def dShl : D → D → Option D
  | .int i, .int j => chk (CPow i j) (.int (i * 2 ^ j.toNat))
  | _, _ => none
theorem od_dShl (vx : Vw M x dx) (vy : Vw M y dy) (h : dShl dx dy = some z) (p : P z M) : OD X (binaryOp .LShift) x y M P := by
  unfold dShl at h
  split at h
  · obtain ⟨h1, rfl⟩ := chk_inv h; exact od_by rfl rfl vx vy (od_shl h1 p)
  · cases h
def dShr : D → D → Option D
  | .int i, .int j => chk (0 ≤ j) (.int (i / 2 ^ j.toNat))
  | _, _ => none
theorem od_dShr (vx : Vw M x dx) (vy : Vw M y dy) (h : dShr dx dy = some z) (p : P z M) : OD X (binaryOp .RShift) x y M P := by
  unfold dShr at h
  split at h
  · obtain ⟨h1, rfl⟩ := chk_inv h; exact od_by rfl rfl vx vy (od_shr h1 p)
  · cases h
def dBand : D → D → Option D
  | .int i, .int j => some (.int (Builtin.bitAnd i j))
  | _, _ => none
theorem od_dBand (vx : Vw M x dx) (vy : Vw M y dy) (h : dBand dx dy = some z) (p : P z M) : OD X (binaryOp .BitAnd) x y M P := by
  unfold dBand at h
  split at h
  · cases h; exact od_by rfl rfl vx vy (od_and p)
  · cases h
def dBor : D → D → Option D
  | .int i, .int j => some (.int (Builtin.bitOr i j))
  | _, _ => none
theorem od_dBor (vx : Vw M x dx) (vy : Vw M y dy) (h : dBor dx dy = some z) (p : P z M) : OD X (binaryOp .BitOr) x y M P := by
  unfold dBor at h
  split at h
  · cases h; exact od_by rfl rfl vx vy (od_int0 (g' := fun i j => .int (Builtin.bitOr i j)) op_or (fun F => .int _) p)
  · cases h
def dBxor : D → D → Option D
  | .int i, .int j => some (.int (Builtin.bitXor i j))
  | _, _ => none
theorem od_dBxor (vx : Vw M x dx) (vy : Vw M y dy) (h : dBxor dx dy = some z) (p : P z M) : OD X (binaryOp .BitXor) x y M P := by
  unfold dBxor at h
  split at h
  · cases h; exact od_by rfl rfl vx vy (od_xor p)
  · cases h
def dNeg : D → Option D
  | .int i => some (.int (-i))
  | _ => none
theorem ex_dNeg (h : EX X J a ρ M fun x M1 => ∃ dx z, Vw M1 x dx ∧ dNeg dx = some z ∧ P z M1) : EX X J (.UnaryOp .USub a pos) ρ M P :=
  ex_of (pe_un un_neg pe_any) fun F σ H Q st k => h.go st fun d v M1 F1 H1 p e1 o1 r1 => by
    obtain ⟨dx, z, w, g, p⟩ := p
    unfold dNeg at g
    split at g
    · cases g
      have r2 := w.rp rfl o1 r1
      cases r2
      exact ⟨_, rfl, k _ _ _ _ _ p e1 o1 (.int _)⟩
    · cases g
def dInv : D → Option D
  | .int i => some (.int (Builtin.bitNot i))
  | _ => none
theorem ex_dInv (h : EX X J a ρ M fun x M1 => ∃ dx z, Vw M1 x dx ∧ dInv dx = some z ∧ P z M1) : EX X J (.UnaryOp .Invert a pos) ρ M P :=
  ex_of (pe_un un_inv pe_any) fun F σ H Q st k => h.go st fun d v M1 F1 H1 p e1 o1 r1 => by
    obtain ⟨dx, z, w, g, p⟩ := p
    unfold dInv at g
    split at g
    · cases g
      have r2 := w.rp rfl o1 r1
      cases r2
      exact ⟨_, rfl, k _ _ _ _ _ p e1 o1 (.int _)⟩
    · cases g
/-! ### comparisons -/
def cLt : D → D → Option Bool
  | .int i, .int j => some (decide (i < j))
  | _, _ => none
def cLe : D → D → Option Bool
  | .int i, .int j => some (decide (i ≤ j))
  | _, _ => none
def cGt : D → D → Option Bool
  | .int i, .int j => some (decide (j < i))
  | _, _ => none
def cGe : D → D → Option Bool
  | .int i, .int j => some (decide (j ≤ i))
  | _, _ => none
theorem od_cLt (vx : Vw M x dx) (vy : Vw M y dy) (h : cLt dx dy = some t) (p : P (.bl t) M) : OD X (compareOp .Lt) x y M P := by
  unfold cLt at h
  split at h
  · cases h; exact od_by rfl rfl vx vy (od_lt p)
  · cases h
theorem od_cLe (vx : Vw M x dx) (vy : Vw M y dy) (h : cLe dx dy = some t) (p : P (.bl t) M) : OD X (compareOp .LtE) x y M P := by
  unfold cLe at h
  split at h
  · cases h; exact od_by rfl rfl vx vy (od_le p)
  · cases h
theorem od_cGt (vx : Vw M x dx) (vy : Vw M y dy) (h : cGt dx dy = some t) (p : P (.bl t) M) : OD X (compareOp .Gt) x y M P := by
  unfold cGt at h
  split at h
  · cases h; exact od_by rfl rfl vx vy (od_gt p)
  · cases h
theorem od_cGe (vx : Vw M x dx) (vy : Vw M y dy) (h : cGe dx dy = some t) (p : P (.bl t) M) : OD X (compareOp .GtE) x y M P := by
  unfold cGe at h
  split at h
  · cases h; exact od_by rfl rfl vx vy (od_ge p)
  · cases h
/-- == of data; a list that changes against data by its content -/
def isLst : D → Bool
  | .lst _ => true
  | _ => false
/-- lists of ints of any size against [] -/
def intsB : List D → Bool
  | [] => true
  | .int _ :: ds => intsB ds
  | _ => false
def nilB : D → D → Bool
  | .lst ds, .lst [] => intsB ds
  | _, _ => false
def empB : D → Bool
  | .lst ds => ds.isEmpty
  | _ => false
theorem intsB_eq : ∀ {ds : List D}, intsB ds = true → ∃ ns : List Int, ds = ns.map D.int
  | [], _ => ⟨[], rfl⟩
  | .int i :: ds, h => by
    obtain ⟨ns, e⟩ := intsB_eq (ds := ds) h
    exact ⟨i :: ns, by rw [e]; rfl⟩
theorem intsB_map : ∀ ns : List Int, intsB (ns.map D.int) = true
  | [] => rfl
  | n :: ns => intsB_map ns
/-- lists of unlike lengths; a tuple against the empty one -/
def lenB : D → D → Bool
  | .lst ds, .lst es => ds.length != es.length
  | .tup (_ :: _), .tup [] => true
  | _, _ => false
def strsL : D → Option (List Str)
  | .lst ds => ds.mapM fun d => match d with
    | .str z => some z
    | _ => none
  | _ => none
theorem strsL_eq {d : D} {xs : List Str} (h : strsL d = some xs) : d = .lst (xs.map D.str) := by
  have main : ∀ (ds : List D) (xs : List Str), (ds.mapM fun d => match d with | .str z => some z | _ => none) = some xs → ds = xs.map D.str := by
    intro ds
    induction ds with
    | nil => intro xs h; cases h; rfl
    | cons d ds ih =>
      intro xs h
      rw [List.mapM_cons] at h
      obtain ⟨z, h1, h2⟩ := Option.bind_eq_some_iff.mp h
      obtain ⟨zs, h3, h4⟩ := Option.bind_eq_some_iff.mp h2
      cases h4
      rw [List.map_cons, ← ih zs h3]
      cases d <;> first | (cases h1; rfl) | cases h1
  cases d <;> first
    | (rename_i ds; exact congrArg D.lst (main ds xs h))
    | cases h
theorem strsL_map {xs : List Str} : strsL (.lst (xs.map D.str)) = some xs := by
  show ((xs.map D.str).mapM fun d => match d with | .str z => some z | _ => none) = some xs
  induction xs with
  | nil => rfl
  | cons x xs ih => rw [List.map_cons, List.mapM_cons, ih]; rfl
theorem all_eq {xs ys : List Str} (hl : xs.length = ys.length) : ((List.range xs.length).all fun j => xs.getD j Str.empty == ys.getD j Str.empty) = decide (xs = ys) := by
  by_cases h : xs = ys
  · subst h
    rw [decide_eq_true rfl, List.all_eq_true]
    intro j _
    simp
  · rw [decide_eq_false h, List.all_eq_false]
    by_cases g : ∃ j, j < xs.length ∧ xs.getD j Str.empty ≠ ys.getD j Str.empty
    · obtain ⟨j, h1, h2⟩ := g
      exact ⟨j, List.mem_range.mpr h1, by simpa using h2⟩
    · refine absurd (List.ext_getElem hl fun j h1 h2 => ?_) h
      have e : xs.getD j Str.empty = ys.getD j Str.empty := Decidable.byContradiction fun q => g ⟨j, h1, q⟩
      rw [List.getD_eq_getElem?_getD, List.getD_eq_getElem?_getD, List.getElem?_eq_getElem h1, List.getElem?_eq_getElem h2] at e
      exact e
theorem vals_strT {xs : List Str} {us : List Value} (r : Vals (xs.map V.str) us) : us.length = xs.length ∧ ∀ j (h : j < us.length), ∃ t, us[j] = .str (xs.getD j Str.empty) t := by
  induction xs generalizing us with
  | nil => cases r; exact ⟨rfl, fun j h => absurd h (Nat.not_lt_zero _)⟩
  | cons x xs ih =>
    cases r with
    | cons r1 r2 =>
      obtain ⟨t, rfl⟩ := r1
      obtain ⟨h1, h2⟩ := ih r2
      refine ⟨by simp [h1], fun j h => ?_⟩
      cases j with
      | zero => exact ⟨t, rfl⟩
      | succ j =>
        obtain ⟨t2, e⟩ := h2 j (by simpa using h)
        exact ⟨t2, by simpa using e⟩
theorem op_strsEq (hu : X.A.units + 64 < cLine) : OpR X (compareOp .Eq) (fun x y H Q => ∃ (a b : Addr) (xs ys : List Str), x = .ref a ∧ y = .ref b ∧ H a = some (.lst (xs.map V.str)) ∧ H b = some (.lst (ys.map V.str)) ∧ xs.length = ys.length ∧ Q (.bl (decide (xs = ys))) H) := by
  intro pins s σ H x y v u Q I rx ry ⟨a, b, xs, ys, e1, e2, h1, h2, hn, q⟩
  subst e1 e2
  cases (show v = Value.ref a from rx)
  cases (show u = Value.ref b from ry)
  obtain ⟨us, r1, p1, _⟩ := I.list (SqL.of h1)
  obtain ⟨ws, r2, p2, _⟩ := I.list (SqL.of h2)
  obtain ⟨l1, g1⟩ := vals_strT r1
  obtain ⟨l2, g2⟩ := vals_strT r2
  refine SeqAt.RcAt.lists (e := fun j => xs.getD j Str.empty == ys.getD j Str.empty) p1.isList p2.isList (by rw [List.size_toArray, List.size_toArray, l1, l2, hn]) (by omega) (fun j h3 h4 => ?_) _ _ _ _ ?_
  · obtain ⟨t1, e1⟩ := g1 j (by simpa using h3)
    obtain ⟨t2, e2⟩ := g2 j (by simpa using h4)
    rw [show us.toArray[j] = us[j]'(by simpa using h3) from by simp, show ws.toArray[j] = ws[j]'(by simpa using h4) from by simp, e1, e2]
    exact SeqAt.EqAt.str_str _ _ _ _
  · rw [List.size_toArray, l1, all_eq hn]
    exact ⟨.bl _, H, I, rfl, q⟩
theorem op_strsNe (hu : X.A.units + 64 < cLine) : OpR X (compareOp .NotEq) (fun x y H Q => ∃ (a b : Addr) (xs ys : List Str), x = .ref a ∧ y = .ref b ∧ H a = some (.lst (xs.map V.str)) ∧ H b = some (.lst (ys.map V.str)) ∧ xs.length = ys.length ∧ Q (.bl (!decide (xs = ys))) H) := by
  intro pins s σ H x y v u Q I rx ry ⟨a, b, xs, ys, e1, e2, h1, h2, hn, q⟩
  subst e1 e2
  cases (show v = Value.ref a from rx)
  cases (show u = Value.ref b from ry)
  obtain ⟨us, r1, p1, _⟩ := I.list (SqL.of h1)
  obtain ⟨ws, r2, p2, _⟩ := I.list (SqL.of h2)
  obtain ⟨l1, g1⟩ := vals_strT r1
  obtain ⟨l2, g2⟩ := vals_strT r2
  refine SeqAt.RcNeAt.lists (e := fun j => xs.getD j Str.empty == ys.getD j Str.empty) p1.isList p2.isList (by rw [List.size_toArray, List.size_toArray, l1, l2, hn]) (by omega) (fun j h3 h4 => ?_) _ _ _ _ ?_
  · obtain ⟨t1, e1⟩ := g1 j (by simpa using h3)
    obtain ⟨t2, e2⟩ := g2 j (by simpa using h4)
    rw [show us.toArray[j] = us[j]'(by simpa using h3) from by simp, show ws.toArray[j] = ws[j]'(by simpa using h4) from by simp, e1, e2]
    exact SeqAt.EqAt.str_str _ _ _ _
  · rw [List.size_toArray, l1, all_eq hn]
    exact ⟨.bl _, H, I, rfl, q⟩
def cEq (a b : D) : Option Bool :=
  if sc a b = true then some (sceq a b) else if nilB a b = true then some (empB a) else match chk (good a ∧ good b ∧ dep a ≤ 50 ∧ dep b ≤ 50) (eqD a b) with
    | some t => some t
    | none => if lenB a b = true then some false else match strsL a, strsL b with
      | some xs, some ys => some (decide (xs = ys))
      | _, _ => none
theorem op_lenEq (hu : X.A.units + 64 < cLine) : OpR X (compareOp .Eq) (fun x y H Q => ∃ a b xs ys, x = .ref a ∧ y = .ref b ∧ H a = some (.lst xs) ∧ H b = some (.lst ys) ∧ xs.length ≠ ys.length ∧ Q (.bl false) H) := by
  intro pins s σ H x y v u Q I rx ry ⟨a, b, xs, ys, e1, e2, h1, h2, hn, q⟩
  subst e1 e2
  cases (show v = Value.ref a from rx)
  cases (show u = Value.ref b from ry)
  obtain ⟨us, r1, p1, _⟩ := I.list (SqL.of h1)
  obtain ⟨ws, r2, p2, _⟩ := I.list (SqL.of h2)
  refine SeqAt.RcAt.lists_lengths p1.isList p2.isList ?_ (by omega) _ _ _ _ ⟨.bl false, H, I, rfl, q⟩
  rw [List.size_toArray, List.size_toArray, ← r1.length, ← r2.length]
  simpa using hn
theorem op_lenNe (hu : X.A.units + 64 < cLine) : OpR X (compareOp .NotEq) (fun x y H Q => ∃ a b xs ys, x = .ref a ∧ y = .ref b ∧ H a = some (.lst xs) ∧ H b = some (.lst ys) ∧ xs.length ≠ ys.length ∧ Q (.bl true) H) := by
  intro pins s σ H x y v u Q I rx ry ⟨a, b, xs, ys, e1, e2, h1, h2, hn, q⟩
  subst e1 e2
  cases (show v = Value.ref a from rx)
  cases (show u = Value.ref b from ry)
  obtain ⟨us, r1, p1, _⟩ := I.list (SqL.of h1)
  obtain ⟨ws, r2, p2, _⟩ := I.list (SqL.of h2)
  refine SeqAt.RcNeAt.lists_lengths p1.isList p2.isList ?_ (by omega) _ _ _ _ ⟨.bl true, H, I, rfl, q⟩
  rw [List.size_toArray, List.size_toArray, ← r1.length, ← r2.length]
  simpa using hn
theorem op_tupNilEq (hu : X.A.units + 64 < cLine) : OpR X (compareOp .Eq) (fun x y H Q => ∃ a b xs, x = .ref a ∧ y = .ref b ∧ SqT X.K H a xs ∧ SqT X.K H b [] ∧ xs ≠ [] ∧ Q (.bl false) H) := by
  intro pins s σ H x y v u Q I rx ry ⟨a, b, xs, e1, e2, h1, h2, hn, q⟩
  subst e1 e2
  cases (show v = Value.ref a from rx)
  cases (show u = Value.ref b from ry)
  obtain ⟨us, r1, p1, _⟩ := I.tuple h1
  obtain ⟨ws, r2, p2, _⟩ := I.tuple h2
  cases r2
  have hl := r1.length
  have hne : us.length ≠ 0 := fun z => hn (List.eq_nil_of_length_eq_zero (by omega))
  have key := SeqAt.RcAt.tuples (A := X.A) (e := fun _ => true) (show s.heap.IsTuple a us.toArray from p1) (show s.heap.IsTuple b ([] : List Value).toArray from p2) (by omega) (fun j h1 h2 => absurd h2 (by simp))
  rw [show ((List.range (min us.toArray.size ([] : List Value).toArray.size)).all (fun _ => true) && us.toArray.size == ([] : List Value).toArray.size) = false by simp; exact fun z => hne (by rw [z]; rfl)] at key
  exact key _ _ _ _ ⟨.bl false, H, I, rfl, q⟩
theorem op_tupNilNe (hu : X.A.units + 64 < cLine) : OpR X (compareOp .NotEq) (fun x y H Q => ∃ a b xs, x = .ref a ∧ y = .ref b ∧ SqT X.K H a xs ∧ SqT X.K H b [] ∧ xs ≠ [] ∧ Q (.bl true) H) := by
  intro pins s σ H x y v u Q I rx ry ⟨a, b, xs, e1, e2, h1, h2, hn, q⟩
  subst e1 e2
  cases (show v = Value.ref a from rx)
  cases (show u = Value.ref b from ry)
  obtain ⟨us, r1, p1, _⟩ := I.tuple h1
  obtain ⟨ws, r2, p2, _⟩ := I.tuple h2
  cases r2
  have hl := r1.length
  have hne : us.length ≠ 0 := fun z => hn (List.eq_nil_of_length_eq_zero (by omega))
  have key := SeqAt.RcNeAt.tuples (A := X.A) (e := fun _ => true) (show s.heap.IsTuple a us.toArray from p1) (show s.heap.IsTuple b ([] : List Value).toArray from p2) (by omega) (fun j h1 h2 => absurd h2 (by simp))
  rw [show (!((List.range (min us.toArray.size ([] : List Value).toArray.size)).all (fun _ => true) && us.toArray.size == ([] : List Value).toArray.size)) = true by simp; exact fun z => hne (by rw [z]; rfl)] at key
  exact key _ _ _ _ ⟨.bl true, H, I, rfl, q⟩
theorem tupnil_at {v w : V} {d : D} {ds : List D} (vx : Vw M x (.tup (d :: ds))) (vy : Vw M y (.tup [])) (o : Ok K F M H) (rx : Rp K F v x) (ry : Rp K F w y) :
    ∃ a b xs, v = .ref a ∧ w = .ref b ∧ SqT K H a xs ∧ SqT K H b [] ∧ xs ≠ [] := by
  cases vx.rp rfl o rx with
  | tup h1 k1 =>
    cases vy.rp rfl o ry with
    | tup h2 k2 =>
      cases k2
      exact ⟨_, _, _, rfl, rfl, same_t o.ex h1, same_t o.ex h2, fun z => by rw [z] at k1; cases k1⟩
theorem cEq_inv {a b : D} {t : Bool} (h : (match chk (good a ∧ good b ∧ dep a ≤ 50 ∧ dep b ≤ 50) (eqD a b) with
    | some t => some t
    | none => if lenB a b = true then some false else match strsL a, strsL b with
      | some xs, some ys => some (decide (xs = ys))
      | _, _ => none) = some t) : ((good a ∧ good b ∧ dep a ≤ 50 ∧ dep b ≤ 50) ∧ t = eqD a b) ∨ (t = false ∧ ((∃ ds es, a = .lst ds ∧ b = .lst es ∧ ds.length ≠ es.length) ∨ ∃ d ds, a = .tup (d :: ds) ∧ b = .tup [])) ∨
      ∃ xs ys : List Str, a = .lst (xs.map D.str) ∧ b = .lst (ys.map D.str) ∧ xs.length = ys.length ∧ t = decide (xs = ys) := by
  split at h
  · rename_i t' e
    cases h
    obtain ⟨g, e⟩ := chk_inv e
    exact .inl ⟨g, by rw [e]⟩
  · split at h
    · rename_i hl
      cases h
      refine .inr (.inl ⟨rfl, ?_⟩)
      unfold lenB at hl
      split at hl
      · exact .inl ⟨_, _, rfl, rfl, by simpa using hl⟩
      · exact .inr ⟨_, _, rfl, rfl⟩
      · cases hl
    · rename_i hl
      split at h
      · rename_i xs ys h1 h2
        cases h
        have e1 := strsL_eq h1
        have e2 := strsL_eq h2
        subst e1 e2
        refine .inr (.inr ⟨xs, ys, rfl, rfl, ?_, rfl⟩)
        simpa [lenB] using hl
      · cases h
theorem strs_at {v w : V} {xs ys : List Str} (vx : Vw M x (.lst (xs.map D.str))) (vy : Vw M y (.lst (ys.map D.str))) (o : Ok K F M H) (rx : Rp K F v x) (ry : Rp K F w y) :
    ∃ a b, v = .ref a ∧ w = .ref b ∧ H a = some (.lst (xs.map V.str)) ∧ H b = some (.lst (ys.map V.str)) := by
  obtain ⟨q, us, rfl, h1, r1⟩ := vx.sl.get o rx
  obtain ⟨q2, ws, rfl, h2, r2⟩ := vy.sl.get o ry
  rw [Rps.strs r1] at h1
  rw [Rps.strs r2] at h2
  exact ⟨q, q2, rfl, rfl, h1, h2⟩
theorem lenat_v {v w : V} {ds es : List D} (vx : Vw M x (.lst ds)) (vy : Vw M y (.lst es)) (o : Ok K F M H) (rx : Rp K F v x) (ry : Rp K F w y) (hn : ds.length ≠ es.length) :
    ∃ a b xs ys, v = .ref a ∧ w = .ref b ∧ H a = some (.lst xs) ∧ H b = some (.lst ys) ∧ xs.length ≠ ys.length := by
  obtain ⟨q, xs, rfl, h1, r1⟩ := vx.sl.get o rx
  obtain ⟨q2, ys, rfl, h2, r2⟩ := vy.sl.get o ry
  exact ⟨q, q2, xs, ys, rfl, rfl, h1, h2, by rw [r1.length, r2.length]; exact hn⟩
theorem nil_dp {v w : V} (h : nilB dx dy = true) (vx : Vw M x dx) (vy : Vw M y dy) (o : Ok K F M H) (rx : Rp K F v x) (ry : Rp K F w y) :
    ∃ z1, Dp K H v z1 ∧ Dp K H w (.list []) ∧ SeqAt.shaped z1 = true ∧ SeqAt.shaped (.list []) = true ∧ PyData.eqv z1 (.list []) = empB dx := by
  unfold nilB at h
  split at h
  · obtain ⟨ns, rfl⟩ := intsB_eq h
    obtain ⟨q, xs, rfl, h1, r1⟩ := vx.sl.get o rx
    obtain ⟨q2, ys, rfl, h2, r2⟩ := vy.sl.get o ry
    have e2 : ys = [] := by cases r2; rfl
    subst e2
    refine ⟨.list (ns.map PyData.int), .lst (SqL.of h1) (r1.dps o.ex (pyds_ints ns)), .lst (SqL.of h2) .nil, shaped_ints ns, shaped_ints [], ?_⟩
    cases ns with
    | nil => simp [PyData.eqv, PyData.eqvAll, empB]
    | cons n ns => simp [PyData.eqv, PyData.eqvAll, empB]
  · cases h
theorem sc_imm (h : sc dx dy = true) : imm dx = true ∧ imm dy = true := by
  cases dx <;> cases dy <;> first | exact ⟨rfl, rfl⟩ | cases h
theorem Vw.dp {v : V} (w : Vw M x dx) (g : good dx) (o : Ok K F M H) (r : Rp K F v x) : Dp K H v (pyd dx) := by
  cases w with
  | id => exact r.dp o.ex (good_py g)
  | ad h hf =>
    obtain ⟨_, hm⟩ := o.mt _ _ h
    cases dx with
    | lst ds =>
      obtain ⟨xs, h1, h2⟩ := hm
      cases r
      rw [pyd]
      exact .lst (SqL.of h1) (h2.dps o.ex (goods_py (by simpa [good] using g)))
    | _ => first | exact hm.elim | exact g.elim
theorem od_cEq (hu : X.A.units + 64 < cLine) (vx : Vw M x dx) (vy : Vw M y dy) (h : cEq dx dy = some t) (p : P (.bl t) M) : OD X (compareOp .Eq) x y M P := by
  unfold cEq at h
  split at h
  · rename_i hs
    cases h
    exact od_by (sc_imm hs).1 (sc_imm hs).2 vx vy (od_eq hs p)
  split at h
  · rename_i hs
    cases h
    refine ⟨_, op_eqD hu, fun F H v u Q o rx ry k => ?_⟩
    obtain ⟨z1, g1, g2, s1, s2, e⟩ := nil_dp hs vx vy o rx ry
    exact ⟨_, _, g1, g2, s1, s2, by rw [e]; exact k.here p o (.bl _)⟩
  rcases cEq_inv h with ⟨⟨g1, g2, d1, d2⟩, rfl⟩ | ⟨rfl, ⟨ds, es, rfl, rfl, hn⟩ | ⟨d, ds, rfl, rfl⟩⟩ | ⟨xs, ys, rfl, rfl, hn, rfl⟩
  rotate_left
  rotate_left
  rotate_left
  · refine ⟨_, op_strsEq hu, fun F H v u Q o rx ry k => ?_⟩
    obtain ⟨a, b, e1, e2, h1, h2⟩ := strs_at vx vy o rx ry
    exact ⟨a, b, xs, ys, e1, e2, h1, h2, hn, k.here p o (.bl _)⟩
  rotate_left
  · refine ⟨_, op_lenEq hu, fun F H v u Q o rx ry k => ?_⟩
    obtain ⟨a, b, xs, ys, e1, e2, h1, h2, h3⟩ := lenat_v vx vy o rx ry hn
    exact ⟨a, b, xs, ys, e1, e2, h1, h2, h3, k.here p o (.bl _)⟩
  · refine ⟨_, op_tupNilEq hu, fun F H v u Q o rx ry k => ?_⟩
    obtain ⟨a, b, xs, e1, e2, h1, h2, h3⟩ := tupnil_at vx vy o rx ry
    exact ⟨a, b, xs, e1, e2, h1, h2, h3, k.here p o (.bl _)⟩
  · exact ⟨_, op_eqD hu, fun F H v u Q o rx ry k => ⟨_, _, vx.dp g1 o rx, vy.dp g2 o ry, shaped_good g1 d1, shaped_good g2 d2, k.here p o (.bl _)⟩⟩
def cNe (a b : D) : Option Bool := (cEq a b).map (!·)
theorem od_cNe (hu : X.A.units + 64 < cLine) (vx : Vw M x dx) (vy : Vw M y dy) (h : cNe dx dy = some t) (p : P (.bl t) M) : OD X (compareOp .NotEq) x y M P := by
  unfold cNe at h
  obtain ⟨t2, h', e'⟩ := Option.map_eq_some_iff.mp h
  subst e'
  clear h
  have h := h'
  unfold cEq at h
  split at h
  · rename_i hs
    cases h
    exact od_by (sc_imm hs).1 (sc_imm hs).2 vx vy (od_ne hs p)
  split at h
  · rename_i hs
    cases h
    refine ⟨_, op_neD hu, fun F H v u Q o rx ry k => ?_⟩
    obtain ⟨z1, g1, g2, s1, s2, e⟩ := nil_dp hs vx vy o rx ry
    exact ⟨_, _, g1, g2, s1, s2, by rw [e]; exact k.here p o (.bl _)⟩
  rcases cEq_inv h with ⟨⟨g1, g2, d1, d2⟩, rfl⟩ | ⟨rfl, ⟨ds, es, rfl, rfl, hn⟩ | ⟨d, ds, rfl, rfl⟩⟩ | ⟨xs, ys, rfl, rfl, hn, rfl⟩
  rotate_left
  rotate_left
  rotate_left
  · refine ⟨_, op_strsNe hu, fun F H v u Q o rx ry k => ?_⟩
    obtain ⟨a, b, e1, e2, h1, h2⟩ := strs_at vx vy o rx ry
    exact ⟨a, b, xs, ys, e1, e2, h1, h2, hn, k.here p o (.bl _)⟩
  rotate_left
  · refine ⟨_, op_lenNe hu, fun F H v u Q o rx ry k => ?_⟩
    obtain ⟨a, b, xs, ys, e1, e2, h1, h2, h3⟩ := lenat_v vx vy o rx ry hn
    exact ⟨a, b, xs, ys, e1, e2, h1, h2, h3, k.here p o (.bl _)⟩
  · refine ⟨_, op_tupNilNe hu, fun F H v u Q o rx ry k => ?_⟩
    obtain ⟨a, b, xs, e1, e2, h1, h2, h3⟩ := tupnil_at vx vy o rx ry
    exact ⟨a, b, xs, e1, e2, h1, h2, h3, k.here p o (.bl _)⟩
  · exact ⟨_, op_neD hu, fun F H v u Q o rx ry k => ⟨_, _, vx.dp g1 o rx, vy.dp g2 o ry, shaped_good g1 d1, shaped_good g2 d2, k.here p o (.bl _)⟩⟩
/-- is, is not: with None; of bools -/
def isNonD : D → Option Bool
  | .non => some true
  | .int _ => some false
  | .bl _ => some false
  | .str _ => some false
  | .tup _ => some false
  | .lst _ => some false
  | .ins _ _ => some false
  | .dct _ => some false
  | .exn _ _ => some false
  | _ => none
def cIs : D → D → Option Bool
  | .bl a, .bl b => some (decide (a = b))
  | x, .non => isNonD x
  | _, _ => none
theorem Vw.isn {v : V} (w : Vw M x dx) (h : isNonD dx = some t) (o : Ok K F M H) (r : Rp K F v x) : decide (v = V.non) = t := by
  cases w with
  | id => cases r <;> cases h <;> rfl
  | ad q hf =>
    cases r
    have := (o.mt _ _ q).2
    cases dx <;> cases h <;> first | rfl | exact this.elim
theorem od_cIs (vx : Vw M x dx) (vy : Vw M y dy) (h : cIs dx dy = some t) (p : P (.bl t) M) : OD X (compareOp .Is) x y M P := by
  unfold cIs at h
  split at h
  · cases h; exact od_by rfl rfl vx vy (od_isB p)
  · refine ⟨_, op_isN, fun F H v u Q o rx ry k => ?_⟩
    have ry := vy.rp rfl o ry
    cases ry
    refine ⟨rfl, ?_⟩
    rw [vx.isn h o rx]
    exact k.here p o (.bl _)
  · cases h
def cIsnt (a b : D) : Option Bool := (cIs a b).map (!·)
theorem od_cIsnt (vx : Vw M x dx) (vy : Vw M y dy) (h : cIsnt dx dy = some t) (p : P (.bl t) M) : OD X (compareOp .IsNot) x y M P := by
  unfold cIsnt at h
  obtain ⟨t2, h', e'⟩ := Option.map_eq_some_iff.mp h
  subst e'
  clear h
  have h := h'
  unfold cIs at h
  split at h
  · cases h; exact od_by rfl rfl vx vy (od_isnotB p)
  · refine ⟨_, op_notN, fun F H v u Q o rx ry k => ?_⟩
    have ry := vy.rp rfl o ry
    cases ry
    refine ⟨rfl, ?_⟩
    rw [vx.isn h o rx]
    exact k.here p o (.bl _)
  · cases h
/-- flat data as values -/
def flD : D → Option V
  | .non => some .non
  | .bl b => some (.bl b)
  | .int i => some (.int i)
  | .str z => some (.str z)
  | _ => none
def flDs : List D → Option (List V)
  | [] => some []
  | d :: ds => (flD d).bind fun v => (flDs ds).map fun vs => v :: vs
theorem flD_rp {d : D} {v w : V} (h : flD d = some w) (r : Rp K F v d) : v = w := by
  cases r <;> cases h <;> rfl
theorem flDs_rps : ∀ {ds : List D} {vs ws : List V}, flDs ds = some ws → Rps K F vs ds → vs = ws
  | [], _, _, h, .nil => by cases h; rfl
  | d :: ds, _, _, h, .cons r rs => by
    rw [flDs] at h
    obtain ⟨v, h1, h⟩ := Option.bind_eq_some_iff.mp h
    obtain ⟨vs, h2, rfl⟩ := Option.map_eq_some_iff.mp h
    rw [flD_rp h1 r, flDs_rps h2 rs]
theorem flD_flat {d : D} {v : V} (h : flD d = some v) : flatV v = true := by
  cases d <;> cases h <;> rfl
theorem flDs_flat : ∀ {ds : List D} {vs : List V}, flDs ds = some vs → vs.all flatV = true
  | [], _, h => by cases h; rfl
  | d :: ds, _, h => by
    rw [flDs] at h
    obtain ⟨v, h1, h⟩ := Option.bind_eq_some_iff.mp h
    obtain ⟨vs, h2, rfl⟩ := Option.map_eq_some_iff.mp h
    rw [List.all_cons, flD_flat h1, flDs_flat h2]; rfl
theorem flDs_ints : ∀ ns : List Int, flDs (ns.map D.int) = some (ns.map V.int)
  | [] => rfl
  | n :: ns => by rw [List.map_cons, flDs, flDs_ints ns]; rfl
theorem flDs_strs : ∀ ns : List Str, flDs (ns.map D.str) = some (ns.map V.str)
  | [] => rfl
  | n :: ns => by rw [List.map_cons, flDs, flDs_strs ns]; rfl
def itemsD : D → Option (List D)
  | .lst ds => some ds
  | .tup ds => some ds
  | _ => none
theorem items_eq {d : D} {ds : List D} (h : itemsD d = some ds) : d = .lst ds ∨ d = .tup ds := by
  cases d <;> cases h
  · exact .inr rfl
  · exact .inl rfl
/-- x in c: flat x among flat items; a sign in a text; a key in a dict -/
def cIn (a c : D) : Option Bool := match a, c with
  | .str y, .str z => match y.cps.toList with
    | [n] => some (decide (n ∈ z.cps.toList))
    | _ => none
  | a, c => (flD a).bind fun v => (itemsD c).bind fun ds => (flDs ds).bind fun vs => some (inV v vs)
theorem od_cIn (vx : Vw M x dx) (vy : Vw M y dy) (h : cIn dx dy = some t) (p : P (.bl t) M) : OD X (compareOp .In) x y M P := by
  unfold cIn at h
  split at h
  · rename_i y z
    split at h
    · rename_i n e
      cases h
      have e2 : y = ⟨#[n]⟩ := by
        cases y with | mk a => simp at e; cases a; simp at e; subst e; rfl
      exact od_by rfl rfl vx vy (od_inC e2 p)
    · cases h
  · obtain ⟨v0, h1, h⟩ := Option.bind_eq_some_iff.mp h
    obtain ⟨ds, h2, h⟩ := Option.bind_eq_some_iff.mp h
    obtain ⟨vs, h3, h⟩ := Option.bind_eq_some_iff.mp h
    cases h
    refine ⟨_, op_in_seq, fun F H v u Q o rx ry k => ?_⟩
    have i1 : imm dx = true := by cases dx <;> first | rfl | cases h1
    have rx := vx.rp i1 o rx
    obtain rfl := flD_rp h1 rx
    obtain ⟨q, xs, rfl, hs, rs⟩ := vy.seq (items_eq h2) o ry
    obtain rfl := flDs_rps h3 rs
    exact ⟨q, xs, rfl, hs, flD_flat h1, flDs_flat h3, k.here p o (.bl _)⟩
def cNin (a c : D) : Option Bool := (cIn a c).map (!·)
theorem od_cNin (vx : Vw M x dx) (vy : Vw M y dy) (h : cNin dx dy = some t) (p : P (.bl t) M) : OD X (compareOp .NotIn) x y M P := by
  unfold cNin at h
  obtain ⟨t2, h', e'⟩ := Option.map_eq_some_iff.mp h
  subst e'
  clear h
  have h := h'
  unfold cIn at h
  split at h
  · rename_i y z
    split at h
    · rename_i n e
      cases h
      have e2 : y = ⟨#[n]⟩ := by
        cases y with | mk a => simp at e; cases a; simp at e; subst e; rfl
      exact od_by rfl rfl vx vy (od_notInC e2 p)
    · cases h
  · obtain ⟨v0, h1, h⟩ := Option.bind_eq_some_iff.mp h
    obtain ⟨ds, h2, h⟩ := Option.bind_eq_some_iff.mp h
    obtain ⟨vs, h3, h⟩ := Option.bind_eq_some_iff.mp h
    cases h
    refine ⟨_, op_notIn_seq, fun F H v u Q o rx ry k => ?_⟩
    have i1 : imm dx = true := by cases dx <;> first | rfl | cases h1
    have rx := vx.rp i1 o rx
    obtain rfl := flD_rp h1 rx
    obtain ⟨q, xs, rfl, hs, rs⟩ := vy.seq (items_eq h2) o ry
    obtain rfl := flDs_rps h3 rs
    exact ⟨q, xs, rfl, hs, flD_flat h1, flDs_flat h3, k.here p o (.bl _)⟩
/-! ### truth -/
def dTru : D → Option Bool
  | .non => some false
  | .bl b => some b
  | .int i => some (i != 0)
  | .str y => chk (y.length ≤ 1000000) ((y.length : Int) != 0)
  | .lst ds => some (!ds.isEmpty)
  | .tup ds => some (!ds.isEmpty)
  | _ => none
theorem rps_empty {xs : List V} {ds : List D} (r : Rps K F xs ds) : xs.isEmpty = ds.isEmpty := by cases r <;> rfl
theorem Vw.tru {v : V} (w : Vw M x dx) (h : dTru dx = some t) (o : Ok K F M H) (r : Rp K F v x) : TruV K v H t := by
  unfold dTru at h
  split at h
  · have r := w.rp rfl o r; cases r; cases h; rfl
  · have r := w.rp rfl o r; cases r; cases h; rfl
  · have r := w.rp rfl o r; cases r; cases h; rfl
  · have r := w.rp rfl o r; cases r
    obtain ⟨h1, rfl⟩ := chk_inv h
    exact ⟨by rw [sizeLine_eq]; omega, rfl⟩
  · cases h
    obtain ⟨q, xs, rfl, h1, r1⟩ := w.sl.get o r
    exact .inl ⟨xs, SqL.of h1, by rw [rps_empty r1]⟩
  · cases h
    have r := w.rp rfl o r
    cases r with
    | tup h1 r1 => exact .inr (.inl ⟨_, same_t o.ex h1, by rw [rps_empty r1]⟩)
  · cases h
theorem tx_tru {PB : Bool → Mem → Prop} (h : EX X J e ρ M fun x M1 => ∃ dx t, Vw M1 x dx ∧ dTru dx = some t ∧ PB t M1) (he : ∀ whole, isTrue e X.env whole = (do let v ← whole; standAt e.pos; holding [v] (truthy v)) := by intro _; rfl) : TX X J e ρ M PB :=
  tx_of (pt_truth pe_any he) fun F σ H Q st k => h.go st fun d v M1 F1 H1 p e1 o1 r1 => by
    obtain ⟨dx, t, w, g, p⟩ := p
    exact ⟨t, w.tru g o1 r1, k _ _ _ _ p e1 o1⟩
theorem ex_notT (h : EX X J a ρ M fun x M1 => ∃ dx t, Vw M1 x dx ∧ dTru dx = some t ∧ P (.bl (!t)) M1) : EX X J (.UnaryOp .Not a pos) ρ M P :=
  ex_of (pe_notT pe_any) fun F σ H Q st k => h.go st fun d v M1 F1 H1 p e1 o1 r1 => by
    obtain ⟨dx, t, w, g, p⟩ := p
    exact ⟨t, w.tru g o1 r1, k _ _ _ _ _ p e1 o1 (.bl _)⟩
theorem ex_andT {rest : List Expr} (h : EX X J a ρ M fun x M1 => ∃ dx t, Vw M1 x dx ∧ dTru dx = some t ∧ (t = true → EX X J (.BoolOp .And (b :: rest) pos) ρ M1 P) ∧ (t = false → P x M1)) : EX X J (.BoolOp .And (a :: b :: rest) pos) ρ M P :=
  ex_of (pe_andT pe_any pe_any) fun F σ H Q st k => h.go st fun d v M1 F1 H1 p e1 o1 r1 => by
    obtain ⟨dx, t, w, g, p⟩ := p
    refine ⟨t, w.tru g o1 r1, ?_⟩
    cases t with
    | true => exact iteT ((p.1 rfl).go (st.to e1 o1) (k.to e1))
    | false => exact iteF (k _ _ _ _ _ (p.2 rfl) e1 o1 r1)
theorem ex_orT {rest : List Expr} (h : EX X J a ρ M fun x M1 => ∃ dx t, Vw M1 x dx ∧ dTru dx = some t ∧ (t = false → EX X J (.BoolOp .Or (b :: rest) pos) ρ M1 P) ∧ (t = true → P x M1)) : EX X J (.BoolOp .Or (a :: b :: rest) pos) ρ M P :=
  ex_of (pe_orT pe_any pe_any) fun F σ H Q st k => h.go st fun d v M1 F1 H1 p e1 o1 r1 => by
    obtain ⟨dx, t, w, g, p⟩ := p
    refine ⟨t, w.tru g o1 r1, ?_⟩
    cases t with
    | true => exact iteT (k _ _ _ _ _ (p.2 rfl) e1 o1 r1)
    | false => exact iteF ((p.1 rfl).go (st.to e1 o1) (k.to e1))
/-- what is known of the end is shown once -/
theorem ex_fix (v : D) (M1 : Mem) (h : EX X J e ρ M fun d M' => d = v ∧ M' = M1) (k : P v M1) : EX X J e ρ M P := h.imp fun d M' q => by rw [q.1, q.2]; exact k
theorem tx_fix {PB : Bool → Mem → Prop} (v : Bool) (M1 : Mem) (h : TX X J e ρ M fun d M' => d = v ∧ M' = M1) (k : PB v M1) : TX X J e ρ M PB := h.imp fun d M' q => by rw [q.1, q.2]; exact k
/-! ### places and parts -/
def dIx : D → D → Option D
  | .lst ds, .int i => atI ds i
  | .tup ds, .int i => atI ds i
  | .str z, .int i => (atI z.cps.toList i).bind fun n => chk (z.length ≤ 1000000) (.str ⟨#[n]⟩)
  | _, _ => none
theorem id_dIx (vx : Vw M x dx) (vy : Vw M y dy) (h : dIx dx dy = some z) (p : P z M) : ID X x y M P := by
  unfold dIx at h
  split at h
  · rename_i ds i
    obtain ⟨r, h1, h2⟩ := id_seq (X := X) vx.sq h p
    exact ⟨r, h1, fun F H v u Q o rx ry k => h2 F H v u Q o rx (vy.rp rfl o ry) k⟩
  · rename_i ds i
    obtain ⟨r, h1, h2⟩ := id_seq (X := X) (.tup : Sq M (.tup ds) ds) h p
    exact ⟨r, h1, fun F H v u Q o rx ry k => h2 F H v u Q o (vx.rp rfl o rx) (vy.rp rfl o ry) k⟩
  · obtain ⟨n, h1, h⟩ := Option.bind_eq_some_iff.mp h
    obtain ⟨h2, rfl⟩ := chk_inv h
    obtain ⟨r, g1, g2⟩ := id_str (X := X) h2 h1 p
    exact ⟨r, g1, fun F H v u Q o rx ry k => g2 F H v u Q o (vx.rp rfl o rx) (vy.rp rfl o ry) k⟩
  · cases h
/-- a slice's end -/
def dEnd : D → Option Int
  | .int i => some i
  | _ => none
theorem ox_d {PO' : Option Int → Mem → Prop} (h : EX X J e ρ M fun x M1 => ∃ dx i, Vw M1 x dx ∧ dEnd dx = some i ∧ PO' (some i) M1) : OX X J (some e) ρ M PO' := fun F σ H Q st k => ⟨_, po_some pe_any, h.go st fun d v M1 F1 H1 p e1 o1 r1 => by
  obtain ⟨dx, i, w, g, p⟩ := p
  unfold dEnd at g
  split at g
  · cases g
    have r2 := w.rp rfl o1 r1
    cases r2
    exact ⟨_, rfl, k _ _ _ _ p e1 o1⟩
  · cases g⟩
def dCut (d : D) (l u : Option Int) : Option D := match d, l, u with
  | .lst ds, l, u => some (.lst (cutD ds l u))
  | .tup ds, l, u => some (.tup (cutD ds l u))
  | .str z, l, u => chk (z.cps.toList.length ≤ 1000000) (.str (S (cutA z.cps.toList l u)))
  | .scr ns, none, some (.ofNat k) => some (.lst ((ns.take k).map D.int))
  | _, _, _ => none
theorem sd_by {l u : Option Int} (w : Vw M x dx) (hz : imm dx = true) (h : SD X dx l u M P) : SD X x l u M P := by
  obtain ⟨r, h1, h2⟩ := h
  exact ⟨r, h1, fun F H v Q o rx k => h2 F H v Q o (w.rp hz o rx) k⟩
theorem sd_dCut {l u : Option Int} (w : Vw M x dx) (h : dCut dx l u = some z) (p : P z M) : SD X x l u M P := by
  unfold dCut at h
  split at h
  · cases h; exact sd_list w.sl p
  · cases h; exact sd_by w rfl (sd_tupA p)
  · obtain ⟨h1, rfl⟩ := chk_inv h; exact sd_by w rfl (sd_str h1 p)
  · cases h; exact sd_by w rfl (sd_scr p)
  · cases h
/-! ### built-ins -/
theorem cd_by {f : Value} (w : Vw M x dx) (hz : imm dx = true) (h : CD X f [dx] M P) : CD X f [x] M P := by
  obtain ⟨r, h1, h2⟩ := h
  exact ⟨r, h1, fun F H vs Q o rs k => by
    cases rs with
    | cons r1 rs => exact h2 F H _ Q o (.cons (w.rp hz o r1) rs) k⟩
theorem cd_by2 {f : Value} (w : Vw M x dx) (hz : imm dx = true) (w2 : Vw M y dy) (hz2 : imm dy = true) (h : CD X f [dx, dy] M P) : CD X f [x, y] M P := by
  obtain ⟨r, h1, h2⟩ := h
  exact ⟨r, h1, fun F H vs Q o rs k => by
    cases rs with
    | cons r1 rs =>
      cases rs with
      | cons r2 rs => exact h2 F H _ Q o (.cons (w.rp hz o r1) (.cons (w2.rp hz2 o r2) rs)) k⟩
def dLen : D → Option D
  | .lst ds => some (.int (ds.length : Int))
  | .tup ds => some (.int (ds.length : Int))
  | .str z => chk (z.length ≤ 1000000) (.int (z.length : Int))
  | _ => none
theorem cd_dLen (w : Vw M x dx) (h : dLen dx = some z) (p : P z M) : CD X (.builtin "len") [x] M P := by
  unfold dLen at h
  split at h
  · cases h; exact cd_len w.sq p
  · cases h; exact cd_by w rfl (cd_len .tup p)
  · obtain ⟨h1, rfl⟩ := chk_inv h; exact cd_by w rfl (cd_lenS h1 p)
  · cases h
def dAbs : D → Option D
  | .int t => some (.int (if t < 0 then -t else t))
  | _ => none
theorem cd_dAbs (w : Vw M x dx) (h : dAbs dx = some z) (p : P z M) : CD X (.builtin "abs") [x] M P := by
  unfold dAbs at h
  split at h
  · cases h; exact cd_by w rfl (cd_abs p)
  · cases h
def dInt : D → Option D
  | .int t => some (.int t)
  | .bl t => some (.int (if t = true then 1 else 0))
  | _ => none
theorem cd_dInt (w : Vw M x dx) (h : dInt dx = some z) (p : P z M) : CD X (.type "int") [x] M P := by
  unfold dInt at h
  split at h
  · cases h; exact cd_by w rfl (cd_intI p)
  · cases h; exact cd_by w rfl (cd_intB p)
  · cases h
def dStr : D → Option D
  | .int i => chk (i.natAbs.log2 < 1920) (.str (toString i))
  | _ => none
theorem cd_dStr (w : Vw M x dx) (h : dStr dx = some z) (p : P z M) : CD X (.type "str") [x] M P := by
  unfold dStr at h
  split at h
  · obtain ⟨h1, rfl⟩ := chk_inv h
    refine cd_by w rfl ⟨_, call_str_int, fun F H vs Q o r k => ?_⟩
    cases r with
    | cons r1 r => cases r; cases r1; exact ⟨_, rfl, h1, k.here p o (.str _)⟩
  · cases h
/-- list(x), tuple(x) -/
def lList : D → Option (List D)
  | .lst ds => some ds
  | .tup ds => some ds
  | .str z => chk (z.cps.toList.length ≤ 1000000) (signs z)
  | _ => none
theorem cd_lList {l : List D} (hc : X.calm = true) (w : Vw M x dx) (h : lList dx = some l) (p : P (.lst l) M) : CD X (.type "list") [x] M P := by
  unfold lList at h
  split at h
  · cases h; exact cd_list w.sq p
  · cases h; exact cd_by w rfl (cd_list .tup p)
  · obtain ⟨h1, rfl⟩ := chk_inv h; exact cd_by w rfl (cd_listS hc h1 p)
  · cases h
def lListM : D → Option (List D)
  | .lst ds => some ds
  | .tup ds => some ds
  | _ => none
theorem cd_lListM {l : List D} (w : Vw M x dx) (h : lListM dx = some l) (p : ∀ q, M q = none → P (.adr q) (up M q (.lst l))) : CD X (.type "list") [x] M P := by
  unfold lListM at h
  split at h
  · cases h; exact cd_listM w.sq p
  · cases h; exact cd_by w rfl (cd_listM .tup p)
  · cases h
theorem cd_lTuple {l : List D} (hc : X.calm = true) (w : Vw M x dx) (h : lList dx = some l) (p : P (.tup l) M) : CD X (.type "tuple") [x] M P := by
  unfold lList at h
  split at h
  · cases h; exact cd_tuple w.sl p
  · cases h; exact cd_by w rfl (cd_tupleT p)
  · obtain ⟨h1, rfl⟩ := chk_inv h; exact cd_by w rfl (cd_tupleS hc h1 p)
  · cases h
/-- lists of ints, of bools -/
def intsD : List D → Option (List Int)
  | [] => some []
  | .int i :: ds => (intsD ds).map fun l => i :: l
  | _ => none
theorem ints_eq : ∀ {ds : List D} {ns : List Int}, intsD ds = some ns → ds = ns.map D.int
  | [], _, h => by cases h; rfl
  | .int i :: ds, _, h => by
    rw [intsD] at h
    obtain ⟨l, h1, rfl⟩ := Option.map_eq_some_iff.mp h
    rw [ints_eq h1]; rfl
theorem intsD_map : ∀ ns : List Int, intsD (ns.map D.int) = some ns
  | [] => rfl
  | n :: ns => by rw [List.map_cons, intsD, intsD_map ns]; rfl
def blsD : List D → Option (List Bool)
  | [] => some []
  | .bl i :: ds => (blsD ds).map fun l => i :: l
  | _ => none
theorem bls_eq : ∀ {ds : List D} {ns : List Bool}, blsD ds = some ns → ds = ns.map D.bl
  | [], _, h => by cases h; rfl
  | .bl i :: ds, _, h => by
    rw [blsD] at h
    obtain ⟨l, h1, rfl⟩ := Option.map_eq_some_iff.mp h
    rw [bls_eq h1]; rfl
theorem blsD_map : ∀ ns : List Bool, blsD (ns.map D.bl) = some ns
  | [] => rfl
  | n :: ns => by rw [List.map_cons, blsD, blsD_map ns]; rfl
def lstD : D → Option (List D)
  | .lst ds => some ds
  | _ => none
theorem lstD_eq {d : D} {ds : List D} (h : lstD d = some ds) : d = .lst ds := by cases d <;> cases h; rfl
def maxI : List Int → Int
  | [] => 0
  | n :: ns => ns.foldl max n
def minI : List Int → Int
  | [] => 0
  | n :: ns => ns.foldl min n
theorem foldmax : ∀ (ns : List Int) (n : Int), (ns.foldl max n = n ∨ ns.foldl max n ∈ ns) ∧ n ≤ ns.foldl max n ∧ ∀ y ∈ ns, y ≤ ns.foldl max n
  | [], n => ⟨.inl rfl, Int.le_refl _, fun y hy => absurd hy List.not_mem_nil⟩
  | m :: ns, n => by
    obtain ⟨h1, h2, h3⟩ := foldmax ns (max n m)
    rw [List.foldl_cons]
    refine ⟨?_, by omega, fun y hy => ?_⟩
    · rcases h1 with h1 | h1
      · rw [h1]
        by_cases h : n ≤ m
        · right; rw [Int.max_eq_right h]; exact List.mem_cons_self
        · left; rw [Int.max_eq_left (by omega)]
      · exact .inr (List.mem_cons_of_mem _ h1)
    · rcases List.mem_cons.mp hy with rfl | hy
      · omega
      · exact h3 y hy
theorem foldmin : ∀ (ns : List Int) (n : Int), (ns.foldl min n = n ∨ ns.foldl min n ∈ ns) ∧ ns.foldl min n ≤ n ∧ ∀ y ∈ ns, ns.foldl min n ≤ y
  | [], n => ⟨.inl rfl, Int.le_refl _, fun y hy => absurd hy List.not_mem_nil⟩
  | m :: ns, n => by
    obtain ⟨h1, h2, h3⟩ := foldmin ns (min n m)
    rw [List.foldl_cons]
    refine ⟨?_, by omega, fun y hy => ?_⟩
    · rcases h1 with h1 | h1
      · rw [h1]
        by_cases h : n ≤ m
        · left; rw [Int.min_eq_left h]
        · right; rw [Int.min_eq_right (by omega)]; exact List.mem_cons_self
      · exact .inr (List.mem_cons_of_mem _ h1)
    · rcases List.mem_cons.mp hy with rfl | hy
      · omega
      · exact h3 y hy
theorem maxI_mem {ns : List Int} (h : 0 < ns.length) : maxI ns ∈ ns ∧ ∀ y ∈ ns, y ≤ maxI ns := by
  cases ns with
  | nil => cases h
  | cons n ns =>
    obtain ⟨h1, h2, h3⟩ := foldmax ns n
    refine ⟨?_, fun y hy => ?_⟩
    · rcases h1 with h1 | h1
      · show ns.foldl max n ∈ _
        rw [h1]; exact List.mem_cons_self
      · exact List.mem_cons_of_mem _ h1
    · rcases List.mem_cons.mp hy with rfl | hy
      · exact h2
      · exact h3 y hy
theorem minI_mem {ns : List Int} (h : 0 < ns.length) : minI ns ∈ ns ∧ ∀ y ∈ ns, minI ns ≤ y := by
  cases ns with
  | nil => cases h
  | cons n ns =>
    obtain ⟨h1, h2, h3⟩ := foldmin ns n
    refine ⟨?_, fun y hy => ?_⟩
    · rcases h1 with h1 | h1
      · show ns.foldl min n ∈ _
        rw [h1]; exact List.mem_cons_self
      · exact List.mem_cons_of_mem _ h1
    · rcases List.mem_cons.mp hy with rfl | hy
      · exact h2
      · exact h3 y hy
def dMax (d : D) : Option D := (lstD d).bind fun ds => (intsD ds).bind fun ns => chk (0 < ns.length) (.int (maxI ns))
def dMin (d : D) : Option D := (lstD d).bind fun ds => (intsD ds).bind fun ns => chk (0 < ns.length) (.int (minI ns))
def dSum (d : D) : Option D := (lstD d).bind fun ds => (intsD ds).bind fun ns => some (.int ns.sum)
def dAll (d : D) : Option D := (lstD d).bind fun ds => (blsD ds).bind fun ns => some (.bl (ns.all id))
def dAny (d : D) : Option D := (lstD d).bind fun ds => (blsD ds).bind fun ns => some (.bl (ns.any id))
theorem cd_dMax (hc : X.calm = true) (w : Vw M x dx) (h : dMax dx = some z) (p : P z M) : CD X (.builtin "max") [x] M P := by
  obtain ⟨ds, h1, h⟩ := Option.bind_eq_some_iff.mp h
  obtain ⟨ns, h2, h⟩ := Option.bind_eq_some_iff.mp h
  obtain ⟨h3, rfl⟩ := chk_inv h
  obtain rfl := lstD_eq h1
  refine cd_maxL hc w.sl (ints_eq h2) h3 fun m hm hb => ?_
  have q := maxI_mem h3
  have e : m = maxI ns := by have a := hb _ q.1; have b := q.2 _ hm; omega
  rw [e]; exact p
theorem cd_dMin (hc : X.calm = true) (w : Vw M x dx) (h : dMin dx = some z) (p : P z M) : CD X (.builtin "min") [x] M P := by
  obtain ⟨ds, h1, h⟩ := Option.bind_eq_some_iff.mp h
  obtain ⟨ns, h2, h⟩ := Option.bind_eq_some_iff.mp h
  obtain ⟨h3, rfl⟩ := chk_inv h
  obtain rfl := lstD_eq h1
  refine cd_minL hc w.sl (ints_eq h2) h3 fun m hm hb => ?_
  have q := minI_mem h3
  have e : m = minI ns := by have a := hb _ q.1; have b := q.2 _ hm; omega
  rw [e]; exact p
theorem cd_dSum (hc : X.calm = true) (w : Vw M x dx) (h : dSum dx = some z) (p : P z M) : CD X (.builtin "sum") [x] M P := by
  obtain ⟨ds, h1, h⟩ := Option.bind_eq_some_iff.mp h
  obtain ⟨ns, h2, h⟩ := Option.bind_eq_some_iff.mp h
  cases h
  obtain rfl := lstD_eq h1
  obtain rfl := ints_eq h2
  refine ⟨_, cr_sum hc, fun F H vs Q o r k => ?_⟩
  cases r with
  | cons g1 r =>
    cases r
    obtain ⟨a, xs, rfl, g2, r2⟩ := w.sl.get o g1
    obtain rfl := r2.ints
    exact ⟨a, ns, rfl, SqL.of g2, k.here p o (.int _)⟩
theorem cd_dAll (hc : X.calm = true) (w : Vw M x dx) (h : dAll dx = some z) (p : P z M) : CD X (.builtin "all") [x] M P := by
  obtain ⟨ds, h1, h⟩ := Option.bind_eq_some_iff.mp h
  obtain ⟨ns, h2, h⟩ := Option.bind_eq_some_iff.mp h
  cases h
  obtain rfl := lstD_eq h1
  exact cd_allE hc w.sl (bls_eq h2) p
theorem cd_dAny (hc : X.calm = true) (w : Vw M x dx) (h : dAny dx = some z) (p : P z M) : CD X (.builtin "any") [x] M P := by
  obtain ⟨ds, h1, h⟩ := Option.bind_eq_some_iff.mp h
  obtain ⟨ns, h2, h⟩ := Option.bind_eq_some_iff.mp h
  cases h
  obtain rfl := lstD_eq h1
  exact cd_anyE hc w.sl (bls_eq h2) p
def dMax2 : D → D → Option D
  | .int i, .int j => some (.int (if j > i then j else i))
  | _, _ => none
def dMin2 : D → D → Option D
  | .int i, .int j => some (.int (if j < i then j else i))
  | _, _ => none
theorem cd_dMax2 (hc : X.calm = true) (w : Vw M x dx) (w2 : Vw M y dy) (h : dMax2 dx dy = some z) (p : P z M) : CD X (.builtin "max") [x, y] M P := by
  unfold dMax2 at h
  split at h
  · cases h; exact cd_by2 w rfl w2 rfl (cd_max2 hc p)
  · cases h
theorem cd_dMin2 (hc : X.calm = true) (w : Vw M x dx) (w2 : Vw M y dy) (h : dMin2 dx dy = some z) (p : P z M) : CD X (.builtin "min") [x, y] M P := by
  unfold dMin2 at h
  split at h
  · cases h; exact cd_by2 w rfl w2 rfl (cd_min2 hc p)
  · cases h
/-- repr of data without dicts -/
def dRepr (d : D) : Option D := chk (good d ∧ wt d ≤ 16000000 ∧ dep d ≤ 50) (.str (txt d))
theorem cd_dRepr (hg : X.A.guards = some []) (hu : X.A.units + 64 < cLine) (w : Vw M x dx) (h : dRepr dx = some z) (p : P z M) : CD X (.builtin "repr") [x] M P := by
  obtain ⟨⟨h1, h2, h3⟩, rfl⟩ := chk_inv h
  obtain ⟨r, g1, g2⟩ := cd_repr (X := X) hg hu h1 h2 h3 p
  refine ⟨_, call_reprD hg hu, fun F H vs Q o rs k => ?_⟩
  cases rs with
  | cons r1 rs =>
    cases rs
    refine ⟨_, _, rfl, w.dp h1 o r1, good_show h1, ?_, ?_, ?_, k.here p o (.str _)⟩
    · exact PyData.hasDict_of_canLay _ (good_lay h1)
    · have := dep_py h1; omega
    · have := wt_py h1; rw [sizeLine_eq]; omega
/-- isinstance with a built-in class -/
def dIsi (n : String) (d : D) : Option Bool := chk (plain d = true) (isi n d)
theorem cd_dIsi {n : String} (hn : n ∈ ["int", "bool", "str", "tuple", "list", "dict"]) (w : Vw M x dx) (hi : x = dx) (h : dIsi n dx = some t) (p : P (.bl t) M) : CD X (.builtin "isinstance") [x, .ty n] M P := by
  obtain ⟨h1, rfl⟩ := chk_inv h
  subst hi
  exact cd_isi hn h1 p
end
end
end DX
/-! zip of a tuple and a list, in either order -/
namespace ZMix
open PySem PySem.Spec L2 PyProof.Rows
def SeqK : Bool → Heap → Addr → Array Value → Prop
  | true, h, a, its => h.IsTuple a its
  | false, h, a, its => h.IsList a its
def WalkK : Bool → Heap → Addr → Addr → Nat → Prop
  | true, h, it, a, i => h.IsTupleIter it a i
  | false, h, it, a, i => h.IsListIter it a i
def SqK : Bool → PySem.W.Frag → Hp → Addr → List V → Prop
  | true, K, H, a, xs => SqT K H a xs
  | false, K, H, a, xs => SqL K H a xs
def objK : Bool → Addr → Obj
  | true, a => { cls := .type "tuple_iterator", data := .fields #[.ref a, .int 0 0] }
  | false, a => { cls := .type "list_iterator", data := .fields #[.ref a, .int 0 0] }
theorem walkK_at {t : Bool} {h h' : Heap} {it a : Addr} {i : Nat} (w : WalkK t h it a i) (k : ∀ o, h.get? it = some o → h'.get? it = some o) : WalkK t h' it a i := by
  cases t with
  | true => exact Heap.IsTupleIter.at w k
  | false => exact Heap.IsListIter.at w k
theorem walkK_o {t : Bool} {h : Heap} {it a : Addr} {i : Nat} (w : WalkK t h it a i) : ∃ o, h.get? it = some o ∧ ∃ f, o.data = .fields f := by
  cases t with
  | true => obtain ⟨o, h1, _, h2⟩ := w; exact ⟨o, h1, _, h2⟩
  | false => obtain ⟨o, h1, _, h2⟩ := w; exact ⟨o, h1, _, h2⟩
theorem walkK_new {t : Bool} {h : Heap} {it a : Addr} (g : h.get? it = some (objK t a)) : WalkK t h it a 0 := by
  cases t with
  | true => exact ⟨_, g, rfl, rfl⟩
  | false => exact ⟨_, g, rfl, rfl⟩
theorem drawsK (t : Bool) {prog : Program} {w : World} {A : Around} (hh : A.handled = none) (it a : Addr) (hne : a ≠ it) (its : Array Value) :
    Draws prog w A it [it, a] its.size (fun i v => its[i]? = some v) (fun i h => WalkK t h it a i ∧ SeqK t h a its) := by
  cases t with
  | true => exact Draws.tuple hh it a hne its
  | false => exact Draws.list hh it a hne its
theorem beginsK (t : Bool) (a : Addr) (its : Array Value) : Begins (.ref a) (objK t a) fun h => SeqK t h a its := by
  cases t with
  | true => exact begins_tuple a its
  | false => exact begins_list a its
theorem sqK_inv {t : Bool} {X : Cx} {pins : List (Addr × Obj)} {σ : L2.St} {H : Hp} {s : Shared} {a : Addr} {xs : List V} (I : Inv X pins σ H s) (q : SqK t X.K H a xs) :
    ∃ its : List Value, Vals xs its ∧ SeqK t s.heap a its.toArray ∧ a < s.heap.objs.size := by
  cases t with
  | true => obtain ⟨its, rv, p, _⟩ := I.tuple q; exact ⟨its, rv, p, p.lt⟩
  | false => obtain ⟨its, rv, p, _⟩ := I.list q; exact ⟨its, rv, p.isList, p.lt⟩
theorem sqK_inj {t : Bool} {X : Cx} {pins : List (Addr × Obj)} {σ : L2.St} {H : Hp} {s : Shared} {a : Addr} {xs ys : List V} (I : Inv X pins σ H s) (q : SqK t X.K H a xs) (q2 : SqK t X.K H a ys) : xs = ys := by
  cases t with
  | true => exact I.tuple_inj q q2
  | false => exact I.list_inj q q2
/-- both walked side by side, in new pairs -/
def ItM (t u : Bool) (K : PySem.W.Frag) (a b : Addr) : It :=
  ⟨fun i H => ∃ xs ys : List V, ∃ x y : V, SqK t K H a xs ∧ SqK u K H b ys ∧ xs[i]? = some x ∧ ys[i]? = some y,
   fun i H v H' => ∃ n : Addr, ∃ x y : V, v = .ref n ∧ H n = none ∧ H' = upd H n (.tup [x, y]) ∧ (∀ xs, SqK t K H a xs → xs[i]? = some x) ∧ (∀ ys, SqK u K H b ys → ys[i]? = some y),
   fun i H => ∃ xs ys : List V, SqK t K H a xs ∧ SqK u K H b ys ∧ i ≤ xs.length ∧ i ≤ ys.length ∧ (i = xs.length ∨ i = ys.length)⟩
structure Far (z TI TO i1 i2 a b : Addr) : Prop where
  s : ZipSep2 z TI TO i1 i2 [i1, a] [i2, b]
  a1 : a ≠ i1
  b1 : b ≠ i2
  i12 : i1 ≠ i2
theorem turnM {P : Program} {w : World} {K : PySem.W.Frag} {elts : List Expr} {kk : Nat} {tpos : Pos} (t u : Bool) {a b z TI TO i1 i2 : Addr} (D : Far z TI TO i1 i2 a b) :
    Turn P w K (.Tuple elts kk tpos) (ItM t u K a b) [z, TI, TO, i1, i2] z
      (fun i h => IsZip h z TI TO .none ∧ IsTupOf2 h TI (.ref i1) (.ref i2) ∧ (∃ x y, IsTupOf2 h TO x y) ∧ WalkK t h i1 a i ∧ WalkK u h i2 b i) where
  mem := by simp
  obj := fun i h st c hc => by
    obtain ⟨hz, hT, ⟨x, y, hO⟩, w1, w2⟩ := st
    obtain ⟨o1, e1, f1, d1⟩ := walkK_o w1
    obtain ⟨o2, e2, f2, d2⟩ := walkK_o w2
    rcases (show c = z ∨ c = TI ∨ c = TO ∨ c = i1 ∨ c = i2 by simpa using hc) with q | q | q | q | q <;> rw [q]
    · exact ⟨_, hz, fun v g => nomatch g⟩
    · exact ⟨_, hT, fun v g => nomatch g⟩
    · exact ⟨_, hO, fun v g => nomatch g⟩
    · exact ⟨o1, e1, fun v g => by rw [d1] at g; cases g⟩
    · exact ⟨o2, e2, fun v g => by rw [d2] at g; cases g⟩
  keep := fun i h h' st k => by
    obtain ⟨hz, hT, ⟨x, y, hO⟩, w1, w2⟩ := st
    exact ⟨k z (by simp) _ hz, k TI (by simp) _ hT, ⟨x, y, k TO (by simp) _ hO⟩, walkK_at w1 (k i1 (by simp)), walkK_at w2 (k i2 (by simp))⟩
  item := by
    intro X hP hw hK hc i pins s σ H E I hf st hg
    subst hP hw hK
    obtain ⟨hz, hT, ⟨x0, y0, hO⟩, w1, w2⟩ := st
    obtain ⟨xs, ys, x, y, hqx, hqy, hx, hy⟩ := hg
    obtain ⟨its, rv, p, _⟩ := sqK_inv I hqx
    obtain ⟨jts, rw2, p2, _⟩ := sqK_inv I hqy
    obtain ⟨v, hv, rv1⟩ := rv.get hx
    obtain ⟨v2, hv2, rv2⟩ := rw2.get hy
    have hzl : z < s.heap.objs.size := Heap.lt_size hz
    have n1 : i < its.toArray.size := by simpa using (List.getElem?_eq_some_iff.mp hv).1
    have n2 : i < jts.toArray.size := by simpa using (List.getElem?_eq_some_iff.mp hv2).1
    have hh : X.A.in1.handled = none := I.ok.hd hc
    refine wpAny_pyNext_zipD2_item D.s (drawsK t (prog := X.prog) (w := X.w) hh i1 a D.a1 its.toArray) (drawsK u hh i2 b D.b1 jts.toArray) hz hT hO ⟨w1, p⟩ ⟨w2, p2⟩ n1 n2 fun y1 y2 h' tk g1 g2 z' O' k1 k2 hN hsz hk => ?_
    obtain rfl : v = y1 := Option.some.inj ((by simpa using hv : its.toArray[i]? = some v).symm.trans g1)
    obtain rfl : v2 = y2 := Option.some.inj ((by simpa using hv2 : jts.toArray[i]? = some v2).symm.trans g2)
    refine ⟨_, rfl, wpAny_letOwnedTupleGo_zip (s := { s with heap := h', toks := tk }) z' fun h'' z'' sb => ?_⟩
    have hN2 : h''.get? s.heap.objs.size = some { cls := .type "tuple", data := .seq #[v, v2] } := (sb.2 _ (Nat.ne_of_gt hzl)).trans hN
    have new : ObjOk X.prog X.w (upd H s.heap.objs.size (.tup [x, y])) h'' s.heap.objs.size (.tup [x, y]) :=
      ⟨by show 2 ≤ sizeLine; decide, [v, v2], .cons rv1 (.cons rv2 .nil), ⟨_, hN2, rfl, _, rfl⟩⟩
    have out : ∀ c o, c ∉ [z, TI, TO, i1, i2] → s.heap.get? c = some o → h''.get? c = some o := fun c o hb q => by
      have hb' : c ≠ z ∧ c ≠ TI ∧ c ≠ TO ∧ c ≠ i1 ∧ c ≠ i2 := by simpa using hb
      exact (sb.2 c hb'.1).trans (hk c o hb'.1 hb'.2.2.1 hb'.2.2.2.1 hb'.2.2.2.2 q)
    have I1 : Inv X pins σ (upd H s.heap.objs.size (.tup [x, y])) { s with heap := h'', toks := tk } :=
      I.turnedNew (ch := [z, TI, TO, i1, i2]) out hf (Nat.le_refl _) new
    refine ⟨.ref s.heap.objs.size, _, I1, rfl, ⟨_, x, y, rfl, I.hok.fresh (Nat.le_refl _), rfl, fun l hl => (sqK_inj I hl hqx).symm ▸ hx, fun l hl => (sqK_inj I hl hqy).symm ▸ hy⟩, ⟨z'', ?_, ⟨v, v2, ?_⟩, ?_, ?_⟩, fun c hcm => ?_⟩
    · exact (sb.2 _ D.s.TIz).trans (hk _ _ D.s.TIz D.s.TITO D.s.TIi1 D.s.TIi2 hT)
    · exact (sb.2 _ D.s.TOz).trans O'
    · exact walkK_at k1.1 fun o q => (sb.2 _ D.s.zi1.symm).trans q
    · exact walkK_at k2.1 fun o q => (sb.2 _ D.s.zi2.symm).trans q
    · have hlt : c < s.heap.objs.size := by
        obtain ⟨_, e1, _⟩ := walkK_o w1
        obtain ⟨_, e2, _⟩ := walkK_o w2
        rcases (show c = z ∨ c = TI ∨ c = TO ∨ c = i1 ∨ c = i2 by simpa using hcm) with q | q | q | q | q <;> rw [q]
        · exact hzl
        · exact Heap.lt_size hT
        · exact Heap.lt_size hO
        · exact Heap.lt_size e1
        · exact Heap.lt_size e2
      rw [upd_ne (Nat.ne_of_lt hlt)]
      exact (hf c hcm).1
  done := by
    intro X hP hw hK hc i pins s σ H E I hf st hg
    subst hP hw hK
    obtain ⟨hz, hT, ⟨x0, y0, hO⟩, w1, w2⟩ := st
    obtain ⟨xs, ys, hqx, hqy, m1, m2, m3⟩ := hg
    obtain ⟨its, rv, p, _⟩ := sqK_inv I hqx
    obtain ⟨jts, rw2, p2, _⟩ := sqK_inv I hqy
    have hl1 := rv.length
    have hl2 := rw2.length
    have hh : X.A.in1.handled = none := I.ok.hd hc
    refine wpAny_pyNext_zipD2_end D.s (drawsK t (prog := X.prog) (w := X.w) hh i1 a D.a1 its.toArray) (drawsK u hh i2 b D.b1 jts.toArray) hz hT hO ⟨w1, p⟩ ⟨w2, p2⟩ (by simp; omega) (by simp; omega) (by simp; omega) fun h' tk hk => ⟨rfl, I.turnedL (t' := tk) (ch := [z, TI, TO, i1, i2]) (fun c o hb q => ?_) hf⟩
    have hb' : c ≠ z ∧ c ≠ TI ∧ c ≠ TO ∧ c ≠ i1 ∧ c ≠ i2 := by simpa using hb
    exact hk c o hb'.1 hb'.2.2.1 hb'.2.2.2.1 hb'.2.2.2.2 q
  self := fun A i s Q E st h => wpAny_pyIter_zip st.1 h
def iZipM (t u : Bool) (K : PySem.W.Frag) (ta : TA) : TI := fun σ H R => ta σ H fun vs H1 => ∃ a b : Addr, ∃ xs ys : List V, vs = [.ref a, .ref b] ∧ SqK t K H1 a xs ∧ SqK u K H1 b ys ∧ R (ItM t u K a b) H1
theorem pi_zipM (t u : Bool) {X : Cx} {e1 e2 : Expr} {ta : TA} {p pos tpos : Pos} {elts : List Expr} {kk : Nat} (hg : Gl X "zip") (hm : X.mg "zip" = none) (ha : PA X [e1, e2] ta)
    (hs : starEach [e1, e2] X.env = (false, eval e1 X.env) :: starEach [e2] X.env := by rfl) (hpl : (backTo pos (starEach [e2] X.env)).any (·.1) = false := by rfl) :
    PI X (.Tuple elts kk tpos) (.Call (.Name "zip" p) [e1, e2] [] pos) (iZipM t u X.K ta) := by
  refine ⟨fun pins s σ H R I h => ?_⟩
  refine Call_ (ld_blt I hg hm boot_zip (PyProof.Rows.callWith_type1 (thn (ha.run pos pins s σ H _ I h) fun us s1 ⟨vs, H1, I1, r1, q1⟩ => ?_) hs hpl))
  obtain ⟨a, b, xs, ys, ex, hqx, hqy, q⟩ := q1
  subst ex
  cases r1 with
  | cons r rr =>
    cases rr with
    | cons r2 rr =>
      cases rr
      cases r
      cases r2
      obtain ⟨its, rv, g1, la⟩ := sqK_inv I1 hqx
      obtain ⟨jts, rw2, g2, lb⟩ := sqK_inv I1 hqy
      refine zip_begins2 (beginsK t a its.toArray) (beginsK u b jts.toArray) g1 g2 fun h' hz hT hO ho1 ho2 hsz hk => wpAny_pyIter_zip hz ?_
      have I2 : Inv X pins σ H1 { s1 with heap := h' } := I1.kept (t' := s1.toks) hk
      refine ⟨s1.heap.objs.size + 4, [s1.heap.objs.size + 4, s1.heap.objs.size + 2, s1.heap.objs.size + 3, s1.heap.objs.size, s1.heap.objs.size + 1], _, _, H1, rfl, I2,
        turnM t u (a := a) (b := b) (z := s1.heap.objs.size + 4) (TI := s1.heap.objs.size + 2) (TO := s1.heap.objs.size + 3) (i1 := s1.heap.objs.size) (i2 := s1.heap.objs.size + 1) ⟨?_, Nat.ne_of_lt la, Nat.ne_of_lt (Nat.lt_succ_of_lt lb), (Nat.succ_ne_self _).symm⟩, ⟨hz, hT, ⟨_, _, hO⟩, walkK_new ho1, walkK_new ho2⟩, fun c hcm => ?_, q⟩
      · have na : ∀ k : Nat, a ≠ s1.heap.objs.size + k := fun k => Nat.ne_of_lt (Nat.lt_of_lt_of_le la (Nat.le_add_right _ _))
        have nb : ∀ k : Nat, b ≠ s1.heap.objs.size + k := fun k => Nat.ne_of_lt (Nat.lt_of_lt_of_le lb (Nat.le_add_right _ _))
        have nb0 : b ≠ s1.heap.objs.size := nb 0
        have na0 : a ≠ s1.heap.objs.size := na 0
        constructor <;> simp [(na _).symm, (nb _).symm, nb0.symm, na0.symm, Addr]
      · have hle : s1.heap.objs.size ≤ c := by
          rcases (show c = s1.heap.objs.size + 4 ∨ c = s1.heap.objs.size + 2 ∨ c = s1.heap.objs.size + 3 ∨ c = s1.heap.objs.size ∨ c = s1.heap.objs.size + 1 by simpa using hcm) with g | g | g | g | g <;> rw [g] <;> first | exact Nat.le_add_right _ _ | exact Nat.le_refl _
        exact I1.fpOk hle (I1.hok.fresh hle)
end ZMix
namespace DX
open PySem PySem.Spec L2 ZMix
variable {X : Cx} {J : Gh} {M : Mem} {F : Hp} {K : PySem.W.Frag} {ρ : DEnv} {a b : Expr} {p pos : Pos}
theorem sqK_ex {t : Bool} {H : Hp} {q : Addr} {xs : List V} (e : Same F H) (h : SqK t K F q xs) : SqK t K H q xs := by
  cases t with
  | true => exact same_t e h
  | false => exact same_l e h
theorem wk_zipM (t u : Bool) {q r : Addr} {xs ys : List V} {ds es : List D} (h : SqK t K F q xs) (g : SqK u K F r ys) (hx : Rps K F xs ds) (hy : Rps K F ys es) : Wk K F (ItM t u K q r) (zipD ds es) := by
  have lx := hx.length
  have ly := hy.length
  refine ⟨fun i H hi s => ?_, fun H s => ⟨xs, ys, sqK_ex s h, sqK_ex s g, ?_⟩, fun i d H x H' F1 M hd s o y => ?_⟩
  · rw [zipD_len] at hi
    exact ⟨xs, ys, xs[i]'(by omega), ys[i]'(by omega), sqK_ex s h, sqK_ex s g, by simp, by simp⟩
  · rw [zipD_len]; omega
  · obtain ⟨n, v1, v2, rfl, hn, rfl, c1, c2⟩ := y
    obtain ⟨d1, d2, g1, g2, rfl⟩ := zipD_at hd
    obtain ⟨w1, k1, k2⟩ := hx.get g1
    obtain ⟨w2, k3, k4⟩ := hy.get g2
    obtain rfl : w1 = v1 := Option.some.inj (k1.symm.trans (c1 xs (sqK_ex o.ex (sqK_ex s h))))
    obtain rfl : w2 = v2 := Option.some.inj (k3.symm.trans (c2 ys (sqK_ex o.ex (sqK_ex s g))))
    exact pair_new (x := d1) (y := d2) o hn (k2.mono s) (k4.mono s)
theorem ix_zipTL {elts : List Expr} {kk : Nat} {tpos : Pos} {P : List D → Mem → Prop} (hm : X.mg "zip" = none) (h : AX X J [a, b] ρ M fun ws M2 => ∃ ds es : List D, ws = [.tup ds, .lst es] ∧ P (zipD ds es) M2) (hg : Gl X "zip" := by rfl)
    (hs : starEach [a, b] X.env = (false, eval a X.env) :: starEach [b] X.env := by rfl) (hpl : (backTo pos (starEach [b] X.env)).any (·.1) = false := by rfl) : IX X J (.Tuple elts kk tpos) (.Call (.Name "zip" p) [a, b] [] pos) ρ M P :=
  ix_of (pi_zipM true false hg hm pa_any hs hpl) fun F σ H R s k => h.go s fun ws vs M2 F2 H2 q e1 o2 r1 => by
    obtain ⟨ds, es, rfl, q2⟩ := q
    cases r1 with
    | cons h1 r1 =>
      cases r1 with
      | cons h2 r1 =>
        cases r1
        cases h1 with
        | tup h1 k1 =>
          cases h2 with
          | lst h2 k2 => exact ⟨_, _, _, _, rfl, same_t o2.ex h1, SqL.of (o2.ex _ _ h2), k _ _ M2 F2 H2 q2 e1 o2 (wk_zipM true false h1 (SqL.of h2) k1 k2)⟩
theorem ix_zipLT {elts : List Expr} {kk : Nat} {tpos : Pos} {P : List D → Mem → Prop} (hm : X.mg "zip" = none) (h : AX X J [a, b] ρ M fun ws M2 => ∃ ds es : List D, ws = [.lst ds, .tup es] ∧ P (zipD ds es) M2) (hg : Gl X "zip" := by rfl)
    (hs : starEach [a, b] X.env = (false, eval a X.env) :: starEach [b] X.env := by rfl) (hpl : (backTo pos (starEach [b] X.env)).any (·.1) = false := by rfl) : IX X J (.Tuple elts kk tpos) (.Call (.Name "zip" p) [a, b] [] pos) ρ M P :=
  ix_of (pi_zipM false true hg hm pa_any hs hpl) fun F σ H R s k => h.go s fun ws vs M2 F2 H2 q e1 o2 r1 => by
    obtain ⟨ds, es, rfl, q2⟩ := q
    cases r1 with
    | cons h1 r1 =>
      cases r1 with
      | cons h2 r1 =>
        cases r1
        cases h1 with
        | lst h1 k1 =>
          cases h2 with
          | tup h2 k2 => exact ⟨_, _, _, _, rfl, SqL.of (o2.ex _ _ h1), same_t o2.ex h2, k _ _ M2 F2 H2 q2 e1 o2 (wk_zipM false true (SqL.of h1) h2 k1 k2)⟩
end DX
/-! loops, comprehensions, lists that change: plain functions, and the rules that follow them -/
namespace DX
open PySem PySem.Spec L2 SX
noncomputable section
/-! ### plain -/
inductive Ctl (S R : Type) where
  | go (s : S) | brk (s : S) | ret (r : R)
def foldO {S : Type} (f : S → D → Option S) : S → List D → Option S
  | s, [] => some s
  | s, x :: xs => (f s x).bind fun s' => foldO f s' xs
/-- how a loop that may be left ends: brk never -/
def loopC {S R : Type} (f : S → D → Option (Ctl S R)) : S → List D → Option (Ctl S R)
  | s, [] => some (.go s)
  | s, x :: xs => (f s x).bind fun
    | .go s' => loopC f s' xs
    | .brk s' => some (.go s')
    | .ret r => some (.ret r)
def ctl {S R T : Type} (c : Ctl S R) (f : S → Option T) (g : R → Option T) : Option T := match c with
  | .go s => f s
  | .brk s => f s
  | .ret r => g r
theorem ctl_ret {S R T : Type} {c : Ctl S R} {f : S → Option T} {g : R → Option T} {v : R} {z : T} (h : ctl c f g = some z) (e : c = .ret v) : g v = some z := by subst e; exact h
theorem ctl_retS {S R : Type} {c : Ctl S R} {f : S → Option R} {v z : R} (h : ctl c f (fun v => some v) = some z) (e : c = .ret v) : some v = some z := by subst e; exact h
theorem ctl_retR {S R T : Type} {c : Ctl S R} {f : S → Option (Ctl T R)} {v : R} {z : Ctl T R} (h : ctl c f (fun v => some (.ret v)) = some z) (e : c = .ret v) : some (.ret v) = some z := by subst e; exact h
theorem ctl_go {S R T : Type} {c : Ctl S R} {f : S → Option T} {g : R → Option T} {v : S} {z : T} (h : ctl c f g = some z) (e : c = .go v) : f v = some z := by subst e; exact h
def whileO {S : Type} (c : S → Option Bool) (f : S → Option S) : Nat → S → Option S
  | 0, _ => none
  | n + 1, s => (c s).bind fun t => if t = true then (f s).bind fun s' => whileO c f n s' else some s
def mapO (f : D → Option D) : List D → Option (List D)
  | [] => some []
  | x :: xs => (f x).bind fun y => (mapO f xs).map fun ys => y :: ys
def filtO (f : D → Option (Option D)) : List D → Option (List D)
  | [] => some []
  | x :: xs => (f x).bind fun o => (filtO f xs).map fun ys => match o with
    | some y => y :: ys
    | none => ys
def mapS {S : Type} (f : S → D → Option (D × S)) : S → List D → Option (List D × S)
  | s, [] => some ([], s)
  | s, x :: xs => (f s x).bind fun p => (mapS f p.2 xs).map fun q => (p.1 :: q.1, q.2)
def filtS {S : Type} (f : S → D → Option (Option D × S)) : S → List D → Option (List D × S)
  | s, [] => some ([], s)
  | s, x :: xs => (f s x).bind fun p => (filtS f p.2 xs).map fun q => (match p.1 with
    | some y => y :: q.1
    | none => q.1, q.2)
/-- the tuple's parts -/
def un1 : D → Option D
  | .tup [a] => some a
  | _ => none
def un2 : D → Option (D × D)
  | .tup [a, b] => some (a, b)
  | _ => none
def un3 : D → Option (D × D × D)
  | .tup [a, b, c] => some (a, b, c)
  | _ => none
def un4 : D → Option (D × D × D × D)
  | .tup [a, b, c, d] => some (a, b, c, d)
  | _ => none
def un5 : D → Option (D × D × D × D × D)
  | .tup [a, b, c, d, e] => some (a, b, c, d, e)
  | _ => none
theorem un1_eq {d a : D} (h : un1 d = some a) : d = .tup [a] := by unfold un1 at h; split at h <;> cases h; rfl
theorem un2_eq {d : D} {p : D × D} (h : un2 d = some p) : d = .tup [p.1, p.2] := by unfold un2 at h; split at h <;> cases h; rfl
theorem un3_eq {d : D} {p : D × D × D} (h : un3 d = some p) : d = .tup [p.1, p.2.1, p.2.2] := by unfold un3 at h; split at h <;> cases h; rfl
theorem un4_eq {d : D} {p : D × D × D × D} (h : un4 d = some p) : d = .tup [p.1, p.2.1, p.2.2.1, p.2.2.2] := by unfold un4 at h; split at h <;> cases h; rfl
theorem un5_eq {d : D} {p : D × D × D × D × D} (h : un5 d = some p) : d = .tup [p.1, p.2.1, p.2.2.1, p.2.2.2.1, p.2.2.2.2] := by unfold un5 at h; split at h <;> cases h; rfl
/-- what is walked -/
def dIter : D → Option (List D)
  | .lst ds => some ds
  | .tup ds => some ds
  | .str z => some (signs z)
  | _ => none
def dZip : D → D → Option (List D)
  | .lst a, .lst b => some (zipD a b)
  | .tup a, .tup b => some (zipD a b)
  | .tup a, .lst b => some (zipD a b)
  | .lst a, .tup b => some (zipD a b)
  | _, _ => none
def dEnum : D → Option (List D)
  | .lst a => some (enumD 0 a)
  | .tup a => some (enumD 0 a)
  | _ => none
def dRange : List D → Option (List D)
  | [.int j] => chk (-1000000 ≤ j ∧ j ≤ 1000000) (rngD 0 j.toNat)
  | [.int i, .int j] => chk ((0 ≤ i ∧ i ≤ 1000000) ∧ -1000000 ≤ j ∧ j ≤ 1000000) (rngD i (j - i).toNat)
  | [.int i, .int j, .int c] => if c = -1 then chk ((-1000000 ≤ i ∧ i ≤ 1000000) ∧ -1000000 ≤ j ∧ j ≤ 1000000) (rngC i (-1) (i - j).toNat)
    else chk ((-1000000 ≤ i ∧ i ≤ 1000000) ∧ (-1000000 ≤ j ∧ j ≤ 1000000) ∧ 1 ≤ c ∧ c ≤ 1000) (rngC i c (cntP i j c))
  | _ => none
/-- x[i] = v; x.pop(i); x.pop() -/
def lSet (l : List D) (i v : D) : Option (List D) := match i with
  | .int n => (ixN l.length n).map fun m => l.set m v
  | _ => none
def lPopAt (l : List D) (i : D) : Option (D × List D) := match i with
  | .int n => (chk (-(2 ^ 62) ≤ n ∧ n < 2 ^ 62) ()).bind fun _ => (ixN l.length n).bind fun m => (l[m]?).map fun v => (v, l.eraseIdx m)
  | _ => none
def lPop (l : List D) : Option (D × List D) := (l[l.length - 1]?).map fun v => (v, l.dropLast)
def dJoin (z d : D) : Option D := match z, itemsD d with
  | .str z, some ds => chk (AllS ds ∧ sizeJ ds + ds.length * z.length ≤ 16777216) (.str (Txt.join z (ds.map toS)))
  | _, _ => none
section
variable {X : Cx} {J : Gh} {e a b c o : Expr} {es : List Expr} {ρ ρ' : DEnv} {M M' M0 M1 : Mem} {F F' H H' : Hp} {σ : L2.St} {B : Bd} {K : PySem.W.Frag} {pos p apos cpos : Pos} {x y dx dy z : D} {P : D → Mem → Prop} {t : Bool}
/-! ### memory: what is forgotten, what is frozen -/
theorem up_none {a b : Addr} {d : D} (h : up M a d b = none) : a ≠ b ∧ M b = none := by
  unfold up at h
  split at h
  · cases h
  · rename_i q; exact ⟨fun e => q e.symm, h⟩
theorem nn {a b : Addr} {d : D} (q : a ≠ b) (h : M b = none) : up M a d b = none := by rw [up_ne (Ne.symm q)]; exact h
theorem At.ne {h b : Addr} {d : D} {f : D → Mem} (A : At M h d f) (q : M b = none) : h ≠ b := by rintro rfl; rw [A.get] at q; cases q
theorem fresh1 {W : D → Mem} {p b : Addr} (hW : ∀ x, At (W x) p x W) {x : D} (h : W x b = none) (y : D) : W y b = none := by
  rw [(hW x).set y, up_ne (Ne.symm ((hW x).ne h))]; exact h
theorem fresh2 {W : D → D → Mem} {p q b : Addr} (h1 : ∀ x y, At (W x y) p x fun z => W z y) (h2 : ∀ x y, At (W x y) q y fun z => W x z) {x y : D} (h : W x y b = none) (x' y' : D) : W x' y' b = none := by
  have g1 : W x' y b = none := by rw [(h1 x y).set x', up_ne (Ne.symm ((h1 x y).ne h))]; exact h
  rw [(h2 x' y).set y', up_ne (Ne.symm ((h2 x' y).ne g1))]; exact g1
def Sub (M0 M1 : Mem) : Prop := ∀ a d, M0 a = some d → M1 a = some d
theorem sub_refl : Sub M M := fun _ _ h => h
theorem sub_drop {a : Addr} {d : D} (s : Sub M0 M1) (h : M1 a = none) : Sub M0 (up M1 a d) := fun b d' q => by
  have q1 := s b d' q
  rw [up_ne (fun e => by rw [e, h] at q1; cases q1)]; exact q1
theorem sub_keep {a : Addr} {d : D} (s : Sub M0 M1) : Sub (up M0 a d) (up M1 a d) := fun b d' q => by
  unfold up at q ⊢
  split at q
  · rename_i e; rw [if_pos e]; exact q
  · rename_i e; rw [if_neg e]; exact s b d' q
def SubX (p : Addr) (M0 M1 : Mem) : Prop := ∀ a d, M0 a = some d → a ≠ p ∧ M1 a = some d
theorem subx_here {p : Addr} {d : D} (h : M p = none) : SubX p M (up M p d) := fun a d' q => by
  have : a ≠ p := fun e => by rw [e, h] at q; cases q
  exact ⟨this, by rw [up_ne this]; exact q⟩
theorem subx_keep {p a : Addr} {d : D} (n : p ≠ a) (s : SubX p M0 M1) : SubX p (up M0 a d) (up M1 a d) := fun b d' q => by
  unfold up at q ⊢
  split at q
  · rename_i e; rw [if_pos e]; exact ⟨fun z => n (z.symm.trans e), q⟩
  · rename_i e; rw [if_neg e]; exact s b d' q
theorem Ok.sub (o : Ok K F M1 H) (s : Sub M0 M1) : Ok K F M0 H := ⟨o.ex, fun a d h => o.mt a d (s a d h)⟩
theorem Ok.frz {p : Addr} {u : HO} (o : Ok K F M1 H) (s : SubX p M0 M1) {d : D} (hp : M1 p = some d) (hH : H p = some u) : Same F (upd F p u) ∧ Ok K (upd F p u) M0 H := by
  obtain ⟨h1, h2⟩ := o.freeze hp hH
  refine ⟨h1, h2.sub fun a d' q => ?_⟩
  obtain ⟨q1, q2⟩ := s a d' q
  unfold rm; rw [if_neg q1]; exact q2
theorem ex_less (h : EX X J e ρ M fun d M1 => ∃ M0, Sub M0 M1 ∧ P d M0) : EX X J e ρ M P :=
  ex_of h fun F σ H Q st k => ⟨F, st, fun d v M' F' H' q e1 o1 r1 => by
    obtain ⟨M0, s, q⟩ := q
    exact k d v M0 F' H' q e1 (o1.sub s) r1⟩
theorem gx_less {sts : List Stmt} (s : Sub M0 M) (h : GX X J sts ρ M0 B) : GX X J sts ρ M B :=
  ⟨fun pins sh σ H E I ⟨F, st, k⟩ => h.run pins sh σ H E I ⟨F, ⟨st.en, st.ok.sub s, st.gh⟩, k⟩⟩
theorem Mt.rp {p : Addr} {d : D} {u : HO} (m : Mt K F H p d) (h : H p = some u) (s : Same F F') (hF : F' p = some u) (hf : frzD d = true) : Rp K F' (.ref p) d := by
  cases d <;> first
    | exact m.elim
    | (cases hf; done)
    | (obtain ⟨xs, g1, g2⟩ := m; rw [h] at g1; cases g1; first | exact .lst hF (g2.mono s) | exact .dct hF (g2.mono s))
    | (obtain ⟨dx, fs, g1, g2⟩ := m; rw [h] at g1; cases g1; exact .ins hF (g2.mono s))
theorem gx_frzA {sts : List Stmt} {p : Addr} {d : D} (i : Nat) (hi : DX.look ρ i = some (.adr p)) (hp : M p = some d) (sx : SubX p M0 M) (h : GX X J sts (DX.put ρ i d) M0 B) (hf : frzD d = true := by rfl) : GX X J sts ρ M B :=
  ⟨fun pins s σ H E I ⟨F, st, k⟩ => by
    obtain ⟨u, hu⟩ := (st.ok.mt p _ hp).2.there
    obtain ⟨s1, o4⟩ := st.ok.frz sx hp hu
    exact h.run pins s σ H E I ⟨_, ⟨(st.en.mono s1).frz hi ((st.ok.mt p _ hp).2.rp hu s1 upd_same hf), o4, J.mono _ _ s1 st.gh⟩, ⟨fun F' σ' H' ρ' M' q z1 z2 z3 => k.nx F' σ' H' ρ' M' q (s1.trans z1) z2 z3, k.rt.to s1, fun F' σ' H' ρ' M' q z1 z2 z3 => k.bk F' σ' H' ρ' M' q (s1.trans z1) z2 z3, fun F' σ' H' ρ' M' q z1 z2 z3 => k.ct F' σ' H' ρ' M' q (s1.trans z1) z2 z3⟩⟩⟩
theorem ex_frzA (h : EX X J e ρ M fun x M1 => ∃ p ds M0, x = .adr p ∧ M1 p = some (.lst ds) ∧ SubX p M0 M1 ∧ P (.lst ds) M0) : EX X J e ρ M P :=
  ex_of h fun F σ H Q st k => ⟨F, st, fun d v M' F' H' q e1 o1 r1 => by
    obtain ⟨p, d, M0, rfl, hp, sx, q⟩ := q
    cases r1
    obtain ⟨u, hu⟩ := (o1.mt p _ hp).2.there
    obtain ⟨s1, o4⟩ := o1.frz sx hp hu
    exact k (.lst d) _ M0 _ H' q (e1.trans s1) o4 ((o1.mt p _ hp).2.rp hu s1 upd_same rfl)⟩
/-! ### what is returned -/
theorem ret0 {v r : D} (e : v = r) (k : P r M) : P v M := by subst e; exact k
theorem ret1 {v : D} {r : D × List D} {l : List D} {W : D → Mem} (e : (v, l) = r) (k : P r.1 (W (.lst r.2))) : P v (W (.lst l)) := by subst e; exact k
theorem ret2 {v : D} {r : D × List D × List D} {l m : List D} {W : D → D → Mem} (e : (v, l, m) = r) (k : P r.1 (W (.lst r.2.1) (.lst r.2.2))) : P v (W (.lst l) (.lst m)) := by subst e; exact k
/-! ### targets -/
theorem as_eq {tg : Expr} {d d' : D} {Q : DEnv → Prop} (e : d = d') (h : AsD X tg d' ρ Q) : AsD X tg d ρ Q := by subst e; exact h
theorem asb_eq {scope : Scope} {vs : List Nat} {tg : Expr} {d d' : D} {Q : DEnv → Prop} (e : d = d') (h : AsB X scope vs tg d' ρ Q) : AsB X scope vs tg d ρ Q := by subst e; exact h
/-! ### what is walked -/
theorem ix_seqU {tg : Expr} {v : D} {ds : List D} {M2 : Mem} {P : List D → Mem → Prop} (h : EX X J e ρ M fun d M' => d = v ∧ M' = M2) (hv : dIter v = some ds) (k : P ds M2) : IX X J tg e ρ M P := by
  cases v <;> cases hv
  · exact ix_str (h.imp fun d M' q => ⟨_, q.1, by rw [q.2]; exact k⟩)
  · exact ix_tup (h.imp fun d M' q => ⟨_, q.1, by rw [q.2]; exact k⟩)
  · exact ix_lst (h.imp fun d M' q => ⟨_, q.1, by rw [q.2]; exact k⟩)
theorem AX.imp {P' Q' : List D → Mem → Prop} (h : AX X J es ρ M P') (k : ∀ d M', P' d M' → Q' d M') : AX X J es ρ M Q' := ax_of h fun F σ H Q st q => ⟨F, st, fun d v M' F' H' p => q d v M' F' H' (k d M' p)⟩
theorem ix_enumU {elts : List Expr} {kk : Nat} {tpos : Pos} {v : D} {ds : List D} {M2 : Mem} {P : List D → Mem → Prop} (hm : X.mg "enumerate" = none) (h : AX X J [a] ρ M fun ws M' => ws = [v] ∧ M' = M2) (hv : dEnum v = some ds) (k : P ds M2) (hg : Gl X "enumerate" := by rfl)
    (hs : starEach [a] X.env = [(false, eval a X.env)] := by rfl) : IX X J (.Tuple elts kk tpos) (.Call (.Name "enumerate" p) [a] [] pos) ρ M P := by
  cases v <;> cases hv
  · exact ix_enumT hm (h.imp fun d M' q => ⟨_, q.1, by rw [q.2]; exact k⟩) hg hs
  · exact ix_enum hm (h.imp fun d M' q => ⟨_, q.1, by rw [q.2]; exact k⟩) hg hs
theorem ix_zipU {elts : List Expr} {kk : Nat} {tpos : Pos} {v w : D} {ds : List D} {M2 : Mem} {P : List D → Mem → Prop} (hm : X.mg "zip" = none) (h : AX X J [a, b] ρ M fun ws M' => ws = [v, w] ∧ M' = M2) (hv : dZip v w = some ds) (k : P ds M2) (hg : Gl X "zip" := by rfl)
    (hs : starEach [a, b] X.env = (false, eval a X.env) :: starEach [b] X.env := by rfl) (hpl : (backTo pos (starEach [b] X.env)).any (·.1) = false := by rfl) : IX X J (.Tuple elts kk tpos) (.Call (.Name "zip" p) [a, b] [] pos) ρ M P := by
  unfold dZip at hv
  split at hv
  · cases hv; exact ix_zip hm (h.imp fun d M' q => ⟨_, _, _, _, q.1, .lst, by rw [q.2]; exact k⟩) hg hs hpl
  · cases hv; exact ix_zip hm (h.imp fun d M' q => ⟨_, _, _, _, q.1, .tup, by rw [q.2]; exact k⟩) hg hs hpl
  · cases hv; exact ix_zipTL hm (h.imp fun d M' q => ⟨_, _, q.1, by rw [q.2]; exact k⟩) hg hs hpl
  · cases hv; exact ix_zipLT hm (h.imp fun d M' q => ⟨_, _, q.1, by rw [q.2]; exact k⟩) hg hs hpl
  · cases hv
theorem ix_range1U {tg : Expr} {v : D} {ds : List D} {M2 : Mem} {P : List D → Mem → Prop} (hm : X.mg "range" = none) (h : AX X J [a] ρ M fun ws M' => ws = [v] ∧ M' = M2) (hv : dRange [v] = some ds) (k : P ds M2) (hg : Gl X "range" := by rfl)
    (hs : starEach [a] X.env = [(false, eval a X.env)] := by rfl) : IX X J tg (.Call (.Name "range" p) [a] [] pos) ρ M P := by
  cases v <;> first | (cases hv; done) | skip
  obtain ⟨h1, rfl⟩ := chk_inv hv
  exact ix_range1 hm (h.imp fun d M' q => ⟨_, q.1, ⟨by omega, by omega⟩, by rw [q.2]; exact k⟩) hg hs
theorem ix_range2U {tg : Expr} {v w : D} {ds : List D} {M2 : Mem} {P : List D → Mem → Prop} (hm : X.mg "range" = none) (h : AX X J [a, b] ρ M fun ws M' => ws = [v, w] ∧ M' = M2) (hv : dRange [v, w] = some ds) (k : P ds M2) (hg : Gl X "range" := by rfl)
    (hs : starEach [a, b] X.env = [(false, eval a X.env), (false, eval b X.env)] := by rfl) (hs2 : starEach [b] X.env = [(false, eval b X.env)] := by rfl) : IX X J tg (.Call (.Name "range" p) [a, b] [] pos) ρ M P := by
  cases v <;> first | (cases hv; done) | skip
  cases w <;> first | (cases hv; done) | skip
  obtain ⟨h1, rfl⟩ := chk_inv hv
  exact ix_range2 hm (h.imp fun d M' q => ⟨_, _, q.1, ⟨by omega, by omega, by omega, by omega⟩, by rw [q.2]; exact k⟩) hg hs hs2
theorem ix_range3U {tg : Expr} {v w : D} {ds : List D} {M2 : Mem} {P : List D → Mem → Prop} (hm : X.mg "range" = none) (h : AX X J [a, b, c] ρ M fun ws M' => ws = [v, w, .int (-1)] ∧ M' = M2) (hv : dRange [v, w, .int (-1)] = some ds) (k : P ds M2) (hg : Gl X "range" := by rfl)
    (hs : starEach [a, b, c] X.env = (false, eval a X.env) :: starEach [b, c] X.env := by rfl) (hpl : (backTo pos (starEach [b, c] X.env)).any (·.1) = false := by rfl) : IX X J tg (.Call (.Name "range" p) [a, b, c] [] pos) ρ M P := by
  cases v <;> first | (cases hv; done) | skip
  cases w <;> first | (cases hv; done) | skip
  unfold dRange at hv
  dsimp only at hv
  rw [if_pos rfl] at hv
  obtain ⟨h1, rfl⟩ := chk_inv hv
  exact ix_range3 hm (h.imp fun d M' q => ⟨_, _, q.1, h1, by rw [q.2]; exact k⟩) hg hs hpl
theorem ix_rangePU {tg : Expr} {v w u : D} {ds : List D} {M2 : Mem} {P : List D → Mem → Prop} (hm : X.mg "range" = none) (h : AX X J [a, b, c] ρ M fun ws M' => ws = [v, w, u] ∧ M' = M2) (hu : ∀ z, u = .int z → 1 ≤ z) (hv : dRange [v, w, u] = some ds) (k : P ds M2) (hg : Gl X "range" := by rfl)
    (hs : starEach [a, b, c] X.env = (false, eval a X.env) :: starEach [b, c] X.env := by rfl) (hpl : (backTo pos (starEach [b, c] X.env)).any (·.1) = false := by rfl) : IX X J tg (.Call (.Name "range" p) [a, b, c] [] pos) ρ M P := by
  cases v <;> first | (cases hv; done) | skip
  cases w <;> first | (cases hv; done) | skip
  cases u <;> first | (cases hv; done) | skip
  rename_i z
  have hz := hu z rfl
  unfold dRange at hv
  dsimp only at hv
  rw [if_neg (by omega)] at hv
  obtain ⟨h1, rfl⟩ := chk_inv hv
  exact ix_rangeP hm (h.imp fun d M' q => ⟨_, _, _, q.1, h1, by rw [q.2]; exact k⟩) hg hs hpl
theorem rg_d {vs ds : List D} (h : dRange vs = some ds) (hc : ∀ i j c, vs = [.int i, .int j, .int c] → c = -1) : ∃ i c n, Rg vs i c n ∧ ds = rngC i c n := by
  unfold dRange at h
  split at h
  · obtain ⟨h1, rfl⟩ := chk_inv h; exact ⟨_, _, _, rg1 (by omega), rngC_one.symm⟩
  · obtain ⟨h1, rfl⟩ := chk_inv h; exact ⟨_, _, _, rg2 (by omega), rngC_one.symm⟩
  · rename_i i j c
    obtain rfl := hc _ _ _ rfl
    rw [if_pos rfl] at h
    obtain ⟨h1, rfl⟩ := chk_inv h; exact ⟨_, _, _, rg3 h1, rfl⟩
  · cases h
/-! ### loops -/
section
variable {S R : Type} {xs : List D} {tg : Expr} {stm : List Stmt}
theorem drop_at {i : Nat} {d : D} (h : xs[i]? = some d) : xs.drop i = d :: xs.drop (i + 1) := by
  have hi : i < xs.length := by
    by_cases q : i < xs.length
    · exact q
    · rw [List.getElem?_eq_none (by omega)] at h; cases h
  rw [List.getElem?_eq_getElem hi] at h
  cases h
  exact List.drop_eq_getElem_cons hi
theorem forF {f : S → D → Option S} {s0 sN : S} (hl : foldO f s0 xs = some sN) (V : S → DEnv → Mem → Prop) (h0 : V s0 ρ M)
    (hs : ∀ d s s', f s d = some s' → ∀ ρ' M', V s ρ' M' → AsD X tg d ρ' fun ρ2 => GX X J stm ρ2 M' ⟨V s', B.rt, B.nx, V s'⟩) (hd : ∀ ρ' M', V sN ρ' M' → B.nx ρ' M') :
    ∃ Wd : Nat → DEnv → Mem → Prop, Wd 0 ρ M ∧ (∀ i d ρ' M', xs[i]? = some d → Wd i ρ' M' → AsD X tg d ρ' fun ρ2 => GX X J stm ρ2 M' ⟨Wd (i + 1), B.rt, B.nx, Wd (i + 1)⟩) ∧ ∀ ρ' M', Wd xs.length ρ' M' → B.nx ρ' M' := by
  refine ⟨fun i ρ' M' => ∃ s, foldO f s (xs.drop i) = some sN ∧ V s ρ' M', ⟨s0, hl, h0⟩, fun i d ρ' M' hi ⟨s, h1, h2⟩ => ?_, fun ρ' M' ⟨s, h1, h2⟩ => ?_⟩
  · rw [drop_at hi, foldO] at h1
    obtain ⟨s', h3, h4⟩ := Option.bind_eq_some_iff.mp h1
    obtain ⟨g, hg, h⟩ := hs d s s' h3 ρ' M' h2
    exact ⟨g, hg, fun F M v σ H Q o r en k => h F M v σ H Q o r en fun σ' ρ2 q en2 => k σ' ρ2 (q.imp (fun _ _ z => ⟨s', h4, z⟩) (fun _ _ z => z) (fun _ _ z => z) (fun _ _ z => ⟨s', h4, z⟩)) en2⟩
  · rw [List.drop_length, foldO] at h1
    cases h1
    exact hd ρ' M' h2
theorem forC {f : S → D → Option (Ctl S R)} {s0 : S} {c : Ctl S R} (hl : loopC f s0 xs = some c) (V : S → DEnv → Mem → Prop) (h0 : V s0 ρ M)
    (hs : ∀ d s b, f s d = some b → (∀ r, b = .ret r → c = .ret r) → ∀ ρ' M', V s ρ' M' → AsD X tg d ρ' fun ρ2 => GX X J stm ρ2 M' ⟨fun ρ M => ∃ s', b = .go s' ∧ V s' ρ M, B.rt, fun ρ M => ∃ s', b = .brk s' ∧ V s' ρ M, fun ρ M => ∃ s', b = .go s' ∧ V s' ρ M⟩)
    (hd : ∀ s', c = .go s' → ∀ ρ' M', V s' ρ' M' → B.nx ρ' M') :
    ∃ Wd : Nat → DEnv → Mem → Prop, Wd 0 ρ M ∧ (∀ i d ρ' M', xs[i]? = some d → Wd i ρ' M' → AsD X tg d ρ' fun ρ2 => GX X J stm ρ2 M' ⟨Wd (i + 1), B.rt, B.nx, Wd (i + 1)⟩) ∧ ∀ ρ' M', Wd xs.length ρ' M' → B.nx ρ' M' := by
  refine ⟨fun i ρ' M' => ∃ s, loopC f s (xs.drop i) = some c ∧ V s ρ' M', ⟨s0, hl, h0⟩, fun i d ρ' M' hi ⟨s, h1, h2⟩ => ?_, fun ρ' M' ⟨s, h1, h2⟩ => ?_⟩
  · rw [drop_at hi, loopC] at h1
    obtain ⟨b, h3, h4⟩ := Option.bind_eq_some_iff.mp h1
    obtain ⟨g, hg, h⟩ := hs d s b h3 (fun r e => by subst e; cases h4; rfl) ρ' M' h2
    refine ⟨g, hg, fun F M v σ H Q o r en k => h F M v σ H Q o r en fun σ' ρ2 q en2 => k σ' ρ2 (q.imp (fun _ _ z => ?_) (fun _ _ z => z) (fun _ _ z => ?_) (fun _ _ z => ?_)) en2⟩
    · obtain ⟨s', e, z⟩ := z; subst e; exact ⟨s', h4, z⟩
    · obtain ⟨s', e, z⟩ := z; subst e; exact hd s' (so h4).symm _ _ z
    · obtain ⟨s', e, z⟩ := z; subst e; exact ⟨s', h4, z⟩
  · rw [List.drop_length, loopC] at h1
    exact hd s (so h1).symm ρ' M' h2
theorem whF {cF : S → Option Bool} {f : S → Option S} {n : Nat} {s0 sN : S} {c : Expr} (hp : PassesOwn (model X.prog X.w) X.A X.env X.xe) (hl : whileO cF f n s0 = some sN) (V : S → DEnv → Mem → Prop) (h0 : V s0 ρ M)
    (hs : ∀ s t ρ' M', cF s = some t → V s ρ' M' → TX X J c ρ' M' fun t' M1 => t' = t ∧ M1 = M')
    (hb : ∀ s s' ρ' M', f s = some s' → V s ρ' M' → GX X J stm ρ' M' ⟨V s', B.rt, B.nx, V s'⟩) (hd : ∀ ρ' M', V sN ρ' M' → B.nx ρ' M') : G1 X J (.While c stm [] pos) ρ M B := by
  refine g1_while hp (fun m ρ' M' => ∃ s, whileO cF f m s = some sN ∧ V s ρ' M') n ⟨s0, hl, h0⟩ fun m ρ' M' ⟨s, h1, h2⟩ => ?_
  cases m with
  | zero => cases h1
  | succ m =>
    rw [whileO] at h1
    obtain ⟨t, h3, h4⟩ := Option.bind_eq_some_iff.mp h1
    refine (hs s t ρ' M' h3 h2).imp fun t' M1 q => ?_
    obtain ⟨rfl, rfl⟩ := q
    refine ⟨fun e => ?_, fun e => ?_⟩
    · subst e
      rw [if_pos rfl] at h4
      obtain ⟨s', h5, h6⟩ := Option.bind_eq_some_iff.mp h4
      exact (hb s s' ρ' _ h5 h2).imp (fun _ _ z => ⟨m, Nat.lt_succ_self _, s', h6, z⟩) (fun _ _ z => z) (fun _ _ z => z) (fun _ _ z => ⟨m, Nat.lt_succ_self _, s', h6, z⟩)
    · subst e
      rw [if_neg (by decide)] at h4
      cases h4
      exact hd ρ' _ h2
end
/-! ### comprehensions -/
section
variable {S : Type} {scope : Scope} {tg elt : Expr} {ifs : List Expr} {vs : List Nat} {xs ys : List D}
theorem mapO_len {f : D → Option D} : ∀ {xs ys : List D}, mapO f xs = some ys → ys.length = xs.length
  | [], _, h => by cases h; rfl
  | x :: xs, _, h => by
    rw [mapO] at h
    obtain ⟨y, h1, h⟩ := Option.bind_eq_some_iff.mp h
    obtain ⟨l, h2, rfl⟩ := Option.map_eq_some_iff.mp h
    rw [List.length_cons, List.length_cons, mapO_len h2]
theorem len_at {i : Nat} {d : D} (h : xs[i]? = some d) : i < xs.length := by
  by_cases q : i < xs.length
  · exact q
  · rw [List.getElem?_eq_none (by omega)] at h; cases h
theorem lcF {f : D → Option D} (hl : mapO f xs = some ys) (hz : xs.length ≤ 1000000)
    (hs : ∀ d y acc Dl, f d = some y → M Dl = none → AsB X scope vs tg d (cuts ρ vs) fun ρ2 => EXb X J scope elt ρ2 (up M Dl (.lst acc)) fun y' M3 => y' = y ∧ M3 = up M Dl (.lst acc)) (k : P (.lst ys) M) : LcW X J scope vs tg [] elt ρ P xs M := by
  refine ⟨fun i acc M' => M' = M ∧ acc.length = i ∧ ∃ r, mapO f (xs.drop i) = some r ∧ acc ++ r = ys, ⟨rfl, rfl, ys, hl, rfl⟩, fun i d acc M' Dl hi ⟨e, ha, r, h1, h2⟩ hD => ?_, fun acc M' ⟨e, ha, r, h1, h2⟩ => ?_⟩
  · subst e
    have hi2 := len_at hi
    refine ⟨by omega, ?_⟩
    rw [drop_at hi, mapO] at h1
    obtain ⟨y, h3, h1⟩ := Option.bind_eq_some_iff.mp h1
    obtain ⟨r', h4, rfl⟩ := Option.map_eq_some_iff.mp h1
    obtain ⟨g, hg, h⟩ := hs d y acc Dl h3 hD
    refine ⟨g, hg, fun F M v σ H Q o r en k => h F M v σ H Q o r en fun σ' ρ2 q en2 w => k σ' ρ2 ?_ en2 w⟩
    refine txb_nil ⟨fun _ => fun s H C cl fp => (q s H C cl fp).imp fun y' M3 z => ?_, fun h => nomatch h⟩
    obtain ⟨rfl, rfl⟩ := z
    exact ⟨M', hD, rfl, rfl, by rw [List.length_append, ha]; rfl, r', h4, by rw [List.append_assoc]; exact h2⟩
  · rw [List.drop_length, mapO] at h1
    cases h1
    subst e
    rw [List.append_nil] at h2
    subst h2
    exact k
theorem filtF {f : D → Option (Option D)} (hl : filtO f xs = some ys) (hz : xs.length ≤ 1000000)
    (hs : ∀ d y acc Dl, f d = some y → M Dl = none → AsB X scope vs tg d (cuts ρ vs) fun ρ2 => TXb X J scope ifs ρ2 (up M Dl (.lst acc)) fun t M2 => (t = true → EXb X J scope elt ρ2 M2 fun y' M3 => y = some y' ∧ M3 = up M Dl (.lst acc)) ∧ (t = false → y = none ∧ M2 = up M Dl (.lst acc))) (k : P (.lst ys) M) : LcW X J scope vs tg ifs elt ρ P xs M := by
  refine ⟨fun i acc M' => M' = M ∧ acc.length ≤ i ∧ ∃ r, filtO f (xs.drop i) = some r ∧ acc ++ r = ys, ⟨rfl, Nat.le_refl _, ys, hl, rfl⟩, fun i d acc M' Dl hi ⟨e, ha, r, h1, h2⟩ hD => ?_, fun acc M' ⟨e, ha, r, h1, h2⟩ => ?_⟩
  · subst e
    have hi2 := len_at hi
    refine ⟨by omega, ?_⟩
    rw [drop_at hi, filtO] at h1
    obtain ⟨y, h3, h1⟩ := Option.bind_eq_some_iff.mp h1
    obtain ⟨r', h4, rfl⟩ := Option.map_eq_some_iff.mp h1
    obtain ⟨g, hg, h⟩ := hs d y acc Dl h3 hD
    refine ⟨g, hg, fun F M v σ H Q o r en k => h F M v σ H Q o r en fun σ' ρ2 q en2 w => k σ' ρ2 ?_ en2 w⟩
    obtain ⟨tt, h5, h6⟩ := q
    refine ⟨tt, h5, fun F σ H Q st kb => h6 F σ H Q st fun tb M2 F' H' q e o => kb tb M2 F' H' ?_ e o⟩
    refine ⟨fun ht => fun s H C cl fp => (q.1 ht s H C cl fp).imp fun y' M3 z => ?_, fun ht => ?_⟩
    · obtain ⟨rfl, rfl⟩ := z
      exact ⟨M', hD, rfl, rfl, by rw [List.length_append, List.length_singleton]; omega, r', h4, by rw [List.append_assoc]; exact h2⟩
    · obtain ⟨rfl, e2⟩ := q.2 ht
      exact ⟨M', hD, e2, rfl, by omega, r', h4, h2⟩
  · rw [List.drop_length, filtO] at h1
    cases h1
    subst e
    rw [List.append_nil] at h2
    subst h2
    exact k
theorem mapSF {f : S → D → Option (D × S)} {s0 sN : S} (hl : mapS f s0 xs = some (ys, sN)) (hz : xs.length ≤ 1000000) (W : S → Mem) (hM : M = W s0)
    (hs : ∀ d s q acc Dl, f s d = some q → W s Dl = none → AsB X scope vs tg d (cuts ρ vs) fun ρ2 => EXb X J scope elt ρ2 (up (W s) Dl (.lst acc)) fun y' M3 => y' = q.1 ∧ W q.2 Dl = none ∧ M3 = up (W q.2) Dl (.lst acc)) (k : P (.lst ys) (W sN)) : LcW X J scope vs tg [] elt ρ P xs M := by
  refine ⟨fun i acc M' => acc.length = i ∧ ∃ s r, M' = W s ∧ mapS f s (xs.drop i) = some (r, sN) ∧ acc ++ r = ys, ⟨rfl, s0, ys, hM, hl, rfl⟩, fun i d acc M' Dl hi ⟨ha, s, r, e, h1, h2⟩ hD => ?_, fun acc M' ⟨ha, s, r, e, h1, h2⟩ => ?_⟩
  · subst e
    have hi2 := len_at hi
    refine ⟨by omega, ?_⟩
    rw [drop_at hi, mapS] at h1
    obtain ⟨q, h3, h1⟩ := Option.bind_eq_some_iff.mp h1
    obtain ⟨q', h4, e4⟩ := Option.map_eq_some_iff.mp h1
    obtain ⟨r', s'⟩ := q'
    cases e4
    obtain ⟨g, hg, h⟩ := hs d s q acc Dl h3 hD
    refine ⟨g, hg, fun F M v σ H Q o r en k => h F M v σ H Q o r en fun σ' ρ2 q en2 w => k σ' ρ2 ?_ en2 w⟩
    refine txb_nil ⟨fun _ => fun s H C cl fp => (q s H C cl fp).imp fun y' M3 z => ?_, fun h => nomatch h⟩
    obtain ⟨rfl, z2, rfl⟩ := z
    exact ⟨W _, z2, rfl, by rw [List.length_append, ha]; rfl, _, r', rfl, h4, by rw [List.append_assoc]; exact h2⟩
  · rw [List.drop_length, mapS] at h1
    cases h1
    subst e
    rw [List.append_nil] at h2
    subst h2
    exact k
theorem filtSF {f : S → D → Option (Option D × S)} {s0 sN : S} (hl : filtS f s0 xs = some (ys, sN)) (hz : xs.length ≤ 1000000) (W : S → Mem) (hM : M = W s0)
    (hs : ∀ d s q acc Dl, f s d = some q → W s Dl = none → AsB X scope vs tg d (cuts ρ vs) fun ρ2 => TXb X J scope ifs ρ2 (up (W s) Dl (.lst acc)) fun t M2 => (t = true → EXb X J scope elt ρ2 M2 fun y' M3 => q.1 = some y' ∧ W q.2 Dl = none ∧ M3 = up (W q.2) Dl (.lst acc)) ∧ (t = false → q.1 = none ∧ W q.2 Dl = none ∧ M2 = up (W q.2) Dl (.lst acc))) (k : P (.lst ys) (W sN)) : LcW X J scope vs tg ifs elt ρ P xs M := by
  refine ⟨fun i acc M' => acc.length ≤ i ∧ ∃ s r, M' = W s ∧ filtS f s (xs.drop i) = some (r, sN) ∧ acc ++ r = ys, ⟨Nat.le_refl _, s0, ys, hM, hl, rfl⟩, fun i d acc M' Dl hi ⟨ha, s, r, e, h1, h2⟩ hD => ?_, fun acc M' ⟨ha, s, r, e, h1, h2⟩ => ?_⟩
  · subst e
    have hi2 := len_at hi
    refine ⟨by omega, ?_⟩
    rw [drop_at hi, filtS] at h1
    obtain ⟨q, h3, h1⟩ := Option.bind_eq_some_iff.mp h1
    obtain ⟨q', h4, e4⟩ := Option.map_eq_some_iff.mp h1
    obtain ⟨r', s'⟩ := q'
    cases e4
    obtain ⟨g, hg, h⟩ := hs d s q acc Dl h3 hD
    refine ⟨g, hg, fun F M v σ H Q o r en k => h F M v σ H Q o r en fun σ' ρ2 z en2 w => k σ' ρ2 ?_ en2 w⟩
    obtain ⟨tt, h5, h6⟩ := z
    refine ⟨tt, h5, fun F σ H Q st kb => h6 F σ H Q st fun tb M2 F' H' z e o => kb tb M2 F' H' ?_ e o⟩
    refine ⟨fun ht => fun s H C cl fp => (z.1 ht s H C cl fp).imp fun y' M3 w => ?_, fun ht => ?_⟩
    · obtain ⟨e1, w2, rfl⟩ := w
      exact ⟨W _, w2, rfl, by rw [List.length_append, List.length_singleton]; omega, _, r', rfl, h4, by rw [e1] at h2; rw [List.append_assoc]; exact h2⟩
    · obtain ⟨e1, e2, e3⟩ := z.2 ht
      exact ⟨W _, e2, e3, by omega, _, r', rfl, h4, by rw [e1] at h2; exact h2⟩
  · rw [List.drop_length, filtS] at h1
    cases h1
    subst e
    rw [List.append_nil] at h2
    subst h2
    exact k
end
/-- the comprehension's list goes on changing -/
theorem lc_mut {scope : Scope} {tg elt : Expr} {ifs : List Expr} {vs : List Nat} {xs ys : List D} {M2 : Mem} (h : LcW X J scope vs tg ifs elt ρ (fun d M' => d = .lst ys ∧ M' = M2) xs M) (k : ∀ Dl, M2 Dl = none → P (.adr Dl) (up M2 Dl (.lst ys))) : LcWM X J scope vs tg ifs elt ρ P xs M := by
  obtain ⟨Wd, h0, hs, hd⟩ := h
  refine ⟨Wd, h0, hs, fun acc M' Dl q hD => ?_⟩
  obtain ⟨e1, e2⟩ := hd acc M' q
  cases e1
  subst e2
  exact k Dl hD
/-! ### join, methods of lists -/
theorem allS_of {l : List Str} : AllS (l.map D.str) := by
  unfold AllS
  rw [List.map_map, List.map_map]
  exact List.map_congr_left fun _ _ => rfl
def strD : D → Option Str
  | .str z => some z
  | _ => none
theorem strD_eq {d : D} {z : Str} (h : strD d = some z) : d = .str z := by cases d <;> cases h; rfl
def dJoinS (z : Str) (d : D) : Option D := (itemsD d).bind fun ds => chk (AllS ds ∧ sizeJ ds + ds.length * z.length ≤ 16777216) (.str (Txt.join z (ds.map toS)))
theorem jn {z : Str} {y dy r : D} (w : Vw M y dy) (h : dJoinS z dy = some r) (p : P r M) : ∃ ds, Sq M y ds ∧ AllS ds ∧ sizeJ ds + ds.length * z.length ≤ 16777216 ∧ P (.str (Txt.join z (ds.map toS))) M := by
  obtain ⟨ds, h1, h⟩ := Option.bind_eq_some_iff.mp h
  obtain ⟨⟨h2, h3⟩, rfl⟩ := chk_inv h
  refine ⟨ds, ?_, h2, h3, p⟩
  rcases items_eq h1 with rfl | rfl
  · exact w.sq
  · cases w with
    | id => exact .tup
    | ad q hf => cases hf
def lExt (l : List D) (v : D) : Option (List D) := (lstD v).bind fun es => chk (l.length + es.length ≤ 1000000) (l ++ es)
theorem g1_setIxF {tp : Pos} (h : EX X J e ρ M fun y M1 => EX X J o ρ M1 fun d M2 => EX X J a ρ M2 fun i M3 => ∃ q l f l', d = .adr q ∧ At M3 q (.lst l) f ∧ lSet l i y = some l' ∧ B.nx ρ (f (.lst l')))
    (hs : swapsWithSole [.Subscript o a tp] e pos.line X.env = pure false := by rfl) (hw : swappedStores [.Subscript o a tp] e X.env = pure none := by rfl)
    (h1 : (assignEach [.Subscript o a tp] X.env).map (·.2) = [assign (.Subscript o a tp) X.env] := by rfl)
    (ha : ∀ v, assign (.Subscript o a tp) X.env v = (do let ov ← holding [v] (eval o X.env); let iv ← holding [v, ov] (eval a X.env); standAt tp; holding [v, ov, iv] (setItem ov iv v); release [v, ov, iv] []) := by intro _; rfl) : G1 X J (.Assign [.Subscript o a tp] e pos) ρ M B :=
  g1_setIx (h.imp fun y M1 q => q.imp fun d M2 q => q.imp fun i M3 q => by
    obtain ⟨q, l, f, l', e1, hA, h1, k⟩ := q
    unfold lSet at h1
    split at h1
    · obtain ⟨m, h2, rfl⟩ := Option.map_eq_some_iff.mp h1
      exact ⟨q, l, f, _, m, e1, rfl, hA, h2, k⟩
    · cases h1) hs hw h1 ha
end
end
end DX
/-! small pieces: sums in place, stars, ranges, lists that grow, dicts -/
namespace DX
open PySem PySem.Spec L2 SX
noncomputable section
def iOp (f : Int → Int → Int) : D → D → Option D
  | .int i, .int j => some (.int (f i j))
  | _, _ => none
theorem iOp_eq {f : Int → Int → Int} {a b z : D} (h : iOp f a b = some z) : ∃ i j, a = .int i ∧ b = .int j ∧ z = .int (f i j) := by
  unfold iOp at h
  split at h
  · cases h; exact ⟨_, _, rfl, rfl, rfl⟩
  · cases h
def keyD : D → Option Key
  | .int i => some (.inl i)
  | .str z => some (.inr z)
  | _ => none
theorem keyD_eq {d : D} {k : Key} (h : keyD d = some k) : d = kD k := by cases d <;> cases h <;> rfl
def dctD : D → Option (List (Key × D))
  | .dct l => some l
  | _ => none
theorem dctD_eq {d : D} {l : List (Key × D)} (h : dctD d = some l) : d = .dct l := by cases d <;> cases h; rfl
def kvsD : List D → Option (List (Key × D))
  | [] => some []
  | .tup [a, b] :: ds => (keyD a).bind fun k => (kvsD ds).map fun l => (k, b) :: l
  | _ => none
theorem kvs_eq : ∀ {ds : List D} {l : List (Key × D)}, kvsD ds = some l → ds = prsD l := by
  intro ds
  induction ds with
  | nil => intro l h; cases h; rfl
  | cons d ds ih =>
    intro l h
    unfold kvsD at h
    split at h
    · rename_i e; cases e
    · rename_i a b ds' e
      cases e
      obtain ⟨k, h1, h⟩ := Option.bind_eq_some_iff.mp h
      obtain ⟨l', h2, rfl⟩ := Option.map_eq_some_iff.mp h
      rw [ih h2, keyD_eq h1]; rfl
    · cases h
section
variable {X : Cx} {J : Gh} {e a b c o : Expr} {es : List Expr} {ρ ρ' : DEnv} {M M' M0 M1 : Mem} {F F' H H' : Hp} {σ : L2.St} {B : Bd} {K : PySem.W.Frag} {pos p apos cpos : Pos} {x y dx dy z : D} {P : D → Mem → Prop} {t : Bool}
theorem g1_augF {x : Str} {op : Operator} {f : Int → Int → Int} (ho : PIp X op (ipI f)) (i : Nat) {u : D} (hu : look ρ i = some u) (h : EX X J e ρ M fun d M1 => ∃ z, iOp f u d = some z ∧ B.nx (put ρ i z) M1)
    (hN : X.N.Nodup := by rfl) (hi : X.N[i]? = some x := by rfl) (hx : Loc X.env.scope x := by first | exact Or.inl rfl | exact Or.inr rfl) (hf : X.fn x = true ∨ X.env.scope.names.lookup x = some .local := by first | exact .inl rfl | exact .inr rfl) :
    G1 X J (.AugAssign (.Name x p) op e pos) ρ M B := by
  cases u with
  | int v =>
    refine g1_aug ho i ⟨v, hu, h.imp fun d M1 q => ?_⟩ hN hi hx hf
    obtain ⟨z, h1, q⟩ := q
    obtain ⟨i', j', e1, rfl, rfl⟩ := iOp_eq h1
    cases e1
    exact ⟨_, rfl, q⟩
  | _ => 
    refine g1_of (ps_aug hN hi hx pe_any ho hf) fun F σ H E s k => ?_
    obtain ⟨v0, h1, h2⟩ := s.en.look hu
    refine ⟨_, h1, h.go s fun d v M1 F1 H1 q e1 o1 r1 => ?_⟩
    obtain ⟨z, h1, q⟩ := q
    obtain ⟨i', j', e2, _, _⟩ := iOp_eq h1
    cases e2
theorem sqOf {l : List D} (w : Vw M x dx) (h : itemsD dx = some l) : Sq M x l := by
  rcases items_eq h with rfl | rfl
  · exact w.sq
  · cases w with
    | id => exact .tup
    | ad q hf => cases hf
theorem vwsl {l : List D} (w : Vw M x dx) (h : lstD dx = some l) : Sl M x l := by
  obtain rfl := lstD_eq h
  exact w.sl
theorem rgkT {vs ds : List D} (h : dRange vs = some ds) (hc : ∀ i j c, vs = [.int i, .int j, .int c] → c = -1) (p : P (.tup ds) M) : ∃ i c n, Rg vs i c n ∧ P (.tup (rngC i c n)) M := by
  obtain ⟨i, c, n, h1, rfl⟩ := rg_d h hc
  exact ⟨i, c, n, h1, p⟩
theorem rgkL {vs ds : List D} (h : dRange vs = some ds) (hc : ∀ i j c, vs = [.int i, .int j, .int c] → c = -1) (p : P (.lst ds) M) : ∃ i c n, Rg vs i c n ∧ P (.lst (rngC i c n)) M := by
  obtain ⟨i, c, n, h1, rfl⟩ := rg_d h hc
  exact ⟨i, c, n, h1, p⟩
theorem rgkM {vs ds : List D} (h : dRange vs = some ds) (hc : ∀ i j c, vs = [.int i, .int j, .int c] → c = -1) (p : ∀ q, M q = none → P (.adr q) (up M q (.lst ds))) : ∃ i c n, Rg vs i c n ∧ ∀ q, M q = none → P (.adr q) (up M q (.lst (rngC i c n))) := by
  obtain ⟨i, c, n, h1, rfl⟩ := rg_d h hc
  exact ⟨i, c, n, h1, p⟩
theorem extK {l l' : List D} {q : Addr} {f : D → Mem} (h : lExt l dx = some l') (w : Vw M x dx) (A : At M q (.lst l) f) (k : P .non (f (.lst l'))) : ∃ y ds es f, [x] = [y] ∧ Sl M y es ∧ At M q (.lst ds) f ∧ ds.length + es.length ≤ 1000000 ∧ P .non (f (.lst (ds ++ es))) := by
  obtain ⟨es, h1, h⟩ := Option.bind_eq_some_iff.mp h
  obtain ⟨h2, rfl⟩ := chk_inv h
  exact ⟨x, l, es, f, rfl, vwsl w h1, A, h2, k⟩
theorem popK {l : List D} {r : D × List D} {q : Addr} {f : D → Mem} (h : lPopAt l x = some r) (A : At M q (.lst l) f) (k : P r.1 (f (.lst r.2))) : ∃ i ds f y n, [x] = [.int i] ∧ At M q (.lst ds) f ∧ (-(2 ^ 63) ≤ i ∧ i < 2 ^ 63) ∧ ixN ds.length i = some n ∧ ds[n]? = some y ∧ P y (f (.lst (ds.eraseIdx n))) := by
  unfold lPopAt at h
  split at h
  · obtain ⟨_, h1, h⟩ := Option.bind_eq_some_iff.mp h
    obtain ⟨m, h2, h⟩ := Option.bind_eq_some_iff.mp h
    obtain ⟨v, h3, rfl⟩ := Option.map_eq_some_iff.mp h
    have h1 := (chk_inv h1).1
    exact ⟨_, l, f, v, m, rfl, A, ⟨by omega, by omega⟩, h2, h3, k⟩
  · cases h
theorem cd_dictK {l : List D} {kvs : List (Key × D)} (h : kvsD l = some kvs) (q : P (.dct (mergeD [] kvs)) M) (hc : X.calm = true := by rfl) : CD X (.type "dict") [.stup l] M P := by
  rw [kvs_eq h]; exact cd_dict hc q
/-! ### methods of texts with one text -/
theorem ex_lstrip (h : EX X J o ρ M fun d M1 => ∃ z, d = .str z ∧ AX X J [e] ρ M1 fun ys M2 => ∃ y, ys = [.str y] ∧ z.length ≤ 1000000 ∧ P (.str (Txt.lstripChars z y)) M2)
    (hbase : attributeBase o "lstrip" X.env (eval o X.env) = eval o X.env := by rfl)
    (few : ((backTo cpos (starEach [e] X.env)).all (fun x => !x.1) && (backToKw cpos (keywordEach [] X.env)).all (fun x => x.1.isSome) && decide ([e].length + ([] : List Keyword).length + (if ([] : List Keyword).isEmpty then 0 else 1) < 30)) = true := by rfl)
    (line : (apos.endLine == cpos.line) = true := by rfl) (hst : starEach [e] X.env = (false, eval e X.env) :: starEach [] X.env := by rfl) (hpl : (backTo cpos (starEach [] X.env)).any (·.1) = false := by rfl) :
    EX X J (.Call (.Attribute o "lstrip" apos) [e] [] cpos) ρ M P :=
  ex_of (pe_bm PySem.F.plainAttrs_str PySem.F.slot_str_lstrip PySem.F.type_str_lstrip mt_lstripChars pe_any pa_any hbase few line hst hpl) fun F σ H Q st k => h.go st fun d v M1 F1 H1 q1 e1 o1 r1 => by
    obtain ⟨z, rfl, q2⟩ := q1
    cases r1
    refine ⟨rfl, q2.go (st.to e1 o1) fun ys vs M2 F2 H2 q3 e2 o2 r2 => ?_⟩
    obtain ⟨y, rfl, hz, q3⟩ := q3
    cases r2 with
    | cons r2 r3 =>
      cases r3
      cases r2
      exact ⟨z, y, rfl, rfl, by rw [sizeLine_eq]; omega, k _ _ _ _ _ q3 (e1.trans e2) o2 (.str _)⟩
def dLstrip (z : Str) : D → Option D
  | .str y => chk (z.length ≤ 1000000) (.str (Txt.lstripChars z y))
  | _ => none
theorem lstripK {z : Str} {r : D} (h : dLstrip z dx = some r) (w : Vw M x dx) (p : P r M) : ∃ y, [x] = [.str y] ∧ z.length ≤ 1000000 ∧ P (.str (Txt.lstripChars z y)) M := by
  unfold dLstrip at h
  split at h
  · obtain ⟨h1, rfl⟩ := chk_inv h
    cases w with
    | id => exact ⟨_, rfl, h1, p⟩
    | ad q hf => cases hf
  · cases h
/-! ### calls with stars and keywords -/
theorem cwS {M : Model} {A : Around} {E : Value → Shared → Prop} {s : Shared} {f : Value} {first : List Value} {pos : Pos} {Q : Value → Shared → Prop} {Ph : Heap → Prop} {args : List (Bool × Sem Value)} {kw : List (Option Str × Sem Value)} (hst : (args.any (·.1) || kw.any (·.1.isNone)) = true)
    (hk : ∀ h, Ph h → ∃ k, (k = Keeper.frame ∨ k = Keeper.machine ∨ k = Keeper.boundFrame) ∧ PySem.W.Looks M h (keeperOf f) k)
    (h : wpAny M A (evalArgs f true args kw) (fun a s1 => Ph s1.heap ∧ wpAny M A (call f (first ++ a.pos) a.kw) Q E s1) E s) : wpAny M A (callWith pos f first args kw) Q E s := by
  unfold callWith
  refine wpAny_bind (wpAny_holding (wpAny_mono h (fun a s1 g => wpAny_bind (wpAny_standAt ?_)) fun _ _ x => x))
  obtain ⟨k, hk', L⟩ := hk _ g.1
  simp only [hst]
  refine wpAny_bind (L.here ?_)
  have fin : ∀ {z : Sem Value}, wpAny M A z Q E s1 → wpAny M A (z >>= fun r => holding [r] point >>= fun _ => pure r) Q E s1 := by
    intro z hz
    exact wpAny_bind (wpAny_mono hz (fun r s2 hr => wpAny_bind (wpAny_holding (wpAny_point (wpAny_pure hr)))) fun _ _ x => x)
  rcases hk' with rfl | rfl | rfl
  · refine fin ?_
    show wpAny M A (callMarked _ f (first ++ a.pos) a.kw) Q E s1
    unfold callMarked
    exact Calls.wpAny_keep g.2
  · exact fin (wpAny_operating g.2)
  · exact fin (wpAny_operating g.2)
theorem ex_callVS {x : Str} {k : Nat} {gd : Bool} {f : Addr} {ks : List Str} {T : TrV} {kws : List Keyword} (G : FnV X.prog X.w X.K X.mg X.base gd k f ks T) (hgd : gd = true → X.A.guards = some []) (hr : Room k X.A) (hm : X.mg x = some (.ref f)) (hk : PySem.W.keepIn X.K (.ref f) = true)
    (h : AX X J (e :: es) ρ M fun ds M1 => KX X J kws ρ M1 fun zs M2 => zs.length = ks.length ∧ T ds zs M2 P)
    (hg : Gl X x := by rfl) (hall : (backToKw pos (keywordEach kws X.env)).all (·.1.isSome) = true := by rfl) (hks : (backToKw pos (keywordEach kws X.env)).filterMap (·.1) = ks := by rfl)
    (hdb : (x == ("__debug__" : Str)) = false := by decide) (he : starEach (e :: es) X.env = (false, eval e X.env) :: starEach es X.env := by rfl)
    (hpl : ((backTo pos (starEach (e :: es) X.env)).any (·.1) || (backToKw pos (keywordEach kws X.env)).any (·.1.isNone)) = true := by rfl) : EX X J (.Call (.Name x p) (e :: es) kws pos) ρ M P := by
  refine ⟨fun pins s σ H Q I ⟨F, st, kt⟩ => ?_⟩
  refine wpAny_Call_Name_kw (ld_glob I hg hm ?_ hdb)
  refine cwS hpl (PySem.W.keeps_K hk) (PyProof.Rows.evalArgs_kw2 hall (thn ((pa_any (X := X) (es := e :: es)).run pos pins s σ H (fun vs H1 => ∃ F1 M1 ds, Same F F1 ∧ Ok X.K F1 M1 H1 ∧ Rps X.K F1 vs ds ∧ KX X J kws ρ M1 fun zs M2 => zs.length = ks.length ∧ T ds zs M2 P) I
    (h.go st fun ds vs M1 F1 H1 q e1 o1 r1 => ⟨F1, M1, ds, e1, o1, r1, q⟩)) fun us s1 ⟨vs, H1, I1, r, F1, M1, ds, e1, o1, rd, q⟩ => ?_) he)
  refine thn ((pk_any (X := X) (kws := kws)).run pos pins s1 σ H1 (fun xs H2 => ∃ F2 M2 zs, Same F1 F2 ∧ Ok X.K F2 M2 H2 ∧ Rps X.K F2 xs zs ∧ zs.length = ks.length ∧ T ds zs M2 P) I1 (q.go (st.to e1 o1) fun zs xs M2 F2 H2 q2 e2 o2 r2 => ⟨F2, M2, zs, e2, o2, r2, q2.1, q2.2⟩)) fun ws s2 ⟨xs, H2, I2, rx, F2, M2, zs, e2, o2, rz, hl, t⟩ => ⟨I2.kIn, ?_⟩
  rw [hks]
  exact run_fnV G hgd hr I2 r rx hl o2 (rd.mono e2) rz t (kt.to (e1.trans e2))
/-! ### the rules with plain functions -/
theorem ex_joinF (h : EX X J o ρ M fun d M1 => ∃ z, d = .str z ∧ EX X J e ρ M1 fun d2 M2 => ∃ dy r, Vw M2 d2 dy ∧ dJoinS z dy = some r ∧ P r M2)
    (hbase : attributeBase o "join" X.env (eval o X.env) = eval o X.env := by rfl)
    (few : ((backTo cpos (starEach [e] X.env)).all (fun x => !x.1) && (backToKw cpos (keywordEach [] X.env)).all (fun x => x.1.isSome) && decide ([e].length + ([] : List Keyword).length + (if ([] : List Keyword).isEmpty then 0 else 1) < 30)) = true := by rfl)
    (line : (apos.endLine == cpos.line) = true := by rfl) (hst : starEach [e] X.env = (false, eval e X.env) :: starEach [] X.env := by rfl) (hpl : (backTo cpos (starEach [] X.env)).any (·.1) = false := by rfl) :
    EX X J (.Call (.Attribute o "join" apos) [e] [] cpos) ρ M P :=
  ex_join (h.imp fun d M1 q => by
    obtain ⟨z, e1, q⟩ := q
    exact ⟨z, e1, q.imp fun d2 M2 q => by
      obtain ⟨dy, r, w, h1, k⟩ := q
      exact jn w h1 k⟩) (hbase := hbase) (hline := line) (hs := hst)
theorem ex_extendF (h : EX X J o ρ M fun d M1 => ∃ q l, d = .adr q ∧ M1 q = some (.lst l) ∧ EX X J e ρ M1 fun y M2 => ∃ dy l f l', Vw M2 y dy ∧ At M2 q (.lst l) f ∧ lExt l dy = some l' ∧ P .non (f (.lst l')))
    (hbase : attributeBase o "extend" X.env (eval o X.env) = eval o X.env := by rfl)
    (few : ((backTo cpos (starEach [e] X.env)).all (fun x => !x.1) && (backToKw cpos (keywordEach [] X.env)).all (fun x => x.1.isSome) && decide ([e].length + ([] : List Keyword).length + (if ([] : List Keyword).isEmpty then 0 else 1) < 30)) = true := by rfl)
    (line : (apos.endLine == cpos.line) = true := by rfl) (hst : starEach [e] X.env = (false, eval e X.env) :: starEach [] X.env := by rfl) (hpl : (backTo cpos (starEach [] X.env)).any (·.1) = false := by rfl) :
    EX X J (.Call (.Attribute o "extend" apos) [e] [] cpos) ρ M P :=
  ex_extend (h.imp fun d M1 q => by
    obtain ⟨a, l, e1, h1, q⟩ := q
    refine ⟨a, l, e1, h1, ax_cons (q.imp fun y M2 q => ax_nil ?_) hst⟩
    obtain ⟨dy, l, f, l', w, A, h2, k⟩ := q
    exact extK h2 w A k) hbase few line hst hpl
theorem ex_popF (h : EX X J o ρ M fun d M1 => ∃ q l, d = .adr q ∧ M1 q = some (.lst l) ∧ EX X J e ρ M1 fun y M2 => ∃ l f r, At M2 q (.lst l) f ∧ lPopAt l y = some r ∧ P r.1 (f (.lst r.2)))
    (hbase : attributeBase o "pop" X.env (eval o X.env) = eval o X.env := by rfl)
    (few : ((backTo cpos (starEach [e] X.env)).all (fun x => !x.1) && (backToKw cpos (keywordEach [] X.env)).all (fun x => x.1.isSome) && decide ([e].length + ([] : List Keyword).length + (if ([] : List Keyword).isEmpty then 0 else 1) < 30)) = true := by rfl)
    (line : (apos.endLine == cpos.line) = true := by rfl) (hst : starEach [e] X.env = (false, eval e X.env) :: starEach [] X.env := by rfl) (hpl : (backTo cpos (starEach [] X.env)).any (·.1) = false := by rfl) :
    EX X J (.Call (.Attribute o "pop" apos) [e] [] cpos) ρ M P :=
  ex_pop (h.imp fun d M1 q => by
    obtain ⟨a, l, e1, h1, q⟩ := q
    refine ⟨a, l, e1, h1, ax_cons (q.imp fun y M2 q => ax_nil ?_) hst⟩
    obtain ⟨l, f, r, A, h2, k⟩ := q
    exact popK h2 A k) hbase few line hst hpl
theorem ex_lstripF (h : EX X J o ρ M fun d M1 => ∃ z, d = .str z ∧ EX X J e ρ M1 fun d2 M2 => ∃ dy r, Vw M2 d2 dy ∧ dLstrip z dy = some r ∧ P r M2)
    (hbase : attributeBase o "lstrip" X.env (eval o X.env) = eval o X.env := by rfl)
    (few : ((backTo cpos (starEach [e] X.env)).all (fun x => !x.1) && (backToKw cpos (keywordEach [] X.env)).all (fun x => x.1.isSome) && decide ([e].length + ([] : List Keyword).length + (if ([] : List Keyword).isEmpty then 0 else 1) < 30)) = true := by rfl)
    (line : (apos.endLine == cpos.line) = true := by rfl) (hst : starEach [e] X.env = (false, eval e X.env) :: starEach [] X.env := by rfl) (hpl : (backTo cpos (starEach [] X.env)).any (·.1) = false := by rfl) :
    EX X J (.Call (.Attribute o "lstrip" apos) [e] [] cpos) ρ M P :=
  ex_lstrip (h.imp fun d M1 q => by
    obtain ⟨z, e1, q⟩ := q
    refine ⟨z, e1, ax_cons (q.imp fun y M2 q => ax_nil ?_) hst⟩
    obtain ⟨dy, r, w, h1, k⟩ := q
    exact lstripK h1 w k) hbase few line hst hpl
theorem ex_tupRF {p' pos' : Pos} (hc : X.calm = true) (hmt : X.mg "tuple" = none) (hm : X.mg "range" = none) (h : AX X J (a :: es) ρ M fun vs M1 => ∃ ds, dRange vs = some ds ∧ (∀ i j c, vs = [.int i, .int j, .int c] → c = -1) ∧ P (.tup ds) M1) (hgt : Gl X "tuple" := by rfl) (hg : Gl X "range" := by rfl)
    (na : starEach [.Call (.Name "range" p') (a :: es) [] pos'] X.env = (false, eval (.Call (.Name "range" p') (a :: es) [] pos') X.env) :: starEach [] X.env := by rfl) (he : starEach (a :: es) X.env = (false, eval a X.env) :: starEach es X.env := by rfl) (hpl : (backTo pos' (starEach es X.env)).any (·.1) = false := by rfl) : EX X J (.Call (.Name "tuple" p) [.Call (.Name "range" p') (a :: es) [] pos'] [] pos) ρ M P :=
  ex_tupR hc hmt hm (h.imp fun vs M1 q => by
    obtain ⟨ds, h1, h2, k⟩ := q
    exact rgkT h1 h2 k) (hgt := hgt) (hg := hg) (hs := he) (hpl := hpl) (na := na)
theorem ex_lstRF {p' pos' : Pos} (hc : X.calm = true) (hmt : X.mg "list" = none) (hm : X.mg "range" = none) (h : AX X J (a :: es) ρ M fun vs M1 => ∃ ds, dRange vs = some ds ∧ (∀ i j c, vs = [.int i, .int j, .int c] → c = -1) ∧ P (.lst ds) M1) (hgt : Gl X "list" := by rfl) (hg : Gl X "range" := by rfl)
    (na : starEach [.Call (.Name "range" p') (a :: es) [] pos'] X.env = (false, eval (.Call (.Name "range" p') (a :: es) [] pos') X.env) :: starEach [] X.env := by rfl) (he : starEach (a :: es) X.env = (false, eval a X.env) :: starEach es X.env := by rfl) (hpl : (backTo pos' (starEach es X.env)).any (·.1) = false := by rfl) : EX X J (.Call (.Name "list" p) [.Call (.Name "range" p') (a :: es) [] pos'] [] pos) ρ M P :=
  ex_lstR hc hmt hm (h.imp fun vs M1 q => by
    obtain ⟨ds, h1, h2, k⟩ := q
    exact rgkL h1 h2 k) (hgt := hgt) (hg := hg) (hs := he) (hpl := hpl) (na := na)
theorem ex_lstRMF {p' pos' : Pos} (hc : X.calm = true) (hmt : X.mg "list" = none) (hm : X.mg "range" = none) (h : AX X J (a :: es) ρ M fun vs M1 => ∃ ds, dRange vs = some ds ∧ (∀ i j c, vs = [.int i, .int j, .int c] → c = -1) ∧ ∀ q, M1 q = none → P (.adr q) (up M1 q (.lst ds))) (hgt : Gl X "list" := by rfl) (hg : Gl X "range" := by rfl)
    (na : starEach [.Call (.Name "range" p') (a :: es) [] pos'] X.env = (false, eval (.Call (.Name "range" p') (a :: es) [] pos') X.env) :: starEach [] X.env := by rfl) (he : starEach (a :: es) X.env = (false, eval a X.env) :: starEach es X.env := by rfl) (hpl : (backTo pos' (starEach es X.env)).any (·.1) = false := by rfl) : EX X J (.Call (.Name "list" p) [.Call (.Name "range" p') (a :: es) [] pos'] [] pos) ρ M P :=
  ex_lstRM hc hmt hm (h.imp fun vs M1 q => by
    obtain ⟨ds, h1, h2, k⟩ := q
    exact rgkM h1 h2 k) (hgt := hgt) (hg := hg) (hs := he) (hpl := hpl) (na := na)
end
end
end DX
/-! more that the data do: how many different ones, backwards -/
namespace DX
open PySem PySem.Spec L2
open PyProof.Rows hiding St
section
variable {X : Cx} {J : Gh} {e a b c o : Expr} {es : List Expr} {ρ : DEnv} {M : Mem} {F F' H H' : Hp} {σ : St} {K : PySem.W.Frag} {pos p q apos cpos : Pos} {P : D → Mem → Prop}
/-- the numbers, each once -/
def difI : List Int → List Int
  | [] => []
  | n :: ns => if n ∈ ns then difI ns else n :: difI ns
theorem difI_mem : ∀ {ns : List Int} {k : Int}, k ∈ difI ns ↔ k ∈ ns
  | [], k => Iff.rfl
  | n :: ns, k => by
    unfold difI
    split
    · rename_i h
      rw [difI_mem, List.mem_cons]
      exact ⟨.inr, fun q => q.elim (fun e => e ▸ h) id⟩
    · rw [List.mem_cons, List.mem_cons, difI_mem]
theorem difI_nd : ∀ {ns : List Int}, (difI ns).Nodup
  | [] => List.nodup_nil
  | n :: ns => by
    unfold difI
    split
    · exact difI_nd
    · rename_i h
      exact List.nodup_cons.mpr ⟨fun q => h (difI_mem.mp q), difI_nd⟩
theorem nd_len : ∀ {l m : List Int}, l.Nodup → (∀ k ∈ l, k ∈ m) → l.length ≤ m.length
  | [], m, _, _ => Nat.zero_le _
  | a :: l, m, h, s => by
    have h := List.nodup_cons.mp h
    have ha := s a List.mem_cons_self
    have := nd_len (m := m.erase a) h.2 fun k hk => (List.mem_erase_of_ne (a := k) (b := a) (fun e => h.1 (by rw [← e]; exact hk))).mpr (s k (List.mem_cons_of_mem _ hk))
    have h3 := List.length_erase_of_mem ha
    have h4 := List.length_pos_of_mem ha
    rw [List.length_cons]; omega
theorem nd_eq {l m : List Int} (hl : l.Nodup) (hm : m.Nodup) (h : ∀ k, k ∈ l ↔ k ∈ m) : l.length = m.length := Nat.le_antisymm (nd_len hl fun k hk => (h k).mp hk) (nd_len hm fun k hk => (h k).mpr hk)
theorem met_spec (val : Nat → Int) : ∀ n, (firstMet val n).Nodup ∧ ∀ k, k ∈ firstMet val n ↔ ∃ j, j < n ∧ val j = k
  | 0 => ⟨List.nodup_nil, fun k => ⟨fun h => absurd h List.not_mem_nil, fun ⟨j, h, _⟩ => absurd h (Nat.not_lt_zero j)⟩⟩
  | n + 1 => by
    obtain ⟨h1, h2⟩ := met_spec val n
    rw [firstMet_succ]
    unfold step_dedup
    split
    · rename_i hb
      obtain ⟨y, hy, ey⟩ := List.any_eq_true.mp hb
      have ey := eq_of_beq ey
      refine ⟨h1, fun k => ⟨fun h => ?_, fun ⟨j, hj, e⟩ => ?_⟩⟩
      · obtain ⟨j, hj, e⟩ := (h2 k).mp h
        exact ⟨j, Nat.lt_succ_of_lt hj, e⟩
      · rcases Nat.lt_succ_iff_lt_or_eq.mp hj with hj | rfl
        · exact (h2 k).mpr ⟨j, hj, e⟩
        · rw [← e, ← ey]; exact hy
    · rename_i hb
      have hno : val n ∉ firstMet val n := fun q => hb (List.any_eq_true.mpr ⟨_, q, by simp⟩)
      refine ⟨List.nodup_append.mpr ⟨h1, by simp, fun a ha b hb => ?_⟩, fun k => ?_⟩
      · rw [List.mem_singleton] at hb
        rw [hb]; exact fun e => hno (e ▸ ha)
      · rw [List.mem_append, h2, List.mem_singleton]
        constructor
        · rintro (⟨j, hj, e⟩ | rfl)
          · exact ⟨j, Nat.lt_succ_of_lt hj, e⟩
          · exact ⟨n, Nat.lt_succ_self n, rfl⟩
        · rintro ⟨j, hj, e⟩
          rcases Nat.lt_succ_iff_lt_or_eq.mp hj with hj | rfl
          · exact .inl ⟨j, hj, e⟩
          · exact .inr e.symm
theorem met_len {ns : List Int} : (firstMet (fun i => ns.getD i 0) ns.length).length = (difI ns).length :=
  nd_eq (met_spec _ _).1 difI_nd fun k => by
    rw [(met_spec _ _).2, difI_mem, List.mem_iff_getElem?]
    constructor
    · rintro ⟨j, hj, e⟩
      exact ⟨j, by rw [← e, List.getD_eq_getElem?_getD, List.getElem?_eq_getElem hj]; rfl⟩
    · rintro ⟨j, e⟩
      obtain ⟨hj, e2⟩ := List.getElem?_eq_some_iff.mp e
      exact ⟨j, hj, by rw [List.getD_eq_getElem?_getD, e]; rfl⟩
def tDif (K : PySem.W.Frag) (ta : TE) : TE := fun σ H Q => ta σ H fun x H1 => ∃ l : Addr, ∃ ns : List Int, x = .ref l ∧ (SqL K H1 l (ns.map V.int) ∨ SqT K H1 l (ns.map V.int)) ∧ ns.length ≤ 4000 ∧ Q (.int ((difI ns).length : Nat)) H1
theorem pe_dif {p2 : Pos} {ta : TE} (hg : Gl X "len") (hm : X.mg "len" = none) (hg2 : Gl X "set") (hm2 : X.mg "set" = none) (ha : PE X a ta) (hc : X.calm = true)
    (hs : starEach [a] X.env = (false, eval a X.env) :: starEach [] X.env) : PE X (.Call (.Name "len" p) [.Call (.Name "set" p2) [a] [] q] [] pos) (tDif X.K ta) := by
  constructor
  intro pins s σ H Q I h
  refine Call_ (ld_blt I hg hm boot_len (PyProof.Rows.callWith_builtin1 (PyProof.Rows.args_cons ?_ rfl) rfl rfl))
  refine Call_ (ld_blt I hg2 hm2 boot_set (PyProof.Rows.callWith_type1 (PyProof.Rows.args_cons (thn (ha.run pins s σ H _ I h) ?_) hs) hs rfl))
  intro v s1 hq
  obtain ⟨x, H1, I1, r1, l, ns, rfl, hq, hl, q1⟩ := hq
  cases r1
  refine PyProof.Rows.args_nil ?_
  rcases hq with hq | hq
  · obtain ⟨its, r, pl, hz⟩ := I1.list hq
    have hn : its.toArray.size = ns.length := by rw [List.size_toArray, ← r.length, List.length_map]
    have hb : its.toArray.size + 1 < scanBound := by rw [hn]; unfold scanBound; omega
    refine call_set_list (I1.ok.hd hc) pl.isList (by simpa using RZ.intsAre_vals r) hb fun h' tk hS hk => ?_
    rw [hn] at hS
    obtain ⟨o, es, ep, t, ho, hex, hd, _, _, _, hf, hk2⟩ := hS
    have hle := firstMet_length_le (fun i => ns.getD i 0) ns.length
    refine PyProof.Rows.args_nil (call_len_set ho hex hd hf (by rw [hk2]; omega) ?_)
    exact ⟨.int (difI ns).length, H1, (I1.kept fun b o e => hk b o (Heap.lt_size e) e).tok _, ⟨_, by rw [hk2, met_len]⟩, q1⟩
  · obtain ⟨its, r, pl, hz⟩ := I1.tuple hq
    refine call_set_tupI ns (I1.ok.hd hc) pl (by simpa using RZ.intsAre_vals r) (by unfold scanBound; omega) fun h' tk c hS hcn hk => ?_
    obtain ⟨o, es, ep, t, ho, hex, hd, _, hnd, hmem, _, hf, hk2, _⟩ := hS
    have hlen : es.size = (difI ns).length := by
      have := nd_eq hnd (difI_nd (ns := ns)) fun k => by rw [← hmem k, difI_mem, decide_eq_true_eq]
      rw [List.length_map] at this
      simpa using this
    refine PyProof.Rows.args_nil (call_len_set ho hex hd hf (by omega) ?_)
    exact ⟨.int (difI ns).length, H1, (I1.kept hk).tok _, ⟨_, by rw [hlen]⟩, q1⟩
/-- len(set(x)) -/
noncomputable def dLenSet : D → Option D
  | .lst ds => (intsD ds).bind fun ns => chk (ns.length ≤ 4000) (.int ((difI ns).length : Int))
  | .tup ds => (intsD ds).bind fun ns => chk (ns.length ≤ 4000) (.int ((difI ns).length : Int))
  | _ => none
theorem ex_lenSetF {p2 : Pos} (hc : X.calm = true) (hm : X.mg "len" = none) (hm2 : X.mg "set" = none) (h : EX X J a ρ M fun d M1 => ∃ dx z, Vw M1 d dx ∧ dLenSet dx = some z ∧ P z M1) (hg : Gl X "len" := by rfl) (hg2 : Gl X "set" := by rfl)
    (hs : starEach [a] X.env = (false, eval a X.env) :: starEach [] X.env := by rfl) : EX X J (.Call (.Name "len" p) [.Call (.Name "set" p2) [a] [] q] [] pos) ρ M P :=
  ex_of (pe_dif hg hm hg2 hm2 pe_any hc hs) fun F σ H Q st k => h.go st fun d v M1 F1 H1 q e1 o1 r1 => by
    obtain ⟨dx, z, w, hz, q⟩ := q
    unfold dLenSet at hz
    split at hz
    · obtain ⟨ns, h1, h2⟩ := Option.bind_eq_some_iff.mp hz
      obtain ⟨hl, rfl⟩ := chk_inv h2
      rw [ints_eq h1] at w
      obtain ⟨l, xs, rfl, g1, r2⟩ := w.sl.get o1 r1
      rw [Rps.ints r2] at g1
      exact ⟨l, ns, rfl, .inl (SqL.of g1), hl, k _ _ _ _ _ q e1 o1 (.int _)⟩
    · obtain ⟨ns, h1, h2⟩ := Option.bind_eq_some_iff.mp hz
      obtain ⟨hl, rfl⟩ := chk_inv h2
      rw [ints_eq h1] at w
      have r1 := w.rtup o1 r1
      cases r1 with
      | tup g1 r2 =>
        rw [Rps.ints r2] at g1
        exact ⟨_, ns, rfl, .inr (same_t o1.ex g1), hl, k _ _ _ _ _ q e1 o1 (.int _)⟩
    · cases hz
/-- x[::-1] -/
def dRev : D → Option D
  | .lst ds => some (.lst ds.reverse)
  | .tup ds => some (.tup ds.reverse)
  | _ => none
theorem ex_revF {kk : Nat} {p1 p2 p3 : Pos} {v dx z : D} {M2 : Mem} (w : Vw M2 v dx) (h : EX X J e ρ M fun d M1 => d = v ∧ M1 = M2) (hz : dRev dx = some z) (k : P z M2) :
    EX X J (.Subscript e (.Slice none none (some (.UnaryOp .USub (.Constant (.int 1) kk p1) p2)) p3) pos) ρ M P := by
  unfold dRev at hz
  split at hz
  · rename_i ds; cases hz; exact ex_revL (h.imp fun d M1 q => ⟨ds, by rw [q.1, q.2]; exact w.sl, by rw [q.2]; exact k⟩)
  · cases hz
    cases w with
    | id => rename_i ds; exact ex_unst (ex_revT (h.imp fun d M1 q => ⟨ds, q.1, _, rfl, by rw [q.2]; exact k⟩))
    | ad h1 h2 => cases h2
  · cases hz
end
end DX
/-! instances as data: fields, constants of the class (begun) -/
namespace DX
open PySem PySem.Spec L2
open PyProof.Rows hiding St
section
variable {X : Cx} {J : Gh} {e a b c o : Expr} {es : List Expr} {ρ : DEnv} {M : Mem} {F F' H H' : Hp} {σ : St} {K : PySem.W.Frag} {pos p q apos cpos : Pos} {P : D → Mem → Prop} {f : Str}
/-- an instance, or the place of one that may change -/
inductive Iw (M : Mem) : D → D → Prop
  | id {d : D} : Iw M d d
  | ad {p : Addr} {d : D} : M p = some d → Iw M (.adr p) d
theorem Iw.is {d : D} {C : Addr} {gs : List (Str × D)} (w : Iw M d (.ins C gs)) : Is M d C gs := by
  cases w with
  | id => exact .frz
  | ad h => exact .adr h
/-- e.f, a field of an instance of one of the classes L -/
def dFld (L : List Addr) (f : Str) : D → Option D
  | .ins C gs => if C ∈ L then gs.lookup f else none
  | _ => none
theorem ex_fldF {L : List Addr} (hL : ∀ C ∈ L, Cls X.K C ∧ NoAttr X.K C f) (h : EX X J e ρ M fun d M1 => ∃ dx z, Iw M1 d dx ∧ dFld L f dx = some z ∧ P z M1) (hb : attributeBase e f X.env (eval e X.env) = eval e X.env := by rfl) : EX X J (.Attribute e f pos) ρ M P :=
  ex_fld (h.imp fun d M1 q => by
    obtain ⟨dx, z, w, hz, q⟩ := q
    unfold dFld at hz
    split at hz
    · split at hz
      · rename_i C gs hC
        obtain ⟨h1, h2⟩ := hL C hC
        exact ⟨C, gs, z, w.is, h1, h2, hz, q⟩
      · cases hz
    · cases hz) hb
/-- e.f, a constant of the class: for each class its value -/
def dCon (L : List (Addr × D)) (f : Str) : D → Option D
  | .ins C gs => if gs.lookup f = none then L.lookup C else none
  | _ => none
theorem lookup_in {L : List (Addr × D)} {C : Addr} {z : D} (h : L.lookup C = some z) : (C, z) ∈ L := by
  induction L with
  | nil => cases h
  | cons x L ih =>
    obtain ⟨a, d⟩ := x
    rw [List.lookup_cons] at h
    by_cases e : C = a
    · subst e
      simp at h
      rw [h]; exact List.mem_cons_self
    · have : (C == a) = false := by simpa using e
      rw [this] at h
      exact List.mem_cons_of_mem _ (ih h)
theorem ex_conF {L : List (Addr × D)} (hL : ∀ q ∈ L, Cls X.K q.1 ∧ ∃ v u, Con X.K q.1 f v u ∧ ∀ F, Rp X.K F v q.2) (h : EX X J e ρ M fun d M1 => ∃ dx z, Iw M1 d dx ∧ dCon L f dx = some z ∧ P z M1) (hb : attributeBase e f X.env (eval e X.env) = eval e X.env := by rfl) : EX X J (.Attribute e f pos) ρ M P :=
  ex_con (h.imp fun d M1 q => by
    obtain ⟨dx, z, w, hz, q⟩ := q
    unfold dCon at hz
    split at hz
    · split at hz
      · rename_i C gs hg
        obtain ⟨h1, v, u, h2, h3⟩ := hL _ (lookup_in hz)
        exact ⟨C, gs, v, u, z, w.is, h1, h2, hg, h3, q⟩
      · cases hz
    · cases hz) hb
/-- o.m(e, ..), m a method of the class C -/
theorem ex_meth {k : Nat} {C g : Addr} {m : Str} {fd : FuncData} {ps : List Str} {T : Tr} {dvs : List V} {dds : List D} {ds : List Value} {pl : Sem Bool} (c : Cls X.K C) (hm : Meth X.K C m g) (G : FnOk X.prog X.w X.K X.mg X.base CX0 k g fd ps (SpD X.K T)) (hr : Room k X.A)
    (hb : Binds X.K fd ps ds) (hd : Vals dvs ds) (hdd : ∀ F, Rps X.K F dvs dds) (h : EX X J o ρ M fun d M1 => ∃ gs, Is M1 d C gs ∧ gs.lookup m = none ∧ AX X J (e :: es) ρ M1 fun ws M2 => T ((d :: ws) ++ dds) M2 P)
    (hst : starEach (e :: es) X.env = (false, eval e X.env) :: starEach es X.env := by rfl) (hpl : (backTo pos (starEach es X.env)).any (·.1) = false := by rfl)
    (ht : eval (.Call (.Attribute o m apos) (e :: es) [] pos) X.env = (do let ov ← eval o X.env; standAt apos.atName; let (u, first) ← holding [ov] (getMethod ov m pl); callWith pos u first (backTo pos (starEach (e :: es) X.env)) (backToKw pos (keywordEach [] X.env))) := by rfl) : EX X J (.Call (.Attribute o m apos) (e :: es) [] pos) ρ M P :=
  ex_of (pe_meth (E := E0) pe_any c hm G hr hb hd pass0 pa_any hst hpl ht) fun F σ H Q st k => h.go st fun d v M1 F1 H1 q e1 o1 r1 => by
    obtain ⟨gs, hi, hl, t⟩ := q
    obtain ⟨a, dx, fs, rfl, h1, h2⟩ := hi.get o1 r1
    rcases h2.look (f := m) with ⟨h3, _⟩ | ⟨w, d', h3, h4, h5⟩
    · exact ⟨a, dx, fs, rfl, h1, h3, t.go (st.to e1 o1) fun ws vs M2 F2 H2 q2 e2 o2 r2 => ⟨F2, M2, _, P, o2, (Rps.cons (r1.mono e2) r2).append (hdd F2), q2, k.to (e1.trans e2)⟩⟩
    · rw [h4] at hl; cases hl
/-- o.m() -/
theorem ex_meth0 {k : Nat} {C g : Addr} {m : Str} {fd : FuncData} {ps : List Str} {T : Tr} {dvs : List V} {dds : List D} {ds : List Value} {pl : Sem Bool} (c : Cls X.K C) (hm : Meth X.K C m g) (G : FnOk X.prog X.w X.K X.mg X.base CX0 k g fd ps (SpD X.K T)) (hr : Room k X.A)
    (hb : Binds X.K fd ps ds) (hd : Vals dvs ds) (hdd : ∀ F, Rps X.K F dvs dds) (h : EX X J o ρ M fun d M1 => ∃ gs, Is M1 d C gs ∧ gs.lookup m = none ∧ T (d :: dds) M1 P)
    (ht : eval (.Call (.Attribute o m apos) [] [] pos) X.env = (do let ov ← eval o X.env; standAt apos.atName; let (u, first) ← holding [ov] (getMethod ov m pl); callWith pos u first (backTo pos (starEach [] X.env)) (backToKw pos (keywordEach [] X.env))) := by rfl) : EX X J (.Call (.Attribute o m apos) [] [] pos) ρ M P :=
  ex_of (pe_meth0 (E := E0) pe_any c hm G hr hb hd pass0 ht) fun F σ H Q st k => h.go st fun d v M1 F1 H1 q e1 o1 r1 => by
    obtain ⟨gs, hi, hl, t⟩ := q
    obtain ⟨a, dx, fs, rfl, h1, h2⟩ := hi.get o1 r1
    rcases h2.look (f := m) with ⟨h3, _⟩ | ⟨w, d', h3, h4, h5⟩
    · exact ⟨a, dx, fs, rfl, h1, h3, F1, M1, _, P, o1, .cons r1 (hdd F1), t, k.to e1⟩
    · rw [h4] at hl; cases hl
/-- one class or another -/
theorem ex_ite {cd : Prop} [Decidable cd] (h1 : cd → EX X J e ρ M P) (h2 : ¬ cd → EX X J e ρ M P) : EX X J e ρ M P := by
  by_cases q : cd
  · exact h1 q
  · exact h2 q
end
end DX
/-! defs that may let errors out: promises with two ends -/
namespace DX
open PySem PySem.Spec L2 PyProof.Rows StX
/-- what is let out: a class, the fields, what may change -/
abbrev RX := Addr → List (Str × D) → Mem → Prop
def noX : RX := fun _ _ _ => False
def ExR (K : PySem.W.Frag) (F : Hp) (C : Addr) (gs : List (Str × D)) (cls : Value) (d : Option Addr) : Prop :=
  cls = .ref C ∧ ((gs = [] ∧ d = none) ∨ ∃ dd fs, d = some dd ∧ F dd = some (.xd fs) ∧ Rfs K F fs gs)
def Kx (K : PySem.W.Frag) (F : Hp) (R : RX) (E : XK) : Prop := ∀ C gs M' F' H' cls d, R C gs M' → Same F F' → Ok K F' M' H' → ExR K F' C gs cls d → E cls d H'
theorem Kx.to {K : PySem.W.Frag} {F F' : Hp} {R : RX} {E : XK} (k : Kx K F R E) (e : Same F F') : Kx K F' R E := fun C gs M' F2 H' cls d r e2 => k C gs M' F2 H' cls d r (e.trans e2)
theorem Kx.no {K : PySem.W.Frag} {F : Hp} {E : XK} : Kx K F noX E := fun _ _ _ _ _ _ _ r => r.elim
abbrev TrB := List D → Mem → (D → Mem → Prop) → RX → Prop
abbrev TrX := List D → List D → Mem → (D → Mem → Prop) → RX → Prop
structure FnX (pg : Program) (w : World) (K : PySem.W.Frag) (mg : Str → Option Value) (base : Heap) (gd : Bool) (k : Nat) (f : Addr) (ks : List Str) (T : TrX) : Prop where
  go : ∀ (A : Around) (outer : List PySem.Env) (s : Shared) (H F : Hp) (M : Mem) (ds zs : List D) (P : D → Mem → Prop) (R : RX) (us ws : List Value) (vs xs : List V) (Q : VK) (E : XK), (gd = true → A.guards = some []) → Room k A → Env0 pg w K mg base A outer s H →
    Vals vs us → Vals xs ws → ws.length = ks.length → Ok K F M H → Rps K F vs ds → Rps K F xs zs → T ds zs M P R → Kt K F P Q → Kx K F R E → codeAny (model pg w) A (.call (.ref f) ⟨us, ks.zip ws⟩) (CR (L2.CX pg w) outer pg w H s Q E) s
theorem FnX.mono {pg : Program} {w : World} {K : PySem.W.Frag} {mg : Str → Option Value} {base : Heap} {gd : Bool} {j k : Nat} {f : Addr} {ks : List Str} {T : TrX} (G : FnX pg w K mg base gd j f ks T) (h : j ≤ k) : FnX pg w K mg base gd k f ks T :=
  ⟨fun A outer s H F M ds zs P R us ws vs xs Q E hg hr => G.go A outer s H F M ds zs P R us ws vs xs Q E hg (hr.mono h)⟩
/-- what stood at the beginning stands -/
def ghF (F0 : Hp) : Gh := ⟨fun F => Same F0 F, fun F F' e h => Same.trans h e⟩
/-- the context lets out what R tells -/
structure Lets (X : Cx) (J : Gh) (R : Addr → List (Str × D) → DEnv → Mem → Prop) : Prop where
  ex : ∃ W : L2.WX, Takes X W ∧ ∀ cls d σ H F ρ M C gs, Sts X.K J F σ H ρ M → ExR X.K F C gs cls d → R C gs ρ M → W cls d σ H
theorem takes_no {X : Cx} : Takes X (fun _ _ _ _ => False) := fun _ _ x => by
  obtain ⟨_, _, _, _, _, _, _, _, _, _, _, _, _, _, _, _, z⟩ := x
  exact z.elim
theorem Lets.no {X : Cx} {J : Gh} : Lets X J (fun _ _ _ _ => False) := ⟨_, takes_no, fun _ _ _ _ _ _ _ _ _ _ _ r => r⟩
/-- the def at f has the code cdv -/
def CodeAt (K : PySem.W.Frag) (f : Addr) (cdv : Value) : Prop := ∃ oc od osl fd, K.lookup f = some ⟨oc, od, .func fd, osl⟩ ∧ fd.code = cdv
def BodyX (pg : Program) (w : World) (K : PySem.W.Frag) (mg : Str → Option Value) (base : Heap) (gd : Bool) (k : Nat) (f : Addr) (qual : Str) (body : List Stmt) (scope : Scope) (N ps : List Str) (T : TrB) : Prop :=
  ∀ (cdv : Value), CodeAt K f cdv → ∀ (A : Around) (outer : List PySem.Env) (s : Shared) (H F0 : Hp) (E : XK) (ds : List D) (M : Mem) (P : D → Mem → Prop) (R : RX), (gd = true → A.guards = some []) → Room k (A.deeper (PyProof.Rows.envOfC qual scope s.heap.objs.size f cdv)) → T ds M P R →
      Lets (cxOf (L2.CX pg w) pg w K mg base N qual scope f cdv A outer s H E) (ghF F0) (fun C gs _ M' => R C gs M') →
      PassesOwn (model pg w) (cxOf (L2.CX pg w) pg w K mg base N qual scope f cdv A outer s H E).A (cxOf (L2.CX pg w) pg w K mg base N qual scope f cdv A outer s H E).env (cxOf (L2.CX pg w) pg w K mg base N qual scope f cdv A outer s H E).xe →
      Kx K F0 R E →
      GX (cxOf (L2.CX pg w) pg w K mg base N qual scope f cdv A outer s H E) (ghF F0) body (startD (N.length - ps.length) ds) M ⟨fun _ M' => P .non M', P, fun _ _ => False, fun _ _ => False⟩
section
variable {pg : Program} {w : World} {K : PySem.W.Frag} {mg : Str → Option Value} {base : Heap} {x qual : Str} {params : Arguments} {body : List Stmt} {scope : Scope} {kws : List (Str × V)} {f : Addr} {fd : FuncData} {N pn : List Str} {pv : Str} {k : Nat} {T : TrB} {gd : Bool}
theorem lets_body {F0 : Hp} {R : RX} {E : XK} {cdv : Value} {A : Around} {outer : List PySem.Env} {s : Shared} {H : Hp} (kx : Kx K F0 R E) :
    Lets (cxOf (L2.CX pg w) pg w K mg base N qual scope f cdv A outer s H E) (ghF F0) (fun C gs _ M' => R C gs M') :=
  ⟨fun cls d _ H => E cls d H, takes_of rfl rfl rfl rfl, fun cls d σ H' F ρ M C gs st x r => kx C gs M F H' cls d r st.gh st.ok x⟩
theorem body_runX {ps : List Str} (B : BodyX pg w K mg base gd k f qual body scope N ps T) (cdv : Value) (hcv : CodeAt K f cdv) {A : Around} {outer : List PySem.Env} {s2 : Shared} {H2 F : Hp} {M : Mem} {ds : List D} {vs : List V} {P : D → Mem → Prop} {R : RX} {Q : VK} {E : XK}
    (hg : gd = true → A.guards = some []) (hr : Room k (A.deeper (PyProof.Rows.envOfC qual scope s2.heap.objs.size f cdv))) (hl : vs.length = ps.length) (o : Ok K F M H2) (rd : Rps K F vs ds) (t : T ds M P R) (kt : Kt K F P Q) (kx : Kx K F R E) :
    ∃ t, PSs (cxOf (L2.CX pg w) pg w K mg base N qual scope f cdv A outer s2 H2 E) body t ∧ t { nx := fun _ H' => Q .non H', rt := Q } (L2.start N vs) H2 := by
  have hb := B cdv hcv A outer s2 H2 F E ds M P R hg hr t (lets_body kx) (passes_of rfl) kx
  refine ⟨_, hb, F, ⟨?_, o, Same.refl F⟩, ⟨fun F' σ' H' ρ' M' p e en o' => kt _ _ _ _ _ p e o' .non, kt, fun F' σ' H' ρ' M' p => p.elim, fun F' σ' H' ρ' M' p => p.elim⟩⟩
  unfold L2.start
  rw [hl]
  exact En.start _ rd
end
end DX
/-! the shapes of calls -/
namespace DX
open PySem PySem.Spec L2 PyProof.Rows StX
section
variable {pg : Program} {w : World} {K : PySem.W.Frag} {mg : Str → Option Value} {base : Heap} {x qual : Str} {params : Arguments} {body : List Stmt} {scope : Scope} {kws : List (Str × V)} {f : Addr} {fd : FuncData} {N pn : List Str} {pv : Str} {k : Nat} {T : TrB} {gd : Bool}
/-- values by place, defaults behind, keywords -/
theorem fn_dflX {dvs : List V} {dds : List D} (F : FunD K x qual params body scope dvs kws f fd) (S : FnScope N pn scope) (B : BodyX pg w K mg base gd k f qual body scope N pn T) (hd : dvs ≠ []) (np : Nat) (ks : List Str) (ix : List Nat) (hdd : ∀ F, Rps K F dvs dds)
    (h : ∀ (T : Addr) (kV doc pm : Value) (an : Option Addr) (cdv ct : Value) (us its ws : List Value), us.length = np → its.length = dvs.length → ws.length = ks.length →
      ∃ k, bindArgs (PySem.W.fnOf x qual params body scope (.ref T) kV doc pm an cdv ct) ⟨us, ks.zip ws⟩ = seqItems? (.ref T) >>= k ∧ k (some its.toArray) = pure (pn.zip (pick (us ++ (its ++ ws)) ix)))
    (hix : ∀ (us its ws : List V), us.length = np → its.length = dvs.length → ws.length = ks.length → (pick (us ++ (its ++ ws)) ix).length = pn.length) :
    FnX pg w K mg base gd (k + 1) f ks (fun ds zs M P R => ds.length = np ∧ zs.length = ks.length ∧ T (pick (ds ++ (dds ++ zs)) ix) M P R) := by
  obtain ⟨oc, od, dV, kV, doc, pm, an, cdv, ct, osl, rfl, lk, hcd, hD, hK⟩ := F.ex
  rcases hD with ⟨e, _⟩ | ⟨_, TA, o, its, m, rfl, lT, oT, rT⟩
  · exact absurd e hd
  refine ⟨fun A outer s H F0 M ds zs P R us ws vs xs Q E hg hr e0 rv rx hw o1 rd rz t kt kx => ?_⟩
  obtain ⟨hd0, hzl, t⟩ := t
  have l1 : us.length = np := by rw [← rv.length, rd.length]; exact hd0
  have l2 : its.length = dvs.length := rT.length.symm
  have vl : (pick (vs ++ (dvs ++ xs)) ix).length = pn.length := hix _ _ _ (by rw [rv.length]; exact l1) rfl (by rw [rx.length]; exact hw)
  have vr : Vals (pick (vs ++ (dvs ++ xs)) ix) (pick (us ++ (its ++ ws)) ix) := pick_vals (rv.append (rT.append rx)) ix
  have KX : K.In s.heap := e0.mod.kin.keeps fun b o e => (e0.bs b o e).1
  refine run_bnd (CX := L2.CX pg w) (E := E) lk hcd S hr e0 (G := fun ys H2 => ys = pick (vs ++ (dvs ++ xs)) ix ∧ H2 = H) (fun A' Ex Q' hh => ?_) fun s2 H2 ys ⟨ey, eH⟩ hr' => ?_
  · obtain ⟨kk, e1, e2⟩ := h TA kV doc pm an cdv ct us its ws l1 l2 hw
    have lo := looks_items (M := model pg w) KX lT oT (.of_pure e2)
    rw [e1]
    exact lo.here (hh s H _ _ e0 Un.refl rfl (fun e s' z => z) vr vl ⟨rfl, rfl⟩)
  · subst ey eH
    exact body_runX B cdv ⟨_, _, _, _, lk, rfl⟩ hg hr' vl o1 (pick_rps (rd.append ((hdd F0).append rz)) ix) t kt kx
/-- no defaults by place: values, keywords, keyword-only defaults -/
theorem fn_kwX (F : FunD K x qual params body scope [] kws f fd) (S : FnScope N pn scope) (B : BodyX pg w K mg base gd k f qual body scope N pn T) (np : Nat) (ks : List Str) (ms : List (Str × V)) (mds : List D) (ix : List Nat)
    (hms : ∀ q ∈ ms, q ∈ kws) (hmd : ∀ F, Rps K F (ms.map (·.2)) mds)
    (h : ∀ (kV : Value) (D : Addr) (doc pm : Value) (an : Option Addr) (cdv ct : Value) (us mv ws : List Value), (kws ≠ [] → kV = .ref D) → us.length = np → mv.length = ms.length → ws.length = ks.length →
      KwChainE D (fun t => t = pure (pn.zip (pick (us ++ (mv ++ ws)) ix))) ((ms.map (·.1)).zip mv) (bindArgs (PySem.W.fnOf x qual params body scope .none kV doc pm an cdv ct) ⟨us, ks.zip ws⟩))
    (hix : ∀ (us mv ws : List V), us.length = np → mv.length = ms.length → ws.length = ks.length → (pick (us ++ (mv ++ ws)) ix).length = pn.length) :
    FnX pg w K mg base gd (k + 1) f ks (fun ds zs M P R => ds.length = np ∧ zs.length = ks.length ∧ T (pick (ds ++ (mds ++ zs)) ix) M P R) := by
  obtain ⟨oc, od, dV, kV, doc, pm, an, cdv, ct, osl, rfl, lk, hcd, hD, hK⟩ := F.ex
  obtain rfl : dV = .none := by
    rcases hD with ⟨_, e⟩ | ⟨e, _⟩
    · exact e
    · exact absurd rfl e
  obtain ⟨D, hkV, hq⟩ : ∃ D : Addr, (kws ≠ [] → kV = .ref D) ∧ ∀ q ∈ kws, ∃ u, PySem.W.nsIn K D q.1 = some (some u) ∧ RelV q.2 u := by
    rcases hK with e | ⟨D, e, hq⟩
    · exact ⟨0, fun z => absurd e z, fun q hq => by rw [e] at hq; cases hq⟩
    · exact ⟨D, fun _ => e, hq⟩
  obtain ⟨mv, hml, rmv, hmk⟩ := kwd_vals (ms := ms) fun q hm => hq q (hms q hm)
  refine ⟨fun A outer s H F0 M ds zs P R us ws vs xs Q E hg hr e0 rv rx hw o rd rz t kt kx => ?_⟩
  obtain ⟨hd0, hzl, t⟩ := t
  have l1 : us.length = np := by rw [← rv.length, rd.length]; exact hd0
  have lm : mv.length = ms.length := hml
  have vl : (pick (vs ++ (ms.map (·.2) ++ xs)) ix).length = pn.length := hix _ _ _ (by rw [rv.length]; exact l1) (by rw [List.length_map]) (by rw [rx.length]; exact hw)
  have vr : Vals (pick (vs ++ (ms.map (·.2) ++ xs)) ix) (pick (us ++ (mv ++ ws)) ix) := pick_vals (rv.append (rmv.append rx)) ix
  refine run_bnd (CX := L2.CX pg w) (E := E) lk hcd S hr e0 (G := fun ys H2 => ys = pick (vs ++ (ms.map (·.2) ++ xs)) ix ∧ H2 = H) (fun A' Ex Q' hh => ?_) fun s2 H2 ys ⟨ey, eH⟩ hr' => ?_
  · refine KwChainE.run (K := K) (e0.mod.kin.keeps fun b o e => (e0.bs b o e).1) (fun t et => ?_) (fun q hq => hmk q hq) (h kV D doc pm an cdv ct us mv ws hkV l1 lm hw)
    subst et
    exact wpAny_pure (hh s H _ _ e0 Un.refl rfl (fun e s' z => z) vr vl ⟨rfl, rfl⟩)
  · subst ey eH
    exact body_runX B cdv ⟨_, _, _, _, lk, rfl⟩ hg hr' vl o (pick_rps (rd.append ((hmd _).append rz)) ix) t kt kx
/-- a star parameter -/
theorem fn_starX (F : FunD K x qual params body scope [] kws f fd) (S : FnScope N (pn ++ [pv]) scope) (B : BodyX pg w K mg base gd k f qual body scope N (pn ++ [pv]) T) (np : Nat) (ks : List Str) (ms : List (Str × V)) (mds : List D) (ix : List Nat)
    (hms : ∀ q ∈ ms, q ∈ kws) (hmd : ∀ F, Rps K F (ms.map (·.2)) mds) (tp : List D → D) (htp : tp = .tup ∨ tp = .stup) (r0 : Bool)
    (h : ∀ (kV : Value) (D : Addr) (doc pm : Value) (an : Option Addr) (cdv ct : Value) (us rest mv ws : List Value), (kws ≠ [] → kV = .ref D) → (r0 = true → rest = []) → us.length = np → mv.length = ms.length → ws.length = ks.length →
      KwChainE D (fun t => t = (newTuple rest >>= fun t => pure (pn.zip (pick (us ++ (mv ++ ws)) ix) ++ [(pv, t)]))) ((ms.map (·.1)).zip mv) (bindArgs (PySem.W.fnOf x qual params body scope .none kV doc pm an cdv ct) ⟨us ++ rest, ks.zip ws⟩))
    (hix : ∀ (us mv ws : List V), us.length = np → mv.length = ms.length → ws.length = ks.length → (pick (us ++ (mv ++ ws)) ix).length = pn.length) :
    FnX pg w K mg base gd (k + 1) f ks (fun ds zs M P R => ∃ d0 dr, ds = d0 ++ dr ∧ d0.length = np ∧ zs.length = ks.length ∧ dr.length ≤ 1000000 ∧ (r0 = true → dr = []) ∧ T (pick (d0 ++ (mds ++ zs)) ix ++ [tp dr]) M P R) := by
  obtain ⟨oc, od, dV, kV, doc, pm, an, cdv, ct, osl, rfl, lk, hcd, hD, hK⟩ := F.ex
  obtain rfl : dV = .none := by
    rcases hD with ⟨_, e⟩ | ⟨e, _⟩
    · exact e
    · exact absurd rfl e
  obtain ⟨D, hkV, hq⟩ : ∃ D : Addr, (kws ≠ [] → kV = .ref D) ∧ ∀ q ∈ kws, ∃ u, PySem.W.nsIn K D q.1 = some (some u) ∧ RelV q.2 u := by
    rcases hK with e | ⟨D, e, hq⟩
    · exact ⟨0, fun z => absurd e z, fun q hq => by rw [e] at hq; cases hq⟩
    · exact ⟨D, fun _ => e, hq⟩
  obtain ⟨mv, hml, rmv, hmk⟩ := kwd_vals (ms := ms) fun q hm => hq q (hms q hm)
  refine ⟨fun A outer s H F0 M ds zs P R us0 ws vs xs Q E hg hr e0 rv rx hw o rd rz t kt kx => ?_⟩
  obtain ⟨d0, dr, rfl, hd0, hzl, hdr, hd00, t⟩ := t
  obtain ⟨v1, v2, rfl, rd1, rd2⟩ := Rps.split rd
  obtain ⟨us, rest, rfl, r1, r2⟩ := vals_split rv
  have l1 : us.length = np := by rw [← r1.length, rd1.length]; exact hd0
  have hz : rest.length ≤ sizeLine := by rw [← r2.length, rd2.length, sizeLine_eq]; omega
  have hn : H s.heap.objs.size = Option.none := e0.hok.fresh (Nat.le_refl _)
  have lm : mv.length = ms.length := hml
  have vl : (pick (v1 ++ (ms.map (·.2) ++ xs)) ix).length = pn.length := hix _ _ _ (by rw [r1.length]; exact l1) (by rw [List.length_map]) (by rw [rx.length]; exact hw)
  have vr : Vals (pick (v1 ++ (ms.map (·.2) ++ xs)) ix) (pick (us ++ (mv ++ ws)) ix) := pick_vals (r1.append (rmv.append rx)) ix
  refine run_bnd (CX := L2.CX pg w) (E := E) lk hcd S hr e0 (G := fun ys H2 => ∃ p, H p = Option.none ∧ ys = pick (v1 ++ (ms.map (·.2) ++ xs)) ix ++ [V.ref p] ∧ H2 = upd H p (.frz { cls := .type "tuple", data := .seq rest.toArray } (.tup v2))) (fun A' Ex Q' hh => ?_) fun s2 H2 ys ⟨p, hp, ey, eH⟩ hr' => ?_
  · refine KwChainE.run (K := K) (e0.mod.kin.keeps fun b o e => (e0.bs b o e).1) (fun t et => ?_) (fun q hq => hmk q hq) (h kV D doc pm an cdv ct us rest mv ws hkV (fun z => List.eq_nil_of_length_eq_zero (by rw [← r2.length, rd2.length, hd00 z]; rfl)) l1 lm hw)
    subst et
    refine wpAny_bind (wpAny_newTuple (wpAny_pure ?_) hz)
    have new : ObjOk pg w (upd H s.heap.objs.size (.frz { cls := .type "tuple", data := .seq rest.toArray } (.tup v2))) (s.heap.push ({ cls := .type "tuple", data := .seq rest.toArray } : Obj)) s.heap.objs.size (.frz { cls := .type "tuple", data := .seq rest.toArray } (.tup v2)) := ⟨Heap.get?_push_size _ rfl, by rw [r2.length]; exact hz, rest, r2, ⟨_, Heap.get?_push_size _ rfl, rfl, _, rfl⟩⟩
    have un := un_laid (fs := frs outer) (s := s) (o := ({ cls := .type "tuple", data := .seq rest.toArray } : Obj)) (u := .frz { cls := .type "tuple", data := .seq rest.toArray } (.tup v2)) hn
    have z := hh _ _ (pick (v1 ++ (ms.map (·.2) ++ xs)) ix ++ [V.ref s.heap.objs.size]) (pick (us ++ (mv ++ ws)) ix ++ [Value.ref s.heap.objs.size]) (env0_laid e0 new) un rfl (fun e s' z => cxUp outer s H _ _ E e s' un (fun b o q => Heap.get?_push_of_some _ q) (by rfl) z) (vr.append (.cons rfl .nil))
      (by rw [List.length_append, List.length_append, vl] <;> rfl) ⟨_, hn, rfl, rfl⟩
    rw [List.zip_append (by rw [← vr.length, vl])] at z
    exact z
  · subst ey eH
    have k0 := o.fixSame (o := .frz { cls := .type "tuple", data := .seq rest.toArray } (.tup v2)) hp
    have rt : Rp K (upd F0 p (.frz { cls := .type "tuple", data := .seq rest.toArray } (.tup v2))) (.ref p) (tp dr) := by
      rcases htp with e | e <;> rw [e]
      · exact .tup (.inl (.inr ⟨_, upd_same⟩)) (rd2.mono k0)
      · exact .stup upd_same ⟨rfl, rfl⟩ (rd2.mono k0)
    refine body_runX B cdv ⟨_, _, _, _, lk, rfl⟩ hg hr' (by rw [List.length_append, List.length_append, vl] <;> rfl) (o.fix hp) ((pick_rps ((rd1.mono k0).append ((hmd _).append (rz.mono k0))) ix).append (.cons rt .nil)) t (kt.to k0) (kx.to k0)
end
end DX
/-! calls of any kind: arguments first, then what is called -/
namespace DX
open PySem PySem.Spec L2 PyProof.Rows StX
section
variable {X : Cx} {J : Gh} {e a b o : Expr} {es : List Expr} {kws : List Keyword} {ks : List Str} {ρ : DEnv} {M M1 M2 : Mem} {F F' H H' : Hp} {σ : L2.St} {K : PySem.W.Frag} {pos p apos : Pos} {x m f : Str} {P : D → Mem → Prop} {PA : List D → List D → Mem → Prop} {RR : Addr → List (Str × D) → DEnv → Mem → Prop}
/-- the arguments are ds by place, zs by the keywords ks -/
def EvA (X : Cx) (J : Gh) (pos : Pos) (args : List Expr) (kws : List Keyword) (ks : List Str) (ρ : DEnv) (M : Mem) (PA : List D → List D → Mem → Prop) : Prop :=
  ∀ (fv : Value) (pins : List (Addr × Obj)) (σ : L2.St) (H F : Hp) (s : Shared) (Qa : Args → Shared → Prop), L2.Inv X pins σ H s → Sts X.K J F σ H ρ M →
    (∀ us ws vs xs ds zs F2 M2 H2 s2, L2.Inv X pins σ H2 s2 → Same F F2 → Ok X.K F2 M2 H2 → Vals vs us → Vals xs ws → Rps X.K F2 vs ds → Rps X.K F2 xs zs → zs.length = ks.length → PA ds zs M2 → Qa ⟨us, ks.zip ws⟩ s2) →
    wpAny (model X.prog X.w) X.A (evalArgs fv true (backTo pos (starEach args X.env)) (backToKw pos (keywordEach kws X.env))) Qa X.xe s
theorem ev_a (h : AX X J (e :: es) ρ M fun ds M1 => KX X J kws ρ M1 fun zs M2 => zs.length = ks.length ∧ PA ds zs M2) (hall : (backToKw pos (keywordEach kws X.env)).all (·.1.isSome) = true := by rfl) (hks : (backToKw pos (keywordEach kws X.env)).filterMap (·.1) = ks := by rfl)
    (he : starEach (e :: es) X.env = (false, eval e X.env) :: starEach es X.env := by rfl) : EvA X J pos (e :: es) kws ks ρ M PA := by
  intro fv pins σ H F s Qa I st k
  refine PyProof.Rows.evalArgs_kw2 hall (thn ((pa_any (X := X) (es := e :: es)).run pos pins s σ H (fun vs H1 => ∃ F1 M1 ds, Same F F1 ∧ Ok X.K F1 M1 H1 ∧ Rps X.K F1 vs ds ∧ KX X J kws ρ M1 fun zs M2 => zs.length = ks.length ∧ PA ds zs M2) I
    (h.go st fun ds vs M1 F1 H1 q e1 o1 r1 => ⟨F1, M1, ds, e1, o1, r1, q⟩)) fun us s1 ⟨vs, H1, I1, r, F1, M1, ds, e1, o1, rd, q⟩ => ?_) he
  refine thn ((pk_any (X := X) (kws := kws)).run pos pins s1 σ H1 (fun xs H2 => ∃ F2 M2 zs, Same F1 F2 ∧ Ok X.K F2 M2 H2 ∧ Rps X.K F2 xs zs ∧ zs.length = ks.length ∧ PA ds zs M2) I1 (q.go (st.to e1 o1) fun zs xs M2 F2 H2 q2 e2 o2 r2 => ⟨F2, M2, zs, e2, o2, r2, q2.1, q2.2⟩)) fun ws s2 ⟨xs, H2, I2, rx, F2, M2, zs, e2, o2, rz, hl, t⟩ => ?_
  rw [hks]
  exact k us ws vs xs ds zs F2 M2 H2 s2 I2 (e1.trans e2) o2 r rx (rd.mono e2) rz hl t
theorem ev_0 (h : KX X J kws ρ M fun zs M2 => zs.length = ks.length ∧ PA [] zs M2) (hall : (backToKw pos (keywordEach kws X.env)).all (·.1.isSome) = true := by rfl) (hks : (backToKw pos (keywordEach kws X.env)).filterMap (·.1) = ks := by rfl) : EvA X J pos [] kws ks ρ M PA := by
  intro fv pins σ H F s Qa I st k
  refine PyProof.Rows.evalArgs_kw2_nil hall (thn ((pk_any (X := X) (kws := kws)).run pos pins s σ H (fun xs H2 => ∃ F2 M2 zs, Same F F2 ∧ Ok X.K F2 M2 H2 ∧ Rps X.K F2 xs zs ∧ zs.length = ks.length ∧ PA [] zs M2) I (h.go st fun zs xs M2 F2 H2 q2 e2 o2 r2 => ⟨F2, M2, zs, e2, o2, r2, q2.1, q2.2⟩)) fun ws s2 ⟨xs, H2, I2, rx, F2, M2, zs, e2, o2, rz, hl, t⟩ => ?_)
  rw [hks]
  exact k [] ws [] xs [] zs F2 M2 H2 s2 I2 e2 o2 .nil rx .nil rz hl t
/-- ( *a, *b) -/
theorem ev_s2 {p1 p2 : Pos} (h : AX X J [.Starred a p1, .Starred b p2] ρ M fun ds M1 => PA ds [] M1) (he : starEach [.Starred a p1, .Starred b p2] X.env = [(true, eval a X.env), (true, eval b X.env)] := by rfl) : EvA X J pos [.Starred a p1, .Starred b p2] [] [] ρ M PA := by
  intro fv pins σ H F s Qa I st k
  have hh := (pa_any (X := X) (es := [.Starred a p1, .Starred b p2])).run pos pins s σ H (fun vs H1 => ∃ F1 M1 ds, Same F F1 ∧ Ok X.K F1 M1 H1 ∧ Rps X.K F1 vs ds ∧ PA ds [] M1) I
    (h.go st fun ds vs M1 F1 H1 q e1 o1 r1 => ⟨F1, M1, ds, e1, o1, r1, q⟩)
  rw [he] at hh ⊢
  exact evalArgs_two (thn hh fun us s1 ⟨vs, H1, I1, r, F1, M1, ds, e1, o1, rd, q⟩ => k us [] vs [] ds [] F1 M1 H1 s1 I1 e1 o1 r .nil rd .nil rfl q)
/-- ( *a) -/
theorem ev_s1 {p1 : Pos} (h : EX X J a ρ M fun d M1 => ∃ ds, Sq M1 d ds ∧ PA ds [] M1) (he : starEach [.Starred a p1] X.env = [(true, eval a X.env)] := by rfl) : EvA X J pos [.Starred a p1] [] [] ρ M PA := by
  intro fv pins σ H F s Qa I st k
  have hh := (pe_any (X := X) (e := a)).run pins s σ H (fun v H1 => ∃ F1 M1 d ds, Same F F1 ∧ Ok X.K F1 M1 H1 ∧ Rp X.K F1 v d ∧ Sq M1 d ds ∧ PA ds [] M1) I
    (h.go st fun d v M1 F1 H1 q e1 o1 r1 => by
      obtain ⟨ds, sq, q⟩ := q
      exact ⟨F1, M1, d, ds, e1, o1, r1, sq, q⟩)
  rw [he]
  refine PySem.W.ks_lone (thn hh fun u s1 ⟨v, H1, I1, rv, F1, M1, d, ds, e1, o1, rd, sq, q⟩ => ?_)
  obtain ⟨q1, xs, rfl, hx, rx⟩ := sq.get o1 rd
  obtain rfl : u = Value.ref q1 := rv
  exact star_any I1 hx.symm fun us s2 I2 rv => k us [] xs [] ds [] F1 M1 H1 s2 I2 e1 o1 rv .nil rx .nil rfl q
end
end DX
/-! what is called: a def, a class, a method, a classmethod, an instance, a property -/
namespace DX
open PySem PySem.Spec L2 PyProof.Rows StX
/-- what a context lets out, told where the names are known -/
def Rof (RR : Addr → List (Str × D) → DEnv → Mem → Prop) (ρ : DEnv) : RX := fun C gs M' => ∃ M2, Sub M2 M' ∧ RR C gs ρ M2
section
variable {X : Cx} {J : Gh} {e a b o : Expr} {es : List Expr} {kws : List Keyword} {ks : List Str} {ρ : DEnv} {M M1 M2 : Mem} {F F' H H' : Hp} {σ : L2.St} {K : PySem.W.Frag} {pos p apos : Pos} {x m f : Str} {P : D → Mem → Prop} {RR : Addr → List (Str × D) → DEnv → Mem → Prop}
theorem run_fnX {k : Nat} {gd : Bool} {g : Addr} {T : TrX} {pins : List (Addr × Obj)} {s : Shared} {Q : VK} {us ws : List Value} {vs xs : List V} {ds zs : List D} (G : FnX X.prog X.w X.K X.mg X.base gd k g ks T) (L : Lets X J RR) (hg : gd = true → X.A.guards = some []) (hr : Room k X.A)
    (I : L2.Inv X pins σ H s) (st : Sts X.K J F σ H ρ M) (r : Vals vs us) (rx : Vals xs ws) (hw : zs.length = ks.length) (rd : Rps X.K F vs ds) (rz : Rps X.K F xs zs) (t : T ds zs M P (Rof RR ρ)) (kt : Kt X.K F P Q) :
    wpAny (model X.prog X.w) X.A (call (.ref g) us (ks.zip ws)) (EP X pins σ Q) X.xe s := by
  obtain ⟨W, tk, hW⟩ := L.ex
  refine wpAny_call (codeAny_mono (G.go X.A X.stack s H F M ds zs P (Rof RR ρ) us ws vs xs Q (fun cls d H' => W cls d σ H') hg hr I.env0 r rx (by rw [← rx.length, rz.length]; exact hw) st.ok rd rz t kt (fun C gs M' F' H' cls d q e o x => ?_)) fun res s' end_ => ?_)
  · obtain ⟨M2, sb, q⟩ := q
    exact hW _ _ _ _ _ _ _ _ _ ⟨st.en.mono e, o.sub sb, J.mono _ _ e st.gh⟩ x q
  · match res, end_ with
    | .error _, end_ => exact tk _ _ (XE.of_call I (fun _ _ _ h => h) end_)
    | .ok (.ret _), end_ => exact I.after end_
    | .ok .next, end_ => exact end_.elim
    | .ok .brk, end_ => exact end_.elim
    | .ok .cont, end_ => exact end_.elim
theorem cwAny {Mo : Model} {A : Around} {E : Value → Shared → Prop} {s : Shared} {fv : Value} {first : List Value} {Q : Value → Shared → Prop} {Ph : Heap → Prop} {args : List (Bool × Sem Value)} {kw : List (Option Str × Sem Value)}
    (hk : ∀ h, Ph h → ∃ k, (k = Keeper.frame ∨ k = Keeper.machine ∨ k = Keeper.boundFrame) ∧ PySem.W.Looks Mo h (keeperOf fv) k)
    (h : wpAny Mo A (evalArgs fv true args kw) (fun a s1 => Ph s1.heap ∧ wpAny Mo A (call fv (first ++ a.pos) a.kw) Q E s1) E s) : wpAny Mo A (callWith pos fv first args kw) Q E s := by
  cases hst : (args.any (·.1) || kw.any (·.1.isNone)) with
  | false => exact PySem.W.callWith_of hst hk h
  | true => exact cwS hst hk h
/-- f(..) -/
theorem ex_callX {k : Nat} {gd : Bool} {g : Addr} {T : TrX} (G : FnX X.prog X.w X.K X.mg X.base gd k g ks T) (L : Lets X J RR) (hgd : gd = true → X.A.guards = some []) (hr : Room k X.A) (hm : X.mg x = some (.ref g)) (hk : PySem.W.keepIn X.K (.ref g) = true)
    (h : EvA X J pos es kws ks ρ M fun ds zs M1 => T ds zs M1 P (Rof RR ρ)) (hg : Gl X x := by rfl) (hdb : (x == ("__debug__" : Str)) = false := by decide) : EX X J (.Call (.Name x p) es kws pos) ρ M P := by
  refine ⟨fun pins s σ H Q I ⟨F, st, kt⟩ => ?_⟩
  refine wpAny_Call_Name_kw (ld_glob I hg hm ?_ hdb)
  refine cwAny (PySem.W.keeps_K hk) (h _ pins σ H F s _ I st fun us ws vs xs ds zs F2 M2 H2 s2 I2 e2 o2 r rx rd rz hl t => ⟨I2.kIn, ?_⟩)
  exact run_fnX G L hgd hr I2 (st.to e2 o2) r rx hl rd rz t (kt.to e2)
/-- what is made by C(..) -/
def TMkX (C : Addr) (T : TrX) (ds zs : List D) (M : Mem) (P : D → Mem → Prop) (R : RX) : Prop := ∀ a, M a = none → T (.adr a :: ds) zs (up M a (.ins C [])) (fun d M2 => d = .non ∧ ∃ gs M0, M0 a = none ∧ M2 = up M0 a (.ins C gs) ∧ P (.ins C gs) M0) R
theorem run_makeX {k : Nat} {C g : Addr} {T : TrX} {pins : List (Addr × Obj)} {s : Shared} {Q : VK} {us ws : List Value} {vs xs : List V} {ds zs : List D} (Mk0 : Mk X.K C g) (G : FnX X.prog X.w X.K X.mg X.base false k g ks T) (L : Lets X J RR) (hr : Room (k + 1) X.A)
    (I : L2.Inv X pins σ H s) (st : Sts X.K J F σ H ρ M) (r : Vals vs us) (rx : Vals xs ws) (hw : zs.length = ks.length) (rd : Rps X.K F vs ds) (rz : Rps X.K F xs zs) (t : TMkX C T ds zs M P (Rof RR ρ)) (kt : Kt X.K F P Q) : wpAny (model X.prog X.w) X.A (call (.ref C) us (ks.zip ws)) (EP X pins σ Q) X.xe s := by
  obtain ⟨W, tk, hW⟩ := L.ex
  have o := st.ok
  have h1 : H (s.heap.objs.size + 1) = none := I.hok.fresh (Nat.le_succ _)
  have h0 : H s.heap.objs.size = none := I.hok.fresh (Nat.le_refl _)
  have I2 := Inv.made (C := C) I
  have o1 := o.more (o := .own (s.heap.objs.size + 1)) h0
  have h2 : upd H s.heap.objs.size (.own (s.heap.objs.size + 1)) (s.heap.objs.size + 1) = none := by rw [upd_ne (Nat.succ_ne_self _)]; exact h1
  have o2 := o1.lay (o := .ins C s.heap.objs.size []) (d := .ins C []) h2 ⟨_, [], upd_same, .nil⟩
  have hM := (o.nn h1).2
  have r2 : Vals (V.ref (s.heap.objs.size + 1) :: vs) (Value.ref (s.heap.objs.size + 1) :: us) := .cons rfl r
  refine wpAny_call (make_map (f := g) I.kIn Mk0.makes Mk0.init (beq_iff_eq.mp Mk0.fn) (codeAny_mono (G.go _ X.stack _ _ F _ (_ :: ds) zs _ (Rof RR ρ) (Value.ref (s.heap.objs.size + 1) :: us) ws _ xs (fun v H2 => v = .non ∧ Q (.ref (s.heap.objs.size + 1)) H2) (fun cls d H' => W cls d σ H') (fun z => nomatch z) (hr.make C us _) (I2.env0.make C us _) r2 rx (by rw [← rx.length, rz.length]; exact hw) o2 (.cons (.adr _) rd) rz (t _ hM) ?_ ?_) fun r s' hq' => ?_))
  · rintro d v M' F' H' ⟨rfl, gs, M0, hn, rfl, q⟩ e' o' r'
    cases r'
    refine ⟨rfl, ?_⟩
    obtain ⟨_, dx, fs, h3, h4⟩ := o'.mt _ _ up_same
    obtain ⟨s1, o5⟩ := o'.freeze up_same h3
    rw [rm_up hn] at o5
    exact kt _ _ _ _ _ q (e'.trans s1) o5 (.ins upd_same (h4.mono s1))
  · rintro C gs M' F' H' cls d ⟨M2, sb, q⟩ e' o' x
    exact hW _ _ _ _ _ _ _ _ _ ⟨st.en.mono e', o'.sub sb, J.mono _ _ e' st.gh⟩ x q
  · cases r with
    | error e => exact tk _ _ (XE.of_call I2 (fun _ _ _ h => h) hq')
    | ok fl =>
      cases fl with
      | ret u =>
        obtain ⟨v, H', I3, rv, ev, q3⟩ := I2.after hq'
        subst ev
        exact ⟨rv, ⟨V.ref (s.heap.objs.size + 1), H', I3, rfl, q3⟩⟩
      | next => exact False.elim hq'
      | brk => exact False.elim hq'
      | cont => exact False.elim hq'
/-- C(..) -/
theorem ex_makeX {k : Nat} {C g : Addr} {T : TrX} (Mk0 : Mk X.K C g) (G : FnX X.prog X.w X.K X.mg X.base false k g ks T) (L : Lets X J RR) (hr : Room (k + 1) X.A) (hm : X.mg x = some (.ref C))
    (h : EvA X J pos es kws ks ρ M fun ds zs M1 => TMkX C T ds zs M1 P (Rof RR ρ)) (hg : Gl X x := by rfl) (hdb : (x == ("__debug__" : Str)) = false := by decide) : EX X J (.Call (.Name x p) es kws pos) ρ M P := by
  refine ⟨fun pins s σ H Q I ⟨F, st, kt⟩ => ?_⟩
  refine wpAny_Call_Name_kw (ld_glob I hg hm ?_ hdb)
  refine cwAny (PySem.W.keeps_K Mk0.kp) (h _ pins σ H F s _ I st fun us ws vs xs ds zs F2 M2 H2 s2 I2 e2 o2 r rx rd rz hl t => ⟨I2.kIn, ?_⟩)
  exact run_makeX Mk0 G L hr I2 (st.to e2 o2) r rx hl rd rz t (kt.to e2)
/-- o(..), o a value that is the class C -/
theorem ex_makeV {k : Nat} {C g : Addr} {T : TrX} (Mk0 : Mk X.K C g) (G : FnX X.prog X.w X.K X.mg X.base false k g ks T) (L : Lets X J RR) (hr : Room (k + 1) X.A)
    (h : EX X J o ρ M fun d M1 => d = .adr C ∧ EvA X J pos es kws ks ρ M1 fun ds zs M2 => TMkX C T ds zs M2 P (Rof RR ρ))
    (ht : eval (.Call o es kws pos) X.env = (do callWith pos (← eval o X.env) [] (backTo pos (starEach es X.env)) (backToKw pos (keywordEach kws X.env))) := by rfl) : EX X J (.Call o es kws pos) ρ M P := by
  refine ⟨fun pins s σ H Q I ⟨F, st, kt⟩ => ?_⟩
  rw [ht]
  refine wpAny_bind (thn ((pe_any (X := X) (e := o)).run pins s σ H (fun v H1 => ∃ F1 M1 d, Same F F1 ∧ Ok X.K F1 M1 H1 ∧ Rp X.K F1 v d ∧ d = .adr C ∧ EvA X J pos es kws ks ρ M1 fun ds zs M2 => TMkX C T ds zs M2 P (Rof RR ρ)) I (h.go st fun d v M1 F1 H1 q e1 o1 r1 => ⟨F1, M1, d, e1, o1, r1, q⟩)) fun u s1 ⟨y, H1, I1, ry, F1, M1, d, e1, o1, rd, hd, q⟩ => ?_)
  subst hd
  cases rd
  obtain rfl : u = Value.ref C := ry
  refine cwAny (PySem.W.keeps_K Mk0.kp) (q _ pins σ H1 F1 s1 _ I1 (st.to e1 o1) fun us ws vs xs ds zs F2 M2 H2 s2 I2 e2 o2 r rx rd rz hl t => ⟨I2.kIn, ?_⟩)
  exact run_makeX Mk0 G L hr I2 ((st.to e1 o1).to e2 o2) r rx hl rd rz t (kt.to (e1.trans e2))
/-- o.m(..), m a method of o's class -/
theorem ex_methX {gd : Bool} {pl : Sem Bool} (L : Lets X J RR) (hgd : gd = true → X.A.guards = some [])
    (h : EX X J o ρ M fun d M1 => ∃ (C : Addr) (gs : List (Str × D)) (k : Nat) (g : Addr) (T : TrX), Is M1 d C gs ∧ gs.lookup m = none ∧ Cls X.K C ∧ Meth X.K C m g ∧ FnX X.prog X.w X.K X.mg X.base gd k g ks T ∧ Room k X.A ∧
      EvA X J pos es kws ks ρ M1 fun ds zs M2 => T (d :: ds) zs M2 P (Rof RR ρ))
    (ht : eval (.Call (.Attribute o m apos) es kws pos) X.env = (do let ov ← eval o X.env; standAt apos.atName; let (u, first) ← holding [ov] (getMethod ov m pl); callWith pos u first (backTo pos (starEach es X.env)) (backToKw pos (keywordEach kws X.env))) := by rfl) :
    EX X J (.Call (.Attribute o m apos) es kws pos) ρ M P := by
  refine ⟨fun pins s σ H Q I ⟨F, st, kt⟩ => ?_⟩
  refine PySem.W.methodCall_KW (pl := pl) (thn ((pe_any (X := X) (e := o)).run pins s σ H (fun v H1 => ∃ F1 M1 d, Same F F1 ∧ Ok X.K F1 M1 H1 ∧ Rp X.K F1 v d ∧ ∃ (C : Addr) (gs : List (Str × D)) (k : Nat) (g : Addr) (T : TrX), Is M1 d C gs ∧ gs.lookup m = none ∧ Cls X.K C ∧ Meth X.K C m g ∧ FnX X.prog X.w X.K X.mg X.base gd k g ks T ∧ Room k X.A ∧
      EvA X J pos es kws ks ρ M1 fun ds zs M2 => T (d :: ds) zs M2 P (Rof RR ρ)) I (h.go st fun d v M1 F1 H1 q e1 o1 r1 => ⟨F1, M1, d, e1, o1, r1, q⟩)) fun u s1 ⟨y, H1, I1, ry, F1, M1, d, e1, o1, rd0, C, gs, k, g, T, hi, hl0, hc, hm, G, hr, hE⟩ => ?_) ht
  obtain ⟨q, dx, fs, rfl, h1, h2⟩ := hi.get o1 rd0
  obtain rfl : u = Value.ref q := ry
  have hn : fs.lookup m = none := by
    rcases h2.look (f := m) with ⟨h3, _⟩ | ⟨w, d', h3, h4, h5⟩
    · exact h3
    · rw [h4] at hl0; cases hl0
  refine getmeth_ok I1 h1 hc hm hn ?_
  refine cwAny (first := [.ref q]) (PySem.W.keeps_K hm.kp) (hE _ pins σ H1 F1 s1 _ I1 (st.to e1 o1) fun us ws vs xs ds zs F2 M2 H2 s2 I2 e2 o2 r rx rd rz hl t => ⟨I2.kIn, ?_⟩)
  exact run_fnX (us := .ref q :: us) (vs := .ref q :: vs) G L hgd hr I2 ((st.to e1 o1).to e2 o2) (.cons rfl r) rx hl (.cons (rd0.mono e2) rd) rz t (kt.to (e1.trans e2))
/-- C.m(..), m a classmethod of the class C -/
theorem ex_cmX {gd : Bool} {pl : Sem Bool} (L : Lets X J RR) (hgd : gd = true → X.A.guards = some [])
    (h : EX X J o ρ M fun d M1 => ∃ (C p0 : Addr) (mc : Value) (k : Nat) (g : Addr) (T : TrX), d = .adr C ∧ ClX.CRead X.K C mc ∧ ClX.CMet X.K C mc m p0 g ∧ FnX X.prog X.w X.K X.mg X.base gd k g ks T ∧ Room k X.A ∧
      EvA X J pos es kws ks ρ M1 fun ds zs M2 => T (.adr C :: ds) zs M2 P (Rof RR ρ))
    (ht : eval (.Call (.Attribute o m apos) es kws pos) X.env = (do let ov ← eval o X.env; standAt apos.atName; let (u, first) ← holding [ov] (getMethod ov m pl); callWith pos u first (backTo pos (starEach es X.env)) (backToKw pos (keywordEach kws X.env))) := by rfl) :
    EX X J (.Call (.Attribute o m apos) es kws pos) ρ M P := by
  refine ⟨fun pins s σ H Q I ⟨F, st, kt⟩ => ?_⟩
  refine PySem.W.methodCall_KW (pl := pl) (thn ((pe_any (X := X) (e := o)).run pins s σ H (fun v H1 => ∃ F1 M1 d, Same F F1 ∧ Ok X.K F1 M1 H1 ∧ Rp X.K F1 v d ∧ ∃ (C p0 : Addr) (mc : Value) (k : Nat) (g : Addr) (T : TrX), d = .adr C ∧ ClX.CRead X.K C mc ∧ ClX.CMet X.K C mc m p0 g ∧ FnX X.prog X.w X.K X.mg X.base gd k g ks T ∧ Room k X.A ∧
      EvA X J pos es kws ks ρ M1 fun ds zs M2 => T (.adr C :: ds) zs M2 P (Rof RR ρ)) I (h.go st fun d v M1 F1 H1 q e1 o1 r1 => ⟨F1, M1, d, e1, o1, r1, q⟩)) fun u s1 ⟨y, H1, I1, ry, F1, M1, d, e1, o1, rd0, C, p0, mc, k, g, T, hd, hc, hm, G, hr, hE⟩ => ?_) ht
  subst hd
  cases rd0
  obtain rfl : u = Value.ref C := ry
  refine ClX.getmethcm_ok I1 hc hm fun s2 I2 => ?_
  have hL : s1.heap.objs.size ≠ X.env.locals := (I2.pin (s1.heap.objs.size, PySem.W.methodObj (.ref g) (.ref C)) (List.mem_append_right _ List.mem_cons_self)).2.2.1
  refine cwAny (first := []) (PySem.W.keeps_M (q := s1.heap.objs.size) (f := g) (self := .ref C) hm.fi) (hE _ _ σ H1 F1 s2 _ I2 (st.to e1 o1) fun us ws vs xs ds zs F2 M2 H2 s3 I3 e2 o2 r rx rd rz hl t => ⟨⟨ClX.pin_at I3, I3.kIn⟩, ?_⟩)
  obtain ⟨W, tk, hW⟩ := L.ex
  have st2 := (st.to e1 o1).to e2 o2
  have z : wpAny (model X.prog X.w) X.A (call (.ref s1.heap.objs.size) us (ks.zip ws)) (EP X ((s1.heap.objs.size, PySem.W.methodObj (.ref g) (.ref C)) :: pins) σ Q) X.xe s3 := by
    refine wpAny_call (PySem.W.method_call (ClX.pin_at I3) (codeAny_mono (G.go X.A X.stack s3 H2 F2 M2 (.adr C :: ds) zs P (Rof RR ρ) (.ref C :: us) ws (.ref C :: vs) xs Q (fun cls d H' => W cls d σ H') hgd hr I3.env0 (.cons rfl r) rx (by rw [← rx.length, rz.length]; exact hl) o2 (.cons (.adr C) rd) rz t (kt.to (e1.trans e2)) (fun C' gs M' F' H' cls d q e o x => ?_)) fun res s' end_ => ?_))
    · obtain ⟨M3, sb, q⟩ := q
      exact hW _ _ _ _ _ _ _ _ _ ⟨st2.en.mono e, o.sub sb, J.mono _ _ e st2.gh⟩ x q
    · match res, end_ with
      | .error _, end_ => exact tk _ _ (XE.of_call I3 (fun _ _ _ h => h) end_)
      | .ok (.ret _), end_ => exact I3.after end_
      | .ok .next, end_ => exact end_.elim
      | .ok .brk, end_ => exact end_.elim
      | .ok .cont, end_ => exact end_.elim
  exact thn z fun _ _ y => ClX.unpinE y
end
end DX
/-! an own class's operators -/
namespace DX
open PySem PySem.Spec L2 PyProof.Rows StX
section
variable {prog : Program} {w : World} {A : Around} {E : Value → Shared → Prop} {s : Shared} {K : PySem.W.Frag} {x C L f : Addr} {h₀ : Heap} {m : Str → Option Value} {ox : Obj} {od : Option Obj} {b tb : Value}
theorem ne_K {Q : Value → Shared → Prop} (hu : A.units + 64 < cLine) (F : Fr h₀ L s.heap m) (X₀ : K.In h₀) (I : PySem.W.InstAt s.heap x ox C od) (hb : PySem.W.Looks (model prog w) s.heap (typeOf b) tb) (hn : PySem.W.notFirst K C tb = true)
    (hne : PySem.W.findIn K (.ref C) "__ne__" = some (some (.builtin "object.__ne__"))) (hob : PySem.W.mroIn K C (.type "object") = some true) (hs : PySem.W.findIn K (.ref C) "__eq__" = some (some (.ref f))) (hf : PySem.W.isFn K (.ref f) = true)
    (h : wpAny (model prog w) A.in1 (call (.ref f) [.ref x, b]) (fun v s' => ∃ c, v = .bool c ∧ Q (.bool (!c)) s') E s) : wpAny (model prog w) A (richCompare .NotEq (.ref x) b) Q E s := by
  have X := X₀.keeps F.keep
  have hu1 : A.in1.units < cLine := by
    have : A.in1.units ≤ A.units + 64 := by
      first
        | (show A.units + 1 ≤ A.units + 64; omega)
        | (simp [Around.in1]; done)
        | (unfold Around.in1; simp <;> omega)
    omega
  have sub : PySem.W.Looks (model prog w) s.heap (isInstance (.ref x) (.type "object")) true := I.type.andThen (PySem.W.looks_mroIn X hob)
  have body : wpAny (model prog w) A.in1 (Builtin.«object.__ne__» ⟨[.ref x, b], []⟩) (fun fin s' => ∃ c, fin = .done (.ret (.bool c)) ∧ Q (.bool c) s') E s := by
    unfold Builtin.«object.__ne__»
    refine wpAny_bind (wpAny_of_eq (a := ((Value.ref x : Value), [b])) (by first | rfl | (simp only [Builtin.slotArgs]; rfl)) ?_)
    refine wpAny_bind (wpAny_cRoomFor hu1 ?_)
    refine wpAny_bind (m := callSpecialIfBound? (.ref x) (Str.ofString "__eq__") [b]) (PySem.W.ifBound_K X I hs hf (wpAny_mono h (fun v s' z => ?_) fun _ _ y => y))
    obtain ⟨c, rfl, q⟩ := z
    dsimp only
    refine wpAny_bind (m := truthy (.bool c)) (wpAny_truthy_bool ?_)
    exact wpAny_pure ⟨_, rfl, q⟩
  have one : wpAny (model prog w) A (tryCompare (.ref x) (cmpInfo .NotEq).2.1 b) (fun r s' => ∃ c, r = some (.bool c) ∧ Q (.bool c) s') E s := by
    unfold tryCompare
    have hne' : PySem.W.findIn K (.ref C) (cmpInfo .NotEq).2.1 = some (some (.builtin "object.__ne__")) := hne
    have bnd := PySem.F.cmp_object.ne.bind (.ref x)
    have call_ : wpAny (model prog w) A (call (.builtin "object.__ne__") [.ref x, b]) (fun v s' => ∃ c, v = .bool c ∧ Q (.bool c) s') E s := by
      refine wpAny_call (codeAny_call_builtin PySem.F.cmp_object.ne.plain PySem.F.cmpEntry_ne ?_)
      refine @PySem.W.check_slot (model prog w) _ _ s "object.__ne__" "object" "__ne__" (.ref x) [b] [] _ PySem.F.cmpKind_ne PySem.F.cmpSplit_ne sub (PySem.F.cmpArgs_ne (.ref x) b) ?_
      refine wpAny_mono body (fun fin s' z => ?_) fun _ _ y => y
      obtain ⟨c, rfl, q⟩ := z
      exact ⟨c, rfl, q⟩
    have fin : wpAny (model prog w) A (callSpecialIfBound? (.ref x) (cmpInfo .NotEq).2.1 [b]) (fun r s' => ∃ c, r = some (.bool c) ∧ Q (.bool c) s') E s := by
      simp only [callSpecialIfBound?, bindSpecialIfBound?]
      refine wpAny_holding (wpAny_bind (wpAny_bind (wpAny_bind (I.type.here ((PySem.W.looks_findIn X hne').here ?_)))))
      refine wpAny_bind (wpAny_askSetting (wpAny_ite ?_))
      have last : wpAny (model prog w) A (call (.builtin "object.__ne__") ([.ref x] ++ [b]) >>= fun v => pure (some v)) (fun r s' => ∃ c, r = some (.bool c) ∧ Q (.bool c) s') E s := wpAny_bind (wpAny_mono call_ (fun v s' h' => by
        obtain ⟨c, rfl, q⟩ := h'
        exact wpAny_pure ⟨c, rfl, q⟩) fun _ _ h' => h')
      split
      · refine wpAny_bind ?_
        rw [bnd]
        exact wpAny_pure (wpAny_pure (by exact last))
      · refine wpAny_tryCatch (wpAny_bind ?_)
        rw [bnd]
        exact wpAny_pure (wpAny_pure (by exact last))
    refine wpAny_bind (wpAny_mono fin (fun v s' hv => ?_) fun _ _ e => e)
    obtain ⟨c, rfl, q⟩ := hv
    exact wpAny_pure ⟨c, rfl, q⟩
  unfold richCompare
  simp only [oneThing_ref]
  refine wpAny_holding (wpAny_bind (wpAny_cRoomFor (by omega) ?_))
  refine wpAny_bind (I.type.here (wpAny_bind (hb.here ?_)))
  split
  · rename_i q
    have e : PySem.W.subIn K tb (.ref C) = some false := by
      rcases Bool.or_eq_true_iff.mp hn with e | e
      · rw [beq_iff_eq.mp e] at q; simp at q
      · exact beq_iff_eq.mp e
    refine wpAny_bind ((PySem.W.looks_subIn X e).here ?_)
    simp only [Bool.false_eq_true, if_false]
    refine wpAny_bind (wpAny_mono one (fun r s' z => ?_) fun _ _ e => e)
    obtain ⟨c, rfl, hq⟩ := z
    exact wpAny_pure hq
  · refine wpAny_bind (wpAny_pure ?_)
    simp only [Bool.false_eq_true, if_false]
    refine wpAny_bind (wpAny_mono one (fun r s' z => ?_) fun _ _ e => e)
    obtain ⟨c, rfl, hq⟩ := z
    exact wpAny_pure hq
theorem len_depth {v : Value} : (A.under (.builtin "len" ⟨[v], []⟩)).depth = A.depth := by
  first | rfl | simp [Around.under, Code.weight, Code.isCreation, Code.isGuard, Code.isCaller, Code.frames, Code.isFrame, guardIds]
theorem len_units {v : Value} : (A.under (.builtin "len" ⟨[v], []⟩)).units = A.units + 1 := by
  first | rfl | simp [Around.under, Code.cUnits, Code.frames, Code.isFrame]
theorem Room.lenU {k : Nat} (r : Room (k + 1) A) (v : Value) : Room k (A.under (.builtin "len" ⟨[v], []⟩)) :=
  ⟨r.hd, by have := r.dp; rw [len_depth]; omega, by have := r.un; rw [len_units]; omega⟩
theorem Env0.lenU {mg : Str → Option Value} {base : Heap} {outer : List Env} {H : Hp} (e : Env0 prog w K mg base A outer s H) (v : Value) : Env0 prog w K mg base (A.under (.builtin "len" ⟨[v], []⟩)) outer s H :=
  ⟨by first | exact e.frames | (simpa [Around.under, Code.envs, Code.isFrame, pushEnvs] using e.frames), e.mod, e.bs, e.bsz, e.funs, e.frf, e.hok, e.bare⟩
/-- the truth of an instance by its __len__ -/
theorem truthy_len_K {Q : Bool → Shared → Prop} (F : Fr h₀ L s.heap m) (X₀ : K.In h₀) (I : PySem.W.InstAt s.heap x ox C od) (hb : PySem.W.findIn K (.ref C) "__bool__" = some none) (hs : PySem.W.findIn K (.ref C) "__len__" = some (some (.ref f))) (hf : PySem.W.isFn K (.ref f) = true)
    (h : wpAny (model prog w) (A.under (.builtin "len" ⟨[.ref x], []⟩)) (call (.ref f) [.ref x]) (fun v s' => ∃ n t, v = .int n t ∧ (0 ≤ n ∧ n < 2 ^ 63) ∧ Q (n != 0) { s' with toks := s'.toks + 1 }) E s) : wpAny (model prog w) A (truthy (.ref x)) Q E s := by
  have X := X₀.keeps F.keep
  unfold truthy
  refine wpAny_bind (m := callSpecial? (.ref x) (Str.ofString "__bool__")) (wpAny_bind (wpAny_bind (I.type.here ((PySem.W.looks_findIn X hb).here (wpAny_pure ?_)))))
  refine wpAny_bind (wpAny_bind (I.type.here ((PySem.W.looks_findIn X hs).here ?_)))
  rw [if_neg (by simp)]
  refine wpAny_bind (wpAny_runValue (codeAny_builtin entry_len ?_))
  unfold Builtin.«len»
  refine wpAny_bind (m := oneArg "len" _) (wpAny_pure ?_)
  refine wpAny_bind (m := callSpecial? (.ref x) (Str.ofString "__len__")) (PySem.W.special_fn X I hs (beq_iff_eq.mp hf) (wpAny_mono h (fun r s' hr => ?_) fun _ _ y => y))
  obtain ⟨n, u, rfl, ⟨h0, h1⟩, hq⟩ := hr
  refine wpAny_bind (wpAny_holding (wpAny_pure ?_))
  refine wpAny_bind (wpAny_letGo ?_)
  show wpAny _ _ (if n < 0 then _ else _) _ _ _
  rw [if_neg (by omega)]
  show wpAny _ _ (if n ≥ 2 ^ 63 then _ else _) _ _ _
  rw [if_neg (by omega)]
  exact wpAny_bind (wpAny_mkInt (wpAny_pure (wpAny_pure hq)))
end
/-! ### .. over data -/
def SpXR (K : PySem.W.Frag) (T : TrX) : Sp := fun vs H Q E => ∃ F M ds P R, Ok K F M H ∧ Rps K F vs ds ∧ T ds [] M P R ∧ Kt K F P Q ∧ Kx K F R E
theorem fnR_ofX {pg : Program} {w : World} {K : PySem.W.Frag} {mg : Str → Option Value} {base : Heap} {k : Nat} {g : Addr} {T : TrX} (G : FnX pg w K mg base false k g [] T) : FnR pg w K mg base (L2.CX pg w) k g (SpXR K T) := by
  intro A outer s H us vs Q E hr e0 r ⟨F, M, ds, P, R, o, rd, t, kt, kx⟩
  exact G.go A outer s H F M ds [] P R us [] vs [] Q E (fun z => nomatch z) hr e0 r .nil rfl o rd .nil t kt kx
theorem pass_no {X : Cx} : Passes (L2.CX X.prog X.w) X (fun _ _ _ => False) := fun pins σ H s e s' I c => takes_no e s' (XE.of_call (W := fun _ _ _ _ => False) I (fun _ _ _ h => h) c)
/-- who may be asked: the class, its names -/
def clsD (L : List (Addr × List Str)) : D → Option Addr
  | .ins C gs => if (C, gs.map (·.1)) ∈ L then some C else none
  | _ => none
theorem clsD_eq {L : List (Addr × List Str)} {d : D} {C : Addr} (h : clsD L d = some C) : ∃ gs, d = .ins C gs ∧ (C, gs.map (·.1)) ∈ L := by
  unfold clsD at h
  split at h
  · split at h
    · rename_i q; cases h; exact ⟨_, rfl, q⟩
    · cases h
  · cases h
theorem look_no {gs : List (Str × D)} {m : Str} (h : m ∉ gs.map (·.1)) : gs.lookup m = none := by
  induction gs with
  | nil => rfl
  | cons q gs ih =>
    obtain ⟨a, d⟩ := q
    simp only [List.map_cons, List.mem_cons, not_or] at h
    rw [List.lookup_cons]
    have : (m == a) = false := by simpa using h.1
    rw [this]
    exact ih h.2
/-- a value, that of an instance that changes no more, or one that may change -/
theorem Iw.rp {K : PySem.W.Frag} {F H : Hp} {M : Mem} {d : D} {C : Addr} {gs : List (Str × D)} {v : V} (i : Iw M d (.ins C gs)) (o : Ok K F M H) (r : Rp K F v d) : ∃ a dx fs, v = .ref a ∧ H a = some (.ins C dx fs) ∧ Rfs K F fs gs := i.is.get o r
section
variable {X : Cx} {J : Gh} {e a b o : Expr} {es : List Expr} {kws : List Keyword} {ks : List Str} {ρ : DEnv} {M M1 M2 : Mem} {F F' H H' : Hp} {σ : L2.St} {K : PySem.W.Frag} {pos p apos : Pos} {x m f : Str} {P : D → Mem → Prop} {RR : Addr → List (Str × D) → DEnv → Mem → Prop}
/-- x + y by the class's __add__ -/
theorem od_addX {k : Nat} {C g : Addr} {T : TrX} {x y : D} {gs hs : List (Str × D)} (G : FnX X.prog X.w X.K X.mg X.base false k g [] T) (hr : Room k X.A) (hsf : PySem.W.selfFirst X.K C = true) (hm : Meth X.K C "__add__" g) (hx : Is M x C gs) (hy : Is M y C hs)
    (t : T [x, y] [] M (fun d M2 => (∃ C' gs', d = .ins C' gs') ∧ P d M2) noX) : OD X (binaryOp .Add) x y M P :=
  ⟨fun v u H Q => ∃ F, Ok X.K F M H ∧ Rp X.K F v x ∧ Rp X.K F u y ∧ Kt X.K F P Q, fun pins s σ H v0 u0 v u Q I rv ru ⟨F, o, rx, ry, kt⟩ => by
    obtain ⟨a, dx, fs, rfl, h1, _⟩ := hx.get o rx
    obtain ⟨b, dy, fs', rfl, h2, _⟩ := hy.get o ry
    obtain rfl : v = Value.ref a := rv
    obtain rfl : u = Value.ref b := ru
    obtain ⟨ox, od, J0, _⟩ := insC_at (X := X) I (.inr ⟨dx, fs, h1⟩)
    obtain ⟨oy, od', J1, _⟩ := insC_at (X := X) I (.inr ⟨dy, fs', h2⟩)
    have hc : wpAny (model X.prog X.w) X.A (call (.ref g) [.ref a, .ref b]) (EP X pins σ fun v H' => (∃ a, v = .ref a) ∧ Q v H') X.xe s := wpAny_call (run_fnR (us := [.ref a, .ref b]) (vs := [V.ref a, V.ref b]) (fnR_ofX G) hr pass_no I (.cons rfl (.cons rfl .nil)) ⟨F, M, _, _, noX, o, .cons rx (.cons ry .nil), t, fun d v M' F' H' q e o' r => by
      obtain ⟨⟨C', gs', rfl⟩, q⟩ := q
      exact ⟨by cases r; exact ⟨_, rfl⟩, kt _ _ _ _ _ q e o' r⟩, Kx.no⟩)
    refine add_own I.kIn J0 J1 hsf hm.at_ hm.fn (wpAny_mono hc (fun v' s' h => ?_) fun _ _ z => z)
    obtain ⟨v, H', I', rv', ⟨a', rfl⟩, q⟩ := h
    obtain rfl : v' = Value.ref a' := rv'
    exact ⟨fun z => (nomatch z), V.ref a', H', I', rfl, q⟩, fun F H v u Q o rx ry kt => ⟨F, o, rx, ry, kt⟩⟩
/-- the other side of a comparison: a value of a built-in type, or an instance of a class that does not go first -/
def Other (K : PySem.W.Frag) (C : Addr) (M : Mem) (y : D) : Prop := (plain y = true ∧ ∀ n ∈ ["NoneType", "bool", "int", "str", "tuple", "list", "dict"], PySem.W.subIn K (.type n) (.ref C) = some false) ∨ ∃ C' hs, Is M y C' hs ∧ PySem.W.notFirst K C (.ref C') = true
theorem Other.ty {C : Addr} {y : D} {v : V} {u : Value} {pins : List (Addr × Obj)} {s : Shared} (h : Other X.K C M y) (I : L2.Inv X pins σ H s) (o : Ok X.K F M H) (r : Rp X.K F v y) (rv : RelV v u) : ∃ tb, PySem.W.Looks (model X.prog X.w) s.heap (typeOf u) tb ∧ PySem.W.notFirst X.K C tb = true := by
  rcases h with ⟨h, hn⟩ | ⟨C', hs, hi, hn⟩
  · have ty := ty_of h o.ex r
    refine ⟨.type (kn y), ?_, by unfold PySem.W.notFirst; rw [hn _ (kn_mem y)]; simp⟩
    obtain ⟨Pk, kx, hp, _⟩ := kit_of I rv ty
    exact kx.ty _ _ I.kIn hp
  · obtain ⟨b, dy, fs', rfl, h2, _⟩ := hi.get o r
    obtain rfl : u = Value.ref b := rv
    obtain ⟨oy, od', J1, _⟩ := insC_at (X := X) I (.inr ⟨dy, fs', h2⟩)
    exact ⟨.ref C', J1.type, hn⟩
/-- x == y by the class's __eq__ -/
theorem od_eqX {k : Nat} {C g : Addr} {T : TrX} {x y : D} {gs : List (Str × D)} (G : FnX X.prog X.w X.K X.mg X.base false k g [] T) (hr : Room k X.A) (hm : Meth X.K C "__eq__" g) (hx : Is M x C gs) (hy : Other X.K C M y)
    (t : T [x, y] [] M (fun d M2 => (∃ b, d = .bl b) ∧ P d M2) noX) : OD X (compareOp .Eq) x y M P :=
  ⟨fun v u H Q => ∃ F, Ok X.K F M H ∧ Rp X.K F v x ∧ Rp X.K F u y ∧ Kt X.K F P Q, fun pins s σ H v0 u0 v u Q I rv ru ⟨F, o, rx, ry, kt⟩ => by
    obtain ⟨tb, hl, hn⟩ := hy.ty I o ry ru
    obtain ⟨a, dx, fs, rfl, h1, _⟩ := hx.get o rx
    obtain rfl : v = Value.ref a := rv
    obtain ⟨ox, od, J0, _⟩ := insC_at (X := X) I (.inr ⟨dx, fs, h1⟩)
    have hc : wpAny (model X.prog X.w) X.A (call (.ref g) [.ref a, u]) (EP X pins σ fun v H' => (∃ a, v = .bl a) ∧ Q v H') X.xe s := wpAny_call (run_fnR (us := [.ref a, u]) (vs := [V.ref a, u0]) (fnR_ofX G) hr pass_no I (.cons rfl (.cons ru .nil)) ⟨F, M, _, _, noX, o, .cons rx (.cons ry .nil), t, fun d v M' F' H' q e o' r => by
      obtain ⟨⟨b', rfl⟩, q⟩ := q
      exact ⟨by cases r; exact ⟨_, rfl⟩, kt _ _ _ _ _ q e o' r⟩, Kx.no⟩)
    obtain ⟨m, hF⟩ := I.fr
    show wpAny (model X.prog X.w) X.A (richCompare .Eq (.ref a) u) (EP X pins σ Q) X.xe s
    refine PySem.W.cmp_K (op := .Eq) (tb := tb) hr.units0 hF I.ok.mod.kin J0 hl hn hm.at_ hm.fn (wpAny_mono hc (fun v' s' h => ?_) fun _ _ z => z)
    obtain ⟨v, H', I', rv', ⟨b', rfl⟩, q⟩ := h
    obtain rfl : v' = Value.bool b' := rv'
    exact ⟨V.bl b', H', I', rfl, q⟩, fun F H v u Q o rx ry kt => ⟨F, o, rx, ry, kt⟩⟩
/-- x != y by the class's __eq__ -/
theorem od_neX {k : Nat} {C g : Addr} {T : TrX} {x y : D} {gs : List (Str × D)} (G : FnX X.prog X.w X.K X.mg X.base false k g [] T) (hr : Room (k + 1) X.A) (hm : Meth X.K C "__eq__" g) (hne : PySem.W.findIn X.K (.ref C) "__ne__" = some (some (.builtin "object.__ne__"))) (hob : PySem.W.mroIn X.K C (.type "object") = some true)
    (hx : Is M x C gs) (hy : Other X.K C M y) (t : T [x, y] [] M (fun d M2 => ∃ b, d = .bl b ∧ P (.bl (!b)) M2) noX) : OD X (compareOp .NotEq) x y M P :=
  ⟨fun v u H Q => ∃ F, Ok X.K F M H ∧ Rp X.K F v x ∧ Rp X.K F u y ∧ Kt X.K F P Q, fun pins s σ H v0 u0 v u Q I rv ru ⟨F, o, rx, ry, kt⟩ => by
    obtain ⟨tb, hl, hn⟩ := hy.ty I o ry ru
    obtain ⟨a, dx, fs, rfl, h1, _⟩ := hx.get o rx
    obtain rfl : v = Value.ref a := rv
    obtain ⟨ox, od, J0, _⟩ := insC_at (X := X) I (.inr ⟨dx, fs, h1⟩)
    have hc : wpAny (model X.prog X.w) X.A.in1 (call (.ref g) [.ref a, u]) (EP X pins σ fun v H' => ∃ b, v = .bl b ∧ Q (.bl (!b)) H') X.xe s := by
      refine wpAny_call (codeAny_mono (fnR_ofX G X.A.in1 X.stack s H [.ref a, u] [V.ref a, u0] (fun v H' => ∃ b, v = .bl b ∧ Q (.bl (!b)) H') (fun _ _ _ => False) hr.in1 I.env0.in1 (.cons rfl (.cons ru .nil)) ⟨F, M, _, _, noX, o, .cons rx (.cons ry .nil), t, fun d v M' F' H' q e o' r => ?_, Kx.no⟩) fun res s' end_ => ?_)
      · obtain ⟨b', rfl, q⟩ := q
        cases r
        exact ⟨b', rfl, kt _ _ _ _ _ q e o' (.bl _)⟩
      · match res, end_ with
        | .error e, end_ => exact pass_no pins σ H s e s' I end_
        | .ok (.ret _), end_ => exact I.after end_
        | .ok .next, end_ => exact end_.elim
        | .ok .brk, end_ => exact end_.elim
        | .ok .cont, end_ => exact end_.elim
    obtain ⟨m, hF⟩ := I.fr
    show wpAny (model X.prog X.w) X.A (richCompare .NotEq (.ref a) u) (EP X pins σ Q) X.xe s
    refine ne_K hr.units hF I.ok.mod.kin J0 hl hn hne hob hm.at_ hm.fn (wpAny_mono hc (fun v' s' h => ?_) fun _ _ z => z)
    obtain ⟨v, H', I', rv', b', rfl, q⟩ := h
    obtain rfl : v' = Value.bool b' := rv'
    exact ⟨b', rfl, V.bl (!b'), H', I', rfl, q⟩, fun F H v u Q o rx ry kt => ⟨F, o, rx, ry, kt⟩⟩
end
end DX
/-! an own class's operators, further: truth, len, in, [ ], repr, calls, properties -/
namespace DX
open PySem PySem.Spec L2 PyProof.Rows StX
section
variable {X : Cx} {J : Gh} {e a b o : Expr} {es : List Expr} {kws : List Keyword} {ks : List Str} {ρ : DEnv} {M M1 M2 : Mem} {F F' H H' : Hp} {σ : L2.St} {K : PySem.W.Frag} {pos p apos : Pos} {x m f : Str} {P : D → Mem → Prop} {RR : Addr → List (Str × D) → DEnv → Mem → Prop}
/-- the method at g called with an instance and further values, somewhere within: nothing is let out -/
theorem run_inner {k : Nat} {g : Addr} {T : TrX} {A : Around} {pins : List (Addr × Obj)} {s : Shared} {Q : VK} {us : List Value} {vs : List V} {ds : List D} (G : FnX X.prog X.w X.K X.mg X.base false k g [] T) (hr : Room k A) (e0 : Env0 X.prog X.w X.K X.mg X.base A X.stack s H) (I : L2.Inv X pins σ H s) (r : Vals vs us) (o : Ok X.K F M H) (rd : Rps X.K F vs ds)
    (t : T ds [] M P noX) (kt : Kt X.K F P Q) {E' : Value → Shared → Prop} : wpAny (model X.prog X.w) A (call (.ref g) us) (EP X pins σ Q) E' s := by
  refine wpAny_call (codeAny_mono (fnR_ofX G A X.stack s H us vs Q (fun _ _ _ => False) hr e0 r ⟨F, M, ds, P, noX, o, rd, t, kt, Kx.no⟩) fun res s' end_ => ?_)
  match res, end_ with
  | .error e, end_ => exact (XE_no I end_).elim
  | .ok (.ret _), end_ => exact I.after end_
  | .ok .next, end_ => exact end_.elim
  | .ok .brk, end_ => exact end_.elim
  | .ok .cont, end_ => exact end_.elim
where
  XE_no {pins : List (Addr × Obj)} {s s' : Shared} {er : Value} (I : L2.Inv X pins σ H s) (h : L2.CX X.prog X.w X.stack H s (fun _ _ _ => False) er s') : False := by
    obtain ⟨_, _, _, _, _, _, _, _, _, _, _, _, _, z⟩ := h
/-- not o, if o: by __len__ -/
theorem tru_X {k : Nat} {C g : Addr} {T : TrX} {d : D} {gs : List (Str × D)} {v : V} {u : Value} {pins : List (Addr × Obj)} {s : Shared} {Q : Bool → Hp → Prop} {n : Int} (G : FnX X.prog X.w X.K X.mg X.base false k g [] T) (hr : Room (k + 1) X.A) (hm : Meth X.K C "__len__" g) (hb : PySem.W.findIn X.K (.ref C) "__bool__" = some none)
    (hx : Is M d C gs) (hn : 0 ≤ n ∧ n < 2 ^ 63) (t : T [d] [] M (fun z M2 => z = .int n ∧ M2 = M) noX) (I : L2.Inv X pins σ H s) (o : Ok X.K F M H) (rd : Rp X.K F v d) (rv : RelV v u) (q : ∀ F' H', Same F F' → Ok X.K F' M H' → Q (n != 0) H') : wpAny (model X.prog X.w) X.A (truthy u) (TP X pins σ Q) X.xe s := by
  obtain ⟨q1, dx, fs, rfl, h1, _⟩ := hx.get o rd
  obtain rfl : u = Value.ref q1 := rv
  obtain ⟨ox, od, J0, _⟩ := insC_at (X := X) I (.inr ⟨dx, fs, h1⟩)
  obtain ⟨m, hF⟩ := I.fr
  refine truthy_len_K hF I.ok.mod.kin J0 hb hm.at_ hm.fn ?_
  refine wpAny_mono (run_inner (us := [.ref q1]) (vs := [V.ref q1]) (Q := fun v H' => v = .int n ∧ Q (n != 0) H') G (Room.lenU hr _) (Env0.lenU I.env0 _) I (.cons rfl .nil) o (.cons rd .nil) t fun z v M' F' H' qz e o' r => ?_) (fun v s' z => ?_) fun _ _ z => z
  · obtain ⟨rfl, rfl⟩ := qz
    cases r
    exact ⟨rfl, q F' H' e o'⟩
  · obtain ⟨v', H', I', rv', rfl, z⟩ := z
    obtain ⟨tt, rfl⟩ : ∃ tt, v = Value.int n tt := rv'
    exact ⟨n, tt, rfl, hn, _, I'.tok _, z⟩
theorem tx_X {PB : Bool → Mem → Prop} {k : Nat} {C g : Addr} {T : TrX} (G : FnX X.prog X.w X.K X.mg X.base false k g [] T) (hr : Room (k + 1) X.A) (hm : Meth X.K C "__len__" g) (hb : PySem.W.findIn X.K (.ref C) "__bool__" = some none)
    (h : EX X J e ρ M fun d M1 => ∃ gs n, Is M1 d C gs ∧ (0 ≤ n ∧ n < 2 ^ 63) ∧ T [d] [] M1 (fun z M2 => z = .int n ∧ M2 = M1) noX ∧ PB (n != 0) M1) (he : ∀ whole, isTrue e X.env whole = (do let v ← whole; standAt e.pos; holding [v] (truthy v)) := by intro _; rfl) : TX X J e ρ M PB := by
  refine ⟨fun pins s σ H Q I ⟨F, st, k0⟩ => ?_⟩
  refine isTrue_plain (thn ((pe_any (X := X) (e := e)).run pins s σ H (fun v H1 => ∃ F1 M1 d, Same F F1 ∧ Ok X.K F1 M1 H1 ∧ Rp X.K F1 v d ∧ ∃ gs n, Is M1 d C gs ∧ (0 ≤ n ∧ n < 2 ^ 63) ∧ T [d] [] M1 (fun z M2 => z = .int n ∧ M2 = M1) noX ∧ PB (n != 0) M1) I (h.go st fun d v M1 F1 H1 q e1 o1 r1 => ⟨F1, M1, d, e1, o1, r1, q⟩))
    fun u s1 ⟨v, H1, I1, rv, F1, M1, d, e1, o1, rd, gs, n, hi, hn, t, q⟩ => ?_) (he _)
  exact tru_X G hr hm hb hi hn t I1 o1 rd rv fun F' H' e' o' => k0 _ _ _ _ q (e1.trans e') o'
/-- not o, as a value -/
theorem ex_notX {k : Nat} {C g : Addr} {T : TrX} (G : FnX X.prog X.w X.K X.mg X.base false k g [] T) (hr : Room (k + 1) X.A) (hm : Meth X.K C "__len__" g) (hb : PySem.W.findIn X.K (.ref C) "__bool__" = some none)
    (h : EX X J a ρ M fun d M1 => ∃ gs n, Is M1 d C gs ∧ (0 ≤ n ∧ n < 2 ^ 63) ∧ T [d] [] M1 (fun z M2 => z = .int n ∧ M2 = M1) noX ∧ P (.bl (!(n != 0))) M1) : EX X J (.UnaryOp .Not a pos) ρ M P := by
  refine ⟨fun pins s σ H Q I ⟨F, st, kt⟩ => ?_⟩
  refine UnaryOp_ (thn ((pe_any (X := X) (e := a)).run pins s σ H (fun v H1 => ∃ F1 M1 d, Same F F1 ∧ Ok X.K F1 M1 H1 ∧ Rp X.K F1 v d ∧ ∃ gs n, Is M1 d C gs ∧ (0 ≤ n ∧ n < 2 ^ 63) ∧ T [d] [] M1 (fun z M2 => z = .int n ∧ M2 = M1) noX ∧ P (.bl (!(n != 0))) M1) I (h.go st fun d v M1 F1 H1 q e1 o1 r1 => ⟨F1, M1, d, e1, o1, r1, q⟩))
    fun u s1 ⟨v, H1, I1, rv, F1, M1, d, e1, o1, rd, gs, n, hi, hn, t, q⟩ => ?_)
  exact not_of (thn (tru_X (Q := fun b H' => b = (n != 0) ∧ Q (.bl (!(n != 0))) H') G hr hm hb hi hn t I1 o1 rd rv fun F' H' e' o' => ⟨rfl, kt _ _ _ _ _ q (e1.trans e') o' (.bl _)⟩) fun b s2 ⟨H2, I2, eb, z⟩ => ⟨V.bl (!b), H2, I2, rfl, by rw [eb]; exact z⟩)
/-- len(o) -/
theorem cd_lenX {k : Nat} {C g : Addr} {T : TrX} {d : D} {gs : List (Str × D)} {n : Int} (G : FnX X.prog X.w X.K X.mg X.base false k g [] T) (hr : Room (k + 1) X.A) (hm : Meth X.K C "__len__" g) (hx : Is M d C gs) (hn : 0 ≤ n ∧ n < 2 ^ 63)
    (t : T [d] [] M (fun z M2 => z = .int n ∧ P (.int n) M2) noX) : CD X (.builtin "len") [d] M P :=
  ⟨fun vs H Q => ∃ F, Ok X.K F M H ∧ Rps X.K F vs [d] ∧ Kt X.K F P Q, fun pins s σ H xs us Q I r ⟨F, o, rd, kt⟩ => by
    cases rd with
    | cons rd rn =>
      cases rn
      cases r with
      | cons rv rn =>
        cases rn
        obtain ⟨q1, dx, fs, rfl, h1, _⟩ := hx.get o rd
        cases rv
        obtain ⟨ox, od, J0, _⟩ := insC_at (X := X) I (.inr ⟨dx, fs, h1⟩)
        obtain ⟨m, hF⟩ := I.fr
        refine PySem.W.len_K hF I.ok.mod.kin J0 hm.at_ hm.fn ?_
        refine wpAny_mono (run_inner (us := [.ref q1]) (vs := [V.ref q1]) (Q := fun v H' => v = .int n ∧ Q (.int n) H') G hr.in1 I.env0.in1 I (.cons rfl .nil) o (.cons rd .nil) t fun z v M' F' H' qz e o' r => ?_) (fun v s' z => ?_) fun _ _ z => z
        · obtain ⟨rfl, qz⟩ := qz
          cases r
          exact ⟨rfl, kt _ _ _ _ _ qz e o' (.int _)⟩
        · obtain ⟨v', H', I', rv', rfl, z⟩ := z
          obtain ⟨tt, rfl⟩ : ∃ tt, v = Value.int n tt := rv'
          exact ⟨hn, V.int n, H', I'.tok _, ⟨_, rfl⟩, z⟩, fun F H vs Q o r kt => ⟨F, o, r, kt⟩⟩
/-- repr(o) -/
theorem cd_reprX {k : Nat} {C g : Addr} {T : TrX} {d : D} {gs : List (Str × D)} (G : FnX X.prog X.w X.K X.mg X.base false k g [] T) (hr : Room (k + 1) X.A) (hm : Meth X.K C "__repr__" g) (hx : Is M d C gs)
    (t : T [d] [] M (fun z M2 => (∃ y, z = .str y) ∧ P z M2) noX) : CD X (.builtin "repr") [d] M P :=
  ⟨fun vs H Q => ∃ F, Ok X.K F M H ∧ Rps X.K F vs [d] ∧ Kt X.K F P Q, fun pins s σ H xs us Q I r ⟨F, o, rd, kt⟩ => by
    cases rd with
    | cons rd rn =>
      cases rn
      cases r with
      | cons rv rn =>
        cases rn
        obtain ⟨q1, dx, fs, rfl, h1, _⟩ := hx.get o rd
        cases rv
        obtain ⟨ox, od, J0, _⟩ := insC_at (X := X) I (.inr ⟨dx, fs, h1⟩)
        obtain ⟨m, hF⟩ := I.fr
        refine PySem.W.repr_K (hr.in1).units0 hF I.ok.mod.kin J0 hm.at_ hm.fn ?_
        refine wpAny_mono (run_inner (us := [.ref q1]) (vs := [V.ref q1]) (Q := fun v H' => (∃ y, v = .str y) ∧ Q v H') G hr.in1 I.env0.in1 I (.cons rfl .nil) o (.cons rd .nil) t fun z v M' F' H' qz e o' r => ?_) (fun v s' z => ?_) fun _ _ z => z
        · obtain ⟨⟨y, rfl⟩, qz⟩ := qz
          have rr := r
          cases r
          exact ⟨⟨y, rfl⟩, kt _ _ _ _ _ qz e o' rr⟩
        · obtain ⟨v', H', I', rv', ⟨y, rfl⟩, z⟩ := z
          obtain ⟨tt, rfl⟩ : ∃ tt, v = Value.str y tt := rv'
          exact ⟨V.str y, H', I', ⟨_, rfl⟩, z⟩, fun F H vs Q o r kt => ⟨F, o, r, kt⟩⟩
/-- v in o, by __contains__ -/
theorem od_inX {k : Nat} {C g : Addr} {T : TrX} {x y : D} {gs : List (Str × D)} (G : FnX X.prog X.w X.K X.mg X.base false k g [] T) (hr : Room k X.A) (hm : Meth X.K C "__contains__" g) (hy : Is M y C gs)
    (t : T [y, x] [] M (fun d M2 => (∃ b, d = .bl b) ∧ P d M2) noX) : OD X (compareOp .In) x y M P :=
  ⟨fun v u H Q => ∃ F, Ok X.K F M H ∧ Rp X.K F v x ∧ Rp X.K F u y ∧ Kt X.K F P Q, fun pins s σ H v0 u0 v u Q I rv ru ⟨F, o, rx, ry, kt⟩ => by
    obtain ⟨q1, dx, fs, rfl, h1, _⟩ := hy.get o ry
    obtain rfl : u = Value.ref q1 := ru
    obtain ⟨ox, od, J0, _⟩ := insC_at (X := X) I (.inr ⟨dx, fs, h1⟩)
    obtain ⟨m, hF⟩ := I.fr
    refine PySem.W.in_K hF I.ok.mod.kin J0 hm.at_ hm.fn ?_
    refine wpAny_mono (run_inner (us := [.ref q1, v]) (vs := [V.ref q1, v0]) (Q := fun v H' => (∃ b, v = .bl b) ∧ Q v H') G hr I.env0 I (.cons rfl (.cons rv .nil)) o (.cons ry (.cons rx .nil)) t fun z v M' F' H' qz e o' r => ?_) (fun v s' z => ?_) fun _ _ z => z
    · obtain ⟨⟨b', rfl⟩, qz⟩ := qz
      have rr := r
      cases r
      exact ⟨⟨b', rfl⟩, kt _ _ _ _ _ qz e o' rr⟩
    · obtain ⟨v', H', I', rv', ⟨b', rfl⟩, z⟩ := z
      obtain rfl : v = Value.bool b' := rv'
      exact wpAny_truthy_bool ⟨V.bl b', H', I', rfl, z⟩, fun F H v u Q o rx ry kt => ⟨F, o, rx, ry, kt⟩⟩
/-- o[i] by __getitem__, which may let an error out -/
theorem ex_ixX {k : Nat} {C g : Addr} {T : TrX} (L : Lets X J RR) (G : FnX X.prog X.w X.K X.mg X.base false k g [] T) (hr : Room (k + 1) X.A) (hm : Meth X.K C "__getitem__" g) (hfi : PySem.W.fnIn X.K g = true)
    (h : EX X J a ρ M fun d M1 => EX X J b ρ M1 fun i M2 => ∃ gs, Is M2 d C gs ∧ T [d, i] [] M2 P (Rof RR ρ))
    (hsl : ∀ (q : Addr) (i : Value), subscripted b true (.ref q) i = runValue (.builtin "lifetime.subscript" ⟨[.ref q, i], []⟩) := by intro q i; with_unfolding_all rfl) : EX X J (.Subscript a b pos) ρ M P := by
  refine ⟨fun pins s σ H Q I ⟨F, st, kt⟩ => ?_⟩
  refine Subscript_ (thn ((pe_any (X := X) (e := a)).run pins s σ H (fun v H1 => ∃ F1 M1 d, Same F F1 ∧ Ok X.K F1 M1 H1 ∧ Rp X.K F1 v d ∧ EX X J b ρ M1 fun i M2 => ∃ gs, Is M2 d C gs ∧ T [d, i] [] M2 P (Rof RR ρ)) I (h.go st fun d v M1 F1 H1 q e1 o1 r1 => ⟨F1, M1, d, e1, o1, r1, q⟩)) fun u s1 ⟨v, H1, I1, rv, F1, M1, d, e1, o1, rd, q⟩ => ?_)
  refine thn ((pe_any (X := X) (e := b)).run pins s1 σ H1 (fun v2 H2 => ∃ F2 M2 i, Same F1 F2 ∧ Ok X.K F2 M2 H2 ∧ Rp X.K F2 v2 i ∧ ∃ gs, Is M2 d C gs ∧ T [d, i] [] M2 P (Rof RR ρ)) I1 (q.go (st.to e1 o1) fun i v2 M2 F2 H2 q2 e2 o2 r2 => ⟨F2, M2, i, e2, o2, r2, q2⟩)) fun u2 s2 ⟨v2, H2, I2, rv2, F2, M2, i, e2, o2, rd2, gs, hi, t⟩ => ?_
  obtain ⟨q1, dx, fs, rfl, h1, _⟩ := hi.get o2 (rd.mono e2)
  obtain rfl : u = Value.ref q1 := rv
  obtain ⟨ox, od, J0, _⟩ := insC_at (X := X) I2 (.inr ⟨dx, fs, h1⟩)
  obtain ⟨m, hF⟩ := I2.fr
  obtain ⟨W, tk, hW⟩ := L.ex
  have st2 := (st.to e1 o1).to e2 o2
  refine PySem.W.sub_K hF I2.ok.mod.kin J0 hm.at_ hfi hm.fn ?_ (hsl _ _)
  refine wpAny_call (codeAny_mono (G.go X.A.in1 X.stack s2 H2 F2 M2 [d, i] [] P (Rof RR ρ) [.ref q1, u2] [] [.ref q1, v2] [] Q (fun cls d H' => W cls d σ H') (fun z => nomatch z) hr.in1 I2.env0.in1 (.cons rfl (.cons rv2 .nil)) .nil rfl o2 (.cons (rd.mono e2) (.cons rd2 .nil)) .nil t (kt.to (e1.trans e2)) (fun C' gs M' F' H' cls d q e o x => ?_)) fun res s' end_ => ?_)
  · obtain ⟨M3, sb, q⟩ := q
    exact hW _ _ _ _ _ _ _ _ _ ⟨st2.en.mono e, o.sub sb, J.mono _ _ e st2.gh⟩ x q
  · match res, end_ with
    | .error _, end_ => exact tk _ _ (XE.of_call I2 (fun _ _ _ h => h) end_)
    | .ok (.ret _), end_ => exact I2.after end_
    | .ok .next, end_ => exact end_.elim
    | .ok .brk, end_ => exact end_.elim
    | .ok .cont, end_ => exact end_.elim
/-- an instance called: the node -/
theorem cwO {Mo : Model} {A : Around} {E : Value → Shared → Prop} {s : Shared} {q : Addr} {Q : Value → Shared → Prop} {args : List (Bool × Sem Value)} {kw : List (Option Str × Sem Value)} (hst : (args.any (·.1) || kw.any (·.1.isNone)) = false)
    (h : wpAny Mo A (evalArgs (.ref q) true args kw) (fun z s1 => (∃ C ox od, PySem.W.InstAt s1.heap q ox C od ∧ ox.data = .plain) ∧ wpAny Mo A (call (.ref q) ([] ++ z.pos) z.kw) Q E s1) E s) : wpAny Mo A (callWith pos (.ref q) [] args kw) Q E s := by
  unfold callWith
  refine wpAny_bind (wpAny_holding (wpAny_mono h (fun z s1 g => wpAny_bind (wpAny_standAt ?_)) fun _ _ y => y))
  obtain ⟨⟨C, ox, od, J, hd⟩, g⟩ := g
  have kk := PySem.W.kco_keeper (M := Mo) J hd
  simp only [hst]
  refine wpAny_bind (kk.here ?_)
  have fin : ∀ {t : Sem Value}, wpAny Mo A t Q E s1 → wpAny Mo A (t >>= fun r => holding [r] point >>= fun _ => pure r) Q E s1 := by
    intro t ht
    exact wpAny_bind (wpAny_mono ht (fun r s2 hr => wpAny_bind (wpAny_holding (wpAny_point (wpAny_pure hr)))) fun _ _ y => y)
  exact fin (wpAny_operateT g)
/-- o(..), o an instance of C -/
theorem ex_insX {k : Nat} {C g : Addr} {T : TrX} (L : Lets X J RR) (c0 : CallO X.K C g) (G : FnX X.prog X.w X.K X.mg X.base false k g ks T) (hr : Room k X.A)
    (h : EX X J o ρ M fun d M1 => (∃ gs, Is M1 d C gs) ∧ EvA X J pos es kws ks ρ M1 fun ds zs M2 => ∃ gs, Is M2 d C gs ∧ T (d :: ds) zs M2 P (Rof RR ρ))
    (ht : eval (.Call o es kws pos) X.env = (do callWith pos (← eval o X.env) [] (backTo pos (starEach es X.env)) (backToKw pos (keywordEach kws X.env))) := by rfl)
    (hst : ((backTo pos (starEach es X.env)).any (·.1) || (backToKw pos (keywordEach kws X.env)).any (·.1.isNone)) = false := by rfl) : EX X J (.Call o es kws pos) ρ M P := by
  refine ⟨fun pins s σ H Q I ⟨F, st, kt⟩ => ?_⟩
  rw [ht]
  refine wpAny_bind (thn ((pe_any (X := X) (e := o)).run pins s σ H (fun v H1 => ∃ F1 M1 d, Same F F1 ∧ Ok X.K F1 M1 H1 ∧ Rp X.K F1 v d ∧ (∃ gs, Is M1 d C gs) ∧ EvA X J pos es kws ks ρ M1 fun ds zs M2 => ∃ gs, Is M2 d C gs ∧ T (d :: ds) zs M2 P (Rof RR ρ)) I (h.go st fun d v M1 F1 H1 q e1 o1 r1 => ⟨F1, M1, d, e1, o1, r1, q⟩)) fun u s1 ⟨y, H1, I1, ry, F1, M1, d, e1, o1, rd, ⟨gs0, hi0⟩, q⟩ => ?_)
  obtain ⟨q1, _, _, rfl, _, _⟩ := hi0.get o1 rd
  obtain rfl : u = Value.ref q1 := ry
  refine cwO hst (q _ pins σ H1 F1 s1 _ I1 (st.to e1 o1) fun us ws vs xs ds zs F2 M2 H2 s2 I2 e2 o2 r rx rds rz hl t => ?_)
  obtain ⟨gs, hi, t⟩ := t
  obtain ⟨a', dx, fs, ea, h1, h2⟩ := hi.get o2 (rd.mono e2)
  cases ea
  obtain ⟨ox, od, J0, hd⟩ := insC_at (X := X) I2 (.inr ⟨dx, fs, h1⟩)
  refine ⟨⟨C, ox, od, J0, hd⟩, ?_⟩
  obtain ⟨W, tk, hW⟩ := L.ex
  have st2 := (st.to e1 o1).to e2 o2
  refine wpAny_call (PySem.W.kco_code I2.kIn J0 hd c0.at_ c0.fn c0.fi (codeAny_mono (G.go X.A X.stack s2 H2 F2 M2 (d :: ds) zs P (Rof RR ρ) (.ref q1 :: us) ws (.ref q1 :: vs) xs Q (fun cls d H' => W cls d σ H') (fun z => nomatch z) hr I2.env0 (.cons rfl r) rx (by rw [← rx.length, rz.length]; exact hl) o2 (.cons (rd.mono e2) rds) rz t (kt.to (e1.trans e2)) (fun C' gs M' F' H' cls d q e o x => ?_)) fun res s' end_ => ?_))
  · obtain ⟨M3, sb, q⟩ := q
    exact hW _ _ _ _ _ _ _ _ _ ⟨st2.en.mono e, o.sub sb, J.mono _ _ e st2.gh⟩ x q
  · match res, end_ with
    | .error _, end_ => exact tk _ _ (XE.of_call I2 (fun _ _ _ h => h) end_)
    | .ok (.ret _), end_ => exact I2.after end_
    | .ok .next, end_ => exact end_.elim
    | .ok .brk, end_ => exact end_.elim
    | .ok .cont, end_ => exact end_.elim
/-- o.f, a property: the getter lets nothing out -/
theorem ex_propX {k : Nat} {C q g : Addr} {T : TrX} (c : Cls X.K C) (hp : PropOf X.K C f q g) (G : FnX X.prog X.w X.K X.mg X.base false k g [] T) (hr : Room (k + 1) X.A)
    (h : EX X J e ρ M fun d M1 => ∃ gs, Is M1 d C gs ∧ T [d] [] M1 P noX) (hab : attributeBase e f X.env (eval e X.env) = eval e X.env := by rfl) : EX X J (.Attribute e f pos) ρ M P := by
  refine ⟨fun pins s σ H Q I ⟨F, st, kt⟩ => ?_⟩
  refine attr_of hab (thn ((pe_any (X := X) (e := e)).run pins s σ H (fun v H1 => ∃ F1 M1 d, Same F F1 ∧ Ok X.K F1 M1 H1 ∧ Rp X.K F1 v d ∧ ∃ gs, Is M1 d C gs ∧ T [d] [] M1 P noX) I (h.go st fun d v M1 F1 H1 q e1 o1 r1 => ⟨F1, M1, d, e1, o1, r1, q⟩)) fun u s1 ⟨y, H1, I1, ry, F1, M1, d, e1, o1, rd, gs, hi, t⟩ => ?_)
  obtain ⟨q1, dx, fs, rfl, h1, h2⟩ := hi.get o1 rd
  obtain rfl : u = Value.ref q1 := ry
  obtain ⟨mA, O, _, _, _, _⟩ := ins_get I1.hok h1
  obtain ⟨od, J0, _⟩ := O.look
  obtain ⟨rest, hrec⟩ := hp.rec_
  have I2 := I1.tok (s1.toks + 1)
  have hc : (PySem.W.clsIn X.K C).isSome = true := by
    obtain ⟨cd, hc, _⟩ := PySem.W.any_some c.hd
    rw [hc]; rfl
  refine PySem.W.get_bind I1.kIn J0 (PySem.W.plainGet_of (c.get f)).1 (PySem.W.findObj_data hc hp.at_ hp.get hp.tak) (PySem.W.plainGet_of (c.get f)).2 (wpAny_call (PySem.W.prop_get (s := { s1 with toks := s1.toks + 1 }) I1.kIn hrec ?_))
  refine codeAny_mono (fnR_ofX G X.A.in1 X.stack { s1 with toks := s1.toks + 1 } H1 [.ref q1] [V.ref q1] Q (fun _ _ _ => False) hr.in1 I2.env0.in1 (.cons rfl .nil) ⟨F1, M1, [d], P, noX, o1, .cons rd .nil, t, kt.to e1, Kx.no⟩) fun res s' end_ => ?_
  match res, end_ with
  | .error er, end_ => exact (run_inner.XE_no I2 end_).elim
  | .ok (.ret u), end_ =>
    obtain ⟨v, H', I3, rv, q3⟩ := I2.after end_
    show wpAny _ _ (handedOut u) _ _ _
    rw [PySem.W.handedOut_of (handed_of rv)]
    exact wpAny_pure ⟨v, H', I3, rv, q3⟩
  | .ok .next, end_ => exact end_.elim
  | .ok .brk, end_ => exact end_.elim
  | .ok .cont, end_ => exact end_.elim
end
end DX
/-! an own error class over any built-in one: made, its fields stored -/
namespace DX
open PySem PySem.Spec L2 PyProof.Rows StX
open PySem.W PySem.Calls Builtin Builtin.ObjectAttr in
section
variable {prog : Program} {w : World} {A : Around} {E : Value → Shared → Prop} {R : Result → Shared → Prop} {hp : Heap} {g : Array GenState} {d : Drawn} {t : Nat} {os : OsState} {K : PySem.W.Frag} {name : Str} {tk : Tok} {v : Value} {x C dx : Addr} {fv : Array Value} {B : String} {bmB : List Value}
theorem taker_no (ha : PySem.W.findIn K (.ref C) name = some none) : PySem.W.takerIn K C name = some none := by
  unfold PySem.W.takerIn
  rw [ha]
  rfl
/-- the first field -/
theorem osaN (SF : StoreFacts B bmB "object.__setattr__" "object") (X : K.In hp) (hx : hp.get? x = some { cls := .ref C, data := .fields fv }) (ho : PySem.W.excOver K C bmB = true) (hh : PySem.W.hasDictIn K C = true) (ha : PySem.W.findIn K (.ref C) name = some none)
    (hq : ∀ h' tk' dx, (∀ b o, b ≠ x → hp.get? b = some o → h'.get? b = some o) → hp.objs.size ≤ dx → dx ≠ x → h'.get? x = some { cls := .ref C, dict := some dx, data := .fields fv } → h'.Ns1 dx (fun y => if y = name then some v else none) → R (.ok (.ret .none)) ⟨h', g, d, tk', os⟩) :
    codeAny (model prog w) A (.call (.builtin "object.__setattr__") ⟨[.ref x, .str name tk, v], []⟩) R ⟨hp, g, d, t, os⟩ := by
  have I : PySem.W.InstAt hp x { cls := .ref C, data := .fields fv } C none := ⟨hx, rfl, rfl, trivial⟩
  obtain ⟨cd, hcd, hd⟩ := PySem.W.any_some hh
  have far : x ≠ hp.objs.size := Nat.ne_of_lt (Heap.lt_size hx)
  have kcls : PySem.W.Looks (model prog w) hp (classData C) cd := PySem.W.looks_clsIn X hcd
  refine PySem.W.osa_openX (s := ⟨hp, g, d, t, os⟩) (r := none) SF X I ho (taker_no ha) fun b => ?_
  show wpAny _ _ (Builtin.ObjectAttr.storeInOwnDict (.ref x) (.ref C) (.str name tk) name v b) _ _ _
  obtain ⟨nm, bs, mro, ns, qn, hd0, sn, sb, ab, col, del⟩ := cd
  dsimp only at hd
  subst hd
  unfold Builtin.ObjectAttr.storeInOwnDict Builtin.ObjectAttr.ownDictForStores
  repeat (first | with_reducible refine PySem.HandSPX.store_in_new ?_ ?_ | with_reducible refine wpAny_loadPart_at hx ?_ | with_reducible refine kcls.at ?_ | wp_step)
  · exact ⟨_, #[], _, (Heap.get?_update_ne _ _ _ _ far.symm).trans (Heap.get?_push_at rfl rfl), rfl, fun e he => absurd he (by simp), fun _ => rfl⟩
  · intro h' tk' hn same
    have up : (hp.push { cls := .type "dict", data := .dict #[] }).get? x = some { cls := .ref C, data := .fields fv } := Heap.get?_push_of_some _ hx
    refine hq h' tk' hp.objs.size (fun b o hb e => ?_) (Nat.le_refl _) far.symm ?_ hn
    · exact (same.2 b (Nat.ne_of_lt (Heap.lt_size e))).trans ((Heap.get?_update_ne _ _ _ _ hb).trans (Heap.get?_push_of_some _ e))
    · exact (same.2 x far).trans (Heap.get?_update_self _ up rfl)
/-- a further field -/
theorem osaM {m0 : Str → Option Value} {nl : List Str} (SF : StoreFacts B bmB "object.__setattr__" "object") (X : K.In hp) (hx : hp.get? x = some { cls := .ref C, dict := some dx, data := .fields fv }) (hns : hp.Ns1 dx m0) (hw : Within m0 nl) (hz : nl.length ≤ 1000) (ho : PySem.W.excOver K C bmB = true) (hh : PySem.W.hasDictIn K C = true)
    (ha : PySem.W.findIn K (.ref C) name = some none) (hq : ∀ h' tk', (∀ b o, b ≠ dx → hp.get? b = some o → h'.get? b = some o) → h'.Ns1 dx (fun y => if y = name then some v else m0 y) → R (.ok (.ret .none)) ⟨h', g, d, tk', os⟩) :
    codeAny (model prog w) A (.call (.builtin "object.__setattr__") ⟨[.ref x, .str name tk, v], []⟩) R ⟨hp, g, d, t, os⟩ := by
  obtain ⟨oD, esD, epD, hoD, hdD, _⟩ := hns.count hw
  have I : PySem.W.InstAt hp x { cls := .ref C, dict := some dx, data := .fields fv } C (some oD) := ⟨hx, rfl, rfl, hoD⟩
  obtain ⟨cd, hcd, hd⟩ := PySem.W.any_some hh
  have kcls : PySem.W.Looks (model prog w) hp (classData C) cd := PySem.W.looks_clsIn X hcd
  refine PySem.W.osa_openX (s := ⟨hp, g, d, t, os⟩) (r := none) SF X I ho (taker_no ha) fun b => ?_
  show wpAny _ _ (Builtin.ObjectAttr.storeInOwnDict (.ref x) (.ref C) (.str name tk) name v b) _ _ _
  obtain ⟨nm, bs, mro, ns, qn, hd0, sn, sb, ab, col, del⟩ := cd
  dsimp only at hd
  subst hd
  unfold Builtin.ObjectAttr.storeInOwnDict Builtin.ObjectAttr.ownDictForStores
  repeat (first | with_reducible refine PySem.OEX.store_in_old hns hw hz ?_ | with_reducible refine wpAny_loadPart_at hx ?_ | with_reducible refine kcls.at ?_ | wp_step)
  intro h' tk' hn same
  exact hq h' tk' (fun b o hb e => (same.2 b hb).trans e) hn
end
end DX
/-! an own error class: what the written part says of it, its __init__, its making -/
namespace DX
open PySem PySem.Spec L2 PyProof.Rows StX
structure OexG (newId : String) (bmB : List Value) (K : PySem.W.Frag) (C : Addr) : Prop where
  cls : ∃ nm q N bs bm sn sub ab col dd k0 k1 k2 k3 k5, K.lookup C = some (excClassObj nm q C N bs bm true sn sub ab col dd k0 k1 k2 k3 k5 newId) ∧ PySem.W.excTail bmB bm = true
  sa : PySem.W.findIn K (.ref C) "__setattr__" = some (some (.builtin "object.__setattr__"))
  exC : PySem.W.subIn K (.ref C) (.type "BaseException") = some true
  tyC : PySem.W.typeIn K (.ref C) = some (.type "type")
  kC : PySem.W.keepIn K (.ref C) = true
  ov : PySem.W.excOver K C bmB = true
  hd : PySem.W.hasDictIn K C = true
/-- a built-in error class over which own ones stand -/
structure Bas (newId : String) (bmB : List Value) : Prop where
  ex : ∃ B initId, ExcBaseFacts B newId initId bmB ∧ StoreFacts B bmB "object.__setattr__" "object"
abbrev mroV : List Value := [.type "ValueError", .type "Exception", .type "BaseException", .type "object"]
abbrev mroL : List Value := [.type "LookupError", .type "Exception", .type "BaseException", .type "object"]
abbrev mroO : List Value := [.type "OverflowError", .type "ArithmeticError", .type "Exception", .type "BaseException", .type "object"]
theorem basV : Bas "ValueError.__new__" mroV := ⟨_, _, F.excBase_ValueError, F.store_ValueError⟩
theorem basL : Bas "LookupError.__new__" mroL := ⟨_, _, F.excBase_LookupError, F.store_LookupError⟩
theorem basO : Bas "OverflowError.__new__" mroO := ⟨_, _, F.excBase_OverflowError, F.store_OverflowError⟩
section
variable {X : Cx} {pins : List (Addr × Obj)} {σ : L2.St} {H : Hp} {s : Shared} {a C dx : Addr} {f : Str} {y : V} {u : Value} {fs : List (Str × V)} {Q : Unit → Shared → Prop} {E : Value → Shared → Prop} {A : Around} {newId : String} {bmB : List Value}
theorem ostN (T : OexG newId bmB X.K C) (B : Bas newId bmB) (I : L2.Inv X pins σ H s) (e : H a = some (exo a C none)) (hno : PySem.W.findIn X.K (.ref C) f = some none) (ry : RelV y u)
    (h : ∀ dx s', H dx = none → dx ≠ a → L2.Inv X pins σ (upd (upd H dx (exd dx [(f, y)])) a (exo a C (some dx))) s' → Q () s') : wpAny (model X.prog X.w) A (setAttr (.ref a) f u) Q E s := by
  obtain ⟨_, _, _, SF⟩ := B.ex
  obtain ⟨tp, at_⟩ := exo_at I.hok e
  obtain ⟨hp, g, d, t, os⟩ := s
  refine PySem.W.set_plain I.kIn (od := none) ⟨at_, rfl, rfl, trivial⟩ T.sa ?_
  refine osaN SF I.kIn at_ T.ov T.hd hno fun h' tk' dx keep new ne now dict => ?_
  have nD : H dx = none := I.hok.fresh new
  have old : ∀ {b : Addr} {o : Obj}, hp.get? b = some o → b ≠ dx := fun z => Nat.ne_of_lt (Nat.lt_of_lt_of_le (Heap.lt_size z) new)
  have away : ∀ {b : Addr}, H b = none → b ≠ a := fun n z => by rw [z, e] at n; cases n
  have un : Un X.fs [] H (upd (upd H dx (exd dx [(f, y)])) a (exo a C (some dx))) hp h' := by
    refine ⟨fun b o z n _ _ => keep b o (away n) z, fun b o z n _ _ => ⟨o.slots, keep b o (away n) z⟩, fun b o z n _ => ?_, fun b o z _ => ?_, fun b xs z => ?_, fun b o v z => ?_, fun b ps z => ⟨#[], ?_⟩⟩
    · rw [upd_ne (away n), upd_ne (old z)]; exact n
    · rcases Decidable.em (b = a) with rfl | q
      · exact ⟨_, now⟩
      · exact ⟨o, keep b o q z⟩
    · rw [upd_ne (at_ne e z exo_tup), upd_ne (ne_of_none z nD)]; exact z
    · rw [upd_ne (at_ne e z exo_frz), upd_ne (ne_of_none z nD)]; exact z
    · rw [upd_ne (at_ne e z exo_tbl), upd_ne (ne_of_none z nD), z]; simp
  refine h dx _ nD ne (I.un (t' := tk') un fun b o z => ?_)
  rcases Decidable.em (b = a) with rfl | hb
  · rw [upd_same] at z; cases z
    exact exo_ok now
  · rw [upd_ne hb] at z
    rcases Decidable.em (b = dx) with rfl | hd
    · rw [upd_same] at z; cases z
      exact exd_ok dict (relO_put (fs := []) ry fun g => True.intro)
    · rw [upd_ne hd] at z
      refine (I.hok b o z).stay (fun c v hc q => keep c v ?_ q) (fun c hc => by rw [upd_ne (at_ne e hc exo_own), upd_ne (ne_of_none hc nD)]; exact hc) fun c xs hc => by rw [upd_ne (at_ne e hc exo_tup), upd_ne (ne_of_none hc nD)]; exact hc
      rcases hc with rfl | hc
      · exact hb
      · exact at_ne e hc exo_own
theorem ostM (T : OexG newId bmB X.K C) (B : Bas newId bmB) (I : L2.Inv X pins σ H s) (e : H a = some (exo a C (some dx))) (ed : H dx = some (exd dx fs)) (hl : fs.length ≤ 900) (hno : PySem.W.findIn X.K (.ref C) f = some none) (ry : RelV y u)
    (h : ∀ s', L2.Inv X pins σ (upd H dx (exd dx ((f, y) :: fs))) s' → Q () s') : wpAny (model X.prog X.w) A (setAttr (.ref a) f u) Q E s := by
  obtain ⟨_, _, _, SF⟩ := B.ex
  obtain ⟨tp, at_⟩ := exo_at I.hok e
  obtain ⟨mA, hns, rel⟩ := exd_at I.hok ed
  have wi := within_of rel
  obtain ⟨hp, g, d, t, os⟩ := s
  obtain ⟨oD, _, _, hoD, _, _⟩ := hns.count wi
  refine PySem.W.set_plain I.kIn (od := some oD) ⟨at_, rfl, rfl, hoD⟩ T.sa ?_
  refine osaM SF I.kIn at_ hns wi (by rw [List.length_map]; omega) T.ov T.hd hno fun h' tk' keep dict => ?_
  have there : ∃ o, h'.get? dx = some o := dict.imp fun o z => by
    obtain ⟨_, _, z, _⟩ := z
    exact z
  exact h _ (I.write (t' := tk') (x := dx) (e := dx) (o := exd dx ((f, y) :: fs)) (by rw [ed]; exact True.intro) (.inl rfl) keep there (exd_ok dict (relO_put ry rel)))
end
/-- self.f = e, self an error that is being made -/
def tOstG (newId : String) (bmB : List Value) (K : PySem.W.Frag) (f : Str) (to te : TE) : TS := fun D σ H => te σ H fun y H1 => to σ H1 fun x H2 => ∃ a C : Addr, x = .ref a ∧ OexG newId bmB K C ∧ Bas newId bmB ∧ PySem.W.findIn K (.ref C) f = some none ∧
  ((H2 a = some (exo a C none) ∧ ∀ dx, H2 dx = none → dx ≠ a → D.nx σ (upd (upd H2 dx (exd dx [(f, y)])) a (exo a C (some dx)))) ∨
    ∃ (dx : Addr) (fs : List (Str × V)), H2 a = some (exo a C (some dx)) ∧ H2 dx = some (exd dx fs) ∧ fs.length ≤ 900 ∧ D.nx σ (upd H2 dx (exd dx ((f, y) :: fs))))
section
variable {X : Cx} {o e : Expr} {es : List Expr} {to te : TE} {ta : TA} {f : Str} {p p' p1 p2 pos : Pos} {newId : String} {bmB : List Value}
theorem ps_ostG (ho : PE X o to) (he : PE X e te) (hs : swapsWith e (some (.Attribute o f p')) pos.line X.env = pure false := by rfl) : PS X (.Assign [.Attribute o f p'] e pos) (tOstG newId bmB X.K f to te) := by
  refine ⟨fun pins s σ H D I h => ?_⟩
  refine plainObj_wpAny_Assign_Attribute (thn (he.run pins s σ H _ I h) fun v s1 ⟨y, H1, I1, ry, q1⟩ => thn (ho.run pins s1 σ H1 _ I1 q1) fun u s2 ⟨x, H2, I2, rx, a, C, ex, T, B, hno, q⟩ => ?_) hs
  subst ex
  obtain rfl : u = Value.ref a := rx
  rcases q with ⟨ea, q⟩ | ⟨dx, fs, ea, ed, hl, q⟩
  · exact ostN T B I2 ea hno ry fun dx s' n ne J => ⟨σ, _, J, q dx n ne⟩
  · exact ostM T B I2 ea ed hl hno ry fun s' J => ⟨σ, _, J, q⟩
end
end DX
/-! errors with one field, with two: their __init__, raised -/
namespace DX
open PySem PySem.Spec L2 PyProof.Rows StX
def spI1 (C : Addr) (f : Str) : Sp := fun vs H Q _ => ∃ a y, vs = [.ref a, y] ∧ H a = some (exo a C none) ∧ ∀ dx, H dx = none → dx ≠ a → Q .non (upd (upd H dx (exd dx [(f, y)])) a (exo a C (some dx)))
def spI2 (C : Addr) (f1 f2 : Str) : Sp := fun vs H Q _ => ∃ a y z, vs = [.ref a, y, z] ∧ H a = some (exo a C none) ∧ ∀ dx, H dx = none → dx ≠ a → Q .non (upd (upd (upd H dx (exd dx [(f1, y)])) a (exo a C (some dx))) dx (exd dx [(f2, z), (f1, y)]))
section
variable {P : Program} {w : World} {K : PySem.W.Frag} {mg : Str → Option Value} {base : Heap} {x qual : Str} {params : Arguments} {body : List Stmt} {scope : Scope} {g C : Addr} {fd : FuncData} {newId : String} {bmB : List Value} {CX : CXT} {sf v1 v2 f1 f2 : Str}
theorem vis_of {N ps : List Str} (S : FnScope N ps scope) {n : Str} (h : n ∈ ps) : Vis scope n := (S.par n h).elim (fun z => .inl z) fun z => .inr (.inl z)
theorem init1 (F : FunD K x qual params body scope [] [] g fd) (S : FnScope [sf, v1] [sf, v1] scope) (hb : ∃ p1 p2 p3 p4, body = [.Assign [.Attribute (.Name sf p1) f1 p2] (.Name v1 p3) p4]) (T : OexG newId bmB K C) (B : Bas newId bmB) (hno : PySem.W.findIn K (.ref C) f1 = some none)
    (n1 : (sf == ("__debug__" : Str)) = false := by decide) (n2 : (v1 == ("__debug__" : Str)) = false := by decide) (n3 : (sf == ("__classdict__" : Str)) = false := by decide) (n4 : (v1 == ("__classdict__" : Str)) = false := by decide) :
    FnOk P w K mg base CX 1 g fd [sf, v1] (spI1 C f1) := by
  obtain ⟨p1, p2, p3, p4, rfl⟩ := hb
  refine F.ok S (fun vs H Q E h => ?_) fun cdv A outer s H vs Q E hr h => ?_
  · obtain ⟨a, y, rfl, _⟩ := h; rfl
  · obtain ⟨a, y, rfl, ha, q⟩ := h
    refine ⟨_, pss_one (ps_ostG (newId := newId) (bmB := bmB) (pe_var (i := 0) rfl (vis_of S (by simp)) n1 n3) (pe_var (i := 1) rfl (vis_of S (by simp)) n2 n4)), ?_⟩
    exact ⟨y, rfl, .ref a, rfl, a, C, rfl, T, B, hno, .inl ⟨ha, q⟩⟩
theorem init2 (F : FunD K x qual params body scope [] [] g fd) (S : FnScope [sf, v1, v2] [sf, v1, v2] scope) (hb : ∃ p1 p2 p3 p4 p5 p6 p7 p8, body = [.Assign [.Attribute (.Name sf p1) f1 p2] (.Name v1 p3) p4, .Assign [.Attribute (.Name sf p5) f2 p6] (.Name v2 p7) p8]) (T : OexG newId bmB K C) (B : Bas newId bmB) (hno : PySem.W.findIn K (.ref C) f1 = some none) (hno2 : PySem.W.findIn K (.ref C) f2 = some none)
    (n1 : (sf == ("__debug__" : Str)) = false := by decide) (n2 : (v1 == ("__debug__" : Str)) = false := by decide) (n3 : (sf == ("__classdict__" : Str)) = false := by decide) (n4 : (v1 == ("__classdict__" : Str)) = false := by decide) (n5 : (v2 == ("__debug__" : Str)) = false := by decide) (n6 : (v2 == ("__classdict__" : Str)) = false := by decide) :
    FnOk P w K mg base CX 1 g fd [sf, v1, v2] (spI2 C f1 f2) := by
  obtain ⟨p1, p2, p3, p4, p5, p6, p7, p8, rfl⟩ := hb
  refine F.ok S (fun vs H Q E h => ?_) fun cdv A outer s H vs Q E hr h => ?_
  · obtain ⟨a, y, z, rfl, _⟩ := h; rfl
  · obtain ⟨a, y, z, rfl, ha, q⟩ := h
    refine ⟨_, pss_cons (ps_ostG (newId := newId) (bmB := bmB) (pe_var (i := 0) rfl (vis_of S (by simp)) n1 n3) (pe_var (i := 1) rfl (vis_of S (by simp)) n2 n4)) (pss_one (ps_ostG (newId := newId) (bmB := bmB) (pe_var (i := 0) rfl (vis_of S (by simp)) n1 n3) (pe_var (i := 2) rfl (vis_of S (by simp)) n5 n6))), ?_⟩
    refine ⟨y, rfl, .ref a, rfl, a, C, rfl, T, B, hno, .inl ⟨ha, fun dx hd ne => ?_⟩⟩
    exact ⟨z, rfl, .ref a, rfl, a, C, rfl, T, B, hno2, .inr ⟨dx, [(f1, y)], upd_same, by rw [upd_ne ne, upd_same], by simp, q dx hd ne⟩⟩
end
section
variable {X : Cx} {J : Gh} {e a b o : Expr} {es : List Expr} {ρ : DEnv} {M M1 M2 : Mem} {F F' H H' : Hp} {σ : L2.St} {K : PySem.W.Frag} {pos p rpos : Pos} {x f f1 f2 : Str} {B : Bd} {RR : Addr → List (Str × D) → DEnv → Mem → Prop} {newId : String} {bmB : List Value} {C g : Addr} {fd : FuncData} {ps : List Str}
/-- C(e, ..), an error that is made to be raised -/
theorem pmkG {CX : CXT} {k : Nat} {sp : Sp} {ta : TA} (T : OexG newId bmB X.K C) (Ba : Bas newId bmB) (iC : PySem.W.findIn X.K (.ref C) "__init__" = some (some (.ref g))) (tI : PySem.W.typeIn X.K (.ref g) = some (.type "function")) (G : FnOk X.prog X.w X.K X.mg X.base CX k g fd ps sp) (hr : Room (k + 1) X.A)
    (hb : Binds X.K fd ps []) (hx : Passes CX X (fun _ _ _ => False)) (hg : Gl X x) (hm : X.mg x = some (.ref C)) (ha : PA X (e :: es) ta) (hdb : (x == ("__debug__" : Str)) = false := by decide) (he : starEach (e :: es) X.env = (false, eval e X.env) :: starEach es X.env := by rfl)
    (hpl : (backTo pos (starEach es X.env)).any (·.1) = false := by rfl) : PMk X (.Call (.Name x p) (e :: es) [] pos) (tMkO C sp [] ta) := by
  intro pins s σ H Q I h
  obtain ⟨BN, initId, EB, _⟩ := Ba.ex
  obtain ⟨nm, q, N, bs, bm, sn, sub, ab, col, dd, k0, k1, k2, k3, k5, hC, tl⟩ := T.cls
  refine wpAny_Call_Name_kw (ld_glob I hg hm ?_ hdb)
  refine PySem.W.callWith_K (h₀ := X.base) I.ok.mod.kin T.kC (thn (ha.run pos pins s σ H _ I h) fun us s1 ⟨vs, H1, I1, r1, hz, q1⟩ => ⟨I1.kIn, ?_⟩) he hpl
  show wpAny _ _ (call (.ref C) us) _ _ _
  obtain ⟨hp, gg, dr, tk, os⟩ := s1
  have up : hp.objs.size ≤ hp.objs.size + 1 := Nat.le_succ _
  have hn : H1 (hp.objs.size + 1) = none := I1.hok.fresh up
  have want := q1 (hp.objs.size + 1) hn
  have keep : ∀ b o, hp.get? b = some o → ((hp.push (PySem.W.kdv_tup us)).push (PySem.HandSPX.excO C hp.objs.size)).get? b = some o := fun b o z => Heap.get?_push_of_some _ (Heap.get?_push_of_some _ z)
  have there : ((hp.push (PySem.W.kdv_tup us)).push (PySem.HandSPX.excO C hp.objs.size)).get? (hp.objs.size + 1) = some (PySem.HandSPX.excO C hp.objs.size) := by heap_get
  have I2 : L2.Inv X pins σ (upd H1 (hp.objs.size + 1) (exo (hp.objs.size + 1) C none)) ⟨(hp.push (PySem.W.kdv_tup us)).push (PySem.HandSPX.excO C hp.objs.size), gg, dr, tk, os⟩ :=
    I1.laid (t' := tk) (a := hp.objs.size + 1) (o := exo (hp.objs.size + 1) C none) keep up (exo_ok there)
  rw [List.append_nil] at want
  have r2 : Vals (V.ref (hp.objs.size + 1) :: vs) (Value.ref (hp.objs.size + 1) :: us) := .cons rfl r1
  have hl : (Value.ref (hp.objs.size + 1) :: us ++ []).length = ps.length := by
    rw [List.append_nil, ← r2.length]
    exact G.len _ _ _ _ want
  have hus : us.length ≤ sizeLine := by
    rw [← r1.length, sizeLine_eq]; omega
  have bd := hb _ (Value.ref (hp.objs.size + 1) :: us) I2.kIn hl
  rw [List.append_nil] at bd
  refine wpAny_call (PySem.HandSPX.call_own EB (fun Y => PySem.W.excTail_contains Y bm tl) (I1.kIn _ _ hC) (PySem.W.looks_findIn I1.kIn iC) (fun self => PySem.W.bind_fn I1.kIn self tI) hus
    (codeAny_mono (G.run _ X.stack _ _ ⟨Value.ref (hp.objs.size + 1) :: us, []⟩ _ _ _ (fun _ _ _ => False) (hr.make C us []) (I2.env0.make C us []) bd r2 want) fun res s' end_ => ?_))
  match res, end_ with
  | .error er, end_ => exact hx pins σ _ _ er s' I2 end_
  | .ok (.ret u), end_ =>
    obtain ⟨v, H2, os2, bare2, un2, hok2, rv, ev, d, fs, ea, ed, hd1, q2⟩ := end_
    subst ev
    obtain ⟨h2, g2, d2, t2, os'⟩ := s'
    exact ⟨rv, mk_end (raises_own T.exC T.tyC) I1 up keep un2 hok2 os2 bare2 ea ed hd1 q2⟩
  | .ok .next, end_ => exact end_.elim
  | .ok .brk, end_ => exact end_.elim
  | .ok .cont, end_ => exact end_.elim
theorem backG {H1 : Hp} {q dx : Addr} {u u2 u3 : HO} {fs : List (Str × V)} (hn : H1 q = none) : upd (del (upd (upd (upd H1 q u) dx u2) q u3) q) dx (.xd fs) = upd H1 dx (.xd fs) := by
  funext b
  by_cases h1 : b = dx
  · subst h1; rw [upd_same, upd_same]
  · rw [upd_ne h1, upd_ne h1]
    by_cases h2 : b = q
    · subst h2; rw [del_same, hn]
    · rw [del_ne h2, upd_ne h2, upd_ne h1, upd_ne h2]
theorem backH {H1 : Hp} {q dx : Addr} {u u2 u3 u4 : HO} {fs : List (Str × V)} (hn : H1 q = none) : upd (del (upd (upd (upd (upd H1 q u) dx u2) q u3) dx u4) q) dx (.xd fs) = upd H1 dx (.xd fs) := by
  funext b
  by_cases h1 : b = dx
  · subst h1; rw [upd_same, upd_same]
  · rw [upd_ne h1, upd_ne h1]
    by_cases h2 : b = q
    · subst h2; rw [del_same, hn]
    · rw [del_ne h2, upd_ne h1, upd_ne h2, upd_ne h1, upd_ne h2]
/-- raise C(e), one field -/
theorem g1_raise1 {CX : CXT} {s1 v1 : Str} (L : Lets X J RR) (hc : X.calm = true) (T : OexG newId bmB X.K C) (Ba : Bas newId bmB) (iC : PySem.W.findIn X.K (.ref C) "__init__" = some (some (.ref g))) (tI : PySem.W.typeIn X.K (.ref g) = some (.type "function")) (G : FnOk X.prog X.w X.K X.mg X.base CX 1 g fd [s1, v1] (spI1 C f)) (hr : Room 2 X.A)
    (hb : Binds X.K fd [s1, v1] []) (hx : Passes CX X (fun _ _ _ => False)) (hm : X.mg x = some (.ref C)) (h : EX X J e ρ M fun d M1 => Rof RR ρ C [(f, d)] M1) (hg : Gl X x := by rfl) (hdb : (x == ("__debug__" : Str)) = false := by decide)
    (he : starEach [e] X.env = (false, eval e X.env) :: starEach [] X.env := by rfl) : G1 X J (.Raise (some (.Call (.Name x p) [e] [] pos)) none rpos) ρ M B := by
  obtain ⟨W, tk, hW⟩ := L.ex
  refine g1_of (ps_raise hc tk (pmkG (ta := tAe X [e]) T Ba iC tI G hr hb hx hg hm pa_any hdb he (by rfl))) fun F σ H E st k => ?_
  have hA : AX X J [e] ρ M (fun ds M1 => ∃ d, ds = [d] ∧ Rof RR ρ C [(f, d)] M1) := ax_cons (h.imp fun d M1 q => ax_nil ⟨d, rfl, q⟩) he
  refine hA.go st fun ds vs M1 F1 H1 q e1 o1 r1 => ?_
  obtain ⟨d, rfl, M2, sb, q⟩ := q
  cases r1 with
  | cons rd rn =>
    cases rn
    refine ⟨by simp, fun q1 hq => ⟨q1, _, rfl, upd_same, fun dx hd ne => ⟨rfl, dx, _, upd_same, by rw [upd_ne ne, upd_same], by rw [upd_ne ne] at hd; exact hd, ?_⟩⟩⟩
    rw [upd_ne ne] at hd
    rw [backG hq]
    exact hW _ _ _ _ _ _ _ _ _ ⟨(st.en.mono e1).mono (o1.fixSame hd), (o1.fix hd).sub sb, J.mono _ _ (e1.trans (o1.fixSame hd)) st.gh⟩ ⟨rfl, .inr ⟨dx, _, rfl, upd_same, .cons (rd.mono (o1.fixSame hd)) .nil⟩⟩ q
/-- raise C(a, b), two fields -/
theorem g1_raise2 {CX : CXT} {s1 v1 v2 : Str} (L : Lets X J RR) (hc : X.calm = true) (T : OexG newId bmB X.K C) (Ba : Bas newId bmB) (iC : PySem.W.findIn X.K (.ref C) "__init__" = some (some (.ref g))) (tI : PySem.W.typeIn X.K (.ref g) = some (.type "function")) (G : FnOk X.prog X.w X.K X.mg X.base CX 1 g fd [s1, v1, v2] (spI2 C f1 f2)) (hr : Room 2 X.A)
    (hb : Binds X.K fd [s1, v1, v2] []) (hx : Passes CX X (fun _ _ _ => False)) (hm : X.mg x = some (.ref C)) (h : EX X J a ρ M fun d M1 => EX X J b ρ M1 fun d2 M2 => Rof RR ρ C [(f2, d2), (f1, d)] M2) (hg : Gl X x := by rfl) (hdb : (x == ("__debug__" : Str)) = false := by decide)
    (he : starEach [a, b] X.env = (false, eval a X.env) :: starEach [b] X.env := by rfl) (he2 : starEach [b] X.env = (false, eval b X.env) :: starEach [] X.env := by rfl) : G1 X J (.Raise (some (.Call (.Name x p) [a, b] [] pos)) none rpos) ρ M B := by
  obtain ⟨W, tk, hW⟩ := L.ex
  refine g1_of (ps_raise hc tk (pmkG (ta := tAe X [a, b]) T Ba iC tI G hr hb hx hg hm pa_any hdb he (by rw [he2]; rfl))) fun F σ H E st k => ?_
  have hA : AX X J [a, b] ρ M (fun ds M1 => ∃ d d2, ds = [d, d2] ∧ Rof RR ρ C [(f2, d2), (f1, d)] M1) := ax_cons (h.imp fun d M1 q => ax_cons (q.imp fun d2 M2 q => ax_nil ⟨d, d2, rfl, q⟩) he2) he
  refine hA.go st fun ds vs M1 F1 H1 q e1 o1 r1 => ?_
  obtain ⟨d, d2, rfl, M2, sb, q⟩ := q
  cases r1 with
  | cons rd rn =>
    cases rn with
    | cons rd2 rn =>
      cases rn
      refine ⟨by simp, fun q1 hq => ⟨q1, _, _, rfl, upd_same, fun dx hd ne => ⟨rfl, dx, _, by rw [upd_ne (Ne.symm ne), upd_same], upd_same, by rw [upd_ne ne] at hd; exact hd, ?_⟩⟩⟩
      rw [upd_ne ne] at hd
      rw [backH hq]
      exact hW _ _ _ _ _ _ _ _ _ ⟨(st.en.mono e1).mono (o1.fixSame hd), (o1.fix hd).sub sb, J.mono _ _ (e1.trans (o1.fixSame hd)) st.gh⟩ ⟨rfl, .inr ⟨dx, _, rfl, upd_same, .cons (rd2.mono (o1.fixSame hd)) (.cons (rd.mono (o1.fixSame hd)) .nil)⟩⟩ q
end
end DX
/-! errors that were caught: their fields, what they are -/
namespace DX
open PySem PySem.Spec L2 PyProof.Rows StX
section
variable {prog : Program} {w : World} {A : Around} {E : Value → Shared → Prop} {s : Shared} {K : PySem.W.Frag} {x C : Addr} {ox : Obj} {od : Option Obj}
open PySem.W PySem.Calls Builtin in
theorem classE {Q : Option Value → Shared → Prop} (T : ExcC K C) (X : K.In s.heap) (I : PySem.W.InstAt s.heap x ox C od) (h : Q (some (.ref C)) { s with toks := s.toks + 1 }) : wpAny (model prog w) A (getAttr? (.ref x) "__class__") Q E s := by
  have hc : (PySem.W.clsIn K C).isSome = true := by
    obtain ⟨cd, z, _⟩ := PySem.W.any_some T.hd
    rw [z]; rfl
  have hf : PySem.W.findObj K C od "__class__" = some (.bind (.builtin "getset_descriptor.__get__") (.builtin "object.__class__")) := by
    cases od with
    | none => exact PySem.W.findObj_dataN hc T.ha T.hn T.ht
    | some o => exact PySem.W.findObj_data hc T.ha T.hn T.ht
  obtain ⟨hp, g, d, t, os⟩ := s
  have K0 := I.type (M := model prog w)
  have K1 := PySem.W.looks_findIn (M := model prog w) X T.hg
  have K2 := PySem.W.looks_findIn (M := model prog w) X T.hk
  have K3 := PySem.W.looks_find (M := model prog w) X I hf
  have isE : PySem.W.Looks (model prog w) hp (isInstance (.ref x) (.type "BaseException")) true := K0.andThen (PySem.W.looks_subIn X T.hs)
  have n0 : (false && onTheHeap (Value.builtin "BaseException.__getattribute__")) = false := rfl
  have n2 : (Value.builtin "BaseException.__getattribute__" == Value.builtin "object.__getattribute__") = false := by decide +kernel
  have n1 : (onTheHeap (Value.ref C) && Value.builtin "BaseException.__getattribute__" == Value.builtin "object.__getattribute__") = false := by rw [n2]; rfl
  unfold getAttr? getAttrBy? getAttrBy
  refine wpAny_bind (wpAny_mkText (wpAny_bind (wpAny_attempt (wpAny_holding (wpAny_bind (K0.at (wpAny_bind (K1.at ?_))))))))
  show wpAny _ _ (if (onTheHeap (Value.ref C) && Value.builtin "BaseException.__getattribute__" == Value.builtin "object.__getattribute__") = true then _ else _) _ _ _
  rw [n1, if_neg Bool.false_ne_true]
  unfold getAttrByItsOwn hookBefore
  refine wpAny_bind ?_
  rw [if_pos (show onTheHeap (Value.ref C) = true from rfl)]
  refine K2.at ?_
  refine wpAny_bind (wpAny_attempt (wpAny_holding ?_))
  unfold callGetattribute
  rw [n0, if_neg Bool.false_ne_true]
  unfold boundAndCalled
  rw [PySem.F.excAttr_ValueError.ga.bind (.ref x)]
  refine wpAny_bind (wpAny_pure ?_)
  show wpAny _ _ (call (.builtin "BaseException.__getattribute__") [.ref x, .str "__class__" t]) _ _ _
  refine wpAny_call (codeAny_call_builtin PySem.F.excAttr_ValueError.ga.plain PySem.F.entry_bexc_ga ?_)
  refine @PySem.W.check_slot (model prog w) _ _ ⟨hp, g, d, t + 1, os⟩ "BaseException.__getattribute__" "BaseException" "__getattribute__" (.ref x) [.str "__class__" t] [] _ (by decide +kernel) (by decide +kernel) isE (PySem.F.args_bexc_ga (.ref x) (.str "__class__" t)) ?_
  unfold Builtin.«object.__getattribute__»
  refine wpAny_bind (wpAny_of_eq (a := ((Value.ref x : Value), [Value.str "__class__" t])) (by first | rfl | (simp only [Builtin.slotArgs]; rfl)) ?_)
  refine wpAny_bind (wpAny_pure (wpAny_bind (K0.at (wpAny_bind (K3.at ?_)))))
  show wpAny _ _ (holding [Value.builtin "object.__class__"] (call (.builtin "getset_descriptor.__get__") [.builtin "object.__class__", .ref x, .ref C]) >>= ret) _ _ _
  refine wpAny_bind (wpAny_holding (wpAny_call (PySem.W.class_get (s := ⟨hp, g, d, t + 1, os⟩) (ox := ox) (od := od) X I T.hm ?_)))
  refine wpAny_pure ?_
  show wpAny _ _ (handedOut (.ref C)) _ _ _
  rw [PySem.W.handedOut_of (v := .ref C) rfl]
  first
    | exact wpAny_pure (wpAny_pure h)
    | exact wpAny_pure h
    | exact wpAny_pure (wpAny_bind (wpAny_pure (wpAny_pure h)))
theorem kitE (T : ExcC K C) : PySem.W.KitX K (.ref x) (.ref C) (fun h => ∃ ox od, PySem.W.InstAt h x ox C od) where
  ty := fun _ _ _ ⟨_, _, I⟩ => I.type
  it := fun _ _ X _ => by
    obtain ⟨cdD, hcD, _⟩ := PySem.W.any_some T.hd
    unfold PySem.W.clsIn at hcD
    split at hcD
    · rename_i c' d' cd' sl' ho
      intro A' Q' E' s' k q
      unfold isType loadHead
      exact wpAny_bind (wpAny_loadPart (k _ _ (X _ _ ho)) (wpAny_pure q))
    · cases hcD
  ne := fun h tp dd its n sl X htp => by
    obtain ⟨cdD, hcD, _⟩ := PySem.W.any_some T.hd
    unfold PySem.W.clsIn at hcD
    split at hcD
    · rename_i c' d' cd' sl' ho
      refine Bool.eq_false_iff.mpr fun q => ?_
      obtain rfl : C = tp := Value.ref.inj (beq_iff_eq.mp q)
      have z := (X _ _ ho).symm.trans htp
      cases z
    · cases hcD
  ca := fun X ⟨_, _, I⟩ k => classE T X I k
end
section
variable {X : Cx} {J : Gh} {e a b o : Expr} {es : List Expr} {ρ : DEnv} {M M1 M2 : Mem} {F F' H H' : Hp} {σ : L2.St} {K : PySem.W.Frag} {pos p rpos : Pos} {x f : Str} {P : D → Mem → Prop} {C : Addr}
/-- the object of a caught error -/
theorem exn_inst {gs : List (Str × D)} {v : V} {pins : List (Addr × Obj)} {s : Shared} (I : L2.Inv X pins σ H s) (o : Ok X.K F M H) (r : Rp X.K F v (.exn C gs)) :
    ∃ q ox od fs, v = .ref q ∧ PySem.W.InstAt s.heap q ox C od ∧ Rfs X.K F fs gs ∧ ∀ n y, fs.lookup n = some y → ∃ u o', od = some o' ∧ RelV y u ∧ PySem.W.lookIn n o' = some (some u) := by
  cases r with
  | exn h1 c r1 =>
    rename_i q dd fs
    have h2 := o.ex _ _ h1
    obtain ⟨⟨oe, vs, g1, g2, g3, g4⟩, _, _⟩ := (show ObjOk X.prog X.w H s.heap q (exH q C dd) from I.hok q _ h2)
    have nc : PySem.W.notCls oe = true := by unfold PySem.W.notCls; rw [g4]
    rcases c with ⟨rfl, rfl⟩ | ⟨d1, rfl, hd⟩
    · exact ⟨q, oe, none, [], rfl, ⟨g1, g2, nc, by rw [g3]; trivial⟩, r1, fun n y z => by cases z⟩
    · obtain ⟨mA, hns, hr⟩ := (show ObjOk X.prog X.w H s.heap d1 (.xd fs) from I.hok d1 _ (o.ex _ _ hd))
      obtain ⟨od, ho, hl⟩ := lookIn_ns hns
      refine ⟨q, oe, some od, fs, rfl, ⟨g1, g2, nc, by rw [g3]; exact ho⟩, r1, fun n y z => ?_⟩
      obtain ⟨u, hu, ru⟩ := RelO.some_of (v := y) (o := mA n) (by rw [← z]; exact hr n)
      exact ⟨u, od, rfl, ru, by rw [hl, hu]⟩
/-- o.f, o an error that was caught -/
theorem ex_xfl (T : XfC X.K C) (hno : PySem.W.findIn X.K (.ref C) f = some none) (h : EX X J e ρ M fun d M1 => ∃ gs y, d = .exn C gs ∧ gs.lookup f = some y ∧ P y M1) (hb : attributeBase e f X.env (eval e X.env) = eval e X.env := by rfl) : EX X J (.Attribute e f pos) ρ M P := by
  refine ⟨fun pins s σ H Q I ⟨F, st, kt⟩ => ?_⟩
  refine attr_of hb (thn ((pe_any (X := X) (e := e)).run pins s σ H (fun v H1 => ∃ F1 M1 d, Same F F1 ∧ Ok X.K F1 M1 H1 ∧ Rp X.K F1 v d ∧ ∃ gs y, d = .exn C gs ∧ gs.lookup f = some y ∧ P y M1) I (h.go st fun d v M1 F1 H1 q e1 o1 r1 => ⟨F1, M1, d, e1, o1, r1, q⟩)) fun u s1 ⟨v, H1, I1, rv, F1, M1, d, e1, o1, rd, gs, y, hd, hl, q⟩ => ?_)
  subst hd
  obtain ⟨q1, ox, od, fs, rfl, J0, r2, look⟩ := exn_inst I1 o1 rd
  obtain rfl : u = Value.ref q1 := rv
  rcases r2.look (f := f) with ⟨_, h4⟩ | ⟨v', d', h3, h4, h5⟩
  · rw [h4] at hl; cases hl
  · rw [h4] at hl; cases hl
    obtain ⟨u, o', rfl, ru, hu⟩ := look f v' h3
    exact HandSPX.exc_get I1.kIn J0 T.ga T.gg T.exC (PySem.W.findObj_own T.hdC hno rfl hu) (handed_of ru) ⟨v', H1, I1.tok _, ru, kt _ _ _ _ _ q e1 o1 h5⟩
/-- what a caught error is: of the classes subs, by the classes L that may come -/
def isiE (L subs : List Addr) : D → Option Bool
  | .exn C _ => if C ∈ L then some (decide (C ∈ subs)) else none
  | d => if plain d = true then some false else none
theorem isiE_inv {L subs : List Addr} {d : D} {t : Bool} (h : isiE L subs d = some t) : (∃ C gs, d = .exn C gs ∧ C ∈ L ∧ t = decide (C ∈ subs)) ∨ (plain d = true ∧ t = false) := by
  have pl : ∀ {d : D}, (if plain d = true then some false else none) = some t → plain d = true ∧ t = false := by
    intro d h
    split at h
    · rename_i q; cases h; exact ⟨q, rfl⟩
    · cases h
  cases d with
  | exn C gs =>
    have h : (if C ∈ L then some (decide (C ∈ subs)) else none) = some t := h
    split at h
    · rename_i q; cases h; exact .inl ⟨C, gs, rfl, q, rfl⟩
    · cases h
  | _ => exact .inr (pl h)
/-- isinstance(o, c) -/
theorem cd_isiE {d : D} {cd : D} {cv : Value} {L subs : List Addr} {t : Bool} (hT : ∀ C ∈ L, ExcC X.K C) (hk : ∀ C ∈ L, PySem.W.kitOne X.K (.ref C) cv = some (decide (C ∈ subs))) (hp : ∀ n ∈ ["NoneType", "bool", "int", "str", "tuple", "list", "dict"], PySem.W.kitOne X.K (.type n) cv = some false)
    (hc : ∀ F v, Rp X.K F v cd → ClsV v cv) (h : isiE L subs d = some t) (q : P (.bl t) M) : CD X (.builtin "isinstance") [d, cd] M P :=
  ⟨fun vs H Q => ∃ F, Ok X.K F M H ∧ Rps X.K F vs [d, cd] ∧ Kt X.K F P Q, fun pins s σ H xs us Q I r ⟨F, o, rd, kt⟩ => (by
    cases rd with
    | cons rd rn =>
      cases rn with
      | cons rc rn =>
        cases rn
        obtain ⟨u1, u2, rfl, r1, r2⟩ := vals2 r
        have cl := hc _ _ rc
        have e2 : u2 = cv := cl.eq r2
        subst e2
        rcases isiE_inv h with ⟨C, gs, rfl, hC, rfl⟩ | ⟨hpl, rfl⟩
        · obtain ⟨q1, ox, od, fs, rfl, J0, _, _⟩ := exn_inst I o rd
          obtain rfl : u1 = Value.ref q1 := r1
          exact PySem.W.kia_one (kitE (hT C hC)) I.kIn ⟨ox, od, J0⟩ (hk C hC) (fun z => nomatch z) fun tk => ⟨.bl _, H, I.tok tk, rfl, kt.here q o (.bl _)⟩
        · obtain ⟨Pk, kx, hp1, hx⟩ := kit_of I r1 (ty_of hpl o.ex rd)
          exact PySem.W.kia_one kx I.kIn hp1 (hp _ (kn_mem _)) hx fun tk => ⟨.bl _, H, I.tok tk, rfl, kt.here q o (.bl _)⟩), fun F H vs Q o r kt => ⟨F, o, r, kt⟩⟩
/-- isinstance(o, (c, ..)) -/
theorem cd_isiET {d : D} {cds : List D} {cvs : List Value} {L subs : List Addr} {t : Bool} (hT : ∀ C ∈ L, ExcC X.K C) (hk : ∀ C ∈ L, PySem.W.kitAny X.K (.ref C) cvs = some (decide (C ∈ subs))) (hp : ∀ n ∈ ["NoneType", "bool", "int", "str", "tuple", "list", "dict"], PySem.W.kitAny X.K (.type n) cvs = some false)
    (hc : ∀ F vs, Rps X.K F vs cds → Paired ClsV vs cvs) (h : isiE L subs d = some t) (q : P (.bl t) M) : CD X (.builtin "isinstance") [d, .tup cds] M P :=
  ⟨fun vs H Q => ∃ F, Ok X.K F M H ∧ Rps X.K F vs [d, .tup cds] ∧ Kt X.K F P Q, fun pins s σ H xs us Q I r ⟨F, o, rd, kt⟩ => (by
    cases rd with
    | cons rd rn =>
      cases rn with
      | cons rc rn =>
        cases rn
        cases rc with
        | tup hq rcs =>
          obtain ⟨u1, u2, rfl, r1, r2⟩ := vals2 r
          obtain rfl : u2 = Value.ref _ := r2
          obtain ⟨its, rv, ⟨ob, g1, g2, n, g3⟩, _⟩ := I.tuple (same_t o.ex hq)
          have e2 : its = cvs := ClsV.all (hc _ _ rcs) rv
          subst e2
          obtain ⟨oc, od0, dt, sl⟩ := ob
          dsimp only at g2 g3
          subst g2 g3
          rcases isiE_inv h with ⟨C, gs, rfl, hC, rfl⟩ | ⟨hpl, rfl⟩
          · obtain ⟨q1, ox, od, fs, rfl, J0, _, _⟩ := exn_inst I o rd
            obtain rfl : u1 = Value.ref q1 := r1
            exact PySem.W.kia_tup (kitE (hT C hC)) I.kIn ⟨ox, od, J0⟩ g1 (hk C hC) (fun z => nomatch z) fun tk => ⟨.bl _, H, I.tok tk, rfl, kt.here q o (.bl _)⟩
          · obtain ⟨Pk, kx, hp1, hx⟩ := kit_of I r1 (ty_of hpl o.ex rd)
            exact PySem.W.kia_tup kx I.kIn hp1 g1 (hp _ (kn_mem _)) hx fun tk => ⟨.bl _, H, I.tok tk, rfl, kt.here q o (.bl _)⟩), fun F H vs Q o r kt => ⟨F, o, r, kt⟩⟩
end
end DX
/-! try .. except (..) as n -/
namespace DX
open PySem PySem.Spec L2 PyProof.Rows StX
theorem flyZ {base h h' : Heap} {l : List PySem.Env} {e : Addr} {Z : Obj → Prop} (x : HandSPX.FlyingZ base l e Z h) (k : ∀ b o, h.get? b = some o → h'.get? b = some o) : HandSPX.FlyingZ base l e Z h' := by
  obtain ⟨f1, f2, f3, oe, vs, T, oT, ts, he, hz, hd, h1, hn, hne, hT, hdT, h3⟩ := x
  exact ⟨fun b o q => k b o (f1 b o q), f2, f3.of_keeps fun b o q _ => ⟨o, k b o q, rfl⟩, oe, vs, T, oT, ts, k _ _ he, hz, hd, h1, hn, hne, k _ _ hT, hdT, h3⟩
/-- what an except clause asks: of which classes -/
def ExT (X : Cx) (t : Expr) (cs : List Value) : Prop := ∀ (a : Addr) (pins : List (Addr × Obj)) (σ : L2.St) (H : Hp) (s : Shared) (e : Addr) (cls : Value) (b : Bool) (Q : Bool → Shared → Prop) (E : Value → Shared → Prop),
  L2.Inv { X with A := X.A.mark (some (.ref a)), calm := false, xe := fun _ _ => False } pins σ H s → PySem.W.Looks (model X.prog X.w) s.heap (typeOf (.ref e)) cls → PySem.W.exmAny X.K cls cs = some b →
  (∀ h', (∀ q o, s.heap.get? q = some o → h'.get? q = some o) → Q b { s with heap := h' }) →
  wpAny (model X.prog X.w) (X.A.mark (some (.ref a))) (eval t X.env) (fun c s1 => wpAny (model X.prog X.w) (X.A.mark (some (.ref a))) (excMatches (.ref e) c) Q E s1) E s
section
variable {X : Cx} {x1 x2 x3 : Str} {C1 C2 C3 : Addr} {p1 p2 p3 tpos : Pos} {kk : Nat}
theorem exT1 (g1 : Gl X x1) (m1 : X.mg x1 = some (.ref C1)) (d1 : (x1 == ("__debug__" : Str)) = false := by decide) : ExT X (.Name x1 p1) [.ref C1] := by
  intro a pins σ H s e cls b Q E I LT hx k
  obtain ⟨b1, r1, e1, e2, e3⟩ := PySem.W.exmAny_cons hx
  have e2 : some false = some r1 := e2
  cases e2
  rw [Bool.or_false] at e3
  subst e3
  refine ld_glob (X := { X with A := X.A.mark (some (.ref a)), calm := false, xe := fun _ _ => False }) I g1 m1 ?_ d1
  exact (PySem.W.exm_one I.kIn LT e1).here (k _ fun _ _ z => z)
theorem exT2 (g1 : Gl X x1) (m1 : X.mg x1 = some (.ref C1)) (g2 : Gl X x2) (m2 : X.mg x2 = some (.ref C2)) (d1 : (x1 == ("__debug__" : Str)) = false := by decide) (d2 : (x2 == ("__debug__" : Str)) = false := by decide) :
    ExT X (.Tuple [.Name x1 p1, .Name x2 p2] kk tpos) [.ref C1, .ref C2] := by
  intro a pins σ H s e cls b Q E I LT hx k
  refine wpAny_Tuple (wpAny_items_cons (ld_glob (X := { X with A := X.A.mark (some (.ref a)), calm := false, xe := fun _ _ => False }) I g1 m1 ?_ d1))
  refine wpAny_items_cons (ld_glob (X := { X with A := X.A.mark (some (.ref a)), calm := false, xe := fun _ _ => False }) I g2 m2 ?_ d2)
  refine wpAny_items_nil ⟨by size_fits, ?_⟩
  have up : ∀ q o, s.heap.get? q = some o → (s.heap.push { cls := .type "tuple", data := .seq [Value.ref C1, Value.ref C2].toArray }).get? q = some o := fun _ _ z => Heap.get?_push_of_some _ z
  exact (PySem.W.exm_tup2 (I.kIn.keeps up) (LT.keeps up) (Heap.get?_push_size s.heap rfl) hx).here (k _ up)
theorem exT3 (g1 : Gl X x1) (m1 : X.mg x1 = some (.ref C1)) (g2 : Gl X x2) (m2 : X.mg x2 = some (.ref C2)) (g3 : Gl X x3) (m3 : X.mg x3 = some (.ref C3)) (d1 : (x1 == ("__debug__" : Str)) = false := by decide) (d2 : (x2 == ("__debug__" : Str)) = false := by decide) (d3 : (x3 == ("__debug__" : Str)) = false := by decide) :
    ExT X (.Tuple [.Name x1 p1, .Name x2 p2, .Name x3 p3] kk tpos) [.ref C1, .ref C2, .ref C3] := by
  intro a pins σ H s e cls b Q E I LT hx k
  refine wpAny_Tuple (wpAny_items_cons (ld_glob (X := { X with A := X.A.mark (some (.ref a)), calm := false, xe := fun _ _ => False }) I g1 m1 ?_ d1))
  refine wpAny_items_cons (ld_glob (X := { X with A := X.A.mark (some (.ref a)), calm := false, xe := fun _ _ => False }) I g2 m2 ?_ d2)
  refine wpAny_items_cons (ld_glob (X := { X with A := X.A.mark (some (.ref a)), calm := false, xe := fun _ _ => False }) I g3 m3 ?_ d3)
  refine wpAny_items_nil ⟨by size_fits, ?_⟩
  have up : ∀ q o, s.heap.get? q = some o → (s.heap.push { cls := .type "tuple", data := .seq [Value.ref C1, Value.ref C2, Value.ref C3].toArray }).get? q = some o := fun _ _ z => Heap.get?_push_of_some _ z
  exact (PySem.W.exm_tup3 (I.kIn.keeps up) (LT.keeps up) (Heap.get?_push_size s.heap rfl) hx).here (k _ up)
end
/-- the suite's context: the error stands as a thing of ours -/
abbrev sui (X : Cx) (a : Addr) : Cx := { X with A := X.A.mark (some (.ref a)), calm := false, xe := fun _ _ => False }
section
variable {X : Cx} {J : Gh} {ρ : DEnv} {M : Mem} {F H : Hp} {σ : L2.St} {s : Shared} {pins : List (Addr × Obj)} {B : Bd} {RR : Addr → List (Str × D) → DEnv → Mem → Prop} {a C : Addr} {d : Option Addr}
theorem toSui (I : L2.Inv X pins σ H s) : L2.Inv (sui X a) pins σ H s :=
  ⟨⟨I.ok.mod, I.ok.kind, I.ok.glob, I.ok.blt, I.ok.above, I.ok.inj, I.ok.has, I.ok.cab, (fun z => absurd (show false = true from z) Bool.false_ne_true), I.ok.frames, I.ok.stk, I.ok.exf, I.ok.bs, I.ok.bsz, I.ok.noex, I.ok.exfs, I.ok.funs, I.ok.frf⟩,
    I.os, I.bare, I.base, I.loc, I.cell, I.free, I.freeC, I.pin, I.hok, I.len⟩
theorem ofSui (I : L2.Inv (sui X a) pins σ H s) (ok : X.Ok) : L2.Inv X pins σ H s := ⟨ok, I.os, I.bare, I.base, I.loc, I.cell, I.free, I.freeC, I.pin, I.hok, I.len⟩
theorem exH_ok {P : Program} {w : World} {H' : Hp} {h : Heap} {oe : Obj} {vs : Array Value} (e : h.get? a = some oe) (hc : oe.cls = .ref C) (hd : oe.dict = d) (hv : oe.data = .fields vs) : ObjOk P w H' h a (exH a C d) :=
  ⟨⟨oe, vs, e, hc, hd, hv⟩, ⟨_, e⟩, fun h1 h2 ⟨oe, vs, e, z⟩ k => ⟨oe, vs, k _ e, z⟩⟩
/-- an object that was not there at the beginning becomes one of ours -/
theorem adopt {oe : Obj} {vs : Array Value} (I : L2.Inv X pins σ H s) (e : s.heap.get? a = some oe) (hc : oe.cls = .ref C) (hd : oe.dict = d) (hv : oe.data = .fields vs) (na : H a = none) (n0 : X.s_0.heap.get? a = none) (nL : a ≠ X.env.locals) (np : ∀ p ∈ X.pn ++ pins, p.1 ≠ a) :
    L2.Inv X pins σ (upd H a (exH a C d)) s := by
  refine ⟨I.ok, I.os, I.bare, ⟨fun b o z n hf hx => I.base.keep b o z n hf hx, fun b o z n hf hx => I.base.slot b o z n hf hx, fun b o z n hx => ?_, fun b o z hx => I.base.there b o z hx, fun b xs z => ?_, fun b o u z => ?_, fun b ps z => ?_⟩, I.loc, I.cell, ?_, fun y c z => ?_, fun p hp => ?_, fun b o z => ?_, I.len⟩
  · have : b ≠ a := fun q => by rw [q, n0] at z; cases z
    rw [upd_ne this]; exact I.base.free b o z n hx
  · have := I.base.tups b xs z
    rw [upd_ne (ne_of_none this na)]; exact this
  · have := I.base.frzs b o u z
    rw [upd_ne (ne_of_none this na)]; exact this
  · obtain ⟨more, q⟩ := I.base.tbls b ps z
    exact ⟨more, by rw [upd_ne (ne_of_none q na)]; exact q⟩
  · rw [upd_ne (Ne.symm nL)]; exact I.free
  · obtain ⟨v, oc, ho, hcl⟩ := I.cell y c z
    have : c ≠ a := fun q => by
      rw [q, e] at ho; cases ho
      rw [hv] at hcl; cases hcl
    rw [upd_ne this]; exact I.freeC y c z
  · obtain ⟨h1, h2, h3⟩ := I.pin p hp
    exact ⟨h1, by rw [upd_ne (np p hp)]; exact h2, h3⟩
  · rcases Decidable.em (b = a) with rfl | hb
    · rw [upd_same] at z; cases z
      exact exH_ok e hc hd hv
    · rw [upd_ne hb] at z
      exact (I.hok b o z).stay (fun _ _ _ q => q) (fun c q => by rw [upd_ne (ne_of_none q na)]; exact q) fun c xs q => by rw [upd_ne (ne_of_none q na)]; exact q
end
end DX
/-! try .. except (..) as n: the rule -/
namespace DX
open PySem PySem.Spec L2 PyProof.Rows StX
section
variable {X : Cx} {J : Gh} {ρ : DEnv} {M : Mem} {B : Bd} {RR : Addr → List (Str × D) → DEnv → Mem → Prop}
def Bd.cuts (B : Bd) (i : Nat) : Bd := ⟨fun ρ' M' => B.nx (cut ρ' i) M', B.rt, fun ρ' M' => B.bk (cut ρ' i) M', fun ρ' M' => B.ct (cut ρ' i) M'⟩
/-- what the body may let out -/
def RTry (X : Cx) (cs : List Value) (i : Nat) (suite : List Stmt) (B : Bd) (RR : Addr → List (Str × D) → DEnv → Mem → Prop) : Addr → List (Str × D) → DEnv → Mem → Prop :=
  fun C gs ρ' M' => ∃ b, PySem.W.exmAny X.K (.ref C) cs = some b ∧ (b = true → ∀ (a : Addr) (J2 : Gh), GX (sui X a) J2 suite (put ρ' i (.exn C gs)) M' (B.cuts i)) ∧ (b = false → RR C gs ρ' M')
theorem g1_try {n : Str} {cs : List Value} {t : Expr} {body suite : List Stmt} {b₀ : Stmt} {pos hp : Pos} (i : Nat) (L : Lets X J RR) (ht : ExT X t cs)
    (hb : ∀ (pn : List (Addr × Obj)) (xe : Value → Shared → Prop) (J2 : Gh), (∀ F, J2.p F → J.p F) → Lets (X.tr pn xe) J2 (RTry X cs i (b₀ :: suite) B RR) → PassesOwn (model X.prog X.w) X.A X.env xe → GX (X.tr pn xe) J2 body ρ M B)
    (hs : X.stack = X.env :: X.outer := by rfl) (hf : X.env.frame = some X.env.locals := by rfl) (hex : X.ex = [] := by rfl) (hN : X.N.Nodup) (hi : X.N[i]? = some n := by rfl) (hln : X.env.kindOf n = some .local := by rfl) :
    G1 X J (.Try body [.ExceptHandler (some t) (some n) (b₀ :: suite) hp] [] [] pos) ρ M B := by
  obtain ⟨W0, tk0, hW0⟩ := L.ex
  refine ⟨fun pins s σ H D I ⟨F, st, kd⟩ => ?_⟩
  have ok := I.ok
  have hfr : X.A.frames = some (X.env :: X.outer) := by rw [ok.frames, hs]
  have hloc : Loc X.env.scope n := .inl hln
  refine wpAny_Try_except ?_
  -- the ghost: F stands, and what J says
  let J2 : Gh := ⟨fun F' => Same F F' ∧ J.p F', fun F1 F2 e q => ⟨q.1.trans e, J.mono _ _ e q.2⟩⟩
  let W : L2.WX := fun cls d σ' H' => ∃ F' ρ' M' C gs, Sts X.K J2 F' σ' H' ρ' M' ∧ ExR X.K F' C gs cls d ∧ RTry X cs i (b₀ :: suite) B RR C gs ρ' M'
  have body_ := fun (tk : Takes (X.tr (X.pn ++ pins) (fun e s₁ => wpAny (model X.prog X.w) X.A (noteFrame e X.env) (fun _ s₂ => wpAny (model X.prog X.w) X.A (setFlight e none) (fun _ s₃ =>
      wpAny (model X.prog X.w) X.A (handleBy e X.env [.ExceptHandler (some t) (some n) (b₀ :: suite) hp]) (SP X pins D) X.xe s₃) X.xe s₂) X.xe s₁)) W) =>
    (hb (X.pn ++ pins) _ J2 (fun F' q => q.2) ⟨W, tk, fun cls d σ' H' F' ρ' M' C gs st' x r => ⟨F', ρ', M', C, gs, st', x, r⟩⟩ PassesOwn.looking).run [] s σ H D (I.toTry _) ⟨F, ⟨st.en, st.ok, ⟨Same.refl F, st.gh⟩⟩, kd⟩
  refine wpAny_mono (body_ fun u s' xx => ?_) (fun f s1 hsp => ?_) (fun e s1 he => he)
  · obtain ⟨a, Bh, sI, pins', σ', H', cls, d, rfl, J', nb, up, sky, na, os, ag, F', ρ', M', C, gs, st', x, b, hb1, hyes, hno⟩ := xx
    have Jn : L2.Inv X pins σ' H' sI := J'.ofTry ok
    have sky' : Sky Bh (X.env :: X.outer) a (Zc cls d) X.env.locals s'.heap := by rw [← hs]; exact sky
    show wpAny (model X.prog X.w) X.A (noteFrame (.ref a) X.env) _ _ _
    refine Sky.land Zc.steady hfr hf sky' fun h3 fl3 up3 => ?_
    have J3 : L2.Inv X pins σ' H' { s' with heap := h3 } := Jn.landed nb fl3.1 (up.trans up3) os ag
    obtain ⟨oe3, vs3, he3, hz3, hd3⟩ := fl3.there
    have farF : ∀ {h : Heap} {o : Obj} {vs : Array Value}, h.FunFrames Bh (X.env :: X.outer) → h.get? a = some o → o.data = .fields vs → a ∉ frs (X.env :: X.outer) := fun ff e dd hm => by
      obtain ⟨_, o', e', hnf⟩ := ff.mem hm
      rw [e] at e'; cases e'
      exact hnf _ dd
    have nfr := farF fl3.2.2.1 he3 hd3
    have nL : a ≠ X.env.locals := fun z => nfr (List.mem_filterMap.mpr ⟨X.env, List.mem_cons_self, by rw [hf, z]⟩)
    have nI : sI.heap.get? a = none := by
      cases q : sI.heap.get? a with
      | none => rfl
      | some o =>
        have := nb a o q (by rw [hs]; exact nfr)
        rw [fl3.2.1] at this; cases this
    have n0 : X.s_0.heap.get? a = none := by
      cases q : X.s_0.heap.get? a with
      | none => rfl
      | some o =>
        have hx : a ∉ X.ex := fun m => by rw [hex] at m; cases m
        obtain ⟨o', q'⟩ := Jn.base.there a o q hx
        rw [nI] at q'; cases q'
    have np : ∀ p ∈ X.pn ++ pins, p.1 ≠ a := fun p hp z => by
      have := (Jn.pin p hp).1
      rw [z, nI] at this; cases this
    refine wpAny_handleBy_cons (codeAny_handlers_test ?_) (by intro q; cases q)
    have LT : PySem.W.Looks (model X.prog X.w) h3 (typeOf (.ref a)) cls := fun A Q E s k q => wpAny_typeOf_ref (k _ _ he3) (by rw [hz3.1]; exact q)
    have hcls : cls = .ref C := x.1
    have hb1 : PySem.W.exmAny X.K cls cs = some b := by rw [hcls]; exact hb1
    refine ht a pins σ' H' _ a cls b _ _ (toSui J3) LT hb1 fun h4 kp => ?_
    have J4 : L2.Inv X pins σ' H' { s' with heap := h4 } := J3.kept (t' := s'.toks) kp
    have fl4 := flyZ fl3 kp
    cases b with
    | true =>
      refine codeAny_handlers_suite_as ?_
      refine HandSPX.lands_againZ fl4 fun h5 fl5 up5 => ?_
      have J5 : L2.Inv X pins σ' H' { s' with heap := h5 } := Jn.landed nb fl5.1 (((up.trans up3).trans (Heap.UpToSlots.of_keeps kp)).trans up5) os ag
      obtain ⟨oe5, vs5, he5, hz5, hd5⟩ := fl5.there
      have A5 := adopt (C := C) (d := d) J5 he5 (by rw [hz5.1, hcls]) hz5.2 hd5 na n0 nL np
      refine store_ok (X := sui X a) (v := .ref a) (toSui (a := a) A5) hN hi hloc rfl (fun s5 S5 => ?_) (.inr hln)
      have sm := st'.ok.fixSame (o := exH a C d) na
      have rp : Rp X.K (upd F' a (exH a C d)) (.ref a) (.exn C gs) := by
        rcases x.2 with ⟨rfl, rfl⟩ | ⟨dd, fs, rfl, hdd, rf⟩
        · exact .exn (fs := []) upd_same (.inl ⟨rfl, rfl⟩) .nil
        · exact .exn upd_same (.inr ⟨dd, rfl, sm _ _ hdd⟩) (rf.mono sm)
      have suite_ := hyes rfl a J
      have kd' : Kd X.K (upd F' a (exH a C d)) (B.cuts i) { nx := fun σ' H' => D.nx (σ'.set i none) H', rt := D.rt, bk := fun σ' H' => D.bk (σ'.set i none) H', ct := fun σ' H' => D.ct (σ'.set i none) H' } := by
        have e0 : Same F (upd F' a (exH a C d)) := st'.gh.1.trans sm
        exact ⟨fun F2 σ2 H2 ρ2 M2 q e en o => kd.nx F2 _ H2 _ M2 q (e0.trans e) (en.cut i) o, kd.rt.to e0, fun F2 σ2 H2 ρ2 M2 q e en o => kd.bk F2 _ H2 _ M2 q (e0.trans e) (en.cut i) o, fun F2 σ2 H2 ρ2 M2 q e en o => kd.ct F2 _ H2 _ M2 q (e0.trans e) (en.cut i) o⟩
      refine wpAny_mono (suite_.run pins s5 _ _ _ S5 ⟨upd F' a (exH a C d), ⟨(st'.en.mono sm).put i rp, st'.ok.fix na, J.mono _ _ sm st'.gh.2⟩, kd'⟩) (fun f s6 hsp => ?_) (fun _ _ z => False.elim z)
      have end_ : ∀ {σ6 : L2.St} {H6 : Hp} {Q : Shared → Prop}, L2.Inv (sui X a) pins σ6 H6 s6 → (∀ s7, L2.Inv X pins (σ6.set i none) H6 s7 → Q s7) → wpAny (model X.prog X.w) X.A (do bindName X.env n .none; unbindBehindTheSuite X.env n hp) (fun _ s7 => Q s7) X.xe s6 := fun S6 hq => gone_ok (ofSui S6 ok) hN hi hln hq
      cases f with
      | next =>
        obtain ⟨σ6, H6, S6, q6⟩ := hsp
        exact end_ S6 fun s7 J7 => ⟨_, _, J7, q6⟩
      | brk =>
        obtain ⟨σ6, H6, S6, q6⟩ := hsp
        exact end_ S6 fun s7 J7 => ⟨_, _, J7, q6⟩
      | cont =>
        obtain ⟨σ6, H6, S6, q6⟩ := hsp
        exact end_ S6 fun s7 J7 => ⟨_, _, J7, q6⟩
      | ret u =>
        obtain ⟨v6, σ6, H6, S6, r6, q6⟩ := hsp
        exact end_ S6 fun s7 J7 => ⟨_, _, _, J7, r6, q6⟩
    | false =>
      show wpAny _ X.A (handleBy (.ref a) X.env []) _ _ _
      refine wpAny_handleBy_nil ?_
      obtain ⟨k1, k2, k3, oe, vs, T, oT, ts', he, hz, hd, h1, hr⟩ := id fl4
      unfold PySem.passOn
      refine wpAny_bind (wpAny_field he hd h1 ?_)
      rw [if_neg (show ¬ ((Value.ref T == Value.none) = true) from by simp)]
      have up4 := (up.trans up3).trans (Heap.UpToSlots.of_keeps kp)
      have fin : wpAny (model X.prog X.w) X.A (setFlight (.ref a) X.env.frame) (fun _ s4 => wpAny (model X.prog X.w) X.A (throw (.ref a) : Sem Flow) (SP X pins D) X.xe s4) X.xe { s' with heap := h4 } := by
        rw [hf]
        refine HandSPX.setFlight_upZ fl4 fun h5 hh5 up5 => wpAny_throw (tk0 _ _ ?_)
        exact ⟨a, Bh, sI, pins, σ', H', cls, d, rfl, Jn, nb, up4.trans up5, .inr (.inr (by rw [hs]; exact hh5)), na, os, ag, hW0 _ _ _ _ _ _ _ _ _ ⟨st'.en, st'.ok, st'.gh.2⟩ x (hno rfl)⟩
      first
        | exact wpAny_bind (wpAny_pure (wpAny_bind fin))
        | exact wpAny_bind fin
  · cases f with
    | next =>
      obtain ⟨σ', H', J', q⟩ := hsp
      exact wpAny_execs_nil ⟨σ', H', J'.ofTry ok, q⟩
    | brk =>
      obtain ⟨σ', H', J', q⟩ := hsp
      exact ⟨σ', H', J'.ofTry ok, q⟩
    | cont =>
      obtain ⟨σ', H', J', q⟩ := hsp
      exact ⟨σ', H', J'.ofTry ok, q⟩
    | ret u =>
      obtain ⟨v, σ', H', J', r, q⟩ := hsp
      exact ⟨v, σ', H', J'.ofTry ok, r, q⟩
end
end DX
/-! what the walk's text needs besides: looks at the written part, words for plain functions -/
namespace DX
open PySem PySem.Spec L2 PyProof.Rows StX
/-! ### words of the plain functions -/
abbrev Er := Addr × List (Str × D)
def Zk (K : PySem.W.Frag) : Str → Addr := fun x => He.ga K x
def exC {A B : Type} (r : Except Er A) (ke : Er → Option B) (kv : A → Option B) : Option B := match r with
  | .error e => ke e
  | .ok v => kv v
def resX {A : Type} (r : Except Er A) (p : A → Prop) (q : Er → Prop) : Prop := match r with
  | .error e => q e
  | .ok v => p v
theorem exc_i {A B : Type} {r : Except Er A} {ke : Er → Option B} {kv : A → Option B} {o : B} {p : A → Prop} {q : Er → Prop} (hF : exC r ke kv = some o) (h1 : ∀ e, r = .error e → ke e = some o → q e) (h2 : ∀ v, r = .ok v → kv v = some o → p v) : resX r p q := by
  cases r with
  | error e => exact h1 e rfl hF
  | ok v => exact h2 v rfl hF
/-- an instance of the class C -/
def isC (C : Addr) : D → Option (List (Str × D))
  | .ins C' gs => if C' = C then some gs else none
  | _ => none
theorem isC_eq {C : Addr} {d : D} {gs : List (Str × D)} (h : isC C d = some gs) : d = .ins C gs := by
  unfold isC at h
  split at h
  · split at h
    · rename_i q; cases h; rw [q]
    · cases h
  · cases h
/-- an instance of the class C that has no field m of its own -/
def mthC (C : Addr) (m : Str) (d : D) : Option (List (Str × D)) := (isC C d).bind fun gs => if gs.lookup m = none then some gs else none
theorem mthC_eq {C : Addr} {m : Str} {d : D} {gs : List (Str × D)} (h : mthC C m d = some gs) : d = .ins C gs ∧ gs.lookup m = none := by
  unfold mthC at h
  obtain ⟨g, h1, h2⟩ := Option.bind_eq_some_iff.mp h
  split at h2
  · rename_i q; cases h2; exact ⟨isC_eq h1, q⟩
  · cases h2
def insA : D → Option Unit
  | .ins _ _ => some ()
  | _ => none
theorem insA_eq {d : D} (h : insA d = some ()) : ∃ C gs, d = .ins C gs := by
  cases d with
  | ins C gs => exact ⟨C, gs, rfl⟩
  | _ => cases h
def blD : D → Option Bool
  | .bl b => some b
  | _ => none
theorem blD_eq {d : D} {b : Bool} (h : blD d = some b) : d = .bl b := by
  cases d with
  | bl c => cases h; rfl
  | _ => cases h
def natD : D → Option Int
  | .int i => if 0 ≤ i ∧ i < 2 ^ 63 then some i else none
  | _ => none
theorem natD_eq {d : D} {i : Int} (h : natD d = some i) : d = .int i ∧ 0 ≤ i ∧ i < 2 ^ 63 := by
  unfold natD at h
  split at h
  · split at h
    · rename_i q; cases h; exact ⟨rfl, q⟩
    · cases h
  · cases h
def txtD : D → Option Str
  | .str y => some y
  | _ => none
theorem txtD_eq {d : D} {y : Str} (h : txtD d = some y) : d = .str y := by
  cases d with
  | str c => cases h; rfl
  | _ => cases h
/-- the other side of a comparison -/
def othD (L : List Addr) (d : D) : Option Unit := if plain d = true then some () else match d with
  | .ins C _ => if C ∈ L then some () else none
  | _ => none
theorem othD_eq {K : PySem.W.Frag} {C : Addr} {M : Mem} {L : List Addr} {d : D} (h : othD L d = some ()) (h1 : ∀ n ∈ ["NoneType", "bool", "int", "str", "tuple", "list", "dict"], PySem.W.subIn K (.type n) (.ref C) = some false) (h2 : ∀ C' ∈ L, PySem.W.notFirst K C (.ref C') = true) : Other K C M d := by
  unfold othD at h
  split at h
  · rename_i q; exact .inl ⟨q, h1⟩
  · split at h
    · rename_i C' gs _
      split at h
      · rename_i q; exact .inr ⟨C', gs, .frz, h2 _ q⟩
      · cases h
    · cases h
/-- isinstance(o, C), C an own class that is no error -/
def isiC (C : Addr) (d : D) : Option Bool := match d with
  | .ins C' _ => if C' = C then some true else none
  | d => if plain d = true then some false else none
section
variable {X : Cx} {M : Mem} {P : D → Mem → Prop}
theorem cd_isiC {d : D} {C : Addr} {t : Bool} (c : Cls X.K C) (ic : IsiC X.K C) (h : isiC C d = some t) (q : P (.bl t) M) : CD X (.builtin "isinstance") [d, .adr C] M P := by
  have pl : ∀ {d : D}, (if plain d = true then some false else none) = some t → CD X (.builtin "isinstance") [d, .adr C] M P := by
    intro d h
    split at h
    · rename_i z; cases h; exact cd_isiN ic z q
    · cases h
  cases d with
  | ins C' gs =>
    have h : (if C' = C then some true else none) = some t := h
    split at h
    · rename_i z; cases h; subst z; exact cd_isiO c ic .frz q
    · cases h
  | _ => exact pl h
end
/-- a field of a caught error of one of the classes L -/
def xflD (L : List Addr) (f : Str) : D → Option D
  | .exn C gs => if C ∈ L then gs.lookup f else none
  | _ => none
theorem xflD_eq {L : List Addr} {f : Str} {d z : D} (h : xflD L f d = some z) : ∃ C gs, d = .exn C gs ∧ C ∈ L ∧ gs.lookup f = some z := by
  unfold xflD at h
  split at h
  · split at h
    · rename_i C gs q; exact ⟨C, gs, rfl, q, h⟩
    · cases h
  · cases h
theorem ifS {p : Prop} [Decidable p] {B : Type} {x : Option B} {o : B} (h : (if p then x else none) = some o) : p ∧ x = some o := by
  split at h
  · rename_i q; exact ⟨q, h⟩
  · cases h
section
variable {X : Cx} {J : Gh} {e : Expr} {ρ : DEnv} {M : Mem} {pos : Pos} {f : Str} {P : D → Mem → Prop}
theorem ex_xflL {L : List Addr} (hL : ∀ C ∈ L, XfC X.K C ∧ PySem.W.findIn X.K (.ref C) f = some none) (h : EX X J e ρ M fun d M1 => ∃ z, xflD L f d = some z ∧ P z M1) (hb : attributeBase e f X.env (eval e X.env) = eval e X.env := by rfl) : EX X J (.Attribute e f pos) ρ M P := by
  refine ⟨fun pins s σ H Q I ⟨F, st, kt⟩ => ?_⟩
  refine attr_of hb (thn ((pe_any (X := X) (e := e)).run pins s σ H (fun v H1 => ∃ F1 M1 d, Same F F1 ∧ Ok X.K F1 M1 H1 ∧ Rp X.K F1 v d ∧ ∃ z, xflD L f d = some z ∧ P z M1) I (h.go st fun d v M1 F1 H1 q e1 o1 r1 => ⟨F1, M1, d, e1, o1, r1, q⟩)) fun u s1 ⟨v, H1, I1, rv, F1, M1, d, e1, o1, rd, y, hy, q⟩ => ?_)
  obtain ⟨C, gs, rfl, hC, hl⟩ := xflD_eq hy
  obtain ⟨T, hno⟩ := hL C hC
  obtain ⟨q1, ox, od, fs, rfl, J0, r2, look⟩ := exn_inst I1 o1 rd
  obtain rfl : u = Value.ref q1 := rv
  rcases r2.look (f := f) with ⟨_, h4⟩ | ⟨v', d', h3, h4, h5⟩
  · rw [h4] at hl; cases hl
  · rw [h4] at hl; cases hl
    obtain ⟨u, o', rfl, ru, hu⟩ := look f v' h3
    exact HandSPX.exc_get I1.kIn J0 T.ga T.gg T.exC (PySem.W.findObj_own T.hdC hno rfl hu) (handed_of ru) ⟨v', H1, I1.tok _, ru, kt _ _ _ _ _ q e1 o1 h5⟩
/-- e.f, a field of an instance of C -/
theorem ex_fldC {C : Addr} (c : Cls X.K C) (n : NoAttr X.K C f) (h : EX X J e ρ M fun d M1 => ∃ dx gs z, Iw M1 d dx ∧ isC C dx = some gs ∧ gs.lookup f = some z ∧ P z M1) (hb : attributeBase e f X.env (eval e X.env) = eval e X.env := by rfl) : EX X J (.Attribute e f pos) ρ M P :=
  ex_fld (h.imp fun d M1 q => by
    obtain ⟨dx, gs, z, w, h1, h2, q⟩ := q
    rw [isC_eq h1] at w
    exact ⟨C, gs, z, w.is, c, n, h2, q⟩) hb
/-- e.f, a constant of the class C -/
theorem ex_conC {C : Addr} {y : D} (c : Cls X.K C) (hc : ∃ v u, Con X.K C f v u ∧ ∀ F, Rp X.K F v y) (h : EX X J e ρ M fun d M1 => ∃ dx gs, Iw M1 d dx ∧ mthC C f dx = some gs ∧ P y M1) (hb : attributeBase e f X.env (eval e X.env) = eval e X.env := by rfl) : EX X J (.Attribute e f pos) ρ M P :=
  ex_con (h.imp fun d M1 q => by
    obtain ⟨dx, gs, w, h1, q⟩ := q
    obtain ⟨h2, h3⟩ := mthC_eq h1
    rw [h2] at w
    obtain ⟨v, u, k1, k2⟩ := hc
    exact ⟨C, gs, v, u, y, w.is, c, k1, h3, k2, q⟩) hb
/-- a class by its name -/
theorem ex_cls {C : Addr} {x : Str} (hm : X.mg x = some (.ref C)) (q : P (.adr C) M) (hg : Gl X x := by rfl) (hd : (x == ("__debug__" : Str)) = false := by decide) : EX X J (.Name x pos) ρ M P := ex_glob (v := .ref C) hg hm rfl (fun F => .adr C) q hd
end
theorem bl_res {P : D → Mem → Prop} {M : Mem} {r : D} {t : Bool} (e : r = .bl t) (p : P (.bl t) M) : (∃ b, r = .bl b) ∧ P r M := ⟨⟨t, e⟩, by rw [e]; exact p⟩
/-! ### looks at the written part -/
structure ErrC (newId : String) (bmB : List Value) (K : PySem.W.Frag) (C : Str) : Prop where
  oex : OexG newId bmB K (He.ga K C)
  ini : PySem.W.findIn K (.ref (He.ga K C)) "__init__" = some (some (.ref (He.fAd K (C, some "__init__"))))
  fn : PySem.W.typeIn K (.ref (He.fAd K (C, some "__init__"))) = some (.type "function")
def oexB (newId : String) (bmB : List Value) (K : PySem.W.Frag) (C : Addr) : Bool :=
  PySem.W.excInitIn K C bmB newId && (He.eqO (PySem.W.findIn K (.ref C) "__setattr__") (some (some (.builtin "object.__setattr__"))) && (decide (PySem.W.subIn K (.ref C) (.type "BaseException") = some true) && (decide (PySem.W.typeIn K (.ref C) = some (.type "type")) &&
    (PySem.W.keepIn K (.ref C) && (PySem.W.excOver K C bmB && PySem.W.hasDictIn K C)))))
theorem oexB_ok {newId : String} {bmB : List Value} {K : PySem.W.Frag} {C : Addr} (h : oexB newId bmB K C = true) : OexG newId bmB K C := by
  obtain ⟨h1, h⟩ := He.ba h
  obtain ⟨h2, h⟩ := He.ba h
  obtain ⟨h3, h⟩ := He.ba h
  obtain ⟨h4, h⟩ := He.ba h
  obtain ⟨h5, h⟩ := He.ba h
  obtain ⟨h6, h7⟩ := He.ba h
  refine ⟨?_, He.eqO_ok h2, of_decide_eq_true h3, of_decide_eq_true h4, h5, h6, h7⟩
  unfold PySem.W.excInitIn at h1
  split at h1
  · rename_i dd cd sl ho
    split at h1
    · rename_i C' bm k0 k1 k2 k3 n k5 hm hs
      simp only [Bool.and_eq_true, beq_iff_eq, Bool.not_eq_true'] at h1
      obtain ⟨⟨⟨rfl, rfl⟩, hdel⟩, tl⟩ := h1
      obtain ⟨cd2, hc2, hd2⟩ := PySem.W.any_some h7
      unfold PySem.W.clsIn at hc2
      rw [ho] at hc2
      obtain rfl : cd = cd2 := Option.some.inj hc2
      obtain ⟨nm, bs, mro, ns, qn, hd, sn, sub, ab, col, del⟩ := cd
      dsimp only at hm hdel hd2
      subst hm hdel hd2
      have hsl : sl = #[k0, k1, k2, k3, some (.builtin n), k5] := by
        obtain ⟨l⟩ := sl
        dsimp only at hs
        rw [hs]
      subst hsl
      exact ⟨nm, qn, ns, bs, bm, sn, sub, ab, col, dd, k0, k1, k2, k3, k5, ho, tl⟩
    · cases h1
  · cases h1
def errB (newId : String) (bmB : List Value) (K : PySem.W.Frag) (C : Str) : Bool :=
  oexB newId bmB K (He.ga K C) && (He.eqO (PySem.W.findIn K (.ref (He.ga K C)) "__init__") (some (some (.ref (He.fAd K (C, some "__init__"))))) && decide (PySem.W.typeIn K (.ref (He.fAd K (C, some "__init__"))) = some (.type "function")))
theorem errB_ok {newId : String} {bmB : List Value} {K : PySem.W.Frag} {C : Str} (h : errB newId bmB K C = true) : ErrC newId bmB K C := by
  obtain ⟨h1, h⟩ := He.ba h
  obtain ⟨h2, h3⟩ := He.ba h
  exact ⟨oexB_ok h1, He.eqO_ok h2, of_decide_eq_true h3⟩
/-- a property of each of some classes, checked -/
def allB (K : PySem.W.Frag) (L : List Str) (p : Addr → Bool) : Bool := L.all fun x => p (He.ga K x)
theorem allB_ok {K : PySem.W.Frag} {L : List Str} {p : Addr → Bool} {q : Addr → Prop} (h : allB K L p = true) (hp : ∀ C, p C = true → q C) : ∀ C ∈ L.map (Zk K), q C := fun C hC => by
  obtain ⟨x, hx, rfl⟩ := List.mem_map.mp hC
  exact hp _ (List.all_eq_true.mp h x hx)
def excB (K : PySem.W.Frag) (C : Addr) : Bool :=
  He.eqO (PySem.W.findIn K (.ref C) "__getattribute__") (some (some (.builtin "BaseException.__getattribute__"))) && (He.eqO (PySem.W.findIn K (.ref C) "__getattr__") (some none) && (decide (PySem.W.subIn K (.ref C) (.type "BaseException") = some true) && (PySem.W.hasDictIn K C &&
    (He.eqO (PySem.W.findIn K (.ref C) "__class__") (some (some (.builtin "object.__class__"))) && (He.eqO (PySem.W.specialIn K (.builtin "object.__class__") "__get__") (some (some (.builtin "getset_descriptor.__get__"))) &&
      (decide (PySem.W.takesIn K (.builtin "object.__class__") = some true) && decide (PySem.W.mroIn K C (.type "object") = some true)))))))
theorem excB_ok {K : PySem.W.Frag} {C : Addr} (h : excB K C = true) : ExcC K C := by
  obtain ⟨h1, h⟩ := He.ba h
  obtain ⟨h2, h⟩ := He.ba h
  obtain ⟨h3, h⟩ := He.ba h
  obtain ⟨h4, h⟩ := He.ba h
  obtain ⟨h5, h⟩ := He.ba h
  obtain ⟨h6, h⟩ := He.ba h
  obtain ⟨h7, h8⟩ := He.ba h
  exact ⟨He.eqO_ok h1, He.eqO_ok h2, of_decide_eq_true h3, h4, He.eqO_ok h5, He.eqO_ok h6, of_decide_eq_true h7, of_decide_eq_true h8⟩
theorem excB_xf {K : PySem.W.Frag} {C : Addr} (h : excB K C = true) : XfC K C := by
  have T := excB_ok h
  exact ⟨T.hg, T.hk, T.hs, T.hd⟩
end DX
/-! the law's own call; errors raised by what is known of their classes -/
namespace DX
open PySem PySem.Spec L2 PyProof.Rows StX
theorem no_err {pg : Program} {w : World} {outer : List PySem.Env} {H : Hp} {s s' : Shared} {er : Value} (h : L2.CX pg w outer H s (fun _ _ _ => False) er s') : False := by
  obtain ⟨_, _, _, _, _, _, _, _, _, _, _, _, _, z⟩ := h
/-- the script is handed in as a list that is known to its object, or one of the module's -/
theorem law_goX {pg : Program} {w : World} {K : PySem.W.Frag} {mg mb : Str → Option Value} {k : Nat} {fa a : Addr} {T : TrX} {s1 : Shared} {vs : List Value} {ns : List Int}
    (KX : K.In s1.heap) (gN : s1.heap.Ns mainGlobals mg) (bN : s1.heap.Ns builtinsNs mb) (bA : ∀ y : Str, y ≠ "__name__" → mb y = bootBuiltins y) (lim : s1.heap.NoLimit) (gens : s1.gens = #[])
    (ha : s1.heap.get? a = some { cls := .type "list", data := .seq vs.toArray }) (hi : PyProof.Rows.IntsAre vs ns) (hl : ns.length ≤ sizeLine) (hr : Room k callerA)
    (G : ∀ base : Heap, K.In base → base.Ns mainGlobals mg → FnX pg w K mg base true k fa [] T)
    (ht : ∀ H : Hp, SqL K H a (ns.map V.int) → ∃ F M ds, Ok K F M H ∧ Rps K F [.ref a] ds ∧ T ds [] M (fun d _ => d = .bl true) noX) :
    codeAny (model pg w) callerA (.call (.ref fa) ⟨[.ref a], []⟩) (fun r s' => r = .ok (.ret (.bool true)) ∧ OldK s1.heap s'.heap ∧ s'.os = s1.os ∧ PyProof.Rows.AllBare s'.gens) s1 := by
  have vals := vals_ints hi
  have main : ∀ H : Hp, (∀ b u, H b = some u → b = a ∧ K.lookup a = none ∧ u = .frz { cls := .type "list", data := .seq vs.toArray } (.lst (ns.map V.int))) → SqL K H a (ns.map V.int) → L2.HOk pg w H s1.heap →
      codeAny (model pg w) callerA (.call (.ref fa) ⟨[.ref a], []⟩) (fun r s' => r = .ok (.ret (.bool true)) ∧ OldK s1.heap s'.heap ∧ s'.os = s1.os ∧ PyProof.Rows.AllBare s'.gens) s1 := by
    intro H only seq hok
    have kept : ∀ {b : Addr} {m : Str → Option Value}, s1.heap.Ns b m → (hidT s1.heap H).Ns b m := by
      rintro b m ⟨ob, es, ep, h1, h2, h3⟩
      refine ⟨ob, es, ep, hidT_get h1 ?_, h2, h3⟩
      cases q : H b with
      | none => rfl
      | some u =>
        obtain ⟨rfl, _, _⟩ := only b u q
        rw [ha] at h1; cases h1
        cases h2
    have kin : K.In (hidT s1.heap H) := by
      intro b ob h1
      refine hidT_get (KX b ob h1) ?_
      cases q : H b with
      | none => rfl
      | some u =>
        obtain ⟨rfl, h2, _⟩ := only b u q
        rw [h2] at h1; cases h1
    have start_ : Env0 pg w K mg (hidT s1.heap H) callerA [] s1 H :=
      ⟨rfl, ⟨kin, kept gN, ⟨mb, kept bN, bA⟩, let ⟨mc, z1, z2⟩ := lim; ⟨mc, kept z1, z2⟩⟩, fun b ob z => of_hidT z, Nat.le_of_eq (hidT_size _ _), trivial, fun b z => (List.not_mem_nil z).elim, hok, .of_eq gens⟩
    obtain ⟨F, M, ds, o, rd, t⟩ := ht H seq
    refine codeAny_mono ((G _ kin (kept gN)).go callerA [] s1 H F M ds [] _ noX [.ref a] [] [.ref a] [] (fun v _ => v = .bl true) (fun _ _ _ => False) (fun _ => rfl) hr start_ (.cons rfl .nil) .nil rfl o rd .nil t (fun d v M' F' H' z1 _ _ z2 => by subst z1; cases z2; rfl) Kx.no) fun res s' end_ => ?_
    match res, end_ with
    | .error _, end_ => exact (no_err end_).elim
    | .ok .next, end_ => exact end_.elim
    | .ok .brk, end_ => exact end_.elim
    | .ok .cont, end_ => exact end_.elim
    | .ok (.ret u), ⟨v, H', h1, h2, h3, h4, h5, h6⟩ =>
      subst h6
      cases (show u = Value.bool true from h5)
      refine ⟨rfl, OldK.of_keep fun b ob z => ?_, h1, h2⟩
      cases q : H b with
      | none => exact h3.keep b ob z q List.not_mem_nil List.not_mem_nil
      | some u =>
        obtain ⟨rfl, _, rfl⟩ := only b u q
        obtain ⟨e1, _⟩ := h4 b _ (h3.frzs b _ _ q)
        rw [ha] at z; cases z
        exact e1
  cases q : K.lookup a with
  | some ob =>
    have e1 := KX a ob q
    rw [ha] at e1; cases e1
    exact main (fun _ => none) (fun b u z => by cases z) (.inr ⟨_, vs.toArray, _, q, rfl, rfl, rfl, by simpa [hi.length] using hl, by simpa using vals⟩) fun b u z => by cases z
  | none =>
    have own : ∀ b u, (if b = a then some (HO.frz { cls := .type "list", data := .seq vs.toArray } (.lst (ns.map V.int))) else none) = some u → b = a ∧ u = .frz { cls := .type "list", data := .seq vs.toArray } (.lst (ns.map V.int)) := by
      intro b u z
      by_cases e : b = a
      · rw [if_pos e] at z; cases z; exact ⟨e, rfl⟩
      · rw [if_neg e] at z; cases z
    refine main (fun b => if b = a then some (.frz { cls := .type "list", data := .seq vs.toArray } (.lst (ns.map V.int))) else none) (fun b u z => ⟨(own b u z).1, q, (own b u z).2⟩) (.inl (.inr ⟨_, if_pos rfl⟩)) fun b u z => ?_
    obtain ⟨rfl, rfl⟩ := own b u z
    exact ⟨ha, by rw [List.length_map]; exact hl, vs, _, vals, ha⟩
theorem walk_ofX {l : PySem.W.OpenLaw} {k : Nat} {q : Program} {loose : List Str} {XP : (Str → Option Value) → Heap → Prop} {YP : World → Heap → Prop} {d : DefRec} (hn : l.most = some 63) (hdf : d.params.defaults = []) (hr : Room k callerA)
    (G : ∀ (w : World) (mg : Str → Option Value) (fa : Addr) (h : Heap), YP w h → h.Ns mainGlobals mg → mg d.name = some (.ref fa) →
      ∃ (K : PySem.W.Frag) (T : TrX), K.In h ∧
        (∀ (H : Hp) (a : Addr) (ns : List Int), ns.length ≤ 63 → SqL K H a (ns.map V.int) → ∃ F M ds, Ok K F M H ∧ Rps K F [.ref a] ds ∧ T ds [] M (fun d _ => d = .bl true) noX) ∧
        ∀ base : Heap, K.In base → base.Ns mainGlobals mg → FnX l.prog w K mg base true k fa [] T) :
    PySem.W.WalkO q loose XP YP l.row.toRowW d [] (fun f vs => PySem.call f vs) :=
  Att.attach_call hn hdf fun w s0 s1 mg mb fa o pm cd doc a vs ns Gr Y ho hd hcd hmg hobj hints hlen hgens => by
    obtain ⟨K, T, KX, ht, hF⟩ := G w mg fa _ Y Gr.T.g hmg
    exact law_goX KX Gr.T.g Gr.T.b Gr.T.builtins Gr.T.nolimit hgens hobj hints (Nat.le_trans hlen (by decide)) hr hF fun H hS => ht H a ns hlen hS

section
variable {X : Cx} {J : Gh} {e a b : Expr} {ρ : DEnv} {M : Mem} {pos p rpos : Pos} {f f1 f2 : Str} {B : Bd} {RR : Addr → List (Str × D) → DEnv → Mem → Prop} {newId : String} {bmB : List Value} {C : Str} {fd : FuncData} {qual : Str} {params : Arguments} {body : List Stmt} {scope : Scope} {s1 v1 v2 : Str}
/-- raise C(e) -/
theorem g1_rs1 (L : Lets X J RR) (hc : X.calm = true) (T : ErrC newId bmB X.K C) (Ba : Bas newId bmB) (F : FunD X.K "__init__" qual params body scope [] [] (He.fAd X.K (C, some "__init__")) fd) (S : FnScope [s1, v1] [s1, v1] scope)
    (hb : ∃ p1 p2 p3 p4, body = [.Assign [.Attribute (.Name s1 p1) f p2] (.Name v1 p3) p4]) (hno : PySem.W.findIn X.K (.ref (He.ga X.K C)) f = some none) (hr : Room 2 X.A) (hbi : L2.Binds X.K fd [s1, v1] []) (hm : X.mg C = some (.ref (He.ga X.K C)))
    (h : EX X J e ρ M fun d M1 => Rof RR ρ (He.ga X.K C) [(f, d)] M1) (hg : Gl X C := by rfl) (hdb : (C == ("__debug__" : Str)) = false := by decide)
    (he : starEach [e] X.env = (false, eval e X.env) :: starEach [] X.env := by rfl) (n1 : (s1 == ("__debug__" : Str)) = false := by decide) (n2 : (v1 == ("__debug__" : Str)) = false := by decide) (n3 : (s1 == ("__classdict__" : Str)) = false := by decide) (n4 : (v1 == ("__classdict__" : Str)) = false := by decide) :
    G1 X J (.Raise (some (.Call (.Name C p) [e] [] pos)) none rpos) ρ M B :=
  g1_raise1 (CX := L2.CX X.prog X.w) L hc T.oex Ba T.ini T.fn (init1 F S hb T.oex Ba hno n1 n2 n3 n4) hr hbi pass_no hm h hg hdb he
/-- raise C(a, b) -/
theorem g1_rs2 (L : Lets X J RR) (hc : X.calm = true) (T : ErrC newId bmB X.K C) (Ba : Bas newId bmB) (F : FunD X.K "__init__" qual params body scope [] [] (He.fAd X.K (C, some "__init__")) fd) (S : FnScope [s1, v1, v2] [s1, v1, v2] scope)
    (hb : ∃ p1 p2 p3 p4 p5 p6 p7 p8, body = [.Assign [.Attribute (.Name s1 p1) f1 p2] (.Name v1 p3) p4, .Assign [.Attribute (.Name s1 p5) f2 p6] (.Name v2 p7) p8]) (hno : PySem.W.findIn X.K (.ref (He.ga X.K C)) f1 = some none) (hno2 : PySem.W.findIn X.K (.ref (He.ga X.K C)) f2 = some none)
    (hr : Room 2 X.A) (hbi : L2.Binds X.K fd [s1, v1, v2] []) (hm : X.mg C = some (.ref (He.ga X.K C)))
    (h : EX X J a ρ M fun d M1 => EX X J b ρ M1 fun d2 M2 => Rof RR ρ (He.ga X.K C) [(f2, d2), (f1, d)] M2) (hg : Gl X C := by rfl) (hdb : (C == ("__debug__" : Str)) = false := by decide)
    (he : starEach [a, b] X.env = (false, eval a X.env) :: starEach [b] X.env := by rfl) (he2 : starEach [b] X.env = (false, eval b X.env) :: starEach [] X.env := by rfl)
    (n1 : (s1 == ("__debug__" : Str)) = false := by decide) (n2 : (v1 == ("__debug__" : Str)) = false := by decide) (n3 : (s1 == ("__classdict__" : Str)) = false := by decide) (n4 : (v1 == ("__classdict__" : Str)) = false := by decide) (n5 : (v2 == ("__debug__" : Str)) = false := by decide) (n6 : (v2 == ("__classdict__" : Str)) = false := by decide) :
    G1 X J (.Raise (some (.Call (.Name C p) [a, b] [] pos)) none rpos) ρ M B :=
  g1_raise2 (CX := L2.CX X.prog X.w) L hc T.oex Ba T.ini T.fn (init2 F S hb T.oex Ba hno hno2 n1 n2 n3 n4 n5 n6) hr hbi pass_no hm h hg hdb he he2
end
end DX
/-! small rules for the printed walk -/
namespace DX
open PySem PySem.Spec L2 PyProof.Rows StX
theorem is_of {C : Addr} {d : D} {gs : List (Str × D)} {M : Mem} (h : isC C d = some gs) : Is M d C gs := by rw [isC_eq h]; exact .frz
theorem is_mt {C : Addr} {m : Str} {d : D} {gs : List (Str × D)} {M : Mem} (h : mthC C m d = some gs) : Is M d C gs := by rw [(mthC_eq h).1]; exact .frz
theorem retX {A : Type} {r : Except Er A} {v : A} {p : A → Prop} {q : Er → Prop} (h : Except.ok v = r) (k : resX r p q) : p v := by subst h; exact k
theorem errX {A : Type} {r : Except Er A} {e : Er} {p : A → Prop} {q : Er → Prop} (h : Except.error e = r) (k : resX r p q) : q e := by subst h; exact k
section
variable {X : Cx} {J : Gh} {e o : Expr} {ρ : DEnv} {M : Mem} {pos fp : Pos} {f : Str} {B : Bd}
theorem g1_setFldF (h : EX X J e ρ M fun y M1 => EX X J o ρ M1 fun d M2 => ∃ q C gs g, d = .adr q ∧ At M2 q (.ins C gs) g ∧ Cls X.K C ∧ NoAttr X.K C f ∧ gs.length < 1000 ∧ B.nx ρ (g (.ins C (putG f y gs))))
    (hs : swapsWith e (some (.Attribute o f fp)) pos.line X.env = pure false := by rfl) : G1 X J (.Assign [.Attribute o f fp] e pos) ρ M B :=
  g1_setFld (h.imp fun y M1 q => q.imp fun d M2 q => by
    obtain ⟨q, C, gs, g, h1, h2, h3, h4, h5, h6⟩ := q
    exact ⟨q, C, gs, h1, h2.get, h3, h4, h5, by rw [h2.set] at h6; exact h6⟩) hs
end
end DX
/-! lists taken apart, repr where dicts stand, f-strings, a class's constant by the class -/
namespace DX
open PySem PySem.Spec L2 PyProof.Rows StX
section
variable {X : Cx} {J : Gh} {e a b o : Expr} {es : List Expr} {ρ : DEnv} {M M1 : Mem} {F F' H H' : Hp} {σ : L2.St} {K : PySem.W.Frag} {pos p : Pos} {f x : Str} {P : D → Mem → Prop}
theorem as_lst {ds : List D} {k : Nat} {P : DEnv → Prop} (hc : X.calm = true) (hl : (assignEach es X.env).length = ds.length) (h : AsDs X es ds ρ P) (hst : (assignEach es X.env).findIdx? (·.1) = none := by rfl) : AsD X (.Tuple es k pos) (.lst ds) ρ P := by
  obtain ⟨g, hg, h⟩ := h
  refine ⟨_, pg_unl hc hg hl hst, fun F M v σ H Q o r en k => ?_⟩
  cases r with
  | lst h1 r1 => exact ⟨_, _, rfl, SqL.of (o.ex _ _ h1), r1.length, h F M _ σ H Q o r1 en k⟩
def unl2 : D → Option (D × D)
  | .lst [a, b] => some (a, b)
  | _ => none
def unl3 : D → Option (D × D × D)
  | .lst [a, b, c] => some (a, b, c)
  | _ => none
def unl4 : D → Option (D × D × D × D)
  | .lst [a, b, c, d] => some (a, b, c, d)
  | _ => none
theorem unl2_eq {d : D} {p : D × D} (h : unl2 d = some p) : d = .lst [p.1, p.2] := by unfold unl2 at h; split at h <;> cases h; rfl
theorem unl3_eq {d : D} {p : D × D × D} (h : unl3 d = some p) : d = .lst [p.1, p.2.1, p.2.2] := by unfold unl3 at h; split at h <;> cases h; rfl
theorem unl4_eq {d : D} {p : D × D × D × D} (h : unl4 d = some p) : d = .lst [p.1, p.2.1, p.2.2.1, p.2.2.2] := by unfold unl4 at h; split at h <;> cases h; rfl
/-- repr of data, dicts among them -/
noncomputable def dReprR (d : D) : Option D := chk (shw d = true ∧ (pydR d).showable = true ∧ (pydR d).depth ≤ 60 ∧ (pydR d).shown.length ≤ 16000000) (.str (txtR d))
theorem cd_dReprR {d z : D} (hS : sysB X.K = true) (hg : X.A.guards = some []) (hu : X.A.units + 64 < cLine) (h : dReprR d = some z) (q : P z M) : CD X (.builtin "repr") [d] M P := by
  obtain ⟨⟨h1, h2, h3, h4⟩, rfl⟩ := chk_inv h
  exact cd_reprR hS hg hu ⟨h1, h2, h3, h4⟩ q
/-- what {..} shows -/
noncomputable def fmtD : D → Option Str
  | .str y => chk (y.length ≤ 1000000) y
  | .int i => chk (i.natAbs.log2 < 1920) (toString i)
  | _ => none
theorem ex_fmt (h : EX X J e ρ M fun d M1 => ∃ y, fmtD d = some y ∧ P (.str y) M1) : EX X J (.FormattedValue e (-1) none pos) ρ M P :=
  ex_of (pe_fmt pe_any) fun F σ H Q st k => h.go st fun d v M1 F1 H1 q e1 o1 r1 => by
    obtain ⟨y, hy, q⟩ := q
    unfold fmtD at hy
    split at hy
    · obtain ⟨hz, rfl⟩ := chk_inv hy
      cases r1
      exact .inl ⟨_, rfl, by rw [sizeLine_eq]; omega, k _ _ _ _ _ q e1 o1 (.str _)⟩
    · obtain ⟨hz, rfl⟩ := chk_inv hy
      cases r1
      exact .inr ⟨_, rfl, hz, k _ _ _ _ _ q e1 o1 (.str _)⟩
    · cases hy
theorem pj_any : ∀ es : List Expr, PJ X es (es.map (tE X))
  | [] => .nil
  | _ :: es => .cons pe_any (pj_any es)
/-- the parts of an f-string -/
def JX (X : Cx) (J : Gh) (es : List Expr) (acc : Str) (ρ : DEnv) (M : Mem) (P : Str → Mem → Prop) : Prop :=
  ∀ F H σ Q, Sts X.K J F σ H ρ M → (∀ out M' F' H', P out M' → Same F F' → Ok X.K F' M' H' → Q out H') → tJs (es.map (tE X)) acc σ H Q
theorem jx_nil {acc : Str} {P : Str → Mem → Prop} (h : P acc M) : JX X J [] acc ρ M P := fun F H σ Q st k => k _ _ _ _ h (Same.refl F) st.ok
theorem jx_cons {acc : Str} {P : Str → Mem → Prop} (h : EX X J e ρ M fun d M1 => ∃ y, d = .str y ∧ (acc ++ y).length ≤ 1000000 ∧ JX X J es (acc ++ y) ρ M1 P) : JX X J (e :: es) acc ρ M P := fun F H σ Q st k => by
  show tE X e σ H _
  exact h.go st fun d v M1 F1 H1 q e1 o1 r1 => by
    obtain ⟨y, rfl, hz, j⟩ := q
    cases r1
    exact ⟨y, rfl, by rw [sizeLine_eq]; omega, j F1 H1 σ Q (st.to e1 o1) fun out M' F' H' p e2 o2 => k _ _ _ _ p (e1.trans e2) o2⟩
theorem ex_joined (h : JX X J (a :: b :: es) Str.empty ρ M fun out M' => P (.str out) M') : EX X J (.JoinedStr (a :: b :: es) pos) ρ M P :=
  ex_of (pe_joined (pj_any _)) fun F σ H Q st k => h F H σ _ st fun out M' F' H' p e o => k _ _ _ _ _ p e o (.str _)
/-- C.f, a constant of a class -/
theorem ex_clsv {C : Addr} {mc : Value} {y : D} (hc : ClX.CRead X.K C mc ∧ ∃ v u, ClX.CVal X.K C mc f v u ∧ ∀ F, Rp X.K F v y) (h : EX X J e ρ M fun d M1 => d = .adr C ∧ P y M1) (hb : attributeBase e f X.env (eval e X.env) = eval e X.env := by rfl) : EX X J (.Attribute e f pos) ρ M P :=
  ex_of (ClX.pe_cval pe_any hb) fun F σ H Q st k => h.go st fun d v M1 F1 H1 q e1 o1 r1 => by
    obtain ⟨rfl, q⟩ := q
    obtain ⟨r, w, u, c, rp⟩ := hc
    cases r1
    exact ⟨C, mc, w, u, rfl, r, c, k _ _ _ _ _ q e1 o1 (rp _)⟩
end
def cvalB (K : PySem.W.Frag) (C f : Str) (i : Int) : Bool := PySem.W.readsIn K (He.ga K C) (.type "type") && (He.eqO (PySem.W.specialIn K (.ref (He.ga K C)) "__getattribute__") (some (some (.builtin "type.__getattribute__"))) && match PySem.W.findCls K (.ref (He.ga K C)) (.type "type") f with
  | some (.val (.int j t)) => decide (j = i)
  | _ => false)
theorem cvalB_ok {K : PySem.W.Frag} {C f : Str} {i : Int} (h : cvalB K C f i = true) : ClX.CRead K (He.ga K C) (.type "type") ∧ ∃ u, ClX.CVal K (He.ga K C) (.type "type") f (.int i) u := by
  obtain ⟨h1, h⟩ := He.ba h
  obtain ⟨h2, h3⟩ := He.ba h
  refine ⟨⟨h1, He.eqO_ok h2⟩, ?_⟩
  split at h3
  · rename_i j t e
    have := of_decide_eq_true h3
    subst this
    exact ⟨_, e, ⟨t, rfl⟩⟩
  · cases h3
end DX
/-! isinstance with a tuple of built-in types -/
namespace DX
open PySem PySem.Spec L2 PyProof.Rows StX
noncomputable def dIsiT (ns : List String) (d : D) : Option Bool := chk (plain d = true) (ns.any fun m => isi m d)
theorem clsv_tys {K : PySem.W.Frag} {F : Hp} : ∀ {ns : List String} {vs : List V}, Rps K F vs (ns.map D.ty) → Paired ClsV vs (ns.map Value.type)
  | [], _, r => by cases r; exact .nil
  | n :: ns, _, r => by
    cases r with
    | cons a r => cases a; exact .cons (.ty _) (clsv_tys r)
section
variable {X : Cx} {M : Mem} {P : D → Mem → Prop}
theorem cd_isiTT {d : D} {ns : List String} {t : Bool} (hk : ∀ n ∈ ["NoneType", "bool", "int", "str", "tuple", "list", "dict"], PySem.W.kitAny X.K (.type n) (ns.map Value.type) = some (ns.any fun m => (n == m) || (n == "bool" && m == "int"))) (h : dIsiT ns d = some t) (q : P (.bl t) M) : CD X (.builtin "isinstance") [d, .tup (ns.map D.ty)] M P :=
  ⟨fun vs H Q => ∃ F, Ok X.K F M H ∧ Rps X.K F vs [d, .tup (ns.map D.ty)] ∧ Kt X.K F P Q, fun pins s σ H xs us Q I r ⟨F, o, rd, kt⟩ => (by
    obtain ⟨hpl, rfl⟩ := chk_inv h
    cases rd with
    | cons rd rn =>
      cases rn with
      | cons rc rn =>
        cases rn
        cases rc with
        | tup hq rcs =>
          obtain ⟨u1, u2, rfl, r1, r2⟩ := vals2 r
          obtain rfl : u2 = Value.ref _ := r2
          obtain ⟨its, rv, ⟨ob, g1, g2, n, g3⟩, _⟩ := I.tuple (same_t o.ex hq)
          have e2 : its = ns.map Value.type := ClsV.all (clsv_tys rcs) rv
          subst e2
          obtain ⟨oc, od0, dt, sl⟩ := ob
          dsimp only at g2 g3
          subst g2 g3
          obtain ⟨Pk, kx, hp1, hx⟩ := kit_of I r1 (ty_of hpl o.ex rd)
          exact PySem.W.kia_tup kx I.kIn hp1 g1 (hk _ (kn_mem _)) hx fun tk => ⟨.bl _, H, I.tok tk, rfl, kt.here q o (.bl _)⟩), fun F H vs Q o r kt => ⟨F, o, r, kt⟩⟩
end
/-! ### class constants that are texts -/
def conSB (K : PySem.W.Frag) (C f x : Str) : Bool := match PySem.W.findIn K (.ref (He.ga K C)) f with
  | some (some (.str y t)) => decide (y = x) && He.eqO (PySem.W.specialIn K (.str y t) "__get__") (some none)
  | _ => false
theorem conSB_ok {K : PySem.W.Frag} {C f x : Str} (h : conSB K C f x = true) (hc : PySem.W.copiedNames.contains f = false) : ∃ u, Con K (He.ga K C) f (.str x) u := by
  unfold conSB at h
  split at h
  · rename_i y t e
    obtain ⟨h1, h2⟩ := He.ba h
    have := of_decide_eq_true h1
    subst this
    exact ⟨_, e, ⟨t, rfl⟩, He.eqO_ok h2, hc⟩
  · cases h
def cvalSB (K : PySem.W.Frag) (C f x : Str) : Bool := PySem.W.readsIn K (He.ga K C) (.type "type") && (He.eqO (PySem.W.specialIn K (.ref (He.ga K C)) "__getattribute__") (some (some (.builtin "type.__getattribute__"))) && match PySem.W.findCls K (.ref (He.ga K C)) (.type "type") f with
  | some (.val (.str y t)) => decide (y = x)
  | _ => false)
theorem cvalSB_ok {K : PySem.W.Frag} {C f x : Str} (h : cvalSB K C f x = true) : ClX.CRead K (He.ga K C) (.type "type") ∧ ∃ u, ClX.CVal K (He.ga K C) (.type "type") f (.str x) u := by
  obtain ⟨h1, h⟩ := He.ba h
  obtain ⟨h2, h3⟩ := He.ba h
  refine ⟨⟨h1, He.eqO_ok h2⟩, ?_⟩
  split at h3
  · rename_i y t e
    have := of_decide_eq_true h3
    subst this
    exact ⟨_, e, ⟨t, rfl⟩⟩
  · cases h3
end DX
/-! lambdas without parameters, handed to a def -/
namespace DX
open PySem PySem.Spec L2 PyProof.Rows StX LamX
/-- a def's code object and its table of code objects -/
def ctA (K : PySem.W.Frag) (x : Str × Option Str) : Addr × Addr := match K.lookup (He.fAd K x) with
  | some ⟨_, _, .func fd, _⟩ => (match fd.code with
    | .ref c => (match K.lookup c with
      | some ⟨_, _, .fields vs, _⟩ => (match (vs[11]? : Option Value) with
        | some (.ref P) => (c, P)
        | _ => (0, 0))
      | _ => (0, 0))
    | _ => (0, 0))
  | _ => (0, 0)
theorem code_ref {K : PySem.W.Frag} {x : Str × Option Str} {cdv : Value} (h : CodeAt K (He.fAd K x) cdv) (hne : (ctA K x).1 ≠ (ctA K x).2) : cdv = .ref (ctA K x).1 := by
  obtain ⟨oc, od, osl, fd, lk, rfl⟩ := h
  unfold ctA at hne ⊢
  rw [lk] at hne ⊢
  cases hc : fd.code with
  | ref c =>
    simp only [hc] at hne ⊢
    cases h1 : K.lookup c with
    | none => simp only [h1] at hne; exact absurd rfl hne
    | some o =>
      obtain ⟨k1, k2, k3, k4⟩ := o
      simp only [h1] at hne ⊢
      cases k3 with
      | fields vs =>
        simp only at hne ⊢
        cases h2 : (vs[11]? : Option Value) with
        | none => simp only [h2] at hne; exact absurd rfl hne
        | some v =>
          simp only [h2] at hne ⊢
          cases v <;> first | rfl | exact absurd rfl hne
      | _ => exact absurd rfl hne
  | _ => simp only [hc] at hne; exact absurd rfl hne
theorem tab_ne {K : PySem.W.Frag} {x : Str × Option Str} {base : Heap} {mg : Str → Option Value} (h : TabB base mg (ctA K x).1 (ctA K x).2) : (ctA K x).1 ≠ (ctA K x).2 := by
  obtain ⟨_, _, _, _, _, _, _, _, _, _, _, _, _, _, _, _, _, _, n⟩ := h.code
  exact n
/-- the places of the tables and the names of what stands in them -/
abbrev TbL := List ((Str × Option Str) × Str)
def TbM (K : PySem.W.Frag) (tl : TbL) (M : Mem) : Prop := ∀ x ∈ tl, M (ctA K x.1).2 = some (.tbl x.2)
theorem tbm_up {K : PySem.W.Frag} {tl : TbL} {M : Mem} {a : Addr} {d : D} (h : TbM K tl M) (n : M a = none) : TbM K tl (up M a d) := fun x hx => by
  have e := h x hx
  rw [up_ne (fun z => by rw [z, n] at e; cases e)]
  exact e
section
variable {K : PySem.W.Frag} {F H : Hp} {M : Mem}
/-- a table grows by a code object -/
theorem Ok.grow (k : Ok K F M H) {P c : Addr} {q : Str} {ps : Array Value} {p1 : Pos} (hM : M P = some (.tbl q)) (hP : H P = some (.tbl ps)) (hc : H c = none) :
    Same F (upd F c (CodeO c q)) ∧ Ok K (upd F c (CodeO c q)) M (upd (upd H P (.tbl (ps ++ #[rawInt p1.line, rawInt p1.col, .ref c]))) c (CodeO c q)) := by
  obtain ⟨nF, nM⟩ := k.nn hc
  have sm : Same F (upd F c (CodeO c q)) := same_new nF
  obtain ⟨fP, ps', hP', tr, ht⟩ := k.mt P _ hM
  rw [hP] at hP'; cases hP'
  have nPc : P ≠ c := ne_of_none hP hc
  refine ⟨sm, fun b u e => ?_, fun b d e => ?_⟩
  · by_cases hb : b = c
    · subst hb; rw [upd_same] at e ⊢; exact e
    · rw [upd_ne hb] at e ⊢
      rw [upd_ne (ne_of_none e fP)]
      exact k.ex b u e
  · have hb : b ≠ c := fun z => by rw [z, nM] at e; cases e
    obtain ⟨m1, m2⟩ := k.mt b d e
    refine ⟨by rw [upd_ne hb]; exact m1, ?_⟩
    by_cases hp : b = P
    · subst hp
      rw [hM] at e; cases e
      refine ⟨_, by rw [upd_ne hb, upd_same], ?_, fun pos cv z => ?_⟩
      · have el : (ps ++ #[rawInt p1.line, rawInt p1.col, Value.ref c]).toList = ps.toList ++ [rawInt p1.line, rawInt p1.col, .ref c] := by simp
        rw [el]; exact PySem.TriplesOk_snoc _ _ _ _ tr
      · have el : (ps ++ #[rawInt p1.line, rawInt p1.col, Value.ref c]).toList = ps.toList ++ [rawInt p1.line, rawInt p1.col, .ref c] := by simp
        rw [el] at z
        rcases among_app _ tr z with z | z
        · obtain ⟨c0, h1, h2⟩ := ht pos cv z
          exact ⟨c0, h1, sm _ _ h2⟩
        · exact ⟨c, z, upd_same⟩
    · exact m2.mono sm (by rw [upd_ne hb, upd_ne hp])
end
section
variable {X : Cx} {pins : List (Addr × Obj)} {σ : L2.St} {H F : Hp} {M : Mem} {s : Shared}
abbrev lamO (X : Cx) (params : Arguments) (body : Expr) (scope : Scope) (pm : Value) (c' : Addr) (ctv : Value) : Obj :=
  PySem.W.kla_obj "<lambda>" (X.env.qual ++ "<lambda>") params body scope (cloFrom X.env.cells scope.names []) pm c' ctv
/-- the lambda is made -/
theorem lam_made {c P : Addr} {params : Arguments} {body : Expr} {scope : Scope} {pos : Pos} {E : Value → Shared → Prop} {Q : Value → Shared → Prop} (I : L2.Inv X pins σ H s) (o : Ok X.K F M H) (TB : TabB X.base X.mg c P) (hcode : X.env.code = .ref c)
    (hM : M P = some (.tbl (X.env.qual ++ "<lambda>"))) (hdef : defaultsOf params X.env = ([], [])) (hfree : ∀ y ∈ scope.names, y.2 = .free → ∃ c, X.env.cells.lookup y.1 = some c)
    (h : ∀ (f c' : Addr) (pm ctv : Value) (H1 F1 : Hp) (s' : Shared), L2.Inv X pins σ H1 s' → Same F F1 → Ok X.K F1 M H1 → s'.heap.get? f = some (lamO X params body scope pm c' ctv) → H1 f = none → f ∉ frs X.stack → F1 c' = some (CodeO c' (X.env.qual ++ "<lambda>")) → Q (.ref f) s') :
    wpAny (model X.prog X.w) X.A (eval (.Lambda params body scope pos) X.env) Q E s := by
  obtain ⟨fP, ps, hP, tr, ht⟩ := o.mt P _ hM
  have here : s.heap.get? P = some { cls := .none, data := .fields ps } := I.hok P _ hP
  have bB : s.heap.BuiltinsAt X.mg P := TB.bm.keeps I.bk
  have far : ∀ f, s.heap.objs.size ≤ f → f ∉ frs X.stack := fun f hf z => (List.mem_cons.mp (I.stkSub _ z)).elim (fun e => by
    have := I.lt
    rw [← e] at this
    exact absurd (Nat.lt_of_lt_of_le this hf) (Nat.lt_irrefl _)) fun e => I.nofs hf e
  refine PySem.W.kla_eval hdef ?_
  cases hc : codeAmong pos ps.toList with
  | some cv =>
    obtain ⟨c', rfl, hco⟩ := ht pos cv hc
    refine PySem.W.kla_makeFunctionHit (mg := X.mg) (c := c) (P := P) (ps := ps) (closure_ok hfree) I.ok.glob (I.mod.glob.keeps I.bk) hcode (TB.code.keeps I.bk) here tr hc bB fun ctv h' tk hx hsz => ?_
    exact h _ c' _ ctv H F _ (I.kept (t' := tk) fun b ob e => Heap.get?_push_of_some _ (hx b ob e)) (Same.refl F) o (Heap.get?_push_size _ rfl) (I.hok.fresh hsz) (far _ hsz) hco
  | none =>
    refine PySem.W.kla_makeFunction (mg := X.mg) (c := c) (P := P) (ps := ps) (closure_ok hfree) I.ok.glob (I.mod.glob.keeps I.bk) hcode (TB.code.keeps I.bk) here tr hc TB.gP bB fun c' ctv h' tk hx hge hlt hrec htb => ?_
    obtain ⟨_, oc, vs, t, e2, hoc, hd, hv⟩ := hrec
    cases e2
    have nC : H c' = none := I.hok.fresh hge
    have hsz : s.heap.objs.size ≤ h'.objs.size := Nat.le_of_lt (Nat.lt_of_le_of_lt hge hlt)
    obtain ⟨sm, o1⟩ := o.grow (p1 := pos) hM hP nC
    refine h h'.objs.size c' _ ctv _ _ _ (inv_table (t' := tk) (more := #[rawInt pos.line, rawInt pos.col, .ref c']) I hP (fun b ob hb e => Heap.get?_push_of_some _ (hx b ob hb e)) (Heap.get?_push_of_some _ htb) hge ⟨oc, vs, t, Heap.get?_push_of_some _ hoc, hd, hv⟩) sm o1 (Heap.get?_push_size _ rfl) ?_ (far _ hsz) upd_same
    rw [upd_ne (Nat.ne_of_gt hlt), upd_ne (Nat.ne_of_gt (Nat.lt_of_lt_of_le (Heap.lt_size here) hsz))]
    exact I.hok.fresh hsz
/-- what the call of a name that holds the lambda does, in the def that got it -/
def LamAt (Z : Cx) (a : Str) (i : Nat) (f : Addr) (F0 : Hp) (M : Mem) (T : (D → Mem → Prop) → RX → Prop) : Prop :=
  ∀ (pn : List (Addr × Obj)) (xe : Value → Shared → Prop) (J : Gh) (ρ : DEnv) (P : D → Mem → Prop) (RR : Addr → List (Str × D) → DEnv → Mem → Prop) (p1 p2 : Pos), (∀ F, J.p F → Same F0 F) → Lets (Z.tr pn xe) J RR → look ρ i = some (.adr f) → T P (Rof RR ρ) → EX (Z.tr pn xe) J (.Call (.Name a p1) [] [] p2) ρ M P
theorem lets_lam {A : Around} {outer : List PySem.Env} {s1 : Shared} {HZ F0 : Hp} {scope : Scope} {f c' : Addr} {R : RX} {E : XK} (kx : Kx X.K F0 R E) :
    Lets (lamCx X A outer s1 HZ E scope f c') (ghF F0) (fun C gs _ M' => R C gs M') :=
  ⟨fun cls d _ H => E cls d H, takes_of rfl rfl rfl rfl, fun cls d σ H' F ρ M C gs st x r => kx C gs M F H' cls d r st.gh st.ok x⟩
theorem lam_at {Ng : List Str} {qg : Str} {sg : Scope} {g f c' : Addr} {cdg pm ctv : Value} {params : Arguments} {body : Expr} {scope : Scope} {k i : Nat} {a : Str} {Eg : XK} {ρX : DEnv} {M0 : Mem} {JX : Gh} {T : (D → Mem → Prop) → RX → Prop}
    (I : L2.Inv X pins σ H s) (en : En X.K F σ ρX) (L : LamS X.env.scope scope) (hf : s.heap.get? f = some (lamO X params body scope pm c' ctv)) (hfn : H f = none) (hfr : f ∉ frs X.stack) (hco : F c' = some (CodeO c' (X.env.qual ++ "<lambda>")))
    (hbind : bindArgs (PySem.W.kla_fn "<lambda>" (X.env.qual ++ "<lambda>") params body scope (cloFrom X.env.cells scope.names []) pm (.ref c') ctv) ⟨[], []⟩ = pure []) (hr : Room (k + 1) (X.A.deeper (envOfC qg sg s.heap.objs.size g cdg)))
    (hbody : ∀ (A : Around) (outer : List PySem.Env) (s : Shared) (H : Hp) (E : XK) (f c' : Addr) (J : Gh) (P : D → Mem → Prop) (R : RX), A.guards = X.A.guards → Room k (A.deeper (lamEnv X scope s.heap.objs.size f c')) → Lets (lamCx X A outer s H E scope f c') J (fun C gs _ M' => R C gs M') → T P R → EX (lamCx X A outer s H E scope f c') J body ρX M0 P)
    (hN : Ng[i]? = some a) (hv : Vis sg a) (hd : (a == ("__debug__" : Str)) = false) (hcd : (a == ("__classdict__" : Str)) = false) :
    LamAt (cxOf (L2.CX X.prog X.w) X.prog X.w X.K X.mg X.base Ng qg sg g cdg X.A X.stack s H Eg) a i f F M0 T := by
  intro pn xe J ρ P RR p1 p2 hJ LZ hl hT
  obtain ⟨W, tk, hW⟩ := LZ.ex
  refine ⟨fun pinsZ sZ σZ HZ Q IZ ⟨FZ, stZ, kt⟩ => ?_⟩
  have sF : Same F FZ := hJ FZ stZ.gh
  obtain ⟨y, h1, h2⟩ := stZ.en.look hl
  cases h2
  refine wpAny_Call_Name_kw (thn ((pe_var (pos := p1) (i := i) hN hv hd hcd).run pinsZ sZ σZ HZ (fun v H1 => v = .ref f ∧ H1 = HZ) IZ ⟨.ref f, h1, rfl, rfl⟩) fun u s1 ⟨v, H1, I1, r1, q1⟩ => ?_)
  obtain ⟨rfl, rfl⟩ := q1
  obtain rfl : u = Value.ref f := r1
  have at1 : s1.heap.get? f = some (lamO X params body scope pm c' ctv) := I1.base.keep f _ hf hfn hfr (fun z => nomatch (show f ∈ ([] : List Addr) from z))
  refine PySem.W.callWith_F0 ⟨_, _, _, _, at1⟩ ?_
  have un : Un (frs X.stack) [] H H1 s.heap s1.heap := I1.base
  obtain ⟨⟨oc, vs, t, hoc, hdc, hvc⟩, _, _⟩ := I1.hok c' _ (stZ.ok.ex _ _ (sF _ _ hco))
  have kx : Kx X.K FZ (Rof RR ρ) (fun cls d H' => W cls d σZ H') := fun C gs M' F' H' cls d q e o x => by
    obtain ⟨M2, sb, q⟩ := q
    exact hW _ _ _ _ _ _ _ _ _ ⟨stZ.en.mono e, o.sub sb, J.mono _ _ e stZ.gh⟩ x q
  have rc : codeAny (model X.prog X.w) (X.A.deeper (envOfC qg sg s.heap.objs.size g cdg)) (.call (.ref f) ⟨[], []⟩) (CR (L2.CX X.prog X.w) (envOfC qg sg s.heap.objs.size g cdg :: X.stack) X.prog X.w H1 s1 Q (fun cls d H' => W cls d σZ H')) s1 := by
    refine PySem.W.kla_callFunE hr.depth at1 rfl L.co L.gen rfl ⟨c', oc, vs, t, rfl, hoc, hdc, hvc⟩ ?_
    rw [hbind]
    refine wpAny_pure (wpAny_newFunctionEnv (fun y hy => (L.own y hy).2) (fun y hy => absurd hy (by simp)) (fun h₁ hns hsb => ⟨I1.nolimit.fresh _ hsb, ?_⟩) L.kind)
    show codeAny _ _ (.expr body (lamEnv X scope s1.heap.objs.size f c')) _ _
    have J0 := lam_start2 (A := X.A.deeper (envOfC qg sg s.heap.objs.size g cdg)) (outer := envOfC qg sg s.heap.objs.size g cdg :: X.stack) (E := fun cls d H' => W cls d σZ H') (f := f) (c' := c') (h₁ := h₁) (tk := s1.toks + ([] : List (Str × Value)).length) I L I1.env0 hr.hd un hns (fun b o e => hsb.extBut b o (Nat.ne_of_lt (Heap.lt_size e)) (Heap.get?_push_of_some _ e))
    have hb := hbody (X.A.deeper (envOfC qg sg s.heap.objs.size g cdg)) (envOfC qg sg s.heap.objs.size g cdg :: X.stack) s1 H1 (fun cls d H' => W cls d σZ H') f c' (ghF FZ) P (Rof RR ρ) rfl (hr.deeper _) (lets_lam kx) hT
    refine PySem.W.kla_codeExpr (wpAny_mono (hb.run [] _ _ H1 Q J0 ⟨FZ, ⟨en.mono sF, stZ.ok, Same.refl FZ⟩, kt⟩) (fun v s' hq => ?_) fun e s' hq => hq)
    obtain ⟨w', H', J', rv, q⟩ := hq
    exact ⟨w', H', J'.os, J'.bare, J'.base, J'.hok, rv, q⟩
  refine wpAny_call (codeAny_mono rc fun r s' hq => ?_)
  match r, hq with
  | .error _, hq => exact tk _ _ (XE.of_call I1 (fun _ _ _ h => h) hq)
  | .ok (.ret _), hq => exact I1.after hq
  | .ok .next, hq => exact hq.elim
  | .ok .brk, hq => exact hq.elim
  | .ok .cont, hq => exact hq.elim
end
/-- the body of a def that gets a lambda (its one parameter a) and calls it -/
def BodyL (pg : Program) (w : World) (K : PySem.W.Frag) (mg : Str → Option Value) (base : Heap) (gd : Bool) (k : Nat) (g : Addr) (qual : Str) (body : List Stmt) (scope : Scope) (N : List Str) (a : Str) (T' : ((D → Mem → Prop) → RX → Prop) → Mem → (D → Mem → Prop) → Prop) : Prop :=
  ∀ (cdv : Value) (A : Around) (outer : List PySem.Env) (s : Shared) (H F0 : Hp) (E : XK) (f : Addr) (M : Mem) (T : (D → Mem → Prop) → RX → Prop) (P : D → Mem → Prop), (gd = true → A.guards = some []) → Room k (A.deeper (envOfC qual scope s.heap.objs.size g cdv)) → T' T M P →
    LamAt (cxOf (L2.CX pg w) pg w K mg base N qual scope g cdv A outer s H E) a 0 f F0 M T →
    PassesOwn (model pg w) (cxOf (L2.CX pg w) pg w K mg base N qual scope g cdv A outer s H E).A (cxOf (L2.CX pg w) pg w K mg base N qual scope g cdv A outer s H E).env (cxOf (L2.CX pg w) pg w K mg base N qual scope g cdv A outer s H E).xe →
    GX (cxOf (L2.CX pg w) pg w K mg base N qual scope g cdv A outer s H E) (ghF F0) body (startD (N.length - 1) [.adr f]) M ⟨fun _ M' => P .non M', P, fun _ _ => False, fun _ _ => False⟩
section
variable {X : Cx} {J : Gh} {ρ : DEnv} {M : Mem} {P : D → Mem → Prop} {x a qg : Str} {g c Pt : Addr} {k kb : Nat} {gd : Bool} {pg : Arguments} {bg : List Stmt} {sg : Scope} {fd : FuncData} {Ng : List Str} {params : Arguments} {body : Expr} {scope : Scope} {p lpos pos : Pos}
  {T : (D → Mem → Prop) → RX → Prop} {T' : ((D → Mem → Prop) → RX → Prop) → Mem → (D → Mem → Prop) → Prop}
/-- x(lambda: body) -/
theorem ex_lamcall (B : BodyL X.prog X.w X.K X.mg X.base gd k g x bg sg Ng a T') (FD : FunD X.K x x pg bg sg [] [] g fd) (Sg : FnScope Ng [a] sg) (hm : X.mg x = some (.ref g)) (hgd : gd = true → X.A.guards = some [])
    (TB : TabB X.base X.mg c Pt) (hcode : X.env.code = .ref c) (hM : M Pt = some (.tbl (X.env.qual ++ "<lambda>"))) (hr : Room (k + 1) X.A) (hkb : kb + 1 ≤ k)
    (hT : T' T M P)
    (hbody : ∀ (A : Around) (outer : List PySem.Env) (s : Shared) (H : Hp) (E : XK) (f c' : Addr) (J : Gh) (P : D → Mem → Prop) (R : RX), A.guards = X.A.guards → Room kb (A.deeper (lamEnv X scope s.heap.objs.size f c')) → Lets (lamCx X A outer s H E scope f c') J (fun C gs _ M' => R C gs M') → T P R → EX (lamCx X A outer s H E scope f c') J body ρ M P)
    (L : LamS X.env.scope scope := by exact lamS_by rfl) (hdef : defaultsOf params X.env = ([], []) := by rfl)
    (hbind : ∀ (q : Str) (cl : List (Str × Addr)) (pm cv ctv : Value), bindArgs (PySem.W.kla_fn "<lambda>" q params body scope cl pm cv ctv) ⟨[], []⟩ = pure [] := by intro _ _ _ _ _; rfl)
    (hbn : ∀ (kV doc pm : Value) (an : Option Addr) (cdv ct : Value) (u : Value), bindArgs (PySem.W.fnOf x x pg bg sg .none kV doc pm an cdv ct) ⟨[u], []⟩ = pure [(a, u)] := by intro _ _ _ _ _ _ _; rfl)
    (hg : Gl X x := by rfl) (hdb : (x == ("__debug__" : Str)) = false := by decide) (hNa : Ng[0]? = some a := by rfl) (hd : (a == ("__debug__" : Str)) = false := by decide) (hcd : (a == ("__classdict__" : Str)) = false := by decide) :
    EX X J (.Call (.Name x p) [.Lambda params body scope lpos] [] pos) ρ M P := by
  obtain ⟨oc, od, dV, kV, doc, pm, an, cdv, ct, osl, rfl, lk, hcdg, hD, hK⟩ := FD.ex
  obtain rfl : dV = .none := by
    rcases hD with ⟨_, e⟩ | ⟨e, _⟩
    · exact e
    · exact absurd rfl e
  refine ⟨fun pins s σ H Q I ⟨F, st, kt⟩ => ?_⟩
  refine wpAny_Call_Name_kw (ld_glob I hg hm ?_ hdb)
  refine PySem.W.callWith_K (h₀ := X.base) I.ok.mod.kin FD.kp ?_ (by rfl) (by rfl)
  show wpAny _ _ (spliced ((false, eval (.Lambda params body scope lpos) X.env) :: backTo pos (starEach [] X.env))) _ _ s
  refine Calls.spliced_cons (lam_made I st.ok TB hcode hM hdef (L.has I.ok) fun f c' pm' ctv H1 F1 s' I1 sm o1 hf hfn hfr hco => ?_)
  refine Calls.spliced_nil ⟨I1.kIn, ?_⟩
  have rc : codeAny (model X.prog X.w) X.A (.call (.ref g) ⟨[.ref f], []⟩) (CR (L2.CX X.prog X.w) X.stack X.prog X.w H1 s' Q (fun _ _ _ => False)) s' := by
    refine run_ofS (N := Ng) (ps := [a]) (us := [.ref f]) (vs := [.ref f]) lk hcdg Sg hr I1.env0 (FD.bindsN (fun _ _ _ _ _ _ us hl => match us, hl with | [_], _ => hbn _ _ _ _ _ _ _) s' [.ref f] I1.kIn rfl) (.cons rfl .nil) rfl fun hr' => ?_
    have la := lam_at (i := 0) (Ng := Ng) (qg := x) (sg := sg) (g := g) (cdg := cdv) (k := kb) (a := a) (Eg := fun _ _ _ => False) (JX := J) (T := T) (M0 := M) (ρX := ρ) I1 (st.en.mono sm) L hf hfn hfr hco (hbind _ _ _ _ _) (hr'.mono hkb) hbody hNa (vis_of Sg (by simp)) hd hcd
    have hb := B cdv X.A X.stack s' H1 F1 (fun _ _ _ => False) f M T P hgd hr' hT la (passes_of rfl)
    refine ⟨_, hb, F1, ⟨En.start _ (.cons (.adr f) .nil), o1, Same.refl F1⟩, ⟨fun F' σ' H' ρ' M' q e en o' => kt _ _ _ _ _ q (sm.trans e) o' .non, kt.to sm, fun F' σ' H' ρ' M' q => q.elim, fun F' σ' H' ρ' M' q => q.elim⟩⟩
  refine wpAny_call (codeAny_mono rc fun r s2 hq => ?_)
  match r, hq with
  | .error _, hq => exact (no_err hq).elim
  | .ok (.ret _), hq => exact I1.after hq
  | .ok .next, hq => exact hq.elim
  | .ok .brk, hq => exact hq.elim
  | .ok .cont, hq => exact hq.elim
end
end DX
/-! the law's own call where tables of code objects grow -/
namespace DX
open PySem PySem.Spec L2 PyProof.Rows StX LamX
abbrev TbN := List (Str × Option Str)
/-- what is known of the tables -/
structure TbK (K : PySem.W.Frag) (tn : TbN) (h : Heap) : Prop where
  ex : ∀ x ∈ tn, PySem.W.CodeHd h (ctA K x).1 (ctA K x).2 ∧ h.get? (ctA K x).2 = some { cls := .none, data := .fields #[] } ∧ K.lookup (ctA K x).2 = none
/-- the names of the lambdas, at their tables -/
def tbMem (K : PySem.W.Frag) (tl : TbL) : Mem := fun a => (tl.find? fun x => (ctA K x.1).2 == a).map fun x => .tbl x.2
def tbOne (K : PySem.W.Frag) (tl : TbL) : Bool := tl.all fun x => match tl.find? fun y => (ctA K y.1).2 == (ctA K x.1).2 with
  | some y => decide (y.2 = x.2)
  | none => false
theorem tbMem_ok {K : PySem.W.Frag} {tl : TbL} (h : tbOne K tl = true) : TbM K tl (tbMem K tl) := fun x hx => by
  have := List.all_eq_true.mp h x hx
  unfold tbMem
  cases e : tl.find? fun y => (ctA K y.1).2 == (ctA K x.1).2 with
  | none => rw [e] at this; cases this
  | some y => rw [e] at this; rw [Option.map_some, of_decide_eq_true this]
theorem tbMem_in {K : PySem.W.Frag} {tl : TbL} {a : Addr} {d : D} (h : tbMem K tl a = some d) : ∃ x ∈ tl, (ctA K x.1).2 = a ∧ d = .tbl x.2 := by
  unfold tbMem at h
  cases e : tl.find? fun y => (ctA K y.1).2 == a with
  | none => rw [e] at h; cases h
  | some y =>
    rw [e] at h; cases h
    have hy := List.find?_some e
    exact ⟨y, List.mem_of_find?_eq_some e, beq_iff_eq.mp hy, rfl⟩
def hid (K : PySem.W.Frag) (tl : TbL) (H : Hp) : Hp := fun b => if (tl.any fun x => (ctA K x.1).2 == b) = true then none else H b
theorem law_startT {T : TrX} {K : PySem.W.Frag} {tl : TbL} {H : Hp} {a : Addr} {ns : List Int} (h1 : tbOne K tl = true) (hS : SqL K H a (ns.map V.int)) (hT : ∀ x ∈ tl, H (ctA K x.1).2 = some (.tbl #[])) (ht : ∀ M, TbM K tl M → T [.scr ns] [] M (fun d _ => d = .bl true) noX) :
    ∃ F M ds, Ok K F M H ∧ Rps K F [.ref a] ds ∧ T ds [] M (fun d _ => d = .bl true) noX := by
  have nT : ∀ b, (∀ x ∈ tl, (ctA K x.1).2 ≠ b) → hid K tl H b = H b := fun b h => if_neg (fun z => by
    obtain ⟨x, hx, e⟩ := List.any_eq_true.mp z
    exact h x hx (beq_iff_eq.mp e))
  refine ⟨hid K tl H, tbMem K tl, [.scr ns], ⟨fun b u e => ?_, fun b d e => ?_⟩, .cons (.scr ?_) .nil, ht _ (tbMem_ok h1)⟩
  · unfold hid at e
    split at e
    · cases e
    · exact e
  · obtain ⟨x, hx, rfl, rfl⟩ := tbMem_in e
    have hh : (tl.any fun y => (ctA K y.1).2 == (ctA K x.1).2) = true := List.any_eq_true.mpr ⟨x, hx, beq_iff_eq.mpr rfl⟩
    refine ⟨if_pos hh, #[], hT x hx, trivial, fun pos cv z => ?_⟩
    have z : codeAmong pos [] = some cv := z
    simp [codeAmong] at z
  · rcases hS with hS | hS
    · refine .inl ?_
      rcases hS with hS | ⟨o, hS⟩
      · exact .inl ((nT a fun x hx e => by rw [← e, hT x hx] at hS; cases hS).trans hS)
      · exact .inr ⟨o, (nT a fun x hx e => by rw [← e, hT x hx] at hS; cases hS).trans hS⟩
    · exact .inr hS
theorem law_goT {pg : Program} {w : World} {K : PySem.W.Frag} {mg mb : Str → Option Value} {k : Nat} {fa a : Addr} {T : TrX} {s1 : Shared} {vs : List Value} {ns : List Int} {tn : TbN}
    (KX : K.In s1.heap) (gN : s1.heap.Ns mainGlobals mg) (bN : s1.heap.Ns builtinsNs mb) (bA : ∀ y : Str, y ≠ "__name__" → mb y = bootBuiltins y) (lim : s1.heap.NoLimit) (gens : s1.gens = #[])
    (bM : ∃ (bm : Addr) (ob : Obj), mg "__builtins__" = some (.ref bm) ∧ bm ≠ builtinsNs ∧ s1.heap.get? bm = some ob ∧ ob.cls = .type "module" ∧ ob.dict = some builtinsNs ∧ ob.data = .plain) (TK : TbK K tn s1.heap)
    (ha : s1.heap.get? a = some { cls := .type "list", data := .seq vs.toArray }) (hi : PyProof.Rows.IntsAre vs ns) (hl : ns.length ≤ sizeLine) (hr : Room k callerA)
    (G : ∀ base : Heap, K.In base → base.Ns mainGlobals mg → (∀ x ∈ tn, TabB base mg (ctA K x).1 (ctA K x).2) → FnX pg w K mg base true k fa [] T)
    (ht : ∀ H : Hp, SqL K H a (ns.map V.int) → (∀ x ∈ tn, H (ctA K x).2 = some (.tbl #[])) → ∃ F M ds, Ok K F M H ∧ Rps K F [.ref a] ds ∧ T ds [] M (fun d _ => d = .bl true) noX) :
    codeAny (model pg w) callerA (.call (.ref fa) ⟨[.ref a], []⟩) (fun r s' => r = .ok (.ret (.bool true)) ∧ OldK s1.heap s'.heap ∧ s'.os = s1.os ∧ PyProof.Rows.AllBare s'.gens) s1 := by
  have vals := vals_ints hi
  let isP : Addr → Prop := fun b => ∃ x ∈ tn, (ctA K x).2 = b
  have tabAt : ∀ {b}, isP b → s1.heap.get? b = some { cls := .none, data := .fields #[] } := fun ⟨x, hx, e⟩ => e ▸ (TK.ex x hx).2.1
  have tabK : ∀ {b}, isP b → K.lookup b = none := fun ⟨x, hx, e⟩ => e ▸ (TK.ex x hx).2.2
  have naP : ¬ isP a := fun z => by
    have q := tabAt z
    rw [ha] at q
    have q : Data.seq vs.toArray _ = Data.fields #[] := congrArg Obj.data (Option.some.inj q)
    cases q
  have main : ∀ H : Hp, (∀ b u, H b = some u → (b = a ∧ K.lookup a = none ∧ u = .frz { cls := .type "list", data := .seq vs.toArray } (.lst (ns.map V.int))) ∨ (isP b ∧ u = .tbl #[])) → (∀ b, isP b → H b = some (.tbl #[])) → SqL K H a (ns.map V.int) → L2.HOk pg w H s1.heap →
      codeAny (model pg w) callerA (.call (.ref fa) ⟨[.ref a], []⟩) (fun r s' => r = .ok (.ret (.bool true)) ∧ OldK s1.heap s'.heap ∧ s'.os = s1.os ∧ PyProof.Rows.AllBare s'.gens) s1 := by
    intro H only tabs seq hok
    have seen : ∀ {b : Addr} {ob : Obj}, s1.heap.get? b = some ob → (∀ l n, ob.data ≠ .seq l n) → ob.data ≠ .fields #[] → (hidT s1.heap H).get? b = some ob := by
      intro b ob e n1 n2
      refine hidT_get e ?_
      cases q : H b with
      | none => rfl
      | some u =>
        rcases only b u q with ⟨rfl, _, _⟩ | ⟨z, _⟩
        · rw [ha] at e; cases e
          exact absurd rfl (n1 _ _)
        · rw [tabAt z] at e; cases e
          exact absurd rfl n2
    have kept : ∀ {b : Addr} {m : Str → Option Value}, s1.heap.Ns b m → (hidT s1.heap H).Ns b m := by
      rintro b m ⟨ob, es, ep, h1, h2, h3⟩
      exact ⟨ob, es, ep, seen h1 (fun l n z => by rw [h2] at z; cases z) (fun z => by rw [h2] at z; cases z), h2, h3⟩
    have kin : K.In (hidT s1.heap H) := by
      intro b ob h1
      refine hidT_get (KX b ob h1) ?_
      cases q : H b with
      | none => rfl
      | some u =>
        rcases only b u q with ⟨rfl, h2, _⟩ | ⟨z, _⟩
        · rw [h2] at h1; cases h1
        · rw [tabK z] at h1; cases h1
    have tb : ∀ x ∈ tn, TabB (hidT s1.heap H) mg (ctA K x).1 (ctA K x).2 := fun x hx => by
      obtain ⟨C, hP, _⟩ := TK.ex x hx
      obtain ⟨oc, us, fl, tf, fg, tg, bf, tx, tt, c1, c2, c3, c4, c5⟩ := C
      refine ⟨⟨oc, us, fl, tf, fg, tg, bf, tx, tt, seen c1 (fun l n z => by rw [c3] at z; cases z) (fun z => by rw [c3] at z; cases z; simp at c4), c2, c3, c4, c5⟩, ?_, fun z => ?_⟩
      · obtain ⟨bm, ob, m1, m2, m3, m4, m5, m6⟩ := bM
        refine ⟨bm, ob, m1, m2, fun z => ?_, fun z => ?_, seen m3 (fun l n z => by rw [m6] at z; cases z) (fun z => by rw [m6] at z; cases z), m4, m5, m6⟩
        · obtain ⟨o2, es, ep, g1, g2, _⟩ := gN
          rw [z, g1] at m3; cases m3
          rw [g2] at m6; cases m6
        · rw [z, hP] at m3; cases m3
          cases m6
      · obtain ⟨o2, es, ep, g1, g2, _⟩ := gN
        rw [z, hP] at g1; cases g1
        cases g2
    have start_ : Env0 pg w K mg (hidT s1.heap H) callerA [] s1 H :=
      ⟨rfl, ⟨kin, kept gN, ⟨mb, kept bN, bA⟩, let ⟨mc, z1, z2⟩ := lim; ⟨mc, kept z1, z2⟩⟩, fun b ob z => of_hidT z, Nat.le_of_eq (hidT_size _ _), trivial, fun b z => (List.not_mem_nil z).elim, hok, .of_eq gens⟩
    obtain ⟨F, M, ds, o, rd, t⟩ := ht H seq fun x hx => tabs _ ⟨x, hx, rfl⟩
    refine codeAny_mono ((G _ kin (kept gN) tb).go callerA [] s1 H F M ds [] _ noX [.ref a] [] [.ref a] [] (fun v _ => v = .bl true) (fun _ _ _ => False) (fun _ => rfl) hr start_ (.cons rfl .nil) .nil rfl o rd .nil t (fun d v M' F' H' z1 _ _ z2 => by subst z1; cases z2; rfl) Kx.no) fun res s' end_ => ?_
    match res, end_ with
    | .error _, end_ => exact (no_err end_).elim
    | .ok .next, end_ => exact end_.elim
    | .ok .brk, end_ => exact end_.elim
    | .ok .cont, end_ => exact end_.elim
    | .ok (.ret u), ⟨v, H', h1, h2, h3, h4, h5, h6⟩ =>
      subst h6
      cases (show u = Value.bool true from h5)
      have now : ∀ b ob, s1.heap.get? b = some ob → s'.heap.get? b = some ob ∨ (isP b ∧ ∃ more : Array Value, s'.heap.get? b = some { cls := .none, data := .fields more }) := fun b ob z => by
        cases q : H b with
        | none => exact .inl (h3.keep b ob z q List.not_mem_nil List.not_mem_nil)
        | some u =>
          rcases only b u q with ⟨rfl, _, rfl⟩ | ⟨hp, rfl⟩
          · obtain ⟨e1, _⟩ := h4 b _ (h3.frzs b _ _ q)
            rw [ha] at z; cases z
            exact .inl e1
          · obtain ⟨more, e⟩ := h3.tbls b #[] q
            exact .inr ⟨hp, _, h4 b _ e⟩
      refine ⟨rfl, ⟨fun b ob z => ?_, fun b ob z => ?_⟩, h1, h2⟩
      · rcases now b ob z with e | ⟨⟨x, hx, rfl⟩, more, e⟩
        · exact .inl e
        · obtain ⟨C, hP, _⟩ := TK.ex x hx
          rw [hP] at z; cases z
          exact .inr (.inl ⟨(C.tab hP).isCodeTable, rfl, #[], more, rfl, by rw [Array.empty_append]; exact e⟩)
      · rcases now b ob z with e | ⟨_, more, e⟩
        · exact ⟨_, e⟩
        · exact ⟨_, e⟩
  classical
  cases q : K.lookup a with
  | some ob =>
    have e1 := KX a ob q
    rw [ha] at e1; cases e1
    have own : ∀ b u, (if isP b then some (HO.tbl #[]) else none) = some u → isP b ∧ u = .tbl #[] := fun b u z => by
      by_cases e : isP b
      · rw [if_pos e] at z; cases z; exact ⟨e, rfl⟩
      · rw [if_neg e] at z; cases z
    refine main (fun b => if isP b then some (.tbl #[]) else none) (fun b u z => .inr (own b u z)) (fun b z => if_pos z) (.inr ⟨_, vs.toArray, _, q, rfl, rfl, rfl, by simpa [hi.length] using hl, by simpa using vals⟩) fun b u z => ?_
    obtain ⟨h1, rfl⟩ := own b u z
    exact tabAt h1
  | none =>
    have own : ∀ b u, (if b = a then some (HO.frz { cls := .type "list", data := .seq vs.toArray } (.lst (ns.map V.int))) else if isP b then some (HO.tbl #[]) else none) = some u → (b = a ∧ u = .frz { cls := .type "list", data := .seq vs.toArray } (.lst (ns.map V.int))) ∨ (isP b ∧ u = .tbl #[]) := by
      intro b u z
      by_cases e : b = a
      · rw [if_pos e] at z; cases z; exact .inl ⟨e, rfl⟩
      · rw [if_neg e] at z
        by_cases e2 : isP b
        · rw [if_pos e2] at z; cases z; exact .inr ⟨e2, rfl⟩
        · rw [if_neg e2] at z; cases z
    refine main (fun b => if b = a then some (.frz { cls := .type "list", data := .seq vs.toArray } (.lst (ns.map V.int))) else if isP b then some (.tbl #[]) else none) (fun b u z => (own b u z).imp (fun z => ⟨z.1, q, z.2⟩) id) (fun b z => (if_neg (fun e : b = a => naP (by rw [e] at z; exact z))).trans (if_pos z)) (.inl (.inr ⟨_, if_pos rfl⟩)) fun b u z => ?_
    rcases own b u z with ⟨rfl, rfl⟩ | ⟨h1, rfl⟩
    · exact ⟨ha, by rw [List.length_map]; exact hl, vs, _, vals, ha⟩
    · exact tabAt h1
theorem walk_ofT {l : PySem.W.OpenLaw} {k : Nat} {q : Program} {loose : List Str} {XP : (Str → Option Value) → Heap → Prop} {YP : World → Heap → Prop} {d : DefRec} {tn : TbN} (hn : l.most = some 63) (hdf : d.params.defaults = []) (hr : Room k callerA)
    (G : ∀ (w : World) (mg : Str → Option Value) (fa : Addr) (h : Heap), YP w h → h.Ns mainGlobals mg → mg d.name = some (.ref fa) →
      ∃ (K : PySem.W.Frag) (T : TrX), K.In h ∧ TbK K tn h ∧
        (∀ (H : Hp) (a : Addr) (ns : List Int), ns.length ≤ 63 → SqL K H a (ns.map V.int) → (∀ x ∈ tn, H (ctA K x).2 = some (.tbl #[])) → ∃ F M ds, Ok K F M H ∧ Rps K F [.ref a] ds ∧ T ds [] M (fun d _ => d = .bl true) noX) ∧
        ∀ base : Heap, K.In base → base.Ns mainGlobals mg → (∀ x ∈ tn, TabB base mg (ctA K x).1 (ctA K x).2) → FnX l.prog w K mg base true k fa [] T) :
    PySem.W.WalkO q loose XP YP l.row.toRowW d [] (fun f vs => PySem.call f vs) :=
  Att.attach_call hn hdf fun w s0 s1 mg mb fa o pm cd doc a vs ns Gr Y ho hd hcd hmg hobj hints hlen hgens => by
    obtain ⟨K, T, KX, TK, ht, hF⟩ := G w mg fa _ Y Gr.T.g hmg
    exact law_goT KX Gr.T.g Gr.T.b Gr.T.builtins Gr.T.nolimit hgens Gr.T.bmain TK hobj hints (Nat.le_trans hlen (by decide)) hr hF fun H hS hP => ht H a ns hlen hS hP
/-! ### a look that leaves the tables out -/
def cutK (K : PySem.W.Frag) (ps : List Addr) : PySem.W.Frag := K.filter fun p => !ps.contains p.1
theorem cutK_sub {ps : List Addr} {a : Addr} {o : Obj} : ∀ {K : PySem.W.Frag}, (cutK K ps).lookup a = some o → K.lookup a = some o
  | [], h => h
  | (b, ob) :: r, h => by
    unfold cutK at h
    rw [List.filter_cons] at h
    by_cases e : (!ps.contains b) = true
    · rw [if_pos (by exact e)] at h
      rw [List.lookup_cons] at h ⊢
      cases q : a == b with
      | true => rw [q] at h; exact h
      | false => rw [q] at h; exact cutK_sub (K := r) h
    · rw [if_neg (by exact e)] at h
      have h2 := cutK_sub (K := r) h
      rw [List.lookup_cons]
      cases q : a == b with
      | true =>
        have : a = b := beq_iff_eq.mp q
        subst this
        exfalso
        have hc : ps.contains a = true := by simpa using e
        have none_ : ∀ K : PySem.W.Frag, (cutK K ps).lookup a = none := fun K => by
          induction K with
          | nil => rfl
          | cons p r ih =>
            unfold cutK at ih ⊢
            rw [List.filter_cons]
            split
            · rename_i hq
              rw [List.lookup_cons]
              cases z : a == p.1 with
              | true =>
                have : a = p.1 := beq_iff_eq.mp z
                rw [← this, hc] at hq
                cases hq
              | false => exact ih
            · exact ih
        have := none_ r
        unfold cutK at this
        rw [this] at h; cases h
      | false => exact h2
def emptyTab (o : Option Obj) : Bool := match o with
  | some ⟨.none, none, .fields vs, sl⟩ => vs.size == 0 && sl.size == 0
  | _ => false
theorem emptyTab_eq {o : Option Obj} (h : emptyTab o = true) : o = some { cls := .none, data := .fields #[] } := by
  unfold emptyTab at h
  split at h
  · rename_i vs sl
    obtain ⟨h1, h2⟩ := He.ba h
    have e1 : vs = #[] := Array.eq_empty_of_size_eq_zero (beq_iff_eq.mp h1)
    have e2 : sl = #[] := Array.eq_empty_of_size_eq_zero (beq_iff_eq.mp h2)
    rw [e1, e2]
  · cases h
abbrev LookT := (He.AlD × Bool × List He.FnW) × Bool
def tabsB (K0 K : PySem.W.Frag) (tl : TbL) : Bool := tl.all (fun x => PySem.W.codeHdIn K (ctA K x.1).1 (ctA K x.1).2 && (emptyTab (K0.lookup (ctA K x.1).2) && (K.lookup (ctA K x.1).2).isNone)) && tbOne K tl
/-! the objects up to depth n of the names of the program, each once: what is seen is kept as the bits of a number -/
def addM : List Addr → List Addr → Nat → List Addr × Nat
  | [], acc, m => (acc, m)
  | a :: as, acc, m => match Nat.beq (Nat.land (Nat.shiftRight m a) 1) 1 with
    | true => addM as acc m
    | false => addM as (a :: acc) (Nat.lor m (Nat.shiftLeft 1 a))
def stepM (g : Addr → Option Obj) : List Addr → List Addr → Nat → List Addr × Nat
  | [], acc, m => (acc, m)
  | a :: as, acc, m => match g a with
    | some o => let r := addM (He.refsD o) acc m; stepM g as r.1 r.2
    | none => stepM g as acc m
def asM (g : Addr → Option Obj) : Nat → List Addr → Nat → List Addr
  | 0, fr, _ => fr
  | n + 1, fr, m => let r := stepM g fr [] m; fr ++ asM g n r.1 r.2
def asN (g : Addr → Option Obj) (n : Nat) : List Addr := asM g n [mainGlobals] (Nat.shiftLeft 1 mainGlobals)
def lookT (fa : List He.Fa) (fn : List He.DefD) (pr : List PrD) (ex : PySem.W.Frag → Bool) (tl : TbL) (n : Nat) (g : Addr → Option Obj) : LookT :=
  let K0 := He.frG g (cStatics :: sysModules :: asN g n)
  let K := cutK K0 (tl.map fun x => (ctA K0 x.1).2)
  (obsP fa fn pr ex K, tabsB K0 K tl)
def SaysT (fa : List He.Fa) (fn : List He.DefD) (pr : List PrD) (ex : PySem.W.Frag → Bool) (tl : TbL) (h : Heap) : Prop := ∃ K : PySem.W.Frag, K.In h ∧ SaysP fa fn pr ex K ∧ TbK K (tl.map (·.1)) h ∧ tbOne K tl = true
theorem saysT_of {fa : List He.Fa} {fn : List He.DefD} {pr : List PrD} {ex : PySem.W.Frag → Bool} {tl : TbL} {n : Nat} {h : Heap} (e : lookT fa fn pr ex tl n h.get? = ((He.valD fn, true, pr.map PrD.val), true)) : SaysT fa fn pr ex tl h := by
  have e1 := congrArg Prod.fst e
  have e2 : tabsB _ _ tl = true := congrArg Prod.snd e
  have in0 : PySem.W.Frag.In (He.frG h.get? (cStatics :: sysModules :: asN h.get? n)) h := He.frG_in
  refine ⟨_, fun b o z => in0 b o (cutK_sub z), e1, ⟨fun x hx => ?_⟩, (He.ba e2).2⟩
  obtain ⟨y, hy, rfl⟩ := List.mem_map.mp hx
  obtain ⟨q1, q⟩ := He.ba (List.all_eq_true.mp (He.ba e2).1 y hy)
  obtain ⟨q2, q3⟩ := He.ba q
  exact ⟨PySem.W.codeHd_of_K (fun b o z => in0 b o (cutK_sub z)) q1, in0 _ _ (emptyTab_eq q2), Option.isNone_iff_eq_none.mp q3⟩
def hookT (n : Nat) (fa : List He.Fa) (fn : List He.DefD) (pr : List PrD) (ex : PySem.W.Frag → Bool) (tl : TbL) : PySem.W.Hook where
  α := LookT
  obs := fun s => lookT fa fn pr ex tl n s.heap.get?
  val := fun _ => ((He.valD fn, true, pr.map PrD.val), true)
  says := fun _ h => SaysT fa fn pr ex tl h
  of := fun _ _ e => saysT_of e
  keeps := fun _ _ _ ⟨K, hK, c, t, u⟩ k => ⟨K, PySem.W.Frag.In.keeps hK k, c, ⟨fun x hx => let ⟨q1, q2, q3⟩ := t.ex x hx; ⟨q1.keeps k, k _ _ q2, q3⟩⟩, u⟩
theorem lookT_eq {n : Nat} {fa : List He.Fa} {fn : List He.DefD} {pr : List PrD} {ex : PySem.W.Frag → Bool} {tl : TbL} {g : Addr → Option Obj} {s : Shared} (h : ∀ a, g a = s.heap.get? a) : lookT fa fn pr ex tl n g = (hookT n fa fn pr ex tl).obs s := by
  have e : g = s.heap.get? := funext h
  subst e
  rfl
end DX
/-! small rules: z.lower(), an empty tuple whose object is known, dict(t) of such a tuple -/
namespace DX
open PySem PySem.Spec L2 PyProof.Rows StX
noncomputable def dLower : D → Option D
  | .str z => chk (z.length ≤ 1000000) (.str (Txt.lower z))
  | _ => none
def unstD : D → D
  | .stup ds => .tup ds
  | d => d
def stupD : D → Option (List D)
  | .stup ds => some ds
  | _ => none
theorem stupD_eq {d : D} {l : List D} (h : stupD d = some l) : d = .stup l := by
  cases d <;> first | (cases h; rfl) | cases h
section
variable {X : Cx} {J : Gh} {e o : Expr} {ρ : DEnv} {M : Mem} {P : D → Mem → Prop} {pos apos cpos : Pos} {k : Nat} {K : PySem.W.Frag} {F : Hp}
theorem ex_lowerF (h : EX X J o ρ M fun d M1 => ∃ dz z, Vw M1 d dz ∧ dLower dz = some z ∧ P z M1)
    (hbase : attributeBase o "lower" X.env (eval o X.env) = eval o X.env := by rfl) (hline : (apos.endLine == cpos.line) = true := by rfl) : EX X J (.Call (.Attribute o "lower" apos) [] [] cpos) ρ M P :=
  ex_lower (h.imp fun d M1 q => by
    obtain ⟨dz, z, w, h1, q⟩ := q
    cases dz <;> first | cases h1 | skip
    rename_i y
    obtain ⟨h2, rfl⟩ := chk_inv h1
    cases w with
    | id => exact ⟨y, rfl, h2, q⟩
    | ad _ hf => cases hf) hbase hline
theorem rp_unst {v : V} {d : D} (r : Rp K F v d) : Rp K F v (unstD d) := by
  cases d <;> first | exact r | exact r.unst
theorem ex_unstD (h : EX X J e ρ M fun d M1 => P (unstD d) M1) : EX X J e ρ M P :=
  ex_of h fun F σ H Q st k => ⟨F, st, fun d v M' F' H' q e1 o r => k _ _ _ _ _ q e1 o (rp_unst r)⟩
theorem cd_dictSt {d : D} {l : List D} {kvs : List (Key × D)} (h1 : stupD d = some l) (h : kvsD l = some kvs) (q : P (.dct (mergeD [] kvs)) M) (hc : X.calm = true := by rfl) : CD X (.type "dict") [d] M P := by
  rw [stupD_eq h1]; exact cd_dictK h q hc
/-- () with its object known -/
theorem ex_tup0S (p : P (.stup []) M) : EX X J (.Tuple [] k pos) ρ M P := by
  refine ⟨fun pins s σ H Q I ⟨F, st, kt⟩ => ?_⟩
  refine wpAny_Tuple (wpAny_items_nil ⟨by size_fits, ?_⟩)
  have hn : H s.heap.objs.size = none := I.hok.fresh (Nat.le_refl _)
  have new : ObjOk X.prog X.w (upd H s.heap.objs.size (.frz { cls := .type "tuple", data := .seq #[] } (.tup []))) (s.heap.push ({ cls := .type "tuple", data := .seq #[] } : Obj)) s.heap.objs.size (.frz { cls := .type "tuple", data := .seq #[] } (.tup [])) :=
    ⟨Heap.get?_push_size _ rfl, Nat.zero_le _, [], .nil, ⟨_, Heap.get?_push_size _ rfl, rfl, _, rfl⟩⟩
  have I2 := I.laid (t' := s.toks) (fun b o e => Heap.get?_push_of_some _ e) (Nat.le_refl _) new
  exact ⟨.ref s.heap.objs.size, _, I2, rfl, kt _ _ _ _ _ p (st.ok.fixSame hn) (st.ok.fix hn) (.stup upd_same ⟨rfl, rfl⟩ .nil)⟩
end
end DX
/-! list(zip(a, b)) of two lists -/
namespace ZipL
open PySem PySem.Spec L2 PyProof.Rows
theorem zip_no_len : typeLookup (.type "zip") "__len__" = pure none := by rw [typeLookup_type, builtinLookup_eq_fast]; kernel_rfl
theorem zip_no_hint : typeLookup (.type "zip") "__length_hint__" = pure none := by rw [typeLookup_type, builtinLookup_eq_fast]; kernel_rfl
/-- the zip has given i pairs -/
def ZSt (z TI TO i1 i2 l1 l2 S : Addr) (xs ys : Array Value) (i : Nat) (h : Heap) : Prop :=
  IsPair h TI (.ref i1) (.ref i2) ∧ h.IsListIter i1 l1 i ∧ h.IsListIter i2 l2 i ∧ h.IsList l1 xs ∧ h.IsList l2 ys ∧ ((IsZip h z TI TO .none ∧ ∃ a b, IsPair h TO a b) ∨ ∃ T f oT, IsZipHeld h z TI TO T f ∧ h.get? T = some oT ∧ T ≠ z ∧ T ≠ i1 ∧ T ≠ i2 ∧ T ≠ S)
/-- the pairs given so far -/
def Acc (S : Addr) (xs ys : Array Value) (ts : List Addr) (h : Heap) : Prop :=
  (∀ T ∈ ts, S < T ∧ ∃ o, h.get? T = some o) ∧ ts.Pairwise (· < ·) ∧ ∀ (j : Nat) T, ts[j]? = some T → ∃ x y, xs[j]? = some x ∧ ys[j]? = some y ∧ IsPair h T x y
theorem Acc.keep {S : Addr} {xs ys : Array Value} {ts : List Addr} {h h' : Heap} (a : Acc S xs ys ts h) (k : ∀ b o, S < b → h.get? b = some o → h'.get? b = some o) : Acc S xs ys ts h' :=
  ⟨fun T hT => ⟨(a.1 T hT).1, let ⟨o, ho⟩ := (a.1 T hT).2; ⟨o, k _ _ (a.1 T hT).1 ho⟩⟩, a.2.1, fun j T hj => by
    obtain ⟨x, y, e1, e2, e3⟩ := a.2.2 j T hj
    exact ⟨x, y, e1, e2, k _ _ (a.1 T (List.mem_of_getElem? hj)).1 e3⟩⟩
theorem Acc.more {S T0 : Addr} {xs ys : Array Value} {ts : List Addr} {h : Heap} {x y : Value} (a : Acc S xs ys ts h) (hT : S < T0) (hl : ∀ T ∈ ts, T < T0) (ex : xs[ts.length]? = some x) (ey : ys[ts.length]? = some y) (e : IsPair h T0 x y) : Acc S xs ys (ts ++ [T0]) h := by
  refine ⟨fun T hm => ?_, ?_, fun j T hj => ?_⟩
  · rcases List.mem_append.mp hm with hm | hm
    · exact a.1 T hm
    · rw [List.mem_singleton] at hm; subst hm; exact ⟨hT, _, e⟩
  · rw [List.pairwise_append]
    exact ⟨a.2.1, List.pairwise_singleton _ _, fun u hu v hv => by rw [List.mem_singleton] at hv; subst hv; exact hl u hu⟩
  · by_cases hb : j < ts.length
    · rw [List.getElem?_append_left hb] at hj
      exact a.2.2 j T hj
    · rw [List.getElem?_append_right (by omega)] at hj
      have e1 : j - ts.length = 0 := by
        have := (List.getElem?_eq_some_iff.mp hj).1
        simp only [List.length_singleton] at this
        omega
      rw [e1] at hj
      have e2 : T0 = T := by simpa using hj
      subst e2
      have e3 : j = ts.length := by omega
      subst e3
      exact ⟨x, y, ex, ey, e⟩
section
variable {prog : Program} {w : World} {A : Around} {R : Result → Shared → Prop} {z TI TO i1 i2 l1 l2 S : Addr} {xs ys : Array Value}
/-- S stands behind all that the zip writes -/
structure Off (z TI TO i1 i2 l1 l2 S : Addr) : Prop where
  z : z < S
  TI : TI < S
  TO : TO < S
  i1 : i1 < S
  i2 : i2 < S
  l1 : l1 < S
  l2 : l2 < S
theorem loop (hh : A.in1.handled = none) (D : ZipApart z TI TO i1 i2 l1 l2) (O : Off z TI TO i1 i2 l1 l2 S) (hn : min xs.size ys.size ≤ sizeLine) (res : Value) :
    ∀ (k : Nat) (s : Shared) (ts : List Addr) (c : Nat), min xs.size ys.size - ts.length = k → ts.length ≤ min xs.size ys.size → ZSt z TI TO i1 i2 l1 l2 S xs ys ts.length s.heap →
    s.heap.get? S = some { cls := .type "list", dict := none, data := .seq (ts.map Value.ref).toArray c, slots := #[] } → Acc S xs ys ts s.heap →
    (∀ h' ts' c', (∀ b o, b ≠ S → b ≠ z → b ≠ TO → b ≠ i1 → b ≠ i2 → s.heap.get? b = some o → h'.get? b = some o) → h'.get? S = some { cls := .type "list", dict := none, data := .seq (ts'.map Value.ref).toArray c', slots := #[] } →
      ts'.length = min xs.size ys.size → Acc S xs ys ts' h' → R (.ok (.ret res)) { s with heap := h' }) →
    codeAny (model prog w) A (.builtin "list.extend.loop" ⟨[.ref S, .ref z, res], []⟩) R s := by
  intro k
  induction k with
  | zero =>
    intro s ts c hk hi hst hS hacc hR
    have hin : ts.length = min xs.size ys.size := by omega
    refine codeAny_builtin F.entry_extend_loop ?_
    rw [Around.under_plainId F.plain_extend_loop _]
    show wpAny _ A.in1 (pyNext (.ref z) >>= _) _ _ s
    obtain ⟨hTI, h1, h2, hl1, hl2, hz⟩ := hst
    have hend : xs[ts.length]? = none ∨ ys[ts.length]? = none := by
      rcases Nat.le_total xs.size ys.size with h | h
      · exact .inl (Array.getElem?_eq_none (by omega))
      · exact .inr (Array.getElem?_eq_none (by omega))
    have fin : ∀ h', (∀ b o, b ≠ z → b ≠ TO → b ≠ i1 → b ≠ i2 → s.heap.get? b = some o → h'.get? b = some o) → R (.ok (.ret res)) { s with heap := h' } := fun h' kp =>
      hR h' ts c (fun b o _ a1 a2 a3 a4 e => kp b o a1 a2 a3 a4 e) (kp _ _ (Nat.ne_of_gt O.z) (Nat.ne_of_gt O.TO) (Nat.ne_of_gt O.i1) (Nat.ne_of_gt O.i2) hS) hin (hacc.keep fun b o hb e => kp b o (Nat.ne_of_gt (Nat.lt_trans O.z hb)) (Nat.ne_of_gt (Nat.lt_trans O.TO hb)) (Nat.ne_of_gt (Nat.lt_trans O.i1 hb)) (Nat.ne_of_gt (Nat.lt_trans O.i2 hb)) e)
    rcases hz with ⟨hz, a, b, hTO⟩ | ⟨T, f, oT, hz, hT, r1, r2, r3, r4⟩
    · exact wpAny_bind (wpAny_pyNext_zip_end hh D hz hTI hTO h1 h2 hl1 hl2 hend fun h' hk => wpAny_pure (fin h' fun b o a1 a2 a3 a4 e => hk b o a1 a2 a3 a4 e))
    · exact wpAny_bind (wpAny_pyNext_zip_end_held hh D hz hT hTI h1 h2 hl1 hl2 hend fun h' hk => wpAny_pure (fin h' fun b o a1 a2 a3 a4 e => hk b o a1 a3 a4 e))
  | succ k ih =>
    intro s ts c hk hi hst hS hacc hR
    have hlt : ts.length < min xs.size ys.size := by omega
    refine codeAny_builtin F.entry_extend_loop ?_
    rw [Around.under_plainId F.plain_extend_loop _]
    show wpAny _ A.in1 (pyNext (.ref z) >>= _) _ _ s
    obtain ⟨hTI, h1, h2, hl1, hl2, hz⟩ := hst
    have hix : ts.length < xs.size := by omega
    have hiy : ts.length < ys.size := by omega
    have ex := Array.getElem?_eq_getElem hix
    have ey := Array.getElem?_eq_getElem hiy
    have Sl : S < s.heap.objs.size := Heap.lt_size hS
    have lt : ∀ {c o}, s.heap.get? c = some o → c < s.heap.objs.size := fun e => Heap.lt_size e
    -- one pair more
    have step : ∀ h', (∀ b o, b ≠ z → b ≠ TO → b ≠ i1 → b ≠ i2 → s.heap.get? b = some o → h'.get? b = some o) → h'.get? TI = some { cls := .type "tuple", data := .seq #[.ref i1, .ref i2] } → h'.IsListIter i1 l1 (ts.length + 1) → h'.IsListIter i2 l2 (ts.length + 1) →
        IsPair h' s.heap.objs.size xs[ts.length] ys[ts.length] → (∃ T f oT, IsZipHeld h' z TI TO T f ∧ h'.get? T = some oT ∧ T ≠ z ∧ T ≠ i1 ∧ T ≠ i2 ∧ T ≠ S) →
        wpAny (model prog w) A.in1 (updateSeq S (·.push (.ref s.heap.objs.size)) >>= fun _ => again (.builtin "list.extend.loop" ⟨[.ref S, .ref z, res], []⟩))
          (fun fin s' => match fin with | .done f => R (.ok f) s' | .again c' => c'.quiet = true ∧ codeAny (model prog w) A c' R s') (fun e s' => R (.error e) s') { s with heap := h' } := by
      intro h' kp qTI q1 q2 qT qz
      have hS' := kp _ _ (Nat.ne_of_gt O.z) (Nat.ne_of_gt O.TO) (Nat.ne_of_gt O.i1) (Nat.ne_of_gt O.i2) hS
      refine wpAny_bind ?_
      have hS2 := Heap.get?_update_self (Obj.mapSeq (·.push (Value.ref s.heap.objs.size))) hS' rfl
      obtain ⟨c2, hS3⟩ : ∃ c2, (h'.update S (Obj.mapSeq (·.push (Value.ref s.heap.objs.size)))).get? S = some { cls := .type "list", dict := none, data := .seq ((ts ++ [s.heap.objs.size]).map Value.ref).toArray c2, slots := #[] } :=
        ⟨if ((ts.map Value.ref).toArray.push (Value.ref s.heap.objs.size)).size == (ts.map Value.ref).toArray.size then c else c + 1, hS2.trans (by simp [Obj.mapSeq])⟩
      have oth : ∀ b o, b ≠ S → h'.get? b = some o → (h'.update S (Obj.mapSeq (·.push (Value.ref s.heap.objs.size)))).get? b = some o := fun b o hb e => (Heap.get?_update_other _ _ (Ne.symm hb)).trans e
      have a1 : Acc S xs ys ts h' := hacc.keep fun b o hb e => kp b o (Nat.ne_of_gt (Nat.lt_trans O.z hb)) (Nat.ne_of_gt (Nat.lt_trans O.TO hb)) (Nat.ne_of_gt (Nat.lt_trans O.i1 hb)) (Nat.ne_of_gt (Nat.lt_trans O.i2 hb)) e
      have a2 : Acc S xs ys (ts ++ [s.heap.objs.size]) h' := a1.more Sl (fun T hT => let ⟨o, ho⟩ := (hacc.1 T hT).2; lt ho) ex ey qT
      have a3 : Acc S xs ys (ts ++ [s.heap.objs.size]) (h'.update S (Obj.mapSeq (·.push (Value.ref s.heap.objs.size)))) := a2.keep fun b o hb e => oth b o (Nat.ne_of_gt hb) e
      refine wpAny_updateSeq hS' rfl (wpAny_pure ⟨plainId_quiet F.plain_extend_loop _, ih { s with heap := h'.update S (Obj.mapSeq (·.push (Value.ref s.heap.objs.size))) } (ts ++ [s.heap.objs.size]) c2 (by rw [List.length_append, List.length_singleton]; omega) (by rw [List.length_append, List.length_singleton]; omega) ?_ hS3 a3 fun h'' ts' c' kp2 e2 hl2 hA => ?_⟩)
        (by rw [List.size_toArray, List.length_map]; omega) (by rw [Array.size_push, List.size_toArray, List.length_map]; omega)
      · rw [List.length_append, List.length_singleton]
        refine ⟨oth _ _ (Nat.ne_of_lt O.TI) qTI, q1.at fun o e => oth _ o (Nat.ne_of_lt O.i1) e, q2.at fun o e => oth _ o (Nat.ne_of_lt O.i2) e, (hl1.at fun o e => kp _ o D.l1z D.l1TO D.l1i1 D.l1i2 e).at fun o e => oth _ o (Nat.ne_of_lt O.l1) e, (hl2.at fun o e => kp _ o D.l2z D.l2TO D.l2i1 D.l2i2 e).at fun o e => oth _ o (Nat.ne_of_lt O.l2) e, .inr ?_⟩
        obtain ⟨T, f, oT, w1, w2, w3, w4, w5, w6⟩ := qz
        exact ⟨T, f, oT, oth _ _ (Nat.ne_of_lt O.z) w1, oth _ _ w6 w2, w3, w4, w5, w6⟩
      · exact hR h'' ts' c' (fun b o b1 b2 b3 b4 b5 e => kp2 b o b1 b2 b3 b4 b5 (oth b o b1 (kp b o b2 b3 b4 b5 e))) e2 hl2 hA
    rcases hz with ⟨hz, a, b, hTO⟩ | ⟨T, f, oT, hz, hT, r1, r2, r3, r4⟩
    · refine wpAny_bind (wpAny_pyNext_zip_item D hz hTI hTO h1 h2 hl1 hl2 ex ey fun h' a1 a2 a3 a4 a5 a6 hk => ?_)
      refine step h' hk (hk _ _ D.TIz D.TITO D.TIi1 D.TIi2 hTI) a3 a4 a5 ⟨s.heap.objs.size, false, _, a1, a5, Nat.ne_of_gt (lt hz), ?_, ?_, Nat.ne_of_gt Sl⟩
      · obtain ⟨o, e, _⟩ := h1; exact Nat.ne_of_gt (lt e)
      · obtain ⟨o, e, _⟩ := h2; exact Nat.ne_of_gt (lt e)
    · refine wpAny_bind (wpAny_pyNext_zip_item_held D hz hT hTI h1 h2 hl1 hl2 ex ey fun h' a1 a3 a4 a5 a6 hk => ?_)
      exact step h' (fun b o b1 b2 b3 b4 e => hk b o b1 b3 b4 e) (hk _ _ D.TIz D.TIi1 D.TIi2 hTI) a3 a4 a5 ⟨T, true, oT, a1, hk _ _ r1 r2 r3 hT, r1, r2, r3, r4⟩
end
section
variable {prog : Program} {w : World} {A : Around} {R : Result → Shared → Prop} {E : Value → Shared → Prop} {s : Shared} {z TI TO i1 i2 l1 l2 S : Addr} {xs ys : Array Value}
theorem extend (hh : A.in1.handled = none) (D : ZipApart z TI TO i1 i2 l1 l2) (O : Off z TI TO i1 i2 l1 l2 S) (hn : min xs.size ys.size ≤ sizeLine) (res : Value) (c : Nat) (hz : IsZip s.heap z TI TO .none) (hst : ZSt z TI TO i1 i2 l1 l2 S xs ys 0 s.heap)
    (hS : s.heap.get? S = some { cls := .type "list", data := .seq #[] c })
    (hR : ∀ h' ts' c', (∀ b o, b ≠ S → b ≠ z → b ≠ TO → b ≠ i1 → b ≠ i2 → s.heap.get? b = some o → h'.get? b = some o) → h'.get? S = some { cls := .type "list", dict := none, data := .seq (ts'.map Value.ref).toArray c', slots := #[] } →
      ts'.length = min xs.size ys.size → Acc S xs ys ts' h' → R (.ok (.ret res)) { s with heap := h' }) :
    wpAny (model prog w) A.in1 (Builtin.List.listExtendWith (.ref S) (.ref z) res)
      (fun fin s' => match fin with | .done f => R (.ok f) s' | .again c' => c'.quiet = true ∧ codeAny (model prog w) A c' R s') (fun e s' => R (.error e) s') s := by
  have hT : s.TypeIs (.ref z) "zip" := ⟨_, hz, rfl⟩
  unfold Builtin.List.listExtendWith
  refine wpAny_bind (wpAny_typeOf hT ?_)
  have h1 : Builtin.List.listSameRef (.ref S) (.ref z) = false := by simp [Builtin.List.listSameRef, Nat.ne_of_gt O.z]
  have h2 : (Value.type "zip" == Value.type "list") = false := by decide
  have h3 : (Value.type "zip" == Value.type "tuple") = false := by decide
  simp only [h1, h2, h3, Bool.or_false, Bool.false_eq_true, if_false]
  refine wpAny_bind (wpAny_pyIter_zip hz ?_)
  refine wpAny_bind (wpAny_holding ?_)
  unfold Builtin.List.listLengthHint
  refine wpAny_bind (wpAny_specialOf hT zip_no_len ?_)
  show wpAny _ A.in1 (specialOf (Value.ref z) (Str.ofString "__length_hint__") >>= _) _ _ _
  refine wpAny_bind (wpAny_specialOf hT zip_no_hint ?_)
  refine wpAny_pure ?_
  show wpAny _ A.in1 (rule "list.extend.makes-room" >>= fun _ => Builtin.List.listTouch (.ref S) >>= fun _ =>
    again (.builtin "list.extend.loop" ⟨[.ref S, .ref z, res], []⟩)) _ _ _
  refine wpAny_bind (wpAny_rule ?_)
  refine wpAny_bind ?_
  show wpAny _ A.in1 (updateSeq S (·.push .none) >>= fun _ => updateSeq S (·.pop)) _ _ _
  refine wpAny_bind (wpAny_updateSeq hS rfl ?_)
  have hS₂ := Heap.get?_update_self (Obj.mapSeq (·.push Value.none)) hS rfl
  refine wpAny_updateSeq (hz := by seq_fits) hS₂ rfl ?_
  have hS₃ := Heap.get?_update_self (Obj.mapSeq (·.pop)) hS₂ rfl
  have oth : ∀ b o, b ≠ S → s.heap.get? b = some o → ((s.heap.update S (Obj.mapSeq (·.push Value.none))).update S (Obj.mapSeq (·.pop))).get? b = some o :=
    fun b o hb e => (Heap.get?_update_other _ _ (Ne.symm hb)).trans ((Heap.get?_update_other _ _ (Ne.symm hb)).trans e)
  have hst' : ZSt z TI TO i1 i2 l1 l2 S xs ys 0 ((s.heap.update S (Obj.mapSeq (·.push Value.none))).update S (Obj.mapSeq (·.pop))) := by
    obtain ⟨a1, a2, a3, a4, a5, a6⟩ := hst
    refine ⟨oth _ _ (Nat.ne_of_lt O.TI) a1, a2.at fun o e => oth _ o (Nat.ne_of_lt O.i1) e, a3.at fun o e => oth _ o (Nat.ne_of_lt O.i2) e, a4.at fun o e => oth _ o (Nat.ne_of_lt O.l1) e, a5.at fun o e => oth _ o (Nat.ne_of_lt O.l2) e, ?_⟩
    rcases a6 with ⟨q1, a, b, q2⟩ | ⟨T, f, oT, q1, q2, q3, q4, q5, q6⟩
    · exact .inl ⟨oth _ _ (Nat.ne_of_lt O.z) q1, a, b, oth _ _ (Nat.ne_of_lt O.TO) q2⟩
    · exact .inr ⟨T, f, oT, oth _ _ (Nat.ne_of_lt O.z) q1, oth _ _ q6 q2, q3, q4, q5, q6⟩
  exact wpAny_pure ⟨plainId_quiet F.plain_extend_loop _, loop hh D O hn res _ _ [] _ rfl (Nat.zero_le _) hst' hS₃ ⟨fun T hT => (nomatch hT), List.Pairwise.nil, fun j T hj => by simp at hj⟩ fun h' ts' c' kp e hl hA =>
    hR h' ts' c' (fun b o b1 b2 b3 b4 b5 e => kp b o b1 b2 b3 b4 b5 (oth b o b1 e)) e hl hA⟩
theorem init (hh : A.in1.handled = none) (D : ZipApart z TI TO i1 i2 l1 l2) (O : Off z TI TO i1 i2 l1 l2 S) (hn : min xs.size ys.size ≤ sizeLine) (hz : IsZip s.heap z TI TO .none) (hst : ZSt z TI TO i1 i2 l1 l2 S xs ys 0 s.heap)
    (hS : s.heap.get? S = some { cls := .type "list", data := .seq #[] })
    (hR : ∀ h' ts' c', (∀ b o, b ≠ S → b ≠ z → b ≠ TO → b ≠ i1 → b ≠ i2 → s.heap.get? b = some o → h'.get? b = some o) → h'.get? S = some { cls := .type "list", dict := none, data := .seq (ts'.map Value.ref).toArray c', slots := #[] } →
      ts'.length = min xs.size ys.size → Acc S xs ys ts' h' → R (.ok (.ret .none)) { s with heap := h' }) :
    wpAny (model prog w) A.in1 (Builtin.«list.__init__» ⟨[.ref S, .ref z], []⟩)
      (fun fin s' => match fin with | .done f => R (.ok f) s' | .again c' => c'.quiet = true ∧ codeAny (model prog w) A c' R s') (fun e s' => R (.error e) s') s := by
  show wpAny _ A.in1 (do let old ← Builtin.List.listItems (.ref S); Builtin.List.listUpdate (.ref S) (fun _ => #[]); letGo old.toList.reverse; Builtin.List.listExtendWith (.ref S) (.ref z) .none) _ _ s
  refine wpAny_bind ?_
  unfold Builtin.List.listItems
  refine wpAny_bind (wpAny_seqItems hS rfl (wpAny_pure ?_))
  show wpAny _ A.in1 (updateSeq S (fun _ => #[]) >>= fun _ => letGo (#[] : Array Value).toList.reverse >>= fun _ => Builtin.List.listExtendWith (.ref S) (.ref z) .none) _ _ s
  refine wpAny_bind (wpAny_updateSeq hS rfl ?_)
  have hS₂ := Heap.get?_update_self (Obj.mapSeq (fun _ => (#[] : Array Value))) hS rfl
  have oth : ∀ b o, b ≠ S → s.heap.get? b = some o → (s.heap.update S (Obj.mapSeq (fun _ => (#[] : Array Value)))).get? b = some o :=
    fun b o hb e => (Heap.get?_update_other _ _ (Ne.symm hb)).trans e
  have hst' : ZSt z TI TO i1 i2 l1 l2 S xs ys 0 (s.heap.update S (Obj.mapSeq (fun _ => (#[] : Array Value)))) := by
    obtain ⟨a1, a2, a3, a4, a5, a6⟩ := hst
    refine ⟨oth _ _ (Nat.ne_of_lt O.TI) a1, a2.at fun o e => oth _ o (Nat.ne_of_lt O.i1) e, a3.at fun o e => oth _ o (Nat.ne_of_lt O.i2) e, a4.at fun o e => oth _ o (Nat.ne_of_lt O.l1) e, a5.at fun o e => oth _ o (Nat.ne_of_lt O.l2) e, ?_⟩
    rcases a6 with ⟨q1, a, b, q2⟩ | ⟨T, f, oT, q1, q2, q3, q4, q5, q6⟩
    · exact .inl ⟨oth _ _ (Nat.ne_of_lt O.z) q1, a, b, oth _ _ (Nat.ne_of_lt O.TO) q2⟩
    · exact .inr ⟨T, f, oT, oth _ _ (Nat.ne_of_lt O.z) q1, oth _ _ q6 q2, q3, q4, q5, q6⟩
  refine wpAny_bind (wpAny_letGo ?_)
  exact extend hh D O hn .none _ (oth _ _ (Nat.ne_of_lt O.z) hz) hst' hS₂ fun h' ts' c' kp e hl hA => hR h' ts' c' (fun b o b1 b2 b3 b4 b5 e => kp b o b1 b2 b3 b4 b5 (oth b o b1 e)) e hl hA
/-- list(z) of a new zip of two lists -/
theorem call_list_zip {Q : Value → Shared → Prop} (hh : A.in1.in1.handled = none) (D : ZipApart z TI TO i1 i2 l1 l2) (O : Off z TI TO i1 i2 l1 l2 s.heap.objs.size) (hn : min xs.size ys.size ≤ sizeLine) (hz : IsZip s.heap z TI TO .none)
    (hTI : IsPair s.heap TI (.ref i1) (.ref i2)) (hTO : ∃ a b, IsPair s.heap TO a b) (h1 : s.heap.IsListIter i1 l1 0) (h2 : s.heap.IsListIter i2 l2 0) (hl1 : s.heap.IsList l1 xs) (hl2 : s.heap.IsList l2 ys)
    (hQ : ∀ h' ts' c', (∀ b o, b ≠ z → b ≠ TO → b ≠ i1 → b ≠ i2 → s.heap.get? b = some o → h'.get? b = some o) → h'.get? s.heap.objs.size = some { cls := .type "list", dict := none, data := .seq (ts'.map Value.ref).toArray c', slots := #[] } →
      ts'.length = min xs.size ys.size → Acc s.heap.objs.size xs ys ts' h' → Q (.ref s.heap.objs.size) { s with heap := h' }) :
    wpAny (model prog w) A (call (.type "list") [.ref z]) Q E s := by
  refine callType_codes (Q₁ := fun obj s₁ => obj = .ref s.heap.objs.size ∧ s₁ = { s with heap := s.heap.push { cls := .type "list", data := .seq #[] } }) F.called_list (F.typeCall_list_1 _) F.entry_list_init
    (code_list_new _ ⟨rfl, rfl⟩) fun obj s₁ h₁ => ?_
  obtain ⟨rfl, rfl⟩ := h₁
  have hS : (s.heap.push { cls := .type "list", data := .seq #[] }).get? s.heap.objs.size = some { cls := .type "list", data := .seq #[] } := Heap.get?_push_size _ rfl
  have up : ∀ b o, s.heap.get? b = some o → (s.heap.push { cls := .type "list", data := .seq #[] }).get? b = some o := fun b o e => Heap.get?_push_of_some _ e
  refine ⟨⟨_, hS, rfl⟩, F.args_list_init_2 _ _, init hh D O hn (up _ _ hz) ⟨up _ _ hTI, h1.at fun o e => up _ o e, h2.at fun o e => up _ o e, hl1.at fun o e => up _ o e, hl2.at fun o e => up _ o e, .inl ⟨up _ _ hz, let ⟨a, b, e⟩ := hTO; ⟨a, b, up _ _ e⟩⟩⟩ hS fun h' ts' c' kp e hl hA => ?_⟩
  exact ⟨rfl, hQ h' ts' c' (fun b o b2 b3 b4 b5 e => kp b o (Nat.ne_of_lt (Heap.lt_size e)) b2 b3 b4 b5 (up b o e)) e hl hA⟩
end
def zH : Hp → List (Addr × V × V) → Hp
  | H, [] => H
  | H, (T, x, y) :: r => zH (upd H T (.tup [x, y])) r
def FrL : Hp → List (Addr × V × V) → Prop
  | _, [] => True
  | H, (T, x, y) :: r => H T = none ∧ FrL (upd H T (.tup [x, y])) r
theorem zH_ne : ∀ {l : List (Addr × V × V)} {H : Hp} {b : Addr}, (∀ t ∈ l, b ≠ t.1) → zH H l b = H b
  | [], _, _, _ => rfl
  | (T, x, y) :: r, H, b, h => by
    rw [zH, zH_ne fun t ht => h t (List.mem_cons_of_mem _ ht), upd_ne (h (T, x, y) List.mem_cons_self)]
theorem zH_mem : ∀ {l : List (Addr × V × V)} {H : Hp}, (l.map (·.1)).Pairwise (· < ·) → ∀ t ∈ l, zH H l t.1 = some (.tup [t.2.1, t.2.2])
  | (T, x, y) :: r, H, p, t, ht => by
    rw [List.map_cons, List.pairwise_cons] at p
    rcases List.mem_cons.mp ht with rfl | ht
    · rw [zH, zH_ne fun u hu => Nat.ne_of_lt (p.1 _ (List.mem_map_of_mem hu)), upd_same]
    · rw [zH]; exact zH_mem p.2 t ht
theorem frL_of : ∀ {l : List (Addr × V × V)} {H : Hp}, (l.map (·.1)).Pairwise (· < ·) → (∀ t ∈ l, H t.1 = none) → FrL H l
  | [], _, _, _ => trivial
  | (T, x, y) :: r, H, p, h => by
    rw [List.map_cons, List.pairwise_cons] at p
    refine ⟨h _ List.mem_cons_self, frL_of p.2 fun t ht => ?_⟩
    rw [upd_ne (Nat.ne_of_gt (p.1 _ (List.mem_map_of_mem ht)))]
    exact h t (List.mem_cons_of_mem _ ht)
section
variable {X : Cx} {pins : List (Addr × Obj)} {σ : L2.St} {H H' : Hp} {s : Shared} {h' : Heap}
theorem laidAll (I : L2.Inv X pins σ H s) (k : ∀ b u, s.heap.get? b = some u → h'.get? b = some u) (same : ∀ b, b < s.heap.objs.size → H' b = H b) (new : ∀ b u, s.heap.objs.size ≤ b → H' b = some u → ObjOk X.prog X.w H' h' b u) :
    L2.Inv X pins σ H' { s with heap := h' } := by
  have hold : ∀ b u, H b = some u → H' b = some u := fun b u e => (same b (I.hok.lt e)).trans e
  refine I.un (t' := s.toks) ⟨fun b u q _ _ _ => k b u q, fun b u q _ _ _ => ⟨u.slots, k b u q⟩, fun b u q n _ => (same b (Heap.lt_size q)).trans n, fun b u q _ => ⟨u, k b u q⟩, fun b xs q => hold _ _ q, fun b u xs q => hold _ _ q, fun b ps q => ⟨#[], by rw [hold _ _ q]; simp⟩⟩ fun b u e => ?_
  by_cases hb : b < s.heap.objs.size
  · rw [same b hb] at e
    exact (I.hok b u e).stay (fun c v _ q => k c v q) (fun c q => hold _ _ q) fun c xs q => hold _ _ q
  · exact new b u (Nat.le_of_not_lt hb) e
end
def tLZ (K : PySem.W.Frag) (ta : TA) : TE := fun σ H Q => ta σ H fun vs H1 => ∃ a b xs ys, vs = [.ref a, .ref b] ∧ SqL K H1 a xs ∧ SqL K H1 b ys ∧
  ∀ (l : List (Addr × V × V)) (S : Addr), l.map (·.2) = xs.zip ys → FrL H1 l → zH H1 l S = none → Q (.ref S) (upd (zH H1 l) S (.lst (l.map fun t => V.ref t.1)))
theorem zip_fst {α β : Type} : ∀ {as : List α} {bs : List β}, as.length = bs.length → (as.zip bs).map (·.1) = as
  | [], [], _ => rfl
  | a :: as, b :: bs, h => by rw [List.zip_cons_cons, List.map_cons, zip_fst (by simpa using h)]
theorem zip_snd {α β : Type} : ∀ {as : List α} {bs : List β}, as.length = bs.length → (as.zip bs).map (·.2) = bs
  | [], [], _ => rfl
  | a :: as, b :: bs, h => by rw [List.zip_cons_cons, List.map_cons, zip_snd (by simpa using h)]
theorem off5 (I l1 l2 S : Nat) (h : S = I + 5) (h1 : l1 < I) (h2 : l2 < I) : Off (I + 4) (I + 2) (I + 3) I (I + 1) l1 l2 S := by
  subst h
  exact ⟨(by omega : I + 4 < I + 5), (by omega : I + 2 < I + 5), (by omega : I + 3 < I + 5), (by omega : I < I + 5), (by omega : I + 1 < I + 5), (by omega : l1 < I + 5), (by omega : l2 < I + 5)⟩
theorem ne5 (b I : Nat) (h : b < I) : b ≠ I + 4 ∧ b ≠ I + 3 ∧ b ≠ I ∧ b ≠ I + 1 := by omega
theorem ne6 (b I : Nat) (h : b < I) : b ≠ I + 5 := by omega
theorem ne7 (b I t : Nat) (h : b < I) (h2 : I + 5 < t) : b ≠ t := by omega
theorem vals_refs : ∀ (ts : List Addr), Vals (ts.map V.ref) (ts.map Value.ref)
  | [] => .nil
  | T :: r => .cons rfl (vals_refs r)
theorem pe_lz {X : Cx} {e e2 : Expr} {ta : TA} {p pos p' pos' : Pos} (hc : X.calm = true) (hgl : Gl X "list") (hml : X.mg "list" = none) (hg : Gl X "zip") (hm : X.mg "zip" = none) (ha : PA X [e, e2] ta)
    (hs : starEach [e, e2] X.env = (false, eval e X.env) :: starEach [e2] X.env := by rfl) (hpl : (backTo pos (starEach [e2] X.env)).any (·.1) = false := by rfl)
    (na : starEach [.Call (.Name "zip" p) [e, e2] [] pos] X.env = (false, eval (.Call (.Name "zip" p) [e, e2] [] pos) X.env) :: starEach [] X.env := by rfl) :
    PE X (.Call (.Name "list" p') [.Call (.Name "zip" p) [e, e2] [] pos] [] pos') (tLZ X.K ta) := by
  refine ⟨fun pins s σ H Q I h => ?_⟩
  refine Call_ (ld_blt I hgl hml boot_list (callWith_type1 (args_cons (Call_ (ld_blt I hg hm PyProof.Rows.boot_zip (PyProof.Rows.callWith_type1 (thn (ha.run pos pins s σ H _ I h) fun us s1 ⟨vs, H1, I1, r1, q1⟩ => ?_) hs hpl))) na) na))
  obtain ⟨a, b, xs, ys, ex, hqx, hqy, q⟩ := q1
  subst ex
  cases r1 with
  | cons r rr =>
    cases rr with
    | cons r' rr =>
      cases rr
      cases r
      cases r'
      obtain ⟨its, rv, p1, hz1⟩ := I1.list hqx
      obtain ⟨its2, rv2, p2, hz2⟩ := I1.list hqy
      refine call_zip_2 p1.isList p2.isList fun h' hz hTI hTO h1 h2 hsz hk => args_nil ?_
      have la : a < s1.heap.objs.size := p1.lt
      have lb : b < s1.heap.objs.size := p2.lt
      have sz5 : ({ s1 with heap := h' } : Shared).heap.objs.size = s1.heap.objs.size + 5 := hsz
      have nx : its.toArray.size = xs.length := by rw [List.size_toArray, rv.length]
      have ny : its2.toArray.size = ys.length := by rw [List.size_toArray, rv2.length]
      refine call_list_zip (s := { s1 with heap := h' }) (I1.ok.hd hc) (PySem.W.ktu_apart s1.heap.objs.size a b la lb) (off5 s1.heap.objs.size a b _ sz5 la lb)
        (by rw [nx]; omega) hz hTI ⟨_, _, hTO⟩ h1 h2 (p1.isList.at fun o e => hk _ o e) (p2.isList.at fun o e => hk _ o e) fun h2 ts c' kp eS hl hA => ?_
      rw [sz5] at eS hA ⊢
      rw [nx, ny] at hl
      have hlz : ts.length = (xs.zip ys).length := by rw [hl, List.length_zip]
      have e1 : (ts.zip (xs.zip ys)).map (·.1) = ts := zip_fst hlz
      have e2 : (ts.zip (xs.zip ys)).map (·.2) = xs.zip ys := zip_snd hlz
      have lo : ∀ t ∈ ts.zip (xs.zip ys), s1.heap.objs.size + 5 < t.1 := fun t ht => (hA.1 t.1 (by rw [← e1]; exact List.mem_map_of_mem ht)).1
      have pw : ((ts.zip (xs.zip ys)).map (·.1)).Pairwise (· < ·) := by rw [e1]; exact hA.2.1
      have fr : ∀ t ∈ ts.zip (xs.zip ys), H1 t.1 = none := fun t ht => I1.hok.fresh (Nat.le_trans (by omega) (Nat.le_of_lt (lo t ht)))
      have zS : zH H1 (ts.zip (xs.zip ys)) (s1.heap.objs.size + 5) = none := by
        rw [zH_ne fun t ht => Nat.ne_of_lt (lo t ht)]
        exact I1.hok.fresh (by omega)
      have kk : ∀ b o, s1.heap.get? b = some o → h2.get? b = some o := fun b o e => by
        obtain ⟨n1, n2, n3, n4⟩ := ne5 b s1.heap.objs.size (Heap.lt_size e)
        exact kp b o n1 n2 n3 n4 (hk b o e)
      refine ⟨.ref (s1.heap.objs.size + 5), _, laidAll (s := s1) (H := H1) (H' := upd (zH H1 (ts.zip (xs.zip ys))) (s1.heap.objs.size + 5) (.lst ((ts.zip (xs.zip ys)).map fun t => V.ref t.1))) I1 kk (fun b hb => ?_) (fun b u hb e => ?_), rfl, q _ _ e2 (frL_of pw fr) zS⟩
      · rw [upd_ne (ne6 b _ hb), zH_ne fun t ht => ne7 b _ _ hb (lo t ht)]
      · by_cases hbS : b = s1.heap.objs.size + 5
        · subst hbS
          rw [upd_same] at e
          cases e
          have e3 : ((ts.zip (xs.zip ys)).map fun t => V.ref t.1) = ts.map V.ref := by
            rw [show (fun t : Addr × V × V => V.ref t.1) = V.ref ∘ (·.1) from rfl, ← List.map_map, e1]
          rw [e3]
          exact ⟨by rw [List.length_map, hl]; omega, ts.map Value.ref, c', vals_refs ts, eS⟩
        · rw [upd_ne hbS] at e
          by_cases hm : ∃ t ∈ ts.zip (xs.zip ys), t.1 = b
          · obtain ⟨t, ht, rfl⟩ := hm
            rw [zH_mem pw t ht] at e
            cases e
            obtain ⟨j, hj⟩ := List.getElem?_of_mem ht
            rw [List.getElem?_zip_eq_some] at hj
            obtain ⟨j1, j2⟩ := hj
            rw [List.getElem?_zip_eq_some] at j2
            obtain ⟨vx, vy, k1, k2, k3⟩ := hA.2.2 j _ j1
            obtain ⟨w1, m1, m2⟩ := rv.get j2.1
            obtain ⟨w2, m3, m4⟩ := rv2.get j2.2
            rw [List.getElem?_toArray, m1] at k1
            rw [List.getElem?_toArray, m3] at k2
            cases k1
            cases k2
            exact ⟨by show 2 ≤ sizeLine; decide, [_, _], .cons m2 (.cons m4 .nil), ⟨_, k3, rfl, _, rfl⟩⟩
          · rw [zH_ne fun t ht hb => hm ⟨t, ht, hb.symm⟩, I1.hok.fresh hb] at e
            cases e
end ZipL
namespace DX
open PySem PySem.Spec L2 PyProof.Rows ZipL
section
variable {X : Cx} {J : Gh} {M : Mem} {F : Hp} {K : PySem.W.Frag} {ρ : DEnv} {a b : Expr} {p pos p' pos' : Pos} {P : D → Mem → Prop}
theorem lay_zip : ∀ {xs ys : List V} {l : List (Addr × V × V)} {ds es : List D} {F H : Hp}, l.map (·.2) = xs.zip ys → Rps K F xs ds → Rps K F ys es → Ok K F M H → FrL H l → ∃ F2, Same F F2 ∧ Ok K F2 M (zH H l) ∧ Rps K F2 (l.map fun t => V.ref t.1) (zipD ds es)
  | [], ys, l, ds, es, F, H, e, r1, r2, o, fr => by
    cases r1
    have : l = [] := by simpa using e
    subst this
    exact ⟨F, Same.refl _, o, by simp [zipD]; exact .nil⟩
  | x :: xs, [], l, ds, es, F, H, e, r1, r2, o, fr => by
    cases r1; cases r2
    have : l = [] := by simpa using e
    subst this
    exact ⟨F, Same.refl _, o, by simp [zipD]; exact .nil⟩
  | x :: xs, y :: ys, l, ds, es, F, H, e, r1, r2, o, fr => by
    cases r1 with
    | cons a1 r1 =>
      cases r2 with
      | cons a2 r2 =>
        cases l with
        | nil => cases e
        | cons t l =>
          obtain ⟨T, x', y'⟩ := t
          rw [List.map_cons, List.zip_cons_cons, List.cons.injEq] at e
          obtain ⟨e0, e⟩ := e
          cases e0
          obtain ⟨h1, fr⟩ := fr
          obtain ⟨F1, s1, o1, w1⟩ := pair_new (x := D.non) (y := D.non) o h1 a1 a2
          obtain ⟨F2, s2, o2, w2⟩ := lay_zip (F := F1) (H := upd H T (.tup [x, y])) e (r1.mono s1) (r2.mono s1) o1 fr
          exact ⟨F2, s1.trans s2, o2, by rw [zipD, List.map_cons]; exact .cons (w1.mono s2) w2⟩
theorem ex_lzip (hc : X.calm = true) (hml : X.mg "list" = none) (hm : X.mg "zip" = none) (h : AX X J [a, b] ρ M fun ws M1 => ∃ ds es : List D, ws = [.lst ds, .lst es] ∧ P (.lst (zipD ds es)) M1) (hgl : Gl X "list" := by rfl) (hg : Gl X "zip" := by rfl)
    (hs : starEach [a, b] X.env = (false, eval a X.env) :: starEach [b] X.env := by rfl) (hpl : (backTo pos (starEach [b] X.env)).any (·.1) = false := by rfl)
    (na : starEach [.Call (.Name "zip" p) [a, b] [] pos] X.env = (false, eval (.Call (.Name "zip" p) [a, b] [] pos) X.env) :: starEach [] X.env := by rfl) :
    EX X J (.Call (.Name "list" p') [.Call (.Name "zip" p) [a, b] [] pos] [] pos') ρ M P :=
  ex_of (pe_lz hc hgl hml hg hm pa_any hs hpl na) fun F σ H Q st k => h.go st fun ws vs M1 F1 H1 q e1 o1 r1 => by
    obtain ⟨ds, es, rfl, q⟩ := q
    cases r1 with
    | cons h1 r1 =>
      cases r1 with
      | cons h2 r1 =>
        cases r1
        cases h1 with
        | lst h1 k1 =>
          cases h2 with
          | lst h2 k2 =>
            refine ⟨_, _, _, _, rfl, SqL.of (o1.ex _ _ h1), SqL.of (o1.ex _ _ h2), fun l S el fr hS => ?_⟩
            obtain ⟨F2, s2, o2, w2⟩ := lay_zip el k1 k2 o1 fr
            exact k _ _ _ _ _ q (e1.trans (s2.trans (o2.fixSame hS))) (o2.fix hS) (.lst upd_same (w2.mono (o2.fixSame hS)))
def dZipL : D → D → Option (List D)
  | .lst ds, .lst es => some (zipD ds es)
  | _, _ => none
theorem ex_lzipU {v w : D} {ds : List D} {M2 : Mem} (hc : X.calm = true) (hml : X.mg "list" = none) (hm : X.mg "zip" = none) (h : AX X J [a, b] ρ M fun ws M' => ws = [v, w] ∧ M' = M2) (hv : dZipL v w = some ds) (k : P (.lst ds) M2) (hgl : Gl X "list" := by rfl) (hg : Gl X "zip" := by rfl)
    (hs : starEach [a, b] X.env = (false, eval a X.env) :: starEach [b] X.env := by rfl) (hpl : (backTo pos (starEach [b] X.env)).any (·.1) = false := by rfl)
    (na : starEach [.Call (.Name "zip" p) [a, b] [] pos] X.env = (false, eval (.Call (.Name "zip" p) [a, b] [] pos) X.env) :: starEach [] X.env := by rfl) :
    EX X J (.Call (.Name "list" p') [.Call (.Name "zip" p) [a, b] [] pos] [] pos') ρ M P := by
  unfold dZipL at hv
  split at hv
  · cases hv; exact ex_lzip hc hml hm (h.imp fun d M' q => ⟨_, _, q.1, by rw [q.2]; exact k⟩) hgl hg hs hpl na
  · cases hv
end
end DX
/-! enumerate(t, start=k) of a tuple -/
namespace EnK
open PySem PySem.Spec L2 PyProof.Rows
theorem shift {prog : Program} {w : World} {A : Around} {it : Addr} {fp : List Addr} {n : Nat} {P : Nat → Value → Prop} {St : Nat → Heap → Prop} (D : Draws prog w A it fp n P St) (k : Nat) :
    Draws prog w A it fp (k + n) (fun j x => P (j - k) x) (fun j h => ∃ i, j = k + i ∧ St i h) where
  live := fun j h ⟨i, _, st⟩ => D.live i h st
  frame := fun j h h' ⟨i, e, st⟩ hk => ⟨i, e, D.frame i h h' st hk⟩
  item := fun j s Q E hj ⟨i, e, st⟩ hQ => by
    subst e
    exact D.item i s Q E (by omega) st fun x h' tk p st' sb => hQ x h' tk (by rw [Nat.add_sub_cancel_left]; exact p) ⟨i + 1, by omega, st'⟩ sb
  done := fun s Q E ⟨i, e, st⟩ hQ => by
    obtain rfl : i = n := by omega
    exact D.done s Q E st hQ
section
variable {M : Model} {A : Around} {E : Value → Shared → Prop} {s : Shared} {env : Env}
theorem callWith_typeKw {pos : Pos} {T : String} {e : Expr} {rest : List Expr} {kws : List Keyword} {Q : Value → Shared → Prop}
    (h : wpAny M A (spliced (backTo pos (starEach (e :: rest) env))) (fun vs s₁ => wpAny M A (evalAll ((backToKw pos (keywordEach kws env)).map (·.2)))
      (fun kvs s₂ => wpAny M A (call (.type T) vs (((backToKw pos (keywordEach kws env)).filterMap (·.1)).zip kvs)) Q E s₂) E s₁) E s)
    (he : backTo pos (starEach (e :: rest) env) = (false, eval e env) :: backTo pos (starEach rest env) := by rfl)
    (hplain : (backTo pos (starEach (e :: rest) env)).any (·.1) = false := by rfl)
    (hall : (backToKw pos (keywordEach kws env)).all (·.1.isSome) = true := by rfl)
    (hkw : (backToKw pos (keywordEach kws env)).any (·.1.isNone) = false := by rfl) :
    wpAny M A (callWith pos (.type T) [] (backTo pos (starEach (e :: rest) env)) (backToKw pos (keywordEach kws env))) Q E s := by
  have key : wpAny M A (evalArgs (.type T) true (backTo pos (starEach (e :: rest) env)) (backToKw pos (keywordEach kws env))) (fun a s₁ => wpAny M A (call (.type T) ([] ++ a.pos) a.kw) Q E s₁) E s := by
    rw [he] at h ⊢
    exact evalArgs_kwB hall h
  unfold callWith
  refine wpAny_bind (wpAny_holding (wpAny_mono key (fun a s₁ h₁ => wpAny_bind (wpAny_standAt ?_)) fun _ _ x => x))
  simp only [hplain, hkw, Bool.or_false]
  refine wpAny_bind (wpAny_pure ?_)
  exact wpAny_bind (wpAny_mono h₁ (fun r s₂ hr => wpAny_bind (wpAny_holding (wpAny_point (wpAny_pure hr)))) fun _ _ x => x)
end
/-- the tuple at a, its items in new pairs, counted from k -/
def IteK (K : PySem.W.Frag) (a : Addr) (k : Nat) : It :=
  ⟨fun i H => ∃ (xs : List V) (x : V), SqT K H a xs ∧ xs[i]? = some x, fun i H v H' => ∃ T x, v = .ref T ∧ H T = none ∧ H' = upd H T (.tup [.int (k + i : Nat), x]) ∧ ∀ xs, SqT K H a xs → xs[i]? = some x, fun i H => ∃ xs : List V, SqT K H a xs ∧ xs.length ≤ i⟩
theorem turnK {P : Program} {w : World} {K : PySem.W.Frag} {elts : List Expr} {kk : Nat} {tpos : Pos} (a e it : Addr) (k : Nat) (hai : a ≠ it) (hae : a ≠ e) :
    Turn P w K (.Tuple elts kk tpos) (IteK K a k) [e, it] e (fun i h => (∃ old, IsEnum h e it ((k + i : Nat) : Int) old) ∧ h.IsTupleIter it a i ∧ e ≠ it) where
  mem := by simp
  obj := fun i h st b hb => by
    obtain ⟨⟨old, he⟩, ⟨o, ho, hc, hd⟩, _⟩ := st
    rcases (show b = e ∨ b = it by simpa using hb) with z | z
    · rw [z]; exact ⟨_, he, fun v q => nomatch q⟩
    · rw [z]; exact ⟨o, ho, fun v q => by rw [hd] at q; cases q⟩
  keep := fun i h h' st k => let ⟨⟨old, he⟩, hi, hne⟩ := st; ⟨⟨old, k e (by simp) _ he⟩, hi.at fun o q => k it (by simp) o q, hne⟩
  item := by
    intro X hP hw hK hc i pins s σ H E I hf st hg
    subst hP hw hK
    obtain ⟨⟨old, he⟩, hit, hne⟩ := st
    obtain ⟨xs, x, hq, hx⟩ := hg
    obtain ⟨its, rv, p, hz⟩ := I.tuple hq
    obtain ⟨u, hu, ru⟩ := rv.get hx
    have hel : e < s.heap.objs.size := Heap.lt_size he
    have hil : it < s.heap.objs.size := by obtain ⟨_, q, _⟩ := hit; exact Heap.lt_size q
    have hin : i < its.toArray.size := by simpa using (List.getElem?_eq_some_iff.mp hu).1
    have D := shift (Draws.tuple (prog := X.prog) (w := X.w) (A := X.A.in1) (show X.A.in1.handled = none from I.ok.hd hc) it a hai its.toArray) k
    refine wpAny_pyNext_enum_itemD (i := k + i) D he ⟨i, rfl, hit, p⟩ (by omega) hne (by simp [hne, Ne.symm hae]) fun y h' tk hy ho hst hT hsz hk => ?_
    obtain ⟨i', e', hst⟩ := hst
    obtain rfl : i' = i + 1 := by omega
    rw [Nat.add_sub_cancel_left] at hy
    obtain rfl : u = y := Option.some.inj ((by simpa using hu : its.toArray[i]? = some u).symm.trans hy)
    refine ⟨_, rfl, wpAny_letOwnedTupleGo_enum (s := { s with heap := h', toks := tk + 1 }) ho fun h'' he' sb => ?_⟩
    have hT2 : h''.get? s.heap.objs.size = some { cls := .type "tuple", data := .seq #[.int (k + i : Nat) tk, u] } := (sb.2 _ (Nat.ne_of_gt hel)).trans hT
    have new : ObjOk X.prog X.w (upd H s.heap.objs.size (.tup [.int (k + i : Nat), x])) h'' s.heap.objs.size (.tup [.int (k + i : Nat), x]) :=
      ⟨by show 2 ≤ sizeLine; decide, [.int (k + i : Nat) tk, u], .cons ⟨_, rfl⟩ (.cons ru .nil), ⟨_, hT2, rfl, _, rfl⟩⟩
    have I1 : Inv X pins σ (upd H s.heap.objs.size (.tup [.int (k + i : Nat), x])) { s with heap := h'', toks := tk + 1 } :=
      I.turnedNew (ch := [e, it]) (fun b ob hb q => (sb.2 b (fun z => hb (by simp [z]))).trans (hk b ob (fun z => hb (by simp [z])) (fun z => hb (by simp [z])) q)) hf (Nat.le_refl _) new
    refine ⟨.ref s.heap.objs.size, _, I1, rfl, ⟨_, x, rfl, I.hok.fresh (Nat.le_refl _), rfl, fun ys hy => by rw [I.tuple_inj hy hq]; exact hx⟩, ⟨⟨u, ?_⟩, hst.1.at fun o q => (sb.2 it (Ne.symm hne)).trans q, hne⟩, fun b hb => ?_⟩
    · rw [show ((k + (i + 1) : Nat) : Int) = ((k + i : Nat) : Int) + 1 by omega]; exact he'
    · have hb' : b < s.heap.objs.size := by
        rcases (show b = e ∨ b = it by simpa using hb) with z | z
        · rw [z]; exact hel
        · rw [z]; exact hil
      rw [upd_ne (Nat.ne_of_lt hb')]
      exact (hf b hb).1
  done := by
    intro X hP hw hK hc i pins s σ H E I hf st hg
    subst hP hw hK
    obtain ⟨⟨old, he⟩, hit, hne⟩ := st
    obtain ⟨xs, hq, hx⟩ := hg
    obtain ⟨its, rv, p, hz⟩ := I.tuple hq
    obtain ⟨f0, f1, f2, f3, f4, f5⟩ := hf it (by simp)
    have hl := rv.length
    have hT : s.TypeIs (.ref e) "enumerate" := ⟨_, he, rfl⟩
    unfold pyNext
    refine wpAny_bind (wpAny_attempt (wpAny_callSpecial?_slot (name := Str.ofString "__next__") hT F.slot_enumerate_next
      (wpAny_call_entry F.slot_enumerate_next hT F.entry_enumerate_next ?_ (F.args_enumerate_next_1 _))))
    show wpAny _ _ (field (.ref e) 2 >>= _) _ _ _
    refine wpAny_bind (wpAny_field he rfl (x := .ref it) rfl ?_)
    refine wpAny_bind (wpAny_nextOf_tuple_end (I.ok.hd hc) hit p (by simp; omega) fun h' y eb hy => ?_)
    obtain ⟨o, ho, hc'⟩ := hy
    refine wpAny_bind (wpAny_isInstance (T := "StopIteration") (b := true) ⟨o, ho, hc'⟩ isSubtype_stop ?_)
    exact wpAny_pure ⟨rfl, I.turned (t' := s.toks) (fun b o hb q => eb b o hb q) f0 f1 f3 f4 f5⟩
  self := fun A i s Q E st h => let ⟨⟨_, he⟩, _⟩ := st; wpAny_pyIter_enum he h
def iEnumK (K : PySem.W.Frag) (ta tk : TA) : TI := fun σ H R => ta σ H fun vs H1 => tk σ H1 fun zs H2 => ∃ a xs, ∃ k : Nat, vs = [.ref a] ∧ zs = [.int (k : Int)] ∧ k < 1000000 ∧ SqT K H2 a xs ∧ R (IteK K a k) H2
theorem pi_enumK {X : Cx} {e b : Expr} {ta tk : TA} {p pos tpos kp : Pos} {elts : List Expr} {kk : Nat} (hg : Gl X "enumerate") (hm : X.mg "enumerate" = none) (ha : PA X [e] ta) (hk : PK X [⟨some "start", b, kp⟩] tk)
    (he : backTo pos (starEach [e] X.env) = (false, eval e X.env) :: backTo pos (starEach [] X.env) := by rfl) (hpl : (backTo pos (starEach [e] X.env)).any (·.1) = false := by rfl)
    (hall : (backToKw pos (keywordEach [⟨some "start", b, kp⟩] X.env)).all (·.1.isSome) = true := by rfl) (hnone : (backToKw pos (keywordEach [⟨some "start", b, kp⟩] X.env)).any (·.1.isNone) = false := by rfl) (hks : (backToKw pos (keywordEach [⟨some "start", b, kp⟩] X.env)).filterMap (·.1) = [Str.ofString "start"] := by rfl) :
    PI X (.Tuple elts kk tpos) (.Call (.Name "enumerate" p) [e] [⟨some "start", b, kp⟩] pos) (iEnumK X.K ta tk) := by
  refine ⟨fun pins s σ H R I h => ?_⟩
  refine wpAny_Call_Name_kw (ld_blt I hg hm boot_enumerate (callWith_typeKw (thn (ha.run pos pins s σ H _ I h) fun us s1 ⟨vs, H1, I1, r1, q1⟩ => thn (hk.run pos pins s1 σ H1 _ I1 q1) fun ws s2 ⟨zs, H2, I2, r2, q2⟩ => ?_) he hpl hall hnone))
  rw [hks]
  obtain ⟨a, xs, k, ex, ez, hk1, hq, q⟩ := q2
  subst ex
  subst ez
  cases r1 with
  | cons r rr =>
    cases rr
    cases r
    cases r2 with
    | cons r rr =>
      cases rr
      obtain ⟨tk2, rfl⟩ := r
      obtain ⟨its, rv, p', hz⟩ := I2.tuple hq
      have hal : a < s2.heap.objs.size := p'.lt
      refine enum_begins_start (begins_tuple a its.toArray) p' (by omega) (by omega) fun h' he hit hsz hk => wpAny_pyIter_enum he ?_
      have I3 : Inv X pins σ H2 { s2 with heap := h' } := I2.kept (t' := s2.toks) hk
      refine ⟨s2.heap.objs.size + 1, [s2.heap.objs.size + 1, s2.heap.objs.size], _, _, H2, rfl, I3, turnK a (s2.heap.objs.size + 1) s2.heap.objs.size k (Nat.ne_of_lt hal) (Nat.ne_of_lt (Nat.lt_succ_of_lt hal)), ⟨⟨.none, he⟩, ⟨_, hit, rfl, rfl⟩, Nat.succ_ne_self _⟩, fun b hb => ?_, q⟩
      have hle : s2.heap.objs.size ≤ b := by
        rcases (show b = s2.heap.objs.size + 1 ∨ b = s2.heap.objs.size by simpa using hb) with z | z
        · rw [z]; exact Nat.le_add_right _ _
        · rw [z]; exact Nat.le_refl _
      exact I2.fpOk hle (I2.hok.fresh hle)
end EnK
namespace DX
open PySem PySem.Spec L2 EnK
def dEnumK : D → D → Option (List D)
  | .tup ds, .int k => if 0 ≤ k ∧ k < 1000000 then some (enumD k.toNat ds) else none
  | _, _ => none
section
variable {X : Cx} {J : Gh} {M : Mem} {F : Hp} {K : PySem.W.Frag} {ρ : DEnv} {a b : Expr} {p pos kp : Pos}
theorem wk_enumK {q : Addr} {xs : List V} {ds : List D} {n : Nat} (h : SqT K F q xs) (hx : Rps K F xs ds) : Wk K F (EnK.IteK K q n) (enumD n ds) := by
  refine ⟨fun i H hi s => ?_, fun H s => ⟨xs, same_t s h, by rw [enumD_len, hx.length]; exact Nat.le_refl _⟩, fun i d H x H' F1 M hd s o y => ?_⟩
  · rw [enumD_len] at hi
    have h1 : i < xs.length := by rw [hx.length]; omega
    exact ⟨xs, xs[i], same_t s h, by simp [h1]⟩
  · obtain ⟨T, v1, rfl, h2, rfl, h4⟩ := y
    obtain ⟨d1, g1, rfl⟩ := enumD_at hd
    obtain ⟨w1, k1, k2⟩ := hx.get g1
    have e1 := h4 xs (same_t o.ex (same_t s h))
    rw [k1] at e1; cases e1
    exact pair_new (x := d1) (y := d1) o h2 (.int _) (k2.mono s)
theorem ix_enumK {elts : List Expr} {kk : Nat} {tpos : Pos} {v w : D} {ds : List D} {M3 : Mem} {P : List D → Mem → Prop} (hm : X.mg "enumerate" = none) (h : AX X J [a] ρ M fun ws M1 => ws = [v] ∧ EX X J b ρ M1 fun d M2 => d = w ∧ M2 = M3) (hv : dEnumK v w = some ds) (k : P ds M3) (hg : Gl X "enumerate" := by rfl)
    (he : backTo pos (starEach [a] X.env) = (false, eval a X.env) :: backTo pos (starEach [] X.env) := by rfl) (hpl : (backTo pos (starEach [a] X.env)).any (·.1) = false := by rfl)
    (hall : (backToKw pos (keywordEach [⟨some "start", b, kp⟩] X.env)).all (·.1.isSome) = true := by rfl) (hnone : (backToKw pos (keywordEach [⟨some "start", b, kp⟩] X.env)).any (·.1.isNone) = false := by rfl) (hks : (backToKw pos (keywordEach [⟨some "start", b, kp⟩] X.env)).filterMap (·.1) = [Str.ofString "start"] := by rfl) :
    IX X J (.Tuple elts kk tpos) (.Call (.Name "enumerate" p) [a] [⟨some "start", b, kp⟩] pos) ρ M P :=
  ix_of (EnK.pi_enumK hg hm pa_any (pk_cons pe_any pk_nil) he hpl hall hnone hks) fun F σ H R s kont => h.go s fun ws vs M1 F1 H1 q e1 o1 r1 => by
    obtain ⟨rfl, q⟩ := q
    refine q.go (s.to e1 o1) fun d u M2 F2 H2 q2 e2 o2 r2 => ?_
    obtain ⟨rfl, rfl⟩ := q2
    unfold dEnumK at hv
    split at hv
    · split at hv
      · rename_i ds0 k0 hk0
        cases hv
        cases r1 with
        | cons h1 r1 =>
          cases r1
          cases h1 with
          | tup h1 k1 =>
            cases r2
            have ek : (k0 : Int) = ((k0.toNat : Nat) : Int) := by omega
            exact ⟨_, _, k0.toNat, rfl, by rw [← ek], by omega, same_t (o2.ex) (same_t e2 h1), kont _ _ _ F2 _ k (e1.trans e2) o2 (wk_enumK (same_t e2 h1) (k1.mono e2))⟩
      · cases hv
    · cases hv
theorem ix_enumKU {elts : List Expr} {kk : Nat} {tpos bpos : Pos} {v : D} {i : Int} {j : Nat} {ds : List D} {M2 : Mem} {P : List D → Mem → Prop} (hm : X.mg "enumerate" = none) (h : AX X J [a] ρ M fun ws M' => ws = [v] ∧ M' = M2) (hv : dEnumK v (.int i) = some ds) (k : P ds M2) (hg : Gl X "enumerate" := by rfl)
    (he : backTo pos (starEach [a] X.env) = (false, eval a X.env) :: backTo pos (starEach [] X.env) := by rfl) (hpl : (backTo pos (starEach [a] X.env)).any (·.1) = false := by rfl)
    (hall : (backToKw pos (keywordEach [⟨some "start", .Constant (.int i) j bpos, kp⟩] X.env)).all (·.1.isSome) = true := by rfl) (hnone : (backToKw pos (keywordEach [⟨some "start", .Constant (.int i) j bpos, kp⟩] X.env)).any (·.1.isNone) = false := by rfl) (hks : (backToKw pos (keywordEach [⟨some "start", .Constant (.int i) j bpos, kp⟩] X.env)).filterMap (·.1) = [Str.ofString "start"] := by rfl) :
    IX X J (.Tuple elts kk tpos) (.Call (.Name "enumerate" p) [a] [⟨some "start", .Constant (.int i) j bpos, kp⟩] pos) ρ M P :=
  ix_enumK hm (h.imp fun ws M' q => ⟨q.1, ex_int ⟨rfl, q.2⟩⟩) hv k hg he hpl hall hnone hks
theorem ex_lzipF {P : D → Mem → Prop} {p' pos' : Pos} (hc : X.calm = true) (hml : X.mg "list" = none) (hm : X.mg "zip" = none) (h : AX X J [a, b] ρ M fun ws M1 => ∃ v w ds, ws = [v, w] ∧ dZipL v w = some ds ∧ P (.lst ds) M1) (hgl : Gl X "list" := by rfl) (hg : Gl X "zip" := by rfl)
    (hs : starEach [a, b] X.env = (false, eval a X.env) :: starEach [b] X.env := by rfl) (hpl : (backTo pos (starEach [b] X.env)).any (·.1) = false := by rfl)
    (na : starEach [.Call (.Name "zip" p) [a, b] [] pos] X.env = (false, eval (.Call (.Name "zip" p) [a, b] [] pos) X.env) :: starEach [] X.env := by rfl) :
    EX X J (.Call (.Name "list" p') [.Call (.Name "zip" p) [a, b] [] pos] [] pos') ρ M P :=
  ex_lzip hc hml hm (h.imp fun ws M' q => by
    obtain ⟨v, w, ds, e, hv, q⟩ := q
    unfold dZipL at hv
    split at hv
    · cases hv; exact ⟨_, _, e, q⟩
    · cases hv) hgl hg hs hpl na
end
end DX
/-! l.index(i) of a list of numbers and texts -/
namespace DX
open PySem PySem.Spec L2 PyProof.Rows
def isFl : D → Bool
  | .int _ => true
  | .str _ => true
  | _ => false
def isI (i : Int) : D → Bool
  | .int j => decide (j = i)
  | _ => false
def isSt (z : Str) : D → Bool
  | .str w => decide (w = z)
  | _ => false
def dLidx : D → D → Option D
  | .lst ds, .str z => if ds.all isFl = true then (ds.findIdx? (isSt z)).map fun (j : Nat) => .int (j : Int) else none
  | .lst ds, .int i => if ds.all isFl = true then (ds.findIdx? (isI i)).map fun (j : Nat) => .int (j : Int) else none
  | _, _ => none
theorem flat_all {K : PySem.W.Frag} {F : Hp} : ∀ {xs : List V} {ds : List D}, Rps K F xs ds → ds.all isFl = true → xs.all flatV = true
  | _, _, .nil, _ => rfl
  | _, _, .cons r rs, h => by
    rw [List.all_cons, Bool.and_eq_true] at h
    rw [List.all_cons, flat_all rs h.2, Bool.and_true]
    cases r <;> first | rfl | (cases h.1; done)
theorem flat_eq {K : PySem.W.Frag} {F : Hp} {v : V} {d : D} {i : Int} (r : Rp K F v d) (h : isFl d = true) : eqV v (.int i) = isI i d := by
  cases r <;> first | (cases h; done) | (simp [eqV, isI]; done) | (simp only [eqV, isI]; rfl)
theorem flat_eqS {K : PySem.W.Frag} {F : Hp} {v : V} {d : D} {z : Str} (r : Rp K F v d) (h : isFl d = true) : eqV v (.str z) = isSt z d := by
  cases r <;> first | (cases h; done) | (simp [eqV, isSt]; done) | (simp only [eqV, isSt]; rfl)
section
variable {X : Cx} {J : Gh} {M : Mem} {ρ : DEnv} {o e : Expr} {apos cpos : Pos} {P : D → Mem → Prop}
theorem ex_lindexF (h : EX X J o ρ M fun d M1 => ∃ ds, d = .lst ds ∧ AX X J [e] ρ M1 fun ys M2 => ∃ y r, ys = [y] ∧ dLidx (.lst ds) y = some r ∧ P r M2)
    (hbase : attributeBase o "index" X.env (eval o X.env) = eval o X.env := by rfl)
    (few : ((backTo cpos (starEach [e] X.env)).all (fun x => !x.1) && (backToKw cpos (keywordEach [] X.env)).all (fun x => x.1.isSome) && decide ([e].length + ([] : List Keyword).length + (if ([] : List Keyword).isEmpty then 0 else 1) < 30)) = true := by rfl)
    (line : (apos.endLine == cpos.line) = true := by rfl) (hst : starEach [e] X.env = (false, eval e X.env) :: starEach [] X.env := by rfl) (hpl : (backTo cpos (starEach [] X.env)).any (·.1) = false := by rfl) :
    EX X J (.Call (.Attribute o "index" apos) [e] [] cpos) ρ M P :=
  ex_of (pe_bm PySem.F.plainAttrs_list PySem.F.slot_list_index PySem.F.type_list_index mt_index pe_any pa_any hbase few line hst hpl) fun F σ H Q st k => h.go st fun d v M1 F1 H1 q1 e1 o1 r1 => by
    obtain ⟨ds, rfl, q1⟩ := q1
    cases r1 with
    | lst h1 rs =>
      refine ⟨tyV_lst (o1.ex _ _ h1), q1.go (st.to e1 o1) fun ys vs M2 F2 H2 q3 e2 o2 r2 => ?_⟩
      obtain ⟨y, r, rfl, hr, q3⟩ := q3
      cases r2 with
      | cons r2 r3 =>
        cases r3
        unfold dLidx at hr
        split at hr
        · rename_i _ _ ds' z hd
          cases hd
          split at hr
          · rename_i hf
            obtain ⟨j, hj, rfl⟩ := Option.map_eq_some_iff.mp hr
            cases r2
            rw [List.findIdx?_eq_some_iff_getElem] at hj
            obtain ⟨hlt, hp, hno⟩ := hj
            have fl : ∀ (m : Nat) (hm : m < ds.length), isFl ds[m] = true := fun m hm => List.all_eq_true.mp hf _ (List.getElem_mem hm)
            obtain ⟨w, k1, k2⟩ := rs.get (List.getElem?_eq_getElem hlt)
            refine ⟨_, _, .str z, j, w, rfl, rfl, SqL.of (o2.ex _ _ (e2 _ _ h1)), rfl, flat_all rs hf, k1, by rw [flat_eqS k2 (fl j hlt)]; exact hp, fun m z' hm hz => ?_, k _ _ _ _ _ q3 (e1.trans e2) o2 (.int _)⟩
            obtain ⟨w2, k3, k4⟩ := rs.get (List.getElem?_eq_getElem (show m < ds.length by omega))
            rw [k3] at hz
            cases hz
            rw [flat_eqS k4 (fl m (by omega))]
            exact Bool.eq_false_iff.mpr (hno m hm)
          · cases hr
        · rename_i _ _ ds' i hd
          cases hd
          split at hr
          · rename_i hf
            obtain ⟨j, hj, rfl⟩ := Option.map_eq_some_iff.mp hr
            cases r2
            rw [List.findIdx?_eq_some_iff_getElem] at hj
            obtain ⟨hlt, hp, hno⟩ := hj
            have fl : ∀ (m : Nat) (hm : m < ds.length), isFl ds[m] = true := fun m hm => List.all_eq_true.mp hf _ (List.getElem_mem hm)
            obtain ⟨w, k1, k2⟩ := rs.get (List.getElem?_eq_getElem hlt)
            refine ⟨_, _, .int i, j, w, rfl, rfl, SqL.of (o2.ex _ _ (e2 _ _ h1)), rfl, flat_all rs hf, k1, by rw [flat_eq k2 (fl j hlt)]; exact hp, fun m z' hm hz => ?_, k _ _ _ _ _ q3 (e1.trans e2) o2 (.int _)⟩
            obtain ⟨w2, k3, k4⟩ := rs.get (List.getElem?_eq_getElem (show m < ds.length by omega))
            rw [k3] at hz
            cases hz
            rw [flat_eq k4 (fl m (by omega))]
            exact Bool.eq_false_iff.mpr (hno m hm)
          · cases hr
        · cases hr
end
end DX
/-! lists put elsewhere by a branch; all that changes held still for a while; list.count -/
namespace DX
open PySem PySem.Spec L2 PyProof.Rows
section
variable {X : Cx} {J : Gh} {e o : Expr} {es : List Expr} {ρ ρ' : DEnv} {M M0 M1 : Mem} {F F' H H' : Hp} {σ : L2.St} {P : D → Mem → Prop} {K : PySem.W.Frag} {pos apos cpos : Pos}
theorem sub_up {a : Addr} {d : D} (s : Sub M0 M1) (h : M1 a = some d) : Sub (up M0 a d) M1 := fun b d' q => by
  unfold up at q
  split at q
  · rename_i e; cases q; rw [e]; exact h
  · exact s b d' q
/-! ### what changes is held still -/
def Mz : Mem := fun _ => none
def stillF (F H : Hp) (M : Mem) : Hp := fun a => if (M a).isSome = true then H a else F a
theorem still_same (k : Ok K F M H) : Same F (stillF F H M) := fun a u h => by
  unfold stillF
  split
  · rename_i q
    obtain ⟨d, hd⟩ := Option.isSome_iff_exists.mp q
    rw [(k.mt a d hd).1] at h; cases h
  · exact h
theorem still_ok (k : Ok K F M H) : Ok K (stillF F H M) Mz H := ⟨fun a u h => by
  unfold stillF at h
  split at h
  · exact h
  · exact k.ex a u h, fun a d h => nomatch h⟩
inductive StillE (M : Mem) : DEnv → DEnv → Prop
  | nil : StillE M [] []
  | same {d : Option D} {ρ ρ' : DEnv} : StillE M ρ ρ' → StillE M (d :: ρ) (d :: ρ')
  | ad {p : Addr} {d : D} {ρ ρ' : DEnv} : M p = some d → frzD d = true → StillE M ρ ρ' → StillE M (some (.adr p) :: ρ) (some d :: ρ')
theorem StillE.en (k : Ok K F M H) : ∀ {ρ ρ' : DEnv}, StillE M ρ ρ' → ∀ {σ : L2.St}, En K F σ ρ → En K (stillF F H M) σ ρ'
  | _, _, .nil, _, .nil => .nil
  | _, _, .same h, _, .cons x r => .cons (fun y q => let ⟨z, a, b⟩ := x y q; ⟨z, a, b.mono (still_same k)⟩) (h.en k r)
  | _, _, .ad (p := p) (d := d) hp hf h, _, .cons x r => .cons (fun y q => by
      cases q
      obtain ⟨z, a, b⟩ := x _ rfl
      cases b
      obtain ⟨u, hu⟩ := (k.mt p _ hp).2.there
      exact ⟨_, a, (k.mt p _ hp).2.rp hu (still_same k) (show stillF F H M p = some u by unfold stillF; rw [hp]; exact hu) hf⟩) (h.en k r)
theorem still_back (k : Ok K F M H) {M' : Mem} (e : Same (stillF F H M) F') (k' : Ok K F' M' H') : Ok K F M H' := by
  refine ⟨((still_same k).trans e).trans k'.ex, fun a d hd => ?_⟩
  obtain ⟨m1, m2⟩ := k.mt a d hd
  obtain ⟨u, hu⟩ := m2.there
  have : H' a = some u := k'.ex _ _ (e _ _ (show stillF F H M a = some u by unfold stillF; rw [hd]; exact hu))
  exact ⟨m1, m2.mono (Same.refl F) (this.trans hu.symm)⟩
theorem tx_still {PB : Bool → Mem → Prop} (hs : StillE M ρ ρ') (h : TX X J e ρ' Mz fun t _ => PB t M) : TX X J e ρ M PB :=
  tx_of h fun F σ H Q st k => ⟨stillF F H M, ⟨hs.en st.ok st.en, still_ok st.ok, J.mono _ _ (still_same st.ok) st.gh⟩, fun b M' F' H' p e1 o1 => k b M F H' p (Same.refl F) (still_back st.ok e1 o1)⟩
def flatD : D → Bool
  | .int _ => true
  | .bl _ => true
  | .str _ => true
  | .non => true
  | _ => false
theorem rp_flat {v : V} {d : D} (h : flatD d = true) (r : Rp K F v d) : Rp K F' v d := by
  cases r <;> first
    | exact .non
    | exact .bl _
    | exact .int _
    | exact .str _
    | (cases h; done)
theorem ex_still (hs : StillE M ρ ρ') (h : EX X J e ρ' Mz fun d _ => flatD d = true ∧ P d M) : EX X J e ρ M P :=
  ex_of h fun F σ H Q st k => ⟨stillF F H M, ⟨hs.en st.ok st.en, still_ok st.ok, J.mono _ _ (still_same st.ok) st.gh⟩, fun d v M' F' H' p e1 o1 r1 => k d v M F H' p.2 (Same.refl F) (still_back st.ok e1 o1) (rp_flat p.1 r1)⟩
/-! ### list.count -/
theorem mt_lcountD (hu : X.A.units + 64 < cLine) : MtR X "list.count" (fun x xs H Q => ∃ (p : Addr) (zs : List V) (y : V) (ds : List PyData) (d : PyData), x = .ref p ∧ xs = [y] ∧ SqL X.K H p zs ∧ DpAll X.K H zs ds ∧ Dp X.K H y d ∧ PyData.canLayAll0 ds = true ∧ d.canLay0 = true ∧ d.depth ≤ 60 ∧ Q (.int ((ds.countP fun z => PyData.eqv z d : Nat) : Int)) H) := by
  intro pins s σ H x xs v us Q I rx rxs h
  obtain ⟨p, zs, y, ds, d, rfl, rfl, hs, ha, hd, c1, c2, dd, q⟩ := h
  cases rx
  obtain ⟨u, rfl, ru⟩ := rxs.one
  obtain ⟨its, rv, ⟨o, n, ho, hc, _, hd0⟩, hlen⟩ := I.list hs
  obtain ⟨as, r1⟩ := Dp.readsAll I ds zs its ha rv
  obtain ⟨bs, r2⟩ := Dp.reads I d y u hd ru
  refine SeqAt.count_list_data ⟨o, ho, hc, n, hd0⟩ (by simpa using r1) r2 (PyData.plainAll_of_canLay0 _ c1) (PyData.plain_of_canLay0 _ c2) ?_ ?_
  · have : min (PyData.depthAll ds) d.depth ≤ d.depth := Nat.min_le_right _ _
    omega
  · exact ⟨.int _, H, I.tok _, ⟨s.toks, rfl⟩, q⟩
noncomputable def dLcnt : D → D → Option D
  | .lst ds, y => chk (goods ds ∧ good y ∧ dep y ≤ 50) (.int ((ds.countP fun z => eqD z y : Nat) : Int))
  | _, _ => none
theorem cnt_pyds {y : D} : ∀ ds : List D, (pyds ds).countP (fun z => PyData.eqv z (pyd y)) = ds.countP fun z => eqD z y
  | [] => rfl
  | d :: ds => by
    rw [pyds, List.countP_cons, List.countP_cons, cnt_pyds ds]
    rfl
theorem ex_lcntF (hu : X.A.units + 64 < cLine) (h : EX X J o ρ M fun d M1 => ∃ ds, d = .lst ds ∧ AX X J [e] ρ M1 fun ys M2 => ∃ y r, ys = [y] ∧ dLcnt (.lst ds) y = some r ∧ P r M2)
    (hbase : attributeBase o "count" X.env (eval o X.env) = eval o X.env := by rfl)
    (few : ((backTo cpos (starEach [e] X.env)).all (fun x => !x.1) && (backToKw cpos (keywordEach [] X.env)).all (fun x => x.1.isSome) && decide ([e].length + ([] : List Keyword).length + (if ([] : List Keyword).isEmpty then 0 else 1) < 30)) = true := by rfl)
    (line : (apos.endLine == cpos.line) = true := by rfl) (hst : starEach [e] X.env = (false, eval e X.env) :: starEach [] X.env := by rfl) (hpl : (backTo cpos (starEach [] X.env)).any (·.1) = false := by rfl) :
    EX X J (.Call (.Attribute o "count" apos) [e] [] cpos) ρ M P :=
  ex_of (pe_bm PySem.F.plainAttrs_list PySem.F.slot_list_count PySem.F.type_list_count (mt_lcountD hu) pe_any pa_any hbase few line hst hpl) fun F σ H Q st k => h.go st fun d v M1 F1 H1 q1 e1 o1 r1 => by
    obtain ⟨ds, rfl, q1⟩ := q1
    cases r1 with
    | lst h1 rs =>
      refine ⟨tyV_lst (o1.ex _ _ h1), q1.go (st.to e1 o1) fun ys vs M2 F2 H2 q3 e2 o2 r2 => ?_⟩
      obtain ⟨y, r, rfl, hr, q3⟩ := q3
      cases r2 with
      | cons r2 r3 =>
        cases r3
        obtain ⟨⟨g1, g2, g3⟩, rfl⟩ := chk_inv (show chk _ _ = some r from hr)
        refine ⟨_, _, _, pyds ds, pyd y, rfl, rfl, SqL.of (o2.ex _ _ (e2 _ _ h1)), (rs.mono e2).dps o2.ex (goods_py g1), r2.dp o2.ex (good_py g2), goods_lay g1, good_lay g2, ?_, ?_⟩
        · have := dep_py g2
          omega
        · rw [cnt_pyds]
          exact k _ _ _ _ _ q3 (e1.trans e2) o2 (.int _)
end
end DX
/-! all that changes held still, where a value without lists comes of it -/
namespace DX
open PySem PySem.Spec L2 PyProof.Rows StX LamX
/-- no instance changes here -/
def NoIns (M : Mem) : Prop := ∀ a C gs, M a ≠ some (.ins C gs)
theorem noins_z : NoIns fun _ => none := fun _ _ _ h => nomatch h
theorem noins_up {M : Mem} {a : Addr} {l : List D} (h : NoIns M) : NoIns (up M a (.lst l)) := fun b C gs q => by
  unfold up at q
  split at q
  · cases q
  · exact h b C gs q
theorem noins_tb {K : PySem.W.Frag} {tl : TbL} : NoIns (tbMem K tl) := fun a C gs q => by
  obtain ⟨x, _, _, e⟩ := tbMem_in q
  cases e
mutual
/-- without lists and dicts -/
def lf : D → Bool
  | .non => true
  | .bl _ => true
  | .int _ => true
  | .str _ => true
  | .tup ds => lfs ds
  | .stup ds => lfs ds
  | .ins _ gs => lfk gs
  | _ => false
def lfs : List D → Bool
  | [] => true
  | d :: ds => lf d && lfs ds
def lfk : List (Str × D) → Bool
  | [] => true
  | (_, d) :: ds => lf d && lfk ds
end
structure Keeps (K : PySem.W.Frag) (F F2 : Hp) : Prop where
  t : ∀ a xs, SqT K F a xs → SqT K F2 a xs
  i : ∀ a C dx fs, F a = some (.ins C dx fs) → F2 a = some (.ins C dx fs)
  s : ∀ a o xs, F a = some (.frz o (.tup xs)) → F2 a = some (.frz o (.tup xs))
section
variable {K : PySem.W.Frag} {F F2 : Hp}
mutual
theorem rp_lf (h : Keeps K F F2) : ∀ (d : D) (v : V), lf d = true → Rp K F v d → Rp K F2 v d
  | .non, _, _, .non => .non
  | .bl b, _, _, .bl _ => .bl _
  | .int i, _, _, .int _ => .int _
  | .str x, _, _, .str _ => .str _
  | .tup ds, _, q, .tup h1 h2 => .tup (h.t _ _ h1) (rps_lf h ds _ (by rw [lf] at q; exact q) h2)
  | .stup ds, _, q, .stup h1 h2 h3 => .stup (h.s _ _ _ h1) h2 (rps_lf h ds _ (by rw [lf] at q; exact q) h3)
  | .ins C gs, _, q, .ins h1 h2 => .ins (h.i _ _ _ _ h1) (rfs_lf h gs _ (by rw [lf] at q; exact q) h2)
  | .lst _, _, q, _ => by simp [lf] at q
  | .dct _, _, q, _ => by simp [lf] at q
  | .adr _, _, q, _ => by simp [lf] at q
  | .ty _, _, q, _ => by simp [lf] at q
  | .scr _, _, q, _ => by simp [lf] at q
  | .exn _ _, _, q, _ => by simp [lf] at q
  | .tbl _, _, q, _ => by simp [lf] at q
theorem rps_lf (h : Keeps K F F2) : ∀ (ds : List D) (vs : List V), lfs ds = true → Rps K F vs ds → Rps K F2 vs ds
  | [], _, _, .nil => .nil
  | d :: ds, _, q, .cons h1 h2 => by
    rw [lfs, Bool.and_eq_true] at q
    exact .cons (rp_lf h d _ q.1 h1) (rps_lf h ds _ q.2 h2)
theorem rfs_lf (h : Keeps K F F2) : ∀ (ds : List (Str × D)) (vs : List (Str × V)), lfk ds = true → Rfs K F vs ds → Rfs K F2 vs ds
  | [], _, _, .nil => .nil
  | (x, d) :: ds, _, q, .cons h1 h2 => by
    rw [lfk, Bool.and_eq_true] at q
    exact .cons (rp_lf h d _ q.1 h1) (rfs_lf h ds _ q.2 h2)
end
end
section
variable {X : Cx} {J : Gh} {e : Expr} {ρ ρ' : DEnv} {M : Mem} {F F' H H' : Hp} {P : D → Mem → Prop} {K : PySem.W.Frag}
/-- what was held still may change again -/
def freeF (F' : Hp) (M : Mem) : Hp := fun a => if (M a).isSome = true then none else F' a
theorem free_eq {a : Addr} (h : M a = none) : freeF F' M a = F' a := by unfold freeF; rw [h]; rfl
theorem still_kind (k : Ok K F M H) (e : Same (stillF F H M) F') {a : Addr} {d : D} (h : M a = some d) : ∃ u, F' a = some u ∧ H a = some u ∧ Mt K F H a d := by
  obtain ⟨_, m2⟩ := k.mt a d h
  obtain ⟨u, hu⟩ := m2.there
  exact ⟨u, e _ _ (show stillF F H M a = some u by unfold stillF; rw [h]; exact hu), hu, m2⟩
theorem free_keeps (hn : NoIns M) (k : Ok K F M H) (e : Same (stillF F H M) F') : Keeps K F' (freeF F' M) := by
  have no : ∀ a u, F' a = some u → (∀ d, Mt K F H a d → H a = some u → M a ≠ some d) → freeF F' M a = some u := fun a u h q => by
    cases hm : M a with
    | none => rw [free_eq hm]; exact h
    | some d =>
      obtain ⟨u2, h1, h2, h3⟩ := still_kind k e hm
      rw [h] at h1; cases h1
      exact absurd hm (q d h3 h2)
  have notT : ∀ {a : Addr} {xs : List V} {d : D}, Mt K F H a d → H a ≠ some (.tup xs) := fun {a xs d} m h => by
    cases d <;> first
      | exact m.elim
      | (obtain ⟨_, q, _⟩ := m; rw [h] at q; cases q; done)
      | (obtain ⟨_, _, q, _⟩ := m; rw [h] at q; cases q; done)
  have notF : ∀ {a : Addr} {o : Obj} {v : HO} {d : D}, Mt K F H a d → H a ≠ some (.frz o v) := fun {a o v d} m h => by
    cases d <;> first
      | exact m.elim
      | (obtain ⟨_, q, _⟩ := m; rw [h] at q; cases q; done)
      | (obtain ⟨_, _, q, _⟩ := m; rw [h] at q; cases q; done)
  refine ⟨fun a xs h => ?_, fun a C dx fs h => ?_, fun a o xs h => ?_⟩
  · rcases h with (h | ⟨o, h⟩) | h
    · exact .inl (.inl (no a _ h fun d m z => absurd z (notT m)))
    · exact .inl (.inr ⟨o, no a _ h fun d m z => absurd z (notF m)⟩)
    · exact .inr h
  · refine no a _ h fun d m z q => ?_
    cases d <;> first
      | exact m.elim
      | exact hn _ _ _ q
      | (obtain ⟨_, y, _⟩ := m; rw [z] at y; cases y; done)
      | (obtain ⟨_, _, y, _⟩ := m; rw [z] at y; cases y; done)
  · exact no a _ h fun d m z => absurd z (notF m)
theorem free_same (k : Ok K F M H) (e : Same (stillF F H M) F') : Same F (freeF F' M) := fun a u h => by
  have : M a = none := by
    cases hm : M a with
    | none => rfl
    | some d => rw [(k.mt a d hm).1] at h; cases h
  rw [free_eq this]
  exact e _ _ (still_same k _ _ h)
theorem free_ok (k : Ok K F M H) (e : Same (stillF F H M) F') {M' : Mem} (k' : Ok K F' M' H') : Ok K (freeF F' M) M H' := by
  refine ⟨fun a u h => ?_, fun a d hd => ?_⟩
  · cases hm : M a with
    | none => rw [free_eq hm] at h; exact k'.ex _ _ h
    | some d => unfold freeF at h; rw [hm] at h; cases h
  · obtain ⟨u, h1, h2, h3⟩ := still_kind k e hd
    refine ⟨by unfold freeF; rw [hd]; rfl, h3.mono (free_same k e) ((k'.ex _ _ h1).trans h2.symm)⟩
theorem ex_stillN (hn : NoIns M) (hs : StillE M ρ ρ') (h : EX X J e ρ' Mz fun d _ => lf d = true ∧ P d M) : EX X J e ρ M P :=
  ex_of h fun F σ H Q st k => ⟨stillF F H M, ⟨hs.en st.ok st.en, still_ok st.ok, J.mono _ _ (still_same st.ok) st.gh⟩, fun d v M' F' H' p e1 o1 r1 => k d v M _ H' p.2 (free_same st.ok e1) (free_ok st.ok e1 o1) (rp_lf (free_keeps hn st.ok e1) d v p.1 r1)⟩
end
theorem law_startN {T : Tr} (hT : ∀ ns M P, NoIns M → (∀ M', P (.bl true) M') → T [.scr ns] M P) {K : PySem.W.Frag} {H : Hp} {a : Addr} {ns : List Int} (hS : SqL K H a (ns.map V.int)) : ∃ F M ds, Ok K F M H ∧ Rps K F [.ref a] ds ∧ T ds M fun d _ => d = .bl true :=
  ⟨H, fun _ => none, [.scr ns], ⟨Same.refl H, fun a d e => by cases e⟩, .cons (.scr hS) .nil, hT ns _ _ noins_z fun _ => rfl⟩
theorem law_startTN {T : TrX} {K : PySem.W.Frag} {tl : TbL} {H : Hp} {a : Addr} {ns : List Int} (h1 : tbOne K tl = true) (hS : SqL K H a (ns.map V.int)) (hT : ∀ x ∈ tl, H (ctA K x.1).2 = some (.tbl #[])) (ht : ∀ M, TbM K tl M → NoIns M → T [.scr ns] [] M (fun d _ => d = .bl true) noX) :
    ∃ F M ds, Ok K F M H ∧ Rps K F [.ref a] ds ∧ T ds [] M (fun d _ => d = .bl true) noX := by
  have nT : ∀ b, (∀ x ∈ tl, (ctA K x.1).2 ≠ b) → hid K tl H b = H b := fun b h => if_neg (fun z => by
    obtain ⟨x, hx, e⟩ := List.any_eq_true.mp z
    exact h x hx (beq_iff_eq.mp e))
  refine ⟨hid K tl H, tbMem K tl, [.scr ns], ⟨fun b u e => ?_, fun b d e => ?_⟩, .cons (.scr ?_) .nil, ht _ (tbMem_ok h1) noins_tb⟩
  · unfold hid at e
    split at e
    · cases e
    · exact e
  · obtain ⟨x, hx, rfl, rfl⟩ := tbMem_in e
    have hh : (tl.any fun y => (ctA K y.1).2 == (ctA K x.1).2) = true := List.any_eq_true.mpr ⟨x, hx, beq_iff_eq.mpr rfl⟩
    refine ⟨if_pos hh, #[], hT x hx, trivial, fun pos cv z => ?_⟩
    have z : codeAmong pos [] = some cv := z
    simp [codeAmong] at z
  · rcases hS with hS | hS
    · refine .inl ?_
      rcases hS with hS | ⟨o, hS⟩
      · exact .inl ((nT a fun x hx e => by rw [← e, hT x hx] at hS; cases hS).trans hS)
      · exact .inr ⟨o, (nT a fun x hx e => by rw [← e, hT x hx] at hS; cases hS).trans hS⟩
    · exact .inr hS
end DX
/-! instances that change: made, held still; a property set -/
namespace DX
open PySem PySem.Spec L2 PyProof.Rows StX LamX
/-- the instances that change here are of these classes -/
def InsIn (L : List Addr) (M : Mem) : Prop := ∀ a C gs, M a = some (.ins C gs) → C ∈ L
theorem insIn_z {L : List Addr} : InsIn L fun _ => none := fun _ _ _ h => nomatch h
theorem insIn_up {L : List Addr} {M : Mem} {a : Addr} {l : List D} (h : InsIn L M) : InsIn L (up M a (.lst l)) := fun b C gs q => by
  unfold up at q
  split at q
  · cases q
  · exact h b C gs q
theorem insIn_ins {L : List Addr} {M : Mem} {a C : Addr} {gs : List (Str × D)} (hc : C ∈ L) (h : InsIn L M) : InsIn L (up M a (.ins C gs)) := fun b C' gs' q => by
  unfold up at q
  split at q
  · cases q; exact hc
  · exact h b C' gs' q
theorem insIn_no {L : List Addr} {M : Mem} (h : NoIns M) : InsIn L M := fun a C gs q => absurd q (h a C gs)
mutual
/-- without lists and dicts, and without instances of these classes -/
def lfN (L : List Addr) : D → Bool
  | .non => true
  | .bl _ => true
  | .int _ => true
  | .str _ => true
  | .tup ds => lfsN L ds
  | .stup ds => lfsN L ds
  | .ins C gs => decide (C ∉ L) && lfkN L gs
  | _ => false
def lfsN (L : List Addr) : List D → Bool
  | [] => true
  | d :: ds => lfN L d && lfsN L ds
def lfkN (L : List Addr) : List (Str × D) → Bool
  | [] => true
  | (_, d) :: ds => lfN L d && lfkN L ds
end
structure KeepsN (L : List Addr) (K : PySem.W.Frag) (F F2 : Hp) : Prop where
  t : ∀ a xs, SqT K F a xs → SqT K F2 a xs
  i : ∀ a C dx fs, C ∉ L → F a = some (.ins C dx fs) → F2 a = some (.ins C dx fs)
  s : ∀ a o xs, F a = some (.frz o (.tup xs)) → F2 a = some (.frz o (.tup xs))
section
variable {K : PySem.W.Frag} {F F2 : Hp} {L : List Addr}
mutual
theorem rp_lfN (h : KeepsN L K F F2) : ∀ (d : D) (v : V), lfN L d = true → Rp K F v d → Rp K F2 v d
  | .non, _, _, .non => .non
  | .bl b, _, _, .bl _ => .bl _
  | .int i, _, _, .int _ => .int _
  | .str x, _, _, .str _ => .str _
  | .tup ds, _, q, .tup h1 h2 => .tup (h.t _ _ h1) (rps_lfN h ds _ (by rw [lfN] at q; exact q) h2)
  | .stup ds, _, q, .stup h1 h2 h3 => .stup (h.s _ _ _ h1) h2 (rps_lfN h ds _ (by rw [lfN] at q; exact q) h3)
  | .ins C gs, _, q, .ins h1 h2 => by
    rw [lfN, Bool.and_eq_true] at q
    exact .ins (h.i _ _ _ _ (of_decide_eq_true q.1) h1) (rfs_lfN h gs _ q.2 h2)
  | .lst _, _, q, _ => by simp [lfN] at q
  | .dct _, _, q, _ => by simp [lfN] at q
  | .adr _, _, q, _ => by simp [lfN] at q
  | .ty _, _, q, _ => by simp [lfN] at q
  | .scr _, _, q, _ => by simp [lfN] at q
  | .exn _ _, _, q, _ => by simp [lfN] at q
  | .tbl _, _, q, _ => by simp [lfN] at q
theorem rps_lfN (h : KeepsN L K F F2) : ∀ (ds : List D) (vs : List V), lfsN L ds = true → Rps K F vs ds → Rps K F2 vs ds
  | [], _, _, .nil => .nil
  | d :: ds, _, q, .cons h1 h2 => by
    rw [lfsN, Bool.and_eq_true] at q
    exact .cons (rp_lfN h d _ q.1 h1) (rps_lfN h ds _ q.2 h2)
theorem rfs_lfN (h : KeepsN L K F F2) : ∀ (ds : List (Str × D)) (vs : List (Str × V)), lfkN L ds = true → Rfs K F vs ds → Rfs K F2 vs ds
  | [], _, _, .nil => .nil
  | (x, d) :: ds, _, q, .cons h1 h2 => by
    rw [lfkN, Bool.and_eq_true] at q
    exact .cons (rp_lfN h d _ q.1 h1) (rfs_lfN h ds _ q.2 h2)
end
end
section
variable {X : Cx} {J : Gh} {e o : Expr} {es : List Expr} {kws : List Keyword} {ks : List Str} {ρ ρ' : DEnv} {M : Mem} {F F' H H' : Hp} {P : D → Mem → Prop} {K : PySem.W.Frag} {L : List Addr} {pos fp p : Pos} {x f : Str} {σ : L2.St} {B : Bd} {RR : Addr → List (Str × D) → DEnv → Mem → Prop}
theorem free_keepsN (hn : InsIn L M) (k : Ok K F M H) (e : Same (stillF F H M) F') : KeepsN L K F' (freeF F' M) := by
  have no : ∀ a u, F' a = some u → (∀ d, Mt K F H a d → H a = some u → M a ≠ some d) → freeF F' M a = some u := fun a u h q => by
    cases hm : M a with
    | none => rw [free_eq hm]; exact h
    | some d =>
      obtain ⟨u2, h1, h2, h3⟩ := still_kind k e hm
      rw [h] at h1; cases h1
      exact absurd hm (q d h3 h2)
  have notT : ∀ {a : Addr} {xs : List V} {d : D}, Mt K F H a d → H a ≠ some (.tup xs) := fun {a xs d} m h => by
    cases d <;> first
      | exact m.elim
      | (obtain ⟨_, q, _⟩ := m; rw [h] at q; cases q; done)
      | (obtain ⟨_, _, q, _⟩ := m; rw [h] at q; cases q; done)
  have notF : ∀ {a : Addr} {o : Obj} {v : HO} {d : D}, Mt K F H a d → H a ≠ some (.frz o v) := fun {a o v d} m h => by
    cases d <;> first
      | exact m.elim
      | (obtain ⟨_, q, _⟩ := m; rw [h] at q; cases q; done)
      | (obtain ⟨_, _, q, _⟩ := m; rw [h] at q; cases q; done)
  refine ⟨fun a xs h => ?_, fun a C dx fs hC h => ?_, fun a o xs h => ?_⟩
  · rcases h with (h | ⟨o, h⟩) | h
    · exact .inl (.inl (no a _ h fun d m z => absurd z (notT m)))
    · exact .inl (.inr ⟨o, no a _ h fun d m z => absurd z (notF m)⟩)
    · exact .inr h
  · refine no a _ h fun d m z q => ?_
    cases d <;> first
      | exact m.elim
      | (obtain ⟨_, _, y, _⟩ := m; rw [z] at y; cases y; exact hC (hn _ _ _ q); done)
      | (obtain ⟨_, y, _⟩ := m; rw [z] at y; cases y; done)
      | (obtain ⟨_, _, y, _⟩ := m; rw [z] at y; cases y; done)
  · exact no a _ h fun d m z => absurd z (notF m)
theorem ex_stillL (hn : InsIn L M) (hs : StillE M ρ ρ') (h : EX X J e ρ' Mz fun d _ => lfN L d = true ∧ P d M) : EX X J e ρ M P :=
  ex_of h fun F σ H Q st k => ⟨stillF F H M, ⟨hs.en st.ok st.en, still_ok st.ok, J.mono _ _ (still_same st.ok) st.gh⟩, fun d v M' F' H' p e1 o1 r1 => k d v M _ H' p.2 (free_same st.ok e1) (free_ok st.ok e1 o1) (rp_lfN (free_keepsN hn st.ok e1) d v p.1 r1)⟩
theorem ret1i {C : Addr} {v : D} {r : D × List (Str × D)} {l : List (Str × D)} {W : D → Mem} (e : (v, l) = r) (k : P r.1 (W (.ins C r.2))) : P v (W (.ins C l)) := by subst e; exact k
/-! ### an instance that changes later is made -/
def TMkM (C : Addr) (T : TrX) (ds zs : List D) (M : Mem) (P : D → Mem → Prop) (R : RX) : Prop := ∀ a, M a = none → T (.adr a :: ds) zs (up M a (.ins C [])) (fun d M2 => d = .non ∧ P (.adr a) M2) R
theorem run_makeM {k : Nat} {C g : Addr} {T : TrX} {pins : List (Addr × Obj)} {s : Shared} {Q : VK} {us ws : List Value} {vs xs : List V} {ds zs : List D} (Mk0 : Mk X.K C g) (G : FnX X.prog X.w X.K X.mg X.base false k g ks T) (L : Lets X J RR) (hr : Room (k + 1) X.A)
    (I : L2.Inv X pins σ H s) (st : Sts X.K J F σ H ρ M) (r : Vals vs us) (rx : Vals xs ws) (hw : zs.length = ks.length) (rd : Rps X.K F vs ds) (rz : Rps X.K F xs zs) (t : TMkM C T ds zs M P (Rof RR ρ)) (kt : Kt X.K F P Q) : wpAny (model X.prog X.w) X.A (call (.ref C) us (ks.zip ws)) (EP X pins σ Q) X.xe s := by
  obtain ⟨W, tk, hW⟩ := L.ex
  have o := st.ok
  have h1 : H (s.heap.objs.size + 1) = none := I.hok.fresh (Nat.le_succ _)
  have h0 : H s.heap.objs.size = none := I.hok.fresh (Nat.le_refl _)
  have I2 := Inv.made (C := C) I
  have o1 := o.more (o := .own (s.heap.objs.size + 1)) h0
  have h2 : upd H s.heap.objs.size (.own (s.heap.objs.size + 1)) (s.heap.objs.size + 1) = none := by rw [upd_ne (Nat.succ_ne_self _)]; exact h1
  have o2 := o1.lay (o := .ins C s.heap.objs.size []) (d := .ins C []) h2 ⟨_, [], upd_same, .nil⟩
  have hM := (o.nn h1).2
  have r2 : Vals (V.ref (s.heap.objs.size + 1) :: vs) (Value.ref (s.heap.objs.size + 1) :: us) := .cons rfl r
  refine wpAny_call (make_map (f := g) I.kIn Mk0.makes Mk0.init (beq_iff_eq.mp Mk0.fn) (codeAny_mono (G.go _ X.stack _ _ F _ (_ :: ds) zs _ (Rof RR ρ) (Value.ref (s.heap.objs.size + 1) :: us) ws _ xs (fun v H2 => v = .non ∧ Q (.ref (s.heap.objs.size + 1)) H2) (fun cls d H' => W cls d σ H') (fun z => nomatch z) (hr.make C us _) (I2.env0.make C us _) r2 rx (by rw [← rx.length, rz.length]; exact hw) o2 (.cons (.adr _) rd) rz (t _ hM) ?_ ?_) fun r s' hq' => ?_))
  · rintro d v M' F' H' ⟨rfl, q⟩ e' o' r'
    cases r'
    exact ⟨rfl, kt _ _ _ _ _ q e' o' (.adr _)⟩
  · rintro C gs M' F' H' cls d ⟨M2, sb, q⟩ e' o' x
    exact hW _ _ _ _ _ _ _ _ _ ⟨st.en.mono e', o'.sub sb, J.mono _ _ e' st.gh⟩ x q
  · cases r with
    | error e => exact tk _ _ (XE.of_call I2 (fun _ _ _ h => h) hq')
    | ok fl =>
      cases fl with
      | ret u =>
        obtain ⟨v, H', I3, rv, ev, q3⟩ := I2.after hq'
        subst ev
        exact ⟨rv, ⟨V.ref (s.heap.objs.size + 1), H', I3, rfl, q3⟩⟩
      | next => exact False.elim hq'
      | brk => exact False.elim hq'
      | cont => exact False.elim hq'
theorem ex_makeM {k : Nat} {C g : Addr} {T : TrX} (Mk0 : Mk X.K C g) (G : FnX X.prog X.w X.K X.mg X.base false k g ks T) (L : Lets X J RR) (hr : Room (k + 1) X.A) (hm : X.mg x = some (.ref C))
    (h : EvA X J pos es kws ks ρ M fun ds zs M1 => TMkM C T ds zs M1 P (Rof RR ρ)) (hg : Gl X x := by rfl) (hdb : (x == ("__debug__" : Str)) = false := by decide) : EX X J (.Call (.Name x p) es kws pos) ρ M P := by
  refine ⟨fun pins s σ H Q I ⟨F, st, kt⟩ => ?_⟩
  refine wpAny_Call_Name_kw (ld_glob I hg hm ?_ hdb)
  refine cwAny (PySem.W.keeps_K Mk0.kp) (h _ pins σ H F s _ I st fun us ws vs xs ds zs F2 M2 H2 s2 I2 e2 o2 r rx rd rz hl t => ⟨I2.kIn, ?_⟩)
  exact run_makeM Mk0 G L hr I2 (st.to e2 o2) r rx hl rd rz t (kt.to e2)
/-- o.f = e, f a property with a setter -/
theorem g1_setProp {k : Nat} {C q g : Addr} {T : TrX} (L : Lets X J RR) (c : Cls X.K C) (hp : PSetOf X.K C f q g) (G : FnX X.prog X.w X.K X.mg X.base false k g [] T) (hr : Room (k + 2) X.A)
    (h : EX X J e ρ M fun y M1 => EX X J o ρ M1 fun d M2 => ∃ gs, Is M2 d C gs ∧ T [d, y] [] M2 (fun _ M3 => B.nx ρ M3) (Rof RR ρ))
    (hs : swapsWith e (some (.Attribute o f fp)) pos.line X.env = pure false := by rfl) : G1 X J (.Assign [.Attribute o f fp] e pos) ρ M B := by
  refine ⟨fun pins s σ H D I ⟨F, st, kd⟩ => ?_⟩
  refine plainObj_wpAny_Assign_Attribute (thn ((pe_any (X := X) (e := e)).run pins s σ H (fun v H1 => ∃ F1 M1 y, Same F F1 ∧ Ok X.K F1 M1 H1 ∧ Rp X.K F1 v y ∧ EX X J o ρ M1 fun d M2 => ∃ gs, Is M2 d C gs ∧ T [d, y] [] M2 (fun _ M3 => B.nx ρ M3) (Rof RR ρ)) I (h.go st fun y v M1 F1 H1 q e1 o1 r1 => ⟨F1, M1, y, e1, o1, r1, q⟩)) fun u s1 ⟨v, H1, I1, rv, F1, M1, y, e1, o1, rd1, q⟩ => ?_) hs
  refine thn ((pe_any (X := X) (e := o)).run pins s1 σ H1 (fun w H2 => ∃ F2 M2 d, Same F1 F2 ∧ Ok X.K F2 M2 H2 ∧ Rp X.K F2 w d ∧ ∃ gs, Is M2 d C gs ∧ T [d, y] [] M2 (fun _ M3 => B.nx ρ M3) (Rof RR ρ)) I1 (q.go (st.to e1 o1) fun d w M2 F2 H2 q2 e2 o2 r2 => ⟨F2, M2, d, e2, o2, r2, q2⟩)) fun ov s2 ⟨w, H2, I2, rw_, F2, M2, d, e2, o2, rd2, gs, hi, t⟩ => ?_
  obtain ⟨q1, dx, fs, rfl, h1, _⟩ := hi.get o2 rd2
  obtain rfl : ov = Value.ref q1 := rw_
  obtain ⟨mA, O, _, _, _, _⟩ := ins_get I2.hok h1
  obtain ⟨od, J0, _⟩ := O.look
  obtain ⟨m, hF⟩ := I2.fr
  obtain ⟨a0, rest, hrec⟩ := hp.rec_
  obtain ⟨W, tk, hW⟩ := L.ex
  have st2 := (st.to e1 o1).to e2 o2
  have I3 := I2.tok (s2.toks + 1)
  refine PySem.W.set_prop hF I2.ok.mod.kin J0 c.sa c.po hp.tak hp.ty hrec ?_
  refine codeAny_mono (G.go X.A.in1.in1 X.stack { s2 with toks := s2.toks + 1 } H2 F2 M2 [d, y] [] (fun _ M3 => B.nx ρ M3) (Rof RR ρ) [.ref q1, u] [] [.ref q1, v] [] (fun _ H' => D.nx σ H') (fun cls d H' => W cls d σ H') (fun z => nomatch z) hr.in1.in1 I3.env0.in1.in1 (.cons rfl (.cons rv .nil)) .nil rfl o2 (.cons rd2 (.cons (rd1.mono e2) .nil)) .nil t (fun d v M' F' H' q e o r => kd.nx F' σ H' ρ M' q ((e1.trans e2).trans e) (st2.en.mono e) o) (fun C' gs M' F' H' cls d q e o x => ?_)) fun res s' end_ => ?_
  · obtain ⟨M3, sb, q⟩ := q
    exact hW _ _ _ _ _ _ _ _ _ ⟨st2.en.mono e, o.sub sb, J.mono _ _ e st2.gh⟩ x q
  · match res, end_ with
    | .error _, end_ => exact tk _ _ (XE.of_call I3 (fun _ _ _ h => h) end_)
    | .ok (.ret _), end_ =>
      obtain ⟨v', H', I4, _, z⟩ := I3.after end_
      exact ⟨σ, H', I4, z⟩
    | .ok .next, end_ => exact end_.elim
    | .ok .brk, end_ => exact end_.elim
    | .ok .cont, end_ => exact end_.elim
end
end DX
/-! one instance that changes held still, while lists change -/
namespace DX
open PySem PySem.Spec L2 PyProof.Rows StX LamX
mutual
/-- no instance of these classes within -/
def noI (L : List Addr) : D → Bool
  | .tup ds => noIs L ds
  | .lst ds => noIs L ds
  | .stup ds => noIs L ds
  | .ins C gs => decide (C ∉ L) && noIk L gs
  | .dct kvs => noId L kvs
  | .exn _ gs => noIk L gs
  | _ => true
def noIs (L : List Addr) : List D → Bool
  | [] => true
  | d :: ds => noI L d && noIs L ds
def noIk (L : List Addr) : List (Str × D) → Bool
  | [] => true
  | (_, d) :: ds => noI L d && noIk L ds
def noId (L : List Addr) : List (Key × D) → Bool
  | [] => true
  | (_, d) :: ds => noI L d && noId L ds
end
structure KeepsP (L : List Addr) (F F2 : Hp) : Prop where
  k : ∀ a u, F a = some u → (∀ C dx fs, u = .ins C dx fs → C ∉ L) → F2 a = some u
section
variable {K : PySem.W.Frag} {F F2 : Hp} {L : List Addr}
theorem KeepsP.rd (h : KeepsP L F F2) {a : Addr} {u : HO} (hu : ∀ C dx fs, u ≠ .ins C dx fs) (r : Rd F a u) : Rd F2 a u := by
  rcases r with r | ⟨o, r⟩
  · exact .inl (h.k _ _ r fun C dx fs e => absurd e (hu C dx fs))
  · exact .inr ⟨o, h.k _ _ r fun C dx fs e => by cases e⟩
theorem KeepsP.sl (h : KeepsP L F F2) {a : Addr} {xs : List V} (r : SqL K F a xs) : SqL K F2 a xs := by
  rcases r with r | r
  · exact .inl (h.rd (fun _ _ _ e => by cases e) r)
  · exact .inr r
theorem KeepsP.st (h : KeepsP L F F2) {a : Addr} {xs : List V} (r : SqT K F a xs) : SqT K F2 a xs := by
  rcases r with r | r
  · exact .inl (h.rd (fun _ _ _ e => by cases e) r)
  · exact .inr r
mutual
theorem rp_noI (h : KeepsP L F F2) : ∀ (d : D) (v : V), noI L d = true → Rp K F v d → Rp K F2 v d
  | .non, _, _, .non => .non
  | .bl b, _, _, .bl _ => .bl _
  | .int i, _, _, .int _ => .int _
  | .str x, _, _, .str _ => .str _
  | .adr a, _, _, .adr _ => .adr _
  | .ty n, _, _, .ty _ => .ty _
  | .scr ns, _, _, .scr r => .scr (h.sl r)
  | .tup ds, _, q, .tup h1 h2 => .tup (h.st h1) (rps_noI h ds _ (by rw [noI] at q; exact q) h2)
  | .lst ds, _, q, .lst h1 h2 => .lst (h.k _ _ h1 fun _ _ _ e => by cases e) (rps_noI h ds _ (by rw [noI] at q; exact q) h2)
  | .stup ds, _, q, .stup h1 h2 h3 => .stup (h.k _ _ h1 fun _ _ _ e => by cases e) h2 (rps_noI h ds _ (by rw [noI] at q; exact q) h3)
  | .ins C gs, _, q, .ins h1 h2 => by
    rw [noI, Bool.and_eq_true] at q
    exact .ins (h.k _ _ h1 fun _ _ _ e => by cases e; exact of_decide_eq_true q.1) (rfs_noI h gs _ q.2 h2)
  | .dct kvs, _, q, .dct h1 h2 => .dct (h.k _ _ h1 fun _ _ _ e => by cases e) (rks_noI h kvs _ (by rw [noI] at q; exact q) h2)
  | .exn C gs, _, q, .exn h1 h2 h3 => .exn (h.k _ _ h1 fun _ _ _ e => by cases e) (h2.imp id fun ⟨dd, e, r⟩ => ⟨dd, e, h.k _ _ r fun _ _ _ e => by cases e⟩) (rfs_noI h gs _ (by rw [noI] at q; exact q) h3)
  | .tbl _, _, _, r => nomatch r
theorem rps_noI (h : KeepsP L F F2) : ∀ (ds : List D) (vs : List V), noIs L ds = true → Rps K F vs ds → Rps K F2 vs ds
  | [], _, _, .nil => .nil
  | d :: ds, _, q, .cons h1 h2 => by
    rw [noIs, Bool.and_eq_true] at q
    exact .cons (rp_noI h d _ q.1 h1) (rps_noI h ds _ q.2 h2)
theorem rfs_noI (h : KeepsP L F F2) : ∀ (ds : List (Str × D)) (vs : List (Str × V)), noIk L ds = true → Rfs K F vs ds → Rfs K F2 vs ds
  | [], _, _, .nil => .nil
  | (x, d) :: ds, _, q, .cons h1 h2 => by
    rw [noIk, Bool.and_eq_true] at q
    exact .cons (rp_noI h d _ q.1 h1) (rfs_noI h ds _ q.2 h2)
theorem rks_noI (h : KeepsP L F F2) : ∀ (ds : List (Key × D)) (vs : List (Key × V)), noId L ds = true → Rks K F vs ds → Rks K F2 vs ds
  | [], _, _, .nil => .nil
  | (x, d) :: ds, _, q, .cons h1 h2 => by
    rw [noId, Bool.and_eq_true] at q
    exact .cons (rp_noI h d _ q.1 h1) (rks_noI h ds _ q.2 h2)
end
end
/-- what changes here holds no instance of these classes -/
def NoIc (L : List Addr) (M : Mem) : Prop := ∀ a d, M a = some d → (∃ ds, d = .lst ds ∧ noIs L ds = true) ∨ ∃ q, d = .tbl q
def Bare (M : Mem) : Prop := ∀ a d, M a = some d → ∃ q, d = .tbl q
theorem bare_no {M : Mem} (h : Bare M) : NoIns M := fun a C gs q => by
  obtain ⟨_, e⟩ := h _ _ q
  cases e
theorem noic_bare {L : List Addr} {M : Mem} (h : Bare M) : NoIc L M := fun a d q => .inr (h a d q)
theorem noic_up {L : List Addr} {M : Mem} {a : Addr} {l : List D} (h : NoIc L M) (hl : noIs L l = true) : NoIc L (up M a (.lst l)) := fun b d q => by
  unfold up at q
  split at q
  · cases q; exact .inl ⟨l, rfl, hl⟩
  · exact h b d q
theorem bare_tb {K : PySem.W.Frag} {tl : TbL} : Bare (tbMem K tl) := fun a d q => by
  obtain ⟨x, _, _, e⟩ := tbMem_in q
  exact ⟨_, e⟩
section
variable {X : Cx} {J : Gh} {e : Expr} {ρ : DEnv} {M M0 : Mem} {P : D → Mem → Prop} {L : List Addr}
/-- M1 is M0 and what stands at p -/
def InsX (p : Addr) (M0 M1 : Mem) : Prop := ∀ a, a ≠ p → M1 a = M0 a
theorem insx_here {M0 : Mem} {p : Addr} {d : D} : InsX p M0 (up M0 p d) := fun a h => up_ne h
theorem insx_keep {M0 M1 : Mem} {p a : Addr} {d : D} (h : InsX p M0 M1) : InsX p (up M0 a d) (up M1 a d) := fun b hb => by
  unfold up
  split
  · rfl
  · exact h b hb
def rmF (F : Hp) (p : Addr) : Hp := fun a => if a = p then none else F a
theorem ex_stillP {p : Addr} {C : Addr} {gs : List (Str × D)} (i : Nat) (hi : DX.look ρ i = some (.adr p)) (hp : M p = some (.ins C gs)) (hC : C ∈ L) (sx : SubX p M0 M)
    (h : EX X J e (DX.put ρ i (.ins C gs)) M0 fun v M1 => noI L v = true ∧ NoIc L M1 ∧ ∃ M2, InsX p M1 M2 ∧ M2 p = some (.ins C gs) ∧ P v M2) : EX X J e ρ M P :=
  ex_of h fun F σ H Q st k => by
    obtain ⟨hF, hm⟩ := st.ok.mt p _ hp
    obtain ⟨u, hu⟩ := hm.there
    obtain ⟨s1, o4⟩ := st.ok.frz sx hp hu
    refine ⟨_, ⟨(st.en.mono s1).frz hi (hm.rp hu s1 upd_same rfl), o4, J.mono _ _ s1 st.gh⟩, fun d v M1 F1 H1 q e1 o1 r1 => ?_⟩
    obtain ⟨q1, q2, M2, q3, q4, q5⟩ := q
    have hF1 : F1 p = some u := e1 _ _ upd_same
    have hH1 : H1 p = some u := o1.ex _ _ hF1
    have hm' := hm
    obtain ⟨dx, fs, hx, _⟩ := hm'
    have hu2 : u = .ins C dx fs := by rw [hu] at hx; exact Option.some.inj hx
    have kp : KeepsP L F1 (rmF F1 p) := ⟨fun a w h1 h2 => by
      unfold rmF
      rw [if_neg (fun z => by
        subst z
        rw [hF1] at h1
        cases h1
        exact h2 _ _ _ hu2 hC)]
      exact h1⟩
    have sm : Same F (rmF F1 p) := fun a w h1 => by
      have ne : a ≠ p := fun z => by rw [z, hF] at h1; cases h1
      unfold rmF
      rw [if_neg ne]
      exact e1 _ _ (s1 _ _ h1)
    refine k d v M2 (rmF F1 p) H1 q5 sm ⟨fun a w h1 => ?_, fun a w h1 => ?_⟩ (rp_noI kp d v q1 r1)
    · unfold rmF at h1
      split at h1
      · cases h1
      · exact o1.ex _ _ h1
    · by_cases ea : a = p
      · subst ea
        rw [q4] at h1
        cases h1
        exact ⟨by unfold rmF; rw [if_pos rfl], (st.ok.mt a _ hp).2.mono sm (hH1.trans hu.symm)⟩
      · have h2 : M1 a = some w := (q3 a ea).symm.trans h1
        obtain ⟨z1, z2⟩ := o1.mt _ _ h2
        refine ⟨by unfold rmF; rw [if_neg ea]; exact z1, ?_⟩
        rcases q2 _ _ h2 with ⟨ds, rfl, hn⟩ | ⟨qq, rfl⟩
        · obtain ⟨ys, y1, y2⟩ := z2
          exact ⟨ys, y1, rps_noI kp ds ys hn y2⟩
        · obtain ⟨ps, a1, a2, a3⟩ := z2
          exact ⟨ps, a1, a2, fun pos cv z => by
            obtain ⟨c, g1, g2⟩ := a3 pos cv z
            exact ⟨c, g1, kp.k _ _ g2 fun _ _ _ e => by cases e⟩⟩
end
section
variable {X : Cx} {M : Mem} {P : D → Mem → Prop}
/-- isinstance of an instance of a class with another class -/
theorem cd_isiS {d : D} {C C' : Addr} {gs : List (Str × D)} {b : Bool} (c : Cls X.K C') (ic : IsiC X.K C') (hk : PySem.W.kitOne X.K (.ref C') (.ref C) = some b) (hi : Is M d C' gs) (q : P (.bl b) M) : CD X (.builtin "isinstance") [d, .adr C] M P :=
  ⟨_, call_isi, fun F H vs Q o r k => by
    cases r with
    | cons h1 r =>
      cases r with
      | cons h2 r =>
        cases r
        cases h2
        obtain ⟨a, dx, fs, rfl, e, _⟩ := hi.get o h1
        exact ⟨_, _, .ref C', .ref C, b, rfl, .own C, .base (.ins e c ic.ha ic.hn ic.htk ic.hm), hk, k.here q o (.bl _)⟩⟩
end
theorem law_startTB {T : TrX} {K : PySem.W.Frag} {tl : TbL} {H : Hp} {a : Addr} {ns : List Int} (h1 : tbOne K tl = true) (hS : SqL K H a (ns.map V.int)) (hT : ∀ x ∈ tl, H (ctA K x.1).2 = some (.tbl #[])) (ht : ∀ M, TbM K tl M → Bare M → T [.scr ns] [] M (fun d _ => d = .bl true) noX) :
    ∃ F M ds, Ok K F M H ∧ Rps K F [.ref a] ds ∧ T ds [] M (fun d _ => d = .bl true) noX := by
  have nT : ∀ b, (∀ x ∈ tl, (ctA K x.1).2 ≠ b) → hid K tl H b = H b := fun b h => if_neg (fun z => by
    obtain ⟨x, hx, e⟩ := List.any_eq_true.mp z
    exact h x hx (beq_iff_eq.mp e))
  refine ⟨hid K tl H, tbMem K tl, [.scr ns], ⟨fun b u e => ?_, fun b d e => ?_⟩, .cons (.scr ?_) .nil, ht _ (tbMem_ok h1) bare_tb⟩
  · unfold hid at e
    split at e
    · cases e
    · exact e
  · obtain ⟨x, hx, rfl, rfl⟩ := tbMem_in e
    have hh : (tl.any fun y => (ctA K y.1).2 == (ctA K x.1).2) = true := List.any_eq_true.mpr ⟨x, hx, beq_iff_eq.mpr rfl⟩
    refine ⟨if_pos hh, #[], hT x hx, trivial, fun pos cv z => ?_⟩
    have z : codeAmong pos [] = some cv := z
    simp [codeAmong] at z
  · rcases hS with hS | hS
    · refine .inl ?_
      rcases hS with hS | ⟨o, hS⟩
      · exact .inl ((nT a fun x hx e => by rw [← e, hT x hx] at hS; cases hS).trans hS)
      · exact .inr ⟨o, (nT a fun x hx e => by rw [← e, hT x hx] at hS; cases hS).trans hS⟩
    · exact .inr hS
end DX
/-! one instance that changes held still for a whole statement -/
namespace DX
open PySem PySem.Spec L2 PyProof.Rows StX LamX
/-- besides: what stands at p is seen as d -/
def Gh.hold (J : Gh) (K : PySem.W.Frag) (p : Addr) (d : D) : Gh := ⟨fun F => J.p F ∧ Rp K F (.ref p) d, fun _ _ e h => ⟨J.mono _ _ e h.1, h.2.mono e⟩⟩
section
variable {X : Cx} {J : Gh} {ρ ρ' : DEnv} {M M0 : Mem} {P : D → Mem → Prop} {L : List Addr} {x : Str} {pos : Pos} {K : PySem.W.Frag} {F F2 : Hp} {σ : L2.St} {st : Stmt} {rest : List Stmt} {B : Bd}
theorem ex_varH {p : Addr} {d : D} (i : Nat) (h : look ρ i = some (.adr p)) (q : P d M) (hN : X.N[i]? = some x := by rfl) (hv : Vis X.env.scope x := by first | exact Or.inl rfl | exact Or.inr (Or.inl rfl) | exact Or.inr (Or.inr rfl)) (hd : (x == ("__debug__" : Str)) = false := by decide)
    (hcd : (x == ("__classdict__" : Str)) = false := by decide) : EX X (J.hold X.K p d) (.Name x pos) ρ M P :=
  ex_of (pe_var hN hv hd hcd) fun F σ H Q st k => by
    obtain ⟨v, h1, h2⟩ := st.en.look h
    cases h2
    exact ⟨_, h1, k.here q st.ok st.gh.2⟩
/-- names behind the statement: their values hold no instance of these classes, or are forgotten -/
inductive NoE (L : List Addr) : DEnv → DEnv → Prop
  | nil : NoE L [] []
  | keep {d : D} {ρ ρ' : DEnv} : noI L d = true → NoE L ρ ρ' → NoE L (some d :: ρ) (some d :: ρ')
  | drop {d : Option D} {ρ ρ' : DEnv} : NoE L ρ ρ' → NoE L (d :: ρ) (none :: ρ')
theorem NoE.en (kp : KeepsP L F F2) : ∀ {ρ ρ' : DEnv}, NoE L ρ ρ' → ∀ {σ : L2.St}, En K F σ ρ → En K F2 σ ρ'
  | _, _, .nil, _, .nil => .nil
  | _, _, .keep hd h, _, .cons x r => .cons (fun y q => by
      obtain ⟨z, a, b⟩ := x y q
      cases q
      exact ⟨z, a, rp_noI kp _ z hd b⟩) (h.en kp r)
  | _, _, .drop h, _, .cons x r => .cons (fun y q => nomatch q) (h.en kp r)
/-- what comes behind -/
abbrev HoldNx (X : Cx) (J : Gh) (L : List Addr) (p C : Addr) (gs : List (Str × D)) (rest : List Stmt) (B : Bd) (ρ' : DEnv) (M' : Mem) : Prop := ∃ ρ2, NoE L ρ' ρ2 ∧ NoIc L M' ∧ ∃ M2, InsX p M' M2 ∧ M2 p = some (.ins C gs) ∧ GX X J rest ρ2 M2 B
theorem gx_hold {p C : Addr} {gs : List (Str × D)} (hp : M p = some (.ins C gs)) (hC : C ∈ L) (sx : SubX p M0 M)
    (h : G1 X (J.hold X.K p (.ins C gs)) st ρ M0 ⟨HoldNx X J L p C gs rest B, fun d M' => noI L d = true ∧ NoIc L M' ∧ B.rt d M', fun _ _ => False, fun _ _ => False⟩) : GX X J (st :: rest) ρ M B :=
  gx_of (pss_cons ps_any pss_any) fun F σ H E s k => by
    obtain ⟨hF, hm⟩ := s.ok.mt p _ hp
    obtain ⟨u, hu⟩ := hm.there
    obtain ⟨s1, o4⟩ := s.ok.frz sx hp hu
    have hm' := hm
    obtain ⟨dx, fs, hx, _⟩ := hm'
    have hu2 : u = .ins C dx fs := by rw [hu] at hx; exact Option.some.inj hx
    have kp : ∀ {F1 : Hp}, Same (upd F p u) F1 → KeepsP L F1 (rmF F1 p) := fun {F1} e1 => ⟨fun a w h1 h2 => by
      unfold rmF
      rw [if_neg (fun z => by
        subst z
        rw [e1 _ _ upd_same] at h1
        cases h1
        exact h2 _ _ _ hu2 hC)]
      exact h1⟩
    have sm : ∀ {F1 : Hp}, Same (upd F p u) F1 → Same F (rmF F1 p) := fun {F1} e1 a w h1 => by
      have ne : a ≠ p := fun z => by rw [z, hF] at h1; cases h1
      unfold rmF
      rw [if_neg ne]
      exact e1 _ _ (s1 _ _ h1)
    have ex : ∀ {F1 H1 : Hp}, Same F1 H1 → Same (rmF F1 p) H1 := fun e a w h1 => by
      unfold rmF at h1
      split at h1
      · cases h1
      · exact e _ _ h1
    have mt : ∀ {F1 H1 : Hp} {M1 : Mem}, Same (upd F p u) F1 → Ok X.K F1 M1 H1 → NoIc L M1 → ∀ a w, a ≠ p → M1 a = some w → rmF F1 p a = none ∧ Mt X.K (rmF F1 p) H1 a w := fun {F1 H1 M1} e1 o1 q2 a w ea h2 => by
      obtain ⟨z1, z2⟩ := o1.mt _ _ h2
      refine ⟨by unfold rmF; rw [if_neg ea]; exact z1, ?_⟩
      rcases q2 _ _ h2 with ⟨ds, rfl, hn⟩ | ⟨qq, rfl⟩
      · obtain ⟨ys, y1, y2⟩ := z2
        exact ⟨ys, y1, rps_noI (kp e1) ds ys hn y2⟩
      · obtain ⟨ps, a1, a2, a3⟩ := z2
        exact ⟨ps, a1, a2, fun pos cv z => by
          obtain ⟨c, g1, g2⟩ := a3 pos cv z
          exact ⟨c, g1, (kp e1).k _ _ g2 fun _ _ _ e => by cases e⟩⟩
    have np : ∀ {F1 H1 : Hp} {M1 : Mem}, Same (upd F p u) F1 → Ok X.K F1 M1 H1 → ∀ a w, M1 a = some w → a ≠ p := fun {F1 H1 M1} e1 o1 a w h2 z => by
      have := (o1.mt _ _ h2).1
      rw [z, e1 _ _ upd_same] at this
      cases this
    exact h.go ⟨s.en.mono s1, o4, ⟨J.mono _ _ s1 s.gh, hm.rp hu s1 upd_same rfl⟩⟩
      ⟨fun F1 σ' H1 ρ1 M1 q e1 en o1 => by
        obtain ⟨ρ2, q1, q2, M2, q3, q4, q5⟩ := q
        have hF1 : F1 p = some u := e1 _ _ upd_same
        have hH1 : H1 p = some u := o1.ex _ _ hF1
        refine GX.go q5 ⟨q1.en (kp e1) en, ⟨ex o1.ex, fun a w h1 => ?_⟩, J.mono _ _ (sm e1) s.gh⟩ (k.to (sm e1))
        by_cases ea : a = p
        · subst ea
          rw [q4] at h1
          cases h1
          exact ⟨by unfold rmF; rw [if_pos rfl], hm.mono (sm e1) (hH1.trans hu.symm)⟩
        · exact mt e1 o1 q2 a w ea ((q3 a ea).symm.trans h1),
      fun d v M1 F1 H1 q e1 o1 r1 => k.rt d v M1 (rmF F1 p) H1 q.2.2 (sm e1) ⟨ex o1.ex, fun a w h1 => mt e1 o1 q.2.1 a w (np e1 o1 a w h1) h1⟩ (rp_noI (kp e1) d v q.1 r1),
      fun _ _ _ _ _ q => q.elim, fun _ _ _ _ _ q => q.elim⟩
end
/-! ### a slice of a list, a list that changes -/
section
variable {X : Cx} {M : Mem} {P : D → Mem → Prop} {x dx : D}
theorem sd_listM {ds : List D} {l u : Option Int} (s : Sl M x ds) (p : ∀ q, M q = none → P (.adr q) (up M q (.lst (cutD ds l u)))) : SD X x l u M P :=
  ⟨_, sl_list, fun F H v Q o rx k => by
    obtain ⟨a, xs, rfl, h1, r1⟩ := s.get o rx
    exact ⟨a, xs, rfl, SqL.of h1, fun q hq => k _ _ _ _ _ (p q (o.nn hq).2) (Same.refl _) (o.lay hq ⟨_, upd_same, cut_of r1 l u⟩) (.adr q)⟩⟩
def lCut (d : D) (l u : Option Int) : Option (List D) := match d with
  | .lst ds => some (cutD ds l u)
  | _ => none
theorem sd_lCut {l u : Option Int} {z : List D} (w : Vw M x dx) (h : lCut dx l u = some z) (p : ∀ q, M q = none → P (.adr q) (up M q (.lst z))) : SD X x l u M P := by
  unfold lCut at h
  split at h
  · cases h; exact sd_listM w.sl p
  · cases h
end
/-! ### instances that a def makes and gives -/
section
variable {X : Cx} {J : Gh} {e o : Expr} {es : List Expr} {kws : List Keyword} {ks : List Str} {ρ : DEnv} {M : Mem} {P : D → Mem → Prop} {pos : Pos} {RR : Addr → List (Str × D) → DEnv → Mem → Prop}
theorem ex_frzAI (h : EX X J e ρ M fun x M1 => ∃ p C gs M0, x = .adr p ∧ M1 p = some (.ins C gs) ∧ SubX p M0 M1 ∧ P (.ins C gs) M0) : EX X J e ρ M P :=
  ex_of h fun F σ H Q st k => ⟨F, st, fun d v M' F' H' q e1 o1 r1 => by
    obtain ⟨p, C, gs, M0, rfl, hp, sx, q⟩ := q
    cases r1
    obtain ⟨u, hu⟩ := (o1.mt p _ hp).2.there
    obtain ⟨s1, o4⟩ := o1.frz sx hp hu
    exact k _ _ M0 _ _ q (e1.trans s1) o4 ((o1.mt p _ hp).2.rp hu s1 upd_same rfl)⟩
theorem ex_makeMV {k : Nat} {C g : Addr} {T : TrX} (Mk0 : Mk X.K C g) (G : FnX X.prog X.w X.K X.mg X.base false k g ks T) (L : Lets X J RR) (hr : Room (k + 1) X.A)
    (h : EX X J o ρ M fun d M1 => d = .adr C ∧ EvA X J pos es kws ks ρ M1 fun ds zs M2 => TMkM C T ds zs M2 P (Rof RR ρ))
    (ht : eval (.Call o es kws pos) X.env = (do callWith pos (← eval o X.env) [] (backTo pos (starEach es X.env)) (backToKw pos (keywordEach kws X.env))) := by rfl) : EX X J (.Call o es kws pos) ρ M P := by
  refine ⟨fun pins s σ H Q I ⟨F, st, kt⟩ => ?_⟩
  rw [ht]
  refine wpAny_bind (thn ((pe_any (X := X) (e := o)).run pins s σ H (fun v H1 => ∃ F1 M1 d, Same F F1 ∧ Ok X.K F1 M1 H1 ∧ Rp X.K F1 v d ∧ d = .adr C ∧ EvA X J pos es kws ks ρ M1 fun ds zs M2 => TMkM C T ds zs M2 P (Rof RR ρ)) I (h.go st fun d v M1 F1 H1 q e1 o1 r1 => ⟨F1, M1, d, e1, o1, r1, q⟩)) fun u s1 ⟨y, H1, I1, ry, F1, M1, d, e1, o1, rd, hd, q⟩ => ?_)
  subst hd
  cases rd
  obtain rfl : u = Value.ref C := ry
  refine cwAny (PySem.W.keeps_K Mk0.kp) (q _ pins σ H1 F1 s1 _ I1 (st.to e1 o1) fun us ws vs xs ds zs F2 M2 H2 s2 I2 e2 o2 r rx rd rz hl t => ⟨I2.kIn, ?_⟩)
  exact run_makeM Mk0 G L hr I2 ((st.to e1 o1).to e2 o2) r rx hl rd rz t (kt.to (e1.trans e2))
end
end DX
/-! texts cut at a sign, numbers read from texts, targets with a star -/
namespace DX
open PySem PySem.Spec L2 PyProof.Rows StX
open Sem (wp)
/-! ### a walk from its k-th turn on -/
theorem walks_drop {prog : Program} {w : World} {A : Around} {I : Addr} {fp wr : List Addr} {G : Array GenState → Array GenState → Prop} {n : Nat} {P : Nat → Value → Prop} {St : Nat → Shared → Prop} (W : WalksS prog w A I fp wr G n P St) {k : Nat} (hk : k ≤ n) :
    WalksS prog w A I fp wr G (n - k) (fun i => P (k + i)) (fun i => St (k + i)) where
  sub := W.sub
  grefl := W.grefl
  gtrans := W.gtrans
  frame := fun i s h' tk st ht hh => W.frame (k + i) s h' tk st ht hh
  item := fun i s Q E hi st hQ => W.item (k + i) s Q E (by omega) st fun v s' hP st' hm => hQ v s' hP st' hm
  done := fun s Q E st hQ => W.done s Q E (by rw [show k + (n - k) = n by omega] at st; exact st) hQ
  self := fun i s Q E st hQ => W.self (k + i) s Q E st hQ
section
variable {prog : Program} {w : World} {A : Around} {E : Value → Shared → Prop} {s : Shared}
theorem star_items {l : Addr} {items : Array Value} {k : Nat} {Q : List Value → Shared → Prop} (hh : A.handled = none) (hl : s.heap.IsList l items) (hk : k ≤ items.size) (hz : items.size ≤ sizeLine)
    (hQ : ∀ s' : Shared, (∀ b o, s.heap.get? b = some o → s'.heap.get? b = some o) → s'.gens = s.gens → s'.drawn = s.drawn → s'.os = s.os →
      Q (items.toList.take k ++ [.ref s'.heap.objs.size]) { s' with heap := s'.heap.push { cls := .type "list", data := .seq (items.toList.drop k).toArray } }) : wpAny (model prog w) A (unpackItems (.ref l) (k + 1) (some k)) Q E s := by
  have hlt : l ≠ s.heap.objs.size := by obtain ⟨o, ho, _⟩ := hl; exact Nat.ne_of_lt (Heap.lt_size ho)
  unfold unpackItems
  refine wpAny_bind ?_
  unfold notIterableAtAll
  refine wpAny_bind (wpAny_specialOf hl.typeIs slot_list_iter.lookup ?_)
  refine wpAny_pure ?_
  simp only [Bool.false_eq_true, if_false]
  refine wpAny_bind (wpAny_holding (wpAny_pyIter_list hl ?_))
  refine wpAny_bind (wpAny_holding (PySem.W.kun_draw hlt k 0 _ _ ⟨_, Heap.get?_push_size _ rfl, rfl, rfl⟩ (hl.push _) (by omega) fun h₁ hit₁ hs₁ => ?_))
  rw [Nat.zero_add] at hit₁
  rw [List.drop_zero]
  have htl : (items.toList.take k).length = k := by rw [List.length_take]; simp; omega
  rw [htl]
  rw [if_neg (by omega)]
  have hl₁ : h₁.IsList l items := (hl.push _).extBut hs₁.extBut hlt
  have old : ∀ b o, s.heap.get? b = some o → h₁.get? b = some o := fun b o e => hs₁.extBut b o (Nat.ne_of_lt (Heap.lt_size e)) (Heap.get?_push_of_some _ e)
  have W := walks_drop (Walks.list (prog := prog) (w := w) (A := A.in1) hh s.heap.objs.size l hlt items).toS hk
  refine wpAny_bind (wpAny_holding (wpAny_collect_iter (s := { s with heap := h₁ }) (T := "list_iterator") (.inr (.inr (.inl rfl))) W (fun i s st => ?_) ?_ (fun b hb => ?_) ?_ (fun s' acc hm ha => ?_) (by omega)))
  · obtain ⟨o, ho, hc, _⟩ := st.1
    exact ⟨o, ho, hc⟩
  · exact ⟨hit₁, hl₁⟩
  · rcases (show b = s.heap.objs.size ∨ b = l by simpa using hb) with rfl | rfl
    · obtain ⟨o, ho, _⟩ := hit₁; exact Heap.lt_size ho
    · obtain ⟨o, ho, _⟩ := hl₁; exact Heap.lt_size ho
  · simp
  · have eacc : acc.toList = items.toList.drop k := by
      apply List.ext_getElem?
      intro i
      have hs := ha.1
      rw [Array.getElem?_toList, List.getElem?_drop, Array.getElem?_toList]
      by_cases hi : i < acc.size
      · have e : acc[i]? = some acc[i] := by simp [hi]
        rw [e, ha.2 i _ e]
      · rw [Array.getElem?_eq_none (by omega), Array.getElem?_eq_none (by omega)]
    have hal : acc.toList.length = acc.size := by simp
    have e0 : k + 1 - 1 - k = 0 := by omega
    try simp only [e0]
    rw [if_neg (by omega)]
    simp only [Nat.sub_zero]
    rw [List.take_of_length_le (Nat.le_refl _), List.drop_of_length_le (Nat.le_refl _)]
    refine wpAny_bind (wpAny_newList (hsz := by have := ha.1; omega) ?_)
    refine wpAny_pure ?_
    rw [List.append_nil, eacc]
    refine hQ s' (fun b o e => hm.heap b o (fun hb => ?_) (old b o e)) hm.gens hm.drawn hm.os
    rcases (show b = s.heap.objs.size by simpa using hb) with rfl
    exact Nat.lt_irrefl _ (Heap.lt_size e)
end
def gStar (X : Cx) (k : Nat) (t : TGs) : TG := fun v σ H Q => ∃ a xs, v = .ref a ∧ SqL X.K H a xs ∧ k ≤ xs.length ∧ ∀ q, H q = none → t (xs.take k ++ [.ref q]) σ (upd H q (.lst (xs.drop k))) Q
section
variable {X : Cx} {pos : Pos} {es : List Expr}
theorem pg_star {k kk : Nat} {t : TGs} (hc : X.calm = true) (h : PGs X es t) (hn : (assignEach es X.env).length = k + 1 := by rfl) (hst : (assignEach es X.env).findIdx? (·.1) = some k := by rfl) : PG X (.Tuple es kk pos) (gStar X k t) := by
  refine ⟨fun pins s σ H v u Q I r hw => ?_⟩
  obtain ⟨a, xs, e1, hq, hl, hw⟩ := hw
  subst e1
  cases r
  obtain ⟨its, rv, pl, hz⟩ := I.list hq
  have hlen := rv.length
  rw [PyProof.Rows.assign_Tuple]
  refine wpAny_bind (wpAny_standAt ?_)
  unfold unpack
  rw [hn, hst]
  refine wpAny_bind (wpAny_holding (star_items (I.ok.hd hc) pl.isList (by simp; omega) (by simp; omega) fun s' keep hg hd ho => ?_))
  have I1 : Inv X pins σ H { s with heap := s'.heap, toks := s'.toks } := I.kept keep
  have es' : ({ s with heap := s'.heap, toks := s'.toks } : Shared) = s' := by
    cases s; cases s'; simp_all
  rw [es'] at I1
  have hS : H s'.heap.objs.size = none := I1.hok.fresh (Nat.le_refl _)
  have I2 : Inv X pins σ (upd H s'.heap.objs.size (.lst (xs.drop k))) { s' with heap := s'.heap.push { cls := .type "list", data := .seq (its.drop k).toArray }, toks := s'.toks } :=
    I1.laid (fun b u q => Heap.get?_push_of_some _ q) (Nat.le_refl _) ⟨by rw [List.length_drop]; omega, its.drop k, _, rv.drop k, Heap.get?_push_size _ rfl⟩
  refine h.run pins _ σ _ (xs.take k ++ [.ref s'.heap.objs.size]) _ Q I2 ?_ (hw _ hS)
  simp only [List.toList_toArray]
  exact (rv.take k).append (.cons rfl .nil)
end
end DX
/-! x.split(y), int(text), a, *b = list -/
namespace DX
open PySem PySem.Spec L2 PyProof.Rows StX
noncomputable section
def dSplit : D → D → Option D
  | .str x, .str y => chk ((y.length == 0) = false ∧ x.length ≤ 1000000) (.lst ((Txt.split x y).map D.str))
  | _, _ => none
/-- int(x), of a text too -/
def dIntT : D → Option D
  | .str x => (PySem.intText? x).bind fun n => chk (x.length ≤ 640) (.int n)
  | d => dInt d
end
def stD1 : D → Option (D × D)
  | .lst (a :: r) => some (a, .lst r)
  | _ => none
def stD2 : D → Option (D × D × D)
  | .lst (a :: b :: r) => some (a, b, .lst r)
  | _ => none
/-- the first k, then the list of the rest -/
def stD (k : Nat) : D → Option (List D)
  | .lst ds => if k ≤ ds.length then some (ds.take k ++ [.lst (ds.drop k)]) else none
  | _ => none
theorem stD1_eq {d : D} {p : D × D} (h : stD1 d = some p) : stD 1 d = some [p.1, p.2] := by
  unfold stD1 at h
  split at h
  · cases h; simp [stD]
  · cases h
theorem stD2_eq {d : D} {p : D × D × D} (h : stD2 d = some p) : stD 2 d = some [p.1, p.2.1, p.2.2] := by
  unfold stD2 at h
  split at h
  · cases h; simp [stD]
  · cases h
section
variable {X : Cx} {J : Gh} {e o : Expr} {es : List Expr} {ρ : DEnv} {M : Mem} {P : D → Mem → Prop} {B : Bd} {pos apos cpos : Pos} {K : PySem.W.Frag} {F : Hp} {x dx dy z : D}
theorem rps_str : ∀ {zs : List Str}, Rps K F (zs.map V.str) (zs.map D.str)
  | [] => .nil
  | z :: zs => .cons (.str z) rps_str
theorem rps_take : ∀ {xs : List V} {ds : List D}, Rps K F xs ds → ∀ k : Nat, Rps K F (xs.take k) (ds.take k)
  | _, _, .nil, k => by simp; exact .nil
  | _, _, .cons h r, 0 => .nil
  | _, _, .cons h r, k + 1 => .cons h (rps_take r k)
theorem rps_drop : ∀ {xs : List V} {ds : List D}, Rps K F xs ds → ∀ k : Nat, Rps K F (xs.drop k) (ds.drop k)
  | _, _, .nil, k => by simp; exact .nil
  | _, _, .cons h r, 0 => .cons h r
  | _, _, .cons h r, k + 1 => rps_drop r k
theorem ex_splitF (h : EX X J o ρ M fun d M1 => ∃ z, d = .str z ∧ EX X J e ρ M1 fun d2 M2 => ∃ dy r, Vw M2 d2 dy ∧ dSplit (.str z) dy = some r ∧ P r M2)
    (hs : starEach [e] X.env = [(false, eval e X.env)] := by rfl) (hbase : attributeBase o "split" X.env (eval o X.env) = eval o X.env := by rfl) (hline : (apos.endLine == pos.line) = true := by rfl) :
    EX X J (.Call (.Attribute o "split" apos) [e] [] pos) ρ M P :=
  ex_of (pe_split pe_any pe_any hs hbase hline) fun F σ H Q st k => h.go st fun d v M1 F1 H1 q e1 o1 r1 => by
    obtain ⟨z, rfl, q⟩ := q
    cases r1
    refine ⟨⟨_, rfl⟩, EX.go q (st.to e1 o1) fun d2 v2 M2 F2 H2 q2 e2 o2 r2 => ?_⟩
    obtain ⟨dy, r, w, g, q3⟩ := q2
    cases dy <;> first | cases g | skip
    rename_i y
    obtain ⟨⟨g1, g2⟩, rfl⟩ := chk_inv g
    have r3 := w.rp rfl o2 r2
    cases r3
    exact ⟨_, _, rfl, rfl, g1, by show _ ≤ 16777216; omega, fun p hp => k _ _ _ _ _ q3 ((e1.trans e2).trans (o2.fixSame hp)) (o2.fix hp) (.lst upd_same (Rps.mono (o2.fixSame hp) rps_str))⟩
theorem cd_dIntT (w : Vw M x dx) (h : dIntT dx = some z) (p : P z M) : CD X (.type "int") [x] M P := by
  unfold dIntT at h
  split at h
  · obtain ⟨n, h1, h⟩ := Option.bind_eq_some_iff.mp h
    obtain ⟨h2, rfl⟩ := chk_inv h
    refine cd_by w rfl ⟨_, call_int_str, fun F H vs Q o r k => ?_⟩
    cases r with
    | cons r1 r => cases r; cases r1; exact ⟨_, n, rfl, h1, h2, k.here p o (.int _)⟩
  · exact cd_dInt w h p
/-! ### a target with a star -/
theorem asd_star {t : Expr} {sp : Pos} {ts : List Expr} {d : D} {ds : List D} {P : DEnv → Prop} (h : AsD X t d ρ fun ρ' => AsDs X ts ds ρ' P)
    (hs : (assignEach (.Starred t sp :: ts) X.env).map (·.2) = assign t X.env :: (assignEach ts X.env).map (·.2) := by rfl) : AsDs X (.Starred t sp :: ts) (d :: ds) ρ P := by
  have hs0 : ∀ (σ : L2.St) (H : Hp) (vs : List V) (us : List Value) (Q : L2.St → Hp → Prop) (pins : List (Addr × Obj)) (s : Shared), Inv X pins σ H s → Vals vs us →
      (∃ v vr, vs = v :: vr ∧ gE X t v σ H fun σ' H' => ∃ g, PGs X ts g ∧ g vr σ' H' Q) → wpAny (model X.prog X.w) X.A (assignInOrder ((assignEach (.Starred t sp :: ts) X.env).map (·.2)) us) (fun _ s' => ∃ σ' H', Inv X pins σ' H' s' ∧ Q σ' H') X.xe s := by
    intro σ H vs us Q pins s I r q
    obtain ⟨v, vr, e1, q⟩ := q
    subst e1
    cases r with
    | cons r rr =>
      rw [hs]
      refine assignInOrder_cons (thn (pg_any.run pins s σ H _ _ _ I r q) fun _ s1 ⟨σ1, H1, I1, g, hg, q1⟩ => ?_)
      exact hg.run pins s1 σ1 H1 vr _ Q I1 rr q1
  refine ⟨fun vs σ H Q => ∃ v vr, vs = v :: vr ∧ gE X t v σ H fun σ' H' => ∃ g, PGs X ts g ∧ g vr σ' H' Q, ⟨fun pins s σ H vs us Q I r q => hs0 σ H vs us Q pins s I r q⟩, fun F M vs σ H Q o r en k => ?_⟩
  cases r with
  | cons h1 r1 =>
    exact ⟨_, _, rfl, asd_go h o h1 en fun σ' ρ' q en' => by
      obtain ⟨g, hg, q⟩ := q
      exact ⟨g, hg, q F M _ σ' H Q o r1 en' k⟩⟩
theorem g1_star {kk : Nat} {tpos : Pos} (k : Nat) (hc : X.calm = true) (h : EX X J e ρ M fun d M1 => ∃ dx ds, Vw M1 d dx ∧ stD k dx = some ds ∧ AsDs X es ds ρ fun ρ' => B.nx ρ' M1)
    (hn : (assignEach es X.env).length = k + 1 := by rfl) (hst : (assignEach es X.env).findIdx? (·.1) = some k := by rfl)
    (hs : swapsWithSole [.Tuple es kk tpos] e pos.line X.env = pure false := by rfl) (hw : swappedStores [.Tuple es kk tpos] e X.env = pure none := by rfl)
    (h1 : (assignEach [.Tuple es kk tpos] X.env).map (·.2) = [assign (.Tuple es kk tpos) X.env] := by rfl) : G1 X J (.Assign [.Tuple es kk tpos] e pos) ρ M B :=
  g1_of (ps_asg pe_any (pg_star hc (⟨fun pins s σ H vs us Q I r ⟨g, h, q⟩ => h.run pins s σ H vs us Q I r q⟩ : PGs X es (fun vs σ H Q => ∃ g, PGs X es g ∧ g vs σ H Q)) hn hst) hs hw h1) fun F σ H E s kt => h.go s fun d v M1 F1 H1 p e1 o1 r1 => by
    obtain ⟨dx, ds, w, g, p⟩ := p
    unfold stD at g
    split at g
    · rename_i l
      split at g
      · rename_i hk
        cases g
        obtain ⟨a, xs, rfl, h2, r2⟩ := w.sl.get o1 r1
        obtain ⟨gg, hg, p⟩ := p
        refine ⟨a, xs, rfl, SqL.of h2, by rw [r2.length]; exact hk, fun q hq => ⟨gg, hg, ?_⟩⟩
        have sm := o1.fixSame (o := .lst (xs.drop k)) hq
        refine p _ M1 _ σ _ _ (o1.fix hq) (Rps.append (Rps.mono sm (rps_take r2 k)) (.cons (.lst upd_same (Rps.mono sm (rps_drop r2 k))) .nil)) ((s.en.mono e1).mono sm) fun σ' ρ' q' en => ?_
        exact kt.nx _ σ' _ ρ' M1 q' (e1.trans sm) en (o1.fix hq)
      · cases g
    · cases g
end
end DX
namespace DX
/-- what a name holds, perhaps: o is known of it -/
def OptIs (o j : Option D) : Prop := ∀ v, o = some v → j = some v
theorem optN {j : Option D} : OptIs none j := fun _ h => nomatch h
theorem optS {v : D} : OptIs (some v) (some v) := fun _ h => h
end DX
/-! the plain operations at data as they are written: rules for simp -/
namespace DX
open PySem PySem.Spec L2 SX
section
variable {i j : Int} {a b : Str} {l m : List D} {x y : D} {p q : Bool}
@[simp] theorem chk_true {α : Type} {x : α} : chk True x = some x := chk_pos trivial
@[simp] theorem dAdd_ii : dAdd (.int i) (.int j) = some (.int (i + j)) := rfl
@[simp] theorem dAdd_ll : dAdd (.lst l) (.lst m) = chk (l.length + m.length ≤ 1000000) (.lst (l ++ m)) := rfl
@[simp] theorem dAdd_tt : dAdd (.tup l) (.tup m) = chk (l.length + m.length ≤ 1000000) (.tup (l ++ m)) := rfl
@[simp] theorem dAdd_ss : dAdd (.str a) (.str b) = chk (a.length + b.length ≤ 1000000) (.str (a ++ b)) := rfl
@[simp] theorem lAdd_ll : lAdd (.lst l) (.lst m) = chk (l.length + m.length ≤ 1000000) (l ++ m) := rfl
@[simp] theorem dSub_ii : dSub (.int i) (.int j) = some (.int (i - j)) := rfl
@[simp] theorem dMul_ii : dMul (.int i) (.int j) = chk (CMul i j) (.int (i * j)) := rfl
@[simp] theorem dMul_li : dMul (.lst l) (.int j) = chk ((-(2 ^ 62) ≤ j ∧ j < 2 ^ 62) ∧ l.length * j.toNat ≤ 1000000) (.lst (List.replicate j.toNat l).flatten) := rfl
@[simp] theorem lMul_li : lMul (.lst l) (.int j) = chk ((-(2 ^ 62) ≤ j ∧ j < 2 ^ 62) ∧ l.length * j.toNat ≤ 1000000) (List.replicate j.toNat l).flatten := rfl
@[simp] theorem dFdiv_ii : dFdiv (.int i) (.int j) = chk (CDiv i j) (.int (i / j)) := rfl
@[simp] theorem dMod_ii : dMod (.int i) (.int j) = chk (0 < j) (.int (i % j)) := rfl
@[simp] theorem dPow_ii : dPow (.int i) (.int j) = chk (CPow i j) (.int (i ^ j.toNat)) := rfl
@[simp] theorem dShl_ii : dShl (.int i) (.int j) = chk (CPow i j) (.int (i * 2 ^ j.toNat)) := rfl
@[simp] theorem dShr_ii : dShr (.int i) (.int j) = chk (0 ≤ j) (.int (i / 2 ^ j.toNat)) := rfl
@[simp] theorem dBand_ii : dBand (.int i) (.int j) = some (.int (Builtin.bitAnd i j)) := rfl
@[simp] theorem dBor_ii : dBor (.int i) (.int j) = some (.int (Builtin.bitOr i j)) := rfl
@[simp] theorem dBxor_ii : dBxor (.int i) (.int j) = some (.int (Builtin.bitXor i j)) := rfl
@[simp] theorem dNeg_i : dNeg (.int i) = some (.int (-i)) := rfl
@[simp] theorem dInv_i : dInv (.int i) = some (.int (Builtin.bitNot i)) := rfl
@[simp] theorem cLt_ii : cLt (.int i) (.int j) = some (decide (i < j)) := rfl
@[simp] theorem cLe_ii : cLe (.int i) (.int j) = some (decide (i ≤ j)) := rfl
@[simp] theorem cGt_ii : cGt (.int i) (.int j) = some (decide (j < i)) := rfl
@[simp] theorem cGe_ii : cGe (.int i) (.int j) = some (decide (j ≤ i)) := rfl
@[simp] theorem cEq_ii : cEq (.int i) (.int j) = some (decide (i = j)) := rfl
@[simp] theorem cEq_bb : cEq (.bl p) (.bl q) = some (decide (p = q)) := rfl
@[simp] theorem cEq_ss : cEq (.str a) (.str b) = some (decide (a = b)) := rfl
@[simp] theorem cEq_si : cEq (.str a) (.int j) = some false := rfl
@[simp] theorem cEq_is : cEq (.int j) (.str a) = some false := rfl
@[simp] theorem cEq_bs : cEq (.bl p) (.str a) = some false := rfl
@[simp] theorem cEq_sb : cEq (.str a) (.bl p) = some false := rfl
@[simp] theorem cEq_nn : cEq .non .non = some true := rfl
@[simp] theorem cEq_ni : cEq .non (.int j) = some false := rfl
@[simp] theorem cEq_in : cEq (.int j) .non = some false := rfl
@[simp] theorem cEq_ns : cEq .non (.str a) = some false := rfl
@[simp] theorem cEq_sn : cEq (.str a) .non = some false := rfl
@[simp] theorem cNe_of {x y : D} : cNe x y = (cEq x y).map (!·) := rfl
@[simp] theorem cNin_of {x y : D} : cNin x y = (cIn x y).map (!·) := rfl
@[simp] theorem cIsnt_of {x y : D} : cIsnt x y = (cIs x y).map (!·) := rfl
@[simp] theorem cIs_bb : cIs (.bl p) (.bl q) = some (decide (p = q)) := rfl
@[simp] theorem cIs_nn : cIs .non .non = some true := rfl
@[simp] theorem cIs_tn : cIs (.tup l) .non = some false := rfl
@[simp] theorem cIs_ln : cIs (.lst l) .non = some false := rfl
@[simp] theorem cIs_in : cIs (.int i) .non = some false := rfl
@[simp] theorem cIs_sn : cIs (.str a) .non = some false := rfl
@[simp] theorem dTru_b : dTru (.bl p) = some p := rfl
@[simp] theorem dTru_i : dTru (.int i) = some (i != 0) := rfl
@[simp] theorem dTru_l : dTru (.lst l) = some (!l.isEmpty) := rfl
@[simp] theorem dTru_t : dTru (.tup l) = some (!l.isEmpty) := rfl
@[simp] theorem dTru_n : dTru .non = some false := rfl
@[simp] theorem dIx_li : dIx (.lst l) (.int i) = atI l i := rfl
@[simp] theorem dIx_ti : dIx (.tup l) (.int i) = atI l i := rfl
@[simp] theorem dIx_si : dIx (.str a) (.int i) = (atI a.cps.toList i).bind fun n => chk (a.length ≤ 1000000) (.str ⟨#[n]⟩) := rfl
@[simp] theorem dEnd_i : dEnd (.int i) = some i := rfl
@[simp] theorem dCut_l {u v : Option Int} : dCut (.lst l) u v = some (.lst (cutD l u v)) := rfl
@[simp] theorem dCut_t {u v : Option Int} : dCut (.tup l) u v = some (.tup (cutD l u v)) := rfl
@[simp] theorem dCut_s {u v : Option Int} : dCut (.str a) u v = chk (a.cps.toList.length ≤ 1000000) (.str (S (cutA a.cps.toList u v))) := rfl
@[simp] theorem dLen_l : dLen (.lst l) = some (.int (l.length : Int)) := rfl
@[simp] theorem dLen_t : dLen (.tup l) = some (.int (l.length : Int)) := rfl
@[simp] theorem dLen_s : dLen (.str a) = chk (a.length ≤ 1000000) (.int (a.length : Int)) := rfl
@[simp] theorem dAbs_i : dAbs (.int i) = some (.int (if i < 0 then -i else i)) := rfl
@[simp] theorem dInt_i : dInt (.int i) = some (.int i) := rfl
@[simp] theorem dInt_b : dInt (.bl p) = some (.int (if p = true then 1 else 0)) := rfl
@[simp] theorem lList_l : lList (.lst l) = some l := rfl
@[simp] theorem lList_t : lList (.tup l) = some l := rfl
@[simp] theorem lListM_l : lListM (.lst l) = some l := rfl
@[simp] theorem lListM_t : lListM (.tup l) = some l := rfl
@[simp] theorem dIter_l : dIter (.lst l) = some l := rfl
@[simp] theorem dIter_t : dIter (.tup l) = some l := rfl
@[simp] theorem dIter_s : dIter (.str a) = some (signs a) := rfl
@[simp] theorem items_l : itemsD (.lst l) = some l := rfl
@[simp] theorem items_t : itemsD (.tup l) = some l := rfl
@[simp] theorem dEnum_l : dEnum (.lst l) = some (enumD 0 l) := rfl
@[simp] theorem dEnum_t : dEnum (.tup l) = some (enumD 0 l) := rfl
@[simp] theorem dZip_l : dZip (.lst l) (.lst m) = some (zipD l m) := rfl
@[simp] theorem dZip_tl : dZip (.tup l) (.lst m) = some (zipD l m) := rfl
@[simp] theorem dZip_lt : dZip (.lst l) (.tup m) = some (zipD l m) := rfl
@[simp] theorem dZip_t : dZip (.tup l) (.tup m) = some (zipD l m) := rfl
@[simp] theorem dRange_1 : dRange [.int j] = chk (-1000000 ≤ j ∧ j ≤ 1000000) (rngD 0 j.toNat) := rfl
@[simp] theorem dRange_2 : dRange [.int i, .int j] = chk ((0 ≤ i ∧ i ≤ 1000000) ∧ -1000000 ≤ j ∧ j ≤ 1000000) (rngD i (j - i).toNat) := rfl
@[simp] theorem dRange_3 : dRange [.int i, .int j, .int (-1)] = chk ((-1000000 ≤ i ∧ i ≤ 1000000) ∧ -1000000 ≤ j ∧ j ≤ 1000000) (rngC i (-1) (i - j).toNat) := by simp only [dRange, if_pos]
@[simp] theorem lSet_i {v : D} : lSet l (.int i) v = (ixN l.length i).map fun m => l.set m v := rfl
@[simp] theorem un1_t : un1 (.tup [x]) = some x := rfl
@[simp] theorem un2_t : un2 (.tup [x, y]) = some (x, y) := rfl
@[simp] theorem un3_t {z : D} : un3 (.tup [x, y, z]) = some (x, y, z) := rfl
@[simp] theorem un4_t {z w : D} : un4 (.tup [x, y, z, w]) = some (x, y, z, w) := rfl
@[simp] theorem iOp_ii {f : Int → Int → Int} : iOp f (.int i) (.int j) = some (.int (f i j)) := rfl
@[simp] theorem strD_s : strD (.str a) = some a := rfl
@[simp] theorem lstD_l : lstD (.lst l) = some l := rfl
@[simp] theorem dctD_d {k : List (Key × D)} : dctD (.dct k) = some k := rfl
@[simp] theorem keyD_i : keyD (.int i) = some (.inl i) := rfl
@[simp] theorem keyD_s : keyD (.str a) = some (.inr a) := rfl
@[simp] theorem dMax2_ii : dMax2 (.int i) (.int j) = some (.int (if j > i then j else i)) := rfl
@[simp] theorem dMin2_ii : dMin2 (.int i) (.int j) = some (.int (if j < i then j else i)) := rfl
@[simp] theorem foldO_nil {S : Type} {f : S → D → Option S} {s : S} : foldO f s [] = some s := rfl
@[simp] theorem foldO_cons {S : Type} {f : S → D → Option S} {s : S} {x : D} {xs : List D} : foldO f s (x :: xs) = (f s x).bind fun s' => foldO f s' xs := rfl
@[simp] theorem mapO_nil {f : D → Option D} : mapO f [] = some [] := rfl
@[simp] theorem mapO_cons {f : D → Option D} {x : D} {xs : List D} : mapO f (x :: xs) = (f x).bind fun y => (mapO f xs).map fun ys => y :: ys := rfl
@[simp] theorem loopC_nil {S R : Type} {f : S → D → Option (Ctl S R)} {s : S} : loopC f s [] = some (.go s) := rfl
@[simp] theorem ctl_g {S R T : Type} {s : S} {f : S → Option T} {g : R → Option T} : ctl (.go s) f g = f s := rfl
@[simp] theorem ctl_r {S R T : Type} {s : R} {f : S → Option T} {g : R → Option T} : ctl (.ret s) f g = g s := rfl
@[simp] theorem dAll_b {bs : List Bool} : dAll (.lst (bs.map D.bl)) = some (.bl (bs.all id)) := by unfold dAll; simp [blsD_map]
@[simp] theorem dAny_b {bs : List Bool} : dAny (.lst (bs.map D.bl)) = some (.bl (bs.any id)) := by unfold dAny; simp [blsD_map]
@[simp] theorem dSum_i {ns : List Int} : dSum (.lst (ns.map D.int)) = some (.int ns.sum) := by unfold dSum; simp [intsD_map]
theorem cIn_ints {ns : List Int} : cIn (.int i) (.lst (ns.map D.int)) = some (decide (i ∈ ns)) := by
  unfold cIn
  simp [flD, flDs_ints, inV_ints]
theorem cIn_tints {ns : List Int} : cIn (.int i) (.tup (ns.map D.int)) = some (decide (i ∈ ns)) := by
  unfold cIn
  simp [flD, flDs_ints, inV_ints]
end
/-! ### lists as images -/
section
variable {α β : Type} {f : D → Option D} {xs : List D}
theorem mapO_of {l : List α} {e : α → D} {g : α → D} (h : ∀ a ∈ l, f (e a) = some (g a)) : mapO f (l.map e) = some (l.map g) := by
  induction l with
  | nil => rfl
  | cons a l ih =>
    rw [List.map_cons, mapO_cons, h a List.mem_cons_self, Option.bind_some, ih fun b hb => h b (List.mem_cons_of_mem _ hb)]
    rfl
theorem filtO_of {f : D → Option (Option D)} {l : List α} {e g : α → D} {t : α → Bool} (h : ∀ a ∈ l, f (e a) = some (if t a = true then some (g a) else none)) : filtO f (l.map e) = some ((l.filter t).map g) := by
  induction l with
  | nil => rfl
  | cons a l ih =>
    rw [List.map_cons, filtO, h a List.mem_cons_self, Option.bind_some, ih fun b hb => h b (List.mem_cons_of_mem _ hb), List.filter_cons]
    cases t a <;> rfl
/-- a loop that puts one thing behind at each turn -/
theorem foldO_app {f : List D → D → Option (List D)} {l : List α} {e g : α → D} {acc : List D} (h : ∀ a ∈ l, ∀ acc : List D, acc.length < 1000000 → f acc (e a) = some (acc ++ [g a])) (hz : acc.length + l.length ≤ 1000000) : foldO f acc (l.map e) = some (acc ++ l.map g) := by
  induction l generalizing acc with
  | nil => simp
  | cons a l ih =>
    rw [List.length_cons] at hz
    rw [List.map_cons, foldO_cons, h a List.mem_cons_self acc (by omega), Option.bind_some, ih (fun b hb => h b (List.mem_cons_of_mem _ hb)) (by rw [List.length_append, List.length_singleton]; omega)]
    simp
/-- a loop by a plain fold -/
theorem foldO_of {S T : Type} {f : S → D → Option S} {l : List α} {e : α → D} {c : T → S} {g : T → α → T} (I : T → Prop) {t : T} (h0 : I t) (h : ∀ a ∈ l, ∀ t, I t → f (c t) (e a) = some (c (g t a)) ∧ I (g t a)) : foldO f (c t) (l.map e) = some (c (l.foldl g t)) ∧ I (l.foldl g t) := by
  induction l generalizing t with
  | nil => exact ⟨rfl, h0⟩
  | cons a l ih =>
    obtain ⟨h1, h2⟩ := h a List.mem_cons_self t h0
    rw [List.map_cons, foldO_cons, h1, Option.bind_some, List.foldl_cons]
    exact ih h2 fun b hb => h b (List.mem_cons_of_mem _ hb)
/-- a search: the first that gives something -/
theorem loopC_first {R : Type} {f : Unit → D → Option (Ctl Unit R)} {l : List α} {e : α → D} {g : α → Option R} (h : ∀ a ∈ l, f () (e a) = some (match g a with | some r => .ret r | none => .go ())) : loopC f () (l.map e) = some (match l.findSome? g with | some r => .ret r | none => .go ()) := by
  induction l with
  | nil => rfl
  | cons a l ih =>
    rw [List.map_cons, loopC, h a List.mem_cons_self, Option.bind_some, List.findSome?_cons]
    cases g a with
    | some r => rfl
    | none => exact ih fun b hb => h b (List.mem_cons_of_mem _ hb)
/-- what holds of what comes -/
def Gives {α : Type} (o : Option α) (Q : α → Prop) : Prop := ∃ y, o = some y ∧ Q y
theorem Gives.bind {o : Option α} {f : α → Option β} {Q : β → Prop} (h : Gives o fun a => Gives (f a) Q) : Gives (o.bind f) Q := by
  obtain ⟨y, rfl, h⟩ := h
  exact h
theorem Gives.mk {y : α} {Q : α → Prop} (h : Q y) : Gives (some y) Q := ⟨y, rfl, h⟩
theorem Gives.imp {o : Option α} {Q Q' : α → Prop} (h : Gives o Q) (k : ∀ a, Q a → Q' a) : Gives o Q' := by
  obtain ⟨y, e, h⟩ := h
  exact ⟨y, e, k y h⟩
theorem Gives.eq {o : Option α} {y : α} {Q : α → Prop} (e : o = some y) (h : Q y) : Gives o Q := ⟨y, e, h⟩
theorem gives_fold {S : Type} {f : S → D → Option S} {xs : List D} {s : S} (I : Nat → S → Prop) (h0 : I 0 s) (h : ∀ i x s, xs[i]? = some x → I i s → Gives (f s x) fun s' => I (i + 1) s') : Gives (foldO f s xs) fun s' => I xs.length s' := by
  induction xs generalizing s I with
  | nil => exact ⟨s, rfl, h0⟩
  | cons x xs ih =>
    rw [foldO_cons]
    refine .bind ((h 0 x s rfl h0).imp fun s' h1 => ?_)
    exact ih (fun i => I (i + 1)) h1 fun i y s2 hy => h (i + 1) y s2 (by simpa using hy)
theorem gives_mapS {S : Type} {f : S → D → Option (D × S)} {xs : List D} {s : S} (I : Nat → List D → S → Prop) (h0 : I 0 [] s) (h : ∀ i x acc s, xs[i]? = some x → I i acc s → Gives (f s x) fun q => I (i + 1) (acc ++ [q.1]) q.2) : Gives (mapS f s xs) fun q => I xs.length q.1 q.2 := by
  have main : ∀ (xs : List D) (s : S) (k : Nat) (acc : List D), I k acc s → (∀ i x acc s, xs[i]? = some x → I (k + i) acc s → Gives (f s x) fun q => I (k + i + 1) (acc ++ [q.1]) q.2) → Gives (mapS f s xs) fun q => I (k + xs.length) (acc ++ q.1) q.2 := by
    intro xs
    induction xs with
    | nil => intro s k acc h0 _; exact ⟨_, rfl, by simpa using h0⟩
    | cons x xs ih =>
      intro s k acc h0 h
      obtain ⟨q, e1, h1⟩ := h 0 x acc s rfl h0
      obtain ⟨q2, e2, h2⟩ := ih q.2 (k + 1) (acc ++ [q.1]) h1 fun i y acc2 s2 hy hI => by
        have := h (i + 1) y acc2 s2 (by simpa using hy) (by rw [show k + (i + 1) = k + 1 + i by omega]; exact hI)
        rw [show k + (i + 1) + 1 = k + 1 + i + 1 by omega] at this
        exact this
      refine ⟨(q.1 :: q2.1, q2.2), by rw [mapS, e1, Option.bind_some, e2]; rfl, ?_⟩
      rw [List.length_cons, show k + (xs.length + 1) = k + 1 + xs.length by omega]
      simpa using h2
  obtain ⟨q, e, h1⟩ := main xs s 0 [] h0 fun i x acc s hx hI => by
    rw [Nat.zero_add] at hI ⊢
    exact h i x acc s hx hI
  exact ⟨q, e, by simpa using h1⟩
theorem gives_filtS {S : Type} {f : S → D → Option (Option D × S)} {xs : List D} {s : S} (I : Nat → List D → S → Prop) (h0 : I 0 [] s) (h : ∀ i x acc s, xs[i]? = some x → I i acc s → Gives (f s x) fun q => I (i + 1) (acc ++ q.1.toList) q.2) : Gives (filtS f s xs) fun q => I xs.length q.1 q.2 := by
  have main : ∀ (xs : List D) (s : S) (k : Nat) (acc : List D), I k acc s → (∀ i x acc s, xs[i]? = some x → I (k + i) acc s → Gives (f s x) fun q => I (k + i + 1) (acc ++ q.1.toList) q.2) → Gives (filtS f s xs) fun q => I (k + xs.length) (acc ++ q.1) q.2 := by
    intro xs
    induction xs with
    | nil => intro s k acc h0 _; exact ⟨_, rfl, by simpa using h0⟩
    | cons x xs ih =>
      intro s k acc h0 h
      obtain ⟨⟨o, s1⟩, e1, h1⟩ := h 0 x acc s rfl h0
      obtain ⟨q2, e2, h2⟩ := ih s1 (k + 1) (acc ++ o.toList) h1 fun i y acc2 s2 hy hI => by
        have := h (i + 1) y acc2 s2 (by simpa using hy) (by rw [show k + (i + 1) = k + 1 + i by omega]; exact hI)
        rw [show k + (i + 1) + 1 = k + 1 + i + 1 by omega] at this
        exact this
      cases o with
      | none =>
        refine ⟨(q2.1, q2.2), by rw [filtS, e1, Option.bind_some, e2]; rfl, ?_⟩
        rw [List.length_cons, show k + (xs.length + 1) = k + 1 + xs.length by omega]
        simpa using h2
      | some y =>
        refine ⟨(y :: q2.1, q2.2), by rw [filtS, e1, Option.bind_some, e2]; rfl, ?_⟩
        rw [List.length_cons, show k + (xs.length + 1) = k + 1 + xs.length by omega]
        simpa using h2
  obtain ⟨q, e, h1⟩ := main xs s 0 [] h0 fun i x acc s hx hI => by
    rw [Nat.zero_add] at hI ⊢
    exact h i x acc s hx hI
  exact ⟨q, e, by simpa using h1⟩
end
end DX
namespace My
open PySem PySem.Spec L2 DX SX
noncomputable section
abbrev HzL : List PySem.Str := ["InvalidText", "InvalidPosition"]
def Hz (Z : Str → Addr) : Prop := (HzL.map Z).Nodup
instance {Z : Str → Addr} : Decidable (Hz Z) := inferInstanceAs (Decidable ((HzL.map Z).Nodup))
def F_Lpen (x0 : D) : Option (List D) :=
  (dEnd (D.int 63)).bind fun i1 => (dCut x0 none (some i1)).bind fun v2 => (lList v2).bind fun l3 => some [(D.lst l3), (D.int 0), (D.int 0)]
def F_Ldraw (x0 : List D) (x1 : D) : Option (D × List D) :=
  (dIx (D.lst x0) (D.int 2)).bind fun v2 => (cGt v2 (D.int 0)).bind fun t3 => if t3 = true then (dIx (D.lst x0) (D.int 2)).bind fun v4 => (dMod v4 x1).bind fun v5 => (dIx (D.lst x0) (D.int 2)).bind fun v6 => (dFdiv v6 x1).bind fun v7 => (lSet x0 (D.int 2) v7).bind fun l8 => some (v5, l8) else (dIx (D.lst x0) (D.int 1)).bind fun v9 => (dAdd v9 (D.int 1)).bind fun v10 => (lSet x0 (D.int 1) v10).bind fun l11 => (dMul (D.int 39763) v9).bind fun v12 => (dAdd v12 (D.int 1179)).bind fun v13 => ((dIx (D.lst l11) (D.int 0)).bind fun v16 => (cNe v16 (D.lst [])).bind fun t17 => if t17 = true then (dIx (D.lst l11) (D.int 0)).bind fun v18 => (dIx (D.lst l11) (D.int 0)).bind fun v19 => (dLen v19).bind fun v20 => (dMod v9 v20).bind fun v21 => (dIx v18 v21).bind fun v22 => some v22 else some v13).bind fun (r15 : D) => ((dIx (D.lst l11) (D.int 0)).bind fun v25 => (dLen v25).bind fun v26 => (cLt v9 v26).bind fun t27 => if t27 = true then (dAbs r15).bind fun v28 => (dPow (D.int 10) (D.int 18)).bind fun v29 => (cGe v28 v29).bind fun t30 => some t30 else some false).bind fun t31 => if t31 = true then (dAbs r15).bind fun v32 => (dPow (D.int 10) (D.int 18)).bind fun v33 => (dSub v32 v33).bind fun v34 => (dMul (D.int 2) v34).bind fun v35 => (cLt r15 (D.int 0)).bind fun t36 => (dIntT (D.bl t36)).bind fun v37 => (dAdd v35 v37).bind fun v38 => (dFdiv v38 x1).bind fun v39 => (lSet l11 (D.int 2) v39).bind fun l40 => (dMod v38 x1).bind fun v41 => some (v41, l40) else (dMod r15 (D.int 2147483629)).bind fun v42 => (dMul (D.int 50865) v9).bind fun v43 => (dAdd v42 v43).bind fun v44 => (dAdd v44 (D.int 221)).bind fun v45 => (dPow v45 (D.int 5)).bind fun v46 => (dMod v46 (D.int 2147483489)).bind fun v47 => (dMul (D.int 2) v9).bind fun v48 => (dAdd v48 (D.int 199)).bind fun v49 => (dMul v47 v49).bind fun v50 => (dMul (D.int 71105) v9).bind fun v51 => (dMul v51 v9).bind fun v52 => (dAdd v50 v52).bind fun v53 => (dAdd v53 (D.int 103)).bind fun v54 => (dPow v54 (D.int 3)).bind fun v55 => (dMod v55 (D.int 2147483587)).bind fun v56 => (dFdiv v56 (D.int 32)).bind fun v57 => (dMod v57 x1).bind fun v58 => some (v58, l11)
def F_Lline (x0 : List D) : Option (D × List D) :=
  (dRange [(D.int 25)]).bind fun l1 => (chk (l1.length ≤ 1000000) ()).bind fun _ => (mapO (fun x3 => (dStr x3).bind fun v8 => some v8) l1).bind fun y4 => ((F_Ldraw x0 (D.int 5)).bind fun v10 => (F_Ldraw v10.2 (D.int 6)).bind fun v11 => (cEq v11.1 (D.int 0)).bind fun t12 => (dIntT (D.bl t12)).bind fun v13 => (dIx (D.lst [v10.1, (D.int 25)]) v13).bind fun v14 => some (v14, v11.2)).bind fun v15 => (dRange [v15.1]).bind fun l16 => (chk (l16.length ≤ 1000000) ()).bind fun _ => (mapS (fun s17 x18 => (dLen (D.lst s17.1)).bind fun v23 => (F_Ldraw s17.2 v23).bind fun v24 => (lPopAt s17.1 v24.1).bind fun v25 => some (v25.1, v25.2, v24.2)) (y4, v15.2) l16).bind fun y19 => ((cIn (D.str "0") (D.lst y19.1)).bind fun t28 => if t28 = true then (lstD (D.lst y19.1)).bind fun s29 => (dLidx (D.lst s29) (D.str "0")).bind fun v30 => (dAdd v30 (D.int 1)).bind fun v31 => (dEnd v31).bind fun i32 => (dCut (D.lst y19.1) none (some i32)).bind fun v33 => some v33 else some (D.lst y19.1)).bind fun (r27 : D) => ((cNe r27 (D.lst [])).bind fun t34 => if t34 = true then (strD (D.str " ")).bind fun s35 => (dJoinS s35 r27).bind fun v36 => some v36 else some (D.str "-")).bind fun v38 => some (v38, y19.2.2)
def F_Lbent (x0 : List D) (x1 : D) : Option (D × List D) :=
  (strD x1).bind fun s1 => (dSplit (D.str s1) (D.str " ")).bind fun v2 => (dLen v2).bind fun v3 => (dAdd v3 (D.int 1)).bind fun v4 => (F_Ldraw x0 v4).bind fun v5 => (dLen x1).bind fun v6 => (dAdd v6 (D.int 1)).bind fun v7 => (F_Ldraw v5.2 v7).bind fun v8 => (F_Ldraw v8.2 (D.int 17)).bind fun v9 => (dIx (D.str "0123456789 -\nGo+_") v9.1).bind fun v10 => (dMul (D.str "9") (D.int 40)).bind fun v11 => (dEnd (D.int 1)).bind fun i12 => (dCut v2 none (some i12)).bind fun v13 => (dAdd (D.lst [(D.str ""), (D.str "-"), (D.str "0"), (D.str "00"), (D.str "01"), (D.str "25"), (D.str "24"), (D.str "100"), v11, (D.str "-1"), (D.str "P"), (D.str " "), (D.str "\n"), (D.str "1.0")]) v13).bind fun v14 => (dEnd (D.int (-1))).bind fun i15 => (dCut v2 (some i15) none).bind fun v16 => (dAdd v14 v16).bind fun v17 => (dLen v17).bind fun v18 => (F_Ldraw v9.2 v18).bind fun v19 => (dIx v17 v19.1).bind fun v20 => (dEnd v8.1).bind fun i21 => (dCut x1 none (some i21)).bind fun v22 => (dAdd v22 v10).bind fun v23 => (dEnd v8.1).bind fun i24 => (dCut x1 (some i24) none).bind fun v25 => (dAdd v23 v25).bind fun v26 => (dEnd v8.1).bind fun i27 => (dCut x1 none (some i27)).bind fun v28 => (dAdd v8.1 (D.int 1)).bind fun v29 => (dEnd v29).bind fun i30 => (dCut x1 (some i30) none).bind fun v31 => (dAdd v28 v31).bind fun v32 => (dEnd v8.1).bind fun i33 => (dCut x1 none (some i33)).bind fun v34 => (dAdd v34 v10).bind fun v35 => (dAdd v8.1 (D.int 1)).bind fun v36 => (dEnd v36).bind fun i37 => (dCut x1 (some i37) none).bind fun v38 => (dAdd v35 v38).bind fun v39 => (strD (D.str " ")).bind fun s40 => (dEnd v5.1).bind fun i41 => (dCut v2 none (some i41)).bind fun v42 => (dAdd v42 (D.lst [v20])).bind fun v43 => (dEnd v5.1).bind fun i44 => (dCut v2 (some i44) none).bind fun v45 => (dAdd v43 v45).bind fun v46 => (dJoinS s40 v46).bind fun v47 => (strD (D.str " ")).bind fun s48 => (dEnd v5.1).bind fun i49 => (dCut v2 none (some i49)).bind fun v50 => (dAdd v50 (D.lst [v20])).bind fun v51 => (dAdd v5.1 (D.int 1)).bind fun v52 => (dEnd v52).bind fun i53 => (dCut v2 (some i53) none).bind fun v54 => (dAdd v51 v54).bind fun v55 => (dJoinS s48 v55).bind fun v56 => (dAdd (D.lst [v26, v32, v39]) (D.lst [v47, v56])).bind fun v57 => (strD (D.str " ")).bind fun s58 => (dRev v2).bind fun v59 => (dJoinS s58 v59).bind fun v60 => (dAdd x1 (D.str "\n")).bind fun v61 => (dAdd x1 (D.str " ")).bind fun v62 => (dAdd (D.str " ") x1).bind fun v63 => (dAdd (D.str "\n") x1).bind fun v64 => (dAdd x1 (D.str "\n")).bind fun v65 => (dAdd v65 x1).bind fun v66 => (dAdd v57 (D.lst [v60, v61, v62, v63, v64, v66])).bind fun v67 => (F_Ldraw v19.2 (D.int 11)).bind fun v68 => (dIx v67 v68.1).bind fun v69 => some (v69, v68.2)
def F_Lis_position (x0 : D) : Option (D) :=
  (((dLen x0).bind fun v4 => (cLt (D.int 0) v4).bind fun t5 => if t5 = true then (cLt v4 (D.int 3)).bind fun t6 => some t6 else some false).bind fun t7 => if (!t7) = true then some true else (dIter x0).bind fun l8 => (chk (l8.length ≤ 1000000) ()).bind fun _ => (filtO (fun x10 => (cNin x10 (D.str "0123456789")).bind fun t15 => if t15 = true then some (some x10) else some none) l8).bind fun y11 => (cNe (D.lst y11) (D.lst [])).bind fun t17 => some t17).bind fun t18 => if t18 = true then some (D.bl false) else ((dIntT x0).bind fun v20 => (dStr v20).bind fun v21 => (cEq v21 x0).bind fun t22 => (dTru (D.bl t22)).bind fun t23 => if t23 = true then (dIntT x0).bind fun v24 => (cLt v24 (D.int 25)).bind fun t25 => some (D.bl t25) else some (D.bl t22)).bind fun v26 => some v26
def F_Ldue (x0 : D) : Option (D) :=
  (dIsi "str" x0).bind fun t2 => (dTru (D.bl t2)).bind fun t3 => if (!t3) = true then some (D.tup [(D.int 0), (D.int 0)]) else (strD x0).bind fun s4 => (dSplit (D.str s4) (D.str "\n")).bind fun v5 => (dIx v5 (D.int 0)).bind fun v6 => (strD v6).bind fun s7 => (dSplit (D.str s7) (D.str " ")).bind fun v8 => ((cNe x0 (D.str "-")).bind fun t12 => if t12 = true then ((dLen v8).bind fun v13 => some v13).bind fun v14 => (dRange [v14]).bind fun l15 => (loopC (fun (s16 : Unit) x18 => ((dIx v8 x18).bind fun v23 => (F_Lis_position v23).bind fun v24 => (dTru v24).bind fun t25 => if (!t25) = true then some true else (dIx v8 x18).bind fun v27 => (dEnd x18).bind fun i28 => (dCut v8 none (some i28)).bind fun v29 => (cIn v27 v29).bind fun t30 => if t30 = true then some true else (dEnd x18).bind fun i31 => (dCut v8 none (some i31)).bind fun v32 => (cIn (D.str "0") v32).bind fun t33 => some t33).bind fun t34 => if t34 = true then some (.ret (D.tup [(D.int 0), x18])) else some (.go ())) () l15).bind fun c19 => ctl c19 (fun (r17 : Unit) => some (.go ())) (fun v => some (.ret v)) else some (.go ())).bind fun c11 => ctl c11 (fun (r10 : Unit) => ((dLen v5).bind fun v35 => (cGt v35 (D.int 1)).bind fun t36 => if t36 = true then some (D.tup [(D.int 1), (D.int 0)]) else some D.non).bind fun v38 => some v38) (fun v => some v)
def F_Order_positions (Z : Str → Addr) (x0 : D) : Option (D) :=
  (isC (Z "Order") x0).bind fun g1 => ((g1 : List (Str × D)).lookup ("entries" : Str)).bind fun z2 => some z2
def F_show_order (Z : Str → Addr) (x0 : D) : Option (D) :=
  ((strD (D.str " ")).bind fun s2 => ((isC (Z "Order") x0).bind fun g3 => (F_Order_positions Z x0).bind fun v4 => some v4).bind fun v5 => (dIter v5).bind fun l6 => (chk (l6.length ≤ 1000000) ()).bind fun _ => (mapO (fun x8 => (dStr x8).bind fun v13 => some v13) l6).bind fun y9 => (dJoinS s2 (D.lst y9)).bind fun v14 => (dTru v14).bind fun t15 => if t15 = true then some v14 else some (D.str "-")).bind fun v16 => some v16
def F_Lheard (Z : Str → Addr) (x0 : Except Er D) : Option D :=
  (exC x0 (fun e3 => if e3.1 ∈ (["InvalidText", "InvalidPosition"] : List PySem.Str).map Z then some (.go (D.exn e3.1 e3.2)) else none) (fun v4 => (F_show_order Z v4).bind fun v6 => some (.ret (D.lst [v6])))).bind fun c2 => ctl c2 (fun (r1 : D) => ((isiE ((["InvalidText", "InvalidPosition"] : List PySem.Str).map Z) ((["InvalidText"] : List PySem.Str).map Z) r1).bind fun t9 => (dTru (D.bl t9)).bind fun t10 => if t10 = true then (isiE ((["InvalidText", "InvalidPosition"] : List PySem.Str).map Z) ((["InvalidText", "InvalidPosition"] : List PySem.Str).map Z) r1).bind fun t12 => (dTru (D.bl t12)).bind fun t13 => if t13 = true then (isiE ((["InvalidText", "InvalidPosition"] : List PySem.Str).map Z) ((["InvalidPosition"] : List PySem.Str).map Z) r1).bind fun t14 => (dTru (D.bl t14)).bind fun t15 => some (!t15) else some false else some false).bind fun t16 => if t16 = true then (xflD ((["InvalidText"] : List PySem.Str).map Z) "line" r1).bind fun z17 => (xflD ((["InvalidText"] : List PySem.Str).map Z) "word" r1).bind fun z18 => some (D.tup [z17, z18]) else some (D.str "other")) (fun v => some v)
def F_lines_in (Z : Str → Addr) (x0 : D) : Option (Except Er D) :=
  (dIsi "str" x0).bind fun t2 => (dTru (D.bl t2)).bind fun t3 => if (!t3) = true then some (.error (Z "InvalidText", [("word", (D.int 0)), ("line", (D.int 0))])) else ((strD x0).bind fun s4 => (dSplit (D.str s4) (D.str "\n")).bind fun v5 => some v5).bind fun v6 => (dIter v6).bind fun l7 => (chk (l7.length ≤ 1000000) ()).bind fun _ => (mapO (fun x9 => (strD x9).bind fun s14 => (dSplit (D.str s14) (D.str " ")).bind fun v15 => some v15) l7).bind fun y10 => some (.ok (D.lst y10))
def F_number_in (x0 : D) (x1 : D) (x2 : D) : Option (D) :=
  (((dLen x0).bind fun v4 => (cLe (D.int 1) v4).bind fun t5 => if t5 = true then (cLe v4 (D.int 3)).bind fun t6 => some t6 else some false).bind fun t7 => if (!t7) = true then some true else (dIter x0).bind fun l8 => (chk (l8.length ≤ 1000000) ()).bind fun _ => (filtO (fun x10 => (cNin x10 (D.str "0123456789")).bind fun t15 => if t15 = true then some (some x10) else some none) l8).bind fun y11 => (cNe (D.lst y11) (D.lst [])).bind fun t17 => some t17).bind fun t18 => if t18 = true then some D.non else ((dIx x0 (D.int 0)).bind fun v21 => (cEq v21 (D.str "0")).bind fun t22 => if t22 = true then (cNe x0 (D.str "0")).bind fun t23 => some t23 else some false).bind fun t24 => if t24 = true then some D.non else (((dIntT x0).bind fun v26 => (cLe x1 v26).bind fun t27 => if t27 = true then (cLe v26 x2).bind fun t28 => some t28 else some false).bind fun t29 => if t29 = true then (dIntT x0).bind fun v30 => some v30 else some D.non).bind fun v32 => some v32
def F_positions_in (Z : Str → Addr) (x0 : D) : Option (Except Er D) :=
  (dEnum x0).bind fun l2 => (loopC (fun (s3 : List D) x5 => (un2 x5).bind fun p8 => (F_number_in p8.2 (D.int 0) (D.int 24)).bind fun v9 => ((cIs v9 D.non).bind fun t12 => if t12 = true then some true else (cIn v9 (D.lst s3)).bind fun t14 => if t14 = true then some true else (cIn (D.int 0) (D.lst s3)).bind fun t15 => some t15).bind fun t16 => if t16 = true then some (.ret (.error (Z "InvalidText", [("word", p8.1), ("line", (D.int 0))]))) else (chk (s3.length < 1000000) ()).bind fun _ => some (.go (s3 ++ [v9]))) [] l2).bind fun c6 => ctl c6 (fun (r4 : List D) => (lList (D.lst r4)).bind fun l18 => some (.ok (D.tup l18))) (fun v => some v)
def F_order_positions (Z : Str → Addr) (x0 : D) : Option (Except Er D) :=
  (F_lines_in Z x0).bind fun r3 => exC r3 (fun e2 => some (.error e2)) (fun v1 => (stD1 v1).bind fun p4 => (cEq x0 (D.str "-")).bind fun t5 => if t5 = true then (cNe p4.2 (D.lst [])).bind fun t7 => if t7 = true then some (.error (Z "InvalidText", [("word", (D.int 0)), ("line", (D.int 1))])) else some (.ok (D.tup [])) else (F_positions_in Z p4.1).bind fun r10 => exC r10 (fun e9 => some (.error e9)) (fun v8 => (cNe p4.2 (D.lst [])).bind fun t12 => if t12 = true then some (.error (Z "InvalidText", [("word", (D.int 0)), ("line", (D.int 1))])) else some (.ok v8)))
def F_is_between (x0 : D) (x1 : D) (x2 : D) : Option (D) :=
  ((dIsi "int" x0).bind fun t2 => (dTru (D.bl t2)).bind fun t3 => if t3 = true then (dIsi "bool" x0).bind fun t5 => (dTru (D.bl t5)).bind fun t6 => (dTru (D.bl (!t6))).bind fun t7 => if t7 = true then (cLe x1 x0).bind fun t9 => if t9 = true then (cLe x0 x2).bind fun t10 => some (D.bl t10) else some (D.bl false) else some (D.bl (!t6)) else some (D.bl t2)).bind fun v11 => some v11
def F_first_ones (x0 : D) : Option (D) :=
  (dIter x0).bind fun l2 => (loopC (fun (s3 : List D) x5 => ((cNe (D.lst s3) (D.lst [])).bind fun t10 => if t10 = true then (dIx (D.lst s3) (D.int (-1))).bind fun v11 => (cEq v11 (D.int 0)).bind fun t12 => some t12 else some false).bind fun t13 => if t13 = true then some (.brk s3) else ((cNin x5 (D.lst s3)).bind fun t16 => if t16 = true then (chk (s3.length < 1000000) ()).bind fun _ => some (s3 ++ [x5]) else some s3).bind fun (r15 : List D) => some (.go r15)) [] l2).bind fun c6 => ctl c6 (fun (r4 : List D) => (lList (D.lst r4)).bind fun l18 => some (D.tup l18)) (fun v => some v)
def F_Order___init__ (Z : Str → Addr) (x1 : D) : Option (Except Er (List (Str × D))) :=
  (dEnum x1).bind fun l1 => (loopC (fun (s2 : Unit) x4 => (un2 x4).bind fun p7 => (mthC (Z "Order") "GREATEST" (D.ins (Z "Order") ([] : List (Str × D)))).bind fun g9 => (F_is_between p7.2 (D.int 0) (D.int 24)).bind fun v10 => (dTru v10).bind fun t11 => if (!t11) = true then some (.ret (.error (Z "InvalidPosition", [("index", p7.1)]))) else some (.go ())) () l1).bind fun c5 => ctl c5 (fun (r3 : Unit) => (F_first_ones x1).bind fun v12 => (chk (([] : List (Str × D)).length < 1000) ()).bind fun _ => some (.ok (putG "entries" v12 ([] : List (Str × D))))) (fun v => some v)
def F_read_order (Z : Str → Addr) (x0 : D) : Option (Except Er D) :=
  (F_order_positions Z x0).bind fun r3 => exC r3 (fun e2 => some (.error e2)) (fun v1 => (itemsD v1).bind fun l4 => (chk ((l4).length ≤ 1000000) ()).bind fun _ => (F_Order___init__ Z (D.tup l4)).bind fun r9 => exC r9 (fun e8 => some (.error e8)) (fun v6 => some (.ok (D.ins (Z "Order") v6))))
def F_Lright (Z : Str → Addr) (x0 : D) : Option (D) :=
  (F_Ldue x0).bind fun v1 => ((F_read_order Z x0).bind fun r6 => exC r6 (fun e5 => some (.error e5)) (fun v4 => some (.ok v4))).bind fun r2 => (F_Lheard Z r2).bind fun v3 => ((F_read_order Z x0).bind fun r12 => exC r12 (fun e11 => some (.error e11)) (fun v10 => some (.ok v10))).bind fun r8 => (F_Lheard Z r8).bind fun v9 => (chk ([v3].length < 1000000) ()).bind fun _ => (dReprR (D.lst ([v3] ++ [v9]))).bind fun v14 => ((cIs v1 D.non).bind fun t15 => if t15 = true then some (D.lst [x0]) else some v1).bind fun v17 => (dMul (D.lst [v17]) (D.int 2)).bind fun v18 => (dReprR v18).bind fun v19 => (cEq v14 v19).bind fun t20 => some (D.bl t20)
def F_law (Z : Str → Addr) (x0 : D) : Option (D) :=
  (F_Lpen x0).bind fun v1 => (dRange [(D.int 8)]).bind fun l3 => (loopC (fun (s4 : List D) x6 => (F_Lline s4).bind fun v9 => (F_Lbent v9.2 v9.1).bind fun v10 => (F_Ldraw v10.2 (D.int 8)).bind fun v11 => (dIx (D.lst [D.non, (D.int 0), (D.bl true), (D.lst [v9.1]), (D.tup [v9.1]), (D.dct []), (D.lst []), (D.int 24)]) v11.1).bind fun v12 => (F_Lbent v11.2 v10.1).bind fun v13 => (F_Lbent v13.2 v9.1).bind fun v14 => (dIter (D.lst [v9.1, v10.1, v13.1, v14.1, v12])).bind fun l16 => (chk (l16.length ≤ 1000000) ()).bind fun _ => (filtO (fun x18 => (F_Lright Z x18).bind fun v23 => (dTru v23).bind fun t24 => if (!t24) = true then some (some x18) else some none) l16).bind fun y19 => (cNe (D.lst y19) (D.lst [])).bind fun t26 => if t26 = true then some (.ret (D.bl false)) else some (.go v14.2)) v1 l3).bind fun c7 => ctl c7 (fun (r5 : List D) => (dMul (D.str "9") (D.int 5000)).bind fun v27 => (dMul (D.str "9") (D.int 5000)).bind fun v28 => (dAdd (D.str "1 ") v28).bind fun v29 => (dMul (D.str "0") (D.int 5000)).bind fun v30 => (dAdd (D.lst [(D.str ""), (D.str " "), (D.str "-"), (D.str "- "), (D.str " -"), (D.str "- 1"), (D.str "1 -"), (D.str "-\n"), (D.str "0"), (D.str "0 0"), (D.str "2 0 1"), (D.str "2 2"), (D.str "2  1"), (D.str "24 25"), (D.str "\n"), (D.str "1\n")]) (D.lst [v27, v29, v30, (D.str "1_0"), (D.str "1 2_0")])).bind fun v31 => (dIter v31).bind fun l32 => (chk (l32.length ≤ 1000000) ()).bind fun _ => (filtO (fun x34 => (F_Lright Z x34).bind fun v39 => (dTru v39).bind fun t40 => if (!t40) = true then some (some x34) else some none) l32).bind fun y35 => (cEq (D.lst y35) (D.lst [])).bind fun t42 => some (D.bl t42)) (fun v => some v)
end
end My
namespace My
open PySem PySem.Spec L2 DX SX PyProof.Rows StX LamX
def topS (i : Nat) : Stmt := PySem.Challenge.pw_carryprobe_k92_texts_of_orders_refused.main.body.getD i (.Pass ⟨0, 0, 0, 0⟩)
abbrev s_Lpen : Stmt := topS 31
abbrev s_Ldraw : Stmt := topS 32
abbrev s_Lline : Stmt := topS 35
abbrev s_Lbent : Stmt := topS 36
abbrev s_Lis_position : Stmt := topS 33
abbrev s_Ldue : Stmt := topS 34
abbrev s_Order_positions : Stmt := inClass (topS 16) 2
abbrev s_show_order : Stmt := topS 29
abbrev s_Lheard : Stmt := topS 37
abbrev s_lines_in : Stmt := topS 22
abbrev s_number_in : Stmt := topS 21
abbrev s_positions_in : Stmt := topS 23
abbrev s_order_positions : Stmt := topS 24
abbrev s_is_between : Stmt := topS 8
abbrev s_first_ones : Stmt := topS 15
abbrev s_Order___init__ : Stmt := inClass (topS 16) 1
abbrev s_read_order : Stmt := topS 26
abbrev s_Lright : Stmt := topS 38
abbrev s_law : Stmt := topS 39
abbrev s_InvalidText___init__ : Stmt := inClass (topS 3) 0
abbrev s_InvalidPosition___init__ : Stmt := inClass (topS 2) 0
abbrev tl : TbL := [(("_law_right", none), "_law_right.<locals>.<lambda>")]
def dd_Lpen : He.DefD := ⟨("_law_pen", none), "_law_pen", "_law_pen", defArgs s_Lpen, defBody s_Lpen, defScope s_Lpen, [], []⟩
def dd_Ldraw : He.DefD := ⟨("_law_draw", none), "_law_draw", "_law_draw", defArgs s_Ldraw, defBody s_Ldraw, defScope s_Ldraw, [], []⟩
def dd_Lline : He.DefD := ⟨("_law_line", none), "_law_line", "_law_line", defArgs s_Lline, defBody s_Lline, defScope s_Lline, [], []⟩
def dd_Lbent : He.DefD := ⟨("_law_bent", none), "_law_bent", "_law_bent", defArgs s_Lbent, defBody s_Lbent, defScope s_Lbent, [], []⟩
def dd_Lis_position : He.DefD := ⟨("_law_is_position", none), "_law_is_position", "_law_is_position", defArgs s_Lis_position, defBody s_Lis_position, defScope s_Lis_position, [], []⟩
def dd_Ldue : He.DefD := ⟨("_law_due", none), "_law_due", "_law_due", defArgs s_Ldue, defBody s_Ldue, defScope s_Ldue, [], []⟩
def dd_show_order : He.DefD := ⟨("show_order", none), "show_order", "show_order", defArgs s_show_order, defBody s_show_order, defScope s_show_order, [], []⟩
def dd_Lheard : He.DefD := ⟨("_law_heard", none), "_law_heard", "_law_heard", defArgs s_Lheard, defBody s_Lheard, defScope s_Lheard, [], []⟩
def dd_lines_in : He.DefD := ⟨("lines_in", none), "lines_in", "lines_in", defArgs s_lines_in, defBody s_lines_in, defScope s_lines_in, [], []⟩
def dd_number_in : He.DefD := ⟨("number_in", none), "number_in", "number_in", defArgs s_number_in, defBody s_number_in, defScope s_number_in, [], []⟩
def dd_positions_in : He.DefD := ⟨("positions_in", none), "positions_in", "positions_in", defArgs s_positions_in, defBody s_positions_in, defScope s_positions_in, [], []⟩
def dd_order_positions : He.DefD := ⟨("order_positions", none), "order_positions", "order_positions", defArgs s_order_positions, defBody s_order_positions, defScope s_order_positions, [], []⟩
def dd_is_between : He.DefD := ⟨("is_between", none), "is_between", "is_between", defArgs s_is_between, defBody s_is_between, defScope s_is_between, [], []⟩
def dd_first_ones : He.DefD := ⟨("first_ones", none), "first_ones", "first_ones", defArgs s_first_ones, defBody s_first_ones, defScope s_first_ones, [], []⟩
def dd_Order___init__ : He.DefD := ⟨("Order", some "__init__"), "__init__", "Order.__init__", defArgs s_Order___init__, defBody s_Order___init__, defScope s_Order___init__, [], []⟩
def dd_read_order : He.DefD := ⟨("read_order", none), "read_order", "read_order", defArgs s_read_order, defBody s_read_order, defScope s_read_order, [], []⟩
def dd_Lright : He.DefD := ⟨("_law_right", none), "_law_right", "_law_right", defArgs s_Lright, defBody s_Lright, defScope s_Lright, [], []⟩
def dd_law : He.DefD := ⟨("law", none), "law", "law", defArgs s_law, defBody s_law, defScope s_law, [], []⟩
def dd_InvalidText___init__ : He.DefD := ⟨("InvalidText", some "__init__"), "__init__", "InvalidText.__init__", defArgs s_InvalidText___init__, defBody s_InvalidText___init__, defScope s_InvalidText___init__, [], []⟩
def dd_InvalidPosition___init__ : He.DefD := ⟨("InvalidPosition", some "__init__"), "__init__", "InvalidPosition.__init__", defArgs s_InvalidPosition___init__, defBody s_InvalidPosition___init__, defScope s_InvalidPosition___init__, [], []⟩
def dp_Order_positions : DX.PrD := ⟨0, "Order", "positions", "Order.positions", defArgs s_Order_positions, defBody s_Order_positions, defScope s_Order_positions⟩
def fn : List He.DefD := [dd_Lpen, dd_Ldraw, dd_Lline, dd_Lbent, dd_Lis_position, dd_Ldue, dd_show_order, dd_Lheard, dd_lines_in, dd_number_in, dd_positions_in, dd_order_positions, dd_is_between, dd_first_ones, dd_Order___init__, dd_read_order, dd_Lright, dd_law, dd_InvalidText___init__, dd_InvalidPosition___init__]
def fa : List He.Fa := [.glo "_law_pen", .glo "_law_draw", .glo "_law_line", .glo "_law_bent", .glo "_law_is_position", .glo "_law_due", .glo "show_order", .glo "_law_heard", .glo "lines_in", .glo "number_in", .glo "positions_in", .glo "order_positions", .glo "is_between", .glo "first_ones", .glo "read_order", .glo "_law_right", .glo "law", .noat "Order" "entries", .cls "Order", .glo "InvalidPosition", .glo "InvalidText", .glo "ProbeError", .glo "AbsentError", .mkr "Order", .glo "Order", .free "ValueError", .free "abs", .free "bool", .free "enumerate", .free "int", .free "isinstance", .free "len", .free "list", .free "range", .free "repr", .free "str", .free "tuple", .str "DIGITS" "0123456789", .str "EMPTY" "-", .int "MOST_BITS" 24, .int "MOST_DIGITS" 3, .str "NO_POSITIONS" "-"]
abbrev R : PySem.W.OpenRow := PySem.W.OpenLaw.row PySem.Challenge.rw_carryprobe_k92_texts_of_orders_refused
def exq (K : PySem.W.Frag) : Bool := (allB K (["InvalidText", "InvalidPosition"] : List PySem.Str) fun C => decide (PySem.W.exmAny K (.ref C) [.ref (He.ga K "ProbeError"), .ref (He.ga K "AbsentError")] = some true)) && (allB K (["InvalidText", "InvalidPosition"] : List PySem.Str) fun C => excB K C) && (allB K (["InvalidText", "InvalidPosition"] : List PySem.Str) fun C => decide (PySem.W.kitOne K (.ref C) (.ref (He.ga K "InvalidText")) = some (decide (C ∈ (["InvalidText"] : List PySem.Str).map (Zk K))))) && ((["NoneType", "bool", "int", "str", "tuple", "list", "dict"] : List String).all fun n => decide (PySem.W.kitOne K (.type n) (.ref (He.ga K "InvalidText")) = some false)) && (allB K (["InvalidText", "InvalidPosition"] : List PySem.Str) fun C => decide (PySem.W.kitOne K (.ref C) (.type "ValueError") = some (decide (C ∈ (["InvalidText", "InvalidPosition"] : List PySem.Str).map (Zk K))))) && ((["NoneType", "bool", "int", "str", "tuple", "list", "dict"] : List String).all fun n => decide (PySem.W.kitOne K (.type n) (.type "ValueError") = some false)) && (allB K (["InvalidText", "InvalidPosition"] : List PySem.Str) fun C => decide (PySem.W.kitOne K (.ref C) (.ref (He.ga K "InvalidPosition")) = some (decide (C ∈ (["InvalidPosition"] : List PySem.Str).map (Zk K))))) && ((["NoneType", "bool", "int", "str", "tuple", "list", "dict"] : List String).all fun n => decide (PySem.W.kitOne K (.type n) (.ref (He.ga K "InvalidPosition")) = some false)) && (allB K (["InvalidText"] : List PySem.Str) fun C => (excB K C && He.eqO (PySem.W.findIn K (.ref C) "line") (some none))) && (allB K (["InvalidText"] : List PySem.Str) fun C => (excB K C && He.eqO (PySem.W.findIn K (.ref C) "word") (some none))) && (errB "ValueError.__new__" mroV K "InvalidText") && (He.eqO (PySem.W.findIn K (.ref (He.ga K "InvalidText")) "line") (some none)) && (He.eqO (PySem.W.findIn K (.ref (He.ga K "InvalidText")) "word") (some none)) && (DX.conB K "Order" "GREATEST" 24) && (errB "ValueError.__new__" mroV K "InvalidPosition") && (He.eqO (PySem.W.findIn K (.ref (He.ga K "InvalidPosition")) "index") (some none)) && (decide (Hz (Zk K))) && sysB K
def pr : List DX.PrD := [dp_Order_positions]
abbrev hk : PySem.W.Hook := DX.hookT 5 fa fn pr exq tl
def ob (s : PySem.W.SharedT) : DX.LookT := DX.lookT fa fn pr exq tl 5 (HandSHeadRun.getT s)
theorem ob_eq (s : PySem.W.SharedT) : ob s = hk.obs s.abs := DX.lookT_eq (HandSHeadRun.getT_eq s)
def loose : List PySem.Str := (["ProbeError", "InvalidPosition", "InvalidText", "AbsentError", "NoPlace", "MOST_BITS", "is_between", "PASS", "state_at", "first_state", "first_ones", "Order", "EMPTY", "DIGITS", "MOST_DIGITS", "number_in", "lines_in", "positions_in", "order_positions", "read_order", "NO_POSITIONS", "show_order", "_law_pen", "_law_draw", "_law_is_position", "_law_due", "_law_line", "_law_bent", "_law_heard", "_law_right"] : List PySem.Str)
theorem run (w : World) : HandSHeadRun.RunEq R (PySem.W.view R.prog [39]) hk ob 12000 loose w := by
  intro os
  kernel_rfl
end My
namespace My
open PySem PySem.Spec L2 DX SX
/-! ### what draws -/
def penL (s : Hs) : List D := [.lst (s.cells.map D.int), .int s.at_, .int s.gr]
theorem ixN_of {n : Nat} {i : Int} (h0 : 0 ≤ i) (h1 : i < n) : ixN n i = some i.toNat := by unfold ixN; rw [if_pos h0, if_pos h1]
theorem atI_of_get {α : Type} {l : List α} {i : Int} {x : α} (h0 : 0 ≤ i) (h : l[i.toNat]? = some x) : atI l i = some x := by
  have : i.toNat < l.length := by
    by_cases q : i.toNat < l.length
    · exact q
    · rw [List.getElem?_eq_none (by omega)] at h; cases h
  unfold atI
  rw [ixN_of h0 (by omega)]
  exact h
theorem nilB_ints {ns : List Int} : cEq (.lst (ns.map D.int)) (.lst []) = some ns.isEmpty := by
  have : sc (.lst (ns.map D.int)) (.lst []) = false := rfl
  unfold cEq
  rw [this]
  simp only [Bool.false_eq_true, if_false]
  rw [show nilB (.lst (ns.map D.int)) (.lst []) = true from intsB_map ns]
  cases ns <;> rfl
theorem cp_mixL {x a c b e m : Int} (h : 0 ≤ a ∧ a ≤ 1000000) (hc : 0 ≤ c ∧ c ≤ 200000) (hb : 0 ≤ b ∧ b ≤ 100000) (he : 0 ≤ e ∧ e ≤ 1000) (hm : 0 < m ∧ m ≤ 2147483648) : CPow (x % m * (2 * a + b) + c * a * a + e) 3 := by
  have h1 : 0 ≤ x % m := Int.emod_nonneg _ (by omega)
  have h2 : x % m < m := Int.emod_lt_of_pos _ (by omega)
  have h3 : 0 ≤ x % m * (2 * a + b) := Int.mul_nonneg h1 (by omega)
  have h4 : x % m * (2 * a + b) ≤ 2147483648 * 2100000 := Int.mul_le_mul (by omega) (by omega) (by omega) (by omega)
  have h5 : 0 ≤ c * a := Int.mul_nonneg hc.1 h.1
  have h6 : c * a ≤ 200000 * 1000000 := Int.mul_le_mul (by omega) (by omega) (by omega) (by omega)
  have h7 : 0 ≤ c * a * a := Int.mul_nonneg h5 h.1
  have h8 : c * a * a ≤ 200000 * 1000000 * 1000000 := Int.mul_le_mul (by omega) (by omega) (by omega) (by omega)
  exact ⟨by omega, by omega, by omega⟩
theorem cmul_small {i j : Int} (h : -(2 ^ 63) ≤ i ∧ i ≤ 2 ^ 63) : CMul i j := .inl ⟨by omega, by omega⟩
theorem cmul_smallr {i j : Int} (h : -(2 ^ 63) ≤ j ∧ j ≤ 2 ^ 63) : CMul i j := .inr ⟨by omega, by omega⟩
theorem dIntT_b {p : Bool} : dIntT (.bl p) = some (.int (if p = true then 1 else 0)) := rfl
theorem fin_take {m b : Int} (hb : 0 < b) : 0 ≤ m % b ∧ m % b < b := ⟨Int.emod_nonneg _ (by omega), Int.emod_lt_of_pos _ hb⟩
theorem pen_set1 {s : Hs} {v : D} : lSet (penL s) (.int 1) v = some [.lst (s.cells.map D.int), v, .int s.gr] := rfl
theorem pen_set2 {c : D} {a g v : D} : lSet [c, a, g] (.int 2) v = some [c, a, v] := rfl
theorem pen_at0 {c a g : D} : dIx (.lst [c, a, g]) (.int 0) = some c := rfl
theorem pen_at1 {c a g : D} : dIx (.lst [c, a, g]) (.int 1) = some a := rfl
theorem pen_at2 {c a g : D} : dIx (.lst [c, a, g]) (.int 2) = some g := rfl
theorem draw_ok {s : Hs} {n b : Int} (h : HOk s n) (hn : n ≤ 1000000) (hb : 0 < b ∧ b < 1000000000) : Gives (F_Ldraw (penL s) (.int b)) fun q => ∃ k s', q = (.int k, penL s') ∧ 0 ≤ k ∧ k < b ∧ HOk s' (n + 1) := by
  obtain ⟨a0, an, g0⟩ := h
  have hcd : CDiv s.gr b := ⟨hb.1, by omega⟩
  unfold F_Ldraw penL
  rw [pen_at2]
  simp only [Option.bind_some, cGt_ii]
  by_cases hg : (0 : Int) < s.gr
  · rw [if_pos (decide_eq_true hg)]
    simp only [dMod_ii, dFdiv_ii, pen_set2, Option.bind_some, chk_pos hb.1, chk_pos hcd]
    exact .mk ⟨_, ⟨s.cells, s.at_, s.gr / b⟩, rfl, (fin_take hb.1).1, (fin_take hb.1).2, ⟨a0, by show s.at_ ≤ n + 1; omega, Int.ediv_nonneg g0 (by omega)⟩⟩
  rw [if_neg (by simpa using hg)]
  rw [pen_at1]
  simp only [Option.bind_some, dAdd_ii]
  rw [show lSet [D.lst (s.cells.map D.int), .int s.at_, .int s.gr] (.int 1) (.int (s.at_ + 1)) = some [D.lst (s.cells.map D.int), .int (s.at_ + 1), .int s.gr] from rfl]
  have hc1 : CMul 39763 s.at_ := cmul_small (by omega)
  simp only [Option.bind_some, dMul_ii, chk_pos hc1, dAdd_ii, pen_at0, cNe_of, nilB_ints, Option.map_some, dLen_l, List.length_map]
  refine .bind (Gives.imp (Q := fun r => ∃ q : Int, r = D.int q) ?_ fun r hr => ?_)
  · by_cases he : s.cells.isEmpty = true
    · rw [he]; exact .mk ⟨_, rfl⟩
    · have he : s.cells.isEmpty = false := by simpa using he
      have hl : (0 : Int) < (s.cells.length : Int) := by
        cases hcs : s.cells with
        | nil => rw [hcs] at he; cases he
        | cons a l => simp only [List.length_cons]; omega
      rw [he, if_pos (by rfl)]
      simp only [dMod_ii, chk_pos hl, Option.bind_some, dIx_li]
      have e1 := fin_take (m := s.at_) hl
      rw [atI_of_get (x := .int (s.cells.getD (s.at_ % (s.cells.length : Int)).toNat 0)) e1.1 (by rw [List.getElem?_map, List.getD_eq_getElem?_getD, List.getElem?_eq_getElem (by omega)]; rfl)]
      exact .mk ⟨_, rfl⟩
  obtain ⟨q, rfl⟩ := hr
  refine .bind (Gives.imp (Q := fun t => t = true → (10 : Int) ^ (18 : Int).toNat ≤ (if q < 0 then -q else q)) ?_ fun t ht => ?_)
  · simp only [cLt_ii, Option.bind_some]
    split
    · simp only [dAbs_i, dPow_ii, Option.bind_some]
      rw [chk_pos (show CPow 10 18 from ⟨by decide, by decide, by decide⟩)]
      exact .mk fun z => of_decide_eq_true z
    · exact .mk fun z => nomatch z
  cases t with
  | true =>
    rw [if_pos rfl]
    have hcd : ∀ i, CDiv i b := fun i => ⟨hb.1, by omega⟩
    simp only [dAbs_i, dPow_ii, Option.bind_some, chk_pos (show CPow 10 18 from ⟨by decide, by decide, by decide⟩), dSub_ii, dMul_ii]
    rw [chk_pos (show CMul 2 _ from cmul_small (by decide))]
    simp only [Option.bind_some, cLt_ii, dInt_b, dIntT_b, dAdd_ii, dFdiv_ii, dMod_ii, chk_pos (hcd _), chk_pos hb.1, pen_set2]
    have big : (0 : Int) ≤ 2 * ((if q < 0 then -q else q) - 10 ^ (18 : Int).toNat) + (if decide (q < 0) = true then 1 else 0) := by
      have := ht rfl
      generalize (10 : Int) ^ (18 : Int).toNat = z at this ⊢
      split <;> split at this <;> omega
    exact .mk ⟨_, ⟨s.cells, s.at_ + 1, _⟩, rfl, (fin_take hb.1).1, (fin_take hb.1).2, ⟨by show 0 ≤ s.at_ + 1; omega, by show s.at_ + 1 ≤ n + 1; omega, Int.ediv_nonneg big (by omega)⟩⟩
  | false =>
    rw [if_neg (by decide)]
    have p1 : CPow (q % 2147483629 + 50865 * s.at_ + 221) 5 := by
      have := fin_take (m := q) (b := 2147483629) (by decide)
      exact ⟨by omega, by omega, by omega⟩
    have p3 : ∀ z : Int, CMul (z % 2147483489) (2 * s.at_ + 199) := fun z => by
      have := fin_take (m := z) (b := 2147483489) (by decide)
      exact cmul_small (by omega)
    simp only [dMod_ii, dMul_ii, dAdd_ii, dPow_ii, dFdiv_ii, Option.bind_some, chk_pos (show (0 : Int) < 2147483629 by decide), chk_pos (show (0 : Int) < 2147483489 by decide), chk_pos (show (0 : Int) < 2147483587 by decide), chk_pos (show CMul 50865 s.at_ from cmul_small (by omega)),
      chk_pos (show CMul 2 s.at_ from cmul_small (by omega)), chk_pos (show CMul 71105 s.at_ from cmul_small (by omega)), chk_pos (show CMul (71105 * s.at_) s.at_ from cmul_smallr (by omega)), chk_pos p1, chk_pos (p3 _), chk_pos (cp_mixL (x := _) (a := s.at_) (c := 71105) (b := 199) (e := 103) (m := 2147483489) ⟨a0, by omega⟩ (by decide) (by decide) (by decide) (by decide)), chk_pos (show CDiv _ 32 from ⟨by decide, by decide⟩), chk_pos hb.1]
    exact .mk ⟨_, ⟨s.cells, s.at_ + 1, s.gr⟩, rfl, (fin_take hb.1).1, (fin_take hb.1).2, ⟨by show 0 ≤ s.at_ + 1; omega, by show s.at_ + 1 ≤ n + 1; omega, g0⟩⟩
theorem pen_ok (ns : List Int) : F_Lpen (.scr ns) = some (penL ⟨ns.take 63, 0, 0⟩) := rfl
theorem pen_hok (ns : List Int) : HOk ⟨ns.take 63, 0, 0⟩ 0 := ⟨Int.le_refl 0, Int.le_refl 0, Int.le_refl 0⟩
/-! ### states, orders, carries -/
theorem S_len' {l : List Nat} : (S l).length = l.length := S_len l
theorem atI_str {l : List Nat} {i : Int} (h : 0 ≤ i ∧ i < (l.length : Int)) : atI (S l).cps.toList i = some (l.getD i.toNat 0) := by
  rw [tl_S]
  exact atI_of_get h.1 (by rw [List.getD_eq_getElem?_getD, List.getElem?_eq_getElem (by omega)]; rfl)
theorem dIx_S {l : List Nat} {i : Int} (h : 0 ≤ i ∧ i < (l.length : Int)) (hl : l.length ≤ 1000000) : dIx (.str (S l)) (.int i) = some (.str (S [l.getD i.toNat 0])) := by
  rw [dIx_si, atI_str h, Option.bind_some, S_len, chk_pos hl]
theorem S1_eq {c d : Nat} : (S [c] = S [d]) ↔ c = d := by
  constructor
  · intro h
    have := congrArg (fun z : Str => z.cps.toList) h
    simpa using this
  · rintro rfl; rfl
theorem cEq_S1 {c d : Nat} : cEq (.str (S [c])) (.str (S [d])) = some (decide (c = d)) := by
  rw [cEq_ss]; congr 1; exact decide_eq_decide.mpr S1_eq
theorem first_find {l : List Nat} : ∀ {ps : List Int}, firstS l ps = ((ps.findSome? fun p => if stp l p ≠ 80 then some (stp l p) else none).getD 80)
  | [] => rfl
  | p :: ps => by
    rw [List.findSome?_cons, firstS]
    by_cases h : stp l p = 80
    · rw [if_pos h, if_neg (by simpa using h)]
      exact first_find
    · rw [if_neg h, if_pos h]; rfl
/-! ### data that are shown and compared -/
theorem goods_map {α : Type} {f : α → D} : ∀ {l : List α}, (∀ a ∈ l, good (f a)) → goods (l.map f)
  | [], _ => trivial
  | a :: l, h => ⟨h a List.mem_cons_self, goods_map fun b hb => h b (List.mem_cons_of_mem _ hb)⟩
theorem deps_map {α : Type} {f : α → D} {k : Nat} : ∀ {l : List α}, (∀ a ∈ l, dep (f a) ≤ k) → deps (l.map f) ≤ k
  | [], _ => Nat.zero_le _
  | a :: l, h => by
    rw [List.map_cons, deps]
    exact Nat.max_le.mpr ⟨h a List.mem_cons_self, deps_map fun b hb => h b (List.mem_cons_of_mem _ hb)⟩
theorem wts_map {α : Type} {f : α → D} {k : Nat} : ∀ {l : List α}, (∀ a ∈ l, wt (f a) ≤ k) → wts (l.map f) ≤ l.length * (k + 2)
  | [], _ => Nat.zero_le _
  | a :: l, h => by
    rw [List.map_cons, wts, List.length_cons, Nat.succ_mul]
    have := wts_map (l := l) fun b hb => h b (List.mem_cons_of_mem _ hb)
    have := h a List.mem_cons_self
    omega
theorem dRepr_ok {d : D} (h : good d) (hw : wt d ≤ 16000000) (hd : dep d ≤ 50) : dRepr d = some (.str (txt d)) := chk_pos ⟨h, hw, hd⟩
theorem dRepr_b {b : Bool} : dRepr (.bl b) = some (.str (txt (.bl b))) := dRepr_ok trivial (by simp [wt]) (by simp [dep])
theorem dRepr_i {i : Int} (h : -(2 ^ 200) ≤ i ∧ i ≤ 2 ^ 200) : dRepr (.int i) = some (.str (txt (.int i))) := dRepr_ok h (by simp [wt]) (by simp [dep])
theorem cEq_good {a b : D} (hs : sc a b = false) (hn : nilB a b = false) (ha : good a) (hb : good b) (da : dep a ≤ 50) (db : dep b ≤ 50) : cEq a b = some (eqD a b) := by
  unfold cEq
  rw [hs, hn]
  simp only [Bool.false_eq_true, if_false]
  rw [chk_pos ⟨ha, hb, da, db⟩]
theorem eqD_nil {ds : List D} : eqD (.lst ds) (.lst []) = ds.isEmpty := by
  cases ds with
  | nil => simp [eqD, pyd, pyds, PyData.eqv, PyData.eqvAll]
  | cons d ds => simp [eqD, pyd, pyds, PyData.eqv, PyData.eqvAll]
theorem cEq_nil {ds : List D} (hg : goods ds) (hd : deps ds ≤ 40) : cEq (.lst ds) (.lst []) = some ds.isEmpty := by
  by_cases h : nilB (.lst ds) (.lst []) = true
  · unfold cEq
    rw [show sc (.lst ds) (.lst []) = false from rfl, h]; rfl
  · rw [cEq_good rfl (by simpa using h) (a := .lst ds) hg (show good (.lst []) from trivial) (by rw [dep]; omega) (by simp [dep, deps]), eqD_nil]
theorem flDs_map {α : Type} {f : α → D} {g : α → V} : ∀ {l : List α}, (∀ a ∈ l, flD (f a) = some (g a)) → flDs (l.map f) = some (l.map g)
  | [], _ => rfl
  | a :: l, h => by
    rw [List.map_cons, flDs, h a List.mem_cons_self, Option.bind_some, flDs_map fun b hb => h b (List.mem_cons_of_mem _ hb)]
    rfl
theorem cIn_strs {z : Str} {zs : List Str} : cIn (.str z) (.lst (zs.map D.str)) = some (decide (z ∈ zs)) := by
  unfold cIn
  simp only [flD, Option.bind_some, items_l, flDs_strs]
  rw [inV_strs]
  congr 1
  by_cases h : z ∈ zs
  · rw [decide_eq_true h, List.any_eq_true]
    exact ⟨z, h, by simp⟩
  · rw [decide_eq_false h, List.any_eq_false]
    intro y hy
    simp only [decide_eq_true_eq]
    rintro rfl
    exact h hy
/-- a loop that is never left -/
theorem gives_loop {S R : Type} {f : S → D → Option (Ctl S R)} {xs : List D} {s : S} (I : Nat → S → Prop) (h0 : I 0 s) (h : ∀ i x s, xs[i]? = some x → I i s → Gives (f s x) fun c => ∃ s', c = .go s' ∧ I (i + 1) s') : Gives (loopC f s xs) fun c => ∃ s', c = .go s' ∧ I xs.length s' := by
  induction xs generalizing s I with
  | nil => exact ⟨.go s, rfl, s, rfl, h0⟩
  | cons x xs ih =>
    rw [loopC]
    refine .bind ((h 0 x s rfl h0).imp fun c hc => ?_)
    obtain ⟨s', rfl, h1⟩ := hc
    exact ih (fun i => I (i + 1)) h1 fun i y s2 hy => h (i + 1) y s2 (by simpa using hy)
theorem ok_enough : PyData.strOk (Str.ofString "enough") = true := by decide +kernel
/-! ### letters that are drawn -/
theorem getD_in {α : Type} {l : List α} {x : α} {i : Nat} (h : i < l.length) : l.getD i x ∈ l := by
  rw [List.getD_eq_getElem?_getD, List.getElem?_eq_getElem h]; exact List.getElem_mem h
theorem dJoin_sgl {L : List Nat} (h : L.length ≤ 1000000) : dJoinS "" (.lst (sgl L)) = some (.str (S L)) := by
  unfold dJoinS
  rw [items_l, Option.bind_some, chk_pos ⟨sgl_all L, by rw [sgl_size]; have : ("" : Str).length = 0 := rfl; rw [this]; omega⟩, join_sgl]
theorem S_cat {a b : List Nat} : S a ++ S b = S (a ++ b) := by
  show Str.mk _ = Str.mk _
  congr 1
  simp
theorem stp_last {L : List Nat} {c0 : Nat} : stp (c0 :: L).reverse 0 = c0 := by
  unfold stp
  rw [List.reverse_cons, List.length_append, List.length_singleton, List.getD_eq_getElem?_getD, List.getElem?_append_right (by simp)]
  simp
theorem isS_all {L : List Nat} (h : L.all (fun c => decide (c = 71 ∨ c = 75 ∨ c = 80)) = true) : ∀ c ∈ L, isS c := fun c hc => (of_decide_eq_true (List.all_eq_true.mp h c hc) : c = 71 ∨ c = 75 ∨ c = 80)
theorem isS71 : isS 71 := .inl rfl
theorem isS75 : isS 75 := .inr (.inl rfl)
theorem isS80 : isS 80 := .inr (.inr rfl)
/-- n drawn letters -/
theorem letters_ok {f : List D → D → Option (D × List D)} {A : List Nat} {n : Nat} {s : Hs} {m : Int} (hs : HOk s m) (hm : m + n ≤ 1000000) (hA : ∀ c ∈ A, isS c) (hf : ∀ s m x, HOk s m → m ≤ 1000000 → Gives (f (penL s) x) fun q => ∃ c s', q = (.str (S [c]), penL s') ∧ c ∈ A ∧ HOk s' (m + 1)) :
    Gives (mapS f (penL s) (rngD 0 n)) fun q => ∃ L s', q = (sgl L, penL s') ∧ L.length = n ∧ (∀ c ∈ L, isS c) ∧ HOk s' (m + n) := by
  refine (gives_mapS (fun i acc s' => i ≤ n → ∃ L s'', acc = sgl L ∧ s' = penL s'' ∧ L.length = i ∧ (∀ c ∈ L, isS c) ∧ HOk s'' (m + i)) (fun _ => ⟨[], s, rfl, rfl, rfl, fun c hc => absurd hc List.not_mem_nil, by simpa using hs⟩) fun i x acc s' hx hI => ?_).imp fun q hq => ?_
  · have hi : i < n := by
      have := len_at hx
      rwa [rngD_len] at this
    obtain ⟨L, s2, rfl, rfl, hl, hL, h2⟩ := hI (by omega)
    refine (hf s2 (m + i) x h2 (by omega)).imp fun q hq => ?_
    obtain ⟨c, s3, rfl, hc, h3⟩ := hq
    refine fun _ => ⟨L ++ [c], s3, by rw [← sgl_app]; rfl, rfl, by rw [List.length_append, hl]; rfl, fun d hd => ?_, by rw [show m + ((i + 1 : Nat) : Int) = m + i + 1 by omega]; exact h3⟩
    rcases List.mem_append.mp hd with hd | hd
    · exact hL d hd
    · rw [List.mem_singleton] at hd; rw [hd]; exact hA c hc
  · rw [rngD_len] at hq
    obtain ⟨L, s2, e1, e2, hl, hL, h2⟩ := hq (Nat.le_refl _)
    exact ⟨L, s2, Prod.ext e1 e2, hl, hL, h2⟩
theorem stp_revS {L : List Nat} {p : Int} (h : 0 ≤ p ∧ p < (L.length : Int)) : stp L.reverse p = L.getD p.toNat 0 := by
  unfold stp
  rw [List.length_reverse, List.getD_eq_getElem?_getD, List.getD_eq_getElem?_getD, List.getElem?_reverse (by omega)]
  congr 2
  omega
/-! ### what repr gives -/
theorem reprR_good {d : D} (h : good d) (hw : wt d ≤ 16000000) (hd : dep d ≤ 50) : dReprR d = some (.str (txtR d)) := by
  have e := (good_R h).1
  refine chk_pos ⟨(good_R h).2, by rw [e]; exact good_show h, ?_, ?_⟩
  · rw [e]; have := dep_py h; omega
  · rw [e]; have := wt_py h; omega
/-- a list against the empty one, whatever stands in it -/
theorem cEq_nilq {ds : List D} : cEq (.lst ds) (.lst []) = some ds.isEmpty := by
  have hs : sc (.lst ds) (.lst []) = false := rfl
  unfold cEq
  rw [hs]
  simp only [Bool.false_eq_true, if_false]
  split
  · rfl
  · split
    · rename_i t e
      obtain ⟨_, e⟩ := chk_inv e
      rw [← e, eqD_nil]
    · rename_i h
      cases ds with
      | nil => exact absurd rfl (by assumption : ¬ nilB (.lst []) (.lst []) = true)
      | cons d ds => rfl
theorem cEq_strs {xs : List Str} : cEq (.lst (xs.map D.str)) (.lst (xs.map D.str)) = some true := by
  cases xs with
  | nil => rfl
  | cons x xs =>
    have hs : sc (.lst ((x :: xs).map D.str)) (.lst ((x :: xs).map D.str)) = false := rfl
    have hn : nilB (.lst ((x :: xs).map D.str)) (.lst ((x :: xs).map D.str)) = false := rfl
    unfold cEq
    rw [hs, hn]
    simp only [Bool.false_eq_true, if_false]
    split
    · rename_i t e
      obtain ⟨g, e⟩ := chk_inv e
      rw [← e, eqD_refl g.1]
    · rw [strsL_map]
      simp [lenB]
/-! ### what may be shown, dicts among it -/
structure RB (d : D) (k w : Nat) : Prop where
  sh : shw d = true
  ok : (pydR d).showable = true
  dp : (pydR d).depth ≤ k
  sz : (pydR d).shown.length ≤ w
structure RBs (ds : List D) (k w : Nat) : Prop where
  sh : shws ds = true
  ok : PyData.showableAll (pydRs ds) = true
  dp : PyData.depthAll (pydRs ds) ≤ k
  sz : ((PyData.shownAll (pydRs ds)).map (·.length)).sum + 2 * (PyData.shownAll (pydRs ds)).length ≤ w
theorem rb_good {d : D} {k w : Nat} (h : good d) (hw : wt d ≤ w) (hd : dep d + 1 ≤ k) : RB d k w := by
  have e := (good_R h).1
  exact ⟨(good_R h).2, by rw [e]; exact good_show h, by rw [e]; have := dep_py h; omega, by rw [e]; have := wt_py h; omega⟩
theorem RB.mono {d : D} {k w k' w' : Nat} (h : RB d k w) (hk : k ≤ k') (hw : w ≤ w') : RB d k' w' := ⟨h.sh, h.ok, Nat.le_trans h.dp hk, Nat.le_trans h.sz hw⟩
theorem rbs_nil {k : Nat} : RBs [] k 0 := ⟨by simp [shws], by simp [pydRs, PyData.showableAll], by simp [pydRs, PyData.depthAll], by simp [pydRs, PyData.shownAll]⟩
theorem rbs_cons {d : D} {ds : List D} {k w w2 : Nat} (h : RB d k w) (hs : RBs ds k w2) : RBs (d :: ds) k (w + w2 + 2) := by
  refine ⟨by simp only [shws, h.sh, hs.sh, Bool.and_self], by simp only [pydRs, PyData.showableAll, h.ok, hs.ok, Bool.and_self], ?_, ?_⟩
  · simp only [pydRs, PyData.depthAll]
    have := h.dp; have := hs.dp; omega
  · simp only [pydRs, PyData.shownAll, List.map_cons, List.sum_cons, List.length_cons]
    have := h.sz; have := hs.sz; omega
theorem rbs_all {k w : Nat} : ∀ {ds : List D}, (∀ d ∈ ds, RB d k w) → RBs ds k (ds.length * (w + 2))
  | [], _ => by simpa using rbs_nil
  | d :: ds, h => by
    have := rbs_cons (h d List.mem_cons_self) (rbs_all (ds := ds) fun x hx => h x (List.mem_cons_of_mem _ hx))
    rw [List.length_cons, Nat.succ_mul, show ds.length * (w + 2) + (w + 2) = w + ds.length * (w + 2) + 2 by omega]
    exact this
theorem rb_lst {ds : List D} {k w : Nat} (h : RBs ds k w) : RB (.lst ds) (k + 1) (w + 3) := by
  refine ⟨by simp only [shw]; exact h.sh, by simp only [pydR, PyData.showable]; exact h.ok, by simp only [pydR, PyData.depth]; have := h.dp; omega, ?_⟩
  simp only [pydR, PyData.shown]
  have := listText_len_le (PyData.shownAll (pydRs ds))
  have := h.sz
  omega
theorem rb_tup {ds : List D} {k w : Nat} (h : RBs ds k w) : RB (.tup ds) (k + 1) (w + 3) := by
  refine ⟨by simp only [shw]; exact h.sh, by simp only [pydR, PyData.showable]; exact h.ok, by simp only [pydR, PyData.depth]; have := h.dp; omega, ?_⟩
  simp only [pydR, PyData.shown]
  have := tupleText_len_le (PyData.shownAll (pydRs ds))
  have := h.sz
  omega
theorem rb_dct0 {k w : Nat} (hk : 1 ≤ k) (hw : 3 ≤ w) : RB (.dct []) k w := by
  refine ⟨by simp [shw, shwk], by simp [pydR, pydRk, PyData.showable, PyData.showableKv], ?_, ?_⟩
  · simp [pydR, pydRk, PyData.depth, PyData.depthKv]; omega
  · simp only [pydR, pydRk, PyData.shown, PyData.shownKv]
    have := dictText_len_le []
    simp at this
    omega
theorem rb_repr {d : D} {k w : Nat} (h : RB d k w) (hk : k ≤ 60) (hw : w ≤ 16000000) : ∃ y, dReprR d = some (.str y) := ⟨_, chk_pos ⟨h.sh, h.ok, Nat.le_trans h.dp hk, Nat.le_trans h.sz hw⟩⟩
theorem rb_int {i : Int} (h : -(2 ^ 200) ≤ i ∧ i ≤ 2 ^ 200) : RB (.int i) 5 100000 := rb_good h (by simp [wt]) (by simp [dep])
theorem rb_bl {b : Bool} : RB (.bl b) 5 100000 := rb_good trivial (by simp [wt]) (by simp [dep])
theorem rb_non : RB .non 5 100000 := rb_good trivial (by simp [wt]) (by simp [dep])
theorem rb_tx {l : List Nat} (h : tx l) (hl : l.length ≤ 1000) : RB (.str (S l)) 5 100000 := rb_good (tx_ok h) (by rw [wt, S_len]; omega) (by simp [dep])
theorem rb_str {z : Str} (h : PyData.strOk z = true) (hz : z.length ≤ 1000) : RB (.str z) 5 100000 := rb_good h (by rw [wt]; omega) (by simp [dep])
theorem rb_sgl {l : List Nat} (h : tx l) (hl : l.length ≤ 1000) : RB (.lst (sgl l)) 5 100000 := rb_good (goods_sgl h) (by rw [wt, wts_sgl]; omega) (by rw [dep, deps_sgl]; exact le_b rfl)
theorem rb_tup1 {x : D} (h : good x) (hw : wt x ≤ 50000) (hd : dep x ≤ 3) : RB (.tup [x]) 5 100000 := rb_good ⟨h, trivial⟩ (by simp only [wt, wts]; omega) (by simp only [dep, deps]; omega)
theorem e200 : (2 : Int) ^ 200 = 1606938044258990275541962092341162602522202993782792835301376 := by decide +kernel
theorem e59 : (10 : Int) ^ (59 : Int).toNat = 100000000000000000000000000000000000000000000000000000000000 := by decide +kernel
theorem isi_strO {z : Str} : dIsi "str" (.str z) = some true := by unfold dIsi; exact chk_pos rfl
theorem cIn_tstrO {z : Str} {zs : List Str} : cIn (.str z) (.tup (zs.map D.str)) = some (decide (z ∈ zs)) := by
  unfold cIn
  simp only [flD, Option.bind_some, items_t, flDs_strs]
  rw [inV_strs]
  congr 1
  by_cases h : z ∈ zs
  · rw [decide_eq_true h, List.any_eq_true]
    exact ⟨z, h, by simp⟩
  · rw [decide_eq_false h, List.any_eq_false]
    intro y hy
    simp only [decide_eq_true_eq]
    rintro rfl
    exact h hy
/-! ### texts: lengths, signs, split and joined -/
def TX (n : Nat) (z : Str) : Prop := z.length ≤ n ∧ PyData.strOk z = true
theorem TX.mono {a b : Nat} {z : Str} (h : TX a z) (k : a ≤ b) : TX b z := ⟨Nat.le_trans h.1 k, h.2⟩
theorem okS_iff {z : Str} : PyData.strOk z = true ↔ ∀ c ∈ z.cps.toList, c < 0x110000 := by
  unfold PyData.strOk
  rw [Array.all_eq_true_iff_forall_mem]
  simp only [decide_eq_true_eq, Array.mem_toList_iff]
theorem okS_S {l : List Nat} : PyData.strOk (S l) = true ↔ ∀ c ∈ l, c < 0x110000 := by
  rw [okS_iff]
theorem app_cps {a b : Str} : (a ++ b).cps.toList = a.cps.toList ++ b.cps.toList := by
  show (a.cps ++ b.cps).toList = _
  simp
theorem okS_app {a b : Str} (ha : PyData.strOk a = true) (hb : PyData.strOk b = true) : PyData.strOk (a ++ b) = true := by
  rw [okS_iff] at ha hb ⊢
  intro c hc
  rw [app_cps] at hc
  rcases List.mem_append.mp hc with h | h
  · exact ha c h
  · exact hb c h
theorem app_len {a b : Str} : (a ++ b).length = a.length + b.length := Str.length_append a b
theorem len_cps {a : Str} : a.length = a.cps.toList.length := by simp [Str.length]
theorem tx_add {a b : Nat} {x y : Str} (hx : TX a x) (hy : TX b y) (h : a + b ≤ 1000000) : dAdd (.str x) (.str y) = some (.str (x ++ y)) ∧ TX (a + b) (x ++ y) :=
  ⟨by rw [dAdd_ss, chk_pos (by have := hx.1; have := hy.1; omega)], by rw [app_len]; have := hx.1; have := hy.1; omega, okS_app hx.2 hy.2⟩
theorem cutA_sub {α : Type} {l : List α} {u v : Option Int} : (∀ c ∈ cutA l u v, c ∈ l) ∧ (cutA l u v).length ≤ l.length := by
  unfold cutA
  refine ⟨fun c hc => ?_, ?_⟩
  · exact List.mem_of_mem_drop (List.mem_of_mem_take hc)
  · rw [List.length_take, List.length_drop]; omega
theorem tx_cut {a : Nat} {x : Str} {u v : Option Int} (hx : TX a x) (h : a ≤ 1000000) : ∃ y, dCut (.str x) u v = some (.str y) ∧ TX a y := by
  refine ⟨_, by rw [dCut_s, chk_pos (by rw [← len_cps]; have := hx.1; omega)], ?_, ?_⟩
  · have := (cutA_sub (l := x.cps.toList) (u := u) (v := v)).2
    rw [S_len]
    have e := len_cps (a := x)
    have := hx.1
    omega
  · rw [okS_S]
    have h2 := okS_iff.mp hx.2
    exact fun c hc => h2 c ((cutA_sub (u := u) (v := v)).1 c hc)
/-- lists of texts, by their whole size -/
def TS (s : Nat) (zs : List Str) : Prop := (zs.map fun z => z.length + 1).sum ≤ s ∧ ∀ z ∈ zs, PyData.strOk z = true
theorem TS.mono {a b : Nat} {zs : List Str} (h : TS a zs) (k : a ≤ b) : TS b zs := ⟨Nat.le_trans h.1 k, h.2⟩
theorem TS.app {a b : Nat} {x y : List Str} (hx : TS a x) (hy : TS b y) : TS (a + b) (x ++ y) := ⟨by rw [List.map_append, List.sum_append]; have := hx.1; have := hy.1; omega, fun z hz => (List.mem_append.mp hz).elim (hx.2 z) (hy.2 z)⟩
theorem TS.one {n : Nat} {z : Str} (h : TX n z) : TS (n + 1) [z] := ⟨by simp; exact h.1, fun y hy => by rw [List.mem_singleton] at hy; subst hy; exact h.2⟩
theorem TS.rev {a : Nat} {x : List Str} (hx : TS a x) : TS a x.reverse := ⟨by rw [List.map_reverse, List.sum_reverse]; exact hx.1, fun z hz => hx.2 z (List.mem_reverse.mp hz)⟩
theorem sum_ge_len : ∀ {zs : List Str}, zs.length ≤ (zs.map fun z => z.length + 1).sum
  | [] => Nat.zero_le _
  | z :: zs => by rw [List.map_cons, List.sum_cons, List.length_cons]; have := sum_ge_len (zs := zs); omega
theorem TS.len {a : Nat} {x : List Str} (hx : TS a x) : x.length ≤ a := Nat.le_trans sum_ge_len hx.1
theorem mem_sum : ∀ {zs : List Str} {z : Str}, z ∈ zs → z.length + 1 ≤ (zs.map fun z => z.length + 1).sum
  | y :: zs, z, h => by
    rw [List.map_cons, List.sum_cons]
    rcases List.mem_cons.mp h with rfl | h
    · omega
    · have := mem_sum h; omega
theorem TS.at {a : Nat} {x : List Str} (hx : TS a x) {z : Str} (hz : z ∈ x) : TX a z := ⟨by have := mem_sum hz; have := hx.1; omega, hx.2 z hz⟩
theorem sum_sublist {f : Str → Nat} : ∀ {a b : List Str}, a.Sublist b → (a.map f).sum ≤ (b.map f).sum
  | _, _, .slnil => Nat.le_refl _
  | _, _, .cons x h => by rw [List.map_cons, List.sum_cons]; have := sum_sublist (f := f) h; omega
  | _, _, .cons₂ x h => by rw [List.map_cons, List.map_cons, List.sum_cons, List.sum_cons]; have := sum_sublist (f := f) h; omega
theorem TS.sub {a : Nat} {x y : List Str} (hx : TS a x) (h : y.Sublist x) : TS a y := ⟨Nat.le_trans (sum_sublist h) hx.1, fun z hz => hx.2 z (h.subset hz)⟩
theorem cutD_sub {α : Type} {f : α → D} {l : List α} {u v : Option Int} : ∃ l' : List α, cutD (l.map f) u v = l'.map f ∧ l'.Sublist l := by
  unfold cutD
  exact ⟨(l.drop _).take _, by rw [List.map_take, List.map_drop], (List.take_sublist _ _).trans (List.drop_sublist _ _)⟩
theorem ts_cut {a : Nat} {x : List Str} {u v : Option Int} (hx : TS a x) : ∃ y, dCut (.lst (x.map D.str)) u v = some (.lst (y.map D.str)) ∧ TS a y ∧ y.Sublist x := by
  obtain ⟨l, e, h⟩ := cutD_sub (f := D.str) (l := x) (u := u) (v := v)
  exact ⟨l, by rw [dCut_l, e], hx.sub h, h⟩
theorem ts_add {a b : Nat} {x y : List Str} (hx : TS a x) (hy : TS b y) (h : a + b ≤ 1000000) : dAdd (.lst (x.map D.str)) (.lst (y.map D.str)) = some (.lst ((x ++ y).map D.str)) ∧ TS (a + b) (x ++ y) :=
  ⟨by rw [dAdd_ll, chk_pos (by simp only [List.length_map]; have := hx.len; have := hy.len; omega), List.map_append], hx.app hy⟩
/-! split, join -/
theorem jsum : ∀ {y : Str} {zs : List Str}, zs ≠ [] → (zs.map (·.length)).sum + (zs.length - 1) * y.length = (Str.join y zs).length
  | y, [x], _ => by simp [Str.join]
  | y, x :: z :: r, _ => by
    have ih := jsum (y := y) (zs := z :: r) (by simp)
    show _ = (x ++ y ++ Str.join y (z :: r)).length
    rw [app_len, app_len, ← ih]
    simp only [List.map_cons, List.sum_cons, List.length_cons]
    have e : (r.length + 1 + 1 - 1) * y.length = (r.length + 1 - 1) * y.length + y.length := by
      rw [show r.length + 1 + 1 - 1 = (r.length + 1 - 1) + 1 by omega, Nat.succ_mul]
    omega
theorem jok : ∀ {y : Str} {zs : List Str}, PyData.strOk (Str.join y zs) = true → ∀ z ∈ zs, PyData.strOk z = true
  | y, [x], h, z, hz => by rw [List.mem_singleton] at hz; subst hz; exact h
  | y, x :: w :: r, h, z, hz => by
    have h : PyData.strOk (x ++ y ++ Str.join y (w :: r)) = true := h
    rw [okS_iff] at h
    rcases List.mem_cons.mp hz with rfl | hz
    · rw [okS_iff]; exact fun c hc => h c (by rw [app_cps, app_cps]; simp [hc])
    · refine jok (y := y) (zs := w :: r) ?_ z hz
      rw [okS_iff]; exact fun c hc => h c (by rw [app_cps]; simp [hc])
theorem okj : ∀ {y : Str} {zs : List Str}, PyData.strOk y = true → (∀ z ∈ zs, PyData.strOk z = true) → PyData.strOk (Str.join y zs) = true
  | y, [], _, _ => by show PyData.strOk Str.empty = true; decide +kernel
  | y, [x], _, h => h x List.mem_cons_self
  | y, x :: w :: r, hy, h => okS_app (okS_app (h x List.mem_cons_self) hy) (okj hy fun z hz => h z (List.mem_cons_of_mem _ hz))
theorem split_ne {x y : Str} : Txt.split x y ≠ [] := by
  unfold Txt.split
  split
  · simp
  · split
    · simp
    · unfold Builtin.Str.partsBetween
      intro e
      rw [List.map_eq_nil_iff, List.zip_eq_nil_iff] at e
      rcases e with e | e <;> simp at e
theorem split_back (x y : Str) : Str.join y (Txt.split x y) = x := StrLaws.join_split x y
theorem join_eq {y : Str} {zs : List Str} : Txt.join y zs = Str.join y zs := StrLaws.glued_eq_join y zs
theorem sum_len1 : ∀ {zs : List Str}, (zs.map fun z => z.length + 1).sum = (zs.map (·.length)).sum + zs.length
  | [] => rfl
  | z :: zs => by simp only [List.map_cons, List.sum_cons, List.length_cons]; have := sum_len1 (zs := zs); omega
theorem len_pos {α : Type} {l : List α} (h : l ≠ []) : 1 ≤ l.length := by cases l <;> simp_all
theorem ts_split {a c : Nat} {x : Str} (hx : TX a x) (h : a ≤ 1000000) : dSplit (.str x) (.str (S [c])) = some (.lst ((Txt.split x (S [c])).map D.str)) ∧ TS (a + 1) (Txt.split x (S [c])) := by
  refine ⟨chk_pos ⟨by rw [S_len]; rfl, by have := hx.1; omega⟩, ?_, jok (by rw [split_back]; exact hx.2)⟩
  have e := jsum (y := S [c]) (split_ne (x := x) (y := S [c]))
  rw [split_back, S_len, List.length_singleton, Nat.mul_one] at e
  have := len_pos (split_ne (x := x) (y := S [c]))
  have := hx.1
  rw [sum_len1]
  omega
theorem ts_join {s c : Nat} {zs : List Str} (hz : TS s zs) (hc : c < 0x110000) (h : s ≤ 1000000) : dJoinS (S [c]) (.lst (zs.map D.str)) = some (.str (Str.join (S [c]) zs)) ∧ TX s (Str.join (S [c]) zs) := by
  have e1 : (zs.map D.str).map toS = zs := by rw [List.map_map]; exact List.map_id _
  have hl := hz.len
  have h1 := hz.1
  rw [sum_len1] at h1
  refine ⟨?_, ?_, okj (by rw [okS_S]; intro d hd; rw [List.mem_singleton] at hd; omega) hz.2⟩
  · unfold dJoinS
    rw [items_l, Option.bind_some, chk_pos ⟨by unfold AllS; rw [e1], by unfold sizeJ; rw [e1, List.length_map, S_len, List.length_singleton]; omega⟩, e1, join_eq]
  · by_cases q : zs = []
    · subst q; show Str.length Str.empty ≤ s; exact Nat.zero_le _
    · have e := jsum (y := S [c]) q
      rw [S_len, List.length_singleton] at e
      omega
/-! ### words that write positions -/
def isDg (c : Nat) : Bool := decide (48 ≤ c ∧ c ≤ 57)
def numS (p : Nat) : Str := if p < 10 then S [48 + p] else S [48 + p / 10, 48 + p % 10]
def posI (w : Str) : Option Nat := (List.range 25).find? fun p => decide (numS p = w)
def valN (l : List Nat) : Nat := l.foldl (fun a c => 10 * a + (c - 48)) 0
def dgs : List Nat := [48, 49, 50, 51, 52, 53, 54, 55, 56, 57]
def words1 : List (List Nat) := dgs.map fun a => [a]
def words2 : List (List Nat) := dgs.flatMap fun a => dgs.map fun b => [a, b]
def words3 : List (List Nat) := dgs.flatMap fun a => words2.map fun l => a :: l
def lookW (l : List Nat) : Bool := decide (PySem.intText? (S l) = some ((valN l : Nat) : Int)) &&
  decide ((if l.head? = some 48 ∧ l ≠ [48] then none else if valN l ≤ 24 then some (valN l) else none) = posI (S l))
def lookL (l : List Nat) : Bool := decide ((decide ((toString ((valN l : Nat) : Int) : Str) = S l) && decide (valN l < 25)) = (posI (S l)).isSome)
theorem look1 : (words1.all fun l => lookW l && lookL l) = true := by decide +kernel
theorem look2 : (words2.all fun l => lookW l && lookL l) = true := by decide +kernel
theorem look3 : (words3.all fun l => lookW l) = true := by decide +kernel
theorem look25 : ((List.range 25).all fun p => decide (posI (numS p) = some p) && decide ((toString ((p : Nat) : Int) : Str) = numS p) && decide ((numS p).cps.toList.all isDg = true) && decide (1 ≤ (numS p).length ∧ (numS p).length ≤ 2)) = true := by decide +kernel
theorem dg_mem {c : Nat} (h : isDg c = true) : c ∈ dgs := by
  have h := of_decide_eq_true h
  have : c = 48 ∨ c = 49 ∨ c = 50 ∨ c = 51 ∨ c = 52 ∨ c = 53 ∨ c = 54 ∨ c = 55 ∨ c = 56 ∨ c = 57 := by omega
  unfold dgs
  simp
  exact this
theorem posI_eq {w : Str} {p : Nat} (h : posI w = some p) : p < 25 ∧ w = numS p := by
  have h1 := List.find?_some h
  have h2 := List.mem_of_find?_eq_some h
  exact ⟨List.mem_range.mp h2, (of_decide_eq_true h1).symm⟩
theorem look_at {p : Nat} (h : p < 25) : posI (numS p) = some p ∧ (toString ((p : Nat) : Int) : Str) = numS p ∧ (numS p).cps.toList.all isDg = true ∧ 1 ≤ (numS p).length ∧ (numS p).length ≤ 2 := by
  have := List.all_eq_true.mp look25 p (List.mem_range.mpr h)
  simp only [Bool.and_eq_true, decide_eq_true_eq] at this
  exact ⟨this.1.1.1, this.1.1.2, this.1.2, this.2⟩
theorem S_of {w : Str} : w = S w.cps.toList := by
  cases w with | mk a => cases a; rfl
theorem look_w {l : List Nat} (h1 : 1 ≤ l.length ∧ l.length ≤ 3) (h2 : l.all isDg = true) : lookW l = true ∧ (l.length < 3 → lookL l = true) := by
  have hd : ∀ c ∈ l, c ∈ dgs := fun c hc => dg_mem (List.all_eq_true.mp h2 c hc)
  match l, h1, hd with
  | [a], _, hd =>
    have := List.all_eq_true.mp look1 [a] (List.mem_map.mpr ⟨a, hd a (by simp), rfl⟩)
    simp only [Bool.and_eq_true] at this
    exact ⟨this.1, fun _ => this.2⟩
  | [a, b], _, hd =>
    have := List.all_eq_true.mp look2 [a, b] (List.mem_flatMap.mpr ⟨a, hd a (by simp), List.mem_map.mpr ⟨b, hd b (by simp), rfl⟩⟩)
    simp only [Bool.and_eq_true] at this
    exact ⟨this.1, fun _ => this.2⟩
  | [a, b, c], _, hd =>
    have h2 : [b, c] ∈ words2 := List.mem_flatMap.mpr ⟨b, hd b (by simp), List.mem_map.mpr ⟨c, hd c (by simp), rfl⟩⟩
    have := List.all_eq_true.mp look3 [a, b, c] (List.mem_flatMap.mpr ⟨a, hd a (by simp), List.mem_map.mpr ⟨[b, c], h2, rfl⟩⟩)
    exact ⟨this, fun h => absurd h (by simp)⟩
theorem filt_digs {w : Str} : filtO (fun x10 => (cNin x10 (D.str "0123456789")).bind fun t15 => if t15 = true then some (some x10) else some none) (signs w) = some ((w.cps.toList.filter fun c => !isDg c).map fun c => D.str (S [c])) := by
  have e : signs w = w.cps.toList.map fun c => D.str (S [c]) := rfl
  rw [e]
  refine filtO_of fun c hc => ?_
  have e2 : cIn (.str (S [c])) (D.str "0123456789") = some (isDg c) := by
    show some (decide (c ∈ [48, 49, 50, 51, 52, 53, 54, 55, 56, 57])) = some (isDg c)
    congr 1
    unfold isDg
    refine decide_eq_decide.mpr ⟨fun h => ?_, fun h => ?_⟩
    · simp only [List.mem_cons, List.not_mem_nil, or_false] at h
      omega
    · simp only [List.mem_cons, List.not_mem_nil, or_false]
      omega
  rw [cNin_of, e2, Option.map_some, Option.bind_some]
  cases isDg c <;> rfl
theorem l0S : ("0" : Str) = S [48] := by decide
theorem S_inj {a b : List Nat} (h : S a = S b) : a = b := by
  have := congrArg (fun z : Str => z.cps.toList) h
  exact this
theorem nodigs {w : Str} : ((w.cps.toList.filter fun c => !isDg c).map fun c => D.str (S [c])).isEmpty = w.cps.toList.all isDg := by
  rw [List.isEmpty_map, Bool.eq_iff_iff, List.isEmpty_iff, List.filter_eq_nil_iff, List.all_eq_true]
  refine ⟨fun h c hc => ?_, fun h c hc => ?_⟩
  · have := h c hc; simpa using this
  · simp [h c hc]
theorem posI_no {w : Str} (h : ¬ ((1 ≤ w.length ∧ w.length ≤ 2) ∧ w.cps.toList.all isDg = true)) : posI w = none := by
  cases e : posI w with
  | none => rfl
  | some p =>
    obtain ⟨hp, rfl⟩ := posI_eq e
    obtain ⟨_, _, h3, h4, h5⟩ := look_at hp
    exact absurd ⟨⟨h4, h5⟩, h3⟩ h
def posD (w : Str) : D := match posI w with
  | some p => .int (p : Int)
  | none => .non
theorem dStr_n {n : Nat} (h : n < 1000) : dStr (.int ((n : Nat) : Int)) = some (.str (toString ((n : Nat) : Int))) :=
  chk_pos (by
    show (n : Int).natAbs.log2 < 1920
    rw [Int.natAbs_natCast]
    have := Nat.log2_le_self n
    omega)
theorem number_in_ok {w : Str} (hw : w.length ≤ 1000000) : F_number_in (.str w) (.int 0) (.int 24) = some (posD w) := by
  unfold F_number_in
  rw [dLen_s, chk_pos hw, Option.bind_some, cLe_ii, Option.bind_some]
  by_cases h1 : 1 ≤ w.length ∧ w.length ≤ 3
  · rw [if_pos (decide_eq_true (by omega)), cLe_ii, Option.bind_some, Option.bind_some, decide_eq_true (by omega), if_neg (by decide), dIter_s, Option.bind_some, chk_pos (by show (w.cps.toList.map _).length ≤ _; rw [List.length_map, ← len_cps]; omega), Option.bind_some, filt_digs, Option.bind_some, cNe_of, cEq_nilq, nodigs, Option.map_some, Option.bind_some, Option.bind_some]
    by_cases h2 : w.cps.toList.all isDg = true
    · rw [h2, if_neg (by decide)]
      have hl := len_cps (a := w)
      obtain ⟨l, hlw⟩ : ∃ l, l = w.cps.toList := ⟨_, rfl⟩
      have ew : w = S l := by rw [hlw]; first | done | exact S_of
      rw [← hlw] at hl h2
      obtain ⟨c, r, rfl⟩ : ∃ c r, l = c :: r := by
        cases l with
        | nil => simp at hl; omega
        | cons c r => exact ⟨c, r, rfl⟩
      have hk := (look_w (l := c :: r) (by omega) h2).1
      unfold lookW at hk
      simp only [Bool.and_eq_true, decide_eq_true_eq] at hk
      have ei : dIntT (.str w) = some (.int ((valN (c :: r) : Nat) : Int)) := by
        unfold dIntT
        dsimp only
        rw [ew, hk.1, Option.bind_some, chk_pos (by rw [← ew]; omega)]
      have e0 : dIx (.str w) (D.int 0) = some (.str (S [c])) := by
        rw [ew, dIx_si]
        have ea : atI (S (c :: r)).cps.toList 0 = some c := atI_of_get (by decide) rfl
        rw [ea, Option.bind_some, chk_pos (by rw [← ew]; omega)]
      have q0 : decide ((S [c] : Str) = ("0" : Str)) = decide (c = 48) := by
        rw [l0S]
        exact decide_eq_decide.mpr ⟨fun h => by have := S_inj h; simpa using this, fun h => by rw [h]⟩
      have q1 : decide (w = ("0" : Str)) = decide (c :: r = [48]) := by
        rw [l0S, ew]
        exact decide_eq_decide.mpr ⟨fun h => S_inj h, fun h => by rw [h]⟩
      have hh : (c :: r).head? = some c := rfl
      have h0 : decide ((0 : Int) ≤ ((valN (c :: r) : Nat) : Int)) = true := decide_eq_true (by omega)
      have h3 : decide (((valN (c :: r) : Nat) : Int) ≤ 24) = decide (valN (c :: r) ≤ 24) := decide_eq_decide.mpr (by omega)
      have hp : posD w = match posI (S (c :: r)) with | some p => .int (p : Int) | none => .non := by unfold posD; rw [ew]
      rw [hp, ← hk.2]
      simp only [e0, ei, Option.bind_some, cEq_ss, q0, cNe_of, q1, Option.map_some, cLe_ii, h0, h3, if_true]
      by_cases g1 : c = 48
      · by_cases g2 : c :: r = [48]
        · by_cases g3 : valN (c :: r) ≤ 24
          · rw [if_pos (decide_eq_true g1), Option.bind_some, decide_eq_true g2, if_neg (by decide), if_pos (decide_eq_true g3), if_neg (fun h => h.2 g2), if_pos g3]; rfl
          · rw [if_pos (decide_eq_true g1), Option.bind_some, decide_eq_true g2, if_neg (by decide), if_neg (by rw [decide_eq_false g3]; decide), if_neg (fun h => h.2 g2), if_neg g3]; rfl
        · rw [if_pos (decide_eq_true g1), Option.bind_some, decide_eq_false g2, if_pos (by decide), if_pos ⟨by rw [hh, g1], g2⟩]
      · have g4 : ¬ ((c :: r).head? = some 48 ∧ c :: r ≠ [48]) := fun h => g1 (by have := h.1; rw [hh] at this; exact Option.some.inj this)
        by_cases g3 : valN (c :: r) ≤ 24
        · rw [if_neg (by rw [decide_eq_false g1]; decide), Option.bind_some, if_neg (by decide), if_pos (decide_eq_true g3), if_neg g4, if_pos g3]; rfl
        · rw [if_neg (by rw [decide_eq_false g1]; decide), Option.bind_some, if_neg (by decide), if_neg (by rw [decide_eq_false g3]; decide), if_neg g4, if_neg g3]; rfl
    · have h2' : w.cps.toList.all isDg = false := by simpa using h2
      rw [h2', if_pos (by decide)]
      unfold posD
      rw [posI_no (by rw [h2']; simp)]
  · have : (if decide ((1 : Int) ≤ ((w.length : Nat) : Int)) = true then (cLe (D.int ((w.length : Nat) : Int)) (D.int 3)).bind fun t6 => some t6 else some false) = some false := by
      by_cases g : 1 ≤ w.length
      · rw [if_pos (decide_eq_true (by omega)), cLe_ii, Option.bind_some, decide_eq_false (by omega)]
      · rw [if_neg (by simp; omega)]
    rw [this, Option.bind_some, if_pos (by decide), Option.bind_some, if_pos rfl]
    unfold posD
    rw [posI_no (by omega)]
theorem is_position_ok {w : Str} (hw : w.length ≤ 1000000) : F_Lis_position (.str w) = some (.bl (posI w).isSome) := by
  unfold F_Lis_position
  rw [dLen_s, chk_pos hw, Option.bind_some, cLt_ii, Option.bind_some]
  by_cases h1 : 1 ≤ w.length ∧ w.length ≤ 2
  · rw [if_pos (decide_eq_true (by omega)), cLt_ii, Option.bind_some, Option.bind_some, decide_eq_true (by omega), if_neg (by decide), dIter_s, Option.bind_some, chk_pos (by show (w.cps.toList.map _).length ≤ _; rw [List.length_map, ← len_cps]; omega), Option.bind_some, filt_digs, Option.bind_some, cNe_of, cEq_nilq, nodigs, Option.map_some, Option.bind_some, Option.bind_some]
    by_cases h2 : w.cps.toList.all isDg = true
    · rw [h2, if_neg (by decide)]
      have hl := len_cps (a := w)
      obtain ⟨l, hlw⟩ : ∃ l, l = w.cps.toList := ⟨_, rfl⟩
      have ew : w = S l := by rw [hlw]; first | done | exact S_of
      rw [← hlw] at hl h2
      obtain ⟨hk, hk2⟩ := look_w (l := l) (by omega) h2
      have hk2 := hk2 (by omega)
      unfold lookW at hk
      unfold lookL at hk2
      simp only [Bool.and_eq_true, decide_eq_true_eq] at hk hk2
      have ei : dIntT (.str w) = some (.int ((valN l : Nat) : Int)) := by
        unfold dIntT
        dsimp only
        rw [ew, hk.1, Option.bind_some, chk_pos (by rw [← ew]; omega)]
      have hv : valN l < 1000 := by
        match l, hl with
        | [a], _ => 
          have := of_decide_eq_true (List.all_eq_true.mp h2 a (by simp))
          simp [valN]; omega
        | [a, b], _ =>
          have := of_decide_eq_true (List.all_eq_true.mp h2 a (by simp))
          have := of_decide_eq_true (List.all_eq_true.mp h2 b (by simp))
          simp [valN]; omega
        | [], hl => simp at hl; omega
        | a :: b :: c :: r, hl => simp at hl; omega
      have es := dStr_n hv
      rw [ei, Option.bind_some, es, Option.bind_some, cEq_ss, Option.bind_some, dTru_b, Option.bind_some, Option.bind_some, cLt_ii, Option.bind_some, ← show posI w = posI (S l) by rw [ew]] at *
      rw [← hk2]
      rw [ew]
      by_cases g : (toString ((valN l : Nat) : Int) : Str) = S l
      · rw [if_pos (decide_eq_true g), decide_eq_true g, Option.bind_some, Bool.true_and]
        congr 2
        exact decide_eq_decide.mpr (by omega)
      · rw [if_neg (by simpa using g), decide_eq_false g]; rfl
    · have h2' : w.cps.toList.all isDg = false := by simpa using h2
      rw [h2', if_pos (by decide), posI_no (by rw [h2']; simp)]
      rfl
  · have : (if decide ((0 : Int) < ((w.length : Nat) : Int)) = true then (cLt (D.int ((w.length : Nat) : Int)) (D.int 3)).bind fun t6 => some t6 else some false) = some false := by
      by_cases g : 1 ≤ w.length
      · rw [if_pos (decide_eq_true (by omega)), cLt_ii, Option.bind_some, decide_eq_false (by omega)]
      · rw [if_neg (by simp; omega)]
    rw [this, Option.bind_some, if_pos (by decide), Option.bind_some, if_pos rfl, posI_no (by omega)]
    rfl
/-! ### the words of a line, one after another -/
theorem rngD_cons {a : Int} {n : Nat} : rngD a (n + 1) = D.int a :: rngD (a + 1) n := by
  unfold rngD
  rw [List.range_succ_eq_map, List.map_cons, List.map_map]
  congr 1
  · simp
  · exact List.map_congr_left fun i _ => by show D.int (a + ((i + 1 : Nat) : Int)) = D.int (a + 1 + (i : Int)); congr 1; omega
theorem cut_takeS {l : List D} {k : Nat} : cutD l none (some (k : Int)) = l.take k := by
  unfold cutD HT.sIx
  simp only [List.drop_zero]
  rw [if_neg (by omega), Int.toNat_natCast, Nat.sub_zero]
  by_cases h : k ≤ l.length
  · rw [Nat.min_eq_left h]
  · rw [Nat.min_eq_right (by omega), List.take_of_length_le (by omega), List.take_of_length_le (by omega)]
def badB (pre : List Str) (w : Str) : Bool := (posI w).isNone || decide (w ∈ pre) || decide (numS 0 ∈ pre)
def firstBad : List Str → List Str → Option Nat
  | _, [] => none
  | pre, w :: ws => if badB pre w = true then some pre.length else firstBad (pre ++ [w]) ws
def goodW (pre : List Str) : Prop := ∀ w ∈ pre, (posI w).isSome = true
def nP (pre : List Str) : List Int := pre.map fun w => (((posI w).getD 0 : Nat) : Int)
theorem goodW_snoc {pre : List Str} {w : Str} (h : goodW pre) (hb : badB pre w = false) : goodW (pre ++ [w]) := by
  unfold badB at hb
  simp only [Bool.or_eq_false_iff] at hb
  intro x hx
  rcases List.mem_append.mp hx with hx | hx
  · exact h x hx
  · rw [List.mem_singleton] at hx
    subst hx
    have := hb.1.1
    cases e : posI x with
    | none => rw [e] at this; cases this
    | some p => rfl
theorem nP_posD {pre : List Str} (h : goodW pre) : pre.map posD = (nP pre).map D.int := by
  unfold nP
  rw [List.map_map]
  refine List.map_congr_left fun w hw => ?_
  have := h w hw
  unfold posD
  cases e : posI w with
  | none => rw [e] at this; cases this
  | some p => simp [e]
theorem posI_inj {v w : Str} {p : Nat} (hv : posI v = some p) (hw : posI w = some p) : v = w := (posI_eq hv).2.trans (posI_eq hw).2.symm
theorem mem_nP {pre : List Str} {w : Str} {p : Nat} (h : goodW pre) (hw : posI w = some p) : (p : Int) ∈ nP pre ↔ w ∈ pre := by
  unfold nP
  rw [List.mem_map]
  constructor
  · rintro ⟨v, hv, e⟩
    have := h v hv
    cases ev : posI v with
    | none => rw [ev] at this; cases this
    | some q =>
      rw [ev] at e
      have e : (q : Int) = (p : Int) := e
      have e2 : q = p := by omega
      subst e2
      rw [posI_inj hw ev]
      exact hv
  · intro hm
    exact ⟨w, hm, by rw [hw]; rfl⟩
theorem pos0 : posI (numS 0) = some 0 := (look_at (by decide)).1
theorem positions_loop {Z : Str → Addr} : ∀ (ws pre : List Str), goodW pre → (∀ w ∈ ws, w.length ≤ 1000000) → pre.length + ws.length < 1000000 →
    loopC (fun (s3 : List D) x5 => (un2 x5).bind fun p8 => (F_number_in p8.2 (D.int 0) (D.int 24)).bind fun v9 => ((cIs v9 D.non).bind fun t12 => if t12 = true then some true else (cIn v9 (D.lst s3)).bind fun t14 => if t14 = true then some true else (cIn (D.int 0) (D.lst s3)).bind fun t15 => some t15).bind fun t16 => if t16 = true then some (.ret (.error (Z "InvalidText", [("word", p8.1), ("line", (D.int 0))]) : Except Er D)) else (chk (s3.length < 1000000) ()).bind fun _ => some (.go (s3 ++ [v9]))) ((nP pre).map D.int) (enumD pre.length (ws.map D.str))
      = some (match firstBad pre ws with | some k => .ret (.error (Z "InvalidText", [("word", .int (k : Int)), ("line", .int 0)])) | none => .go ((nP (pre ++ ws)).map D.int))
  | [], pre, _, _, _ => by simp [firstBad, enumD, loopC]
  | w :: ws, pre, hg, hw, hl => by
    rw [List.map_cons, show enumD pre.length (D.str w :: ws.map D.str) = .tup [.int (pre.length : Int), .str w] :: enumD (pre.length + 1) (ws.map D.str) from rfl, loopC, un2_t, Option.bind_some]
    dsimp only
    rw [number_in_ok (hw w List.mem_cons_self), Option.bind_some, firstBad]
    have hnl : (nP pre).length = pre.length := by unfold nP; rw [List.length_map]
    rw [List.length_cons] at hl
    cases e : posI w with
    | none =>
      have ep : posD w = .non := by unfold posD; rw [e]
      have eb : badB pre w = true := by unfold badB; rw [e]; rfl
      rw [ep, cIs_nn, Option.bind_some, if_pos rfl, Option.bind_some, if_pos rfl, Option.bind_some, if_pos eb]
    | some p =>
      have ep : posD w = .int (p : Int) := by unfold posD; rw [e]
      rw [ep, cIs_in, Option.bind_some, if_neg (by decide), cIn_ints, Option.bind_some, cIn_ints, Option.bind_some]
      have m1 : decide ((p : Int) ∈ nP pre) = decide (w ∈ pre) := decide_eq_decide.mpr (mem_nP hg e)
      have m0 : decide ((0 : Int) ∈ nP pre) = decide (numS 0 ∈ pre) := decide_eq_decide.mpr (mem_nP (p := 0) hg pos0)
      have eb : badB pre w = (decide (w ∈ pre) || decide (numS 0 ∈ pre)) := by unfold badB; rw [e]; rfl
      rw [m1, m0]
      have key : (if decide (w ∈ pre) = true then some true else some (decide (numS 0 ∈ pre))) = some (badB pre w) := by
        rw [eb]; cases decide (w ∈ pre) <;> rfl
      rw [key, Option.bind_some]
      cases hb : badB pre w with
      | true => rw [if_pos rfl, Option.bind_some, if_pos rfl]
      | false =>
        have ih := positions_loop (Z := Z) ws (pre ++ [w]) (goodW_snoc hg hb) (fun x hx => hw x (List.mem_cons_of_mem _ hx)) (by rw [List.length_append, List.length_singleton]; omega)
        have en : (nP pre).map D.int ++ [D.int (p : Int)] = (nP (pre ++ [w])).map D.int := by
          unfold nP
          rw [List.map_append, List.map_append]
          simp [e]
        rw [if_neg (by decide), chk_pos (by rw [List.length_map]; omega), Option.bind_some, Option.bind_some, if_neg (by decide), en]
        rw [List.length_append, List.length_singleton] at ih
        exact ih.trans (by rw [List.append_assoc]; rfl)
theorem firstBad_good : ∀ {ws pre : List Str}, goodW pre → firstBad pre ws = none → goodW (pre ++ ws)
  | [], pre, h, _ => by simpa using h
  | w :: ws, pre, h, hf => by
    rw [firstBad] at hf
    split at hf
    · cases hf
    · rename_i hb
      have := firstBad_good (goodW_snoc h (by simpa using hb)) hf
      simpa using this
theorem positions_in_ok {Z : Str → Addr} {ws : List Str} (hw : ∀ w ∈ ws, w.length ≤ 1000000) (hl : ws.length < 1000000) :
    F_positions_in Z (.lst (ws.map D.str)) = some (match firstBad [] ws with | some k => .error (Z "InvalidText", [("word", .int (k : Int)), ("line", .int 0)]) | none => .ok (.tup ((nP ws).map D.int))) := by
  have h := positions_loop (Z := Z) ws [] (fun w hw => absurd hw List.not_mem_nil) hw (by simpa using hl)
  unfold F_positions_in
  rw [dEnum_l, Option.bind_some]
  have h : loopC _ ([] : List D) (enumD 0 (ws.map D.str)) = _ := h
  rw [h, Option.bind_some]
  cases firstBad [] ws with
  | some k => rfl
  | none => rw [ctl_g, lList_l, Option.bind_some, List.nil_append]
theorem law_loop {all : List Str} (hlen : all.length ≤ 1000000) (hw : ∀ w ∈ all, w.length ≤ 1000000) : ∀ (ws pre : List Str), all = pre ++ ws →
    loopC (fun (s16 : Unit) x18 => ((dIx (.lst (all.map D.str)) x18).bind fun v23 => (F_Lis_position v23).bind fun v24 => (dTru v24).bind fun t25 => if (!t25) = true then some true else (dIx (.lst (all.map D.str)) x18).bind fun v27 => (dEnd x18).bind fun i28 => (dCut (.lst (all.map D.str)) none (some i28)).bind fun v29 => (cIn v27 v29).bind fun t30 => if t30 = true then some true else (dEnd x18).bind fun i31 => (dCut (.lst (all.map D.str)) none (some i31)).bind fun v32 => (cIn (D.str "0") v32).bind fun t33 => some t33).bind fun t34 => if t34 = true then some (.ret (D.tup [(D.int 0), x18])) else some (.go ())) () (rngD (pre.length : Int) ws.length)
      = some (match firstBad pre ws with | some k => .ret (.tup [.int 0, .int (k : Int)]) | none => .go ())
  | [], pre, _ => rfl
  | w :: ws, pre, ha => by
    rw [List.length_cons, rngD_cons, loopC, firstBad]
    have hm : all[pre.length]? = some w := by rw [ha]; simp
    have hat : dIx (.lst (all.map D.str)) (.int (pre.length : Int)) = some (.str w) := by
      rw [dIx_li]
      exact atI_of_get (by omega) (by rw [Int.toNat_natCast, List.getElem?_map, hm]; rfl)
    have htk : (all.map D.str).take pre.length = pre.map D.str := by rw [ha]; simp
    have l0 : ("0" : Str) = numS 0 := by decide
    rw [hat, Option.bind_some, is_position_ok (hw w (List.mem_of_getElem? hm)), Option.bind_some, dTru_b, Option.bind_some, Option.bind_some, dEnd_i, Option.bind_some, dCut_l, cut_takeS, htk, Option.bind_some, cIn_strs, Option.bind_some, Option.bind_some, dCut_l, cut_takeS, htk, Option.bind_some, l0, cIn_strs, Option.bind_some]
    have key : (if (!(posI w).isSome) = true then some true else if decide (w ∈ pre) = true then some true else some (decide (numS 0 ∈ pre))) = some (badB pre w) := by
      unfold badB
      cases posI w <;> cases decide (w ∈ pre) <;> rfl
    rw [key, Option.bind_some]
    cases hb : badB pre w with
    | true => rw [if_pos rfl, Option.bind_some, if_pos rfl]
    | false =>
      have ih := law_loop hlen hw ws (pre ++ [w]) (by rw [ha]; simp)
      rw [List.length_append, List.length_singleton] at ih
      rw [if_neg (by decide), Option.bind_some, if_neg (by decide), show ((pre.length : Int) + 1) = ((pre.length + 1 : Nat) : Int) by omega]
      exact ih
/-! ### numbers of bits, numbers, values that are none -/
theorem btw_bl {c : Bool} {a b : D} : F_is_between (.bl c) a b = some (.bl false) := by
  unfold F_is_between
  rw [show dIsi "int" (.bl c) = some true from chk_pos rfl, show dIsi "bool" (.bl c) = some true from chk_pos rfl]
  rfl
theorem btw_oth {x a b : D} (h1 : plain x = true) (h2 : isi "int" x = false) : F_is_between x a b = some (.bl false) := by
  unfold F_is_between
  rw [show dIsi "int" x = some false from by unfold dIsi; rw [chk_pos h1, h2]]
  rfl
theorem btw_int {p a b : Int} : F_is_between (.int p) (.int a) (.int b) = some (.bl (decide (a ≤ p ∧ p ≤ b))) := by
  unfold F_is_between
  rw [show dIsi "int" (.int p) = some true from chk_pos rfl, show dIsi "bool" (.int p) = some false from chk_pos rfl]
  simp only [Option.bind_some, dTru_b, if_true, Bool.not_false, cLe_ii]
  by_cases h : a ≤ p
  · rw [if_pos (decide_eq_true h)]
    simp [h]
  · rw [if_neg (by simpa using h)]
    simp [h]
theorem pow_b {n : Int} (h : 0 ≤ n ∧ n ≤ 24) : (1 : Int) ≤ 2 ^ n.toNat ∧ (2 : Int) ^ n.toNat ≤ 16777216 := by
  have h1 : n.toNat ≤ 24 := by omega
  have e : ((2 : Int) ^ n.toNat) = ((2 ^ n.toNat : Nat) : Int) := by simp
  have a1 : 0 < 2 ^ n.toNat := Nat.pow_pos (by decide)
  have a2 : 2 ^ n.toNat ≤ 2 ^ 24 := Nat.pow_le_pow_right (by decide) h1
  have a3 : (2 : Nat) ^ 24 = 16777216 := by decide
  omega
theorem p59 : CPow 10 59 := ⟨by decide, by decide, by decide⟩
/-! ### orders: the first of equal positions, nothing behind a 0 -/
def stepF (acc : List Int) (p : Int) : List Int := if p ∉ acc ∧ (0 : Int) ∉ acc then acc ++ [p] else acc
def firsts (ps : List Int) : List Int := ps.foldl stepF []
def EntOk (l : List Int) : Prop := l.Nodup ∧ (0 : Int) ∉ l.dropLast
theorem ent_nil : EntOk [] := ⟨List.nodup_nil, by simp⟩
theorem ent_step {acc : List Int} {p : Int} (h : EntOk acc) : EntOk (stepF acc p) := by
  unfold stepF
  split
  · rename_i q
    refine ⟨?_, ?_⟩
    · rw [List.nodup_append]
      exact ⟨h.1, by simp, fun a ha b hb => by rw [List.mem_singleton] at hb; subst hb; rintro rfl; exact q.1 ha⟩
    · rw [List.dropLast_concat]; exact q.2
  · exact h
theorem foldl_ent : ∀ {ps acc : List Int}, EntOk acc → EntOk (ps.foldl stepF acc)
  | [], _, h => h
  | p :: ps, _, h => by rw [List.foldl_cons]; exact foldl_ent (ent_step h)
theorem firsts_ent {ps : List Int} : EntOk (firsts ps) := foldl_ent ent_nil
theorem ent_zero {acc : List Int} {p : Int} (h : EntOk (acc ++ [p])) : (0 : Int) ∈ acc ++ [p] ↔ p = 0 := by
  have h2 := h.2
  rw [List.dropLast_concat] at h2
  constructor
  · intro z
    rcases List.mem_append.mp z with z | z
    · exact absurd z h2
    · rw [List.mem_singleton] at z; exact z.symm
  · rintro rfl; simp
theorem fold_id : ∀ {l acc : List Int}, EntOk (acc ++ l) → l.foldl stepF acc = acc ++ l
  | [], acc, _ => by simp
  | p :: l, acc, h => by
    have e : acc ++ p :: l = (acc ++ [p]) ++ l := by simp
    have h1 : p ∉ acc := by
      have := h.1
      rw [List.nodup_append] at this
      intro z
      exact this.2.2 p z p List.mem_cons_self rfl
    have h0 : (0 : Int) ∉ acc := by
      intro z
      refine h.2 ?_
      rw [List.dropLast_append_of_ne_nil (by simp)]
      exact List.mem_append_left _ z
    rw [List.foldl_cons]
    unfold stepF
    rw [if_pos ⟨h1, h0⟩]
    rw [e] at h ⊢
    exact fold_id h
theorem firsts_id {l : List Int} (h : EntOk l) : firsts l = l := by
  have := fold_id (l := l) (acc := []) (by simpa using h)
  simpa [firsts] using this
theorem firsts_snoc {l : List Int} {p : Int} : firsts (l ++ [p]) = stepF (firsts l) p := by simp [firsts]
theorem fold_stop : ∀ {l acc : List Int}, (0 : Int) ∈ acc → l.foldl stepF acc = acc
  | [], _, _ => rfl
  | p :: l, acc, h => by
    rw [List.foldl_cons, show stepF acc p = acc from if_neg fun z => z.2 h]
    exact fold_stop h
theorem fold_sub : ∀ {l acc : List Int} {p : Int}, p ∈ l.foldl stepF acc → p ∈ acc ∨ p ∈ l
  | [], _, _, h => .inl h
  | q :: l, acc, p, h => by
    rw [List.foldl_cons] at h
    rcases fold_sub h with h | h
    · unfold stepF at h
      split at h
      · rcases List.mem_append.mp h with h | h
        · exact .inl h
        · rw [List.mem_singleton] at h; subst h; exact .inr List.mem_cons_self
      · exact .inl h
    · exact .inr (List.mem_cons_of_mem _ h)
theorem firsts_sub {l : List Int} {p : Int} (h : p ∈ firsts l) : p ∈ l := (fold_sub h).elim (fun z => absurd z List.not_mem_nil) id
theorem fold_len : ∀ {l acc : List Int}, (l.foldl stepF acc).length ≤ acc.length + l.length
  | [], _ => Nat.le_refl _
  | q :: l, acc => by
    rw [List.foldl_cons]
    have h := fold_len (l := l) (acc := stepF acc q)
    have : (stepF acc q).length ≤ acc.length + 1 := by unfold stepF; split <;> simp
    rw [List.length_cons]; omega
theorem firsts_len {l : List Int} : (firsts l).length ≤ l.length := by have := fold_len (l := l) (acc := []); simpa [firsts] using this
theorem atI_last {l : List Int} {p : Int} : atI ((l ++ [p]).map D.int) (-1) = some (.int p) := by
  unfold atI ixN
  rw [if_neg (by omega), List.length_map, List.length_append, List.length_singleton]
  rw [if_pos (by omega), Option.bind_some, List.map_append, show (-1 + ((l.length + 1 : Nat) : Int)).toNat = l.length by omega]
  simp
theorem first_ones_ok {ps : List Int} (hl : ps.length ≤ 1000000) : F_first_ones (.tup (ps.map D.int)) = some (.tup ((firsts ps).map D.int)) := by
  have main : ∀ (ps acc : List Int), EntOk acc → acc.length + ps.length ≤ 1000000 →
      loopC (R := D) (fun (s3 : List D) x5 => ((cNe (D.lst s3) (D.lst [])).bind fun t10 => if t10 = true then (dIx (D.lst s3) (D.int (-1))).bind fun v11 => (cEq v11 (D.int 0)).bind fun t12 => some t12 else some false).bind fun t13 => if t13 = true then some (.brk s3) else ((cNin x5 (D.lst s3)).bind fun t16 => if t16 = true then (chk (s3.length < 1000000) ()).bind fun _ => some (s3 ++ [x5]) else some s3).bind fun (r15 : List D) => some (.go r15)) (acc.map D.int) (ps.map D.int) = some (.go ((ps.foldl stepF acc).map D.int)) := by
    intro ps
    induction ps with
    | nil => intro acc _ _; rfl
    | cons p ps ih =>
      intro acc he hz
      have test : ((cNe (D.lst (acc.map D.int)) (D.lst [])).bind fun t10 => if t10 = true then (dIx (D.lst (acc.map D.int)) (D.int (-1))).bind fun v11 => (cEq v11 (D.int 0)).bind fun t12 => some t12 else some false) = some (decide ((0 : Int) ∈ acc)) := by
        rw [cNe_of, nilB_ints]
        rcases List.eq_nil_or_concat acc with rfl | ⟨a, q, rfl⟩
        · rfl
        · rw [List.concat_eq_append] at he ⊢
          have : (a ++ [q]).isEmpty = false := by simp
          rw [this]
          simp only [Option.map_some, Option.bind_some, Bool.not_false, if_true, dIx_li, atI_last, cEq_ii]
          congr 1
          exact decide_eq_decide.mpr (ent_zero he).symm
      rw [List.map_cons, loopC, test, Option.bind_some, List.foldl_cons]
      by_cases h0 : (0 : Int) ∈ acc
      · rw [if_pos (decide_eq_true h0), Option.bind_some, show stepF acc p = acc from if_neg fun z => z.2 h0, fold_stop h0]
      · rw [if_neg (by simpa using h0), cNin_of, cIn_ints, Option.map_some, Option.bind_some]
        rw [List.length_cons] at hz
        by_cases hp : p ∈ acc
        · rw [decide_eq_true hp, show stepF acc p = acc from if_neg fun z => z.1 hp]
          simp only [Bool.not_true, Bool.false_eq_true, if_false, Option.bind_some]
          exact ih acc he (by omega)
        · rw [decide_eq_false hp, show stepF acc p = acc ++ [p] from if_pos ⟨hp, h0⟩]
          simp only [Bool.not_false, if_true, List.length_map]
          rw [chk_pos (by omega)]
          simp only [Option.bind_some]
          have e := ent_step (p := p) he
          rw [show stepF acc p = acc ++ [p] from if_pos ⟨hp, h0⟩] at e
          have := ih (acc ++ [p]) e (by rw [List.length_append, List.length_singleton]; omega)
          rw [List.map_append] at this
          exact this
  unfold F_first_ones
  rw [dIter_t, Option.bind_some]
  have := main ps [] ent_nil (by simpa using hl)
  rw [List.map_nil] at this
  rw [this, Option.bind_some]
  rfl
/-- the order of some positions -/
def ordD (C : Addr) (l : List Int) : D := .ins C [(("entries" : Str), D.tup (l.map D.int))]
theorem between_ok {p a b : Int} : F_is_between (.int p) (.int a) (.int b) = some (.bl (decide (a ≤ p ∧ p ≤ b))) := by
  unfold F_is_between
  rw [show dIsi "int" (.int p) = some true from chk_pos rfl, show dIsi "bool" (.int p) = some false from chk_pos rfl]
  simp only [Option.bind_some, dTru_b, if_true, Bool.not_false, cLe_ii]
  by_cases h : a ≤ p
  · rw [if_pos (decide_eq_true h)]
    simp [h]
  · rw [if_neg (by simpa using h)]
    simp [h]
theorem isC_ord {C : Addr} {l : List Int} : isC C (ordD C l) = some [(("entries" : Str), D.tup (l.map D.int))] := by
  unfold isC ordD
  simp
theorem lk_ord {l : List Int} : ([(("entries" : Str), D.tup (l.map D.int))] : List (Str × D)).lookup ("entries" : Str) = some (.tup (l.map D.int)) := rfl
/-! ### orders made, errors told -/
theorem initX_ok {Z : Str → Addr} {ps : List Int} (hp : ∀ p ∈ ps, 0 ≤ p ∧ p ≤ 24) (hl : ps.length ≤ 1000000) : F_Order___init__ Z (.tup (ps.map D.int)) = some (.ok [(("entries" : Str), D.tup ((firsts ps).map D.int))]) := by
  have hc : mthC (Z "Order") "GREATEST" (D.ins (Z "Order") ([] : List (Str × D))) = some [] := by
    unfold mthC isC
    simp
  unfold F_Order___init__
  rw [dEnum_t, Option.bind_some]
  generalize hf : (fun (s2 : Unit) x4 => _ : Unit → D → Option (Ctl Unit (Except Er (List (Str × D))))) = f
  have step : ∀ (p : Int) (i : Nat), 0 ≤ p ∧ p ≤ 24 → f () (.tup [.int i, .int p]) = some (.go ()) := by
    intro p i h
    rw [← hf]
    simp only [un2_t, Option.bind_some, hc, between_ok, dTru_b, decide_eq_true h]
    rfl
  clear hf
  have main : ∀ (ps : List Int) (i : Nat), (∀ p ∈ ps, 0 ≤ p ∧ p ≤ 24) → loopC f () (enumD i (ps.map D.int)) = some (.go ()) := by
    intro ps
    induction ps with
    | nil => intro i _; rfl
    | cons p ps ih =>
      intro i h
      rw [List.map_cons, enumD, loopC, step p i (h p List.mem_cons_self)]
      exact ih (i + 1) fun q hq => h q (List.mem_cons_of_mem _ hq)
  rw [main ps 0 hp, Option.bind_some, ctl_g, first_ones_ok hl, Option.bind_some, chk_pos (show ([] : List (Str × D)).length < 1000 by decide)]
  rfl
theorem nd_len : ∀ (k : Nat) (l : List Int), l.Nodup → (∀ p ∈ l, 0 ≤ p ∧ p < (k : Int)) → l.length ≤ k
  | 0, l, _, h => by
    cases l with
    | nil => exact Nat.le_refl _
    | cons a l => have := h a List.mem_cons_self; omega
  | k + 1, l, hn, h => by
    by_cases hk : (k : Int) ∈ l
    · have h1 := nd_len k (l.erase (k : Int)) (hn.erase _) fun p hp => by
        have hp := (List.Nodup.mem_erase_iff hn).mp hp
        have := h p hp.2
        have := hp.1
        omega
      rw [List.length_erase_of_mem hk] at h1
      omega
    · have h1 := nd_len k l hn fun p hp => by
        have := h p hp
        have : p ≠ (k : Int) := fun e => hk (e ▸ hp)
        omega
      omega
/-! ### looking at orders -/
theorem pos_ok {Z : Str → Addr} {l : List Int} : F_Order_positions Z (ordD (Z "Order") l) = some (.tup (l.map D.int)) := by
  unfold F_Order_positions
  rw [isC_ord, Option.bind_some, lk_ord]
  rfl
theorem isi_ord {C : Addr} {l : List Int} : isiC C (ordD C l) = some true := by unfold isiC ordD; simp
theorem insA_ord {C : Addr} {l : List Int} : insA (ordD C l) = some () := rfl
theorem oth_ord {Z : Str → Addr} {l : List Int} : othD ((["Order"] : List PySem.Str).map Z) (ordD (Z "Order") l) = some () := by unfold othD ordD; simp [DX.plain]
/-! ### a text is read as the law says -/
theorem lnl : ("\n" : Str) = S [10] := by decide
theorem lsp : (" " : Str) = S [32] := by decide
theorem lds : ("-" : Str) = S [45] := by decide
def linesT (x : Str) : List Str := Txt.split x (S [10])
def wordsT (l : Str) : List Str := Txt.split l (S [32])
def vd (x : Str) : Option (Nat × Nat) := match (if x = S [45] then none else firstBad [] (wordsT ((linesT x).headD Str.empty))) with
  | some k => some (0, k)
  | none => if 1 < (linesT x).length then some (1, 0) else none
def vD : Option (Nat × Nat) → D
  | some p => .tup [.int (p.1 : Int), .int (p.2 : Int)]
  | none => .non
theorem lines_form (x : Str) : ∃ l r, linesT x = l :: r := by
  cases e : linesT x with
  | nil => exact absurd e split_ne
  | cons l r => exact ⟨l, r, rfl⟩
theorem isi_strT {x : Str} : dIsi "str" (.str x) = some true := by unfold dIsi; exact chk_pos rfl
theorem ctlU {R T : Type} {o : Option (Ctl Unit R)} {f : Unit → Option T} {g : R → Option T} : (o.bind fun c => ctl c f g) = (o.bind fun c => ctl c f g) := rfl
theorem dueT_ok {n : Nat} {x : Str} (hx : TX n x) (hn : n ≤ 100000) : F_Ldue (.str x) = some (vD (vd x)) := by
  obtain ⟨l, r, e⟩ := lines_form x
  have hL := ts_split (c := 10) hx (by omega)
  have hl : TX (n + 1) l := hL.2.at (by show l ∈ linesT x; rw [e]; exact List.mem_cons_self)
  have hW := ts_split (c := 32) hl (by omega)
  have i0 : dIx (.lst ((linesT x).map D.str)) (D.int 0) = some (.str l) := by rw [e, List.map_cons, dIx_li]; exact atI_of_get (by decide) rfl
  have hwl : (wordsT l).length ≤ 1000000 := by have := hW.2.len; show (Txt.split l (S [32])).length ≤ _; omega
  have hww : ∀ w ∈ wordsT l, w.length ≤ 1000000 := fun w hw => by have := (hW.2.at hw).1; omega
  unfold F_Ldue
  rw [isi_strT, Option.bind_some, dTru_b, Option.bind_some, if_neg (by decide), strD_s, Option.bind_some, lnl, hL.1, Option.bind_some]
  rw [show Txt.split x (S [10]) = linesT x from rfl, i0, Option.bind_some, strD_s, Option.bind_some, lsp, hW.1, Option.bind_some, show Txt.split l (S [32]) = wordsT l from rfl, lds, cNe_of, cEq_ss, Option.map_some, Option.bind_some]
  have fin : ((dLen (.lst ((linesT x).map D.str))).bind fun v35 => (cGt v35 (D.int 1)).bind fun t36 => if t36 = true then some (D.tup [(D.int 1), (D.int 0)]) else some D.non) = some (vD (if 1 < (linesT x).length then some (1, 0) else none)) := by
    rw [dLen_l, Option.bind_some, cGt_ii, Option.bind_some, List.length_map]
    by_cases q : 1 < (linesT x).length
    · rw [if_pos (decide_eq_true (by omega)), if_pos q]; rfl
    · rw [if_neg (by simp; omega), if_neg q]; rfl
  have ll := law_loop hwl hww (wordsT l) [] rfl
  unfold vd
  rw [e, List.headD_cons, ← e]
  by_cases q : x = S [45]
  · rw [decide_eq_true q, if_neg (by decide), Option.bind_some, ctl_g, fin, Option.bind_some, if_pos q]
  · rw [decide_eq_false q, if_pos (by decide), dLen_l, Option.bind_some, Option.bind_some, List.length_map, dRange_1, chk_pos (by omega), Option.bind_some, Int.toNat_natCast]
    have ll : loopC _ () (rngD 0 (wordsT l).length) = _ := ll
    rw [ll, Option.bind_some, if_neg q]
    cases firstBad [] (wordsT l) with
    | some k => rfl
    | none =>
      rw [ctl_g, Option.bind_some, ctl_g, fin, Option.bind_some]
theorem ent_first : ∀ {ws pre : List Str}, goodW pre → EntOk (nP pre) → firstBad pre ws = none → EntOk (nP (pre ++ ws))
  | [], pre, _, h, _ => by simpa using h
  | w :: ws, pre, hg, h, hf => by
    rw [firstBad] at hf
    split at hf
    · cases hf
    · rename_i hb
      have hb : badB pre w = false := by simpa using hb
      have hg2 := goodW_snoc hg hb
      have e : ∃ p, posI w = some p := by
        have := hg2 w (by simp)
        cases e : posI w with
        | none => rw [e] at this; cases this
        | some p => exact ⟨p, rfl⟩
      obtain ⟨p, ep⟩ := e
      have m1 := mem_nP hg ep
      have m0 := mem_nP (p := 0) hg pos0
      have hb2 : w ∉ pre ∧ numS 0 ∉ pre := by
        unfold badB at hb
        simp only [Bool.or_eq_false_iff, decide_eq_false_iff_not] at hb
        exact ⟨hb.1.2, hb.2⟩
      have en : nP (pre ++ [w]) = stepF (nP pre) (p : Int) := by
        unfold stepF
        rw [if_pos ⟨fun z => hb2.1 (m1.mp z), fun z => hb2.2 (m0.mp z)⟩]
        unfold nP
        rw [List.map_append]
        simp [ep]
      have := ent_first hg2 (by rw [en]; exact ent_step h) hf
      simpa using this
theorem firstBad_lt : ∀ {ws pre : List Str} {k : Nat}, firstBad pre ws = some k → k < pre.length + ws.length
  | [], pre, k, h => by cases h
  | w :: ws, pre, k, h => by
    rw [firstBad] at h
    split at h
    · cases h; simp
    · have := firstBad_lt h
      rw [List.length_append, List.length_singleton] at this
      rw [List.length_cons]; omega
theorem nP_in {ws : List Str} : ∀ p ∈ nP ws, 0 ≤ p ∧ p ≤ 24 := fun p hp => by
  unfold nP at hp
  obtain ⟨w, hw, rfl⟩ := List.mem_map.mp hp
  cases e : posI w with
  | none => simp
  | some q => have := (posI_eq e).1; simp; omega
/-- the positions that a text writes -/
def posT (x : Str) : List Int := if x = S [45] then [] else nP (wordsT ((linesT x).headD Str.empty))
theorem read_ok {Z : Str → Addr} {n : Nat} {x : Str} (hx : TX n x) (hn : n ≤ 100000) : F_read_order Z (.str x) = some (match vd x with | some p => .error (Z "InvalidText", [("word", .int (p.2 : Int)), ("line", .int (p.1 : Int))]) | none => .ok (ordD (Z "Order") (posT x))) := by
  obtain ⟨l, r, e⟩ := lines_form x
  have hL := ts_split (c := 10) hx (by omega)
  have hl : TX (n + 1) l := hL.2.at (by show l ∈ linesT x; rw [e]; exact List.mem_cons_self)
  have hW := ts_split (c := 32) hl (by omega)
  have hwl : (wordsT l).length < 1000000 := by have := hW.2.len; show (Txt.split l (S [32])).length < _; omega
  have hww : ∀ w ∈ wordsT l, w.length ≤ 1000000 := fun w hw => by have := (hW.2.at hw).1; omega
  have eL : F_lines_in Z (.str x) = some (.ok (.lst ((linesT x).map fun l => .lst ((wordsT l).map D.str)))) := by
    unfold F_lines_in
    rw [isi_strT, Option.bind_some, dTru_b, Option.bind_some, if_neg (by decide), strD_s, Option.bind_some, lnl, hL.1, Option.bind_some, Option.bind_some, dIter_l, Option.bind_some, chk_pos (by rw [List.length_map]; have := hL.2.len; omega), Option.bind_some]
    rw [mapO_of (g := fun l => D.lst ((wordsT l).map D.str)) fun z hz => by
      have h1 := hL.2.at hz
      rw [strD_s, Option.bind_some, lsp, (ts_split (c := 32) h1 (by omega)).1, Option.bind_some]
      rfl]
    rfl
  have eP : F_order_positions Z (.str x) = some (match vd x with | some p => .error (Z "InvalidText", [("word", .int (p.2 : Int)), ("line", .int (p.1 : Int))]) | none => .ok (.tup ((posT x).map D.int))) := by
    unfold F_order_positions
    rw [eL, Option.bind_some]
    dsimp only [exC]
    rw [e, List.map_cons, show stD1 (.lst (D.lst ((wordsT l).map D.str) :: r.map fun l => .lst ((wordsT l).map D.str))) = some (.lst ((wordsT l).map D.str), .lst (r.map fun l => .lst ((wordsT l).map D.str))) from rfl, Option.bind_some, lds, cEq_ss, Option.bind_some]
    dsimp only
    rw [cNe_of, cEq_nilq, List.isEmpty_map, Option.map_some]
    have er : (1 < (linesT x).length) = (r.isEmpty = false) := by
      rw [e]
      cases r <;> simp
    unfold vd posT
    rw [e, List.headD_cons, ← e]
    by_cases q : x = S [45]
    · rw [if_pos (decide_eq_true q), Option.bind_some, if_pos q, if_pos q]
      cases hr : r.isEmpty with
      | true => rw [if_neg (by decide)]; simp only [er, hr]; rfl
      | false => rw [if_pos (by decide)]; simp only [er, hr]; rfl
    · rw [if_neg (by simpa using q), positions_in_ok hww hwl, Option.bind_some, if_neg q, if_neg q]
      cases firstBad [] (wordsT l) with
      | some k => rfl
      | none =>
        dsimp only
        rw [Option.bind_some]
        cases hr : r.isEmpty with
        | true => rw [if_neg (by decide)]; simp only [er, hr]; rfl
        | false => rw [if_pos (by decide)]; simp only [er, hr]; rfl
  unfold F_read_order
  rw [eP, Option.bind_some]
  cases hv : vd x with
  | some p => rfl
  | none =>
    dsimp only [exC]
    have hin : ∀ p ∈ posT x, 0 ≤ p ∧ p ≤ 24 := fun p hp => by
      unfold posT at hp
      split at hp
      · exact absurd hp List.not_mem_nil
      · exact nP_in p hp
    have hlen : (posT x).length ≤ 1000000 := by
      unfold posT
      split
      · simp
      · rw [e, List.headD_cons]; unfold nP; rw [List.length_map]; omega
    have hE : EntOk (posT x) := by
      unfold posT
      split
      · exact ent_nil
      · rename_i q
        unfold vd at hv
        rw [if_neg q] at hv
        cases hf : firstBad [] (wordsT ((linesT x).headD Str.empty)) with
        | some k => rw [hf] at hv; cases hv
        | none =>
          have := ent_first (pre := []) (fun w hw => absurd hw List.not_mem_nil) ent_nil hf
          simpa using this
    rw [items_t, Option.bind_some, chk_pos (by rw [List.length_map]; omega), Option.bind_some, initX_ok hin hlen, Option.bind_some, firsts_id hE]
    rfl
theorem show_ok {Z : Str → Addr} {n : Nat} {x : Str} (hx : TX n x) (hn : n ≤ 100000) (hv : vd x = none) : F_show_order Z (ordD (Z "Order") (posT x)) = some (.str x) := by
  obtain ⟨l, r, e⟩ := lines_form x
  have hL := ts_split (c := 10) hx (by omega)
  have hl : TX (n + 1) l := hL.2.at (by show l ∈ linesT x; rw [e]; exact List.mem_cons_self)
  have hW := ts_split (c := 32) hl (by omega)
  have hwl : (wordsT l).length < 1000000 := by have := hW.2.len; show (Txt.split l (S [32])).length < _; omega
  unfold F_show_order
  rw [strD_s, Option.bind_some, isC_ord, Option.bind_some, pos_ok, Option.bind_some, Option.bind_some, dIter_t, Option.bind_some, lsp]
  by_cases q : x = S [45]
  · have ep : posT x = [] := by unfold posT; rw [if_pos q]
    have ej : dJoinS (S [32]) (.lst []) = some (.str Str.empty) := by
      have := (ts_join (s := 0) (c := 32) (zs := []) ⟨by simp, fun z hz => absurd hz List.not_mem_nil⟩ (by decide) (by decide)).1
      exact this
    rw [ep, List.map_nil, chk_pos (by decide), Option.bind_some, mapO_nil, Option.bind_some, ej, Option.bind_some]
    rw [show dTru (.str Str.empty) = some false from chk_pos (by decide), Option.bind_some, if_neg (by decide), Option.bind_some, lds, q]
  · have ep : posT x = nP (wordsT l) := by unfold posT; rw [if_neg q, e, List.headD_cons]
    have hf : firstBad [] (wordsT l) = none := by
      unfold vd at hv
      rw [if_neg q, e, List.headD_cons] at hv
      cases hf : firstBad [] (wordsT l) with
      | some k => rw [hf] at hv; cases hv
      | none => rfl
    have hr : linesT x = [l] := by
      unfold vd at hv
      rw [if_neg q, e, List.headD_cons, hf, ← e] at hv
      dsimp only at hv
      split at hv
      · cases hv
      · rename_i h1
        rw [e] at h1
        cases r with
        | nil => exact e
        | cons a r => exact absurd (by simp) h1
    have exl : x = l := by
      have := split_back x (S [10])
      rw [show Txt.split x (S [10]) = linesT x from rfl, hr] at this
      exact this.symm
    have hg : goodW (wordsT l) := by
      have := firstBad_good (pre := []) (fun w hw => absurd hw List.not_mem_nil) hf
      simpa using this
    have em : (nP (wordsT l)).map D.int = (wordsT l).map fun w => D.int (((posI w).getD 0 : Nat) : Int) := by unfold nP; rw [List.map_map]; rfl
    rw [ep, em, chk_pos (by rw [List.length_map]; omega), Option.bind_some, mapO_of (g := fun w => D.str w) fun w hw => by
      have := hg w hw
      cases ew : posI w with
      | none => rw [ew] at this; cases this
      | some p =>
        obtain ⟨hp, rfl⟩ := posI_eq ew
        show (dStr (.int ((p : Nat) : Int))).bind _ = _
        rw [dStr_n (by omega), Option.bind_some, (look_at hp).2.1]]
    have ej := (ts_join (c := 32) (hW.2) (by decide) (by omega)).1
    have sb : Str.join (S [32]) (Txt.split l (S [32])) = l := split_back l (S [32])
    rw [sb] at ej
    have hpos : 1 ≤ l.length := by
      have hne : wordsT l ≠ [] := split_ne
      have ejs := jsum (y := S [32]) hne
      rw [show Str.join (S [32]) (wordsT l) = l from sb] at ejs
      obtain ⟨w, ws, ew⟩ : ∃ w ws, wordsT l = w :: ws := by
        cases h : wordsT l with
        | nil => exact absurd h hne
        | cons w ws => exact ⟨w, ws, rfl⟩
      have hw1 := hg w (by rw [ew]; exact List.mem_cons_self)
      cases ep : posI w with
      | none => rw [ep] at hw1; cases hw1
      | some p =>
        obtain ⟨hp, rfl⟩ := posI_eq ep
        have := (look_at hp).2.2.2.1
        rw [ew, List.map_cons, List.sum_cons] at ejs
        omega
    have hl1 := hl.1
    rw [Option.bind_some, show ((wordsT l).map fun w => D.str w) = (wordsT l).map D.str from rfl, show (D.lst ((wordsT l).map D.str)) = .lst ((Txt.split l (S [32])).map D.str) from rfl, ej, Option.bind_some, show dTru (.str l) = some ((l.length : Int) != 0) from chk_pos (by omega), Option.bind_some]
    have ht : ((l.length : Int) != 0) = true := by simp; omega
    rw [ht, if_pos rfl, Option.bind_some, exl]
theorem hz_ne {Z : Str → Addr} (hz : Hz Z) : Z "InvalidText" ≠ Z "InvalidPosition" := by
  unfold Hz HzL at hz
  simp at hz
  exact fun e => hz e
theorem heard_err {Z : Str → Addr} (hz : Hz Z) {a b : D} : F_Lheard Z (.error (Z "InvalidText", [("word", b), ("line", a)])) = some (.tup [a, b]) := by
  have h1 := hz_ne hz
  unfold F_Lheard
  have e : (Str.ofString "line" == Str.ofString "word") = false := by decide
  simp [exC, isiE, xflD, List.lookup, h1, ctl, e]
theorem heard_ok {Z : Str → Addr} {v : D} {x : Str} (h : F_show_order Z v = some (.str x)) : F_Lheard Z (.ok v) = some (.lst [.str x]) := by
  unfold F_Lheard
  simp [exC, h, ctl]
theorem vd_lt {n : Nat} {x : Str} (hx : TX n x) (hn : n ≤ 100000) {p : Nat × Nat} (h : vd x = some p) : p.1 ≤ 1 ∧ p.2 ≤ 1000000 := by
  obtain ⟨l, r, e⟩ := lines_form x
  have hL := ts_split (c := 10) hx (by omega)
  have hl : TX (n + 1) l := hL.2.at (by show l ∈ linesT x; rw [e]; exact List.mem_cons_self)
  have hW := ts_split (c := 32) hl (by omega)
  have hwl : (wordsT l).length < 1000000 := by have := hW.2.len; show (Txt.split l (S [32])).length < _; omega
  unfold vd at h
  rw [e, List.headD_cons, ← e] at h
  split at h
  · rename_i k hk
    cases h
    split at hk
    · cases hk
    · have := firstBad_lt hk
      simp at this
      exact ⟨Nat.zero_le _, by show k ≤ _; omega⟩
  · split at h
    · cases h; exact ⟨by decide, by decide⟩
    · cases h
theorem dbl_lst {v : D} : dMul (.lst [v]) (D.int 2) = some (.lst [v, v]) := by
  rw [dMul_li, chk_pos ⟨⟨by decide, by decide⟩, by rw [List.length_singleton]; decide⟩]
  rfl
theorem right_any {Z : Str → Addr} {x v : D} {r : Except Er D} {due : D} (hd : F_Ldue x = some due) (hr : F_read_order Z x = some r) (hh : F_Lheard Z r = some v) {t : Bool} (ht : cIs due .non = some t) (hv : (if t = true then D.lst [x] else due) = v) (hrb : RB v 10 3000000) : F_Lright Z x = some (.bl true) := by
  unfold F_Lright
  obtain ⟨Y, eY⟩ := rb_repr (rb_lst (rbs_cons hrb (rbs_cons hrb rbs_nil))) (by decide) (by decide)
  have e1 : ((some r).bind fun r6 => exC r6 (fun e5 => (some (.error e5) : Option (Except Er D))) (fun v4 => some (.ok v4))) = some r := by cases r <;> rfl
  rw [hd, Option.bind_some, hr, e1]
  repeat (first | rw [Option.bind_some] | rw [hh])
  rw [chk_pos (by simp), Option.bind_some, show [v] ++ [v] = [v, v] from rfl, eY, Option.bind_some, ht, Option.bind_some]
  have e3 : (if t = true then some (D.lst [x]) else some due) = some v := by
    rw [← hv]; split <;> rfl
  rw [e3, Option.bind_some, dbl_lst, Option.bind_some, eY, Option.bind_some, cEq_ss, decide_eq_true rfl, Option.bind_some]
theorem right_str {Z : Str → Addr} (hz : Hz Z) {n : Nat} {x : Str} (hx : TX n x) (hn : n ≤ 100000) : F_Lright Z (.str x) = some (.bl true) := by
  have hd := dueT_ok hx hn
  have hr := read_ok (Z := Z) hx hn
  cases hv : vd x with
  | some p =>
    rw [hv] at hd hr
    have hp := vd_lt hx hn hv
    exact right_any hd hr (heard_err hz) rfl rfl ((rb_tup (rbs_cons (rb_int (by rw [e200]; omega)) (rbs_cons (rb_int (by rw [e200]; omega)) rbs_nil))).mono (by decide) (by decide))
  | none =>
    rw [hv] at hd hr
    have hl := hx.1
    have rx : RB (.str x) 5 1000100 := rb_good (show good (.str x) from hx.2) (by rw [wt]; omega) (by simp [dep])
    exact right_any hd hr (heard_ok (show_ok hx hn hv)) rfl rfl ((rb_lst (rbs_cons rx rbs_nil)).mono (by decide) (by decide))
theorem right_oth {Z : Str → Addr} (hz : Hz Z) {x : D} (h1 : plain x = true) (h2 : isi "str" x = false) : F_Lright Z x = some (.bl true) := by
  have hi : dIsi "str" x = some false := by unfold dIsi; rw [chk_pos h1, h2]
  have hd : F_Ldue x = some (.tup [.int 0, .int 0]) := by
    unfold F_Ldue
    rw [hi, Option.bind_some, dTru_b, Option.bind_some, if_pos (show (!false) = true from rfl)]
  have hL : F_lines_in Z x = some (.error (Z "InvalidText", [("word", .int 0), ("line", .int 0)])) := by
    unfold F_lines_in
    rw [hi, Option.bind_some, dTru_b, Option.bind_some, if_pos (show (!false) = true from rfl)]
  have hr : F_read_order Z x = some (.error (Z "InvalidText", [("word", .int 0), ("line", .int 0)])) := by
    unfold F_read_order F_order_positions
    rw [hL]
    rfl
  exact right_any hd hr (heard_err hz) rfl rfl ((rb_tup (rbs_cons (rb_int (by rw [e200]; omega)) (rbs_cons (rb_int (by rw [e200]; omega)) rbs_nil))).mono (by decide) (by decide))
/-! ### lines as the law draws them -/
theorem gofT {α : Type} {o : Option α} {P : α → Prop} {x : α} (e : o = some x) (h : P x) : Gives o P := by rw [e]; exact .mk h
theorem popS {zs : List Str} {i : Int} (h : 0 ≤ i ∧ i < (zs.length : Int)) (hl : zs.length ≤ 100000) : lPopAt (zs.map D.str) (.int i) = some (.str (zs.getD i.toNat Str.empty), (zs.eraseIdx i.toNat).map D.str) := by
  unfold lPopAt
  simp only
  rw [chk_pos (by omega), Option.bind_some, List.length_map, ixN_of h.1 h.2, Option.bind_some]
  rw [List.getElem?_map, List.getElem?_eq_getElem (by omega), List.getD_eq_getElem?_getD, List.getElem?_eq_getElem (by omega)]
  simp only [Option.map_some, Option.getD_some]
  congr 2
  apply List.ext_getElem?
  intro j
  rw [List.getElem?_eraseIdx, List.getElem?_map, List.getElem?_map, List.getElem?_map, List.getElem?_eraseIdx]
  split <;> rfl
theorem popsS {k : Nat} {T : List Str} {s : Hs} {m : Int} (hT : ∀ x ∈ T, TX 2 x) (hk : k ≤ T.length) (hl : T.length ≤ 1000) (hs : HOk s m) (hm : m + k ≤ 900000) :
    Gives (mapS (fun (s79 : List D × List D) x80 => (dLen (D.lst s79.1)).bind fun v85 => (F_Ldraw s79.2 v85).bind fun v86 => (lPopAt s79.1 v86.1).bind fun v87 => some (v87.1, v87.2, v86.2)) (T.map D.str, penL s) (rngD 0 k)) fun q => ∃ (U : List Str) (s' : Hs), q.1 = U.map D.str ∧ q.2.2 = penL s' ∧ U.length = k ∧ (∀ x ∈ U, TX 2 x) ∧ HOk s' (m + k) := by
  refine (gives_mapS (fun i acc s' => i ≤ k → ∃ (U V : List Str) (s'' : Hs), acc = U.map D.str ∧ s' = (V.map D.str, penL s'') ∧ U.length = i ∧ V.length = T.length - i ∧ (∀ x ∈ U, TX 2 x) ∧ (∀ x ∈ V, TX 2 x) ∧ HOk s'' (m + i)) (fun _ => ⟨[], T, s, rfl, rfl, rfl, rfl, fun t ht => absurd ht List.not_mem_nil, hT, by simpa using hs⟩) fun i x acc s' hx hI => ?_).imp fun q hq => ?_
  · have hi : i < k := by
      have := (List.getElem?_eq_some_iff.mp hx).1
      rwa [rngD_len] at this
    obtain ⟨U, V, s2, rfl, rfl, hu, hv, hU, hV, h2⟩ := hI (by omega)
    dsimp only
    rw [dLen_l, Option.bind_some, List.length_map]
    refine .bind ((draw_ok h2 (by omega) (by omega)).imp fun q hq => ?_)
    obtain ⟨j, s3, rfl, j0, j1, h3⟩ := hq
    dsimp only
    rw [popS ⟨j0, j1⟩ (by omega), Option.bind_some]
    refine .mk fun _ => ⟨U ++ [V.getD j.toNat Str.empty], V.eraseIdx j.toNat, s3, by rw [List.map_append]; rfl, rfl, by rw [List.length_append, hu]; rfl, by rw [List.length_eraseIdx_of_lt (by omega)]; omega, fun t ht => ?_, fun t ht => hV t (List.mem_of_mem_eraseIdx ht), by rw [show m + ((i + 1 : Nat) : Int) = m + i + 1 by omega]; exact h3⟩
    rcases List.mem_append.mp ht with ht | ht
    · exact hU t ht
    · rw [List.mem_singleton] at ht
      rw [ht, List.getD_eq_getElem?_getD, List.getElem?_eq_getElem (by omega)]
      exact hV _ (List.getElem_mem _)
  · rw [rngD_len] at hq
    obtain ⟨U, V, s2, e1, e2, hu, hv, hU, hV, h2⟩ := hq (Nat.le_refl _)
    exact ⟨U, s2, e1, by rw [e2], hu, hU, h2⟩
theorem findS_some {ps : List Str} {z : Str} (h : z ∈ ps) : ∃ j : Nat, dLidx (.lst (ps.map D.str)) (.str z) = some (.int (j : Int)) := by
  have fl : (ps.map D.str).all isFl = true := by
    rw [List.all_map, List.all_eq_true]
    exact fun x _ => rfl
  cases hq : (ps.map D.str).findIdx? (isSt z) with
  | none =>
    rw [List.findIdx?_eq_none_iff] at hq
    have := hq (.str z) (List.mem_map_of_mem h)
    simp [isSt] at this
  | some j => exact ⟨j, by
    show (if (ps.map D.str).all isFl = true then ((ps.map D.str).findIdx? (isSt z)).map (fun (j : Nat) => D.int (j : Int)) else none) = _
    rw [if_pos fl, hq]; rfl⟩
theorem ts_of {k : Nat} : ∀ {zs : List Str}, (∀ z ∈ zs, TX k z) → TS (zs.length * (k + 1)) zs
  | [], _ => ⟨by simp, fun z hz => absurd hz List.not_mem_nil⟩
  | z :: zs, h => by
    have ih := ts_of (k := k) (zs := zs) fun y hy => h y (List.mem_cons_of_mem _ hy)
    have hz := h z List.mem_cons_self
    refine ⟨?_, fun y hy => (h y hy).2⟩
    rw [List.map_cons, List.sum_cons, List.length_cons, Nat.succ_mul]
    have := ih.1
    have := hz.1
    omega
theorem tx_num {p : Nat} (h : p < 25) : TX 2 (numS p) := by
  have := look_at h
  refine ⟨this.2.2.2.2, okS_iff.mpr fun c hc => ?_⟩
  have := List.all_eq_true.mp this.2.2.1 c hc
  unfold isDg at this
  have := of_decide_eq_true this
  omega
theorem rngT {n : Nat} : rngD 0 n = (List.range n).map fun (k : Nat) => D.int (k : Int) := by
  unfold rngD
  exact List.map_congr_left fun i _ => by show D.int (0 + (i : Int)) = _; rw [Int.zero_add]
theorem line_ok {s : Hs} {m : Int} (hs : HOk s m) (hm : m ≤ 800000) : Gives (F_Lline (penL s)) fun q => ∃ x s', q = (.str x, penL s') ∧ TX 80 x ∧ HOk s' (m + 60) := by
  unfold F_Lline
  rw [dRange_1, chk_pos (by decide), Option.bind_some, chk_pos (by decide), Option.bind_some, show (25 : Int).toNat = 25 from rfl, rngT]
  rw [mapO_of (g := fun k : Nat => D.str (numS k)) fun k hk => by
    have hk := List.mem_range.mp hk
    rw [dStr_n (by omega), Option.bind_some, (look_at hk).2.1]]
  rw [Option.bind_some]
  refine .bind (Gives.imp (Q := fun q : D × List D => ∃ c s', q = (.int c, penL s') ∧ 0 ≤ c ∧ c ≤ 25 ∧ HOk s' (m + 2)) ?_ fun q hq => ?_)
  · refine .bind ((draw_ok hs (by omega) (by decide)).imp fun q hq => ?_)
    obtain ⟨k1, s1, rfl, k10, k11, h1⟩ := hq
    dsimp only
    refine .bind ((draw_ok h1 (by omega) (by decide)).imp fun q hq => ?_)
    obtain ⟨k2, s2, rfl, k20, k21, h2⟩ := hq
    dsimp only
    rw [cEq_ii, Option.bind_some, dIntT_b, Option.bind_some]
    by_cases q : k2 = 0
    · rw [decide_eq_true q, if_pos rfl, show dIx (.lst [.int k1, .int 25]) (.int 1) = some (.int 25) from rfl, Option.bind_some]
      exact .mk ⟨25, s2, rfl, by decide, by decide, h2.mono (by omega)⟩
    · rw [decide_eq_false q, if_neg (by decide), show dIx (.lst [.int k1, .int 25]) (.int 0) = some (.int k1) from rfl, Option.bind_some]
      exact .mk ⟨k1, s2, rfl, k10, by omega, h2.mono (by omega)⟩
  obtain ⟨c, s1, rfl, c0, c1, h1⟩ := hq
  dsimp only
  rw [dRange_1, chk_pos (by omega), Option.bind_some, chk_pos (by rw [rngD_len]; omega), Option.bind_some, show ((List.range 25).map fun k : Nat => D.str (numS k)) = ((List.range 25).map numS).map D.str from by rw [List.map_map]; rfl]
  refine .bind ((popsS (T := (List.range 25).map numS) (fun x hx => by
    obtain ⟨p, hp, rfl⟩ := List.mem_map.mp hx
    exact tx_num (List.mem_range.mp hp)) (by rw [List.length_map, List.length_range]; omega) (by decide) h1 (by omega)).imp fun q hq => ?_)
  obtain ⟨U, s2, e1, e2, hU, hT, h2⟩ := hq
  rw [e1, e2]
  have hT := (ts_of hT).mono (show U.length * (2 + 1) ≤ 75 by omega)
  refine .bind (Gives.imp (Q := fun r => ∃ V, r = .lst (V.map D.str) ∧ TS 75 V) ?_ fun r hr => ?_)
  · rw [cIn_strs, Option.bind_some]
    by_cases z : ("0" : Str) ∈ U
    · obtain ⟨j, ej⟩ := findS_some z
      obtain ⟨y, ey, hy, _⟩ := ts_cut (u := none) (v := some ((j : Int) + 1)) hT
      rw [if_pos (decide_eq_true z), lstD_l, Option.bind_some, ej, Option.bind_some, dAdd_ii, Option.bind_some, dEnd_i, Option.bind_some, ey]
      exact .mk ⟨y, rfl, hy⟩
    · rw [if_neg (by simpa using z)]
      exact .mk ⟨U, rfl, hT⟩
  obtain ⟨V, rfl, hV⟩ := hr
  rw [cNe_of, cEq_nilq, Option.map_some, Option.bind_some]
  refine .bind (Gives.imp (Q := fun v => ∃ x, v = .str x ∧ TX 80 x) ?_ fun v hv => ?_)
  · split
    · have := ts_join (c := 32) hV (by decide) (by decide)
      rw [strD_s, Option.bind_some, lsp, this.1]
      exact .mk ⟨_, rfl, this.2.mono (by decide)⟩
    · exact .mk ⟨_, rfl, by decide, by decide +kernel⟩
  obtain ⟨x, rfl, hx⟩ := hv
  exact .mk ⟨x, s2, rfl, hx, h2.mono (by omega)⟩
theorem ix_texts {N : Nat} {zs : List Str} {k : Int} (h : ∀ z ∈ zs, TX N z) (h0 : 0 ≤ k) (h1 : k < (zs.length : Int)) : ∃ z, dIx (.lst (zs.map D.str)) (.int k) = some (.str z) ∧ TX N z := by
  have hl : k.toNat < zs.length := by omega
  refine ⟨zs[k.toNat], ?_, h _ (List.getElem_mem _)⟩
  rw [dIx_li]
  exact atI_of_get h0 (by rw [List.getElem?_map, List.getElem?_eq_getElem hl]; rfl)
theorem ix_in {l : List D} {k : Int} (h0 : 0 ≤ k) (h1 : k < (l.length : Int)) : ∃ w, dIx (.lst l) (.int k) = some w ∧ w ∈ l := by
  have hl : k.toNat < l.length := by omega
  exact ⟨l[k.toNat], by rw [dIx_li]; exact atI_of_get h0 (List.getElem?_eq_getElem hl), List.getElem_mem _⟩
theorem sign_at {k : Int} (h0 : 0 ≤ k) (h1 : k < 17) : ∃ c, dIx (.str "0123456789 -\nGo+_") (.int k) = some (.str (S [c])) ∧ c < 0x110000 := by
  have hl : k.toNat < (Str.ofString "0123456789 -\nGo+_").cps.toList.length := by
    rw [show (Str.ofString "0123456789 -\nGo+_").cps.toList.length = 17 by decide]; omega
  refine ⟨(Str.ofString "0123456789 -\nGo+_").cps.toList[k.toNat], ?_, ?_⟩
  · rw [dIx_si, atI_of_get h0 (List.getElem?_eq_getElem hl), Option.bind_some, chk_pos (by decide)]
  · have : ∀ c ∈ (Str.ofString "0123456789 -\nGo+_").cps.toList, c < 0x110000 := by decide
    exact this _ (List.getElem_mem _)
theorem tx_one {c : Nat} (h : c < 0x110000) : TX 1 (S [c]) := ⟨by rw [S_len]; exact Nat.le_refl 1, okS_S.mpr fun d hd => by rw [List.mem_singleton] at hd; omega⟩
theorem mul_text {c n : Nat} (hc : c < 0x110000) (hn : n ≤ 10000) : dMul (.str (S [c])) (.int (n : Int)) = some (.str (Txt.mul (S [c]) (n : Int))) ∧ TX n (Txt.mul (S [c]) (n : Int)) := by
  have e : (Txt.mul (S [c]) (n : Int)).cps.toList = List.replicate n c := by
    have := PyProof.Rows.mul_one_list c (n : Int)
    rw [Int.toNat_natCast] at this
    exact this
  refine ⟨chk_pos ⟨by rw [S_len]; exact Nat.le_of_ble_eq_true rfl, by omega, by omega⟩, ?_, okS_iff.mpr fun d hd => ?_⟩
  · rw [len_cps, e, List.length_replicate]; exact Nat.le_refl _
  · rw [e] at hd
    have := List.eq_of_mem_replicate hd
    omega
theorem l9 : ("9" : Str) = S [57] := by decide
/-- what may stand in a word's place -/
def litW : List Str := ["", "-", "0", "00", "01", "25", "24", "100", Txt.mul (S [57]) ((40 : Nat) : Int), "-1", "P", S [32], S [10], "1.0"]
theorem litW_ok : ∀ z ∈ litW, TX 40 z := by
  intro z hz
  simp only [litW, List.mem_cons, List.not_mem_nil, or_false] at hz
  rcases hz with rfl | rfl | rfl | rfl | rfl | rfl | rfl | rfl | rfl | rfl | rfl | rfl | rfl | rfl
  case inr.inr.inr.inr.inr.inr.inr.inr.inl => exact (mul_text (by decide) (by decide)).2
  all_goals exact ⟨by decide, by decide +kernel⟩
theorem bent_ok {s : Hs} {m : Int} {n : Nat} {x : Str} (hs : HOk s m) (hm : m ≤ 800000) (hx : TX n x) (hn : n ≤ 100000) : Gives (F_Lbent (penL s) (.str x)) fun q => ∃ y s', q = (.str y, penL s') ∧ TX (4 * n + 100) y ∧ HOk s' (m + 10) := by
  obtain ⟨eW, hW⟩ := ts_split (c := 32) hx (by omega)
  have hWl := hW.len
  have hxl := hx.1
  unfold F_Lbent
  rw [strD_s, Option.bind_some, lsp, lnl, l9, eW]
  generalize Txt.split x (S [32]) = W at hW hWl ⊢
  rw [Option.bind_some, dLen_l, Option.bind_some, List.length_map, dAdd_ii, Option.bind_some]
  refine .bind ((draw_ok hs (by omega) (by omega)).imp fun q hq => ?_)
  obtain ⟨b, s1, rfl, b0, b1, h1⟩ := hq
  dsimp only
  rw [dLen_s, chk_pos (by omega), Option.bind_some, dAdd_ii, Option.bind_some]
  refine .bind ((draw_ok h1 (by omega) (by omega)).imp fun q hq => ?_)
  obtain ⟨p, s2, rfl, p0, p1, h2⟩ := hq
  dsimp only
  refine .bind ((draw_ok h2 (by omega) (by decide)).imp fun q hq => ?_)
  obtain ⟨k, s3, rfl, k0, k1, h3⟩ := hq
  dsimp only
  obtain ⟨c, ec, hc⟩ := sign_at k0 k1
  obtain ⟨A, eA, hA, sA⟩ := ts_cut (u := none) (v := some 1) hW
  obtain ⟨B, eB, hB, sB⟩ := ts_cut (u := some (-1)) (v := none) hW
  have hL : TS 574 litW := ts_of litW_ok
  obtain ⟨e1, t1⟩ := ts_add hL hA (by omega)
  obtain ⟨e2, t2⟩ := ts_add t1 hB (by omega)
  have t2l := t2.len
  have e9 : dMul (.str (S [57])) (.int 40) = some (.str (Txt.mul (S [57]) ((40 : Nat) : Int))) := (mul_text (c := 57) (n := 40) (by decide) (by decide)).1
  rw [ec, Option.bind_some, e9, Option.bind_some, dEnd_i, Option.bind_some, eA, Option.bind_some]
  rw [show dAdd (D.lst [D.str "", D.str "-", D.str "0", D.str "00", D.str "01", D.str "25", D.str "24", D.str "100", D.str (Txt.mul (S [57]) ((40 : Nat) : Int)), D.str "-1", D.str "P", D.str (S [32]), D.str (S [10]), D.str "1.0"]) (D.lst (A.map D.str)) = some (.lst ((litW ++ A).map D.str)) from e1, Option.bind_some, dEnd_i, Option.bind_some, eB, Option.bind_some, e2, Option.bind_some, dLen_l, Option.bind_some, List.length_map]
  refine .bind ((draw_ok h3 (by omega) (by rw [List.length_append, List.length_append, show litW.length = 14 from rfl]; rw [List.length_append, List.length_append, show litW.length = 14 from rfl] at t2l; omega)).imp fun q hq => ?_)
  obtain ⟨j, s4, rfl, j0, j1, h4⟩ := hq
  dsimp only
  obtain ⟨z, ez, hz⟩ := ix_texts (N := n + 41) (zs := litW ++ A ++ B) (fun y hy => by
    rcases List.mem_append.mp hy with hy | hy
    · rcases List.mem_append.mp hy with hy | hy
      · exact (litW_ok y hy).mono (by omega)
      · exact (hA.at hy).mono (by omega)
    · exact (hB.at hy).mono (by omega)) j0 j1
  obtain ⟨X1, eX1, hX1⟩ := tx_cut (u := none) (v := some p) hx (by omega)
  obtain ⟨X2, eX2, hX2⟩ := tx_cut (u := some p) (v := none) hx (by omega)
  obtain ⟨X3, eX3, hX3⟩ := tx_cut (u := some (p + 1)) (v := none) hx (by omega)
  obtain ⟨a1, g1⟩ := tx_add hX1 (tx_one hc) (by omega)
  obtain ⟨a2, g2⟩ := tx_add g1 hX2 (by omega)
  obtain ⟨a3, g3⟩ := tx_add hX1 hX3 (by omega)
  obtain ⟨a4, g4⟩ := tx_add g1 hX3 (by omega)
  obtain ⟨W1, eW1, hW1, _⟩ := ts_cut (u := none) (v := some b) hW
  obtain ⟨W2, eW2, hW2, _⟩ := ts_cut (u := some b) (v := none) hW
  obtain ⟨W3, eW3, hW3, _⟩ := ts_cut (u := some (b + 1)) (v := none) hW
  obtain ⟨a5, g5⟩ := ts_add hW1 (TS.one hz) (by omega)
  obtain ⟨a6, g6⟩ := ts_add g5 hW2 (by omega)
  obtain ⟨a7, g7⟩ := ts_add g5 hW3 (by omega)
  obtain ⟨j6, q6⟩ := ts_join (c := 32) g6 (by decide) (by omega)
  obtain ⟨j7, q7⟩ := ts_join (c := 32) g7 (by decide) (by omega)
  obtain ⟨j8, q8⟩ := ts_join (c := 32) hW.rev (by decide) (by omega)
  have o10 := tx_one (c := 10) (by decide)
  have o32 := tx_one (c := 32) (by decide)
  obtain ⟨b1, d1⟩ := tx_add hx o10 (by omega)
  obtain ⟨b2, d2⟩ := tx_add hx o32 (by omega)
  obtain ⟨b3, d3⟩ := tx_add o32 hx (by omega)
  obtain ⟨b4, d4⟩ := tx_add o10 hx (by omega)
  obtain ⟨b5, d5⟩ := tx_add d1 hx (by omega)
  have a5 : dAdd (D.lst (W1.map D.str)) (D.lst [D.str z]) = _ := a5
  have eR : dRev (D.lst (W.map D.str)) = some (.lst (W.reverse.map D.str)) := by rw [List.map_reverse]; rfl
  rw [ez]
  simp only [Option.bind_some, dEnd_i, dAdd_ii, strD_s, eX1, eX2, eX3, a1, a2, a3, a4, eW1, eW2, eW3, a5, a6, a7, j6, j7, eR, j8, b1, b2, b3, b4, b5]
  rw [dAdd_ll, chk_pos (Nat.le_of_ble_eq_true rfl), Option.bind_some, dAdd_ll, chk_pos (Nat.le_of_ble_eq_true rfl), Option.bind_some]
  refine .bind ((draw_ok h4 (by omega) (by decide)).imp fun q hq => ?_)
  obtain ⟨i, s5, rfl, i0, i1, h5⟩ := hq
  dsimp only
  obtain ⟨y, ey, hy⟩ := ix_texts (N := 4 * n + 100) (zs := [X1 ++ S [c] ++ X2, X1 ++ X3, X1 ++ S [c] ++ X3, Str.join (S [32]) (W1 ++ [z] ++ W2), Str.join (S [32]) (W1 ++ [z] ++ W3), Str.join (S [32]) W.reverse, x ++ S [10], x ++ S [32], S [32] ++ x, S [10] ++ x, x ++ S [10] ++ x]) (fun y hy => by
    simp only [List.mem_cons, List.not_mem_nil, or_false] at hy
    rcases hy with rfl | rfl | rfl | rfl | rfl | rfl | rfl | rfl | rfl | rfl | rfl
    · exact g2.mono (by omega)
    · exact g3.mono (by omega)
    · exact g4.mono (by omega)
    · exact q6.mono (by omega)
    · exact q7.mono (by omega)
    · exact q8.mono (by omega)
    · exact d1.mono (by omega)
    · exact d2.mono (by omega)
    · exact d3.mono (by omega)
    · exact d4.mono (by omega)
    · exact d5.mono (by omega)) i0 i1
  refine .bind (gofT ey ?_)
  exact .mk ⟨y, s5, rfl, hy, h5.mono (by omega)⟩
theorem filtO_noneT {f : D → Option (Option D)} : ∀ {l : List D}, (∀ a ∈ l, f a = some none) → filtO f l = some []
  | [], _ => rfl
  | a :: l, h => by
    have ih := filtO_noneT (f := f) (l := l) fun b hb => h b (List.mem_cons_of_mem _ hb)
    rw [filtO, h a List.mem_cons_self, Option.bind_some, ih]
    rfl
theorem law_true (Z : Str → Addr) (hz : Hz Z) (ns : List Int) : F_law Z (.scr ns) = some (.bl true) := by
  have all_ok : ∀ (n : Nat), n ≤ 100000 → ∀ l : List D, (∀ a ∈ l, (∃ x, a = .str x ∧ TX n x) ∨ (plain a = true ∧ isi "str" a = false)) → filtO (fun x18 => (F_Lright Z x18).bind fun v23 => (dTru v23).bind fun t24 => if (!t24) = true then some (some x18) else some none) l = some [] := fun n hn l h => filtO_noneT fun a ha => by
    have e : F_Lright Z a = some (.bl true) := by
      rcases h a ha with ⟨x, rfl, hx⟩ | ⟨h1, h2⟩
      · exact right_str hz hx hn
      · exact right_oth hz h1 h2
    rw [e, Option.bind_some, dTru_b, Option.bind_some, if_neg (by decide)]
  suffices h : Gives (F_law Z (.scr ns)) fun v => v = .bl true by
    obtain ⟨v, e, rfl⟩ := h
    exact e
  unfold F_law
  rw [pen_ok, Option.bind_some, dRange_1, chk_pos (by decide), Option.bind_some]
  refine .bind ((gives_loop (fun i s => ∃ s', s = penL s' ∧ HOk s' ((i : Int) * 200)) ⟨_, rfl, pen_hok ns⟩ fun i y s hy hI => ?_).imp fun c hc => ?_)
  · obtain ⟨s0, rfl, h0⟩ := hI
    have hi : i < 8 := by
      have := (List.getElem?_eq_some_iff.mp hy).1
      rwa [rngD_len] at this
    refine .bind ((line_ok h0 (by omega)).imp fun q hq => ?_)
    obtain ⟨x, s1, rfl, hx, h1⟩ := hq
    dsimp only
    refine .bind ((bent_ok h1 (by omega) hx (by decide)).imp fun q hq => ?_)
    obtain ⟨y1, s2, rfl, hy1, h2⟩ := hq
    dsimp only
    refine .bind ((draw_ok h2 (by omega) (by decide)).imp fun q hq => ?_)
    obtain ⟨k, s3, rfl, k0, k1, h3⟩ := hq
    dsimp only
    obtain ⟨w, ew, hw⟩ := ix_in (l := [D.non, (D.int 0), (D.bl true), (D.lst [.str x]), (D.tup [.str x]), (D.dct []), (D.lst []), (D.int 24)]) k0 k1
    rw [ew, Option.bind_some]
    refine .bind ((bent_ok h3 (by omega) hy1 (by decide)).imp fun q hq => ?_)
    obtain ⟨y2, s4, rfl, hy2, h4⟩ := hq
    dsimp only
    refine .bind ((bent_ok h4 (by omega) hx (by decide)).imp fun q hq => ?_)
    obtain ⟨y3, s5, rfl, hy3, h5⟩ := hq
    dsimp only
    rw [dIter_l, Option.bind_some, chk_pos (Nat.le_of_ble_eq_true rfl), Option.bind_some]
    rw [all_ok 5000 (by decide) _ fun a ha => by
      simp only [List.mem_cons, List.not_mem_nil, or_false] at ha
      rcases ha with rfl | rfl | rfl | rfl | rfl
      · exact .inl ⟨_, rfl, hx.mono (by decide)⟩
      · exact .inl ⟨_, rfl, hy1.mono (by decide)⟩
      · exact .inl ⟨_, rfl, hy2.mono (by decide)⟩
      · exact .inl ⟨_, rfl, hy3.mono (by decide)⟩
      · simp only [List.mem_cons, List.not_mem_nil, or_false] at hw
        rcases hw with rfl | rfl | rfl | rfl | rfl | rfl | rfl | rfl <;> exact .inr ⟨rfl, rfl⟩]
    rw [Option.bind_some, cNe_of, cEq_nilq, Option.map_some, Option.bind_some, if_neg (by decide)]
    exact .mk ⟨_, rfl, s5, rfl, h5.mono (by omega)⟩
  · obtain ⟨s', rfl, s2, rfl, h2⟩ := hc
    rw [ctl_g]
    have l0 : ("0" : Str) = S [48] := by decide
    obtain ⟨m9, t9⟩ := mul_text (c := 57) (n := 5000) (by decide) (by decide)
    obtain ⟨m0, t0⟩ := mul_text (c := 48) (n := 5000) (by decide) (by decide)
    have h1s : TX 2 ("1 " : Str) := ⟨by decide, by decide +kernel⟩
    obtain ⟨a1, t1⟩ := tx_add h1s t9 (by decide)
    have m9 : dMul (.str "9") (.int 5000) = _ := m9
    have m0 : dMul (.str "0") (.int 5000) = _ := m0
    rw [m9, Option.bind_some, Option.bind_some, a1, Option.bind_some, m0, Option.bind_some, dAdd_ll, chk_pos (by decide), Option.bind_some, dIter_l, Option.bind_some, chk_pos (by simp), Option.bind_some]
    rw [all_ok 6000 (by decide) _ fun a ha => by
      simp only [List.mem_append, List.mem_cons, List.not_mem_nil, or_false] at ha
      rcases ha with ha | ha
      · rcases ha with rfl | rfl | rfl | rfl | rfl | rfl | rfl | rfl | rfl | rfl | rfl | rfl | rfl | rfl | rfl | rfl <;> exact .inl ⟨_, rfl, by decide, by decide +kernel⟩
      · rcases ha with rfl | rfl | rfl | rfl | rfl
        · exact .inl ⟨_, rfl, t9.mono (by decide)⟩
        · exact .inl ⟨_, rfl, t1.mono (by decide)⟩
        · exact .inl ⟨_, rfl, t0.mono (by decide)⟩
        · exact .inl ⟨_, rfl, by decide, by decide +kernel⟩
        · exact .inl ⟨_, rfl, by decide, by decide +kernel⟩]
    rw [Option.bind_some, cEq_nilq, Option.bind_some]
    exact .mk rfl
end My
namespace My
open PySem PySem.Spec L2 DX SX PyProof.Rows StX LamX
theorem sc_Lpen : FnScope ["_law_script"] ["_law_script"] (defScope s_Lpen) := ⟨rfl, rfl, rfl, by decide +kernel, rfl, by decide +kernel, by decide +kernel⟩
theorem sc_Ldraw : FnScope ["_law_pen_here", "_law_many", "_law_digit", "_law_at", "_law_cell", "_law_large", "_law_mixed"] ["_law_pen_here", "_law_many"] (defScope s_Ldraw) := ⟨rfl, rfl, rfl, by decide +kernel, rfl, by decide +kernel, by decide +kernel⟩
theorem sc_Lline : FnScope ["_law_pen_here", "_law_left", "_law_found", "_law_spot", "_law_k"] ["_law_pen_here"] (defScope s_Lline) := ⟨rfl, rfl, rfl, by decide +kernel, rfl, by decide +kernel, by decide +kernel⟩
theorem sc_Lbent : FnScope ["_law_pen_here", "_law_line_here", "_law_words", "_law_at", "_law_spot", "_law_sign", "_law_some", "_law_word", "_law_pieces"] ["_law_pen_here", "_law_line_here"] (defScope s_Lbent) := ⟨rfl, rfl, rfl, by decide +kernel, rfl, by decide +kernel, by decide +kernel⟩
theorem sc_Lis_position : FnScope ["_law_word", "_law_sign"] ["_law_word"] (defScope s_Lis_position) := ⟨rfl, rfl, rfl, by decide +kernel, rfl, by decide +kernel, by decide +kernel⟩
theorem sc_Ldue : FnScope ["_law_thing", "_law_lines", "_law_words", "_law_at"] ["_law_thing"] (defScope s_Ldue) := ⟨rfl, rfl, rfl, by decide +kernel, rfl, by decide +kernel, by decide +kernel⟩
theorem sc_Order_positions : FnScope ["self"] ["self"] (defScope s_Order_positions) := ⟨rfl, rfl, rfl, by decide +kernel, rfl, by decide +kernel, by decide +kernel⟩
theorem sc_show_order : FnScope ["order", "position"] ["order"] (defScope s_show_order) := ⟨rfl, rfl, rfl, by decide +kernel, rfl, by decide +kernel, by decide +kernel⟩
theorem sc_Lheard : FnScope ["_law_call", "_law_caught", "e"] ["_law_call"] (defScope s_Lheard) := ⟨rfl, rfl, rfl, by decide +kernel, rfl, by decide +kernel, by decide +kernel⟩
theorem sc_lines_in : FnScope ["text", "line"] ["text"] (defScope s_lines_in) := ⟨rfl, rfl, rfl, by decide +kernel, rfl, by decide +kernel, by decide +kernel⟩
theorem sc_number_in : FnScope ["word", "least", "most", "sign"] ["word", "least", "most"] (defScope s_number_in) := ⟨rfl, rfl, rfl, by decide +kernel, rfl, by decide +kernel, by decide +kernel⟩
theorem sc_positions_in : FnScope ["words", "found", "index", "word", "position"] ["words"] (defScope s_positions_in) := ⟨rfl, rfl, rfl, by decide +kernel, rfl, by decide +kernel, by decide +kernel⟩
theorem sc_order_positions : FnScope ["text", "first", "others", "found"] ["text"] (defScope s_order_positions) := ⟨rfl, rfl, rfl, by decide +kernel, rfl, by decide +kernel, by decide +kernel⟩
theorem sc_is_between : FnScope ["value", "least", "most"] ["value", "least", "most"] (defScope s_is_between) := ⟨rfl, rfl, rfl, by decide +kernel, rfl, by decide +kernel, by decide +kernel⟩
theorem sc_first_ones : FnScope ["positions", "found", "position"] ["positions"] (defScope s_first_ones) := ⟨rfl, rfl, rfl, by decide +kernel, rfl, by decide +kernel, by decide +kernel⟩
theorem sc_Order___init__ : FnScope ["self", "positions", "index", "position"] ["self", "positions"] (defScope s_Order___init__) := ⟨rfl, rfl, rfl, by decide +kernel, rfl, by decide +kernel, by decide +kernel⟩
theorem sc_read_order : FnScope ["text", "positions"] ["text"] (defScope s_read_order) := ⟨rfl, rfl, rfl, by decide +kernel, rfl, by decide +kernel, by decide +kernel⟩
theorem sc_Lright : FnScope ["_law_thing", "_law_wrong", "_law_told"] ["_law_thing"] (defScope s_Lright) := ⟨rfl, rfl, rfl, by decide +kernel, rfl, by decide +kernel, by decide +kernel⟩
theorem sc_law : FnScope ["_law_script", "_law_pen_here", "_law_turn", "_law_line_here", "_law_once", "_law_odd", "_law_some", "_law_thing"] ["_law_script"] (defScope s_law) := ⟨rfl, rfl, rfl, by decide +kernel, rfl, by decide +kernel, by decide +kernel⟩
theorem sc_InvalidText___init__ : FnScope ["self", "line", "word"] ["self", "line", "word"] (defScope s_InvalidText___init__) := ⟨rfl, rfl, rfl, by decide +kernel, rfl, by decide +kernel, by decide +kernel⟩
theorem sc_InvalidPosition___init__ : FnScope ["self", "index"] ["self", "index"] (defScope s_InvalidPosition___init__) := ⟨rfl, rfl, rfl, by decide +kernel, rfl, by decide +kernel, by decide +kernel⟩
structure Txt0 (K : PySem.W.Frag) (mg : Str → Option Value) : Prop where
  d_Lpen : ∃ fd, FunD K "_law_pen" "_law_pen" (defArgs s_Lpen) (defBody s_Lpen) (defScope s_Lpen) [] [] (He.fAd K ("_law_pen", none)) fd
  m_Lpen : mg "_law_pen" = some (.ref (He.fAd K ("_law_pen", none)))
  d_Ldraw : ∃ fd, FunD K "_law_draw" "_law_draw" (defArgs s_Ldraw) (defBody s_Ldraw) (defScope s_Ldraw) [] [] (He.fAd K ("_law_draw", none)) fd
  m_Ldraw : mg "_law_draw" = some (.ref (He.fAd K ("_law_draw", none)))
  d_Lline : ∃ fd, FunD K "_law_line" "_law_line" (defArgs s_Lline) (defBody s_Lline) (defScope s_Lline) [] [] (He.fAd K ("_law_line", none)) fd
  m_Lline : mg "_law_line" = some (.ref (He.fAd K ("_law_line", none)))
  d_Lbent : ∃ fd, FunD K "_law_bent" "_law_bent" (defArgs s_Lbent) (defBody s_Lbent) (defScope s_Lbent) [] [] (He.fAd K ("_law_bent", none)) fd
  m_Lbent : mg "_law_bent" = some (.ref (He.fAd K ("_law_bent", none)))
  d_Lis_position : ∃ fd, FunD K "_law_is_position" "_law_is_position" (defArgs s_Lis_position) (defBody s_Lis_position) (defScope s_Lis_position) [] [] (He.fAd K ("_law_is_position", none)) fd
  m_Lis_position : mg "_law_is_position" = some (.ref (He.fAd K ("_law_is_position", none)))
  d_Ldue : ∃ fd, FunD K "_law_due" "_law_due" (defArgs s_Ldue) (defBody s_Ldue) (defScope s_Ldue) [] [] (He.fAd K ("_law_due", none)) fd
  m_Ldue : mg "_law_due" = some (.ref (He.fAd K ("_law_due", none)))
  d_Order_positions : ∃ fd, FunD K "positions" "Order.positions" (defArgs s_Order_positions) (defBody s_Order_positions) (defScope s_Order_positions) [] [] (prAd K "Order" "positions").2 fd
  d_show_order : ∃ fd, FunD K "show_order" "show_order" (defArgs s_show_order) (defBody s_show_order) (defScope s_show_order) [] [] (He.fAd K ("show_order", none)) fd
  m_show_order : mg "show_order" = some (.ref (He.fAd K ("show_order", none)))
  d_Lheard : ∃ fd, FunD K "_law_heard" "_law_heard" (defArgs s_Lheard) (defBody s_Lheard) (defScope s_Lheard) [] [] (He.fAd K ("_law_heard", none)) fd
  m_Lheard : mg "_law_heard" = some (.ref (He.fAd K ("_law_heard", none)))
  d_lines_in : ∃ fd, FunD K "lines_in" "lines_in" (defArgs s_lines_in) (defBody s_lines_in) (defScope s_lines_in) [] [] (He.fAd K ("lines_in", none)) fd
  m_lines_in : mg "lines_in" = some (.ref (He.fAd K ("lines_in", none)))
  d_number_in : ∃ fd, FunD K "number_in" "number_in" (defArgs s_number_in) (defBody s_number_in) (defScope s_number_in) [] [] (He.fAd K ("number_in", none)) fd
  m_number_in : mg "number_in" = some (.ref (He.fAd K ("number_in", none)))
  d_positions_in : ∃ fd, FunD K "positions_in" "positions_in" (defArgs s_positions_in) (defBody s_positions_in) (defScope s_positions_in) [] [] (He.fAd K ("positions_in", none)) fd
  m_positions_in : mg "positions_in" = some (.ref (He.fAd K ("positions_in", none)))
  d_order_positions : ∃ fd, FunD K "order_positions" "order_positions" (defArgs s_order_positions) (defBody s_order_positions) (defScope s_order_positions) [] [] (He.fAd K ("order_positions", none)) fd
  m_order_positions : mg "order_positions" = some (.ref (He.fAd K ("order_positions", none)))
  d_is_between : ∃ fd, FunD K "is_between" "is_between" (defArgs s_is_between) (defBody s_is_between) (defScope s_is_between) [] [] (He.fAd K ("is_between", none)) fd
  m_is_between : mg "is_between" = some (.ref (He.fAd K ("is_between", none)))
  d_first_ones : ∃ fd, FunD K "first_ones" "first_ones" (defArgs s_first_ones) (defBody s_first_ones) (defScope s_first_ones) [] [] (He.fAd K ("first_ones", none)) fd
  m_first_ones : mg "first_ones" = some (.ref (He.fAd K ("first_ones", none)))
  d_Order___init__ : ∃ fd, FunD K "__init__" "Order.__init__" (defArgs s_Order___init__) (defBody s_Order___init__) (defScope s_Order___init__) [] [] (He.fAd K ("Order", some "__init__")) fd
  d_read_order : ∃ fd, FunD K "read_order" "read_order" (defArgs s_read_order) (defBody s_read_order) (defScope s_read_order) [] [] (He.fAd K ("read_order", none)) fd
  m_read_order : mg "read_order" = some (.ref (He.fAd K ("read_order", none)))
  d_Lright : ∃ fd, FunD K "_law_right" "_law_right" (defArgs s_Lright) (defBody s_Lright) (defScope s_Lright) [] [] (He.fAd K ("_law_right", none)) fd
  m_Lright : mg "_law_right" = some (.ref (He.fAd K ("_law_right", none)))
  d_law : ∃ fd, FunD K "law" "law" (defArgs s_law) (defBody s_law) (defScope s_law) [] [] (He.fAd K ("law", none)) fd
  m_law : mg "law" = some (.ref (He.fAd K ("law", none)))
  d_InvalidText___init__ : ∃ fd, FunD K "__init__" "InvalidText.__init__" (defArgs s_InvalidText___init__) (defBody s_InvalidText___init__) (defScope s_InvalidText___init__) [] [] (He.fAd K ("InvalidText", some "__init__")) fd
  d_InvalidPosition___init__ : ∃ fd, FunD K "__init__" "InvalidPosition.__init__" (defArgs s_InvalidPosition___init__) (defBody s_InvalidPosition___init__) (defScope s_InvalidPosition___init__) [] [] (He.fAd K ("InvalidPosition", some "__init__")) fd
  no_Order_entries : NoAttr K (He.ga K "Order") "entries"
  cls_Order : Cls K (He.ga K "Order")
  pr_Order_positions : PropOf K (He.ga K "Order") "positions" (prAd K "Order" "positions").1 (prAd K "Order" "positions").2
  xm_0 : ∀ C ∈ (["InvalidText", "InvalidPosition"] : List PySem.Str).map (Zk K), PySem.W.exmAny K (.ref C) [.ref (He.ga K "ProbeError"), .ref (He.ga K "AbsentError")] = some true
  xc_1 : ∀ C ∈ (["InvalidText", "InvalidPosition"] : List PySem.Str).map (Zk K), ExcC K C
  ki_2 : ∀ C ∈ (["InvalidText", "InvalidPosition"] : List PySem.Str).map (Zk K), PySem.W.kitOne K (.ref C) (.ref (He.ga K "InvalidText")) = some (decide (C ∈ (["InvalidText"] : List PySem.Str).map (Zk K)))
  kp_3 : ∀ n ∈ (["NoneType", "bool", "int", "str", "tuple", "list", "dict"] : List String), PySem.W.kitOne K (.type n) (.ref (He.ga K "InvalidText")) = some false
  ki_4 : ∀ C ∈ (["InvalidText", "InvalidPosition"] : List PySem.Str).map (Zk K), PySem.W.kitOne K (.ref C) (.type "ValueError") = some (decide (C ∈ (["InvalidText", "InvalidPosition"] : List PySem.Str).map (Zk K)))
  kp_5 : ∀ n ∈ (["NoneType", "bool", "int", "str", "tuple", "list", "dict"] : List String), PySem.W.kitOne K (.type n) (.type "ValueError") = some false
  ki_6 : ∀ C ∈ (["InvalidText", "InvalidPosition"] : List PySem.Str).map (Zk K), PySem.W.kitOne K (.ref C) (.ref (He.ga K "InvalidPosition")) = some (decide (C ∈ (["InvalidPosition"] : List PySem.Str).map (Zk K)))
  kp_7 : ∀ n ∈ (["NoneType", "bool", "int", "str", "tuple", "list", "dict"] : List String), PySem.W.kitOne K (.type n) (.ref (He.ga K "InvalidPosition")) = some false
  g_InvalidPosition : mg "InvalidPosition" = some (.ref (He.ga K "InvalidPosition"))
  g_InvalidText : mg "InvalidText" = some (.ref (He.ga K "InvalidText"))
  xf_line_8 : ∀ C ∈ (["InvalidText"] : List PySem.Str).map (Zk K), XfC K C ∧ PySem.W.findIn K (.ref C) "line" = some none
  xf_word_9 : ∀ C ∈ (["InvalidText"] : List PySem.Str).map (Zk K), XfC K C ∧ PySem.W.findIn K (.ref C) "word" = some none
  g_ProbeError : mg "ProbeError" = some (.ref (He.ga K "ProbeError"))
  g_AbsentError : mg "AbsentError" = some (.ref (He.ga K "AbsentError"))
  er_InvalidText : ErrC "ValueError.__new__" mroV K "InvalidText"
  nf_InvalidText_line : PySem.W.findIn K (.ref (He.ga K "InvalidText")) "line" = some none
  nf_InvalidText_word : PySem.W.findIn K (.ref (He.ga K "InvalidText")) "word" = some none
  co_Order_GREATEST : ∃ u, Con K (He.ga K "Order") "GREATEST" (.int 24) u
  er_InvalidPosition : ErrC "ValueError.__new__" mroV K "InvalidPosition"
  nf_InvalidPosition_index : PySem.W.findIn K (.ref (He.ga K "InvalidPosition")) "index" = some none
  mk_Order : Mk K (He.ga K "Order") (He.fAd K ("Order", some "__init__"))
  g_Order : mg "Order" = some (.ref (He.ga K "Order"))
  hz : Hz (Zk K)
  b_ValueError : mg "ValueError" = none
  b_abs : mg "abs" = none
  b_bool : mg "bool" = none
  b_enumerate : mg "enumerate" = none
  b_int : mg "int" = none
  b_isinstance : mg "isinstance" = none
  b_len : mg "len" = none
  b_list : mg "list" = none
  b_range : mg "range" = none
  b_repr : mg "repr" = none
  b_str : mg "str" = none
  b_tuple : mg "tuple" = none
  g_DIGITS : ∃ t, mg "DIGITS" = some (.str "0123456789" t)
  g_EMPTY : ∃ t, mg "EMPTY" = some (.str "-" t)
  g_MOST_BITS : ∃ t, mg "MOST_BITS" = some (.int 24 t)
  g_MOST_DIGITS : ∃ t, mg "MOST_DIGITS" = some (.int 3 t)
  g_NO_POSITIONS : ∃ t, mg "NO_POSITIONS" = some (.str "-" t)
  sys : sysB K = true
structure Txt (K : PySem.W.Frag) (mg : Str → Option Value) (base : Heap) : Prop extends Txt0 K mg where
  tb : ∀ x ∈ tl, LamX.TabB base mg (ctA K x.1).1 (ctA K x.1).2
def tr_Lpen (K : PySem.W.Frag) : TrB := fun ds M P R => ∃ x0 : D, ∃ r : List D, ds = [x0] ∧ F_Lpen x0 = some r ∧ (∀ q, M q = none → P (.adr q) (up M q (.lst r)))
set_option maxHeartbeats 0 in
theorem ok_Lpen {pg : Program} {w : World} {K : PySem.W.Frag} {mg : Str → Option Value} {base : Heap} (T : Txt K mg base) : BodyX pg w K mg base false 2 (He.fAd K ("_law_pen", none)) "_law_pen" (defBody s_Lpen) (defScope s_Lpen) ["_law_script"] ["_law_script"] (tr_Lpen K) := fun cdv hcv A outer s H F0 E ds M P R hgd0 hr t hL hpo kx => by
  obtain ⟨x0, r, rfl, hF, hk⟩ := t
  unfold F_Lpen at hF
  exact gx_seq (g1_ret (ex_less (ex_lstM (ax_cons (ex_ty T.b_list bb_list (ax_cons (ex_slice (ex_var 0 rfl (ox_none (ox_d (ex_int (bi hF fun i1 hi1 hF => ⟨_, _, .id, hi1, bi hF fun v2 hv2 hF => sd_dCut .id hv2 (ax_nil (bi hF fun l3 hl3 hF => cd_lList rfl .id hl3 (ax_cons (ex_int (ax_cons (ex_int (ax_nil (⟨le_b rfl, fun a4 ha4 => have fb_a4 := ha4; ⟨_, (sub_keep sub_refl), (by have e := so hF; cases e; exact hk a4 fb_a4)⟩⟩))))))))⟩))))))))))))
theorem fx_Lpen_1 {pg : Program} {w : World} {K : PySem.W.Frag} {mg : Str → Option Value} {base : Heap} (T : Txt K mg base) : FnX pg w K mg base false 3 (He.fAd K ("_law_pen", none)) ([] : List PySem.Str) (fun ds zs M P R => ds.length = 1 ∧ zs.length = ([] : List PySem.Str).length ∧ tr_Lpen K (pick (ds ++ ([] ++ zs)) [0]) M P R) :=
  fn_kwX T.d_Lpen.choose_spec sc_Lpen (ok_Lpen T) 1 ([] : List PySem.Str) [] [] [0] (by simp) (fun _ => .nil) (fun kV D doc pm an cdv ct us mv ws e h1 h2 h3 => match us, mv, ws, h1, h2, h3 with | [_], [], [], _, _, _ => rfl) (fun us mv ws h1 h2 h3 => match us, mv, ws, h1, h2, h3 with | [_], [], [], _, _, _ => rfl)
def tr_Ldraw (K : PySem.W.Frag) : TrB := fun ds M P R => ∃ (p_0 : Addr) (x0 : List D), ∃ x1 : D, ∃ r : D × List D, ∃ W : D → Mem, ds = [.adr p_0, x1] ∧ M = W (.lst x0) ∧ (∀ z0, At (W z0) p_0 z0 (fun z => W z)) ∧ F_Ldraw x0 x1 = some r ∧ P r.1 (W (.lst r.2))
set_option maxHeartbeats 0 in
theorem ok_Ldraw {pg : Program} {w : World} {K : PySem.W.Frag} {mg : Str → Option Value} {base : Heap} (T : Txt K mg base) : BodyX pg w K mg base false 2 (He.fAd K ("_law_draw", none)) "_law_draw" (defBody s_Ldraw) (defScope s_Ldraw) ["_law_pen_here", "_law_many", "_law_digit", "_law_at", "_law_cell", "_law_large", "_law_mixed"] ["_law_pen_here", "_law_many"] (tr_Ldraw K) := fun cdv hcv A outer s H F0 E ds M P R hgd0 hr t hL hpo kx => by
  obtain ⟨p_0, x0, x1, r, W, rfl, rfl, hW0, hF, hk⟩ := t
  unfold F_Ldraw at hF
  refine gx_seq (g1_if (tx_cmp (ex_ix (ex_var 0 rfl (ex_int (bi hF fun v2 hv2 hF => id_dIx (.ad (hW0 _).get rfl) .id hv2 (ex_int (bi hF fun t3 ht3 hF => od_cGt .id .id ht3 (⟨_, rfl, ⟨fun q1 => ?_, fun q1 => ?_⟩⟩)))))))))
  · have hF := iT q1 hF
    refine gx_seq (g1_asg (ex_bin (ex_ix (ex_var 0 rfl (ex_int (bi hF fun v4 hv4 hF => id_dIx (.ad (hW0 _).get rfl) .id hv4 (ex_var 1 rfl (bi hF fun v5 hv5 hF => od_dMod .id .id hv5 (as_name 2 (?_) sc_Ldraw.nd)))))))))
    refine gx_seq (g1_setIxF (ex_bin (ex_ix (ex_var 0 rfl (ex_int (bi hF fun v6 hv6 hF => id_dIx (.ad (hW0 _).get rfl) .id hv6 (ex_var 1 rfl (bi hF fun v7 hv7 hF => od_dFdiv .id .id hv7 (ex_var 0 rfl (ex_int (bi hF fun l8 hl8 hF => ⟨_, _, _, l8, rfl, (hW0 _), hl8, ?_⟩)))))))))))
    exact gx_seq (g1_ret (ex_less (ex_var 2 rfl (⟨_, sub_refl, ret1 (W := W) (so hF) hk⟩))))
  · have hF := iF q1 hF
    refine gx_nil ?_
    show GX _ _ _ _ _ _
    refine gx_seq (g1_asg (ex_ix (ex_var 0 rfl (ex_int (bi hF fun v9 hv9 hF => id_dIx (.ad (hW0 _).get rfl) .id hv9 (as_name 3 (?_) sc_Ldraw.nd))))))
    refine gx_seq (g1_setIxF (ex_bin (ex_var 3 rfl (ex_int (bi hF fun v10 hv10 hF => od_dAdd .id .id hv10 (ex_var 0 rfl (ex_int (bi hF fun l11 hl11 hF => ⟨_, _, _, l11, rfl, (hW0 _), hl11, ?_⟩))))))))
    refine gx_seq (g1_asg (ex_bin (ex_bin (ex_int (ex_var 3 rfl (bi hF fun v12 hv12 hF => od_dMul .id .id hv12 (ex_int (bi hF fun v13 hv13 hF => od_dAdd .id .id hv13 (as_name 4 (?_) sc_Ldraw.nd)))))))))
    refine gx_seq (bi hF fun r15 hF hRr15 => g1_mid (fun ρ' M' => ∃ j0 : Option D, ∃ j1 : Option D, ∃ j2 : Option D, ρ' = [some (.adr p_0), some x1, j0, some v9, some r15, j1, j2] ∧ M' = (W (.lst l11))) (g1_if (tx_cmp (ex_ix (ex_var 0 rfl (ex_int (bi hF fun v16 hv16 hF => id_dIx (.ad (hW0 _).get rfl) .id hv16 (ex_lst (ax_nil (⟨le_b rfl, bi hF fun t17 ht17 hF => od_cNe hr.units .id .id ht17 (⟨_, rfl, ⟨fun q14 => ?_, fun q14 => ?_⟩⟩)⟩))))))))) ?_)
    · have hF := iT q14 hF
      refine gx_seq (g1_asg (ex_ix (ex_ix (ex_var 0 rfl (ex_int (bi hF fun v18 hv18 hF => id_dIx (.ad (hW0 _).get rfl) .id hv18 (ex_bin (ex_var 3 rfl (ex_blt T.b_len bb_len (ax_cons (ex_ix (ex_var 0 rfl (ex_int (bi hF fun v19 hv19 hF => id_dIx (.ad (hW0 _).get rfl) .id hv19 (ax_nil (bi hF fun v20 hv20 hF => cd_dLen .id hv20 (bi hF fun v21 hv21 hF => od_dMod .id .id hv21 (bi hF fun v22 hv22 hF => id_dIx .id .id hv22 (as_name 4 (?_) sc_Ldraw.nd)))))))))))))))))))
      cases hF
      exact gx_nil ⟨_, _, _, rfl, rfl⟩
    · have hF := iF q14 hF
      cases hF
      exact gx_nil ⟨_, _, _, rfl, rfl⟩
    · rintro _ _ ⟨_, _, _, rfl, rfl⟩
      have hF := hRr15
      try dsimp only at hF
      show GX _ _ _ _ _ _
      refine gx_seq (g1_if (bi hF fun t31 ht31 hF => tx_fix t31 (W (.lst l11)) (have hF := ht31; tx_pw (wx_and (tx_cmp (ex_var 3 rfl (ex_blt T.b_len bb_len (ax_cons (ex_ix (ex_var 0 rfl (ex_int (bi hF fun v25 hv25 hF => id_dIx (.ad (hW0 _).get rfl) .id hv25 (ax_nil (bi hF fun v26 hv26 hF => cd_dLen .id hv26 (bi hF fun t27 ht27 hF => od_cLt .id .id ht27 (⟨_, rfl, ⟨fun q24 => have hF := iT q24 hF; wx_and1 (tx_cmp (ex_blt T.b_abs bb_abs (ax_cons (ex_var 4 rfl (ax_nil (bi hF fun v28 hv28 hF => cd_dAbs .id hv28 (ex_bin (ex_int (ex_int (bi hF fun v29 hv29 hF => od_dPow .id .id hv29 (bi hF fun t30 ht30 hF => od_cGe .id .id ht30 (⟨_, rfl, ⟨so hF, rfl⟩⟩)))))))))))), fun q24 => ⟨so (iF q24 hF), rfl⟩⟩⟩)))))))))))))) (⟨fun q23 => ?_, fun q23 => ?_⟩)))
      · have hF := iT q23 hF
        refine gx_seq (g1_asg (ex_bin (ex_bin (ex_int (ex_bin (ex_blt T.b_abs bb_abs (ax_cons (ex_var 4 rfl (ax_nil (bi hF fun v32 hv32 hF => cd_dAbs .id hv32 (ex_bin (ex_int (ex_int (bi hF fun v33 hv33 hF => od_dPow .id .id hv33 (bi hF fun v34 hv34 hF => od_dSub .id .id hv34 (bi hF fun v35 hv35 hF => od_dMul .id .id hv35 (ex_ty T.b_int bb_int (ax_cons (ex_cmp (ex_var 4 rfl (ex_int (bi hF fun t36 ht36 hF => od_cLt .id .id ht36 (ax_nil (bi hF fun v37 hv37 hF => cd_dIntT .id hv37 (bi hF fun v38 hv38 hF => od_dAdd .id .id hv38 (as_name 5 (?_) sc_Ldraw.nd))))))))))))))))))))))))))
        refine gx_seq (g1_setIxF (ex_bin (ex_var 5 rfl (ex_var 1 rfl (bi hF fun v39 hv39 hF => od_dFdiv .id .id hv39 (ex_var 0 rfl (ex_int (bi hF fun l40 hl40 hF => ⟨_, _, _, l40, rfl, (hW0 _), hl40, ?_⟩))))))))
        exact gx_seq (g1_ret (ex_less (ex_bin (ex_var 5 rfl (ex_var 1 rfl (bi hF fun v41 hv41 hF => od_dMod .id .id hv41 (⟨_, sub_refl, ret1 (W := W) (so hF) hk⟩)))))))
      · have hF := iF q23 hF
        refine gx_nil ?_
        show GX _ _ _ _ _ _
        refine gx_seq (g1_asg (ex_bin (ex_bin (ex_bin (ex_bin (ex_bin (ex_var 4 rfl (ex_int (bi hF fun v42 hv42 hF => od_dMod .id .id hv42 (ex_bin (ex_int (ex_var 3 rfl (bi hF fun v43 hv43 hF => od_dMul .id .id hv43 (bi hF fun v44 hv44 hF => od_dAdd .id .id hv44 (ex_int (bi hF fun v45 hv45 hF => od_dAdd .id .id hv45 (ex_int (bi hF fun v46 hv46 hF => od_dPow .id .id hv46 (ex_int (bi hF fun v47 hv47 hF => od_dMod .id .id hv47 (as_name 6 (?_) sc_Ldraw.nd)))))))))))))))))))))
        refine gx_seq (g1_asg (ex_bin (ex_bin (ex_bin (ex_bin (ex_bin (ex_var 6 rfl (ex_bin (ex_bin (ex_int (ex_var 3 rfl (bi hF fun v48 hv48 hF => od_dMul .id .id hv48 (ex_int (bi hF fun v49 hv49 hF => od_dAdd .id .id hv49 (bi hF fun v50 hv50 hF => od_dMul .id .id hv50 (ex_bin (ex_bin (ex_int (ex_var 3 rfl (bi hF fun v51 hv51 hF => od_dMul .id .id hv51 (ex_var 3 rfl (bi hF fun v52 hv52 hF => od_dMul .id .id hv52 (bi hF fun v53 hv53 hF => od_dAdd .id .id hv53 (ex_int (bi hF fun v54 hv54 hF => od_dAdd .id .id hv54 (ex_int (bi hF fun v55 hv55 hF => od_dPow .id .id hv55 (ex_int (bi hF fun v56 hv56 hF => od_dMod .id .id hv56 (as_name 6 (?_) sc_Ldraw.nd))))))))))))))))))))))))))))))
        exact gx_seq (g1_ret (ex_less (ex_bin (ex_bin (ex_var 6 rfl (ex_int (bi hF fun v57 hv57 hF => od_dFdiv .id .id hv57 (ex_var 1 rfl (bi hF fun v58 hv58 hF => od_dMod .id .id hv58 (⟨_, sub_refl, ret1 (W := W) (so hF) hk⟩))))))))))
theorem fx_Ldraw_2 {pg : Program} {w : World} {K : PySem.W.Frag} {mg : Str → Option Value} {base : Heap} (T : Txt K mg base) : FnX pg w K mg base false 3 (He.fAd K ("_law_draw", none)) ([] : List PySem.Str) (fun ds zs M P R => ds.length = 2 ∧ zs.length = ([] : List PySem.Str).length ∧ tr_Ldraw K (pick (ds ++ ([] ++ zs)) [0, 1]) M P R) :=
  fn_kwX T.d_Ldraw.choose_spec sc_Ldraw (ok_Ldraw T) 2 ([] : List PySem.Str) [] [] [0, 1] (by simp) (fun _ => .nil) (fun kV D doc pm an cdv ct us mv ws e h1 h2 h3 => match us, mv, ws, h1, h2, h3 with | [_, _], [], [], _, _, _ => rfl) (fun us mv ws h1 h2 h3 => match us, mv, ws, h1, h2, h3 with | [_, _], [], [], _, _, _ => rfl)
def tr_Lline (K : PySem.W.Frag) : TrB := fun ds M P R => ∃ (p_0 : Addr) (x0 : List D), ∃ r : D × List D, ∃ W : D → Mem, ds = [.adr p_0] ∧ M = W (.lst x0) ∧ (∀ z0, At (W z0) p_0 z0 (fun z => W z)) ∧ F_Lline x0 = some r ∧ P r.1 (W (.lst r.2))
set_option maxHeartbeats 0 in
theorem ok_Lline {pg : Program} {w : World} {K : PySem.W.Frag} {mg : Str → Option Value} {base : Heap} (T : Txt K mg base) : BodyX pg w K mg base false 4 (He.fAd K ("_law_line", none)) "_law_line" (defBody s_Lline) (defScope s_Lline) ["_law_pen_here", "_law_left", "_law_found", "_law_spot", "_law_k"] ["_law_pen_here"] (tr_Lline K) := fun cdv hcv A outer s H F0 E ds M P R hgd0 hr t hL hpo kx => by
  obtain ⟨p_0, x0, r, W, rfl, rfl, hW0, hF, hk⟩ := t
  unfold F_Lline at hF
  refine gx_seq (g1_asg (ex_lcM (own := [("_law_spot", 3)]) (hN := sc_Lline.nd) rfl (bi hF fun l1 hl1 hF => ix_range1U (M2 := (W (.lst x0))) T.b_range (ax_cons (ex_int (ax_nil (⟨rfl, rfl⟩)))) hl1 (bi hF fun _ hz6 hF => bi hF fun y4 hy4 hF => lc_mut (ys := y4) (M2 := (W (.lst x0))) (lcF hy4 (chk_inv hz6).1 (fun x3 _ acc d5 hF hd5 => have ne_p_0_d5 := At.ne (hW0 _) hd5; have fb_d5 := fresh1 hW0 hd5; asb_name 3 (fun _ _ _ _ _ => ex_ty T.b_str bb_str (ax_cons (ex_var 3 rfl (ax_nil (bi hF fun v8 hv8 hF => cd_dStr .id hv8 (⟨so hF, rfl⟩)))))) (hN := sc_Lline.nd)) ⟨rfl, rfl⟩) (fun a9 ha9 => have ne_p_0_a9 := At.ne (hW0 _) ha9; have fb_a9 := fresh1 hW0 ha9; as_name 1 (?_) sc_Lline.nd)))))
  refine gx_seq (g1_lc (own := [("_law_k", 4)]) (hN := sc_Lline.nd) 2 rfl (bi hF fun v15 hv15 hF => bi hF fun l16 hl16 hF => ix_range1U (M2 := (up (W (.lst v15.2)) a9 (.lst y4))) T.b_range ((have hF := hv15; ax_cons (ex_ix (ex_lst (ax_cons (ex_callX (fx_Ldraw_2 T) Lets.no (fun h => nomatch h) (hr.mono (by decide)) T.m_Ldraw T.d_Ldraw.choose_spec.kp (ev_a (ax_cons (ex_var 0 rfl (ax_cons (ex_int (ax_nil (kx_nil (bi hF fun v10 hv10 hF => ⟨rfl, ⟨rfl, rfl, ⟨p_0, x0, _, v10, (fun w0 => (up (W w0) a9 (.lst y4))), rfl, rfl, fun _ => (at1 ne_p_0_a9 (hW0 _)), hv10, ax_cons (ex_int (ax_nil (⟨le_b rfl, ex_ty T.b_int bb_int (ax_cons (ex_cmp (ex_callX (fx_Ldraw_2 T) Lets.no (fun h => nomatch h) (hr.mono (by decide)) T.m_Ldraw T.d_Ldraw.choose_spec.kp (ev_a (ax_cons (ex_var 0 rfl (ax_cons (ex_int (ax_nil (kx_nil (bi hF fun v11 hv11 hF => ⟨rfl, ⟨rfl, rfl, ⟨p_0, v10.2, _, v11, (fun w0 => (up (W w0) a9 (.lst y4))), rfl, rfl, fun _ => (at1 ne_p_0_a9 (hW0 _)), hv11, ex_int (bi hF fun t12 ht12 hF => od_cEq hr.units .id .id ht12 (ax_nil (bi hF fun v13 hv13 hF => cd_dIntT .id hv13 (bi hF fun v14 hv14 hF => id_dIx .id .id hv14 (ax_nil ((by cases hF; exact ⟨rfl, rfl⟩)))))))⟩⟩⟩)))))))))))⟩)))⟩⟩⟩)))))))))))))) hl16 (bi hF fun _ hz21 hF => bi hF fun y19 hy19 hF => mapSF hy19 (chk_inv hz21).1 (fun s17 => (up (W (.lst s17.2)) a9 (.lst s17.1))) rfl (fun x18 s17 _ acc d20 hF hd20 => have ne_a9_d20 := (up_none hd20).1; have ne_p_0_d20 := At.ne (hW0 _) (up_none hd20).2; have fb_d20 := fresh1 hW0 (up_none hd20).2; asb_name 4 (fun _ _ _ _ _ => ex_popF (ex_var 1 rfl (⟨_, _, rfl, (at1 ne_a9_d20 at0).get, ex_callX (fx_Ldraw_2 T) Lets.no (fun h => nomatch h) (hr.mono (by decide)) T.m_Ldraw T.d_Ldraw.choose_spec.kp (ev_a (ax_cons (ex_var 0 rfl (ax_cons (ex_blt T.b_len bb_len (ax_cons (ex_var 1 rfl (ax_nil (bi hF fun v23 hv23 hF => cd_dLen (.ad (at1 ne_a9_d20 at0).get rfl) hv23 (ax_nil (kx_nil (bi hF fun v24 hv24 hF => ⟨rfl, ⟨rfl, rfl, ⟨p_0, s17.2, _, v24, (fun w0 => (up (up (W w0) a9 (.lst s17.1)) d20 (.lst acc))), rfl, rfl, fun _ => (at1 ne_p_0_d20 (at1 ne_p_0_a9 (hW0 _))), hv24, bi hF fun v25 hv25 hF => ⟨_, _, v25, (at1 ne_a9_d20 at0), hv25, (by cases hF; exact ⟨rfl, (nn ne_a9_d20 (fb_d20 _)), rfl⟩)⟩⟩⟩⟩))))))))))))⟩))) (hN := sc_Lline.nd)) (?_))))
  refine gx_seq (bi hF fun r27 hF hRr27 => g1_mid (fun ρ' M' => ∃ j0 : Option D, ∃ j1 : Option D, ρ' = [some (.adr p_0), some (.adr a9), some r27, j0, j1] ∧ M' = (up (W (.lst y19.2.2)) a9 (.lst y19.2.1))) (g1_if (tx_cmp (ex_str (ex_var 2 rfl (bi hF fun t28 ht28 hF => od_cIn .id .id ht28 (⟨_, rfl, ⟨fun q26 => ?_, fun q26 => ?_⟩⟩)))))) ?_)
  · have hF := iT q26 hF
    refine gx_seq (g1_asg (ex_slice (ex_var 2 rfl (ox_none (ox_d (ex_bin (ex_lindexF (ex_var 2 rfl (bi hF fun s29 hs29 hF => ⟨s29, lstD_eq hs29, ax_cons (ex_str (ax_nil (bi hF fun v30 hv30 hF => ⟨_, v30, rfl, hv30, ex_int (bi hF fun v31 hv31 hF => od_dAdd .id .id hv31 (bi hF fun i32 hi32 hF => ⟨_, _, .id, hi32, bi hF fun v33 hv33 hF => sd_dCut .id hv33 (as_name 2 (?_) sc_Lline.nd)⟩))⟩)))⟩)))))))))
    cases hF
    exact gx_nil ⟨_, _, rfl, rfl⟩
  · have hF := iF q26 hF
    cases hF
    exact gx_nil ⟨_, _, rfl, rfl⟩
  · rintro _ _ ⟨_, _, rfl, rfl⟩
    have hF := hRr27
    try dsimp only at hF
    show GX _ _ _ _ _ _
    exact gx_seq (g1_ret (ex_less (bi hF fun v38 hv38 hF => ex_fix v38 (up (W (.lst y19.2.2)) a9 (.lst y19.2.1)) (have hF := hv38; ex_if (tx_cmp (ex_var 2 rfl (ex_lst (ax_nil (⟨le_b rfl, bi hF fun t34 ht34 hF => od_cNe hr.units .id .id ht34 (⟨_, rfl, ⟨fun q37 => have hF := iT q37 hF; ex_joinF (ex_str (bi hF fun s35 hs35 hF => ⟨s35, strD_eq hs35, ex_var 2 rfl (bi hF fun v36 hv36 hF => ⟨_, v36, .id, hv36, ⟨so hF, rfl⟩⟩)⟩)), fun q37 => have hF := iF q37 hF; ex_str (⟨so hF, rfl⟩)⟩⟩)⟩)))))) (⟨_, (sub_drop sub_refl (fb_a9 _)), ret1 (W := W) (so hF) hk⟩))))
theorem fx_Lline_1 {pg : Program} {w : World} {K : PySem.W.Frag} {mg : Str → Option Value} {base : Heap} (T : Txt K mg base) : FnX pg w K mg base false 5 (He.fAd K ("_law_line", none)) ([] : List PySem.Str) (fun ds zs M P R => ds.length = 1 ∧ zs.length = ([] : List PySem.Str).length ∧ tr_Lline K (pick (ds ++ ([] ++ zs)) [0]) M P R) :=
  fn_kwX T.d_Lline.choose_spec sc_Lline (ok_Lline T) 1 ([] : List PySem.Str) [] [] [0] (by simp) (fun _ => .nil) (fun kV D doc pm an cdv ct us mv ws e h1 h2 h3 => match us, mv, ws, h1, h2, h3 with | [_], [], [], _, _, _ => rfl) (fun us mv ws h1 h2 h3 => match us, mv, ws, h1, h2, h3 with | [_], [], [], _, _, _ => rfl)
def tr_Lbent (K : PySem.W.Frag) : TrB := fun ds M P R => ∃ (p_0 : Addr) (x0 : List D), ∃ x1 : D, ∃ r : D × List D, ∃ W : D → Mem, ds = [.adr p_0, x1] ∧ M = W (.lst x0) ∧ (∀ z0, At (W z0) p_0 z0 (fun z => W z)) ∧ F_Lbent x0 x1 = some r ∧ P r.1 (W (.lst r.2))
set_option maxHeartbeats 0 in
theorem ok_Lbent {pg : Program} {w : World} {K : PySem.W.Frag} {mg : Str → Option Value} {base : Heap} (T : Txt K mg base) : BodyX pg w K mg base false 4 (He.fAd K ("_law_bent", none)) "_law_bent" (defBody s_Lbent) (defScope s_Lbent) ["_law_pen_here", "_law_line_here", "_law_words", "_law_at", "_law_spot", "_law_sign", "_law_some", "_law_word", "_law_pieces"] ["_law_pen_here", "_law_line_here"] (tr_Lbent K) := fun cdv hcv A outer s H F0 E ds M P R hgd0 hr t hL hpo kx => by
  obtain ⟨p_0, x0, x1, r, W, rfl, rfl, hW0, hF, hk⟩ := t
  unfold F_Lbent at hF
  refine gx_seq (g1_asg (ex_splitF (ex_var 1 rfl (bi hF fun s1 hs1 hF => ⟨s1, strD_eq hs1, ex_str (bi hF fun v2 hv2 hF => ⟨_, v2, .id, hv2, as_name 2 (?_) sc_Lbent.nd⟩)⟩))))
  refine gx_seq (g1_par 3 4 rfl (by decide) (ax_cons (ex_callX (fx_Ldraw_2 T) Lets.no (fun h => nomatch h) (hr.mono (by decide)) T.m_Ldraw T.d_Ldraw.choose_spec.kp (ev_a (ax_cons (ex_var 0 rfl (ax_cons (ex_bin (ex_blt T.b_len bb_len (ax_cons (ex_var 2 rfl (ax_nil (bi hF fun v3 hv3 hF => cd_dLen .id hv3 (ex_int (bi hF fun v4 hv4 hF => od_dAdd .id .id hv4 (ax_nil (kx_nil (bi hF fun v5 hv5 hF => ⟨rfl, ⟨rfl, rfl, ⟨p_0, x0, _, v5, (fun w0 => (W w0)), rfl, rfl, fun _ => (hW0 _), hv5, ax_cons (ex_callX (fx_Ldraw_2 T) Lets.no (fun h => nomatch h) (hr.mono (by decide)) T.m_Ldraw T.d_Ldraw.choose_spec.kp (ev_a (ax_cons (ex_var 0 rfl (ax_cons (ex_bin (ex_blt T.b_len bb_len (ax_cons (ex_var 1 rfl (ax_nil (bi hF fun v6 hv6 hF => cd_dLen .id hv6 (ex_int (bi hF fun v7 hv7 hF => od_dAdd .id .id hv7 (ax_nil (kx_nil (bi hF fun v8 hv8 hF => ⟨rfl, ⟨rfl, rfl, ⟨p_0, v5.2, _, v8, (fun w0 => (W w0)), rfl, rfl, fun _ => (hW0 _), hv8, ax_nil (⟨_, _, rfl, ?_⟩)⟩⟩⟩))))))))))))))))⟩⟩⟩))))))))))))))))) sc_Lbent.nd)
  refine gx_seq (g1_asg (ex_ix (ex_str (ex_callX (fx_Ldraw_2 T) Lets.no (fun h => nomatch h) (hr.mono (by decide)) T.m_Ldraw T.d_Ldraw.choose_spec.kp (ev_a (ax_cons (ex_var 0 rfl (ax_cons (ex_int (ax_nil (kx_nil (bi hF fun v9 hv9 hF => ⟨rfl, ⟨rfl, rfl, ⟨p_0, v8.2, _, v9, (fun w0 => (W w0)), rfl, rfl, fun _ => (hW0 _), hv9, bi hF fun v10 hv10 hF => id_dIx .id .id hv10 (as_name 5 (?_) sc_Lbent.nd)⟩⟩⟩))))))))))))
  refine gx_seq (g1_asg (ex_bin (ex_bin (ex_lst (ax_cons (ex_str (ax_cons (ex_str (ax_cons (ex_str (ax_cons (ex_str (ax_cons (ex_str (ax_cons (ex_str (ax_cons (ex_str (ax_cons (ex_str (ax_cons (ex_bin (ex_str (ex_int (bi hF fun v11 hv11 hF => od_dMul .id .id hv11 (ax_cons (ex_str (ax_cons (ex_str (ax_cons (ex_str (ax_cons (ex_str (ax_cons (ex_str (ax_nil (⟨le_b rfl, ex_slice (ex_var 2 rfl (ox_none (ox_d (ex_int (bi hF fun i12 hi12 hF => ⟨_, _, .id, hi12, bi hF fun v13 hv13 hF => sd_dCut .id hv13 (bi hF fun v14 hv14 hF => od_dAdd .id .id hv14 (ex_slice (ex_var 2 rfl (ox_d (ex_dNeg (ex_int ⟨_, _, .id, rfl, bi hF fun i15 hi15 hF => ⟨_, _, .id, hi15, ox_none (bi hF fun v16 hv16 hF => sd_dCut .id hv16 (bi hF fun v17 hv17 hF => od_dAdd .id .id hv17 (as_name 6 (?_) sc_Lbent.nd)))⟩⟩))))))⟩)))))⟩)))))))))))))))))))))))))))))))))))))
  refine gx_seq (g1_asg (ex_ix (ex_var 6 rfl (ex_callX (fx_Ldraw_2 T) Lets.no (fun h => nomatch h) (hr.mono (by decide)) T.m_Ldraw T.d_Ldraw.choose_spec.kp (ev_a (ax_cons (ex_var 0 rfl (ax_cons (ex_blt T.b_len bb_len (ax_cons (ex_var 6 rfl (ax_nil (bi hF fun v18 hv18 hF => cd_dLen .id hv18 (ax_nil (kx_nil (bi hF fun v19 hv19 hF => ⟨rfl, ⟨rfl, rfl, ⟨p_0, v9.2, _, v19, (fun w0 => (W w0)), rfl, rfl, fun _ => (hW0 _), hv19, bi hF fun v20 hv20 hF => id_dIx .id .id hv20 (as_name 7 (?_) sc_Lbent.nd)⟩⟩⟩))))))))))))))))
  refine gx_seq (g1_asg (ex_lst (ax_cons (ex_bin (ex_bin (ex_slice (ex_var 1 rfl (ox_none (ox_d (ex_var 4 rfl (bi hF fun i21 hi21 hF => ⟨_, _, .id, hi21, bi hF fun v22 hv22 hF => sd_dCut .id hv22 (ex_var 5 rfl (bi hF fun v23 hv23 hF => od_dAdd .id .id hv23 (ex_slice (ex_var 1 rfl (ox_d (ex_var 4 rfl (bi hF fun i24 hi24 hF => ⟨_, _, .id, hi24, ox_none (bi hF fun v25 hv25 hF => sd_dCut .id hv25 (bi hF fun v26 hv26 hF => od_dAdd .id .id hv26 (ax_cons (ex_bin (ex_slice (ex_var 1 rfl (ox_none (ox_d (ex_var 4 rfl (bi hF fun i27 hi27 hF => ⟨_, _, .id, hi27, bi hF fun v28 hv28 hF => sd_dCut .id hv28 (ex_slice (ex_var 1 rfl (ox_d (ex_bin (ex_var 4 rfl (ex_int (bi hF fun v29 hv29 hF => od_dAdd .id .id hv29 (bi hF fun i30 hi30 hF => ⟨_, _, .id, hi30, ox_none (bi hF fun v31 hv31 hF => sd_dCut .id hv31 (bi hF fun v32 hv32 hF => od_dAdd .id .id hv32 (ax_cons (ex_bin (ex_bin (ex_slice (ex_var 1 rfl (ox_none (ox_d (ex_var 4 rfl (bi hF fun i33 hi33 hF => ⟨_, _, .id, hi33, bi hF fun v34 hv34 hF => sd_dCut .id hv34 (ex_var 5 rfl (bi hF fun v35 hv35 hF => od_dAdd .id .id hv35 (ex_slice (ex_var 1 rfl (ox_d (ex_bin (ex_var 4 rfl (ex_int (bi hF fun v36 hv36 hF => od_dAdd .id .id hv36 (bi hF fun i37 hi37 hF => ⟨_, _, .id, hi37, ox_none (bi hF fun v38 hv38 hF => sd_dCut .id hv38 (bi hF fun v39 hv39 hF => od_dAdd .id .id hv39 (ax_nil (⟨le_b rfl, as_name 8 (?_) sc_Lbent.nd⟩))))⟩))))))))))⟩)))))))))))⟩))))))))⟩))))))))))⟩)))))))⟩)))))))))))
  refine gx_seq (g1_asg (ex_bin (ex_var 8 rfl (ex_lst (ax_cons (ex_joinF (ex_str (bi hF fun s40 hs40 hF => ⟨s40, strD_eq hs40, ex_bin (ex_bin (ex_slice (ex_var 2 rfl (ox_none (ox_d (ex_var 3 rfl (bi hF fun i41 hi41 hF => ⟨_, _, .id, hi41, bi hF fun v42 hv42 hF => sd_dCut .id hv42 (ex_lst (ax_cons (ex_var 7 rfl (ax_nil (⟨le_b rfl, bi hF fun v43 hv43 hF => od_dAdd .id .id hv43 (ex_slice (ex_var 2 rfl (ox_d (ex_var 3 rfl (bi hF fun i44 hi44 hF => ⟨_, _, .id, hi44, ox_none (bi hF fun v45 hv45 hF => sd_dCut .id hv45 (bi hF fun v46 hv46 hF => od_dAdd .id .id hv46 (bi hF fun v47 hv47 hF => ⟨_, v47, .id, hv47, ax_cons (ex_joinF (ex_str (bi hF fun s48 hs48 hF => ⟨s48, strD_eq hs48, ex_bin (ex_bin (ex_slice (ex_var 2 rfl (ox_none (ox_d (ex_var 3 rfl (bi hF fun i49 hi49 hF => ⟨_, _, .id, hi49, bi hF fun v50 hv50 hF => sd_dCut .id hv50 (ex_lst (ax_cons (ex_var 7 rfl (ax_nil (⟨le_b rfl, bi hF fun v51 hv51 hF => od_dAdd .id .id hv51 (ex_slice (ex_var 2 rfl (ox_d (ex_bin (ex_var 3 rfl (ex_int (bi hF fun v52 hv52 hF => od_dAdd .id .id hv52 (bi hF fun i53 hi53 hF => ⟨_, _, .id, hi53, ox_none (bi hF fun v54 hv54 hF => sd_dCut .id hv54 (bi hF fun v55 hv55 hF => od_dAdd .id .id hv55 (bi hF fun v56 hv56 hF => ⟨_, v56, .id, hv56, ax_nil (⟨le_b rfl, bi hF fun v57 hv57 hF => od_dAdd .id .id hv57 (as_name 8 (?_) sc_Lbent.nd)⟩)⟩)))⟩))))))))⟩)))))⟩)))))))⟩)))⟩)))⟩)))))⟩)))))⟩)))))))⟩))))))))
  refine gx_seq (g1_asg (ex_bin (ex_var 8 rfl (ex_lst (ax_cons (ex_joinF (ex_str (bi hF fun s58 hs58 hF => ⟨s58, strD_eq hs58, bi hF fun v59 hv59 hF => ex_revF (M2 := (W (.lst v19.2))) .id (ex_var 2 rfl (⟨rfl, rfl⟩)) hv59 (bi hF fun v60 hv60 hF => ⟨_, v60, .id, hv60, ax_cons (ex_bin (ex_var 1 rfl (ex_str (bi hF fun v61 hv61 hF => od_dAdd .id .id hv61 (ax_cons (ex_bin (ex_var 1 rfl (ex_str (bi hF fun v62 hv62 hF => od_dAdd .id .id hv62 (ax_cons (ex_bin (ex_str (ex_var 1 rfl (bi hF fun v63 hv63 hF => od_dAdd .id .id hv63 (ax_cons (ex_bin (ex_str (ex_var 1 rfl (bi hF fun v64 hv64 hF => od_dAdd .id .id hv64 (ax_cons (ex_bin (ex_bin (ex_var 1 rfl (ex_str (bi hF fun v65 hv65 hF => od_dAdd .id .id hv65 (ex_var 1 rfl (bi hF fun v66 hv66 hF => od_dAdd .id .id hv66 (ax_nil (⟨le_b rfl, bi hF fun v67 hv67 hF => od_dAdd .id .id hv67 (as_name 8 (?_) sc_Lbent.nd)⟩)))))))))))))))))))))))))))))⟩)⟩))))))))
  exact gx_seq (g1_ret (ex_less (ex_ix (ex_var 8 rfl (ex_callX (fx_Ldraw_2 T) Lets.no (fun h => nomatch h) (hr.mono (by decide)) T.m_Ldraw T.d_Ldraw.choose_spec.kp (ev_a (ax_cons (ex_var 0 rfl (ax_cons (ex_int (ax_nil (kx_nil (bi hF fun v68 hv68 hF => ⟨rfl, ⟨rfl, rfl, ⟨p_0, v19.2, _, v68, (fun w0 => (W w0)), rfl, rfl, fun _ => (hW0 _), hv68, bi hF fun v69 hv69 hF => id_dIx .id .id hv69 (⟨_, sub_refl, ret1 (W := W) (so hF) hk⟩)⟩⟩⟩)))))))))))))
theorem fx_Lbent_2 {pg : Program} {w : World} {K : PySem.W.Frag} {mg : Str → Option Value} {base : Heap} (T : Txt K mg base) : FnX pg w K mg base false 5 (He.fAd K ("_law_bent", none)) ([] : List PySem.Str) (fun ds zs M P R => ds.length = 2 ∧ zs.length = ([] : List PySem.Str).length ∧ tr_Lbent K (pick (ds ++ ([] ++ zs)) [0, 1]) M P R) :=
  fn_kwX T.d_Lbent.choose_spec sc_Lbent (ok_Lbent T) 2 ([] : List PySem.Str) [] [] [0, 1] (by simp) (fun _ => .nil) (fun kV D doc pm an cdv ct us mv ws e h1 h2 h3 => match us, mv, ws, h1, h2, h3 with | [_, _], [], [], _, _, _ => rfl) (fun us mv ws h1 h2 h3 => match us, mv, ws, h1, h2, h3 with | [_, _], [], [], _, _, _ => rfl)
def tr_Lis_position (K : PySem.W.Frag) : TrB := fun ds M P R => ∃ x0 : D, ∃ r : D, ds = [x0] ∧ F_Lis_position x0 = some r ∧ P r M
set_option maxHeartbeats 0 in
theorem ok_Lis_position {pg : Program} {w : World} {K : PySem.W.Frag} {mg : Str → Option Value} {base : Heap} (T : Txt K mg base) : BodyX pg w K mg base false 2 (He.fAd K ("_law_is_position", none)) "_law_is_position" (defBody s_Lis_position) (defScope s_Lis_position) ["_law_word", "_law_sign"] ["_law_word"] (tr_Lis_position K) := fun cdv hcv A outer s H F0 E ds M P R hgd0 hr t hL hpo kx => by
  obtain ⟨x0, r, rfl, hF, hk⟩ := t
  unfold F_Lis_position at hF
  refine gx_seq (g1_if (bi hF fun t18 ht18 hF => tx_fix t18 M (have hF := ht18; tx_pw (wx_or (tx_not (bi hF fun t7 ht7 hF => tx_fix t7 M (have hF := ht7; tx_chain (ex_int (ex_blt T.b_len bb_len (ax_cons (ex_var 0 rfl (ax_nil (bi hF fun v4 hv4 hF => cd_dLen .id hv4 (bi hF fun t5 ht5 hF => od_cLt .id .id ht5 ⟨_, rfl, fun q3 => have hF := iT q3 hF; ex_int (bi hF fun t6 ht6 hF => od_cLt .id .id ht6 ⟨_, rfl, ⟨so hF, rfl⟩⟩), fun q3 => ⟨so (iF q3 hF), rfl⟩⟩)))))))) (⟨fun q2 => have hF := iF q2 hF; wx_or1 (tx_cmp (ex_lc (own := [("_law_sign", 1)]) (hN := sc_Lis_position.nd) rfl (bi hF fun l8 hl8 hF => ix_seqU (M2 := M) (ex_var 0 rfl (⟨rfl, rfl⟩)) hl8 (bi hF fun _ hz13 hF => bi hF fun y11 hy11 hF => filtF hy11 (chk_inv hz13).1 (fun x10 _ acc d12 hF hd12 => have fb_d12 := hd12; asb_name 1 (txb_one fun _ _ _ _ _ => tx_cmp (ex_var 1 rfl (ex_str (bi hF fun t15 ht15 hF => od_cNin .id .id ht15 (⟨_, rfl, ⟨fun q16 => have hF := iT q16 hF; fun _ _ _ _ _ => ex_var 1 rfl (⟨(so hF).symm, rfl⟩), fun q16 => ⟨(so (iF q16 hF)).symm, rfl⟩⟩⟩))))) (hN := sc_Lis_position.nd)) (ex_lst (ax_nil (⟨le_b rfl, bi hF fun t17 ht17 hF => od_cNe hr.units .id .id ht17 (⟨_, rfl, ⟨so hF, rfl⟩⟩)⟩))))))), fun q2 => ⟨so (iT q2 hF), rfl⟩⟩))))) (⟨fun q1 => ?_, fun q1 => ?_⟩)))
  · have hF := iT q1 hF
    exact gx_seq (g1_ret (ex_less (ex_bl (⟨_, sub_refl, ret0 (so hF) hk⟩))))
  · have hF := iF q1 hF
    refine gx_nil ?_
    show GX _ _ _ _ _ _
    exact gx_seq (g1_ret (ex_less (bi hF fun v26 hv26 hF => ex_fix v26 M (have hF := hv26; ex_andT (ex_cmp (ex_ty T.b_str bb_str (ax_cons (ex_ty T.b_int bb_int (ax_cons (ex_var 0 rfl (ax_nil (bi hF fun v20 hv20 hF => cd_dIntT .id hv20 (ax_nil (bi hF fun v21 hv21 hF => cd_dStr .id hv21 (ex_var 0 rfl (bi hF fun t22 ht22 hF => od_cEq hr.units .id .id ht22 (bi hF fun t23 ht23 hF => ⟨_, _, .id, ht23, fun q19 => have hF := iT q19 hF; ex_one (ex_cmp (ex_ty T.b_int bb_int (ax_cons (ex_var 0 rfl (ax_nil (bi hF fun v24 hv24 hF => cd_dIntT .id hv24 (ex_int (bi hF fun t25 ht25 hF => od_cLt .id .id ht25 (⟨so hF, rfl⟩))))))))), fun q19 => ⟨so (iF q19 hF), rfl⟩⟩)))))))))))))) (⟨_, sub_refl, ret0 (so hF) hk⟩))))
theorem fx_Lis_position_1 {pg : Program} {w : World} {K : PySem.W.Frag} {mg : Str → Option Value} {base : Heap} (T : Txt K mg base) : FnX pg w K mg base false 3 (He.fAd K ("_law_is_position", none)) ([] : List PySem.Str) (fun ds zs M P R => ds.length = 1 ∧ zs.length = ([] : List PySem.Str).length ∧ tr_Lis_position K (pick (ds ++ ([] ++ zs)) [0]) M P R) :=
  fn_kwX T.d_Lis_position.choose_spec sc_Lis_position (ok_Lis_position T) 1 ([] : List PySem.Str) [] [] [0] (by simp) (fun _ => .nil) (fun kV D doc pm an cdv ct us mv ws e h1 h2 h3 => match us, mv, ws, h1, h2, h3 with | [_], [], [], _, _, _ => rfl) (fun us mv ws h1 h2 h3 => match us, mv, ws, h1, h2, h3 with | [_], [], [], _, _, _ => rfl)
def tr_Ldue (K : PySem.W.Frag) : TrB := fun ds M P R => ∃ x0 : D, ∃ r : D, ds = [x0] ∧ F_Ldue x0 = some r ∧ P r M
set_option maxHeartbeats 0 in
theorem ok_Ldue {pg : Program} {w : World} {K : PySem.W.Frag} {mg : Str → Option Value} {base : Heap} (T : Txt K mg base) : BodyX pg w K mg base false 4 (He.fAd K ("_law_due", none)) "_law_due" (defBody s_Ldue) (defScope s_Ldue) ["_law_thing", "_law_lines", "_law_words", "_law_at"] ["_law_thing"] (tr_Ldue K) := fun cdv hcv A outer s H F0 E ds M P R hgd0 hr t hL hpo kx => by
  obtain ⟨x0, r, rfl, hF, hk⟩ := t
  unfold F_Ldue at hF
  refine gx_seq (g1_if (tx_not (tx_tru (ex_blt T.b_isinstance bb_isi (ax_cons (ex_var 0 rfl (ax_cons (ex_tyn T.b_str bb_str (ax_nil (bi hF fun t2 ht2 hF => cd_dIsi (by decide) .id rfl ht2 (bi hF fun t3 ht3 hF => ⟨_, _, .id, ht3, ⟨fun q1 => ?_, fun q1 => ?_⟩⟩)))))))))))
  · have hF := iT q1 hF
    exact gx_seq (g1_ret (ex_less (ex_tup (ax_cons (ex_int (ax_cons (ex_int (ax_nil (⟨le_b rfl, ⟨_, sub_refl, ret0 (so hF) hk⟩⟩)))))))))
  · have hF := iF q1 hF
    refine gx_nil ?_
    show GX _ _ _ _ _ _
    refine gx_seq (g1_asg (ex_splitF (ex_var 0 rfl (bi hF fun s4 hs4 hF => ⟨s4, strD_eq hs4, ex_str (bi hF fun v5 hv5 hF => ⟨_, v5, .id, hv5, as_name 1 (?_) sc_Ldue.nd⟩)⟩))))
    refine gx_seq (g1_asg (ex_splitF (ex_ix (ex_var 1 rfl (ex_int (bi hF fun v6 hv6 hF => id_dIx .id .id hv6 (bi hF fun s7 hs7 hF => ⟨s7, strD_eq hs7, ex_str (bi hF fun v8 hv8 hF => ⟨_, v8, .id, hv8, as_name 2 (?_) sc_Ldue.nd⟩)⟩)))))))
    refine gx_seq (bi hF fun c11 hF hRr10 => g1_mid (fun ρ' M' => ∃ r10 : Unit, c11 = .go r10 ∧ ∃ j0 : Option D, ρ' = [some x0, some v5, some v8, j0] ∧ M' = M) (g1_if (tx_cmp (ex_var 0 rfl (ex_str (bi hF fun t12 ht12 hF => od_cNe hr.units .id .id ht12 (⟨_, rfl, ⟨fun q9 => ?_, fun q9 => ?_⟩⟩)))))) ?_)
    · have hF := iT q9 hF
      refine gx_seq (g1_for hpo rfl (bi hF fun v14 hv14 hF => bi hF fun l15 hl15 hF => ix_range1U (M2 := M) T.b_range ((have hF := hv14; ax_cons (ex_blt T.b_len bb_len (ax_cons (ex_var 2 rfl (ax_nil (bi hF fun v13 hv13 hF => cd_dLen .id hv13 (ax_nil (⟨by rw [so hF], rfl⟩))))))))) hl15 (bi hF fun c19 hlc19 hOc19 => forC hlc19 (fun s16 ρ' M' => ∃ j0 : Option D, ρ' = [some x0, some v5, some v8, j0] ∧ M' = M) ⟨_, rfl, rfl⟩ ?_ ?_)))
      · rintro x18 s16 b20 hF hbb20 _ M ⟨_, rfl, rfl⟩
        try dsimp only at hF
        refine as_name 3 (?_) sc_Ldue.nd
        refine gx_seq (g1_if (bi hF fun t34 ht34 hF => tx_fix t34 M (have hF := ht34; tx_pw (wx_or (tx_not (tx_tru (ex_callX (fx_Lis_position_1 T) Lets.no (fun h => nomatch h) (hr.mono (by decide)) T.m_Lis_position T.d_Lis_position.choose_spec.kp (ev_a (ax_cons (ex_ix (ex_var 2 rfl (ex_var 3 rfl (bi hF fun v23 hv23 hF => id_dIx .id .id hv23 (ax_nil (kx_nil (bi hF fun v24 hv24 hF => ⟨rfl, ⟨rfl, rfl, ⟨_, v24, rfl, hv24, bi hF fun t25 ht25 hF => ⟨_, _, .id, ht25, ⟨fun q22 => have hF := iF q22 hF; wx_or (tx_cmp (ex_ix (ex_var 2 rfl (ex_var 3 rfl (bi hF fun v27 hv27 hF => id_dIx .id .id hv27 (ex_slice (ex_var 2 rfl (ox_none (ox_d (ex_var 3 rfl (bi hF fun i28 hi28 hF => ⟨_, _, .id, hi28, bi hF fun v29 hv29 hF => sd_dCut .id hv29 (bi hF fun t30 ht30 hF => od_cIn .id .id ht30 (⟨_, rfl, ⟨fun q26 => have hF := iF q26 hF; wx_or1 (tx_cmp (ex_str (ex_slice (ex_var 2 rfl (ox_none (ox_d (ex_var 3 rfl (bi hF fun i31 hi31 hF => ⟨_, _, .id, hi31, bi hF fun v32 hv32 hF => sd_dCut .id hv32 (bi hF fun t33 ht33 hF => od_cIn .id .id ht33 (⟨_, rfl, ⟨so hF, rfl⟩⟩))⟩)))))))), fun q26 => ⟨so (iT q26 hF), rfl⟩⟩⟩))⟩))))))))))), fun q22 => ⟨so (iT q22 hF), rfl⟩⟩⟩⟩⟩⟩)))))))))))))) (⟨fun q21 => ?_, fun q21 => ?_⟩)))
        · have hF := iT q21 hF
          exact gx_seq (g1_ret (ex_less (ex_tup (ax_cons (ex_int (ax_cons (ex_var 3 rfl (ax_nil (⟨le_b rfl, ⟨_, sub_refl, ret0 (so (ctl_retS hRr10 (so (ctl_retR hOc19 (hbb20 _ (so hF).symm))).symm)) hk⟩⟩)))))))))
        · have hF := iF q21 hF
          refine gx_nil ?_
          show GX _ _ _ _ _ _
          exact gx_nil ⟨_, (so hF).symm, ⟨_, rfl, rfl⟩⟩
      · rintro r17 hg _ M ⟨_, rfl, rfl⟩
        have hF := ctl_go hOc19 hg
        try dsimp only at hF
        show GX _ _ _ _ _ _
        exact gx_nil ⟨_, (so hF).symm, ⟨_, rfl, rfl⟩⟩
    · have hF := iF q9 hF
      exact gx_nil ⟨_, (so hF).symm, ⟨_, rfl, rfl⟩⟩
    · rintro _ M ⟨r10, hg, ⟨_, rfl, rfl⟩⟩
      have hF := ctl_go hRr10 hg
      try dsimp only at hF
      show GX _ _ _ _ _ _
      exact gx_seq (g1_ret (ex_less (bi hF fun v38 hv38 hF => ex_fix v38 M (have hF := hv38; ex_if (tx_cmp (ex_blt T.b_len bb_len (ax_cons (ex_var 1 rfl (ax_nil (bi hF fun v35 hv35 hF => cd_dLen .id hv35 (ex_int (bi hF fun t36 ht36 hF => od_cGt .id .id ht36 (⟨_, rfl, ⟨fun q37 => have hF := iT q37 hF; ex_tup (ax_cons (ex_int (ax_cons (ex_int (ax_nil (⟨le_b rfl, ⟨so hF, rfl⟩⟩)))))), fun q37 => have hF := iF q37 hF; ex_non (⟨so hF, rfl⟩)⟩⟩)))))))))) (⟨_, sub_refl, ret0 (so hF) hk⟩))))
theorem fx_Ldue_1 {pg : Program} {w : World} {K : PySem.W.Frag} {mg : Str → Option Value} {base : Heap} (T : Txt K mg base) : FnX pg w K mg base false 5 (He.fAd K ("_law_due", none)) ([] : List PySem.Str) (fun ds zs M P R => ds.length = 1 ∧ zs.length = ([] : List PySem.Str).length ∧ tr_Ldue K (pick (ds ++ ([] ++ zs)) [0]) M P R) :=
  fn_kwX T.d_Ldue.choose_spec sc_Ldue (ok_Ldue T) 1 ([] : List PySem.Str) [] [] [0] (by simp) (fun _ => .nil) (fun kV D doc pm an cdv ct us mv ws e h1 h2 h3 => match us, mv, ws, h1, h2, h3 with | [_], [], [], _, _, _ => rfl) (fun us mv ws h1 h2 h3 => match us, mv, ws, h1, h2, h3 with | [_], [], [], _, _, _ => rfl)
def tr_Order_positions (K : PySem.W.Frag) : TrB := fun ds M P R => ∃ x0 : D, ∃ r : D, ds = [x0] ∧ F_Order_positions (Zk K) x0 = some r ∧ P r M
set_option maxHeartbeats 0 in
theorem ok_Order_positions {pg : Program} {w : World} {K : PySem.W.Frag} {mg : Str → Option Value} {base : Heap} (T : Txt K mg base) : BodyX pg w K mg base false 2 (prAd K "Order" "positions").2 "Order.positions" (defBody s_Order_positions) (defScope s_Order_positions) ["self"] ["self"] (tr_Order_positions K) := fun cdv hcv A outer s H F0 E ds M P R hgd0 hr t hL hpo kx => by
  obtain ⟨x0, r, rfl, hF, hk⟩ := t
  unfold F_Order_positions at hF
  exact gx_seq (g1_ret (ex_less (ex_fldC T.cls_Order T.no_Order_entries (ex_var 0 rfl (bi hF fun g1 hg1 hF => bi hF fun z2 hz2 hF => ⟨_, g1, z2, .id, hg1, hz2, ⟨_, sub_refl, ret0 (so hF) hk⟩⟩)))))
theorem fx_Order_positions_1 {pg : Program} {w : World} {K : PySem.W.Frag} {mg : Str → Option Value} {base : Heap} (T : Txt K mg base) : FnX pg w K mg base false 3 (prAd K "Order" "positions").2 ([] : List PySem.Str) (fun ds zs M P R => ds.length = 1 ∧ zs.length = ([] : List PySem.Str).length ∧ tr_Order_positions K (pick (ds ++ ([] ++ zs)) [0]) M P R) :=
  fn_kwX T.d_Order_positions.choose_spec sc_Order_positions (ok_Order_positions T) 1 ([] : List PySem.Str) [] [] [0] (by simp) (fun _ => .nil) (fun kV D doc pm an cdv ct us mv ws e h1 h2 h3 => match us, mv, ws, h1, h2, h3 with | [_], [], [], _, _, _ => rfl) (fun us mv ws h1 h2 h3 => match us, mv, ws, h1, h2, h3 with | [_], [], [], _, _, _ => rfl)
def tr_show_order (K : PySem.W.Frag) : TrB := fun ds M P R => ∃ x0 : D, ∃ r : D, ds = [x0] ∧ F_show_order (Zk K) x0 = some r ∧ P r M
set_option maxHeartbeats 0 in
theorem ok_show_order {pg : Program} {w : World} {K : PySem.W.Frag} {mg : Str → Option Value} {base : Heap} (T : Txt K mg base) : BodyX pg w K mg base false 4 (He.fAd K ("show_order", none)) "show_order" (defBody s_show_order) (defScope s_show_order) ["order", "position"] ["order"] (tr_show_order K) := fun cdv hcv A outer s H F0 E ds M P R hgd0 hr t hL hpo kx => by
  obtain ⟨x0, r, rfl, hF, hk⟩ := t
  unfold F_show_order at hF
  exact gx_seq (g1_ret (ex_less (bi hF fun v16 hv16 hF => ex_fix v16 M (have hF := hv16; ex_orT (ex_joinF (ex_str (bi hF fun s2 hs2 hF => ⟨s2, strD_eq hs2, ex_lc (own := [("position", 1)]) (hN := sc_show_order.nd) rfl (bi hF fun v5 hv5 hF => bi hF fun l6 hl6 hF => ix_seqU (M2 := M) ((have hF := hv5; ex_propX T.cls_Order T.pr_Order_positions (fx_Order_positions_1 T) (hr.mono (by decide)) (ex_var 0 rfl (bi hF fun g3 hg3 hF => bi hF fun v4 hv4 hF => ⟨g3, is_of hg3, rfl, rfl, _, v4, rfl, hv4, ⟨so hF, rfl⟩⟩)))) hl6 (bi hF fun _ hz11 hF => bi hF fun y9 hy9 hF => lcF hy9 (chk_inv hz11).1 (fun x8 _ acc d10 hF hd10 => have fb_d10 := hd10; asb_name 1 (fun _ _ _ _ _ => ex_ty T.b_str bb_str (ax_cons (ex_var 1 rfl (ax_nil (bi hF fun v13 hv13 hF => cd_dStr .id hv13 (⟨so hF, rfl⟩)))))) (hN := sc_show_order.nd)) (bi hF fun v14 hv14 hF => ⟨_, v14, .id, hv14, bi hF fun t15 ht15 hF => ⟨_, _, .id, ht15, fun q1 => have hF := iF q1 hF; ex_one (ex_gstr T.g_NO_POSITIONS (⟨so hF, rfl⟩)), fun q1 => ⟨so (iT q1 hF), rfl⟩⟩⟩)))⟩)))) (⟨_, sub_refl, ret0 (so hF) hk⟩))))
theorem fx_show_order_1 {pg : Program} {w : World} {K : PySem.W.Frag} {mg : Str → Option Value} {base : Heap} (T : Txt K mg base) : FnX pg w K mg base false 5 (He.fAd K ("show_order", none)) ([] : List PySem.Str) (fun ds zs M P R => ds.length = 1 ∧ zs.length = ([] : List PySem.Str).length ∧ tr_show_order K (pick (ds ++ ([] ++ zs)) [0]) M P R) :=
  fn_kwX T.d_show_order.choose_spec sc_show_order (ok_show_order T) 1 ([] : List PySem.Str) [] [] [0] (by simp) (fun _ => .nil) (fun kV D doc pm an cdv ct us mv ws e h1 h2 h3 => match us, mv, ws, h1, h2, h3 with | [_], [], [], _, _, _ => rfl) (fun us mv ws h1 h2 h3 => match us, mv, ws, h1, h2, h3 with | [_], [], [], _, _, _ => rfl)
def tr_Lheard (K : PySem.W.Frag) : ((D → Mem → Prop) → RX → Prop) → Mem → (D → Mem → Prop) → Prop := fun TT M P => ∃ x0 : Except Er D, (∀ P R, resX x0 (fun v => P v M) (fun e => R e.1 e.2 M) → TT P R) ∧ ∃ r : D, F_Lheard (Zk K) x0 = some r ∧ P r M
set_option maxHeartbeats 0 in
theorem ok_Lheard {pg : Program} {w : World} {K : PySem.W.Frag} {mg : Str → Option Value} {base : Heap} (T : Txt K mg base) : BodyL pg w K mg base false 11 (He.fAd K ("_law_heard", none)) "_law_heard" (defBody s_Lheard) (defScope s_Lheard) ["_law_call", "_law_caught", "e"] "_law_call" (tr_Lheard K) := fun cdv A outer s H F0 E f M TT P hgd0 hr t hlam hpo => by
  obtain ⟨x0, hTr, r, hF, hk⟩ := t
  unfold F_Lheard at hF
  refine gx_seq (g1_asg (ex_non (as_name 1 (?_) sc_Lheard.nd)))
  refine gx_seq (bi hF fun c2 hF hRr1 => g1_mid (fun ρ' M' => ∃ r1 : D, c2 = .go r1 ∧ ∃ j0 : Option D, ρ' = [some (.adr f), some r1, j0] ∧ M' = M) (g1_try 2 Lets.no (exT2 rfl T.g_ProbeError rfl T.g_AbsentError) (fun pn1 xe1 J1 hJ1 hL1 hpo1 => ?_) (hN := sc_Lheard.nd)) ?_)
  · refine gx_seq (g1_ret (ex_less (ex_lst (ax_cons (ex_callX (fx_show_order_1 T) Lets.no (fun h => nomatch h) (hr.mono (by decide)) T.m_show_order T.d_show_order.choose_spec.kp (ev_a (ax_cons (hlam _ _ _ _ _ _ _ _ hJ1 hL1 rfl (hTr _ _ (exc_i hF (fun e3 hee3 hF => have hm_m5 := (ifS hF).1; have hF_m5 := (ifS hF).2; ⟨_, sub_refl, true, T.xm_0 _ hm_m5, (fun _ a_m5 J_m5 => ?_), (fun h => nomatch h)⟩) (fun v4 hv4 hF => ax_nil (kx_nil (bi hF fun v6 hv6 hF => ⟨rfl, ⟨rfl, rfl, ⟨_, v6, rfl, hv6, ax_nil (⟨le_b rfl, ⟨_, sub_refl, ret0 (so (ctl_retS hRr1 (so hF).symm)) hk⟩⟩)⟩⟩⟩)))))))))))))
    · have hF := hF_m5
      show GX _ _ _ _ _ _
      refine gx_seq (g1_asg (ex_var 2 rfl (as_name 1 (?_) sc_Lheard.nd)))
      exact gx_nil ⟨_, (so hF).symm, ⟨_, rfl, rfl⟩⟩
  · rintro _ M ⟨r1, hg, ⟨_, rfl, rfl⟩⟩
    have hF := ctl_go hRr1 hg
    try dsimp only at hF
    show GX _ _ _ _ _ _
    refine gx_seq (g1_if (bi hF fun t16 ht16 hF => tx_fix t16 M (have hF := ht16; tx_pw (wx_and (tx_tru (ex_blt T.b_isinstance bb_isi (ax_cons (ex_var 1 rfl (ax_cons (ex_cls T.g_InvalidText (ax_nil (bi hF fun t9 ht9 hF => cd_isiE T.xc_1 T.ki_2 T.kp_3 (fun F v r => by cases r; exact .own _) ht9 (bi hF fun t10 ht10 hF => ⟨_, _, .id, ht10, ⟨fun q8 => have hF := iT q8 hF; wx_and (tx_tru (ex_blt T.b_isinstance bb_isi (ax_cons (ex_var 1 rfl (ax_cons (ex_tyn T.b_ValueError rfl (ax_nil (bi hF fun t12 ht12 hF => cd_isiE T.xc_1 T.ki_4 T.kp_5 (fun F v r => by cases r; exact .ty _) ht12 (bi hF fun t13 ht13 hF => ⟨_, _, .id, ht13, ⟨fun q11 => have hF := iT q11 hF; wx_and1 (tx_not (tx_tru (ex_blt T.b_isinstance bb_isi (ax_cons (ex_var 1 rfl (ax_cons (ex_cls T.g_InvalidPosition (ax_nil (bi hF fun t14 ht14 hF => cd_isiE T.xc_1 T.ki_6 T.kp_7 (fun F v r => by cases r; exact .own _) ht14 (bi hF fun t15 ht15 hF => ⟨_, _, .id, ht15, ⟨so hF, rfl⟩⟩)))))))))), fun q11 => ⟨so (iF q11 hF), rfl⟩⟩⟩))))))))), fun q8 => ⟨so (iF q8 hF), rfl⟩⟩⟩))))))))))) (⟨fun q7 => ?_, fun q7 => ?_⟩)))
    · have hF := iT q7 hF
      exact gx_seq (g1_ret (ex_less (ex_tup (ax_cons (ex_xflL T.xf_line_8 (ex_var 1 rfl (bi hF fun z17 hz17 hF => ⟨z17, hz17, ax_cons (ex_xflL T.xf_word_9 (ex_var 1 rfl (bi hF fun z18 hz18 hF => ⟨z18, hz18, ax_nil (⟨le_b rfl, ⟨_, sub_refl, ret0 (so hF) hk⟩⟩)⟩)))⟩)))))))
    · have hF := iF q7 hF
      refine gx_nil ?_
      show GX _ _ _ _ _ _
      exact gx_seq (g1_ret (ex_less (ex_str (⟨_, sub_refl, ret0 (so hF) hk⟩))))
def tr_lines_in (K : PySem.W.Frag) : TrB := fun ds M P R => ∃ x0 : D, ∃ r : Except Er D, ds = [x0] ∧ F_lines_in (Zk K) x0 = some r ∧ resX r (fun v => P v M) (fun e => R e.1 e.2 M)
set_option maxHeartbeats 0 in
theorem ok_lines_in {pg : Program} {w : World} {K : PySem.W.Frag} {mg : Str → Option Value} {base : Heap} (T : Txt K mg base) : BodyX pg w K mg base false 2 (He.fAd K ("lines_in", none)) "lines_in" (defBody s_lines_in) (defScope s_lines_in) ["text", "line"] ["text"] (tr_lines_in K) := fun cdv hcv A outer s H F0 E ds M P R hgd0 hr t hL hpo kx => by
  obtain ⟨x0, r, rfl, hF, hk⟩ := t
  unfold F_lines_in at hF
  refine gx_seq (g1_if (tx_not (tx_tru (ex_blt T.b_isinstance bb_isi (ax_cons (ex_var 0 rfl (ax_cons (ex_tyn T.b_str bb_str (ax_nil (bi hF fun t2 ht2 hF => cd_dIsi (by decide) .id rfl ht2 (bi hF fun t3 ht3 hF => ⟨_, _, .id, ht3, ⟨fun q1 => ?_, fun q1 => ?_⟩⟩)))))))))))
  · have hF := iT q1 hF
    exact gx_seq (g1_rs2 hL rfl T.er_InvalidText basV T.d_InvalidText___init__.choose_spec sc_InvalidText___init__ ⟨_, _, _, _, _, _, _, _, rfl⟩ T.nf_InvalidText_line T.nf_InvalidText_word (hr.mono (by decide)) (T.d_InvalidText___init__.choose_spec.bindsN fun _ _ _ _ _ _ us hl => match us, hl with | [_, _, _], _ => rfl) T.g_InvalidText (ex_int (ex_int (⟨_, sub_refl, errX (q := fun e => R e.1 e.2 M) (so hF) hk⟩))))
  · have hF := iF q1 hF
    refine gx_nil ?_
    show GX _ _ _ _ _ _
    exact gx_seq (g1_ret (ex_less (ex_lc (own := [("line", 1)]) (hN := sc_lines_in.nd) rfl (bi hF fun v6 hv6 hF => bi hF fun l7 hl7 hF => ix_seqU (M2 := M) ((have hF := hv6; ex_splitF (ex_var 0 rfl (bi hF fun s4 hs4 hF => ⟨s4, strD_eq hs4, ex_str (bi hF fun v5 hv5 hF => ⟨_, v5, .id, hv5, ⟨so hF, rfl⟩⟩)⟩)))) hl7 (bi hF fun _ hz12 hF => bi hF fun y10 hy10 hF => lcF hy10 (chk_inv hz12).1 (fun x9 _ acc d11 hF hd11 => have fb_d11 := hd11; asb_name 1 (fun _ _ _ _ _ => ex_splitF (ex_var 1 rfl (bi hF fun s14 hs14 hF => ⟨s14, strD_eq hs14, ex_str (bi hF fun v15 hv15 hF => ⟨_, v15, .id, hv15, ⟨so hF, rfl⟩⟩)⟩))) (hN := sc_lines_in.nd)) (⟨_, sub_refl, retX (p := fun v => P v M) (so hF) hk⟩))))))
theorem fx_lines_in_1 {pg : Program} {w : World} {K : PySem.W.Frag} {mg : Str → Option Value} {base : Heap} (T : Txt K mg base) : FnX pg w K mg base false 3 (He.fAd K ("lines_in", none)) ([] : List PySem.Str) (fun ds zs M P R => ds.length = 1 ∧ zs.length = ([] : List PySem.Str).length ∧ tr_lines_in K (pick (ds ++ ([] ++ zs)) [0]) M P R) :=
  fn_kwX T.d_lines_in.choose_spec sc_lines_in (ok_lines_in T) 1 ([] : List PySem.Str) [] [] [0] (by simp) (fun _ => .nil) (fun kV D doc pm an cdv ct us mv ws e h1 h2 h3 => match us, mv, ws, h1, h2, h3 with | [_], [], [], _, _, _ => rfl) (fun us mv ws h1 h2 h3 => match us, mv, ws, h1, h2, h3 with | [_], [], [], _, _, _ => rfl)
def tr_number_in (K : PySem.W.Frag) : TrB := fun ds M P R => ∃ x0 : D, ∃ x1 : D, ∃ x2 : D, ∃ r : D, ds = [x0, x1, x2] ∧ F_number_in x0 x1 x2 = some r ∧ P r M
set_option maxHeartbeats 0 in
theorem ok_number_in {pg : Program} {w : World} {K : PySem.W.Frag} {mg : Str → Option Value} {base : Heap} (T : Txt K mg base) : BodyX pg w K mg base false 2 (He.fAd K ("number_in", none)) "number_in" (defBody s_number_in) (defScope s_number_in) ["word", "least", "most", "sign"] ["word", "least", "most"] (tr_number_in K) := fun cdv hcv A outer s H F0 E ds M P R hgd0 hr t hL hpo kx => by
  obtain ⟨x0, x1, x2, r, rfl, hF, hk⟩ := t
  unfold F_number_in at hF
  refine gx_seq (g1_if (bi hF fun t18 ht18 hF => tx_fix t18 M (have hF := ht18; tx_pw (wx_or (tx_not (bi hF fun t7 ht7 hF => tx_fix t7 M (have hF := ht7; tx_chain (ex_int (ex_blt T.b_len bb_len (ax_cons (ex_var 0 rfl (ax_nil (bi hF fun v4 hv4 hF => cd_dLen .id hv4 (bi hF fun t5 ht5 hF => od_cLe .id .id ht5 ⟨_, rfl, fun q3 => have hF := iT q3 hF; ex_gint T.g_MOST_DIGITS (bi hF fun t6 ht6 hF => od_cLe .id .id ht6 ⟨_, rfl, ⟨so hF, rfl⟩⟩), fun q3 => ⟨so (iF q3 hF), rfl⟩⟩)))))))) (⟨fun q2 => have hF := iF q2 hF; wx_or1 (tx_cmp (ex_lc (own := [("sign", 3)]) (hN := sc_number_in.nd) rfl (bi hF fun l8 hl8 hF => ix_seqU (M2 := M) (ex_var 0 rfl (⟨rfl, rfl⟩)) hl8 (bi hF fun _ hz13 hF => bi hF fun y11 hy11 hF => filtF hy11 (chk_inv hz13).1 (fun x10 _ acc d12 hF hd12 => have fb_d12 := hd12; asb_name 3 (txb_one fun _ _ _ _ _ => tx_cmp (ex_var 3 rfl (ex_gstr T.g_DIGITS (bi hF fun t15 ht15 hF => od_cNin .id .id ht15 (⟨_, rfl, ⟨fun q16 => have hF := iT q16 hF; fun _ _ _ _ _ => ex_var 3 rfl (⟨(so hF).symm, rfl⟩), fun q16 => ⟨(so (iF q16 hF)).symm, rfl⟩⟩⟩))))) (hN := sc_number_in.nd)) (ex_lst (ax_nil (⟨le_b rfl, bi hF fun t17 ht17 hF => od_cNe hr.units .id .id ht17 (⟨_, rfl, ⟨so hF, rfl⟩⟩)⟩))))))), fun q2 => ⟨so (iT q2 hF), rfl⟩⟩))))) (⟨fun q1 => ?_, fun q1 => ?_⟩)))
  · have hF := iT q1 hF
    exact gx_seq (g1_ret (ex_less (ex_non (⟨_, sub_refl, ret0 (so hF) hk⟩))))
  · have hF := iF q1 hF
    refine gx_nil ?_
    show GX _ _ _ _ _ _
    refine gx_seq (g1_if (bi hF fun t24 ht24 hF => tx_fix t24 M (have hF := ht24; tx_pw (wx_and (tx_cmp (ex_ix (ex_var 0 rfl (ex_int (bi hF fun v21 hv21 hF => id_dIx .id .id hv21 (ex_str (bi hF fun t22 ht22 hF => od_cEq hr.units .id .id ht22 (⟨_, rfl, ⟨fun q20 => have hF := iT q20 hF; wx_and1 (tx_cmp (ex_var 0 rfl (ex_str (bi hF fun t23 ht23 hF => od_cNe hr.units .id .id ht23 (⟨_, rfl, ⟨so hF, rfl⟩⟩))))), fun q20 => ⟨so (iF q20 hF), rfl⟩⟩⟩)))))))))) (⟨fun q19 => ?_, fun q19 => ?_⟩)))
    · have hF := iT q19 hF
      exact gx_seq (g1_ret (ex_less (ex_non (⟨_, sub_refl, ret0 (so hF) hk⟩))))
    · have hF := iF q19 hF
      refine gx_nil ?_
      show GX _ _ _ _ _ _
      exact gx_seq (g1_ret (ex_less (bi hF fun v32 hv32 hF => ex_fix v32 M (have hF := hv32; ex_if (bi hF fun t29 ht29 hF => tx_fix t29 M (have hF := ht29; tx_chain (ex_var 1 rfl (ex_ty T.b_int bb_int (ax_cons (ex_var 0 rfl (ax_nil (bi hF fun v26 hv26 hF => cd_dIntT .id hv26 (bi hF fun t27 ht27 hF => od_cLe .id .id ht27 ⟨_, rfl, fun q25 => have hF := iT q25 hF; ex_var 2 rfl (bi hF fun t28 ht28 hF => od_cLe .id .id ht28 ⟨_, rfl, ⟨so hF, rfl⟩⟩), fun q25 => ⟨so (iF q25 hF), rfl⟩⟩)))))))) (⟨fun q31 => have hF := iT q31 hF; ex_ty T.b_int bb_int (ax_cons (ex_var 0 rfl (ax_nil (bi hF fun v30 hv30 hF => cd_dIntT .id hv30 (⟨so hF, rfl⟩))))), fun q31 => have hF := iF q31 hF; ex_non (⟨so hF, rfl⟩)⟩))) (⟨_, sub_refl, ret0 (so hF) hk⟩))))
theorem fx_number_in_3 {pg : Program} {w : World} {K : PySem.W.Frag} {mg : Str → Option Value} {base : Heap} (T : Txt K mg base) : FnX pg w K mg base false 3 (He.fAd K ("number_in", none)) ([] : List PySem.Str) (fun ds zs M P R => ds.length = 3 ∧ zs.length = ([] : List PySem.Str).length ∧ tr_number_in K (pick (ds ++ ([] ++ zs)) [0, 1, 2]) M P R) :=
  fn_kwX T.d_number_in.choose_spec sc_number_in (ok_number_in T) 3 ([] : List PySem.Str) [] [] [0, 1, 2] (by simp) (fun _ => .nil) (fun kV D doc pm an cdv ct us mv ws e h1 h2 h3 => match us, mv, ws, h1, h2, h3 with | [_, _, _], [], [], _, _, _ => rfl) (fun us mv ws h1 h2 h3 => match us, mv, ws, h1, h2, h3 with | [_, _, _], [], [], _, _, _ => rfl)
def tr_positions_in (K : PySem.W.Frag) : TrB := fun ds M P R => ∃ x0 : D, ∃ r : Except Er D, ds = [x0] ∧ F_positions_in (Zk K) x0 = some r ∧ resX r (fun v => P v M) (fun e => R e.1 e.2 M)
set_option maxHeartbeats 0 in
theorem ok_positions_in {pg : Program} {w : World} {K : PySem.W.Frag} {mg : Str → Option Value} {base : Heap} (T : Txt K mg base) : BodyX pg w K mg base false 4 (He.fAd K ("positions_in", none)) "positions_in" (defBody s_positions_in) (defScope s_positions_in) ["words", "found", "index", "word", "position"] ["words"] (tr_positions_in K) := fun cdv hcv A outer s H F0 E ds M P R hgd0 hr t hL hpo kx => by
  obtain ⟨x0, r, rfl, hF, hk⟩ := t
  unfold F_positions_in at hF
  refine gx_seq (g1_asg (ex_lstM (ax_nil (⟨le_b rfl, fun a1 ha1 => have fb_a1 := ha1; as_name 1 (?_) sc_positions_in.nd⟩))))
  refine gx_seq (g1_for hpo rfl (bi hF fun l2 hl2 hF => ix_enumU (M2 := (up M a1 (.lst []))) T.b_enumerate (ax_cons (ex_var 0 rfl (ax_nil (⟨rfl, rfl⟩)))) hl2 (bi hF fun c6 hlc6 hOc6 => forC hlc6 (fun s3 ρ' M' => ∃ j0 : Option D, ∃ j1 : Option D, ∃ j2 : Option D, ρ' = [some x0, some (.adr a1), j0, j1, j2] ∧ M' = (up M a1 (.lst s3))) ⟨_, _, _, rfl, rfl⟩ ?_ ?_)))
  · rintro x5 s3 b7 hF hbb7 _ _ ⟨_, _, _, rfl, rfl⟩
    try dsimp only at hF
    refine bi hF fun p8 hp8 hF => as_eq (un2_eq hp8) (as_tup rfl rfl (asd_cons (as_name 2 (asd_cons (as_name 3 (asd_nil (?_)) sc_positions_in.nd)) sc_positions_in.nd)))
    refine gx_seq (g1_asg (ex_callX (fx_number_in_3 T) Lets.no (fun h => nomatch h) (hr.mono (by decide)) T.m_number_in T.d_number_in.choose_spec.kp (ev_a (ax_cons (ex_var 3 rfl (ax_cons (ex_int (ax_cons (ex_gint T.g_MOST_BITS (ax_nil (kx_nil (bi hF fun v9 hv9 hF => ⟨rfl, ⟨rfl, rfl, ⟨_, _, _, v9, rfl, hv9, as_name 4 (?_) sc_positions_in.nd⟩⟩⟩))))))))))))
    refine gx_seq (g1_if (bi hF fun t16 ht16 hF => tx_fix t16 (up M a1 (.lst s3)) (have hF := ht16; tx_pw (wx_or (tx_cmp (ex_var 4 rfl (ex_non (bi hF fun t12 ht12 hF => od_cIs .id .id ht12 (⟨_, rfl, ⟨fun q11 => have hF := iF q11 hF; wx_or (tx_cmp (ex_var 4 rfl (ex_var 1 rfl (bi hF fun t14 ht14 hF => od_cIn .id (.ad at0.get rfl) ht14 (⟨_, rfl, ⟨fun q13 => have hF := iF q13 hF; wx_or1 (tx_cmp (ex_int (ex_var 1 rfl (bi hF fun t15 ht15 hF => od_cIn .id (.ad at0.get rfl) ht15 (⟨_, rfl, ⟨so hF, rfl⟩⟩))))), fun q13 => ⟨so (iT q13 hF), rfl⟩⟩⟩))))), fun q11 => ⟨so (iT q11 hF), rfl⟩⟩⟩))))))) (⟨fun q10 => ?_, fun q10 => ?_⟩)))
    · have hF := iT q10 hF
      exact gx_seq (g1_rs2 hL rfl T.er_InvalidText basV T.d_InvalidText___init__.choose_spec sc_InvalidText___init__ ⟨_, _, _, _, _, _, _, _, rfl⟩ T.nf_InvalidText_line T.nf_InvalidText_word (hr.mono (by decide)) (T.d_InvalidText___init__.choose_spec.bindsN fun _ _ _ _ _ _ us hl => match us, hl with | [_, _, _], _ => rfl) T.g_InvalidText (ex_int (ex_var 2 rfl (⟨_, (sub_drop sub_refl fb_a1), errX (q := fun e => R e.1 e.2 M) (so (ctl_retS hOc6 (hbb7 _ (so hF).symm))) hk⟩))))
    · have hF := iF q10 hF
      refine gx_nil ?_
      show GX _ _ _ _ _ _
      refine gx_seq (g1_expr (ex_append (ex_var 1 rfl (⟨_, _, rfl, at0.get, ax_cons (ex_var 4 rfl (ax_nil (bi hF fun _ h17 hF => ⟨_, _, _, rfl, at0, (chk_inv h17).1, ?_⟩)))⟩))))
      exact gx_nil ⟨_, (so hF).symm, ⟨_, _, _, rfl, rfl⟩⟩
  · rintro r4 hg _ _ ⟨_, _, _, rfl, rfl⟩
    have hF := ctl_go hOc6 hg
    try dsimp only at hF
    show GX _ _ _ _ _ _
    exact gx_seq (g1_ret (ex_less (ex_ty T.b_tuple bb_tuple (ax_cons (ex_var 1 rfl (ax_nil (bi hF fun l18 hl18 hF => cd_lTuple rfl (.ad at0.get rfl) hl18 (⟨_, (sub_drop sub_refl fb_a1), retX (p := fun v => P v M) (so hF) hk⟩))))))))
theorem fx_positions_in_1 {pg : Program} {w : World} {K : PySem.W.Frag} {mg : Str → Option Value} {base : Heap} (T : Txt K mg base) : FnX pg w K mg base false 5 (He.fAd K ("positions_in", none)) ([] : List PySem.Str) (fun ds zs M P R => ds.length = 1 ∧ zs.length = ([] : List PySem.Str).length ∧ tr_positions_in K (pick (ds ++ ([] ++ zs)) [0]) M P R) :=
  fn_kwX T.d_positions_in.choose_spec sc_positions_in (ok_positions_in T) 1 ([] : List PySem.Str) [] [] [0] (by simp) (fun _ => .nil) (fun kV D doc pm an cdv ct us mv ws e h1 h2 h3 => match us, mv, ws, h1, h2, h3 with | [_], [], [], _, _, _ => rfl) (fun us mv ws h1 h2 h3 => match us, mv, ws, h1, h2, h3 with | [_], [], [], _, _, _ => rfl)
def tr_order_positions (K : PySem.W.Frag) : TrB := fun ds M P R => ∃ x0 : D, ∃ r : Except Er D, ds = [x0] ∧ F_order_positions (Zk K) x0 = some r ∧ resX r (fun v => P v M) (fun e => R e.1 e.2 M)
set_option maxHeartbeats 0 in
theorem ok_order_positions {pg : Program} {w : World} {K : PySem.W.Frag} {mg : Str → Option Value} {base : Heap} (T : Txt K mg base) : BodyX pg w K mg base false 6 (He.fAd K ("order_positions", none)) "order_positions" (defBody s_order_positions) (defScope s_order_positions) ["text", "first", "others", "found"] ["text"] (tr_order_positions K) := fun cdv hcv A outer s H F0 E ds M P R hgd0 hr t hL hpo kx => by
  obtain ⟨x0, r, rfl, hF, hk⟩ := t
  unfold F_order_positions at hF
  refine gx_seq (g1_star 1 rfl (ex_callX (fx_lines_in_1 T) hL (fun h => nomatch h) (hr.mono (by decide)) T.m_lines_in T.d_lines_in.choose_spec.kp (ev_a (ax_cons (ex_var 0 rfl (ax_nil (kx_nil (bi hF fun r3 hr3 hF => ⟨rfl, ⟨rfl, rfl, ⟨_, r3, rfl, hr3, exc_i hF (fun e2 hee2 hF => ⟨_, sub_refl, errX (q := fun e => R e.1 e.2 M) (so hF) hk⟩) (fun v1 hv1 hF => bi hF fun p4 hp4 hF => ⟨_, _, .id, stD1_eq hp4, (asd_cons (as_name 1 (asd_star (as_name 2 (asd_nil ?_) sc_order_positions.nd)) sc_order_positions.nd))⟩)⟩⟩⟩))))))))
  refine gx_seq (g1_asg (ex_if (tx_cmp (ex_var 0 rfl (ex_gstr T.g_EMPTY (bi hF fun t5 ht5 hF => od_cEq hr.units .id .id ht5 (⟨_, rfl, ⟨fun q13 => have hF := iT q13 hF; ex_tup (ax_nil (⟨le_b rfl, as_name 3 (?_) sc_order_positions.nd⟩)), fun q13 => have hF := iF q13 hF; ex_callX (fx_positions_in_1 T) hL (fun h => nomatch h) (hr.mono (by decide)) T.m_positions_in T.d_positions_in.choose_spec.kp (ev_a (ax_cons (ex_var 1 rfl (ax_nil (kx_nil (bi hF fun r10 hr10 hF => ⟨rfl, ⟨rfl, rfl, ⟨_, r10, rfl, hr10, exc_i hF (fun e9 hee9 hF => ⟨_, sub_refl, errX (q := fun e => R e.1 e.2 M) (so hF) hk⟩) (fun v8 hv8 hF => as_name 3 (?_) sc_order_positions.nd)⟩⟩⟩))))))⟩⟩)))))))
  · refine gx_seq (g1_if (tx_cmp (ex_var 2 rfl (ex_lst (ax_nil (⟨le_b rfl, bi hF fun t7 ht7 hF => od_cNe hr.units .id .id ht7 (⟨_, rfl, ⟨fun q6 => ?_, fun q6 => ?_⟩⟩)⟩))))))
    · have hF := iT q6 hF
      exact gx_seq (g1_rs2 hL rfl T.er_InvalidText basV T.d_InvalidText___init__.choose_spec sc_InvalidText___init__ ⟨_, _, _, _, _, _, _, _, rfl⟩ T.nf_InvalidText_line T.nf_InvalidText_word (hr.mono (by decide)) (T.d_InvalidText___init__.choose_spec.bindsN fun _ _ _ _ _ _ us hl => match us, hl with | [_, _, _], _ => rfl) T.g_InvalidText (ex_int (ex_int (⟨_, sub_refl, errX (q := fun e => R e.1 e.2 M) (so hF) hk⟩))))
    · have hF := iF q6 hF
      refine gx_nil ?_
      show GX _ _ _ _ _ _
      exact gx_seq (g1_ret (ex_less (ex_var 3 rfl (⟨_, sub_refl, retX (p := fun v => P v M) (so hF) hk⟩))))
  · refine gx_seq (g1_if (tx_cmp (ex_var 2 rfl (ex_lst (ax_nil (⟨le_b rfl, bi hF fun t12 ht12 hF => od_cNe hr.units .id .id ht12 (⟨_, rfl, ⟨fun q11 => ?_, fun q11 => ?_⟩⟩)⟩))))))
    · have hF := iT q11 hF
      exact gx_seq (g1_rs2 hL rfl T.er_InvalidText basV T.d_InvalidText___init__.choose_spec sc_InvalidText___init__ ⟨_, _, _, _, _, _, _, _, rfl⟩ T.nf_InvalidText_line T.nf_InvalidText_word (hr.mono (by decide)) (T.d_InvalidText___init__.choose_spec.bindsN fun _ _ _ _ _ _ us hl => match us, hl with | [_, _, _], _ => rfl) T.g_InvalidText (ex_int (ex_int (⟨_, sub_refl, errX (q := fun e => R e.1 e.2 M) (so hF) hk⟩))))
    · have hF := iF q11 hF
      refine gx_nil ?_
      show GX _ _ _ _ _ _
      exact gx_seq (g1_ret (ex_less (ex_var 3 rfl (⟨_, sub_refl, retX (p := fun v => P v M) (so hF) hk⟩))))
theorem fx_order_positions_1 {pg : Program} {w : World} {K : PySem.W.Frag} {mg : Str → Option Value} {base : Heap} (T : Txt K mg base) : FnX pg w K mg base false 7 (He.fAd K ("order_positions", none)) ([] : List PySem.Str) (fun ds zs M P R => ds.length = 1 ∧ zs.length = ([] : List PySem.Str).length ∧ tr_order_positions K (pick (ds ++ ([] ++ zs)) [0]) M P R) :=
  fn_kwX T.d_order_positions.choose_spec sc_order_positions (ok_order_positions T) 1 ([] : List PySem.Str) [] [] [0] (by simp) (fun _ => .nil) (fun kV D doc pm an cdv ct us mv ws e h1 h2 h3 => match us, mv, ws, h1, h2, h3 with | [_], [], [], _, _, _ => rfl) (fun us mv ws h1 h2 h3 => match us, mv, ws, h1, h2, h3 with | [_], [], [], _, _, _ => rfl)
def tr_is_between (K : PySem.W.Frag) : TrB := fun ds M P R => ∃ x0 : D, ∃ x1 : D, ∃ x2 : D, ∃ r : D, ds = [x0, x1, x2] ∧ F_is_between x0 x1 x2 = some r ∧ P r M
set_option maxHeartbeats 0 in
theorem ok_is_between {pg : Program} {w : World} {K : PySem.W.Frag} {mg : Str → Option Value} {base : Heap} (T : Txt K mg base) : BodyX pg w K mg base false 2 (He.fAd K ("is_between", none)) "is_between" (defBody s_is_between) (defScope s_is_between) ["value", "least", "most"] ["value", "least", "most"] (tr_is_between K) := fun cdv hcv A outer s H F0 E ds M P R hgd0 hr t hL hpo kx => by
  obtain ⟨x0, x1, x2, r, rfl, hF, hk⟩ := t
  unfold F_is_between at hF
  exact gx_seq (g1_ret (ex_less (bi hF fun v11 hv11 hF => ex_fix v11 M (have hF := hv11; ex_andT (ex_blt T.b_isinstance bb_isi (ax_cons (ex_var 0 rfl (ax_cons (ex_tyn T.b_int bb_int (ax_nil (bi hF fun t2 ht2 hF => cd_dIsi (by decide) .id rfl ht2 (bi hF fun t3 ht3 hF => ⟨_, _, .id, ht3, fun q1 => have hF := iT q1 hF; ex_andT (ex_notT (ex_blt T.b_isinstance bb_isi (ax_cons (ex_var 0 rfl (ax_cons (ex_tyn T.b_bool bb_bool (ax_nil (bi hF fun t5 ht5 hF => cd_dIsi (by decide) .id rfl ht5 (bi hF fun t6 ht6 hF => ⟨_, _, .id, ht6, bi hF fun t7 ht7 hF => ⟨_, _, .id, ht7, fun q4 => have hF := iT q4 hF; ex_one (ex_chain (ex_var 1 rfl (ex_var 0 rfl (bi hF fun t9 ht9 hF => od_cLe .id .id ht9 ⟨_, rfl, fun q8 => have hF := iT q8 hF; ex_var 2 rfl (bi hF fun t10 ht10 hF => od_cLe .id .id ht10 ⟨so hF, rfl⟩), fun q8 => ⟨so (iF q8 hF), rfl⟩⟩)))), fun q4 => ⟨so (iF q4 hF), rfl⟩⟩⟩))))))))), fun q1 => ⟨so (iF q1 hF), rfl⟩⟩))))))))) (⟨_, sub_refl, ret0 (so hF) hk⟩))))
theorem fx_is_between_3 {pg : Program} {w : World} {K : PySem.W.Frag} {mg : Str → Option Value} {base : Heap} (T : Txt K mg base) : FnX pg w K mg base false 3 (He.fAd K ("is_between", none)) ([] : List PySem.Str) (fun ds zs M P R => ds.length = 3 ∧ zs.length = ([] : List PySem.Str).length ∧ tr_is_between K (pick (ds ++ ([] ++ zs)) [0, 1, 2]) M P R) :=
  fn_kwX T.d_is_between.choose_spec sc_is_between (ok_is_between T) 3 ([] : List PySem.Str) [] [] [0, 1, 2] (by simp) (fun _ => .nil) (fun kV D doc pm an cdv ct us mv ws e h1 h2 h3 => match us, mv, ws, h1, h2, h3 with | [_, _, _], [], [], _, _, _ => rfl) (fun us mv ws h1 h2 h3 => match us, mv, ws, h1, h2, h3 with | [_, _, _], [], [], _, _, _ => rfl)
def tr_first_ones (K : PySem.W.Frag) : TrB := fun ds M P R => ∃ x0 : D, ∃ r : D, ds = [x0] ∧ F_first_ones x0 = some r ∧ P r M
set_option maxHeartbeats 0 in
theorem ok_first_ones {pg : Program} {w : World} {K : PySem.W.Frag} {mg : Str → Option Value} {base : Heap} (T : Txt K mg base) : BodyX pg w K mg base false 2 (He.fAd K ("first_ones", none)) "first_ones" (defBody s_first_ones) (defScope s_first_ones) ["positions", "found", "position"] ["positions"] (tr_first_ones K) := fun cdv hcv A outer s H F0 E ds M P R hgd0 hr t hL hpo kx => by
  obtain ⟨x0, r, rfl, hF, hk⟩ := t
  unfold F_first_ones at hF
  refine gx_seq (g1_asg (ex_lstM (ax_nil (⟨le_b rfl, fun a1 ha1 => have fb_a1 := ha1; as_name 1 (?_) sc_first_ones.nd⟩))))
  refine gx_seq (g1_for hpo rfl (bi hF fun l2 hl2 hF => ix_seqU (M2 := (up M a1 (.lst []))) (ex_var 0 rfl (⟨rfl, rfl⟩)) hl2 (bi hF fun c6 hlc6 hOc6 => forC hlc6 (fun s3 ρ' M' => ∃ j0 : Option D, ρ' = [some x0, some (.adr a1), j0] ∧ M' = (up M a1 (.lst s3))) ⟨_, rfl, rfl⟩ ?_ ?_)))
  · rintro x5 s3 b7 hF hbb7 _ _ ⟨_, rfl, rfl⟩
    try dsimp only at hF
    refine as_name 2 (?_) sc_first_ones.nd
    refine gx_seq (g1_if (bi hF fun t13 ht13 hF => tx_fix t13 (up M a1 (.lst s3)) (have hF := ht13; tx_pw (wx_and (tx_cmp (ex_var 1 rfl (ex_lst (ax_nil (⟨le_b rfl, bi hF fun t10 ht10 hF => od_cNe hr.units (.ad at0.get rfl) .id ht10 (⟨_, rfl, ⟨fun q9 => have hF := iT q9 hF; wx_and1 (tx_cmp (ex_ix (ex_var 1 rfl (ex_dNeg (ex_int ⟨_, _, .id, rfl, bi hF fun v11 hv11 hF => id_dIx (.ad at0.get rfl) .id hv11 (ex_int (bi hF fun t12 ht12 hF => od_cEq hr.units .id .id ht12 (⟨_, rfl, ⟨so hF, rfl⟩⟩)))⟩))))), fun q9 => ⟨so (iF q9 hF), rfl⟩⟩⟩)⟩))))))) (⟨fun q8 => ?_, fun q8 => ?_⟩)))
    · have hF := iT q8 hF
      exact gx_seq (g1_break ⟨_, (so hF).symm, ⟨_, rfl, rfl⟩⟩)
    · have hF := iF q8 hF
      refine gx_nil ?_
      show GX _ _ _ _ _ _
      refine gx_seq (bi hF fun r15 hF hRr15 => g1_mid (fun ρ' M' => ρ' = [some x0, some (.adr a1), some x5] ∧ M' = (up M a1 (.lst r15))) (g1_if (tx_cmp (ex_var 2 rfl (ex_var 1 rfl (bi hF fun t16 ht16 hF => od_cNin .id (.ad at0.get rfl) ht16 (⟨_, rfl, ⟨fun q14 => ?_, fun q14 => ?_⟩⟩)))))) ?_)
      · have hF := iT q14 hF
        refine gx_seq (g1_expr (ex_append (ex_var 1 rfl (⟨_, _, rfl, at0.get, ax_cons (ex_var 2 rfl (ax_nil (bi hF fun _ h17 hF => ⟨_, _, _, rfl, at0, (chk_inv h17).1, ?_⟩)))⟩))))
        cases hF
        exact gx_nil ⟨rfl, rfl⟩
      · have hF := iF q14 hF
        cases hF
        exact gx_nil ⟨rfl, rfl⟩
      · rintro _ _ ⟨rfl, rfl⟩
        have hF := hRr15
        try dsimp only at hF
        show GX _ _ _ _ _ _
        exact gx_nil ⟨_, (so hF).symm, ⟨_, rfl, rfl⟩⟩
  · rintro r4 hg _ _ ⟨_, rfl, rfl⟩
    have hF := ctl_go hOc6 hg
    try dsimp only at hF
    show GX _ _ _ _ _ _
    exact gx_seq (g1_ret (ex_less (ex_ty T.b_tuple bb_tuple (ax_cons (ex_var 1 rfl (ax_nil (bi hF fun l18 hl18 hF => cd_lTuple rfl (.ad at0.get rfl) hl18 (⟨_, (sub_drop sub_refl fb_a1), ret0 (so hF) hk⟩))))))))
theorem fx_first_ones_1 {pg : Program} {w : World} {K : PySem.W.Frag} {mg : Str → Option Value} {base : Heap} (T : Txt K mg base) : FnX pg w K mg base false 3 (He.fAd K ("first_ones", none)) ([] : List PySem.Str) (fun ds zs M P R => ds.length = 1 ∧ zs.length = ([] : List PySem.Str).length ∧ tr_first_ones K (pick (ds ++ ([] ++ zs)) [0]) M P R) :=
  fn_kwX T.d_first_ones.choose_spec sc_first_ones (ok_first_ones T) 1 ([] : List PySem.Str) [] [] [0] (by simp) (fun _ => .nil) (fun kV D doc pm an cdv ct us mv ws e h1 h2 h3 => match us, mv, ws, h1, h2, h3 with | [_], [], [], _, _, _ => rfl) (fun us mv ws h1 h2 h3 => match us, mv, ws, h1, h2, h3 with | [_], [], [], _, _, _ => rfl)
def tr_Order___init__ (K : PySem.W.Frag) : TrB := fun ds M P R => ∃ (p : Addr) (M1 : Mem), ∃ x1 : D, ∃ r : Except Er (List (Str × D)), M1 p = none ∧ M = up M1 p (.ins (Zk K "Order") []) ∧ ds = [.adr p, x1] ∧ F_Order___init__ (Zk K) x1 = some r ∧ resX r (fun r => P .non (up M1 p (.ins (Zk K "Order") r))) (fun e => R e.1 e.2 M1)
set_option maxHeartbeats 0 in
theorem ok_Order___init__ {pg : Program} {w : World} {K : PySem.W.Frag} {mg : Str → Option Value} {base : Heap} (T : Txt K mg base) : BodyX pg w K mg base false 4 (He.fAd K ("Order", some "__init__")) "Order.__init__" (defBody s_Order___init__) (defScope s_Order___init__) ["self", "positions", "index", "position"] ["self", "positions"] (tr_Order___init__ K) := fun cdv hcv A outer s H F0 E ds M P R hgd0 hr t hL hpo kx => by
  obtain ⟨p_0, M1, x1, r, fb_p_0, rfl, rfl, hF, hk⟩ := t
  unfold F_Order___init__ at hF
  refine gx_seq (g1_for hpo rfl (bi hF fun l1 hl1 hF => ix_enumU (M2 := (up M1 p_0 (.ins (Zk K "Order") ([] : List (Str × D))))) T.b_enumerate (ax_cons (ex_var 1 rfl (ax_nil (⟨rfl, rfl⟩)))) hl1 (bi hF fun c5 hlc5 hOc5 => forC hlc5 (fun s2 ρ' M' => ∃ j0 : Option D, ∃ j1 : Option D, ρ' = [some (.adr p_0), some x1, j0, j1] ∧ M' = (up M1 p_0 (.ins (Zk K "Order") ([] : List (Str × D))))) ⟨_, _, rfl, rfl⟩ ?_ ?_)))
  · rintro x4 s2 b6 hF hbb6 _ _ ⟨_, _, rfl, rfl⟩
    try dsimp only at hF
    refine bi hF fun p7 hp7 hF => as_eq (un2_eq hp7) (as_tup rfl rfl (asd_cons (as_name 2 (asd_cons (as_name 3 (asd_nil (?_)) sc_Order___init__.nd)) sc_Order___init__.nd)))
    refine gx_seq (g1_if (tx_not (tx_tru (ex_callX (fx_is_between_3 T) Lets.no (fun h => nomatch h) (hr.mono (by decide)) T.m_is_between T.d_is_between.choose_spec.kp (ev_a (ax_cons (ex_var 3 rfl (ax_cons (ex_int (ax_cons (ex_conC (y := (D.int 24)) T.cls_Order ⟨_, _, T.co_Order_GREATEST.choose_spec, fun _ => .int _⟩ (ex_var 0 rfl (bi hF fun g9 hg9 hF => ⟨_, g9, (.ad at0.get), hg9, ax_nil (kx_nil (bi hF fun v10 hv10 hF => ⟨rfl, ⟨rfl, rfl, ⟨_, _, _, v10, rfl, hv10, bi hF fun t11 ht11 hF => ⟨_, _, .id, ht11, ⟨fun q8 => ?_, fun q8 => ?_⟩⟩⟩⟩⟩))⟩)))))))))))))
    · have hF := iT q8 hF
      exact gx_seq (g1_rs1 hL rfl T.er_InvalidPosition basV T.d_InvalidPosition___init__.choose_spec sc_InvalidPosition___init__ ⟨_, _, _, _, rfl⟩ T.nf_InvalidPosition_index (hr.mono (by decide)) (T.d_InvalidPosition___init__.choose_spec.bindsN fun _ _ _ _ _ _ us hl => match us, hl with | [_, _], _ => rfl) T.g_InvalidPosition (ex_var 2 rfl (⟨_, (sub_drop sub_refl fb_p_0), errX (q := fun e => R e.1 e.2 M1) (so (ctl_retS hOc5 (hbb6 _ (so hF).symm))) hk⟩)))
    · have hF := iF q8 hF
      refine gx_nil ?_
      show GX _ _ _ _ _ _
      exact gx_nil ⟨_, (so hF).symm, ⟨_, _, rfl, rfl⟩⟩
  · rintro r3 hg _ _ ⟨_, _, rfl, rfl⟩
    have hF := ctl_go hOc5 hg
    try dsimp only at hF
    show GX _ _ _ _ _ _
    refine gx_seq (g1_setFldF (ex_callX (fx_first_ones_1 T) Lets.no (fun h => nomatch h) (hr.mono (by decide)) T.m_first_ones T.d_first_ones.choose_spec.kp (ev_a (ax_cons (ex_var 1 rfl (ax_nil (kx_nil (bi hF fun v12 hv12 hF => ⟨rfl, ⟨rfl, rfl, ⟨_, v12, rfl, hv12, bi hF fun _ h13 hF => ex_var 0 rfl (⟨_, _, _, _, rfl, at0, T.cls_Order, T.no_Order_entries, (chk_inv h13).1, ?_⟩)⟩⟩⟩))))))))
    exact gx_nil (retX (p := fun r => P .non (up M1 p_0 (.ins (Zk K "Order") r))) (so hF) hk)
theorem fx_Order___init___1 {pg : Program} {w : World} {K : PySem.W.Frag} {mg : Str → Option Value} {base : Heap} (T : Txt K mg base) : FnX pg w K mg base false 5 (He.fAd K ("Order", some "__init__")) ([] : List PySem.Str) (fun ds zs M P R => ∃ d0 dr, ds = d0 ++ dr ∧ d0.length = 1 ∧ zs.length = ([] : List PySem.Str).length ∧ dr.length ≤ 1000000 ∧ (false = true → dr = []) ∧ tr_Order___init__ K (pick (d0 ++ ([] ++ zs)) [0] ++ [D.tup dr]) M P R) :=
  fn_starX (pn := ["self"]) (pv := "positions") T.d_Order___init__.choose_spec sc_Order___init__ (ok_Order___init__ T) 1 ([] : List PySem.Str) [] [] [0] (by simp) (fun _ => .nil) D.tup (.inl rfl) false (fun kV D doc pm an cdv ct us rest mv ws e er h1 h2 h3 => match us, rest, mv, ws, h1, h2, h3 with | [_], [], [], [], _, _, _ => rfl | [_], _ :: _, [], [], _, _, _ => rfl) (fun us mv ws h1 h2 h3 => match us, mv, ws, h1, h2, h3 with | [_], [], [], _, _, _ => rfl)
def tr_read_order (K : PySem.W.Frag) : TrB := fun ds M P R => ∃ x0 : D, ∃ r : Except Er D, ds = [x0] ∧ F_read_order (Zk K) x0 = some r ∧ resX r (fun v => P v M) (fun e => R e.1 e.2 M)
set_option maxHeartbeats 0 in
theorem ok_read_order {pg : Program} {w : World} {K : PySem.W.Frag} {mg : Str → Option Value} {base : Heap} (T : Txt K mg base) : BodyX pg w K mg base false 8 (He.fAd K ("read_order", none)) "read_order" (defBody s_read_order) (defScope s_read_order) ["text", "positions"] ["text"] (tr_read_order K) := fun cdv hcv A outer s H F0 E ds M P R hgd0 hr t hL hpo kx => by
  obtain ⟨x0, r, rfl, hF, hk⟩ := t
  unfold F_read_order at hF
  refine gx_seq (g1_asg (ex_callX (fx_order_positions_1 T) hL (fun h => nomatch h) (hr.mono (by decide)) T.m_order_positions T.d_order_positions.choose_spec.kp (ev_a (ax_cons (ex_var 0 rfl (ax_nil (kx_nil (bi hF fun r3 hr3 hF => ⟨rfl, ⟨rfl, rfl, ⟨_, r3, rfl, hr3, exc_i hF (fun e2 hee2 hF => ⟨_, sub_refl, errX (q := fun e => R e.1 e.2 M) (so hF) hk⟩) (fun v1 hv1 hF => as_name 1 (?_) sc_read_order.nd)⟩⟩⟩))))))))
  exact gx_seq (g1_ret (ex_less (ex_makeX T.mk_Order (fx_Order___init___1 T) hL (hr.mono (by decide)) T.g_Order (ev_s1 (ex_var 1 rfl (bi hF fun l4 hl4 hF => ⟨_, sqOf .id hl4, bi hF fun _ h5 hF => bi hF fun r9 hr9 hF => fun a7 ha7 => ⟨[_], l4, rfl, rfl, rfl, (chk_inv h5).1, (fun h => nomatch h), ⟨a7, _, _, r9, ha7, rfl, rfl, hr9, exc_i hF (fun e8 hee8 hF => ⟨_, sub_refl, errX (q := fun e => R e.1 e.2 M) (so hF) hk⟩) (fun v6 hv6 hF => ⟨rfl, _, _, ha7, rfl, ⟨_, sub_refl, retX (p := fun v => P v M) (so hF) hk⟩⟩)⟩⟩⟩))))))
theorem fx_read_order_0_text {pg : Program} {w : World} {K : PySem.W.Frag} {mg : Str → Option Value} {base : Heap} (T : Txt K mg base) : FnX pg w K mg base false 9 (He.fAd K ("read_order", none)) (["text"] : List PySem.Str) (fun ds zs M P R => ds.length = 0 ∧ zs.length = (["text"] : List PySem.Str).length ∧ tr_read_order K (pick (ds ++ ([] ++ zs)) [0]) M P R) :=
  fn_kwX T.d_read_order.choose_spec sc_read_order (ok_read_order T) 0 (["text"] : List PySem.Str) [] [] [0] (by simp) (fun _ => .nil) (fun kV D doc pm an cdv ct us mv ws e h1 h2 h3 => match us, mv, ws, h1, h2, h3 with | [], [], [_], _, _, _ => rfl) (fun us mv ws h1 h2 h3 => match us, mv, ws, h1, h2, h3 with | [], [], [_], _, _, _ => rfl)
theorem fx_read_order_1 {pg : Program} {w : World} {K : PySem.W.Frag} {mg : Str → Option Value} {base : Heap} (T : Txt K mg base) : FnX pg w K mg base false 9 (He.fAd K ("read_order", none)) ([] : List PySem.Str) (fun ds zs M P R => ds.length = 1 ∧ zs.length = ([] : List PySem.Str).length ∧ tr_read_order K (pick (ds ++ ([] ++ zs)) [0]) M P R) :=
  fn_kwX T.d_read_order.choose_spec sc_read_order (ok_read_order T) 1 ([] : List PySem.Str) [] [] [0] (by simp) (fun _ => .nil) (fun kV D doc pm an cdv ct us mv ws e h1 h2 h3 => match us, mv, ws, h1, h2, h3 with | [_], [], [], _, _, _ => rfl) (fun us mv ws h1 h2 h3 => match us, mv, ws, h1, h2, h3 with | [_], [], [], _, _, _ => rfl)
def tr_Lright (K : PySem.W.Frag) : TrB := fun ds M P R => ∃ x0 : D, ∃ r : D, ds = [x0] ∧ TbM K tl M ∧ F_Lright (Zk K) x0 = some r ∧ P r M
set_option maxHeartbeats 0 in
theorem ok_Lright {pg : Program} {w : World} {K : PySem.W.Frag} {mg : Str → Option Value} {base : Heap} (T : Txt K mg base) : BodyX pg w K mg base true 13 (He.fAd K ("_law_right", none)) "_law_right" (defBody s_Lright) (defScope s_Lright) ["_law_thing", "_law_wrong", "_law_told"] ["_law_thing"] (tr_Lright K) := fun cdv hcv A outer s H F0 E ds M P R hgd0 hr t hL hpo kx => by
  have hgd := hgd0 rfl
  obtain ⟨x0, r, rfl, hTM, hF, hk⟩ := t
  unfold F_Lright at hF
  refine gx_seq (g1_asg (ex_callX (fx_Ldue_1 T) Lets.no (fun h => nomatch h) (hr.mono (by decide)) T.m_Ldue T.d_Ldue.choose_spec.kp (ev_a (ax_cons (ex_var 0 rfl (ax_nil (kx_nil (bi hF fun v1 hv1 hF => ⟨rfl, ⟨rfl, rfl, ⟨_, v1, rfl, hv1, as_name 1 (?_) sc_Lright.nd⟩⟩⟩))))))))
  refine gx_seq (g1_asg (ex_lstM (ax_cons (bi hF fun r2 hr2 hF => bi hF fun v3 hv3 hF => ex_lamcall (T := fun P R => resX r2 (fun v => P v M) (fun e => R e.1 e.2 M)) (ok_Lheard T) T.d_Lheard.choose_spec sc_Lheard T.m_Lheard (fun h => nomatch h) (T.tb _ (.head _)) (code_ref hcv (tab_ne (T.tb _ (.head _)))) (hTM _ (.head _)) (hr.mono (by decide)) (kb := 10) (by decide) ⟨r2, fun _ _ h => h, v3, hv3, ax_nil (⟨le_b rfl, fun a7 ha7 => have fb_a7 := ha7; as_name 2 (?_) sc_Lright.nd⟩)⟩ (fun A_ o_ s_ H_ E_ f_ c_ J_ P_ R_ hg_ hr hLl1 hk_ => have hgd := hg_.trans hgd; have hF := hr2; ex_less (ex_callX (fx_read_order_1 T) hLl1 (fun h => nomatch h) (hr.mono (by decide)) T.m_read_order T.d_read_order.choose_spec.kp (ev_a (ax_cons (ex_var 0 rfl (ax_nil (kx_nil (bi hF fun r6 hr6 hF => ⟨rfl, ⟨rfl, rfl, ⟨_, r6, rfl, hr6, exc_i hF (fun e5 hee5 hF => ⟨_, sub_refl, errX (q := fun e => R_ e.1 e.2 M) (so hF) hk_⟩) (fun v4 hv4 hF => ⟨_, sub_refl, retX (p := fun v => P_ v M) (so hF) hk_⟩)⟩⟩⟩))))))))))))
  refine gx_seq (g1_expr (ex_append (ex_var 2 rfl (⟨_, _, rfl, at0.get, ax_cons (bi hF fun r8 hr8 hF => bi hF fun v9 hv9 hF => ex_lamcall (T := fun P R => resX r8 (fun v => P v (up M a7 (.lst [v3]))) (fun e => R e.1 e.2 (up M a7 (.lst [v3])))) (ok_Lheard T) T.d_Lheard.choose_spec sc_Lheard T.m_Lheard (fun h => nomatch h) (T.tb _ (.head _)) (code_ref hcv (tab_ne (T.tb _ (.head _)))) ((tbm_up hTM fb_a7) _ (.head _)) (hr.mono (by decide)) (kb := 10) (by decide) ⟨r8, fun _ _ h => h, v9, hv9, ax_nil (bi hF fun _ h13 hF => ⟨_, _, _, rfl, at0, (chk_inv h13).1, ?_⟩)⟩ (fun A_ o_ s_ H_ E_ f_ c_ J_ P_ R_ hg_ hr hLl2 hk_ => have hgd := hg_.trans hgd; have hF := hr8; ex_less (ex_callX (fx_read_order_0_text T) hLl2 (fun h => nomatch h) (hr.mono (by decide)) T.m_read_order T.d_read_order.choose_spec.kp (ev_0 (kx_cons (ex_var 0 rfl (kx_nil (bi hF fun r12 hr12 hF => ⟨rfl, ⟨rfl, rfl, ⟨_, r12, rfl, hr12, exc_i hF (fun e11 hee11 hF => ⟨_, (sub_keep sub_refl), errX (q := fun e => R_ e.1 e.2 (up M a7 (.lst [v3]))) (so hF) hk_⟩) (fun v10 hv10 hF => ⟨_, (sub_keep sub_refl), retX (p := fun v => P_ v (up M a7 (.lst [v3]))) (so hF) hk_⟩)⟩⟩⟩))))))))⟩))))
  refine gx_frzA 2 rfl at0.get (subx_here fb_a7) ?_
  show GX _ _ _ _ _ _
  exact gx_seq (g1_ret (ex_less (ex_cmp (ex_blt T.b_repr bb_repr (ax_cons (ex_var 2 rfl (ax_nil (bi hF fun v14 hv14 hF => cd_dReprR T.sys hgd hr.units hv14 (ex_blt T.b_repr bb_repr (ax_cons (ex_bin (ex_lst (ax_cons (bi hF fun v17 hv17 hF => ex_fix v17 M (have hF := hv17; ex_if (tx_cmp (ex_var 1 rfl (ex_non (bi hF fun t15 ht15 hF => od_cIs .id .id ht15 (⟨_, rfl, ⟨fun q16 => have hF := iT q16 hF; ex_lst (ax_cons (ex_var 0 rfl (ax_nil (⟨le_b rfl, ⟨so hF, rfl⟩⟩)))), fun q16 => have hF := iF q16 hF; ex_var 1 rfl (⟨so hF, rfl⟩)⟩⟩)))))) (ax_nil (⟨le_b rfl, ex_int (bi hF fun v18 hv18 hF => od_dMul .id .id hv18 (ax_nil (bi hF fun v19 hv19 hF => cd_dReprR T.sys hgd hr.units hv19 (bi hF fun t20 ht20 hF => od_cEq hr.units .id .id ht20 (⟨_, sub_refl, ret0 (so hF) hk⟩)))))⟩))))))))))))))))
theorem fx_Lright_1 {pg : Program} {w : World} {K : PySem.W.Frag} {mg : Str → Option Value} {base : Heap} (T : Txt K mg base) : FnX pg w K mg base true 14 (He.fAd K ("_law_right", none)) ([] : List PySem.Str) (fun ds zs M P R => ds.length = 1 ∧ zs.length = ([] : List PySem.Str).length ∧ tr_Lright K (pick (ds ++ ([] ++ zs)) [0]) M P R) :=
  fn_kwX T.d_Lright.choose_spec sc_Lright (ok_Lright T) 1 ([] : List PySem.Str) [] [] [0] (by simp) (fun _ => .nil) (fun kV D doc pm an cdv ct us mv ws e h1 h2 h3 => match us, mv, ws, h1, h2, h3 with | [_], [], [], _, _, _ => rfl) (fun us mv ws h1 h2 h3 => match us, mv, ws, h1, h2, h3 with | [_], [], [], _, _, _ => rfl)
def tr_law (K : PySem.W.Frag) : TrB := fun ds M P R => ∃ ns, ds = [.scr ns] ∧ TbM K tl M ∧ F_law (Zk K) (.scr ns) = some (.bl true) ∧ ∀ M', P (.bl true) M'
set_option maxHeartbeats 0 in
theorem ok_law {pg : Program} {w : World} {K : PySem.W.Frag} {mg : Str → Option Value} {base : Heap} (T : Txt K mg base) : BodyX pg w K mg base true 15 (He.fAd K ("law", none)) "law" (defBody s_law) (defScope s_law) ["_law_script", "_law_pen_here", "_law_turn", "_law_line_here", "_law_once", "_law_odd", "_law_some", "_law_thing"] ["_law_script"] (tr_law K) := fun cdv hcv A outer s H F0 E ds M P R hgd0 hr t hL hpo kx => by
  have hgd := hgd0 rfl
  obtain ⟨ns, rfl, hTM, hF, hk0⟩ := t
  obtain ⟨x0, ex0⟩ : ∃ x0, x0 = D.scr ns := ⟨_, rfl⟩
  obtain ⟨r, er⟩ : ∃ r, r = D.bl true := ⟨_, rfl⟩
  rw [← ex0, ← er] at hF
  rw [← ex0]
  have hk : P r M := by rw [er]; exact hk0 M
  clear hk0
  unfold F_law at hF
  refine gx_seq (g1_asg (ex_callX (fx_Lpen_1 T) Lets.no (fun h => nomatch h) (hr.mono (by decide)) T.m_Lpen T.d_Lpen.choose_spec.kp (ev_a (ax_cons (ex_var 0 rfl (ax_nil (kx_nil (bi hF fun v1 hv1 hF => ⟨rfl, ⟨rfl, rfl, ⟨_, v1, rfl, hv1, fun a2 ha2 => have fb_a2 := ha2; as_name 1 (?_) sc_law.nd⟩⟩⟩))))))))
  refine gx_seq (g1_for hpo rfl (bi hF fun l3 hl3 hF => ix_range1U (M2 := (up M a2 (.lst v1))) T.b_range (ax_cons (ex_int (ax_nil (⟨rfl, rfl⟩)))) hl3 (bi hF fun c7 hlc7 hOc7 => forC hlc7 (fun s4 ρ' M' => ∃ j0 : Option D, ∃ j1 : Option D, ∃ j2 : Option D, ∃ j3 : Option D, ∃ j4 : Option D, ∃ j5 : Option D, ρ' = [some x0, some (.adr a2), j0, j1, j2, j3, j4, j5] ∧ M' = (up M a2 (.lst s4))) ⟨_, _, _, _, _, _, rfl, rfl⟩ ?_ ?_)))
  · rintro x6 s4 b8 hF hbb8 _ _ ⟨_, _, _, _, _, _, rfl, rfl⟩
    try dsimp only at hF
    refine as_name 2 (?_) sc_law.nd
    refine gx_seq (g1_asg (ex_callX (fx_Lline_1 T) Lets.no (fun h => nomatch h) (hr.mono (by decide)) T.m_Lline T.d_Lline.choose_spec.kp (ev_a (ax_cons (ex_var 1 rfl (ax_nil (kx_nil (bi hF fun v9 hv9 hF => ⟨rfl, ⟨rfl, rfl, ⟨a2, s4, v9, (fun w0 => (up M a2 w0)), rfl, rfl, fun _ => at0, hv9, as_name 3 (?_) sc_law.nd⟩⟩⟩))))))))
    refine gx_seq (g1_asg (ex_callX (fx_Lbent_2 T) Lets.no (fun h => nomatch h) (hr.mono (by decide)) T.m_Lbent T.d_Lbent.choose_spec.kp (ev_a (ax_cons (ex_var 1 rfl (ax_cons (ex_var 3 rfl (ax_nil (kx_nil (bi hF fun v10 hv10 hF => ⟨rfl, ⟨rfl, rfl, ⟨a2, v9.2, _, v10, (fun w0 => (up M a2 w0)), rfl, rfl, fun _ => at0, hv10, as_name 4 (?_) sc_law.nd⟩⟩⟩))))))))))
    refine gx_seq (g1_asg (ex_ix (ex_lst (ax_cons (ex_non (ax_cons (ex_int (ax_cons (ex_bl (ax_cons (ex_lst (ax_cons (ex_var 3 rfl (ax_nil (⟨le_b rfl, ax_cons (ex_tup (ax_cons (ex_var 3 rfl (ax_nil (⟨le_b rfl, ax_cons (ex_dct0 (ax_cons (ex_lst (ax_nil (⟨le_b rfl, ax_cons (ex_int (ax_nil (⟨le_b rfl, ex_callX (fx_Ldraw_2 T) Lets.no (fun h => nomatch h) (hr.mono (by decide)) T.m_Ldraw T.d_Ldraw.choose_spec.kp (ev_a (ax_cons (ex_var 1 rfl (ax_cons (ex_int (ax_nil (kx_nil (bi hF fun v11 hv11 hF => ⟨rfl, ⟨rfl, rfl, ⟨a2, v10.2, _, v11, (fun w0 => (up M a2 w0)), rfl, rfl, fun _ => at0, hv11, bi hF fun v12 hv12 hF => id_dIx .id .id hv12 (as_name 5 (?_) sc_law.nd)⟩⟩⟩))))))))⟩)))⟩)))))⟩)))))⟩)))))))))))))))
    refine gx_seq (g1_asg (ex_lst (ax_cons (ex_var 3 rfl (ax_cons (ex_var 4 rfl (ax_cons (ex_callX (fx_Lbent_2 T) Lets.no (fun h => nomatch h) (hr.mono (by decide)) T.m_Lbent T.d_Lbent.choose_spec.kp (ev_a (ax_cons (ex_var 1 rfl (ax_cons (ex_var 4 rfl (ax_nil (kx_nil (bi hF fun v13 hv13 hF => ⟨rfl, ⟨rfl, rfl, ⟨a2, v11.2, _, v13, (fun w0 => (up M a2 w0)), rfl, rfl, fun _ => at0, hv13, ax_cons (ex_callX (fx_Lbent_2 T) Lets.no (fun h => nomatch h) (hr.mono (by decide)) T.m_Lbent T.d_Lbent.choose_spec.kp (ev_a (ax_cons (ex_var 1 rfl (ax_cons (ex_var 3 rfl (ax_nil (kx_nil (bi hF fun v14 hv14 hF => ⟨rfl, ⟨rfl, rfl, ⟨a2, v13.2, _, v14, (fun w0 => (up M a2 w0)), rfl, rfl, fun _ => at0, hv14, ax_cons (ex_var 5 rfl (ax_nil (⟨le_b rfl, as_name 6 (?_) sc_law.nd⟩)))⟩⟩⟩)))))))))⟩⟩⟩))))))))))))))))
    refine gx_seq (g1_if (tx_cmp (ex_lc (own := [("_law_thing", 7)]) (hN := sc_law.nd) rfl (bi hF fun l16 hl16 hF => ix_seqU (M2 := (up M a2 (.lst v14.2))) (ex_var 6 rfl (⟨rfl, rfl⟩)) hl16 (bi hF fun _ hz21 hF => bi hF fun y19 hy19 hF => filtF hy19 (chk_inv hz21).1 (fun x18 _ acc d20 hF hd20 => have ne_a2_d20 := (up_none hd20).1; have fb_d20 := (up_none hd20).2; asb_name 7 (txb_one fun _ _ _ _ _ => tx_not (tx_tru (ex_callX (fx_Lright_1 T) Lets.no (fun _ => hgd) (hr.mono (by decide)) T.m_Lright T.d_Lright.choose_spec.kp (ev_a (ax_cons (ex_var 7 rfl (ax_nil (kx_nil (bi hF fun v23 hv23 hF => ⟨rfl, ⟨rfl, rfl, ⟨_, v23, rfl, (tbm_up (tbm_up hTM fb_a2) (nn ne_a2_d20 fb_d20)), hv23, bi hF fun t24 ht24 hF => ⟨_, _, .id, ht24, ⟨fun q25 => have hF := iT q25 hF; fun _ _ _ _ _ => ex_var 7 rfl (⟨(so hF).symm, rfl⟩), fun q25 => ⟨(so (iF q25 hF)).symm, rfl⟩⟩⟩⟩⟩⟩))))))))) (hN := sc_law.nd)) (ex_lst (ax_nil (⟨le_b rfl, bi hF fun t26 ht26 hF => od_cNe hr.units .id .id ht26 (⟨_, rfl, ⟨fun q15 => ?_, fun q15 => ?_⟩⟩)⟩))))))))
    · have hF := iT q15 hF
      exact gx_seq (g1_ret (ex_less (ex_bl (⟨_, (sub_drop sub_refl fb_a2), ret0 (so (ctl_retS hOc7 (hbb8 _ (so hF).symm))) hk⟩))))
    · have hF := iF q15 hF
      refine gx_nil ?_
      show GX _ _ _ _ _ _
      exact gx_nil ⟨_, (so hF).symm, ⟨_, _, _, _, _, _, rfl, rfl⟩⟩
  · rintro r5 hg _ _ ⟨_, _, _, _, _, _, rfl, rfl⟩
    have hF := ctl_go hOc7 hg
    try dsimp only at hF
    show GX _ _ _ _ _ _
    refine gx_seq (g1_asg (ex_lst (ax_cons (ex_str (ax_cons (ex_str (ax_cons (ex_str (ax_cons (ex_str (ax_cons (ex_str (ax_cons (ex_str (ax_cons (ex_str (ax_cons (ex_str (ax_cons (ex_str (ax_cons (ex_str (ax_cons (ex_str (ax_cons (ex_str (ax_cons (ex_str (ax_cons (ex_str (ax_cons (ex_str (ax_cons (ex_str (ax_nil (⟨le_b rfl, as_name 6 (?_) sc_law.nd⟩))))))))))))))))))))))))))))))))))))
    refine gx_seq (g1_asg (ex_bin (ex_var 6 rfl (ex_lst (ax_cons (ex_bin (ex_str (ex_int (bi hF fun v27 hv27 hF => od_dMul .id .id hv27 (ax_cons (ex_bin (ex_str (ex_bin (ex_str (ex_int (bi hF fun v28 hv28 hF => od_dMul .id .id hv28 (bi hF fun v29 hv29 hF => od_dAdd .id .id hv29 (ax_cons (ex_bin (ex_str (ex_int (bi hF fun v30 hv30 hF => od_dMul .id .id hv30 (ax_cons (ex_str (ax_cons (ex_str (ax_nil (⟨le_b rfl, bi hF fun v31 hv31 hF => od_dAdd .id .id hv31 (as_name 6 (?_) sc_law.nd)⟩))))))))))))))))))))))))))))
    exact gx_seq (g1_ret (ex_less (ex_cmp (ex_lc (own := [("_law_thing", 7)]) (hN := sc_law.nd) rfl (bi hF fun l32 hl32 hF => ix_seqU (M2 := (up M a2 (.lst r5))) (ex_var 6 rfl (⟨rfl, rfl⟩)) hl32 (bi hF fun _ hz37 hF => bi hF fun y35 hy35 hF => filtF hy35 (chk_inv hz37).1 (fun x34 _ acc d36 hF hd36 => have ne_a2_d36 := (up_none hd36).1; have fb_d36 := (up_none hd36).2; asb_name 7 (txb_one fun _ _ _ _ _ => tx_not (tx_tru (ex_callX (fx_Lright_1 T) Lets.no (fun _ => hgd) (hr.mono (by decide)) T.m_Lright T.d_Lright.choose_spec.kp (ev_a (ax_cons (ex_var 7 rfl (ax_nil (kx_nil (bi hF fun v39 hv39 hF => ⟨rfl, ⟨rfl, rfl, ⟨_, v39, rfl, (tbm_up (tbm_up hTM fb_a2) (nn ne_a2_d36 fb_d36)), hv39, bi hF fun t40 ht40 hF => ⟨_, _, .id, ht40, ⟨fun q41 => have hF := iT q41 hF; fun _ _ _ _ _ => ex_var 7 rfl (⟨(so hF).symm, rfl⟩), fun q41 => ⟨(so (iF q41 hF)).symm, rfl⟩⟩⟩⟩⟩⟩))))))))) (hN := sc_law.nd)) (ex_lst (ax_nil (⟨le_b rfl, bi hF fun t42 ht42 hF => od_cEq hr.units .id .id ht42 (⟨_, (sub_drop sub_refl fb_a2), ret0 (so hF) hk⟩)⟩)))))))))
theorem fx_law_1 {pg : Program} {w : World} {K : PySem.W.Frag} {mg : Str → Option Value} {base : Heap} (T : Txt K mg base) : FnX pg w K mg base true 16 (He.fAd K ("law", none)) ([] : List PySem.Str) (fun ds zs M P R => ds.length = 1 ∧ zs.length = ([] : List PySem.Str).length ∧ tr_law K (pick (ds ++ ([] ++ zs)) [0]) M P R) :=
  fn_kwX T.d_law.choose_spec sc_law (ok_law T) 1 ([] : List PySem.Str) [] [] [0] (by simp) (fun _ => .nil) (fun kV D doc pm an cdv ct us mv ws e h1 h2 h3 => match us, mv, ws, h1, h2, h3 with | [_], [], [], _, _, _ => rfl) (fun us mv ws h1 h2 h3 => match us, mv, ws, h1, h2, h3 with | [_], [], [], _, _, _ => rfl)
theorem law_start {K : PySem.W.Frag} {H : Hp} {a : Addr} {ns : List Int} (hz : Hz (Zk K)) (hl : ns.length ≤ 63) (h1 : tbOne K tl = true) (hS : SqL K H a (ns.map V.int)) (hT : ∀ x ∈ tl, H (ctA K x.1).2 = some (.tbl #[])) : ∃ F M ds, Ok K F M H ∧ Rps K F [.ref a] ds ∧ ∃ ns, ds = [.scr ns] ∧ TbM K tl M ∧ F_law (Zk K) (.scr ns) = some (.bl true) ∧ ∀ M', (fun (d : D) (_ : Mem) => d = .bl true) (.bl true) M' :=
  DX.law_startT (T := fun ds zs M P R => ∃ ns, ds = [.scr ns] ∧ TbM K tl M ∧ F_law (Zk K) (.scr ns) = some (.bl true) ∧ ∀ M', P (.bl true) M') h1 hS hT fun M tm => ⟨ns, rfl, tm, law_true (Zk K) hz ns, fun _ => rfl⟩
theorem txt {K : PySem.W.Frag} {h : Heap} {mg : Str → Option Value} (X : K.In h) (G : h.Ns mainGlobals mg) (c : He.SaysD fa fn K) (xq : exq K = true) (cc : DX.SaysP fa fn pr exq K) : Txt0 K mg :=
  ⟨c.def_ 0 (d := dd_Lpen) rfl,
    He.glo_ok X G (c.fact 0 (f := .glo "_law_pen") rfl),
    c.def_ 1 (d := dd_Ldraw) rfl,
    He.glo_ok X G (c.fact 1 (f := .glo "_law_draw") rfl),
    c.def_ 2 (d := dd_Lline) rfl,
    He.glo_ok X G (c.fact 2 (f := .glo "_law_line") rfl),
    c.def_ 3 (d := dd_Lbent) rfl,
    He.glo_ok X G (c.fact 3 (f := .glo "_law_bent") rfl),
    c.def_ 4 (d := dd_Lis_position) rfl,
    He.glo_ok X G (c.fact 4 (f := .glo "_law_is_position") rfl),
    c.def_ 5 (d := dd_Ldue) rfl,
    He.glo_ok X G (c.fact 5 (f := .glo "_law_due") rfl),
    (cc.pr_ 0 (d := dp_Order_positions) rfl).2,
    c.def_ 6 (d := dd_show_order) rfl,
    He.glo_ok X G (c.fact 6 (f := .glo "show_order") rfl),
    c.def_ 7 (d := dd_Lheard) rfl,
    He.glo_ok X G (c.fact 7 (f := .glo "_law_heard") rfl),
    c.def_ 8 (d := dd_lines_in) rfl,
    He.glo_ok X G (c.fact 8 (f := .glo "lines_in") rfl),
    c.def_ 9 (d := dd_number_in) rfl,
    He.glo_ok X G (c.fact 9 (f := .glo "number_in") rfl),
    c.def_ 10 (d := dd_positions_in) rfl,
    He.glo_ok X G (c.fact 10 (f := .glo "positions_in") rfl),
    c.def_ 11 (d := dd_order_positions) rfl,
    He.glo_ok X G (c.fact 11 (f := .glo "order_positions") rfl),
    c.def_ 12 (d := dd_is_between) rfl,
    He.glo_ok X G (c.fact 12 (f := .glo "is_between") rfl),
    c.def_ 13 (d := dd_first_ones) rfl,
    He.glo_ok X G (c.fact 13 (f := .glo "first_ones") rfl),
    c.def_ 14 (d := dd_Order___init__) rfl,
    c.def_ 15 (d := dd_read_order) rfl,
    He.glo_ok X G (c.fact 14 (f := .glo "read_order") rfl),
    c.def_ 16 (d := dd_Lright) rfl,
    He.glo_ok X G (c.fact 15 (f := .glo "_law_right") rfl),
    c.def_ 17 (d := dd_law) rfl,
    He.glo_ok X G (c.fact 16 (f := .glo "law") rfl),
    c.def_ 18 (d := dd_InvalidText___init__) rfl,
    c.def_ 19 (d := dd_InvalidPosition___init__) rfl,
    He.noat_ok (c.fact 17 (f := .noat "Order" "entries") rfl),
    He.cls_ok (c.fact 18 (f := .cls "Order") rfl),
    (cc.pr_ 0 (d := dp_Order_positions) rfl).1,
    allB_ok ((Bool.and_eq_true_iff.mp (Bool.and_eq_true_iff.mp (Bool.and_eq_true_iff.mp (Bool.and_eq_true_iff.mp (Bool.and_eq_true_iff.mp (Bool.and_eq_true_iff.mp (Bool.and_eq_true_iff.mp (Bool.and_eq_true_iff.mp (Bool.and_eq_true_iff.mp (Bool.and_eq_true_iff.mp (Bool.and_eq_true_iff.mp (Bool.and_eq_true_iff.mp (Bool.and_eq_true_iff.mp (Bool.and_eq_true_iff.mp (Bool.and_eq_true_iff.mp (Bool.and_eq_true_iff.mp (Bool.and_eq_true_iff.mp xq).1).1).1).1).1).1).1).1).1).1).1).1).1).1).1).1).1) fun _ h => of_decide_eq_true h,
    allB_ok ((Bool.and_eq_true_iff.mp (Bool.and_eq_true_iff.mp (Bool.and_eq_true_iff.mp (Bool.and_eq_true_iff.mp (Bool.and_eq_true_iff.mp (Bool.and_eq_true_iff.mp (Bool.and_eq_true_iff.mp (Bool.and_eq_true_iff.mp (Bool.and_eq_true_iff.mp (Bool.and_eq_true_iff.mp (Bool.and_eq_true_iff.mp (Bool.and_eq_true_iff.mp (Bool.and_eq_true_iff.mp (Bool.and_eq_true_iff.mp (Bool.and_eq_true_iff.mp (Bool.and_eq_true_iff.mp (Bool.and_eq_true_iff.mp xq).1).1).1).1).1).1).1).1).1).1).1).1).1).1).1).1).2) fun _ h => excB_ok h,
    allB_ok ((Bool.and_eq_true_iff.mp (Bool.and_eq_true_iff.mp (Bool.and_eq_true_iff.mp (Bool.and_eq_true_iff.mp (Bool.and_eq_true_iff.mp (Bool.and_eq_true_iff.mp (Bool.and_eq_true_iff.mp (Bool.and_eq_true_iff.mp (Bool.and_eq_true_iff.mp (Bool.and_eq_true_iff.mp (Bool.and_eq_true_iff.mp (Bool.and_eq_true_iff.mp (Bool.and_eq_true_iff.mp (Bool.and_eq_true_iff.mp (Bool.and_eq_true_iff.mp (Bool.and_eq_true_iff.mp xq).1).1).1).1).1).1).1).1).1).1).1).1).1).1).1).2) fun _ h => of_decide_eq_true h,
    fun n hn => of_decide_eq_true (List.all_eq_true.mp ((Bool.and_eq_true_iff.mp (Bool.and_eq_true_iff.mp (Bool.and_eq_true_iff.mp (Bool.and_eq_true_iff.mp (Bool.and_eq_true_iff.mp (Bool.and_eq_true_iff.mp (Bool.and_eq_true_iff.mp (Bool.and_eq_true_iff.mp (Bool.and_eq_true_iff.mp (Bool.and_eq_true_iff.mp (Bool.and_eq_true_iff.mp (Bool.and_eq_true_iff.mp (Bool.and_eq_true_iff.mp (Bool.and_eq_true_iff.mp (Bool.and_eq_true_iff.mp xq).1).1).1).1).1).1).1).1).1).1).1).1).1).1).2) n hn),
    allB_ok ((Bool.and_eq_true_iff.mp (Bool.and_eq_true_iff.mp (Bool.and_eq_true_iff.mp (Bool.and_eq_true_iff.mp (Bool.and_eq_true_iff.mp (Bool.and_eq_true_iff.mp (Bool.and_eq_true_iff.mp (Bool.and_eq_true_iff.mp (Bool.and_eq_true_iff.mp (Bool.and_eq_true_iff.mp (Bool.and_eq_true_iff.mp (Bool.and_eq_true_iff.mp (Bool.and_eq_true_iff.mp (Bool.and_eq_true_iff.mp xq).1).1).1).1).1).1).1).1).1).1).1).1).1).2) fun _ h => of_decide_eq_true h,
    fun n hn => of_decide_eq_true (List.all_eq_true.mp ((Bool.and_eq_true_iff.mp (Bool.and_eq_true_iff.mp (Bool.and_eq_true_iff.mp (Bool.and_eq_true_iff.mp (Bool.and_eq_true_iff.mp (Bool.and_eq_true_iff.mp (Bool.and_eq_true_iff.mp (Bool.and_eq_true_iff.mp (Bool.and_eq_true_iff.mp (Bool.and_eq_true_iff.mp (Bool.and_eq_true_iff.mp (Bool.and_eq_true_iff.mp (Bool.and_eq_true_iff.mp xq).1).1).1).1).1).1).1).1).1).1).1).1).2) n hn),
    allB_ok ((Bool.and_eq_true_iff.mp (Bool.and_eq_true_iff.mp (Bool.and_eq_true_iff.mp (Bool.and_eq_true_iff.mp (Bool.and_eq_true_iff.mp (Bool.and_eq_true_iff.mp (Bool.and_eq_true_iff.mp (Bool.and_eq_true_iff.mp (Bool.and_eq_true_iff.mp (Bool.and_eq_true_iff.mp (Bool.and_eq_true_iff.mp (Bool.and_eq_true_iff.mp xq).1).1).1).1).1).1).1).1).1).1).1).2) fun _ h => of_decide_eq_true h,
    fun n hn => of_decide_eq_true (List.all_eq_true.mp ((Bool.and_eq_true_iff.mp (Bool.and_eq_true_iff.mp (Bool.and_eq_true_iff.mp (Bool.and_eq_true_iff.mp (Bool.and_eq_true_iff.mp (Bool.and_eq_true_iff.mp (Bool.and_eq_true_iff.mp (Bool.and_eq_true_iff.mp (Bool.and_eq_true_iff.mp (Bool.and_eq_true_iff.mp (Bool.and_eq_true_iff.mp xq).1).1).1).1).1).1).1).1).1).1).2) n hn),
    He.glo_ok X G (c.fact 19 (f := .glo "InvalidPosition") rfl),
    He.glo_ok X G (c.fact 20 (f := .glo "InvalidText") rfl),
    allB_ok ((Bool.and_eq_true_iff.mp (Bool.and_eq_true_iff.mp (Bool.and_eq_true_iff.mp (Bool.and_eq_true_iff.mp (Bool.and_eq_true_iff.mp (Bool.and_eq_true_iff.mp (Bool.and_eq_true_iff.mp (Bool.and_eq_true_iff.mp (Bool.and_eq_true_iff.mp (Bool.and_eq_true_iff.mp xq).1).1).1).1).1).1).1).1).1).2) fun _ h => ⟨excB_xf (Bool.and_eq_true_iff.mp h).1, He.eqO_ok (Bool.and_eq_true_iff.mp h).2⟩,
    allB_ok ((Bool.and_eq_true_iff.mp (Bool.and_eq_true_iff.mp (Bool.and_eq_true_iff.mp (Bool.and_eq_true_iff.mp (Bool.and_eq_true_iff.mp (Bool.and_eq_true_iff.mp (Bool.and_eq_true_iff.mp (Bool.and_eq_true_iff.mp (Bool.and_eq_true_iff.mp xq).1).1).1).1).1).1).1).1).2) fun _ h => ⟨excB_xf (Bool.and_eq_true_iff.mp h).1, He.eqO_ok (Bool.and_eq_true_iff.mp h).2⟩,
    He.glo_ok X G (c.fact 21 (f := .glo "ProbeError") rfl),
    He.glo_ok X G (c.fact 22 (f := .glo "AbsentError") rfl),
    errB_ok ((Bool.and_eq_true_iff.mp (Bool.and_eq_true_iff.mp (Bool.and_eq_true_iff.mp (Bool.and_eq_true_iff.mp (Bool.and_eq_true_iff.mp (Bool.and_eq_true_iff.mp (Bool.and_eq_true_iff.mp (Bool.and_eq_true_iff.mp xq).1).1).1).1).1).1).1).2),
    He.eqO_ok ((Bool.and_eq_true_iff.mp (Bool.and_eq_true_iff.mp (Bool.and_eq_true_iff.mp (Bool.and_eq_true_iff.mp (Bool.and_eq_true_iff.mp (Bool.and_eq_true_iff.mp (Bool.and_eq_true_iff.mp xq).1).1).1).1).1).1).2),
    He.eqO_ok ((Bool.and_eq_true_iff.mp (Bool.and_eq_true_iff.mp (Bool.and_eq_true_iff.mp (Bool.and_eq_true_iff.mp (Bool.and_eq_true_iff.mp (Bool.and_eq_true_iff.mp xq).1).1).1).1).1).2),
    DX.conB_ok ((Bool.and_eq_true_iff.mp (Bool.and_eq_true_iff.mp (Bool.and_eq_true_iff.mp (Bool.and_eq_true_iff.mp (Bool.and_eq_true_iff.mp xq).1).1).1).1).2) (by decide),
    errB_ok ((Bool.and_eq_true_iff.mp (Bool.and_eq_true_iff.mp (Bool.and_eq_true_iff.mp (Bool.and_eq_true_iff.mp xq).1).1).1).2),
    He.eqO_ok ((Bool.and_eq_true_iff.mp (Bool.and_eq_true_iff.mp (Bool.and_eq_true_iff.mp xq).1).1).2),
    He.mkr_ok (c.fact 23 (f := .mkr "Order") rfl),
    He.glo_ok X G (c.fact 24 (f := .glo "Order") rfl),
    of_decide_eq_true ((Bool.and_eq_true_iff.mp (Bool.and_eq_true_iff.mp xq).1).2),
    He.free_ok X G (c.fact 25 (f := .free "ValueError") rfl),
    He.free_ok X G (c.fact 26 (f := .free "abs") rfl),
    He.free_ok X G (c.fact 27 (f := .free "bool") rfl),
    He.free_ok X G (c.fact 28 (f := .free "enumerate") rfl),
    He.free_ok X G (c.fact 29 (f := .free "int") rfl),
    He.free_ok X G (c.fact 30 (f := .free "isinstance") rfl),
    He.free_ok X G (c.fact 31 (f := .free "len") rfl),
    He.free_ok X G (c.fact 32 (f := .free "list") rfl),
    He.free_ok X G (c.fact 33 (f := .free "range") rfl),
    He.free_ok X G (c.fact 34 (f := .free "repr") rfl),
    He.free_ok X G (c.fact 35 (f := .free "str") rfl),
    He.free_ok X G (c.fact 36 (f := .free "tuple") rfl),
    He.str_ok X G (c.fact 37 (f := .str "DIGITS" "0123456789") rfl),
    He.str_ok X G (c.fact 38 (f := .str "EMPTY" "-") rfl),
    He.int_ok X G (c.fact 39 (f := .int "MOST_BITS" 24) rfl),
    He.int_ok X G (c.fact 40 (f := .int "MOST_DIGITS" 3) rfl),
    He.str_ok X G (c.fact 41 (f := .str "NO_POSITIONS" "-") rfl),
    (Bool.and_eq_true_iff.mp xq).2⟩
end My
open PySem PySem.W PySem.Calls PyProof.Rows
set_option maxRecDepth 100000 in
set_option maxHeartbeats 0 in
theorem PySem.Challenge.cw_carryprobe_k92_texts_of_orders_refused_holds : PySem.Challenge.rw_carryprobe_k92_texts_of_orders_refused.Holds := by
  w_on; o_law
  refine HandSHeadRun.head_any (r := OpenLaw.row PySem.Challenge.rw_carryprobe_k92_texts_of_orders_refused) (q := view (OpenLaw.row PySem.Challenge.rw_carryprobe_k92_texts_of_orders_refused).prog [39]) (H := My.hk) (ob := My.ob) (M := 12000) (loose := My.loose) (d := HandSHeadRun.topDef (OpenLaw.row PySem.Challenge.rw_carryprobe_k92_texts_of_orders_refused).prog 39) (kwd := []) My.ob_eq
    (by kernel_rfl) (fun s => by kernel_rfl) My.run (by kernel_rfl) (by kernel_rfl) (by kernel_rfl) (by rfl) (by first | assumption | decide +kernel) (by decide +kernel) ⟨rfl, rfl, rfl, rfl, rfl, by decide +kernel⟩ ?hw ?hc
  case hw => w_witness2
  case hc =>
    refine DX.walk_ofT (tn := My.tl.map (·.1)) (l := PySem.Challenge.rw_carryprobe_k92_texts_of_orders_refused) (k := 16) rfl (by kernel_rfl) ⟨rfl, by decide, by decide⟩ ?G
    intro w mg fa h Y G hmg0
    obtain ⟨K, KX, cc, TK, h1⟩ := Y
    have hmg : mg ("law" : PySem.Str) = some (.ref fa) := by
      have e : (HandSHeadRun.topDef (OpenLaw.row PySem.Challenge.rw_carryprobe_k92_texts_of_orders_refused).prog 39).name = ("law" : PySem.Str) := by kernel_rfl
      rw [← e]
      exact hmg0
    have T := My.txt KX G cc.says cc.exx cc
    have e := hmg.symm.trans T.m_law
    cases e
    exact ⟨K, _, KX, TK, fun H a ns hl hS hP => (by
      obtain ⟨F, M, ds, o, rd, ns, e, tm, q, k⟩ := My.law_start T.hz hl h1 hS fun x hx => hP _ (List.mem_map_of_mem hx)
      subst e
      exact ⟨F, M, _, o, rd, rfl, rfl, ns, rfl, tm, q, fun _ => rfl⟩), fun base _ _ hTB => My.fx_law_1 ⟨T, fun x hx => hTB _ (List.mem_map_of_mem hx)⟩⟩
