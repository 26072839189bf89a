import PyProof.Rows.All
import Wide.All
import OpenK.AllK
import Wide.FinOn
import HandS.ForMost
import HandS.Walk
import HandS.Flow
import HandS.Defaults
import HandS.Lambda
import HandS.TupAny
import HandS.TupMul
import HandS.Zip
import HandS.Deep
import PyProof.ReprRoads
import PyProof.ReprLen
import HandS.WideBits
import HandS.IsInst
import HandS.Iter
import HandS.Style
import HandS.Conv
import HandS.Text
import HandS.Codes
import HandS.List
import HandS.HeadHook1
import HandS.HeadHook2
import HandS.Dict
import HandS.Star
import HandS.Replace
import HandS.StrMore
import KE.KDictPairs
import PyProof.ListStr
import PyProof.StrBlock2
import PyProof.Rows.StrMul
import PyProof.Rows.StrCase
import HandS.Property
import KE.KIndexOf
import KE.GoesEnum
import PyProof.TupleOfStr
import HandS.TupLe
import KE.KRevSl
import HandS.FStr
import PyProof.NeKinds
import KE.GoesZip
import HandS.SetFor
import KE.KStateDown
import Lean
import HandS.Exc
import HandS.Head0
import HandS.Head1
import HandS.Head2
import HandS.HeadEnd
import PySem.Challenge.RW_carryprobe_k32_enough_checked
set_option Elab.async false
set_option linter.all false
set_option maxRecDepth 100000
set_option autoImplicit false
set_option maxHeartbeats 4000000
namespace DX
open PySem PySem.Spec L2

/-! ### data -/
inductive D where
  | non | bl (b : Bool) | int (i : Int) | str (x : Str) | adr (a : Addr) | ty (n : String)
  | tup (ds : List D) | lst (ds : List D) | scr (ns : List Int)
  | ins (C : Addr) (fs : List (Str × D))
  | dct (kvs : List (Key × D))
  | stup (ds : List D)
  | exn (C : Addr) (fs : List (Str × D))
  | tbl (q : Str)

/-- at a: an error of the class at C that was caught, its dict at d -/
def exH (a C : Addr) (d : Option Addr) : HO := .ext fun h => ∃ (oe : Obj) (vs : Array Value), h.get? a = some oe ∧ oe.cls = .ref C ∧ oe.dict = d ∧ oe.data = .fields vs

mutual
inductive Rp (K : PySem.W.Frag) (F : Hp) : V → D → Prop
  | non : Rp K F .non .non
  | bl (b : Bool) : Rp K F (.bl b) (.bl b)
  | int (i : Int) : Rp K F (.int i) (.int i)
  | str (x : Str) : Rp K F (.str x) (.str x)
  | adr (a : Addr) : Rp K F (.ref a) (.adr a)
  | ty (n : String) : Rp K F (.ty n) (.ty n)
  | tup {a : Addr} {xs : List V} {ds : List D} : SqT K F a xs → Rps K F xs ds → Rp K F (.ref a) (.tup ds)
  | lst {a : Addr} {xs : List V} {ds : List D} : F a = some (.lst xs) → Rps K F xs ds → Rp K F (.ref a) (.lst ds)
  | scr {a : Addr} {ns : List Int} : SqL K F a (ns.map V.int) → Rp K F (.ref a) (.scr ns)
  | ins {a C dx : Addr} {fs : List (Str × V)} {gs : List (Str × D)} : F a = some (.ins C dx fs) → Rfs K F fs gs → Rp K F (.ref a) (.ins C gs)
  | dct {a : Addr} {kvs : List (Key × V)} {ds : List (Key × D)} : F a = some (.dK kvs) → Rks K F kvs ds → Rp K F (.ref a) (.dct ds)
  | stup {a : Addr} {o : Obj} {xs : List V} {ds : List D} : F a = some (.frz o (.tup xs)) → (o.cls = .type "tuple" ∧ o.dict = none) → Rps K F xs ds → Rp K F (.ref a) (.stup ds)
  | exn {a C : Addr} {d : Option Addr} {fs : List (Str × V)} {gs : List (Str × D)} : F a = some (exH a C d) → ((d = none ∧ fs = []) ∨ ∃ dd, d = some dd ∧ F dd = some (.xd fs)) → Rfs K F fs gs → Rp K F (.ref a) (.exn C gs)
inductive Rps (K : PySem.W.Frag) (F : Hp) : List V → List D → Prop
  | nil : Rps K F [] []
  | cons {v : V} {d : D} {vs : List V} {ds : List D} : Rp K F v d → Rps K F vs ds → Rps K F (v :: vs) (d :: ds)
inductive Rfs (K : PySem.W.Frag) (F : Hp) : List (Str × V) → List (Str × D) → Prop
  | nil : Rfs K F [] []
  | cons {x : Str} {v : V} {d : D} {vs : List (Str × V)} {ds : List (Str × D)} : Rp K F v d → Rfs K F vs ds → Rfs K F ((x, v) :: vs) ((x, d) :: ds)
inductive Rks (K : PySem.W.Frag) (F : Hp) : List (Key × V) → List (Key × D) → Prop
  | nil : Rks K F [] []
  | cons {x : Key} {v : V} {d : D} {vs : List (Key × V)} {ds : List (Key × D)} : Rp K F v d → Rks K F vs ds → Rks K F ((x, v) :: vs) ((x, d) :: ds)
end

section
variable {K : PySem.W.Frag} {F F' H H' : Hp}
theorem same_rd {a : Addr} {u : HO} (e : Same H H') (h : Rd H a u) : Rd H' a u := by
  rcases h with h | ⟨o, h⟩
  · exact .inl (e _ _ h)
  · exact .inr ⟨o, e _ _ h⟩
theorem same_l {a : Addr} {xs : List V} (e : Same H H') (h : SqL K H a xs) : SqL K H' a xs := by
  rcases h with h | h
  · exact .inl (same_rd e h)
  · exact .inr h
theorem same_t {a : Addr} {xs : List V} (e : Same H H') (h : SqT K H a xs) : SqT K H' a xs := by
  rcases h with h | h
  · exact .inl (same_rd e h)
  · exact .inr h
mutual
theorem Rp.mono (e : Same F F') : ∀ {v : V} {d : D}, Rp K F v d → Rp K F' v d
  | _, _, .non => .non
  | _, _, .bl b => .bl b
  | _, _, .int i => .int i
  | _, _, .str x => .str x
  | _, _, .adr a => .adr a
  | _, _, .ty n => .ty n
  | _, _, .tup h r => .tup (same_t e h) (Rps.mono e r)
  | _, _, .lst h r => .lst (e _ _ h) (Rps.mono e r)
  | _, _, .scr h => .scr (same_l e h)
  | _, _, .ins h r => .ins (e _ _ h) (Rfs.mono e r)
  | _, _, .dct h r => .dct (e _ _ h) (Rks.mono e r)
  | _, _, .stup h c r => .stup (e _ _ h) c (Rps.mono e r)
  | _, _, .exn h c r => .exn (e _ _ h) (c.imp id fun ⟨dd, h1, h2⟩ => ⟨dd, h1, e _ _ h2⟩) (Rfs.mono e r)
theorem Rps.mono (e : Same F F') : ∀ {v : List V} {d : List D}, Rps K F v d → Rps K F' v d
  | _, _, .nil => .nil
  | _, _, .cons h r => .cons (Rp.mono e h) (Rps.mono e r)
theorem Rfs.mono (e : Same F F') : ∀ {v : List (Str × V)} {d : List (Str × D)}, Rfs K F v d → Rfs K F' v d
  | _, _, .nil => .nil
  | _, _, .cons h r => .cons (Rp.mono e h) (Rfs.mono e r)
theorem Rks.mono (e : Same F F') : ∀ {v : List (Key × V)} {d : List (Key × D)}, Rks K F v d → Rks K F' v d
  | _, _, .nil => .nil
  | _, _, .cons h r => .cons (Rp.mono e h) (Rks.mono e r)
end
theorem Rps.length : ∀ {v : List V} {d : List D}, Rps K F v d → v.length = d.length
  | _, _, .nil => rfl
  | _, _, .cons _ r => congrArg Nat.succ (Rps.length r)
theorem Rps.append : ∀ {v w : List V} {d e : List D}, Rps K F v d → Rps K F w e → Rps K F (v ++ w) (d ++ e)
  | _, _, _, _, .nil, s => s
  | _, _, _, _, .cons h r, s => .cons h (Rps.append r s)
theorem Rps.get : ∀ {v : List V} {d : List D} {i : Nat} {x : D}, Rps K F v d → d[i]? = some x → ∃ y, v[i]? = some y ∧ Rp K F y x
  | _, _, i, _, .nil, e => by simp at e
  | _, _, 0, _, .cons h _, e => by simp at e; subst e; exact ⟨_, rfl, h⟩
  | _, _, i + 1, x, .cons _ r, e => by
    obtain ⟨y, h1, h2⟩ := Rps.get (i := i) (x := x) r (by simpa using e)
    exact ⟨y, by simpa using h1, h2⟩
theorem Rps.getV : ∀ {v : List V} {d : List D} {i : Nat} {y : V}, Rps K F v d → v[i]? = some y → ∃ x, d[i]? = some x ∧ Rp K F y x
  | _, _, i, _, .nil, e => by simp at e
  | _, _, 0, _, .cons h _, e => by simp at e; subst e; exact ⟨_, rfl, h⟩
  | _, _, i + 1, x, .cons _ r, e => by
    obtain ⟨y, h1, h2⟩ := Rps.getV (i := i) (y := x) r (by simpa using e)
    exact ⟨y, by simpa using h1, h2⟩
theorem Rps.set : ∀ {v : List V} {d : List D} {y : V} {x : D} (i : Nat), Rps K F v d → Rp K F y x → Rps K F (v.set i y) (d.set i x)
  | _, _, _, _, _, .nil, _ => .nil
  | _, _, _, _, 0, .cons _ r, h => .cons h r
  | _, _, _, _, i + 1, .cons h' r, h => .cons h' (Rps.set i r h)
theorem Rps.drop : ∀ {v : List V} {d : List D} (i : Nat), Rps K F v d → Rps K F (v.drop i) (d.drop i)
  | _, _, 0, r => r
  | _, _, _ + 1, .nil => .nil
  | _, _, i + 1, .cons _ r => Rps.drop i r
theorem Rps.take : ∀ {v : List V} {d : List D} (i : Nat), Rps K F v d → Rps K F (v.take i) (d.take i)
  | _, _, 0, _ => .nil
  | _, _, _ + 1, .nil => .nil
  | _, _, i + 1, .cons h r => .cons h (Rps.take i r)
theorem Rps.rep {v : List V} {d : List D} (r : Rps K F v d) : ∀ n : Nat, Rps K F (List.replicate n v).flatten (List.replicate n d).flatten
  | 0 => .nil
  | n + 1 => by
    rw [List.replicate_succ, List.replicate_succ, List.flatten_cons, List.flatten_cons]
    exact r.append (Rps.rep r n)
theorem Rps.reverse : ∀ {v : List V} {d : List D}, Rps K F v d → Rps K F v.reverse d.reverse
  | _, _, .nil => .nil
  | _, _, .cons h r => by
    rw [List.reverse_cons, List.reverse_cons]
    exact (Rps.reverse r).append (.cons h .nil)
theorem Rps.ints : ∀ {v : List V} {ns : List Int}, Rps K F v (ns.map D.int) → v = ns.map V.int
  | v, [], h => by cases h; rfl
  | v, n :: ns, h => by
    cases h with
    | cons a r =>
      cases a
      rw [Rps.ints r]; rfl
theorem Rps.ofInts : ∀ {ns : List Int}, Rps K F (ns.map V.int) (ns.map D.int)
  | [] => .nil
  | n :: ns => .cons (.int n) Rps.ofInts
theorem Rps.strs : ∀ {v : List V} {ns : List Str}, Rps K F v (ns.map D.str) → v = ns.map V.str
  | v, [], h => by cases h; rfl
  | v, n :: ns, h => by
    cases h with
    | cons a r =>
      cases a
      rw [Rps.strs r]; rfl
theorem Rps.ofStrs : ∀ {ns : List Str}, Rps K F (ns.map V.str) (ns.map D.str)
  | [] => .nil
  | n :: ns => .cons (.str n) Rps.ofStrs
theorem Rps.bls : ∀ {v : List V} {ns : List Bool}, Rps K F v (ns.map D.bl) → v = ns.map V.bl
  | v, [], h => by cases h; rfl
  | v, n :: ns, h => by
    cases h with
    | cons a r =>
      cases a
      rw [Rps.bls r]; rfl
end

/-! ### the names' data -/
abbrev DEnv := List (Option D)
def look : DEnv → Nat → Option D
  | [], _ => none
  | d :: _, 0 => d
  | _ :: r, n + 1 => look r n
def put : DEnv → Nat → D → DEnv
  | [], _, _ => []
  | _ :: r, 0, d => some d :: r
  | x :: r, n + 1, d => x :: put r n d
/-- a slot forgotten -/
def cut : DEnv → Nat → DEnv
  | [], _ => []
  | _ :: r, 0 => none :: r
  | x :: r, n + 1 => x :: cut r n
def cuts (ρ : DEnv) : List Nat → DEnv
  | [] => ρ
  | v :: vs => cut (cuts ρ vs) v
inductive En (K : PySem.W.Frag) (F : Hp) : St → DEnv → Prop
  | nil : En K F [] []
  | cons {v : Option V} {d : Option D} {σ : St} {ρ : DEnv} : (∀ x, d = some x → ∃ y, v = some y ∧ Rp K F y x) → En K F σ ρ → En K F (v :: σ) (d :: ρ)
section
variable {K : PySem.W.Frag} {F F' H H' : Hp}
theorem En.mono (e : Same F F') : ∀ {σ : St} {ρ : DEnv}, En K F σ ρ → En K F' σ ρ
  | _, _, .nil => .nil
  | _, _, .cons h r => .cons (fun x q => let ⟨y, a, b⟩ := h x q; ⟨y, a, b.mono e⟩) (En.mono e r)
theorem En.look : ∀ {σ : St} {ρ : DEnv} {i : Nat} {d : D}, En K F σ ρ → DX.look ρ i = some d → ∃ y, σ[i]? = some (some y) ∧ Rp K F y d
  | _, _, i, _, .nil, e => by simp [DX.look] at e
  | _, _, 0, d, .cons h r, e => by
    obtain ⟨y, a, b⟩ := h d e
    exact ⟨y, by rw [a]; rfl, b⟩
  | _, _, i + 1, d, .cons h r, e => by
    obtain ⟨y, a, b⟩ := En.look (i := i) r e
    exact ⟨y, by simpa using a, b⟩
theorem En.put : ∀ {σ : St} {ρ : DEnv} {y : V} {d : D} (i : Nat), En K F σ ρ → Rp K F y d → En K F (σ.set i (some y)) (DX.put ρ i d)
  | _, _, _, _, _, .nil, _ => .nil
  | _, _, y, d, 0, .cons _ r, h => .cons (fun x q => ⟨y, rfl, by cases q; exact h⟩) r
  | _, _, _, _, i + 1, .cons h' r, h => .cons h' (En.put i r h)
theorem En.cut : ∀ {σ : St} {ρ : DEnv} (i : Nat), En K F σ ρ → En K F (σ.set i none) (DX.cut ρ i)
  | _, _, _, .nil => .nil
  | _, _, 0, .cons _ r => .cons (fun x q => by cases q) r
  | _, _, i + 1, .cons h' r => .cons h' (En.cut i r)
theorem En.cuts {σ : St} {ρ : DEnv} (h : En K F σ ρ) : ∀ vs : List Nat, En K F (wipe σ vs) (DX.cuts ρ vs)
  | [] => h
  | v :: vs => En.cut v (En.cuts h vs)
def startD (n : Nat) (ds : List D) : DEnv := ds.map some ++ List.replicate n none
theorem En.rep : ∀ n : Nat, En K F (List.replicate n none) (List.replicate n none)
  | 0 => .nil
  | n + 1 => .cons (fun x q => by cases q) (En.rep n)
theorem En.start : ∀ {vs : List V} {ds : List D} (n : Nat), Rps K F vs ds → En K F (vs.map some ++ List.replicate n none) (startD n ds)
  | _, _, n, .nil => En.rep n
  | _, _, n, .cons h r => .cons (fun x q => ⟨_, rfl, by cases q; exact h⟩) (En.start n r)
end

/-! ### what may change -/
abbrev Mem := Addr → Option D
def up (M : Mem) (a : Addr) (d : D) : Mem := fun b => if b = a then some d else M b
def rm (M : Mem) (a : Addr) : Mem := fun b => if b = a then none else M b
theorem up_same {M : Mem} {a : Addr} {d : D} : up M a d a = some d := if_pos rfl
theorem up_ne {M : Mem} {a b : Addr} {d : D} (h : b ≠ a) : up M a d b = M b := if_neg h
theorem up_up {M : Mem} {a : Addr} {d e : D} : up (up M a d) a e = up M a e := by
  funext b; unfold up; split <;> rfl
theorem up_comm {M : Mem} {a b : Addr} {d e : D} (h : a ≠ b) : up (up M a d) b e = up (up M b e) a d := by
  funext c; unfold up
  by_cases h1 : c = a
  · subst h1
    rw [if_neg h]; simp
  · simp [h1]
theorem rm_up {M : Mem} {a : Addr} {d : D} (h : M a = none) : rm (up M a d) a = M := by
  funext c; unfold rm up
  by_cases h1 : c = a
  · subst h1; rw [if_pos rfl, h]
  · rw [if_neg h1, if_neg h1]
theorem up_self {M : Mem} {a : Addr} {d : D} (h : M a = some d) : up M a d = M := by
  funext c; unfold up
  by_cases h1 : c = a
  · subst h1; rw [if_pos rfl, h]
  · rw [if_neg h1]
def Mt (K : PySem.W.Frag) (F H : Hp) (a : Addr) : D → Prop
  | .lst ds => ∃ xs, H a = some (.lst xs) ∧ Rps K F xs ds
  | .ins C gs => ∃ dx fs, H a = some (.ins C dx fs) ∧ Rfs K F fs gs
  | .dct ds => ∃ kvs, H a = some (.dK kvs) ∧ Rks K F kvs ds
  | .tbl q => ∃ ps : Array Value, H a = some (.tbl ps) ∧ TriplesOk ps.toList ∧ ∀ (pos : Pos) (cv : Value), codeAmong pos ps.toList = some cv → ∃ c, cv = .ref c ∧ F c = some (LamX.CodeO c q)
  | _ => False
structure Ok (K : PySem.W.Frag) (F : Hp) (M : Mem) (H : Hp) : Prop where
  ex : Same F H
  mt : ∀ a d, M a = some d → F a = none ∧ Mt K F H a d
section
variable {K : PySem.W.Frag} {F F' H H' : Hp} {M : Mem}
theorem Mt.there {a : Addr} {d : D} (m : Mt K F H a d) : ∃ o, H a = some o := by
  cases d <;> first
    | exact m.elim
    | (obtain ⟨_, h, _⟩ := m; exact ⟨_, h⟩)
    | (obtain ⟨_, _, h, _⟩ := m; exact ⟨_, h⟩)
theorem Mt.mono {a : Addr} {d : D} (e : Same F F') (h : H' a = H a) (m : Mt K F H a d) : Mt K F' H' a d := by
  cases d <;> first
    | exact m.elim
    | (obtain ⟨xs, p, r⟩ := m; exact ⟨xs, by rw [h]; exact p, r.mono e⟩)
    | (obtain ⟨dx, fs, p, r⟩ := m; exact ⟨dx, fs, by rw [h]; exact p, r.mono e⟩)
    | (obtain ⟨ps, p, t, r⟩ := m; exact ⟨ps, by rw [h]; exact p, t, fun pos cv z => let ⟨c, h1, h2⟩ := r pos cv z; ⟨c, h1, e _ _ h2⟩⟩)
theorem same_new {a : Addr} {o : HO} (h : H a = none) : Same H (upd H a o) := fun b u e => by
  rw [upd_ne (ne_of_none e h)]
  exact e
theorem Ok.nn (k : Ok K F M H) {a : Addr} (h : H a = none) : F a = none ∧ M a = none := by
  refine ⟨k.ex.free h, ?_⟩
  cases q : M a with
  | none => rfl
  | some d =>
    obtain ⟨o, e⟩ := (k.mt a d q).2.there
    rw [h] at e; cases e
/-- a new object that is never to change -/
theorem Ok.fix (k : Ok K F M H) {a : Addr} {o : HO} (h : H a = none) : Ok K (upd F a o) M (upd H a o) := by
  obtain ⟨h1, h2⟩ := k.nn h
  refine ⟨fun b u e => ?_, fun b d e => ?_⟩
  · by_cases hb : b = a
    · subst hb; rw [upd_same] at e ⊢; exact e
    · rw [upd_ne hb] at e ⊢; exact k.ex b u e
  · have hb : b ≠ a := fun z => by subst z; rw [h2] at e; cases e
    obtain ⟨m1, m2⟩ := k.mt b d e
    exact ⟨by rw [upd_ne hb]; exact m1, m2.mono (same_new h1) (upd_ne hb)⟩
theorem Ok.fixSame (k : Ok K F M H) {a : Addr} {o : HO} (h : H a = Option.none) : Same F (upd F a o) := same_new (k.nn h).1
/-- a new object that may change -/
theorem Ok.lay (k : Ok K F M H) {a : Addr} {o : HO} {d : D} (h : H a = Option.none) (m : Mt K F (upd H a o) a d) : Ok K F (up M a d) (upd H a o) := by
  obtain ⟨h1, h2⟩ := k.nn h
  refine ⟨fun b u e => ?_, fun b d' e => ?_⟩
  · rw [upd_ne (ne_of_none e h1)]
    exact k.ex b u e
  · by_cases hb : b = a
    · subst hb
      rw [up_same] at e; cases e
      exact ⟨h1, m⟩
    · rw [up_ne hb] at e
      obtain ⟨m1, m2⟩ := k.mt b d' e
      exact ⟨m1, m2.mono (Same.refl F) (upd_ne hb)⟩
/-- it changes -/
theorem Ok.set (k : Ok K F M H) {a : Addr} {o : HO} {d d' : D} (h : M a = some d) (m : Mt K F (upd H a o) a d') : Ok K F (up M a d') (upd H a o) := by
  have h1 := (k.mt a d h).1
  refine ⟨fun b u e => ?_, fun b d' e => ?_⟩
  · rw [upd_ne (ne_of_none e h1)]
    exact k.ex b u e
  · by_cases hb : b = a
    · subst hb
      rw [up_same] at e; cases e
      exact ⟨h1, m⟩
    · rw [up_ne hb] at e
      obtain ⟨m1, m2⟩ := k.mt b d' e
      exact ⟨m1, m2.mono (Same.refl F) (upd_ne hb)⟩
/-- it is not to change any more -/
theorem Ok.freeze (k : Ok K F M H) {a : Addr} {o : HO} {d : D} (h : M a = some d) (ho : H a = some o) : Same F (upd F a o) ∧ Ok K (upd F a o) (rm M a) H := by
  have h1 := (k.mt a d h).1
  refine ⟨same_new h1, fun b u e => ?_, fun b d' e => ?_⟩
  · by_cases hb : b = a
    · subst hb; rw [upd_same] at e; cases e; exact ho
    · rw [upd_ne hb] at e; exact k.ex b u e
  · unfold rm at e
    by_cases hb : b = a
    · rw [if_pos hb] at e; cases e
    · rw [if_neg hb] at e
      obtain ⟨m1, m2⟩ := k.mt b d' e
      exact ⟨by rw [upd_ne hb]; exact m1, m2.mono (same_new h1) rfl⟩
end

/-! ### judgements over data -/
/-- what stays known, whatever is added -/
structure Gh where
  p : Hp → Prop
  mono : ∀ F F', Same F F' → p F → p F'
def Gh.triv : Gh := ⟨fun _ => True, fun _ _ _ h => h⟩
structure Sts (K : PySem.W.Frag) (J : Gh) (F : Hp) (σ : St) (H : Hp) (ρ : DEnv) (M : Mem) : Prop where
  en : En K F σ ρ
  ok : Ok K F M H
  gh : J.p F
def Kt (K : PySem.W.Frag) (F : Hp) (P : D → Mem → Prop) (Q : VK) : Prop := ∀ d v M' F' H', P d M' → Same F F' → Ok K F' M' H' → Rp K F' v d → Q v H'
def Kb (K : PySem.W.Frag) (F : Hp) (P : Bool → Mem → Prop) (Q : Bool → Hp → Prop) : Prop := ∀ b M' F' H', P b M' → Same F F' → Ok K F' M' H' → Q b H'
def Ka (K : PySem.W.Frag) (F : Hp) (P : List D → Mem → Prop) (Q : List V → Hp → Prop) : Prop := ∀ ds vs M' F' H', P ds M' → Same F F' → Ok K F' M' H' → Rps K F' vs ds → Q vs H'
def tD (K : PySem.W.Frag) (J : Gh) (ρ : DEnv) (M : Mem) (P : D → Mem → Prop) : TE := fun σ H Q => ∃ F, Sts K J F σ H ρ M ∧ Kt K F P Q
def tT (K : PySem.W.Frag) (J : Gh) (ρ : DEnv) (M : Mem) (P : Bool → Mem → Prop) : TT := fun σ H Q => ∃ F, Sts K J F σ H ρ M ∧ Kb K F P Q
def tA (K : PySem.W.Frag) (J : Gh) (ρ : DEnv) (M : Mem) (P : List D → Mem → Prop) : TA := fun σ H Q => ∃ F, Sts K J F σ H ρ M ∧ Ka K F P Q
def EX (X : Cx) (J : Gh) (e : Expr) (ρ : DEnv) (M : Mem) (P : D → Mem → Prop) : Prop := PE X e (tD X.K J ρ M P)
def TX (X : Cx) (J : Gh) (e : Expr) (ρ : DEnv) (M : Mem) (P : Bool → Mem → Prop) : Prop := PT X e (tT X.K J ρ M P)
def WX (X : Cx) (J : Gh) (e : Expr) (ρ : DEnv) (M : Mem) (P : Bool → Mem → Prop) : Prop := PW X e (tT X.K J ρ M P)
def AX (X : Cx) (J : Gh) (es : List Expr) (ρ : DEnv) (M : Mem) (P : List D → Mem → Prop) : Prop := PA X es (tA X.K J ρ M P)
/-- the reading that any derivation may fill -/
def tE (X : Cx) (e : Expr) : TE := fun σ H Q => ∃ t, PE X e t ∧ t σ H Q
def tTe (X : Cx) (e : Expr) : TT := fun σ H Q => ∃ t, PT X e t ∧ t σ H Q
def tWe (X : Cx) (e : Expr) : TT := fun σ H Q => ∃ t, PW X e t ∧ t σ H Q
def tAe (X : Cx) (es : List Expr) : TA := fun σ H Q => ∃ t, PA X es t ∧ t σ H Q
section
variable {X : Cx} {J : Gh} {e : Expr} {es : List Expr} {ρ : DEnv} {M M' : Mem} {F F' H H' : Hp} {σ : St} {P : D → Mem → Prop} {K : PySem.W.Frag}
theorem pe_any : PE X e (tE X e) := ⟨fun pins s σ H Q I ⟨t, h, q⟩ => h.run pins s σ H Q I q⟩
theorem pt_any : PT X e (tTe X e) := ⟨fun pins s σ H Q I ⟨t, h, q⟩ => h.run pins s σ H Q I q⟩
theorem pw_any : PW X e (tWe X e) := ⟨fun wh pins s σ H Q I ⟨t, h, q⟩ => h.run wh pins s σ H Q I q⟩
theorem pa_any : PA X es (tAe X es) := ⟨fun pos pins s σ H Q I ⟨t, h, q⟩ => h.run pos pins s σ H Q I q⟩
theorem Sts.to (s : Sts K J F σ H ρ M) (e : Same F F') (o : Ok K F' M' H') : Sts K J F' σ H' ρ M' := ⟨s.en.mono e, o, J.mono _ _ e s.gh⟩
theorem Kt.to {Q : VK} (k : Kt K F P Q) (e : Same F F') : Kt K F' P Q := fun d v M' F2 H' p e2 => k d v M' F2 H' p (e.trans e2)
theorem Kb.to {P : Bool → Mem → Prop} {Q : Bool → Hp → Prop} (k : Kb K F P Q) (e : Same F F') : Kb K F' P Q := fun b M' F2 H' p e2 => k b M' F2 H' p (e.trans e2)
theorem Ka.to {P : List D → Mem → Prop} {Q : List V → Hp → Prop} (k : Ka K F P Q) (e : Same F F') : Ka K F' P Q := fun b vs M' F2 H' p e2 => k b vs M' F2 H' p (e.trans e2)
theorem EX.go (h : EX X J e ρ M P) (s : Sts X.K J F σ H ρ M) {Q : VK} (k : Kt X.K F P Q) : tE X e σ H Q := ⟨_, h, F, s, k⟩
theorem TX.go {P : Bool → Mem → Prop} (h : TX X J e ρ M P) (s : Sts X.K J F σ H ρ M) {Q : Bool → Hp → Prop} (k : Kb X.K F P Q) : tTe X e σ H Q := ⟨_, h, F, s, k⟩
theorem WX.go {P : Bool → Mem → Prop} (h : WX X J e ρ M P) (s : Sts X.K J F σ H ρ M) {Q : Bool → Hp → Prop} (k : Kb X.K F P Q) : tWe X e σ H Q := ⟨_, h, F, s, k⟩
theorem AX.go {P : List D → Mem → Prop} (h : AX X J es ρ M P) (s : Sts X.K J F σ H ρ M) {Q : List V → Hp → Prop} (k : Ka X.K F P Q) : tAe X es σ H Q := ⟨_, h, F, s, k⟩
theorem ex_of {t : TE} (h : PE X e t) (k : ∀ F σ H Q, Sts X.K J F σ H ρ M → Kt X.K F P Q → t σ H Q) : EX X J e ρ M P := ⟨fun pins s σ H Q I ⟨F, st, q⟩ => h.run pins s σ H Q I (k F σ H Q st q)⟩
theorem tx_of {t : TT} {P : Bool → Mem → Prop} (h : PT X e t) (k : ∀ F σ H Q, Sts X.K J F σ H ρ M → Kb X.K F P Q → t σ H Q) : TX X J e ρ M P := ⟨fun pins s σ H Q I ⟨F, st, q⟩ => h.run pins s σ H Q I (k F σ H Q st q)⟩
theorem wx_of {t : TT} {P : Bool → Mem → Prop} (h : PW X e t) (k : ∀ F σ H Q, Sts X.K J F σ H ρ M → Kb X.K F P Q → t σ H Q) : WX X J e ρ M P := ⟨fun wh pins s σ H Q I ⟨F, st, q⟩ => h.run wh pins s σ H Q I (k F σ H Q st q)⟩
theorem ax_of {t : TA} {P : List D → Mem → Prop} (h : PA X es t) (k : ∀ F σ H Q, Sts X.K J F σ H ρ M → Ka X.K F P Q → t σ H Q) : AX X J es ρ M P := ⟨fun pos pins s σ H Q I ⟨F, st, q⟩ => h.run pos pins s σ H Q I (k F σ H Q st q)⟩
theorem EX.imp {P' : D → Mem → Prop} (h : EX X J e ρ M P) (k : ∀ d M', P d M' → P' d M') : EX X J e ρ M P' := ex_of h fun F σ H Q st q => ⟨F, st, fun d v M' F' H' p => q d v M' F' H' (k d M' p)⟩
theorem TX.imp {P P' : Bool → Mem → Prop} (h : TX X J e ρ M P) (k : ∀ d M', P d M' → P' d M') : TX X J e ρ M P' := tx_of h fun F σ H Q st q => ⟨F, st, fun d M' F' H' p => q d M' F' H' (k d M' p)⟩
/-- the value as it is, nothing changed -/
theorem Kt.here {Q : VK} {d : D} {v : V} (k : Kt K F P Q) (p : P d M) (o : Ok K F M H) (r : Rp K F v d) : Q v H := k d v M F H p (Same.refl F) o r
theorem Kb.here {P : Bool → Mem → Prop} {Q : Bool → Hp → Prop} {b : Bool} (k : Kb K F P Q) (p : P b M) (o : Ok K F M H) : Q b H := k b M F H p (Same.refl F) o
end
end DX
namespace DX
open PySem PySem.Spec L2

section
variable {X : Cx} {J : Gh} {e a b c : Expr} {es : List Expr} {ρ : DEnv} {M M' : Mem} {F F' H H' : Hp} {σ : St} {P : D → Mem → Prop} {PB : Bool → Mem → Prop} {PA' : List D → Mem → Prop} {K : PySem.W.Frag} {pos : Pos} {x : Str}

/-! ### names, constants -/
theorem ex_var {d : D} (i : Nat) (h : look ρ i = some d) (p : P d M) (hN : X.N[i]? = some x := by rfl) (hv : Vis X.env.scope x := by first | exact Or.inl rfl | exact Or.inr (Or.inl rfl) | exact Or.inr (Or.inr rfl)) (hd : (x == ("__debug__" : Str)) = false := by decide)
    (hcd : (x == ("__classdict__" : Str)) = false := by decide) : EX X J (.Name x pos) ρ M P :=
  ex_of (pe_var hN hv hd hcd) fun F σ H Q st k => by
    obtain ⟨v, h1, h2⟩ := st.en.look h
    exact ⟨v, h1, k.here p st.ok h2⟩
theorem ex_int {i : Int} {j} (p : P (.int i) M) : EX X J (.Constant (.int i) j pos) ρ M P := ex_of pe_int fun F σ H Q st k => k.here p st.ok (.int i)
theorem ex_bl {i : Bool} {j} (p : P (.bl i) M) : EX X J (.Constant (.bool i) j pos) ρ M P := ex_of pe_bl fun F σ H Q st k => k.here p st.ok (.bl i)
theorem ex_non {j} (p : P .non M) : EX X J (.Constant .none j pos) ρ M P := ex_of pe_non fun F σ H Q st k => k.here p st.ok .non
theorem ex_str {i : Str} {j} (p : P (.str i) M) : EX X J (.Constant (.str i) j pos) ρ M P := ex_of pe_str fun F σ H Q st k => k.here p st.ok (.str i)
/-- a module's constant -/
theorem ex_glob {v : V} {u : Value} {d : D} (hg : Gl X x) (hm : X.mg x = some u) (r : RelV v u) (hr : ∀ F, Rp X.K F v d) (p : P d M) (hd : (x == ("__debug__" : Str)) = false := by decide) : EX X J (.Name x pos) ρ M P :=
  ex_of (pe_glob hg hm r hd) fun F σ H Q st k => k.here p st.ok (hr F)

/-! ### argument lists -/
theorem ax_nil (p : PA' [] M) : AX X J [] ρ M PA' := ax_of pa_nil fun F σ H Q st k => k [] [] M F H p (Same.refl F) st.ok .nil
theorem ax_cons (h : EX X J e ρ M fun d M1 => AX X J es ρ M1 fun ds M2 => PA' (d :: ds) M2) (hs : starEach (e :: es) X.env = (false, eval e X.env) :: starEach es X.env := by rfl) : AX X J (e :: es) ρ M PA' :=
  ax_of (pa_cons pe_any pa_any hs) fun F σ H Q st k => h.go st fun d v M1 F1 H1 p e1 o1 r1 => AX.go p (st.to e1 o1) fun ds vs M2 F2 H2 p2 e2 o2 r2 => k _ _ M2 F2 H2 p2 (e1.trans e2) o2 (.cons (r1.mono e2) r2)

/-! ### operations on values -/
def rAnyO (X : Cx) (f : Value → Value → Sem Value) : R2 := fun v u H Q => ∃ r, OpR X f r ∧ r v u H Q
theorem op_any {f : Value → Value → Sem Value} : OpR X f (rAnyO X f) := fun pins s σ H x y v u Q I rx ry ⟨r, h, q⟩ => h pins s σ H x y v u Q I rx ry q
/-- f at the data x, y: what comes -/
def OD (X : Cx) (f : Value → Value → Sem Value) (x y : D) (M : Mem) (P : D → Mem → Prop) : Prop :=
  ∃ r, OpR X f r ∧ ∀ F H v u Q, Ok X.K F M H → Rp X.K F v x → Rp X.K F u y → Kt X.K F P Q → r v u H Q
theorem OD.go {f : Value → Value → Sem Value} {x y : D} (h : OD X f x y M P) {v u : V} {Q : VK} (o : Ok X.K F M H) (rx : Rp X.K F v x) (ry : Rp X.K F u y) (k : Kt X.K F P Q) : rAnyO X f v u H Q := by
  obtain ⟨r, h1, h2⟩ := h
  exact ⟨r, h1, h2 F H v u Q o rx ry k⟩
theorem ex_bin {op : Operator} (h : EX X J a ρ M fun x M1 => EX X J b ρ M1 fun y M2 => OD X (binaryOp op) x y M2 P) : EX X J (.BinOp a op b pos) ρ M P :=
  ex_of (pe_op op_any pe_any pe_any) fun F σ H Q st k => h.go st fun d v M1 F1 H1 p e1 o1 r1 => EX.go p (st.to e1 o1) fun d2 v2 M2 F2 H2 p2 e2 o2 r2 => p2.go o2 (r1.mono e2) r2 (k.to (e1.trans e2))
/-- a comparison as a value; as a test -/
theorem ex_cmp {op : CmpOp} (h : EX X J a ρ M fun x M1 => EX X J b ρ M1 fun y M2 => OD X (compareOp op) x y M2 P) (hm : behindInMarks op b = false := by rfl) : EX X J (.Compare a [op] [b] pos) ρ M P :=
  ex_of (pe_cmpR op_any pe_any pe_any hm) fun F σ H Q st k => h.go st fun d v M1 F1 H1 p e1 o1 r1 => EX.go p (st.to e1 o1) fun d2 v2 M2 F2 H2 p2 e2 o2 r2 => p2.go o2 (r1.mono e2) r2 (k.to (e1.trans e2))
def PBl (PB : Bool → Mem → Prop) : D → Mem → Prop := fun d M => ∃ c, d = .bl c ∧ PB c M
theorem kt_bl {Q : Bool → Hp → Prop} (k : Kb K F PB Q) : Kt K F (PBl PB) (fun x H' => ∃ k, x = .bl k ∧ Q k H') := fun d v M' F' H' p e o r => by
  obtain ⟨c, rfl, p⟩ := p
  cases r
  exact ⟨c, rfl, k c M' F' H' p e o⟩
theorem tx_cmp {op : CmpOp} (h : EX X J a ρ M fun x M1 => EX X J b ρ M1 fun y M2 => OD X (compareOp op) x y M2 (PBl PB)) (hm : behindInMarks op b = false := by rfl) : TX X J (.Compare a [op] [b] pos) ρ M PB :=
  tx_of (pt_cmpR op_any pe_any pe_any hm) fun F σ H Q st k => h.go st fun d v M1 F1 H1 p e1 o1 r1 => EX.go p (st.to e1 o1) fun d2 v2 M2 F2 H2 p2 e2 o2 r2 => p2.go o2 (r1.mono e2) r2 ((kt_bl k).to (e1.trans e2))
/-- a op b op' c -/
theorem ex_chain {op op' : CmpOp} (h : EX X J a ρ M fun x M1 => EX X J b ρ M1 fun y M2 => OD X (compareOp op) x y M2 (PBl fun t M3 => (t = true → EX X J c ρ M3 fun z M4 => OD X (compareOp op') y z M4 P) ∧ (t = false → P (.bl false) M3)))
    (h1 : lastMarks [op, op'] [b, c] = false := by with_unfolding_all rfl) : EX X J (.Compare a [op, op'] [b, c] pos) ρ M P :=
  ex_of (pe_chain op_any op_any pe_any pe_any pe_any h1) fun F σ H Q st k => h.go st fun d v M1 F1 H1 p e1 o1 r1 => EX.go p (st.to e1 o1) fun d2 v2 M2 F2 H2 p2 e2 o2 r2 => p2.go o2 (r1.mono e2) r2 fun d3 v3 M3 F3 H3 p3 e3 o3 r3 => by
    obtain ⟨t, rfl, p4, p5⟩ := p3
    cases r3
    refine ⟨t, rfl, ?_⟩
    cases t with
    | true => exact iteT ((p4 rfl).go (st.to ((e1.trans e2).trans e3) o3) fun d4 v4 M4 F4 H4 p6 e4 o4 r4 => OD.go p6 o4 ((r2.mono e3).mono e4) r4 (k.to (((e1.trans e2).trans e3).trans e4)))
    | false => exact iteF (k _ _ _ _ _ (p5 rfl) ((e1.trans e2).trans e3) o3 (.bl false))
theorem tx_chain {op op' : CmpOp} (h : EX X J a ρ M fun x M1 => EX X J b ρ M1 fun y M2 => OD X (compareOp op) x y M2 (PBl fun t M3 => (t = true → EX X J c ρ M3 fun z M4 => OD X (compareOp op') y z M4 (PBl PB)) ∧ (t = false → PB false M3)))
    (h1 : lastMarks [op, op'] [b, c] = false := by with_unfolding_all rfl) : TX X J (.Compare a [op, op'] [b, c] pos) ρ M PB :=
  tx_of (pt_chain op_any op_any pe_any pe_any pe_any h1) fun F σ H Q st k => h.go st fun d v M1 F1 H1 p e1 o1 r1 => EX.go p (st.to e1 o1) fun d2 v2 M2 F2 H2 p2 e2 o2 r2 => p2.go o2 (r1.mono e2) r2 fun d3 v3 M3 F3 H3 p3 e3 o3 r3 => by
    obtain ⟨t, rfl, p4, p5⟩ := p3
    cases r3
    refine ⟨t, rfl, ?_⟩
    cases t with
    | true => exact iteT ((p4 rfl).go (st.to ((e1.trans e2).trans e3) o3) fun d4 v4 M4 F4 H4 p6 e4 o4 r4 => OD.go p6 o4 ((r2.mono e3).mono e4) r4 ((kt_bl k).to (((e1.trans e2).trans e3).trans e4)))
    | false => exact iteF ⟨false, rfl, k _ _ _ _ (p5 rfl) ((e1.trans e2).trans e3) o3⟩

/-! ### ints -/
theorem od_int {f : Value → Value → Sem Value} {C : Int → Int → Prop} {g : Int → Int → V} {g' : Int → Int → D} (h : OpR X f (rI C g)) {i j : Int} (hc : C i j) (hr : ∀ F, Rp X.K F (g i j) (g' i j)) (p : P (g' i j) M) : OD X f (.int i) (.int j) M P :=
  ⟨_, h, fun F H v u Q o rx ry k => by
    cases rx; cases ry
    exact ⟨i, j, rfl, rfl, hc, k.here p o (hr F)⟩⟩
theorem od_int0 {f : Value → Value → Sem Value} {g : Int → Int → V} {g' : Int → Int → D} (h : OpR X f (rI0 g)) {i j : Int} (hr : ∀ F, Rp X.K F (g i j) (g' i j)) (p : P (g' i j) M) : OD X f (.int i) (.int j) M P :=
  ⟨_, h, fun F H v u Q o rx ry k => by
    cases rx; cases ry
    exact ⟨i, j, rfl, rfl, k.here p o (hr F)⟩⟩
variable {i j : Int}
theorem od_add (p : P (.int (i + j)) M) : OD X (binaryOp .Add) (.int i) (.int j) M P := od_int0 (g' := fun i j => .int (i + j)) op_add (fun F => .int _) p
theorem od_sub (p : P (.int (i - j)) M) : OD X (binaryOp .Sub) (.int i) (.int j) M P := od_int0 (g' := fun i j => .int (i - j)) op_sub (fun F => .int _) p
theorem od_mul (hc : CMul i j) (p : P (.int (i * j)) M) : OD X (binaryOp .Mult) (.int i) (.int j) M P := od_int (g' := fun i j => .int (i * j)) op_mul hc (fun F => .int _) p
theorem od_fdiv (hc : CDiv i j) (p : P (.int (i / j)) M) : OD X (binaryOp .FloorDiv) (.int i) (.int j) M P := od_int (g' := fun i j => .int (i / j)) op_fdiv hc (fun F => .int _) p
theorem od_mod (hc : 0 < j) (p : P (.int (i % j)) M) : OD X (binaryOp .Mod) (.int i) (.int j) M P := od_int (g' := fun i j => .int (i % j)) op_mod hc (fun F => .int _) p
theorem od_pow (hc : CPow i j) (p : P (.int (i ^ j.toNat)) M) : OD X (binaryOp .Pow) (.int i) (.int j) M P := od_int (g' := fun i j => .int (i ^ j.toNat)) op_pow hc (fun F => .int _) p
theorem od_shl (hc : CPow i j) (p : P (.int (i * 2 ^ j.toNat)) M) : OD X (binaryOp .LShift) (.int i) (.int j) M P := od_int (g' := fun i j => .int (i * 2 ^ j.toNat)) op_shl hc (fun F => .int _) p
theorem od_shr (hc : 0 ≤ j) (p : P (.int (i / 2 ^ j.toNat)) M) : OD X (binaryOp .RShift) (.int i) (.int j) M P := od_int (g' := fun i j => .int (i / 2 ^ j.toNat)) op_shr hc (fun F => .int _) p
theorem od_and (p : P (.int (Builtin.bitAnd i j)) M) : OD X (binaryOp .BitAnd) (.int i) (.int j) M P := od_int0 (g' := fun i j => .int (Builtin.bitAnd i j)) op_and (fun F => .int _) p
theorem od_xor (p : P (.int (Builtin.bitXor i j)) M) : OD X (binaryOp .BitXor) (.int i) (.int j) M P := od_int0 (g' := fun i j => .int (Builtin.bitXor i j)) op_xor (fun F => .int _) p
theorem od_lt (p : P (.bl (decide (i < j))) M) : OD X (compareOp .Lt) (.int i) (.int j) M P := od_int0 (g' := fun i j => .bl (decide (i < j))) op_lt (fun F => .bl _) p
theorem od_le (p : P (.bl (decide (i ≤ j))) M) : OD X (compareOp .LtE) (.int i) (.int j) M P := od_int0 (g' := fun i j => .bl (decide (i ≤ j))) op_le (fun F => .bl _) p
theorem od_gt (p : P (.bl (decide (j < i))) M) : OD X (compareOp .Gt) (.int i) (.int j) M P := od_int0 (g' := fun i j => .bl (decide (j < i))) op_gt (fun F => .bl _) p
theorem od_ge (p : P (.bl (decide (j ≤ i))) M) : OD X (compareOp .GtE) (.int i) (.int j) M P := od_int0 (g' := fun i j => .bl (decide (j ≤ i))) op_ge (fun F => .bl _) p
/-- scalars: == and != -/
def sc : D → D → Bool
  | .non, .non => true
  | .non, .int _ => true
  | .int _, .non => true
  | .non, .bl _ => true
  | .bl _, .non => true
  | .non, .str _ => true
  | .str _, .non => true
  | .int _, .int _ => true
  | .bl _, .bl _ => true
  | .str _, .str _ => true
  | .int _, .str _ => true
  | .str _, .int _ => true
  | .bl _, .str _ => true
  | .str _, .bl _ => true
  | _, _ => false
def sceq : D → D → Bool
  | .non, .non => true
  | .int i, .int j => decide (i = j)
  | .bl i, .bl j => decide (i = j)
  | .str i, .str j => decide (i = j)
  | _, _ => false
theorem sc_ok {x y : D} {v u : V} (h : sc x y = true) (rx : Rp K F v x) (ry : Rp K F u y) : scal v u = true ∧ decide (v = u) = sceq x y := by
  cases rx <;> cases ry <;> first
    | exact absurd h Bool.false_ne_true
    | exact ⟨rfl, by simp [sceq]⟩
theorem od_eq {x y : D} (h : sc x y = true) (p : P (.bl (sceq x y)) M) : OD X (compareOp .Eq) x y M P :=
  ⟨_, op_eq, fun F H v u Q o rx ry k => by
    obtain ⟨h1, h2⟩ := sc_ok h rx ry
    exact ⟨h1, by rw [h2]; exact k.here p o (.bl _)⟩⟩
theorem od_ne {x y : D} (h : sc x y = true) (p : P (.bl (!sceq x y)) M) : OD X (compareOp .NotEq) x y M P :=
  ⟨_, op_ne, fun F H v u Q o rx ry k => by
    obtain ⟨h1, h2⟩ := sc_ok h rx ry
    exact ⟨h1, by rw [h2]; exact k.here p o (.bl _)⟩⟩
theorem od_isN {x : D} {t : Bool} (h : ∀ K F v, Rp K F v x → decide (v = V.non) = t) (p : P (.bl t) M) : OD X (compareOp .Is) x .non M P :=
  ⟨_, op_isN, fun F H v u Q o rx ry k => by
    cases ry
    refine ⟨rfl, ?_⟩
    rw [h _ _ _ rx]
    exact k.here p o (.bl _)⟩
theorem od_notN {x : D} {t : Bool} (h : ∀ K F v, Rp K F v x → decide (v = V.non) = t) (p : P (.bl (!t)) M) : OD X (compareOp .IsNot) x .non M P :=
  ⟨_, op_notN, fun F H v u Q o rx ry k => by
    cases ry
    refine ⟨rfl, ?_⟩
    rw [h _ _ _ rx]
    exact k.here p o (.bl _)⟩
theorem isNon_non : ∀ K F v, Rp K F v .non → decide (v = V.non) = true := fun K F v r => by cases r; rfl
theorem isNon_int {i : Int} : ∀ K F v, Rp K F v (.int i) → decide (v = V.non) = false := fun K F v r => by cases r; rfl
theorem isNon_bl {i : Bool} : ∀ K F v, Rp K F v (.bl i) → decide (v = V.non) = false := fun K F v r => by cases r; rfl
theorem isNon_str {i : Str} : ∀ K F v, Rp K F v (.str i) → decide (v = V.non) = false := fun K F v r => by cases r; rfl
theorem isNon_tup {i : List D} : ∀ K F v, Rp K F v (.tup i) → decide (v = V.non) = false := fun K F v r => by cases r; rfl
theorem isNon_lst {i : List D} : ∀ K F v, Rp K F v (.lst i) → decide (v = V.non) = false := fun K F v r => by cases r; rfl
/-- -x -/
theorem ex_neg (h : EX X J a ρ M fun x M1 => ∃ i, x = .int i ∧ P (.int (-i)) M1) : EX X J (.UnaryOp .USub a pos) ρ M P :=
  ex_of (pe_un un_neg pe_any) fun F σ H Q st k => h.go st fun d v M1 F1 H1 p e1 o1 r1 => by
    obtain ⟨i, rfl, p⟩ := p
    cases r1
    exact ⟨i, rfl, k _ _ _ _ _ p e1 o1 (.int _)⟩

/-! ### truth, and, or, not, if -/
theorem tx_val (h : EX X J e ρ M (PBl PB)) (he : ∀ whole, isTrue e X.env whole = (do let v ← whole; standAt e.pos; holding [v] (truthy v)) := by intro _; rfl) : TX X J e ρ M PB :=
  tx_of (pt_val pe_any he) fun F σ H Q st k => h.go st (kt_bl k)
theorem tx_pw (h : WX X J e ρ M PB) : TX X J e ρ M PB := PW.pt h
theorem wx_and1 (h : TX X J a ρ M PB) : WX X J (.BoolOp .And [a] pos) ρ M PB := pw_and1 h
theorem wx_or1 (h : TX X J a ρ M PB) : WX X J (.BoolOp .Or [a] pos) ρ M PB := pw_or1 h
theorem wx_and {rest : List Expr} (h : TX X J a ρ M fun t M1 => (t = true → WX X J (.BoolOp .And (b :: rest) pos) ρ M1 PB) ∧ (t = false → PB false M1)) : WX X J (.BoolOp .And (a :: b :: rest) pos) ρ M PB :=
  wx_of (pw_and pt_any pw_any) fun F σ H Q st k => h.go st fun t M1 F1 H1 p e1 o1 => by
    cases t with
    | true => exact iteT ((p.1 rfl).go (st.to e1 o1) (k.to e1))
    | false => exact iteF (k _ _ _ _ (p.2 rfl) e1 o1)
theorem wx_or {rest : List Expr} (h : TX X J a ρ M fun t M1 => (t = false → WX X J (.BoolOp .Or (b :: rest) pos) ρ M1 PB) ∧ (t = true → PB true M1)) : WX X J (.BoolOp .Or (a :: b :: rest) pos) ρ M PB :=
  wx_of (pw_or pt_any pw_any) fun F σ H Q st k => h.go st fun t M1 F1 H1 p e1 o1 => by
    cases t with
    | false => exact iteF ((p.1 rfl).go (st.to e1 o1) (k.to e1))
    | true => exact iteT (k _ _ _ _ (p.2 rfl) e1 o1)
theorem tx_not (h : TX X J a ρ M fun t M1 => PB (!t) M1) : TX X J (.UnaryOp .Not a pos) ρ M PB :=
  tx_of (pt_not pt_any) fun F σ H Q st k => h.go st fun t M1 F1 H1 p e1 o1 => k _ _ _ _ p e1 o1
/-- as values, bools -/
theorem ex_one {op} (h : EX X J a ρ M P) : EX X J (.BoolOp op [a] pos) ρ M P := pe_one h
theorem ex_and {rest : List Expr} (h : EX X J a ρ M (PBl fun t M1 => (t = true → EX X J (.BoolOp .And (b :: rest) pos) ρ M1 P) ∧ (t = false → P (.bl false) M1))) : EX X J (.BoolOp .And (a :: b :: rest) pos) ρ M P :=
  ex_of (pe_and pe_any pe_any) fun F σ H Q st k => h.go st fun d v M1 F1 H1 p e1 o1 r1 => by
    obtain ⟨t, rfl, p⟩ := p
    cases r1
    refine ⟨t, rfl, ?_⟩
    cases t with
    | true => exact iteT ((p.1 rfl).go (st.to e1 o1) (k.to e1))
    | false => exact iteF (k _ _ _ _ _ (p.2 rfl) e1 o1 (.bl _))
theorem ex_or {rest : List Expr} (h : EX X J a ρ M (PBl fun t M1 => (t = false → EX X J (.BoolOp .Or (b :: rest) pos) ρ M1 P) ∧ (t = true → P (.bl true) M1))) : EX X J (.BoolOp .Or (a :: b :: rest) pos) ρ M P :=
  ex_of (pe_or pe_any pe_any) fun F σ H Q st k => h.go st fun d v M1 F1 H1 p e1 o1 r1 => by
    obtain ⟨t, rfl, p⟩ := p
    cases r1
    refine ⟨t, rfl, ?_⟩
    cases t with
    | false => exact iteF ((p.1 rfl).go (st.to e1 o1) (k.to e1))
    | true => exact iteT (k _ _ _ _ _ (p.2 rfl) e1 o1 (.bl _))
theorem ex_not (h : EX X J a ρ M (PBl fun t M1 => P (.bl (!t)) M1)) : EX X J (.UnaryOp .Not a pos) ρ M P :=
  ex_of (pe_not pe_any) fun F σ H Q st k => h.go st fun d v M1 F1 H1 p e1 o1 r1 => by
    obtain ⟨t, rfl, p⟩ := p
    cases r1
    exact ⟨t, rfl, k _ _ _ _ _ p e1 o1 (.bl _)⟩
theorem ex_if (h : TX X J c ρ M fun t M1 => (t = true → EX X J a ρ M1 P) ∧ (t = false → EX X J b ρ M1 P)) : EX X J (.IfExp c a b pos) ρ M P :=
  ex_of (pe_ifExp pt_any pe_any pe_any) fun F σ H Q st k => h.go st fun t M1 F1 H1 p e1 o1 => by
    cases t with
    | true => exact iteT ((p.1 rfl).go (st.to e1 o1) (k.to e1))
    | false => exact iteF ((p.2 rfl).go (st.to e1 o1) (k.to e1))

/-! ### lists, tuples, texts -/
inductive Sq (M : Mem) : D → List D → Prop
  | lst {ds : List D} : Sq M (.lst ds) ds
  | tup {ds : List D} : Sq M (.tup ds) ds
  | adr {p : Addr} {ds : List D} : M p = some (.lst ds) → Sq M (.adr p) ds
inductive Sl (M : Mem) : D → List D → Prop
  | lst {ds : List D} : Sl M (.lst ds) ds
  | adr {p : Addr} {ds : List D} : M p = some (.lst ds) → Sl M (.adr p) ds
theorem Sl.get {d : D} {ds : List D} {v : V} (s : Sl M d ds) (o : Ok K F M H) (r : Rp K F v d) : ∃ p xs, v = .ref p ∧ H p = some (.lst xs) ∧ Rps K F xs ds := by
  cases s with
  | lst =>
    cases r with
    | lst h r => exact ⟨_, _, rfl, o.ex _ _ h, r⟩
  | adr h =>
    cases r
    obtain ⟨_, xs, h1, h2⟩ := o.mt _ _ h
    exact ⟨_, xs, rfl, h1, h2⟩
theorem Sq.get {d : D} {ds : List D} {v : V} (s : Sq M d ds) (o : Ok K F M H) (r : Rp K F v d) : ∃ p xs, v = .ref p ∧ (SqL K H p xs ∨ SqT K H p xs) ∧ Rps K F xs ds := by
  cases s with
  | lst =>
    cases r with
    | lst h r => exact ⟨_, _, rfl, .inl (SqL.of (o.ex _ _ h)), r⟩
  | tup =>
    cases r with
    | tup h r => exact ⟨_, _, rfl, .inr (same_t o.ex h), r⟩
  | adr h =>
    cases r
    obtain ⟨_, xs, h1, h2⟩ := o.mt _ _ h
    exact ⟨_, xs, rfl, .inl (SqL.of h1), h2⟩
theorem Sl.sq {d : D} {ds : List D} (s : Sl M d ds) : Sq M d ds := by
  cases s with
  | lst => exact .lst
  | adr h => exact .adr h
/-- a new tuple, a new list that is not to change -/
theorem ex_tup {x1} (h : AX X J es ρ M fun ds M1 => ds.length ≤ 1000000 ∧ P (.tup ds) M1) : EX X J (.Tuple es x1 pos) ρ M P :=
  ex_of (pe_tup pa_any) fun F σ H Q st k => h.go st fun ds vs M1 F1 H1 p e1 o1 r1 => ⟨by rw [r1.length, sizeLine_eq]; omega, fun q hq =>
    k _ _ _ _ _ p.2 (e1.trans (o1.fixSame hq)) (o1.fix hq) (.tup (SqT.of upd_same) (r1.mono (o1.fixSame hq)))⟩
theorem ex_lst (h : AX X J es ρ M fun ds M1 => ds.length ≤ 1000000 ∧ P (.lst ds) M1) : EX X J (.List es pos) ρ M P :=
  ex_of (pe_lst pa_any) fun F σ H Q st k => h.go st fun ds vs M1 F1 H1 p e1 o1 r1 => ⟨by rw [r1.length, sizeLine_eq]; omega, fun q hq =>
    k _ _ _ _ _ p.2 (e1.trans (o1.fixSame hq)) (o1.fix hq) (.lst upd_same (r1.mono (o1.fixSame hq)))⟩
/-- a new list that may change -/
theorem ex_lstM (h : AX X J es ρ M fun ds M1 => ds.length ≤ 1000000 ∧ ∀ p, M1 p = none → P (.adr p) (up M1 p (.lst ds))) : EX X J (.List es pos) ρ M P :=
  ex_of (pe_lst pa_any) fun F σ H Q st k => h.go st fun ds vs M1 F1 H1 p e1 o1 r1 => ⟨by rw [r1.length, sizeLine_eq]; omega, fun q hq =>
    k _ _ _ _ _ (p.2 q (o1.nn hq).2) e1 (o1.lay hq ⟨vs, upd_same, r1⟩) (.adr q)⟩
/-- x[i] -/
def rAnyI (X : Cx) : R2 := fun v u H Q => ∃ r, IxR X r ∧ r v u H Q
theorem ix_any : IxR X (rAnyI X) := fun value slice pins s σ H x y v u Q I rx ry ⟨r, h, q⟩ hs => h value slice pins s σ H x y v u Q I rx ry q hs
def ID (X : Cx) (x y : D) (M : Mem) (P : D → Mem → Prop) : Prop :=
  ∃ r, IxR X r ∧ ∀ F H v u Q, Ok X.K F M H → Rp X.K F v x → Rp X.K F u y → Kt X.K F P Q → r v u H Q
theorem ex_ix (h : EX X J a ρ M fun x M1 => EX X J b ρ M1 fun y M2 => ID X x y M2 P) (hs : PlainIx b := by intro _ _; rfl) : EX X J (.Subscript a b pos) ρ M P :=
  ex_of (pe_ix ix_any pe_any pe_any hs) fun F σ H Q st k => h.go st fun d v M1 F1 H1 p e1 o1 r1 => EX.go p (st.to e1 o1) fun d2 v2 M2 F2 H2 p2 e2 o2 r2 => by
    obtain ⟨r, h1, h2⟩ := p2
    exact ⟨r, h1, h2 F2 H2 v v2 Q o2 (r1.mono e2) r2 (k.to (e1.trans e2))⟩
theorem atI_of {ds : List D} {xs : List V} {i : Int} {d : D} (r : Rps K F xs ds) (h : atI ds i = some d) : ∃ v, atI xs i = some v ∧ Rp K F v d := by
  unfold atI at h ⊢
  rw [r.length]
  cases e : ixN ds.length i with
  | none => rw [e] at h; cases h
  | some j =>
    rw [e] at h
    obtain ⟨v, h1, h2⟩ := r.get (show ds[j]? = some d from h)
    exact ⟨v, h1, h2⟩
theorem id_seq {x d : D} {ds : List D} (s : Sq M x ds) (h : atI ds i = some d) (p : P d M) : ID X x (.int i) M P :=
  ⟨_, ix_list.or ix_tup, fun F H v u Q o rx ry k => by
    cases ry
    obtain ⟨q, xs, rfl, hs, r⟩ := s.get o rx
    obtain ⟨w, h1, h2⟩ := atI_of r h
    rcases hs with hs | hs
    · exact .inl ⟨q, xs, i, w, rfl, rfl, hs, h1, k.here p o h2⟩
    · exact .inr ⟨q, xs, i, w, rfl, rfl, hs, h1, k.here p o h2⟩⟩
theorem id_str {z : Str} {n : Nat} (hz : z.length ≤ 1000000) (h : atI z.cps.toList i = some n) (p : P (.str ⟨#[n]⟩) M) : ID X (.str z) (.int i) M P :=
  ⟨_, ix_str, fun F H v u Q o rx ry k => by
    cases rx; cases ry
    exact ⟨z, i, n, rfl, rfl, by rw [sizeLine_eq]; omega, h, k.here p o (.str _)⟩⟩
/-- x + y of texts, lists, tuples; x * n -/
theorem od_addS {x y : Str} (hz : x.length + y.length ≤ 1000000) (p : P (.str (x ++ y)) M) : OD X (binaryOp .Add) (.str x) (.str y) M P :=
  ⟨_, op_add_str, fun F H v u Q o rx ry k => by
    cases rx; cases ry
    exact ⟨x, y, rfl, rfl, by rw [sizeLine_eq]; omega, k.here p o (.str _)⟩⟩
theorem od_addL {x y : D} {ds es : List D} (sx : Sl M x ds) (sy : Sl M y es) (hz : ds.length + es.length ≤ 1000000) (p : P (.lst (ds ++ es)) M) : OD X (binaryOp .Add) x y M P :=
  ⟨_, op_cat, fun F H v u Q o rx ry k => by
    obtain ⟨a, xs, rfl, h1, r1⟩ := sx.get o rx
    obtain ⟨b, ys, rfl, h2, r2⟩ := sy.get o ry
    exact ⟨a, b, xs, ys, rfl, rfl, h1, h2, by rw [r1.length, r2.length, sizeLine_eq]; omega, fun q hq => k _ _ _ _ _ p (o.fixSame hq) (o.fix hq) (.lst upd_same ((r1.append r2).mono (o.fixSame hq)))⟩⟩
theorem od_addT {ds es : List D} (hz : ds.length + es.length ≤ 1000000) (p : P (.tup (ds ++ es)) M) : OD X (binaryOp .Add) (.tup ds) (.tup es) M P :=
  ⟨_, op_catA, fun F H v u Q o rx ry k => by
    cases rx with
    | @tup a xs _ h1 r1 =>
    cases ry with
    | @tup b ys _ h2 r2 =>
      have g1 := same_t o.ex h1
      have g2 := same_t o.ex h2
      refine ⟨a, b, xs, ys, rfl, rfl, g1, g2, by rw [r1.length, r2.length, sizeLine_eq]; omega, fun e => ?_, fun _ e => ?_, fun _ _ q hq => ?_⟩
      · subst e
        have : ds = [] := by cases r1; rfl
        subst this
        exact k.here p o (.tup h2 (by simpa using r2))
      · subst e
        have : es = [] := by cases r2; rfl
        subst this
        exact k.here p o (.tup h1 (by simpa using r1))
      · exact k _ _ _ _ _ p (o.fixSame hq) (o.fix hq) (.tup (SqT.of upd_same) ((r1.append r2).mono (o.fixSame hq)))⟩
theorem od_mulL {x : D} {ds : List D} {n : Int} (sx : Sl M x ds) (h0 : -(2 ^ 62) ≤ n ∧ n < 2 ^ 62) (hz : ds.length * n.toNat ≤ 1000000) (p : P (.lst (List.replicate n.toNat ds).flatten) M) : OD X (binaryOp .Mult) x (.int n) M P :=
  ⟨_, op_rep, fun F H v u Q o rx ry k => by
    cases ry
    obtain ⟨a, xs, rfl, h1, r1⟩ := sx.get o rx
    exact ⟨a, n, xs, rfl, rfl, h1, by omega, by omega, by rw [r1.length, sizeLine_eq]; omega, fun q hq => k _ _ _ _ _ p (o.fixSame hq) (o.fix hq) (.lst upd_same ((r1.rep _).mono (o.fixSame hq)))⟩⟩
/-- slices of lists, tuples, texts -/
def tOe (X : Cx) (e : Option Expr) : TO := fun σ H Q => ∃ t, PO X e t ∧ t σ H Q
theorem po_any {eo : Option Expr} : PO X eo (tOe X eo) := ⟨fun pins s σ H Q I ⟨t, h, q⟩ => h.run pins s σ H Q I q⟩
def Ko (K : PySem.W.Frag) (F : Hp) (P : Option Int → Mem → Prop) (Q : Option Int → Hp → Prop) : Prop := ∀ b M' F' H', P b M' → Same F F' → Ok K F' M' H' → Q b H'
def OX (X : Cx) (J : Gh) (eo : Option Expr) (ρ : DEnv) (M : Mem) (P : Option Int → Mem → Prop) : Prop := ∀ F σ H Q, Sts X.K J F σ H ρ M → Ko X.K F P Q → tOe X eo σ H Q
theorem ox_none {PO' : Option Int → Mem → Prop} (p : PO' none M) : OX X J none ρ M PO' := fun F σ H Q st k => ⟨_, po_none, k _ _ _ _ p (Same.refl F) st.ok⟩
theorem ox_some {PO' : Option Int → Mem → Prop} (h : EX X J e ρ M fun x M1 => ∃ i, x = .int i ∧ PO' (some i) M1) : OX X J (some e) ρ M PO' := fun F σ H Q st k => ⟨_, po_some pe_any, h.go st fun d v M1 F1 H1 p e1 o1 r1 => by
  obtain ⟨i, rfl, p⟩ := p
  cases r1
  exact ⟨i, rfl, k _ _ _ _ p e1 o1⟩⟩
def rAnyS (X : Cx) : V → Option Int → Option Int → Hp → VK → Prop := fun v l h H Q => ∃ r, SlR X r ∧ r v l h H Q
theorem sl_any : SlR X (rAnyS X) := fun pins s σ H x v vl vu lo hi sl Q I rx hs pl pu ⟨r, h1, h2⟩ => h1 pins s σ H x v vl vu lo hi sl Q I rx hs pl pu h2
def SD (X : Cx) (x : D) (l h : Option Int) (M : Mem) (P : D → Mem → Prop) : Prop :=
  ∃ r, SlR X r ∧ ∀ F H v Q, Ok X.K F M H → Rp X.K F v x → Kt X.K F P Q → r v l h H Q
theorem ex_slice {lo hi : Option Expr} {p2 : Pos} (h : EX X J e ρ M fun x M1 => OX X J lo ρ M1 fun l M2 => OX X J hi ρ M2 fun u M3 => SD X x l u M3 P) : EX X J (.Subscript e (.Slice lo hi none p2) pos) ρ M P :=
  ex_of (pe_slice sl_any pe_any po_any po_any) fun F σ H Q st k => h.go st fun d v M1 F1 H1 p e1 o1 r1 => p F1 σ H1 _ (st.to e1 o1) fun l M2 F2 H2 p2 e2 o2 => p2 F2 σ H2 _ (st.to (e1.trans e2) o2) fun u M3 F3 H3 p3 e3 o3 => by
    obtain ⟨r, h1, h2⟩ := p3
    exact ⟨r, h1, h2 F3 H3 v Q o3 ((r1.mono e2).mono e3) (k.to ((e1.trans e2).trans e3))⟩
def cutD (ds : List D) (lo hi : Option Int) : List D := (ds.drop (HT.sIx ds.length 0 lo)).take (HT.sIx ds.length ds.length hi - HT.sIx ds.length 0 lo)
theorem cut_of {ds : List D} {xs : List V} (r : Rps K F xs ds) (lo hi : Option Int) : Rps K F (cutV xs lo hi) (cutD ds lo hi) := by
  unfold cutV cutD
  rw [r.length]
  exact (r.drop _).take _
theorem sd_list {x : D} {ds : List D} {l u : Option Int} (s : Sl M x ds) (p : P (.lst (cutD ds l u)) M) : SD X x l u M P :=
  ⟨_, sl_list, fun F H v Q o rx k => by
    obtain ⟨a, xs, rfl, h1, r1⟩ := s.get o rx
    exact ⟨a, xs, rfl, SqL.of h1, fun q hq => k _ _ _ _ _ p (o.fixSame hq) (o.fix hq) (.lst upd_same ((cut_of r1 l u).mono (o.fixSame hq)))⟩⟩
end
end DX
namespace DX
open PySem PySem.Spec L2

/-! ### statements -/
structure Bd where
  nx : DEnv → Mem → Prop
  rt : D → Mem → Prop
  bk : DEnv → Mem → Prop := fun _ _ => False
  ct : DEnv → Mem → Prop := fun _ _ => False
structure Kd (K : PySem.W.Frag) (F : Hp) (B : Bd) (E : Ends) : Prop where
  nx : ∀ F' σ' H' ρ' M', B.nx ρ' M' → Same F F' → En K F' σ' ρ' → Ok K F' M' H' → E.nx σ' H'
  rt : Kt K F B.rt E.rt
  bk : ∀ F' σ' H' ρ' M', B.bk ρ' M' → Same F F' → En K F' σ' ρ' → Ok K F' M' H' → E.bk σ' H'
  ct : ∀ F' σ' H' ρ' M', B.ct ρ' M' → Same F F' → En K F' σ' ρ' → Ok K F' M' H' → E.ct σ' H'
def tSd (K : PySem.W.Frag) (J : Gh) (ρ : DEnv) (M : Mem) (B : Bd) : TS := fun E σ H => ∃ F, Sts K J F σ H ρ M ∧ Kd K F B E
def GX (X : Cx) (J : Gh) (st : List Stmt) (ρ : DEnv) (M : Mem) (B : Bd) : Prop := PSs X st (tSd X.K J ρ M B)
def G1 (X : Cx) (J : Gh) (st : Stmt) (ρ : DEnv) (M : Mem) (B : Bd) : Prop := PS X st (tSd X.K J ρ M B)
def tSe (X : Cx) (st : List Stmt) : TS := fun E σ H => ∃ t, PSs X st t ∧ t E σ H
def tS1 (X : Cx) (st : Stmt) : TS := fun E σ H => ∃ t, PS X st t ∧ t E σ H
section
variable {X : Cx} {J : Gh} {e a b c : Expr} {es : List Expr} {st : Stmt} {rest sts : List Stmt} {ρ ρ' : DEnv} {M M' : Mem} {F F' H H' : Hp} {σ : St} {B : Bd} {K : PySem.W.Frag} {pos p : Pos} {x : Str} {E : Ends}
theorem pss_any : PSs X sts (tSe X sts) := ⟨fun pins s σ H D I ⟨t, h, q⟩ => h.run pins s σ H D I q⟩
theorem ps_any : PS X st (tS1 X st) := ⟨fun pins s σ H D I ⟨t, h, q⟩ => h.run pins s σ H D I q⟩
theorem Kd.to (k : Kd K F B E) (e : Same F F') : Kd K F' B E :=
  ⟨fun F2 σ' H' ρ' M' p e2 => k.nx F2 σ' H' ρ' M' p (e.trans e2), k.rt.to e, fun F2 σ' H' ρ' M' p e2 => k.bk F2 σ' H' ρ' M' p (e.trans e2), fun F2 σ' H' ρ' M' p e2 => k.ct F2 σ' H' ρ' M' p (e.trans e2)⟩
theorem GX.go (h : GX X J sts ρ M B) (s : Sts X.K J F σ H ρ M) (k : Kd X.K F B E) : tSe X sts E σ H := ⟨_, h, F, s, k⟩
theorem G1.go (h : G1 X J st ρ M B) (s : Sts X.K J F σ H ρ M) (k : Kd X.K F B E) : tS1 X st E σ H := ⟨_, h, F, s, k⟩
theorem gx_of {t : TS} (h : PSs X sts t) (k : ∀ F σ H E, Sts X.K J F σ H ρ M → Kd X.K F B E → t E σ H) : GX X J sts ρ M B := ⟨fun pins s σ H D I ⟨F, st, q⟩ => h.run pins s σ H D I (k F σ H D st q)⟩
theorem g1_of {t : TS} (h : PS X st t) (k : ∀ F σ H E, Sts X.K J F σ H ρ M → Kd X.K F B E → t E σ H) : G1 X J st ρ M B := ⟨fun pins s σ H D I ⟨F, st, q⟩ => h.run pins s σ H D I (k F σ H D st q)⟩
/-- the ends with another way on -/
def Bd.thn (B : Bd) (nx : DEnv → Mem → Prop) : Bd := { B with nx := nx }
theorem gx_nil (h : B.nx ρ M) : GX X J [] ρ M B := gx_of pss_nil fun F σ H E st k => k.nx F σ H ρ M h (Same.refl F) st.en st.ok
/-- a statement, then the rest -/
theorem gx_cons (h : G1 X J st ρ M (B.thn fun ρ' M' => GX X J rest ρ' M' B)) (hJ : ∀ F, J.p F → ∀ F', Same F F' → J.p F') : GX X J (st :: rest) ρ M B :=
  gx_of (pss_cons ps_any pss_any) fun F σ H E s k => h.go s
    ⟨fun F' σ' H' ρ' M' q e en o => GX.go q ⟨en, o, J.mono _ _ e s.gh⟩ (k.to e), k.rt, k.bk, k.ct⟩
theorem gx_seq (h : G1 X J st ρ M (B.thn fun ρ' M' => GX X J rest ρ' M' B)) : GX X J (st :: rest) ρ M B := gx_cons h fun F q F' e => J.mono F F' e q
theorem GX.imp {B' : Bd} (h : GX X J sts ρ M B) (h1 : ∀ ρ' M', B.nx ρ' M' → B'.nx ρ' M') (h2 : ∀ d M', B.rt d M' → B'.rt d M') (h3 : ∀ ρ' M', B.bk ρ' M' → B'.bk ρ' M') (h4 : ∀ ρ' M', B.ct ρ' M' → B'.ct ρ' M') : GX X J sts ρ M B' :=
  gx_of h fun F σ H E st k => ⟨F, st, fun F' σ' H' ρ' M' q => k.nx F' σ' H' ρ' M' (h1 _ _ q), fun d v M' F' H' q => k.rt d v M' F' H' (h2 _ _ q), fun F' σ' H' ρ' M' q => k.bk F' σ' H' ρ' M' (h3 _ _ q), fun F' σ' H' ρ' M' q => k.ct F' σ' H' ρ' M' (h4 _ _ q)⟩
/-- a word between: what follows is shown once, from Mid -/
theorem gx_mid (Mid : DEnv → Mem → Prop) (h : GX X J sts ρ M (B.thn Mid)) (k : ∀ ρ' M', Mid ρ' M' → B.nx ρ' M') : GX X J sts ρ M B := h.imp k (fun _ _ q => q) (fun _ _ q => q) (fun _ _ q => q)

/-! ### targets -/
/-- at d, into the names ρ: then P of the names -/
def AsD (X : Cx) (target : Expr) (d : D) (ρ : DEnv) (P : DEnv → Prop) : Prop :=
  ∃ g, PG X target g ∧ ∀ F M v σ H Q, Ok X.K F M H → Rp X.K F v d → En X.K F σ ρ → (∀ σ' ρ', P ρ' → En X.K F σ' ρ' → Q σ' H) → g v σ H Q
def AsDs (X : Cx) (ts : List Expr) (ds : List D) (ρ : DEnv) (P : DEnv → Prop) : Prop :=
  ∃ g, PGs X ts g ∧ ∀ F M vs σ H Q, Ok X.K F M H → Rps X.K F vs ds → En X.K F σ ρ → (∀ σ' ρ', P ρ' → En X.K F σ' ρ' → Q σ' H) → g vs σ H Q
def gE (X : Cx) (target : Expr) : TG := fun v σ H Q => ∃ g, PG X target g ∧ g v σ H Q
theorem pg_any {target : Expr} : PG X target (gE X target) := ⟨fun pins s σ H v u Q I r ⟨g, h, q⟩ => h.run pins s σ H v u Q I r q⟩
theorem as_name {d : D} {P : DEnv → Prop} (i : Nat) (h : P (put ρ i d)) (hN : X.N.Nodup := by rfl) (hi : X.N[i]? = some x := by rfl) (hx : Loc X.env.scope x := by first | exact Or.inl rfl | exact Or.inr rfl) (hf : X.fn x = true ∨ X.env.scope.names.lookup x = some .local := by first | exact .inl rfl | exact .inr rfl) : AsD X (.Name x pos) d ρ P :=
  ⟨_, pg_name hN hi hx hf, fun F M v σ H Q o r en k => k _ _ h (en.put i r)⟩
theorem as_tup {ds : List D} {k : Nat} {P : DEnv → Prop} (hc : X.calm = true) (hl : (assignEach es X.env).length = ds.length) (h : AsDs X es ds ρ P) (hst : (assignEach es X.env).findIdx? (·.1) = none := by rfl) : AsD X (.Tuple es k pos) (.tup ds) ρ P := by
  obtain ⟨g, hg, h⟩ := h
  refine ⟨_, pg_tup hc hg hl hst, fun F M v σ H Q o r en k => ?_⟩
  cases r with
  | tup h1 r1 => exact ⟨_, _, rfl, same_t o.ex h1, r1.length, h F M _ σ H Q o r1 en k⟩
theorem asd_go {target : Expr} {d : D} {P : DEnv → Prop} (h : AsD X target d ρ P) {v : V} {Q : St → Hp → Prop} (o : Ok X.K F M H) (r : Rp X.K F v d) (en : En X.K F σ ρ) (k : ∀ σ' ρ', P ρ' → En X.K F σ' ρ' → Q σ' H) : gE X target v σ H Q := by
  obtain ⟨g, hg, h⟩ := h
  exact ⟨g, hg, h F M v σ H Q o r en k⟩
theorem asd_nil {P : DEnv → Prop} (h : P ρ) : AsDs X [] [] ρ P := ⟨_, pgs_nil, fun F M vs σ H Q o r en k => by cases r; exact ⟨rfl, k _ _ h en⟩⟩
theorem asd_cons {t : Expr} {ts : List Expr} {d : D} {ds : List D} {P : DEnv → Prop} (h : AsD X t d ρ fun ρ' => AsDs X ts ds ρ' P)
    (hs : (assignEach (t :: ts) X.env).map (·.2) = assign t X.env :: (assignEach ts X.env).map (·.2) := by rfl) : AsDs X (t :: ts) (d :: ds) ρ P :=
  ⟨_, pgs_cons pg_any (⟨fun pins s σ H vs us Q I r ⟨g, h, q⟩ => h.run pins s σ H vs us Q I r q⟩ : PGs X ts (fun vs σ H Q => ∃ g, PGs X ts g ∧ g vs σ H Q)) hs, fun F M vs σ H Q o r en k => by
    cases r with
    | cons h1 r1 => exact ⟨_, _, rfl, asd_go h o h1 en fun σ' ρ' q en' => by
        obtain ⟨g, hg, q⟩ := q
        exact ⟨g, hg, q F M _ σ' H Q o r1 en' k⟩⟩⟩

/-! ### the small statements -/
theorem g1_asg {tg : Expr} (h : EX X J e ρ M fun d M1 => AsD X tg d ρ fun ρ' => B.nx ρ' M1) (hs : swapsWithSole [tg] e pos.line X.env = pure false := by rfl) (hw : swappedStores [tg] e X.env = pure none := by rfl)
    (h1 : (assignEach [tg] X.env).map (·.2) = [assign tg X.env] := by rfl) : G1 X J (.Assign [tg] e pos) ρ M B :=
  g1_of (ps_asg pe_any pg_any hs hw h1) fun F σ H E s k => h.go s fun d v M1 F1 H1 p e1 o1 r1 => asd_go p o1 r1 (s.en.mono e1) fun σ' ρ' q en => k.nx F1 σ' H1 ρ' M1 q e1 en o1
/-- a, b = x, y -/
theorem g1_par {x y : Str} {px py pt : Pos} {kt k2 pt2} (i j : Nat) (hc : X.calm = true) (hij : i ≠ j) (h : AX X J [a, b] ρ M fun ds M1 => ∃ d1 d2, ds = [d1, d2] ∧ B.nx (put (put ρ i d1) j d2) M1)
    (hN : X.N.Nodup := by rfl) (hi : X.N[i]? = some x := by rfl) (hj : X.N[j]? = some y := by rfl) (hx : X.env.scope.names.lookup x = some .local := by rfl) (hy : X.env.scope.names.lookup y = some .local := by rfl)
    (hw : swappedStores [.Tuple [.Name x px, .Name y py] kt pt] (.Tuple [a, b] k2 pt2) X.env = pure (some [x, y]) := by rfl)
    (hs : swapsWithSole [.Tuple [.Name x px, .Name y py] kt pt] (.Tuple [a, b] k2 pt2) pos.line X.env = pure false := by rfl) :
    G1 X J (.Assign [.Tuple [.Name x px, .Name y py] kt pt] (.Tuple [a, b] k2 pt2) pos) ρ M B :=
  g1_of (ps_par hc hN hi hj hij hx hy pa_any hw hs) fun F σ H E s k => h.go s fun ds vs M1 F1 H1 p e1 o1 r1 => by
    obtain ⟨d1, d2, rfl, p⟩ := p
    cases r1 with
    | cons h1 r1 =>
      cases r1 with
      | cons h2 r1 =>
        cases r1
        exact ⟨_, _, rfl, k.nx F1 _ H1 _ M1 p e1 (((s.en.mono e1).put i h1).put j h2) o1⟩
/-- x += e and its like, ints -/
theorem g1_aug {x : Str} {op : Operator} {f : Int → Int → Int} (ho : PIp X op (ipI f)) (i : Nat) (h : ∃ u, look ρ i = some (.int u) ∧ EX X J e ρ M fun d M1 => ∃ v, d = .int v ∧ B.nx (put ρ i (.int (f u v))) M1)
    (hN : X.N.Nodup := by rfl) (hi : X.N[i]? = some x := by rfl) (hx : Loc X.env.scope x := by first | exact Or.inl rfl | exact Or.inr rfl) (hf : X.fn x = true ∨ X.env.scope.names.lookup x = some .local := by first | exact .inl rfl | exact .inr rfl) :
    G1 X J (.AugAssign (.Name x p) op e pos) ρ M B := by
  obtain ⟨u, hu, h⟩ := h
  exact g1_of (ps_aug hN hi hx pe_any ho hf) fun F σ H E s k => by
    obtain ⟨v0, h1, h2⟩ := s.en.look hu
    cases h2
    refine ⟨_, h1, h.go s fun d v M1 F1 H1 q e1 o1 r1 => ?_⟩
    obtain ⟨w, rfl, q⟩ := q
    cases r1
    exact ⟨u, w, rfl, rfl, k.nx F1 _ H1 _ M1 q e1 ((s.en.mono e1).put i (.int _)) o1⟩
theorem g1_ret (h : EX X J e ρ M B.rt) : G1 X J (.Return (some e) pos) ρ M B := g1_of (ps_ret pe_any) fun F σ H E s k => h.go s k.rt
theorem g1_retN (h : B.rt .non M) : G1 X J (.Return none pos) ρ M B := g1_of ps_retN fun F σ H E s k => k.rt.here h s.ok .non
theorem g1_expr (h : EX X J e ρ M fun _ M1 => B.nx ρ M1) (hs : swapsWith e none pos.line X.env = pure false := by rfl) : G1 X J (.Expr e pos) ρ M B :=
  g1_of (ps_expr pe_any hs) fun F σ H E s k => h.go s fun d v M1 F1 H1 p e1 o1 r1 => k.nx F1 σ H1 ρ M1 p e1 (s.en.mono e1) o1
theorem g1_pass (h : B.nx ρ M) : G1 X J (.Pass pos) ρ M B := g1_of ps_pass fun F σ H E s k => k.nx F σ H ρ M h (Same.refl F) s.en s.ok
theorem g1_break (h : B.bk ρ M) : G1 X J (.Break pos) ρ M B := g1_of ps_break fun F σ H E s k => k.bk F σ H ρ M h (Same.refl F) s.en s.ok
theorem g1_cont (h : B.ct ρ M) : G1 X J (.Continue pos) ρ M B := g1_of ps_continue fun F σ H E s k => k.ct F σ H ρ M h (Same.refl F) s.en s.ok
theorem g1_if {s1 s2 : List Stmt} (h : TX X J c ρ M fun t M1 => (t = true → GX X J s1 ρ M1 B) ∧ (t = false → GX X J s2 ρ M1 B)) : G1 X J (.If c s1 s2 pos) ρ M B :=
  g1_of (ps_if pt_any pss_any pss_any) fun F σ H E s k => h.go s fun t M1 F1 H1 p e1 o1 => by
    cases t with
    | true => exact iteT ((p.1 rfl).go (s.to e1 o1) (k.to e1))
    | false => exact iteF ((p.2 rfl).go (s.to e1 o1) (k.to e1))

/-! ### loops -/
structure Wk (K : PySem.W.Frag) (F : Hp) (I : It) (ds : List D) : Prop where
  goes : ∀ i H, i < ds.length → Same F H → I.go i H
  stops : ∀ H, Same F H → I.stop ds.length H
  yields : ∀ i d H x H' F1 M, ds[i]? = some d → Same F F1 → Ok K F1 M H → I.yld i H x H' → ∃ F2, Same F1 F2 ∧ Ok K F2 M H' ∧ Rp K F2 x d
theorem Wk.mono {I : It} {ds : List D} (w : Wk K F I ds) (e : Same F F') : Wk K F' I ds :=
  ⟨fun i H hi s => w.goes i H hi (e.trans s), fun H s => w.stops H (e.trans s), fun i d H x H' F1 M hd s => w.yields i d H x H' F1 M hd (e.trans s)⟩
def Ki (K : PySem.W.Frag) (F : Hp) (P : List D → Mem → Prop) (R : It → Hp → Prop) : Prop := ∀ ds I M' F' H', P ds M' → Same F F' → Ok K F' M' H' → Wk K F' I ds → R I H'
/-- what a loop walks -/
def IX (X : Cx) (J : Gh) (tg iter : Expr) (ρ : DEnv) (M : Mem) (P : List D → Mem → Prop) : Prop := PI X tg iter fun σ H R => ∃ F, Sts X.K J F σ H ρ M ∧ Ki X.K F P R
def tIe (X : Cx) (tg iter : Expr) : TI := fun σ H R => ∃ t, PI X tg iter t ∧ t σ H R
theorem pi_any {tg iter : Expr} : PI X tg iter (tIe X tg iter) := ⟨fun pins s σ H R I ⟨t, h, q⟩ => h.run pins s σ H R I q⟩
theorem IX.go {tg iter : Expr} {P : List D → Mem → Prop} (h : IX X J tg iter ρ M P) (s : Sts X.K J F σ H ρ M) {R : It → Hp → Prop} (k : Ki X.K F P R) : tIe X tg iter σ H R := ⟨_, h, F, s, k⟩
theorem ix_of {tg iter : Expr} {t : TI} {P : List D → Mem → Prop} (h : PI X tg iter t) (k : ∀ F σ H R, Sts X.K J F σ H ρ M → Ki X.K F P R → t σ H R) : IX X J tg iter ρ M P := ⟨fun pins s σ H R I ⟨F, st, q⟩ => h.run pins s σ H R I (k F σ H R st q)⟩
theorem wk_list {q : Addr} {xs : List V} {ds : List D} (h : F q = some (.lst xs)) (r : Rps K F xs ds) : Wk K F (Itl K q) ds :=
  ⟨fun i H hi s => ⟨xs, xs[i]'(by rw [r.length]; exact hi), SqL.of (s _ _ h), by simp⟩, fun H s => ⟨xs, SqL.of (s _ _ h), by rw [r.length]; exact Nat.le_refl _⟩,
    fun i d H x H' F1 M hd s o y => by
      obtain ⟨rfl, y⟩ := y
      obtain ⟨v, h1, h2⟩ := r.get hd
      have e1 := y xs (SqL.of (o.ex _ _ (s _ _ h)))
      rw [h1] at e1; cases e1
      exact ⟨F1, Same.refl _, o, h2.mono s⟩⟩
theorem wk_tup {q : Addr} {xs : List V} {ds : List D} (h : SqT K F q xs) (r : Rps K F xs ds) : Wk K F (Itt K q) ds :=
  ⟨fun i H hi s => ⟨xs, xs[i]'(by rw [r.length]; exact hi), same_t s h, by simp⟩, fun H s => ⟨xs, same_t s h, by rw [r.length]; exact Nat.le_refl _⟩,
    fun i d H x H' F1 M hd s o y => by
      obtain ⟨rfl, y⟩ := y
      obtain ⟨v, h1, h2⟩ := r.get hd
      have e1 := y xs (same_t o.ex (same_t s h))
      rw [h1] at e1; cases e1
      exact ⟨F1, Same.refl _, o, h2.mono s⟩⟩
theorem ix_lst {tg : Expr} {P : List D → Mem → Prop} (h : EX X J e ρ M fun d M1 => ∃ ds, d = .lst ds ∧ P ds M1) : IX X J tg e ρ M P :=
  ix_of (pi_list pe_any) fun F σ H R s k => h.go s fun d v M1 F1 H1 p e1 o1 r1 => by
    obtain ⟨ds, rfl, p⟩ := p
    cases r1 with
    | lst h1 r1 => exact ⟨_, rfl, ⟨_, SqL.of (o1.ex _ _ h1)⟩, k ds _ M1 F1 H1 p e1 o1 (wk_list h1 r1)⟩
theorem ix_tup {tg : Expr} {P : List D → Mem → Prop} (h : EX X J e ρ M fun d M1 => ∃ ds, d = .tup ds ∧ P ds M1) : IX X J tg e ρ M P :=
  ix_of (pi_tup pe_any) fun F σ H R s k => h.go s fun d v M1 F1 H1 p e1 o1 r1 => by
    obtain ⟨ds, rfl, p⟩ := p
    cases r1 with
    | tup h1 r1 => exact ⟨_, rfl, ⟨_, same_t o1.ex h1⟩, k ds _ M1 F1 H1 p e1 o1 (wk_tup h1 r1)⟩
def rngD (lo : Int) (n : Nat) : List D := (List.range n).map fun (i : Nat) => D.int (lo + (i : Int))
theorem rngD_len {lo : Int} {n : Nat} : (rngD lo n).length = n := by unfold rngD; simp
theorem rngD_at {lo : Int} {n i : Nat} {d : D} (h : (rngD lo n)[i]? = some d) : i < n ∧ d = .int (lo + (i : Int)) := by
  unfold rngD at h
  rw [List.getElem?_map] at h
  by_cases hi : i < n
  · rw [List.getElem?_range hi] at h
    cases h
    exact ⟨hi, rfl⟩
  · rw [List.getElem?_eq_none (by simp; omega)] at h
    cases h
theorem wk_rng {lo : Int} {n : Nat} : Wk K F (Itr lo n) (rngD lo n) :=
  ⟨fun i H hi s => by rw [rngD_len] at hi; exact hi, fun H s => by rw [rngD_len]; exact Nat.le_refl _, fun i d H x H' F1 M hd s o y => by
    obtain ⟨rfl, rfl⟩ := y
    obtain ⟨_, rfl⟩ := rngD_at hd
    exact ⟨F1, Same.refl _, o, .int _⟩⟩
theorem ix_range1 {tg : Expr} {P : List D → Mem → Prop} (hm : X.mg "range" = none) (h : AX X J [a] ρ M fun ds M1 => ∃ j, ds = [.int j] ∧ (-(2 ^ 62) ≤ j ∧ j < 2 ^ 62) ∧ P (rngD 0 j.toNat) M1) (hg : Gl X "range" := by rfl)
    (hs : starEach [a] X.env = [(false, eval a X.env)] := by rfl) : IX X J tg (.Call (.Name "range" p) [a] [] pos) ρ M P :=
  ix_of (pi_range1 hg hm pa_any hs) fun F σ H R s k => h.go s fun ds vs M1 F1 H1 q e1 o1 r1 => by
    obtain ⟨j, rfl, hj, q⟩ := q
    cases r1 with
    | cons h1 r1 =>
      cases r1
      cases h1
      exact ⟨j, rfl, hj.1, hj.2, k _ _ M1 F1 H1 q e1 o1 wk_rng⟩
theorem ix_range2 {tg : Expr} {P : List D → Mem → Prop} (hm : X.mg "range" = none) (h : AX X J [a, b] ρ M fun ds M2 => ∃ i j, ds = [.int i, .int j] ∧ (-(2 ^ 62) ≤ i ∧ i < 2 ^ 62 ∧ -(2 ^ 62) ≤ j ∧ j < 2 ^ 62) ∧ P (rngD i (j - i).toNat) M2) (hg : Gl X "range" := by rfl)
    (hs : starEach [a, b] X.env = [(false, eval a X.env), (false, eval b X.env)] := by rfl) (hs2 : starEach [b] X.env = [(false, eval b X.env)] := by rfl) : IX X J tg (.Call (.Name "range" p) [a, b] [] pos) ρ M P :=
  ix_of (pi_range2 hg hm pa_any hs hs2) fun F σ H R s k => h.go s fun ds vs M1 F1 H1 q e1 o1 r1 => by
    obtain ⟨i, j, rfl, hj, q2⟩ := q
    cases r1 with
    | cons h1 r1 =>
      cases r1 with
      | cons h2 r1 =>
        cases r1
        cases h1; cases h2
        exact ⟨i, j, rfl, hj, k _ _ M1 F1 H1 q2 e1 o1 wk_rng⟩
/-- zip of two lists, of two tuples -/
def zipD : List D → List D → List D
  | x :: xs, y :: ys => .tup [x, y] :: zipD xs ys
  | _, _ => []
theorem zipD_len : ∀ (xs ys : List D), (zipD xs ys).length = min xs.length ys.length
  | [], ys => by simp [zipD]
  | x :: xs, [] => by simp [zipD]
  | x :: xs, y :: ys => by simp [zipD, zipD_len xs ys]
theorem zipD_at : ∀ {xs ys : List D} {i : Nat} {d : D}, (zipD xs ys)[i]? = some d → ∃ x y, xs[i]? = some x ∧ ys[i]? = some y ∧ d = .tup [x, y]
  | [], ys, i, d, h => by simp [zipD] at h
  | x :: xs, [], i, d, h => by simp [zipD] at h
  | x :: xs, y :: ys, 0, d, h => by simp [zipD] at h; exact ⟨x, y, rfl, rfl, h.symm⟩
  | x :: xs, y :: ys, i + 1, d, h => by
    obtain ⟨a, b, h1, h2, h3⟩ := zipD_at (xs := xs) (ys := ys) (i := i) (by simpa [zipD] using h)
    exact ⟨a, b, by simpa using h1, by simpa using h2, h3⟩
theorem pair_new {x y d1 d2 : D} {v1 v2 : V} {T : Addr} (o : Ok K F M H) (h : H T = none) (r1 : Rp K F v1 d1) (r2 : Rp K F v2 d2) : ∃ F2, Same F F2 ∧ Ok K F2 M (upd H T (.tup [v1, v2])) ∧ Rp K F2 (.ref T) (.tup [d1, d2]) :=
  ⟨_, o.fixSame h, o.fix h, .tup (SqT.of upd_same) (.cons (r1.mono (o.fixSame h)) (.cons (r2.mono (o.fixSame h)) .nil))⟩
theorem wk_zip {q r : Addr} {xs ys : List V} {ds es : List D} (h : F q = some (.lst xs)) (g : F r = some (.lst ys)) (hx : Rps K F xs ds) (hy : Rps K F ys es) : Wk K F (Itz K q r) (zipD ds es) := by
  refine ⟨fun i H hi s => ?_, fun H s => ⟨xs, ys, SqL.of (s _ _ h), SqL.of (s _ _ g), by rw [zipD_len, hx.length, hy.length]; omega⟩, fun i d H x H' F1 M hd s o y => ?_⟩
  · rw [zipD_len] at hi
    have h1 : i < xs.length := by rw [hx.length]; omega
    have h2 : i < ys.length := by rw [hy.length]; omega
    exact ⟨xs, ys, xs[i], ys[i], SqL.of (s _ _ h), SqL.of (s _ _ g), by simp [h1], by simp [h2]⟩
  · obtain ⟨T, v1, v2, rfl, h2, rfl, h4, h5⟩ := y
    obtain ⟨d1, d2, g1, g2, rfl⟩ := zipD_at hd
    obtain ⟨w1, k1, k2⟩ := hx.get g1
    obtain ⟨w2, k3, k4⟩ := hy.get g2
    have e1 := h4 xs (SqL.of (o.ex _ _ (s _ _ h)))
    have e2 := h5 ys (SqL.of (o.ex _ _ (s _ _ g)))
    rw [k1] at e1; cases e1
    rw [k3] at e2; cases e2
    exact pair_new (x := d1) (y := d2) o h2 (k2.mono s) (k4.mono s)
theorem wk_zipT {q r : Addr} {xs ys : List V} {ds es : List D} (h : SqT K F q xs) (g : SqT K F r ys) (hx : Rps K F xs ds) (hy : Rps K F ys es) : Wk K F (RZ.ItzT K q r) (zipD ds es) := by
  refine ⟨fun i H hi s => ?_, fun H s => ⟨xs, ys, same_t s h, same_t s g, by rw [zipD_len, hx.length, hy.length]; omega⟩, fun i d H x H' F1 M hd s o y => ?_⟩
  · rw [zipD_len] at hi
    have h1 : i < xs.length := by rw [hx.length]; omega
    have h2 : i < ys.length := by rw [hy.length]; omega
    exact ⟨xs, ys, xs[i], ys[i], same_t s h, same_t s g, by simp [h1], by simp [h2]⟩
  · obtain ⟨T, v1, v2, rfl, h2, rfl, h4, h5⟩ := y
    obtain ⟨d1, d2, g1, g2, rfl⟩ := zipD_at hd
    obtain ⟨w1, k1, k2⟩ := hx.get g1
    obtain ⟨w2, k3, k4⟩ := hy.get g2
    have e1 := h4 xs (same_t o.ex (same_t s h))
    have e2 := h5 ys (same_t o.ex (same_t s g))
    rw [k1] at e1; cases e1
    rw [k3] at e2; cases e2
    exact pair_new (x := d1) (y := d2) o h2 (k2.mono s) (k4.mono s)
/-- both lists, or both tuples -/
inductive Zs : D → D → List D → List D → Prop
  | lst {ds es : List D} : Zs (.lst ds) (.lst es) ds es
  | tup {ds es : List D} : Zs (.tup ds) (.tup es) ds es
theorem ix_zip {elts : List Expr} {kk : Nat} {tpos : Pos} {P : List D → Mem → Prop} (hm : X.mg "zip" = none) (h : AX X J [a, b] ρ M fun ws M2 => ∃ d d2 ds es, ws = [d, d2] ∧ Zs d d2 ds es ∧ P (zipD ds es) M2) (hg : Gl X "zip" := by rfl)
    (hs : starEach [a, b] X.env = (false, eval a X.env) :: starEach [b] X.env := by rfl) (hpl : (backTo pos (starEach [b] X.env)).any (·.1) = false := by rfl) : IX X J (.Tuple elts kk tpos) (.Call (.Name "zip" p) [a, b] [] pos) ρ M P :=
  ix_of (RZ.pi_zipA hg hm pa_any hs hpl) fun F σ H R s k => h.go s fun ws vs M2 F2 H2 q e1 o2 r1 => by
    obtain ⟨d, d2, ds, es, rfl, z, q2⟩ := q
    cases r1 with
    | cons h1 r1 =>
      cases r1 with
      | cons h2 r1 =>
        cases r1
        cases z with
        | lst =>
          cases h1 with
          | lst h1 k1 =>
            cases h2 with
            | lst h2 k2 => exact ⟨_, _, _, _, rfl, .inl ⟨SqL.of (o2.ex _ _ h1), SqL.of (o2.ex _ _ h2), k _ _ M2 F2 H2 q2 e1 o2 (wk_zip h1 h2 k1 k2)⟩⟩
        | tup =>
          cases h1 with
          | tup h1 k1 =>
            cases h2 with
            | tup h2 k2 => exact ⟨_, _, _, _, rfl, .inr ⟨same_t o2.ex h1, same_t o2.ex h2, k _ _ M2 F2 H2 q2 e1 o2 (wk_zipT h1 h2 k1 k2)⟩⟩
/-- enumerate of a list -/
def enumD (i : Nat) : List D → List D
  | [] => []
  | x :: xs => .tup [.int (i : Int), x] :: enumD (i + 1) xs
theorem enumD_len : ∀ (i : Nat) (xs : List D), (enumD i xs).length = xs.length
  | i, [] => rfl
  | i, x :: xs => by simp [enumD, enumD_len (i + 1) xs]
theorem enumD_at : ∀ {xs : List D} {k i : Nat} {d : D}, (enumD k xs)[i]? = some d → ∃ x, xs[i]? = some x ∧ d = .tup [.int ((k + i : Nat) : Int), x]
  | [], k, i, d, h => by simp [enumD] at h
  | x :: xs, k, 0, d, h => by simp [enumD] at h; exact ⟨x, rfl, h.symm⟩
  | x :: xs, k, i + 1, d, h => by
    obtain ⟨y, h1, h2⟩ := enumD_at (xs := xs) (k := k + 1) (i := i) (by simpa [enumD] using h)
    exact ⟨y, by simpa using h1, by rw [h2, Nat.add_assoc, Nat.add_comm 1 i]⟩
theorem wk_enum {q : Addr} {xs : List V} {ds : List D} (h : F q = some (.lst xs)) (hx : Rps K F xs ds) : Wk K F (Ite K q) (enumD 0 ds) := by
  refine ⟨fun i H hi s => ?_, fun H s => ⟨xs, SqL.of (s _ _ h), by rw [enumD_len, hx.length]; exact Nat.le_refl _⟩, fun i d H x H' F1 M hd s o y => ?_⟩
  · rw [enumD_len] at hi
    have h1 : i < xs.length := by rw [hx.length]; omega
    exact ⟨xs, xs[i], SqL.of (s _ _ h), by simp [h1]⟩
  · obtain ⟨T, v1, rfl, h2, rfl, h4⟩ := y
    obtain ⟨d1, g1, rfl⟩ := enumD_at hd
    obtain ⟨w1, k1, k2⟩ := hx.get g1
    have e1 := h4 xs (SqL.of (o.ex _ _ (s _ _ h)))
    rw [k1] at e1; cases e1
    rw [Nat.zero_add]
    exact pair_new (x := d1) (y := d1) o h2 (.int _) (k2.mono s)
theorem ix_enum {elts : List Expr} {kk : Nat} {tpos : Pos} {P : List D → Mem → Prop} (hm : X.mg "enumerate" = none) (h : AX X J [a] ρ M fun ws M1 => ∃ ds, ws = [.lst ds] ∧ P (enumD 0 ds) M1) (hg : Gl X "enumerate" := by rfl)
    (hs : starEach [a] X.env = [(false, eval a X.env)] := by rfl) : IX X J (.Tuple elts kk tpos) (.Call (.Name "enumerate" p) [a] [] pos) ρ M P :=
  ix_of (pi_enum hg hm pa_any hs) fun F σ H R s k => h.go s fun ws vs M1 F1 H1 q e1 o1 r1 => by
    obtain ⟨ds, rfl, q⟩ := q
    cases r1 with
    | cons h1 r1 =>
      cases r1
      cases h1 with
      | lst h1 k1 => exact ⟨_, _, rfl, SqL.of (o1.ex _ _ h1), k _ _ M1 F1 H1 q e1 o1 (wk_enum h1 k1)⟩
/-- the signs of a text -/
def signs (z : Str) : List D := z.cps.toList.map fun c => D.str ⟨#[c]⟩
theorem wk_str {z : Str} : Wk K F (Its z) (signs z) := by
  refine ⟨fun i H hi s => ?_, fun H s => ?_, fun i d H x H' F1 M hd s o y => ?_⟩
  · unfold signs at hi; simp at hi; exact hi
  · unfold signs; simp; exact Nat.le_refl _
  · obtain ⟨rfl, c, h1, rfl⟩ := y
    unfold signs at hd
    rw [List.getElem?_map] at hd
    have : z.cps.toList[i]? = some c := by simpa using h1
    rw [this] at hd
    cases hd
    exact ⟨F1, Same.refl _, o, .str _⟩
theorem ix_str {tg : Expr} {P : List D → Mem → Prop} (h : EX X J e ρ M fun d M1 => ∃ z, d = .str z ∧ P (signs z) M1) : IX X J tg e ρ M P :=
  ix_of (pi_str pe_any) fun F σ H R s k => h.go s fun d v M1 F1 H1 p e1 o1 r1 => by
    obtain ⟨z, rfl, p⟩ := p
    cases r1
    exact ⟨z, rfl, k _ _ M1 F1 H1 p e1 o1 wk_str⟩
/-- for -/
theorem g1_for {tg iter : Expr} {body : List Stmt} (hp : PassesOwn (model X.prog X.w) X.A X.env X.xe) (hc : X.calm = true)
    (h : IX X J tg iter ρ M fun ds M1 => ∃ Wd : Nat → DEnv → Mem → Prop, Wd 0 ρ M1 ∧
      (∀ i d ρ' M', ds[i]? = some d → Wd i ρ' M' → AsD X tg d ρ' fun ρ2 => GX X J body ρ2 M' ⟨Wd (i + 1), B.rt, B.nx, Wd (i + 1)⟩) ∧ ∀ ρ' M', Wd ds.length ρ' M' → B.nx ρ' M')
    (hs : ∀ x, foldedSetIterable iter X.env x = pure x := by intro _; rfl) : G1 X J (.For tg iter body [] pos) ρ M B :=
  g1_of (ps_for hp hc pi_any pg_any pss_any hs) fun F σ H E s k => h.go s fun ds I M1 F1 H1 ⟨Wd, h0, hs, hd⟩ e1 o1 w => by
    refine ⟨fun i m σ H => m = ds.length - i ∧ i ≤ ds.length ∧ ∃ F' ρ' M', Same F1 F' ∧ Sts X.K J F' σ H ρ' M' ∧ Wd i ρ' M', ⟨ds.length, by simp, Nat.zero_le _, F1, ρ, M1, Same.refl _, s.to e1 o1, h0⟩, ?_⟩
    rintro i m σ' H' ⟨rfl, hi, F', ρ', M', e2, s2, q⟩
    by_cases hlt : i < ds.length
    · refine .inr ⟨w.goes i H' hlt (e2.trans s2.ok.ex), _, fun σ3 H3 n3 => n3, fun x H3 y => ?_⟩
      · obtain ⟨F3, e3, o3, r3⟩ := w.yields i ds[i] H' x H3 F' M' (by simp [hlt]) e2 s2.ok y
        refine asd_go (hs i ds[i] ρ' M' (by simp [hlt]) q) o3 r3 (s2.en.mono e3) fun σ4 ρ4 q4 en4 => GX.go q4 ⟨en4, o3, J.mono _ _ e3 s2.gh⟩ ?_
        have nxt : ∀ F' σ' H' ρ' M', Wd (i + 1) ρ' M' → Same F3 F' → En X.K F' σ' ρ' → Ok X.K F' M' H' → ∃ m', m' < ds.length - i ∧ m' = ds.length - (i + 1) ∧ i + 1 ≤ ds.length ∧ ∃ F' ρ' M', Same F1 F' ∧ Sts X.K J F' σ' H' ρ' M' ∧ Wd (i + 1) ρ' M' :=
          fun F5 σ5 H5 ρ5 M5 q5 e5 en5 o5 => ⟨_, by omega, rfl, hlt, F5, ρ5, M5, (e2.trans e3).trans e5, ⟨en5, o5, J.mono _ _ (e3.trans e5) s2.gh⟩, q5⟩
        exact ⟨nxt, k.rt.to ((e1.trans e2).trans e3), fun F5 σ5 H5 ρ5 M5 q5 e5 en5 o5 => k.nx F5 σ5 H5 ρ5 M5 q5 (((e1.trans e2).trans e3).trans e5) en5 o5, nxt⟩
    · have e : i = ds.length := by omega
      subst e
      exact .inl ⟨w.stops H' (e2.trans s2.ok.ex), k.nx F' σ' H' ρ' M' (hd ρ' M' q) (e1.trans e2) s2.en s2.ok⟩
/-- while: the word with its measure -/
theorem g1_while {body : List Stmt} (hp : PassesOwn (model X.prog X.w) X.A X.env X.xe) (Wd : Nat → DEnv → Mem → Prop) (m0 : Nat) (h0 : Wd m0 ρ M)
    (hs : ∀ m ρ' M', Wd m ρ' M' → TX X J c ρ' M' fun t M1 => (t = true → GX X J body ρ' M1 ⟨fun ρ2 M2 => ∃ m', m' < m ∧ Wd m' ρ2 M2, B.rt, B.nx, fun ρ2 M2 => ∃ m', m' < m ∧ Wd m' ρ2 M2⟩) ∧ (t = false → B.nx ρ' M1)) : G1 X J (.While c body [] pos) ρ M B :=
  g1_of (ps_while hp pt_any pss_any) fun F σ H E s k => by
    refine ⟨fun m σ' H' => ∃ F' ρ' M', Same F F' ∧ Sts X.K J F' σ' H' ρ' M' ∧ Wd m ρ' M', ⟨m0, F, ρ, M, Same.refl _, s, h0⟩, ?_⟩
    rintro m σ' H' ⟨F', ρ', M', e2, s2, q⟩
    refine (hs m ρ' M' q).go s2 fun t M1 F1 H1 p e1 o1 => ?_
    cases t with
    | true =>
      refine iteT ⟨fun σ3 H3 => ∃ m', m' < m ∧ ∃ F' ρ' M', Same F F' ∧ Sts X.K J F' σ3 H3 ρ' M' ∧ Wd m' ρ' M', fun _ _ n => n, (p.1 rfl).go (s2.to e1 o1) ?_⟩
      have nxt : ∀ F3 σ3 H3 ρ3 M3, (∃ m', m' < m ∧ Wd m' ρ3 M3) → Same F1 F3 → En X.K F3 σ3 ρ3 → Ok X.K F3 M3 H3 → ∃ m', m' < m ∧ ∃ F' ρ' M', Same F F' ∧ Sts X.K J F' σ3 H3 ρ' M' ∧ Wd m' ρ' M' :=
        fun F3 σ3 H3 ρ3 M3 ⟨m', hm, q3⟩ e3 en3 o3 => ⟨m', hm, F3, ρ3, M3, (e2.trans e1).trans e3, ⟨en3, o3, J.mono _ _ (e1.trans e3) s2.gh⟩, q3⟩
      exact ⟨nxt, k.rt.to (e2.trans e1), fun F5 σ5 H5 ρ5 M5 q5 e5 en5 o5 => k.nx F5 σ5 H5 ρ5 M5 q5 ((e2.trans e1).trans e5) en5 o5, nxt⟩
    | false => exact iteF (k.nx F1 σ' H1 ρ' M1 (p.2 rfl) (e2.trans e1) (s2.en.mono e1) o1)
end
end DX
namespace DX
open PySem PySem.Spec L2

theorem wipe_get (σ : St) (i : Nat) : ∀ vs : List Nat, (wipe σ vs)[i]? = if i ∈ vs then (σ[i]?).map (fun _ => none) else σ[i]?
  | [] => by simp [wipe]
  | v :: vs => by
    unfold wipe
    rw [List.getElem?_set]
    by_cases h : v = i
    · subst h
      rw [if_pos rfl, wipe_length]
      by_cases hl : v < σ.length
      · rw [if_pos hl, if_pos List.mem_cons_self, List.getElem?_eq_getElem hl]; rfl
      · rw [if_neg hl, if_pos List.mem_cons_self, List.getElem?_eq_none (by omega)]; rfl
    · rw [if_neg h, wipe_get σ i vs]
      have e : (i ∈ v :: vs) = (i ∈ vs) := by simp [Ne.symm h]
      simp only [e]
theorem wipe_set {σ : St} {j : Nat} {x : Option V} {vs : List Nat} (h : j ∈ vs) : wipe (σ.set j x) vs = wipe σ vs := by
  apply List.ext_getElem?
  intro i
  rw [wipe_get, wipe_get]
  by_cases hi : i ∈ vs
  · rw [if_pos hi, if_pos hi, List.getElem?_set]
    by_cases hj : j = i
    · subst hj
      rw [if_pos rfl]
      by_cases hl : j < σ.length
      · rw [if_pos hl, List.getElem?_eq_getElem hl]; rfl
      · rw [if_neg hl, List.getElem?_eq_none (by omega)]
    · rw [if_neg hj]
  · rw [if_neg hi, if_neg hi, List.getElem?_set_ne]
    intro z; subst z; exact hi h
theorem wipe_wipe (σ : St) (vs : List Nat) : wipe (wipe σ vs) vs = wipe σ vs := by
  apply List.ext_getElem?
  intro i
  rw [wipe_get, wipe_get]
  by_cases hi : i ∈ vs
  · rw [if_pos hi, if_pos hi]
    cases σ[i]? <;> rfl
  · rw [if_neg hi, if_neg hi]

section
variable {X : Cx} {J : Gh} {e a b c : Expr} {es : List Expr} {st : Stmt} {rest sts : List Stmt} {ρ ρ' : DEnv} {M M' : Mem} {F F' H H' : Hp} {σ : St} {B : Bd} {K : PySem.W.Frag} {pos p apos : Pos} {x : Str} {P : D → Mem → Prop}

/-! ### list comprehensions -/
abbrev Blk (X : Cx) (scope : Scope) : Type := Shared × Hp × Addr × List (Str × Addr) × List Addr
abbrev Blk.cx {X : Cx} {scope : Scope} (b : Blk X scope) : Cx := X.blk b.1 b.2.1 scope (compEnvC scope b.2.2.2.1 b.2.2.1 X.env) b.2.2.2.2
def EXb (X : Cx) (J : Gh) (scope : Scope) (e : Expr) (ρ : DEnv) (M : Mem) (P : D → Mem → Prop) : Prop := ∀ (s : Shared) (H : Hp) (C : Addr) (cl : List (Str × Addr)) (fp : List Addr), EX (X.blk s H scope (compEnvC scope cl C X.env) fp) J e ρ M P
def TXb (X : Cx) (J : Gh) (scope : Scope) (ifs : List Expr) (ρ : DEnv) (M : Mem) (P : Bool → Mem → Prop) : Prop := ∃ t, (∀ (s : Shared) (H : Hp) (C : Addr) (cl : List (Str × Addr)) (fp : List Addr), PTs (X.blk s H scope (compEnvC scope cl C X.env) fp) ifs t) ∧ ∀ F σ H Q, Sts X.K J F σ H ρ M → Kb X.K F P Q → t σ H Q
def AsB (X : Cx) (scope : Scope) (vs : List Nat) (target : Expr) (d : D) (ρ : DEnv) (P : DEnv → Prop) : Prop :=
  ∃ g, (∀ (s : Shared) (H : Hp) (C : Addr) (cl : List (Str × Addr)) (fp : List Addr), PG (X.blk s H scope (compEnvC scope cl C X.env) fp) target g) ∧
    ∀ F M v σ H Q, Ok X.K F M H → Rp X.K F v d → En X.K F σ ρ → (∀ σ' ρ', P ρ' → En X.K F σ' ρ' → wipe σ' vs = wipe σ vs → Q σ' H) → g v σ H Q
def AsBs (X : Cx) (scope : Scope) (vs : List Nat) (ts : List Expr) (ds : List D) (ρ : DEnv) (P : DEnv → Prop) : Prop :=
  ∃ g, (∀ (s : Shared) (H : Hp) (C : Addr) (cl : List (Str × Addr)) (fp : List Addr), PGs (X.blk s H scope (compEnvC scope cl C X.env) fp) ts g) ∧
    ∀ F M xs σ H Q, Ok X.K F M H → Rps X.K F xs ds → En X.K F σ ρ → (∀ σ' ρ', P ρ' → En X.K F σ' ρ' → wipe σ' vs = wipe σ vs → Q σ' H) → g xs σ H Q
def tEb (X : Cx) (scope : Scope) (e : Expr) : TE := fun σ H Q => ∃ t, (∀ (s : Shared) (H : Hp) (C : Addr) (cl : List (Str × Addr)) (fp : List Addr), PE (X.blk s H scope (compEnvC scope cl C X.env) fp) e t) ∧ t σ H Q
def tTb (X : Cx) (scope : Scope) (ifs : List Expr) : TT := fun σ H Q => ∃ t, (∀ (s : Shared) (H : Hp) (C : Addr) (cl : List (Str × Addr)) (fp : List Addr), PTs (X.blk s H scope (compEnvC scope cl C X.env) fp) ifs t) ∧ t σ H Q
def gB (X : Cx) (scope : Scope) (target : Expr) : TG := fun v σ H Q => ∃ g, (∀ (s : Shared) (H : Hp) (C : Addr) (cl : List (Str × Addr)) (fp : List Addr), PG (X.blk s H scope (compEnvC scope cl C X.env) fp) target g) ∧ g v σ H Q
variable {scope : Scope} {tg iter elt : Expr} {ifs : List Expr}
theorem txb_nil {P : Bool → Mem → Prop} (h : P true M) : TXb X J scope [] ρ M P := ⟨tYes, fun _ _ _ _ _ => pts_nil, fun F σ H Q st k => k _ _ _ _ h (Same.refl F) st.ok⟩
theorem txb_one {P : Bool → Mem → Prop} (h : ∀ (s : Shared) (H : Hp) (C : Addr) (cl : List (Str × Addr)) (fp : List Addr), TX (X.blk s H scope (compEnvC scope cl C X.env) fp) J c ρ M P) : TXb X J scope [c] ρ M P :=
  ⟨tT X.K J ρ M P, fun s H C cl fp => pts_one (h s H C cl fp), fun F σ H Q st k => ⟨F, st, k⟩⟩
theorem pe_lcA {own : List (Str × Nat)} (hc : X.calm = true) (hN : X.N.Nodup) (ok : BlkOk X.N X.env.scope scope own) (hs : ∀ x, foldedSetIterable iter X.env x = pure x := by intro _; rfl) :
    PE X (.ListComp elt [⟨tg, iter, ifs, 0⟩] scope pos) (tLc (tIe X tg iter) (gB X scope tg) (tTb X scope ifs) (tEb X scope elt) (own.map (·.2))) :=
  pe_lc hc hN pi_any ok (fun s H C cl fp => ⟨fun pins s' σ H' v u Q I r ⟨g, h, q⟩ => (h s H C cl fp).run pins s' σ H' v u Q I r q⟩)
    (fun s H C cl fp => ⟨fun pins s' σ H' Q I ⟨t, h, q⟩ => (h s H C cl fp).run pins s' σ H' Q I q⟩) (fun s H C cl fp => ⟨fun pins s' σ H' Q I ⟨t, h, q⟩ => (h s H C cl fp).run pins s' σ H' Q I q⟩) hs
theorem asb_name {d : D} {vs : List Nat} {P : DEnv → Prop} (i : Nat) (h : P (put ρ i d)) (hv : i ∈ vs := by decide) (hN : X.N.Nodup := by rfl) (hi : X.N[i]? = some x := by rfl) (hx : ∀ (s : Shared) (H : Hp) (C : Addr) (cl : List (Str × Addr)) (fp : List Addr), Loc (X.blk s H scope (compEnvC scope cl C X.env) fp).env.scope x := by intros; first | exact Or.inl rfl | exact Or.inr rfl)
    (hf : ∀ (s : Shared) (H : Hp) (C : Addr) (cl : List (Str × Addr)) (fp : List Addr), (X.blk s H scope (compEnvC scope cl C X.env) fp).fn x = true ∨ (X.blk s H scope (compEnvC scope cl C X.env) fp).env.scope.names.lookup x = some .local := by intros; first | exact .inr rfl | exact .inl rfl) : AsB X scope vs (.Name x pos) d ρ P :=
  ⟨_, fun s H C cl fp => pg_name (X := X.blk s H scope (compEnvC scope cl C X.env) fp) hN hi (hx s H C cl fp) (hf s H C cl fp), fun F M v σ H Q o r en k => k _ _ h (en.put i r) (wipe_set hv)⟩
theorem asb_nil {vs : List Nat} {P : DEnv → Prop} (h : P ρ) : AsBs X scope vs [] [] ρ P := ⟨_, fun _ _ _ _ _ => pgs_nil, fun F M xs σ H Q o r en k => by cases r; exact ⟨rfl, k _ _ h en rfl⟩⟩
theorem asb_cons {vs : List Nat} {t : Expr} {ts : List Expr} {d : D} {ds : List D} {P : DEnv → Prop} (h : AsB X scope vs t d ρ fun ρ' => AsBs X scope vs ts ds ρ' P)
    (hs : ∀ (s : Shared) (H : Hp) (C : Addr) (cl : List (Str × Addr)) (fp : List Addr), (assignEach (t :: ts) (X.blk s H scope (compEnvC scope cl C X.env) fp).env).map (·.2) = assign t (X.blk s H scope (compEnvC scope cl C X.env) fp).env :: (assignEach ts (X.blk s H scope (compEnvC scope cl C X.env) fp).env).map (·.2) := by intros; rfl) : AsBs X scope vs (t :: ts) (d :: ds) ρ P := by
  obtain ⟨g, hg, h⟩ := h
  refine ⟨_, fun s H C cl fp => pgs_cons (hg s H C cl fp) (⟨fun pins s' σ H' us ws Q I r ⟨g, h, q⟩ => (h s H C cl fp).run pins s' σ H' us ws Q I r q⟩ : PGs (X.blk s H scope (compEnvC scope cl C X.env) fp) ts (fun us σ H Q => ∃ g, (∀ (s : Shared) (H : Hp) (C : Addr) (cl : List (Str × Addr)) (fp : List Addr), PGs (X.blk s H scope (compEnvC scope cl C X.env) fp) ts g) ∧ g us σ H Q)) (hs s H C cl fp), fun F M xs σ H Q o r en k => ?_⟩
  cases r with
  | cons h1 r1 =>
    refine ⟨_, _, rfl, h F M _ σ H _ o h1 en fun σ' ρ' q en' w => ?_⟩
    obtain ⟨g2, hg2, q⟩ := q
    exact ⟨g2, hg2, q F M _ σ' H Q o r1 en' fun σ2 ρ2 q2 en2 w2 => k σ2 ρ2 q2 en2 (w2.trans w)⟩
theorem asb_tup {ds : List D} {k : Nat} {vs : List Nat} {P : DEnv → Prop} (hc : X.calm = true) (h : AsBs X scope vs es ds ρ P)
    (hl : ∀ (s : Shared) (H : Hp) (C : Addr) (cl : List (Str × Addr)) (fp : List Addr), (assignEach es (X.blk s H scope (compEnvC scope cl C X.env) fp).env).length = ds.length := by intros; rfl)
    (hst : ∀ (s : Shared) (H : Hp) (C : Addr) (cl : List (Str × Addr)) (fp : List Addr), (assignEach es (X.blk s H scope (compEnvC scope cl C X.env) fp).env).findIdx? (·.1) = none := by intros; rfl) : AsB X scope vs (.Tuple es k pos) (.tup ds) ρ P := by
  obtain ⟨g, hg, h⟩ := h
  refine ⟨gTup X.K ds.length g, fun s H C cl fp => pg_tup (X := X.blk s H scope (compEnvC scope cl C X.env) fp) hc (hg s H C cl fp) (hl s H C cl fp) (hst s H C cl fp), fun F M v σ H Q o r en k => ?_⟩
  cases r with
  | tup h1 r1 => exact ⟨_, _, rfl, same_t o.ex h1, r1.length, h F M _ σ H Q o r1 en k⟩
/-- [elt for tg in iter if ..]: the word by the turn, what is made so far, the memory (the new list, at Dl, in it while a turn runs) -/
def LcW (X : Cx) (J : Gh) (scope : Scope) (vs : List Nat) (tg : Expr) (ifs : List Expr) (elt : Expr) (ρ : DEnv) (P : D → Mem → Prop) (ds : List D) (M1 : Mem) : Prop := ∃ Wd : Nat → List D → Mem → Prop, Wd 0 [] M1 ∧
  (∀ i d acc M' Dl, ds[i]? = some d → Wd i acc M' → M' Dl = none → acc.length < 1000000 ∧ AsB X scope vs tg d (cuts ρ vs) fun ρ2 =>
    TXb X J scope ifs ρ2 (up M' Dl (.lst acc)) fun t M2 => (t = true → EXb X J scope elt ρ2 M2 fun y M3 => ∃ M4, M4 Dl = none ∧ M3 = up M4 Dl (.lst acc) ∧ Wd (i + 1) (acc ++ [y]) M4) ∧
      (t = false → ∃ M4, M4 Dl = none ∧ M2 = up M4 Dl (.lst acc) ∧ Wd (i + 1) acc M4)) ∧
  ∀ acc M', Wd ds.length acc M' → P (.lst acc) M'
theorem lc_go {vs : List Nat} {Q : VK} (st : Sts X.K J F σ H ρ M) (k : Kt X.K F P Q) (h : IX X J tg iter ρ M (LcW X J scope vs tg ifs elt ρ P)) :
    tLc (tIe X tg iter) (gB X scope tg) (tTb X scope ifs) (tEb X scope elt) vs σ H Q := by
  refine h.go st fun ds I M1 F1 H1 ⟨Wd, h0, hs, hd⟩ e1 o1 w Dl hD => ?_
  have hm1 := o1.nn hD
  refine ⟨fun i m H2 => m = ds.length - i ∧ i ≤ ds.length ∧ ∃ F' M' acc xs, Same F1 F' ∧ Ok X.K F' (up M' Dl (.lst acc)) H2 ∧ M' Dl = none ∧ H2 Dl = some (.lst xs) ∧ Wd i acc M', ⟨ds.length, by simp, Nat.zero_le _, F1, M1, [], [], Same.refl _, o1.lay hD ⟨[], upd_same, .nil⟩, hm1.2, upd_same, h0⟩, ?_⟩
  rintro i m H2 ⟨rfl, hi, F', M', acc, xs, e2, o2, hn, hx, q⟩
  by_cases hlt : i < ds.length
  · refine .inr ⟨w.goes i H2 hlt (e2.trans o2.ex), fun H3 => ∃ m', m' < ds.length - i ∧ m' = ds.length - (i + 1) ∧ i + 1 ≤ ds.length ∧ ∃ F' M' acc xs, Same F1 F' ∧ Ok X.K F' (up M' Dl (.lst acc)) H3 ∧ M' Dl = none ∧ H3 Dl = some (.lst xs) ∧ Wd (i + 1) acc M', fun H3 n3 => n3, fun x H3 y => ?_⟩
    obtain ⟨F3, e3, o3, r3⟩ := w.yields i ds[i] H2 x H3 F' _ (by simp [hlt]) e2 o2 y
    obtain ⟨ha, g, hg, hgo⟩ := hs i ds[i] acc M' Dl (by simp [hlt]) q hn
    have en3 : En X.K F3 (wipe σ vs) (cuts ρ vs) := (((st.en.cuts vs).mono e1).mono e2).mono e3
    refine ⟨g, hg, hgo F3 _ x _ H3 _ o3 r3 en3 fun σ4 ρ4 q4 en4 w4 => ⟨w4.trans (wipe_wipe σ vs), ?_⟩⟩
    obtain ⟨t, ht, q4⟩ := q4
    refine ⟨t, ht, q4 F3 σ4 H3 _ ⟨en4, o3, J.mono _ _ ((e1.trans e2).trans e3) st.gh⟩ fun tb M5 F5 H5 q5 e5 o5 => ?_⟩
    have fin : ∀ F6 M6 acc6 H6, Same F5 F6 → M6 Dl = none → Ok X.K F6 (up M6 Dl (.lst acc6)) H6 → Wd (i + 1) acc6 M6 → ∃ m', m' < ds.length - i ∧ m' = ds.length - (i + 1) ∧ i + 1 ≤ ds.length ∧ ∃ F' M' acc xs, Same F1 F' ∧ Ok X.K F' (up M' Dl (.lst acc)) H6 ∧ M' Dl = none ∧ H6 Dl = some (.lst xs) ∧ Wd (i + 1) acc M' := by
      intro F6 M6 acc6 H6 e6 n6 o6 q6
      obtain ⟨_, xs6, h6, _⟩ := o6.mt Dl _ up_same
      exact ⟨_, by omega, rfl, hlt, F6, M6, acc6, xs6, ((e2.trans e3).trans e5).trans e6, o6, n6, h6, q6⟩
    cases tb with
    | true =>
      refine iteT ⟨tD X.K J ρ4 M5 _, q5.1 rfl, F5, ⟨en4.mono e5, o5, J.mono _ _ (((e1.trans e2).trans e3).trans e5) st.gh⟩, fun y v M7 F7 H7 ⟨M4, n4, e4, q7⟩ e7 o7 r7 => ?_⟩
      subst e4
      obtain ⟨_, ys, hy, ry⟩ := o7.mt Dl _ up_same
      refine ⟨ys, hy, by rw [ry.length, sizeLine_eq]; omega, fin F7 M4 (acc ++ [y]) _ e7 n4 ?_ q7⟩
      have := o7.set (o := .lst (ys ++ [v])) (d' := .lst (acc ++ [y])) up_same ⟨_, upd_same, ry.append (.cons r7 .nil)⟩
      rwa [up_up] at this
    | false =>
      obtain ⟨M4, n4, e4, q7⟩ := q5.2 rfl
      subst e4
      exact iteF (fin F5 M4 acc H5 (Same.refl _) n4 o5 q7)
  · have e : i = ds.length := by omega
    subst e
    obtain ⟨_, ys, hy, ry⟩ := o2.mt Dl _ up_same
    obtain ⟨s1, o4⟩ := o2.freeze up_same hy
    rw [rm_up hn] at o4
    exact .inl ⟨w.stops H2 (e2.trans o2.ex), k _ _ _ _ _ (hd acc M' q) ((e1.trans e2).trans s1) o4 (.lst upd_same (ry.mono s1))⟩
theorem ex_lc {own : List (Str × Nat)} (hc : X.calm = true) (h : IX X J tg iter ρ M (LcW X J scope (own.map (·.2)) tg ifs elt ρ P)) (hN : X.N.Nodup := by rfl) (ok : blkC X.N X.env.scope scope own = true := by rfl) (hs : ∀ x, foldedSetIterable iter X.env x = pure x := by intro _; rfl) :
    EX X J (.ListComp elt [⟨tg, iter, ifs, 0⟩] scope pos) ρ M P :=
  ex_of (pe_lcA hc hN (blkOk_by ok) hs) fun F σ H Q st k => lc_go st k h
theorem g1_lc {y : Str} {py : Pos} {spos : Pos} {own : List (Str × Nat)} (i : Nat) (hc : X.calm = true) (h : IX X J tg iter ρ M (LcW X J scope (own.map (·.2)) tg ifs elt ρ fun d M1 => B.nx (put ρ i d) M1)) (hN : X.N.Nodup := by rfl) (hy : X.N[i]? = some y := by rfl) (hyl : X.env.scope.names.lookup y = some .local := by rfl)
    (hsw : swapsWith (.ListComp elt [⟨tg, iter, ifs, 0⟩] scope pos) (some (.Name y py)) spos.line X.env = pure true := by rfl) (ok : blkC X.N X.env.scope scope own = true := by rfl) (hs : ∀ x, foldedSetIterable iter X.env x = pure x := by intro _; rfl) :
    G1 X J (.Assign [.Name y py] (.ListComp elt [⟨tg, iter, ifs, 0⟩] scope pos) spos) ρ M B :=
  g1_of (ps_setLc hc hN hy hyl hsw pi_any (blkOk_by ok) (fun s H C cl fp => ⟨fun pins s' σ H' v u Q I r ⟨g, h, q⟩ => (h s H C cl fp).run pins s' σ H' v u Q I r q⟩)
    (fun s H C cl fp => ⟨fun pins s' σ H' Q I ⟨t, h, q⟩ => (h s H C cl fp).run pins s' σ H' Q I q⟩) (fun s H C cl fp => ⟨fun pins s' σ H' Q I ⟨t, h, q⟩ => (h s H C cl fp).run pins s' σ H' Q I q⟩) hs)
    fun F σ H E st k => lc_go st (P := fun d M1 => B.nx (put ρ i d) M1) (fun d v M' F' H' q e o r => k.nx F' _ H' _ M' q e ((st.en.mono e).put i r) o) h

/-! ### calls of defs -/
abbrev Tr := List D → Mem → (D → Mem → Prop) → Prop
def SpD (K : PySem.W.Frag) (T : Tr) : Sp := fun vs H Q _ => ∃ F M ds P, Ok K F M H ∧ Rps K F vs ds ∧ T ds M P ∧ Kt K F P Q
theorem ex_call {k : Nat} {f : Addr} {fd : FuncData} {ps : List Str} {T : Tr} {dvs : List V} {dds : List D} {ds : List Value} (G : FnOk X.prog X.w X.K X.mg X.base CX0 k f fd ps (SpD X.K T)) (hr : Room k X.A) (hm : X.mg x = some (.ref f)) (hk : PySem.W.keepIn X.K (.ref f) = true)
    (hb : Binds X.K fd ps ds) (hd : Vals dvs ds) (hdd : ∀ F, Rps X.K F dvs dds) (h : AX X J (e :: es) ρ M fun ds M1 => T (ds ++ dds) M1 P) (hg : Gl X x := by rfl) (hdb : (x == ("__debug__" : Str)) = false := by decide)
    (he : starEach (e :: es) X.env = (false, eval e X.env) :: starEach es X.env := by rfl) (hpl : (backTo pos (starEach es X.env)).any (·.1) = false := by rfl) : EX X J (.Call (.Name x p) (e :: es) [] pos) ρ M P :=
  ex_of (pe_call (E := E0) G hr hg hm hk hb hd pass0 pa_any hdb he hpl) fun F σ H Q st k => h.go st fun ds vs M1 F1 H1 q e1 o1 r1 => ⟨F1, M1, _, P, o1, r1.append (hdd F1), q, k.to e1⟩
theorem ex_call0 {k : Nat} {f : Addr} {fd : FuncData} {ps : List Str} {T : Tr} {dvs : List V} {dds : List D} {ds : List Value} (G : FnOk X.prog X.w X.K X.mg X.base CX0 k f fd ps (SpD X.K T)) (hr : Room k X.A) (hm : X.mg x = some (.ref f)) (hk : PySem.W.keepIn X.K (.ref f) = true)
    (hb : Binds X.K fd ps ds) (hd : Vals dvs ds) (hdd : ∀ F, Rps X.K F dvs dds) (h : T dds M P) (hg : Gl X x := by rfl) (hdb : (x == ("__debug__" : Str)) = false := by decide) : EX X J (.Call (.Name x p) [] [] pos) ρ M P :=
  ex_of (pe_call0 (E := E0) G hr hg hm hk hb hd pass0 hdb) fun F σ H Q st k => ⟨F, M, dds, P, st.ok, by simpa using hdd F, h, k⟩
/-- a def by its body -/
theorem fn_okD {P' : Program} {w : World} {K : PySem.W.Frag} {mg : Str → Option Value} {base : Heap} {x qual : Str} {params : Arguments} {body : List Stmt} {scope : Scope} {dvs : List V} {kws : List (Str × V)} {f : Addr} {fd : FuncData} {N ps : List Str} {k : Nat} {T : Tr}
    (F : FunD K x qual params body scope dvs kws f fd) (S : FnScope N ps scope) (len : ∀ ds M P, T ds M P → ds.length = ps.length)
    (hbody : ∀ (cdv : Value) (A : Around) (outer : List PySem.Env) (s : Shared) (H : Hp) (ds : List D) (M : Mem) (P : D → Mem → Prop), Room k (A.deeper (PyProof.Rows.envOfC qual scope s.heap.objs.size f cdv)) → T ds M P →
      GX (cxOf CX0 P' w K mg base N qual scope f cdv A outer s H E0).nox Gh.triv body (startD (N.length - ps.length) ds) M ⟨fun _ M' => P .non M', P, fun _ _ => False, fun _ _ => False⟩) : FnOk P' w K mg base CX0 (k + 1) f fd ps (SpD K T) := by
  refine F.ok S (fun vs H Q E ⟨F0, M, ds, P, o, r, t, q⟩ => by rw [r.length]; exact len ds M P t) (fun cdv A outer s H vs Q E hr h => ?_)
  obtain ⟨F0, M, ds, P, o, r, t, q⟩ := h
  have hb := hbody cdv A outer s H ds M P hr t
  refine ⟨_, PSs.nox (X := cxOf CX0 P' w K mg base N qual scope f cdv A outer s H E) (show PSs (cxOf CX0 P' w K mg base N qual scope f cdv A outer s H E).nox body _ from hb), F0, ⟨?_, o, trivial⟩, ⟨fun F' σ' H' ρ' M' p e en o' => ?_, q, fun F' σ' H' ρ' M' p => p.elim, fun F' σ' H' ρ' M' p => p.elim⟩⟩
  · have hl : vs.length = ps.length := by rw [r.length]; exact len ds M P t
    unfold L2.start
    rw [hl]
    exact En.start _ r
  · exact q _ _ _ _ _ p e o' .non

/-! ### built-in calls -/
def rAnyC (X : Cx) (f : Value) : List V → Hp → VK → Prop := fun vs H Q => ∃ r, CallR X f r ∧ r vs H Q
theorem cr_anyR {f : Value} : CallR X f (rAnyC X f) := fun pins s σ H vs us Q I r ⟨t, h, q⟩ => h pins s σ H vs us Q I r q
def CD (X : Cx) (f : Value) (ds : List D) (M : Mem) (P : D → Mem → Prop) : Prop :=
  ∃ r, CallR X f r ∧ ∀ F H vs Q, Ok X.K F M H → Rps X.K F vs ds → Kt X.K F P Q → r vs H Q
theorem ex_blt {id : String} (hm : X.mg x = none) (hv : bootBuiltins x = some (.builtin id)) (h : AX X J (e :: es) ρ M fun ds M1 => CD X (.builtin id) ds M1 P) (hg : Gl X x := by rfl) (hn : x ≠ "__name__" := by decide) (hdb : (x == ("__debug__" : Str)) = false := by decide)
    (he : starEach (e :: es) X.env = (false, eval e X.env) :: starEach es X.env := by rfl) (hpl : (backTo pos (starEach es X.env)).any (·.1) = false := by rfl) : EX X J (.Call (.Name x p) (e :: es) [] pos) ρ M P :=
  ex_of (pe_callB cr_anyR hg hm hv pa_any hn hdb he hpl) fun F σ H Q st k => h.go st fun ds vs M1 F1 H1 q e1 o1 r1 => by
    obtain ⟨r, h1, h2⟩ := q
    exact ⟨r, h1, h2 F1 H1 vs Q o1 r1 (k.to e1)⟩
theorem ex_ty {T : String} (hm : X.mg x = none) (hv : bootBuiltins x = some (.type T)) (h : AX X J (e :: es) ρ M fun ds M1 => CD X (.type T) ds M1 P) (hg : Gl X x := by rfl) (hn : x ≠ "__name__" := by decide) (hdb : (x == ("__debug__" : Str)) = false := by decide)
    (he : starEach (e :: es) X.env = (false, eval e X.env) :: starEach es X.env := by rfl) (hpl : (backTo pos (starEach es X.env)).any (·.1) = false := by rfl) : EX X J (.Call (.Name x p) (e :: es) [] pos) ρ M P :=
  ex_of (pe_callTy cr_anyR hg hm hv pa_any hn hdb he hpl) fun F σ H Q st k => h.go st fun ds vs M1 F1 H1 q e1 o1 r1 => by
    obtain ⟨r, h1, h2⟩ := q
    exact ⟨r, h1, h2 F1 H1 vs Q o1 r1 (k.to e1)⟩
theorem bb_len : bootBuiltins "len" = some (.builtin "len") := by decide +kernel
theorem bb_abs : bootBuiltins "abs" = some (.builtin "abs") := by decide +kernel
theorem bb_repr : bootBuiltins "repr" = some (.builtin "repr") := by decide +kernel
theorem bb_isi : bootBuiltins "isinstance" = some (.builtin "isinstance") := by decide +kernel
theorem bb_min : bootBuiltins "min" = some (.builtin "min") := by decide +kernel
theorem bb_max : bootBuiltins "max" = some (.builtin "max") := by decide +kernel
theorem bb_sum : bootBuiltins "sum" = some (.builtin "sum") := by decide +kernel
theorem bb_all : bootBuiltins "all" = some (.builtin "all") := by decide +kernel
theorem bb_any : bootBuiltins "any" = some (.builtin "any") := by decide +kernel
theorem bb_int : bootBuiltins "int" = some (.type "int") := by decide +kernel
theorem bb_str : bootBuiltins "str" = some (.type "str") := by decide +kernel
theorem bb_list : bootBuiltins "list" = some (.type "list") := by decide +kernel
theorem bb_tuple : bootBuiltins "tuple" = some (.type "tuple") := by decide +kernel
theorem cd_len {d : D} {ds : List D} (s : Sq M d ds) (q : P (.int (ds.length : Int)) M) : CD X (.builtin "len") [d] M P :=
  ⟨_, call_len_seq, fun F H vs Q o r k => by
    cases r with
    | cons h1 r =>
      cases r
      obtain ⟨a, xs, rfl, h2, r2⟩ := s.get o h1
      refine ⟨a, xs, rfl, h2, ?_⟩
      rw [r2.length]
      exact k.here q o (.int _)⟩
theorem cd_lenS {z : Str} (hz : z.length ≤ 1000000) (q : P (.int (z.length : Int)) M) : CD X (.builtin "len") [.str z] M P :=
  ⟨_, call_len_str, fun F H vs Q o r k => by
    cases r with
    | cons h1 r =>
      cases r
      cases h1
      exact ⟨z, rfl, by rw [sizeLine_eq]; omega, k.here q o (.int _)⟩⟩
theorem cd_list {d : D} {ds : List D} (s : Sq M d ds) (q : P (.lst ds) M) : CD X (.type "list") [d] M P :=
  ⟨_, call_list_of, fun F H vs Q o r k => by
    cases r with
    | cons h1 r =>
      cases r
      obtain ⟨a, xs, rfl, h2, r2⟩ := s.get o h1
      exact ⟨a, xs, rfl, h2, fun l hl => k _ _ _ _ _ q (o.fixSame hl) (o.fix hl) (.lst upd_same (r2.mono (o.fixSame hl)))⟩⟩
theorem cd_tuple {d : D} {ds : List D} (s : Sl M d ds) (q : P (.tup ds) M) : CD X (.type "tuple") [d] M P :=
  ⟨_, call_tuple_of, fun F H vs Q o r k => by
    cases r with
    | cons h1 r =>
      cases r
      obtain ⟨a, xs, rfl, h2, r2⟩ := s.get o h1
      exact ⟨a, xs, rfl, .inl ⟨SqL.of h2, fun l hl => k _ _ _ _ _ q (o.fixSame hl) (o.fix hl) (.tup (SqT.of upd_same) (r2.mono (o.fixSame hl)))⟩⟩⟩
theorem cd_tupleT {ds : List D} (q : P (.tup ds) M) : CD X (.type "tuple") [.tup ds] M P :=
  ⟨_, call_tuple_of, fun F H vs Q o r k => by
    cases r with
    | cons h1 r =>
      cases r
      cases h1 with
      | tup h2 r2 => exact ⟨_, _, rfl, .inr ⟨same_t o.ex h2, k.here q o (.tup h2 r2)⟩⟩⟩
theorem cd_intB {t : Bool} (q : P (.int (if t = true then 1 else 0)) M) : CD X (.type "int") [.bl t] M P :=
  ⟨_, call_int1, fun F H vs Q o r k => by
    cases r with
    | cons h1 r =>
      cases r
      cases h1
      exact .inr ⟨t, rfl, k.here q o (.int _)⟩⟩
theorem cd_intI {t : Int} (q : P (.int t) M) : CD X (.type "int") [.int t] M P :=
  ⟨_, call_int1, fun F H vs Q o r k => by
    cases r with
    | cons h1 r =>
      cases r
      cases h1
      exact .inl ⟨t, rfl, k.here q o (.int _)⟩⟩
theorem cd_abs {t : Int} (q : P (.int (if t < 0 then -t else t)) M) : CD X (.builtin "abs") [.int t] M P :=
  ⟨_, call_abs, fun F H vs Q o r k => by
    cases r with
    | cons h1 r =>
      cases r
      cases h1
      exact ⟨t, rfl, k.here q o (.int _)⟩⟩
/-! ### == and repr of data -/
mutual
def D.py : D → Option PyData
  | .non => some .none
  | .bl b => some (.bool b)
  | .int i => some (.int i)
  | .str x => some (.str x)
  | .tup ds => (pys ds).map .tuple
  | .lst ds => (pys ds).map .list
  | _ => none
def pys : List D → Option (List PyData)
  | [] => some []
  | d :: ds => (D.py d).bind fun z => (pys ds).map fun zs => z :: zs
end
mutual
theorem Rp.dp (hs : Same F H) : ∀ {d : D} {v : V} {z : PyData}, Rp K F v d → d.py = some z → Dp K H v z
  | .non, _, z, .non, e => by simp [D.py] at e; subst e; exact .non
  | .bl b, _, z, .bl _, e => by simp [D.py] at e; subst e; exact .bl b
  | .int i, _, z, .int _, e => by simp [D.py] at e; subst e; exact .int i
  | .str x, _, z, .str _, e => by simp [D.py] at e; subst e; exact .str x
  | .tup ds, _, z, .tup h r, e => by
    rw [D.py] at e
    obtain ⟨zs, h1, rfl⟩ := Option.map_eq_some_iff.mp e
    exact .tup (same_t hs h) (Rps.dps hs r h1)
  | .lst ds, _, z, .lst h r, e => by
    rw [D.py] at e
    obtain ⟨zs, h1, rfl⟩ := Option.map_eq_some_iff.mp e
    exact .lst (SqL.of (hs _ _ h)) (Rps.dps hs r h1)
  | .adr _, _, z, _, e => by simp [D.py] at e
  | .ty _, _, z, _, e => by simp [D.py] at e
  | .ins _ _, _, z, _, e => by simp [D.py] at e
  | .scr _, _, z, _, e => by simp [D.py] at e
  | .dct _, _, z, _, e => by simp [D.py] at e
  | .stup _, _, z, _, e => by simp [D.py] at e
theorem Rps.dps (hs : Same F H) : ∀ {ds : List D} {vs : List V} {zs : List PyData}, Rps K F vs ds → pys ds = some zs → DpAll K H vs zs
  | [], _, zs, .nil, e => by simp [pys] at e; subst e; exact .nil
  | d :: ds, _, zs, .cons h r, e => by
    rw [pys] at e
    obtain ⟨z, h1, e⟩ := Option.bind_eq_some_iff.mp e
    obtain ⟨ws, h2, rfl⟩ := Option.map_eq_some_iff.mp e
    exact .cons (Rp.dp hs h h1) (Rps.dps hs r h2)
end
theorem od_eqD {d1 d2 : D} {z1 z2 : PyData} (hu : X.A.units + 64 < cLine) (h1 : d1.py = some z1) (h2 : d2.py = some z2) (s1 : SeqAt.shaped z1 = true) (s2 : SeqAt.shaped z2 = true) (q : P (.bl (PyData.eqv z1 z2)) M) : OD X (compareOp .Eq) d1 d2 M P :=
  ⟨_, op_eqD hu, fun F H v u Q o rx ry k => ⟨z1, z2, rx.dp o.ex h1, ry.dp o.ex h2, s1, s2, k.here q o (.bl _)⟩⟩
theorem od_neD {d1 d2 : D} {z1 z2 : PyData} (hu : X.A.units + 64 < cLine) (h1 : d1.py = some z1) (h2 : d2.py = some z2) (s1 : SeqAt.shaped z1 = true) (s2 : SeqAt.shaped z2 = true) (q : P (.bl (!PyData.eqv z1 z2)) M) : OD X (compareOp .NotEq) d1 d2 M P :=
  ⟨_, op_neD hu, fun F H v u Q o rx ry k => ⟨z1, z2, rx.dp o.ex h1, ry.dp o.ex h2, s1, s2, k.here q o (.bl _)⟩⟩
end
end DX
namespace DX
open PySem PySem.Spec L2

/-! ### defs that are called where no guard stands: what repr asks -/
structure FnG (pg : Program) (w : World) (K : PySem.W.Frag) (mg : Str → Option Value) (base : Heap) (k : Nat) (f : Addr) (fd : FuncData) (ps : List Str) (T : Tr) : Prop where
  len : ∀ ds M P, T ds M P → ds.length = ps.length
  go : ∀ (A : Around) (outer : List PySem.Env) (s : Shared) (H F : Hp) (M : Mem) (ds : List D) (P : D → Mem → Prop) (args : Args) (us : List Value) (vs : List V) (Q : VK), A.guards = some [] → Room k A → Env0 pg w K mg base A outer s H →
    BindsTo s fd args (ps.zip us) → Vals vs us → Ok K F M H → Rps K F vs ds → T ds M P → Kt K F P Q → codeAny (model pg w) A (.call (.ref f) args) (CR CX0 outer pg w H s Q E0) s
theorem FnG.mono {pg : Program} {w : World} {K : PySem.W.Frag} {mg : Str → Option Value} {base : Heap} {j k : Nat} {f : Addr} {fd : FuncData} {ps : List Str} {T : Tr} (G : FnG pg w K mg base j f fd ps T) (h : j ≤ k) : FnG pg w K mg base k f fd ps T :=
  ⟨G.len, fun A outer s H F M ds P args us vs Q g hr => G.go A outer s H F M ds P args us vs Q g (hr.mono h)⟩
section
variable {X : Cx} {J : Gh} {e a b c : Expr} {es : List Expr} {ρ ρ' : DEnv} {M M' : Mem} {F F' H H' : Hp} {σ : St} {B : Bd} {K : PySem.W.Frag} {pos p apos : Pos} {x : Str} {P : D → Mem → Prop}
theorem run_fnG {k : Nat} {f : Addr} {fd : FuncData} {ps : List Str} {T : Tr} {dvs : List V} {dds : List D} {dus : List Value} {pins : List (Addr × Obj)} {s : Shared} {Q : VK} {us : List Value} {vs : List V} {ds : List D} (G : FnG X.prog X.w X.K X.mg X.base k f fd ps T) (hg : X.A.guards = some []) (hr : Room k X.A)
    (hb : Binds X.K fd ps dus) (hd : Vals dvs dus) (hdd : ∀ F, Rps X.K F dvs dds) (I : L2.Inv X pins σ H s) (r : Vals vs us) (o : Ok X.K F M H) (rd : Rps X.K F vs ds) (t : T (ds ++ dds) M P) (kt : Kt X.K F P Q) :
    wpAny (model X.prog X.w) X.A (call (.ref f) us) (EP X pins σ Q) X.xe s := by
  have both : Vals (vs ++ dvs) (us ++ dus) := r.append hd
  have size : (us ++ dus).length = ps.length := by rw [← both.length, (rd.append (hdd F)).length]; exact G.len _ _ _ t
  refine wpAny_call (codeAny_mono (G.go X.A X.stack s H F M _ P ⟨us, []⟩ (us ++ dus) (vs ++ dvs) Q hg hr I.env0 (hb s us I.kIn size) both o (rd.append (hdd F)) t kt) fun res s' end_ => ?_)
  match res, end_ with
  | .error _, end_ => exact end_.elim
  | .ok (.ret _), end_ => exact I.after end_
  | .ok .next, end_ => exact end_.elim
  | .ok .brk, end_ => exact end_.elim
  | .ok .cont, end_ => exact end_.elim
/-- f(e, ..) -/
theorem ex_callG {k : Nat} {f : Addr} {fd : FuncData} {ps : List Str} {T : Tr} {dvs : List V} {dds : List D} {dus : List Value} (G : FnG X.prog X.w X.K X.mg X.base k f fd ps T) (hgd : X.A.guards = some []) (hr : Room k X.A) (hm : X.mg x = some (.ref f)) (hk : PySem.W.keepIn X.K (.ref f) = true)
    (hb : Binds X.K fd ps dus) (hd : Vals dvs dus) (hdd : ∀ F, Rps X.K F dvs dds) (h : AX X J (e :: es) ρ M fun ds M1 => T (ds ++ dds) M1 P) (hg : Gl X x := by rfl) (hdb : (x == ("__debug__" : Str)) = false := by decide)
    (he : starEach (e :: es) X.env = (false, eval e X.env) :: starEach es X.env := by rfl) (hpl : (backTo pos (starEach es X.env)).any (·.1) = false := by rfl) : EX X J (.Call (.Name x p) (e :: es) [] pos) ρ M P := by
  refine ⟨fun pins s σ H Q I ⟨F, st, kt⟩ => wpAny_Call_Name_kw (ld_glob I hg hm (PySem.W.callWith_K (h₀ := X.base) I.ok.mod.kin hk (thn ((pa_any (X := X) (es := e :: es)).run pos pins s σ H (fun vs H1 => ∃ F1 M1 ds, Same F F1 ∧ Ok X.K F1 M1 H1 ∧ Rps X.K F1 vs ds ∧ T (ds ++ dds) M1 P) I
    (h.go st fun ds vs M1 F1 H1 q e1 o1 r1 => ⟨F1, M1, ds, e1, o1, r1, q⟩)) fun us s1 ⟨vs, H1, I1, r, F1, M1, ds, e1, o1, rd, t⟩ => ⟨I1.kIn, run_fnG G hgd hr hb hd hdd I1 r o1 rd t (kt.to e1)⟩) he hpl) hdb)⟩
end
/-- a def by its body -/
theorem fn_okG {pg : Program} {w : World} {K : PySem.W.Frag} {mg : Str → Option Value} {base : Heap} {x qual : Str} {params : Arguments} {body : List Stmt} {scope : Scope} {dvs : List V} {kws : List (Str × V)} {f : Addr} {fd : FuncData} {N ps : List Str} {k : Nat} {T : Tr}
    (F : FunD K x qual params body scope dvs kws f fd) (S : FnScope N ps scope) (len : ∀ ds M P, T ds M P → ds.length = ps.length)
    (hbody : ∀ (cdv : Value) (A : Around) (outer : List PySem.Env) (s : Shared) (H : Hp) (ds : List D) (M : Mem) (P : D → Mem → Prop), A.guards = some [] → Room k (A.deeper (PyProof.Rows.envOfC qual scope s.heap.objs.size f cdv)) → T ds M P →
      GX (cxOf CX0 pg w K mg base N qual scope f cdv A outer s H E0).nox Gh.triv body (startD (N.length - ps.length) ds) M ⟨fun _ M' => P .non M', P, fun _ _ => False, fun _ _ => False⟩) : FnG pg w K mg base (k + 1) f fd ps T := by
  obtain ⟨oc, od, dV, kV, doc, pm, an, cdv, ct, osl, rfl, lk, hcd, _, _⟩ := F.ex
  refine ⟨len, fun A outer s H F0 M ds P args us vs Q hg hr e0 hb rv o rd t kt => ?_⟩
  have many : vs.length = ps.length := by rw [rd.length]; exact len ds M P t
  have here : K.In s.heap := e0.mod.kin.keeps fun ad ob z => (e0.bs ad ob z).1
  have free : s.heap.NoLimit := e0.mod.nolimit.keeps fun ad ob z => (e0.bs ad ob z).1
  have kinds : ∀ q ∈ ps.zip us, scope.names.lookup q.1 = some .local ∨ (scope.names.lookup q.1 = some .cell ∧ ((PySem.cellsFrom (s.heap.objs.size + 1) scope.names []).lookup q.1).isSome = true) := by
    rintro ⟨n, v⟩ hq
    exact (S.par n (List.of_mem_zip hq).1).imp id fun z => ⟨z, PySem.W.cellsFrom_some _ _ _ (.inl z)⟩
  refine codeAny_call_function hr.depth (here _ _ lk) rfl S.co S.gen rfl (PySem.W.codeRec_of here hcd) (hb _ _ _ _ (wpAny_newFunctionEnv_cells S.kind kinds fun env hen s1 inside => ?_))
  subst hen
  refine ⟨free.keeps inside.toInCall.keep, codeAny_func ?_⟩
  have body_ := hbody cdv A outer s H ds M P hg (hr.deeper _) t
  have J0 : L2.Inv (cxOf CX0 pg w K mg base N qual scope f cdv A outer s H E0) [] (L2.start N vs) H s1 := inv_start S hr.hd e0 many rv inside
  have en : En K F0 (L2.start N vs) (startD (N.length - ps.length) ds) := by
    unfold L2.start
    rw [many]
    exact En.start _ rd
  have kd : Kd K F0 ⟨fun _ M' => P .non M', P, fun _ _ => False, fun _ _ => False⟩ { nx := fun _ H' => Q .non H', rt := Q } :=
    ⟨fun F' σ' H' ρ' M' q z1 z2 z3 => kt _ _ _ _ _ q z1 z3 .non, kt, fun F' σ' H' ρ' M' q => q.elim, fun F' σ' H' ρ' M' q => q.elim⟩
  refine wpAny_mono ((PSs.nox (X := cxOf CX0 pg w K mg base N qual scope f cdv A outer s H E0) (show PSs (cxOf CX0 pg w K mg base N qual scope f cdv A outer s H E0).nox body _ from body_)).run [] s1 (L2.start N vs) H _ J0 ⟨F0, ⟨en, o, trivial⟩, kd⟩) (fun fl s' q => ?_) fun er s' q => q
  match fl, q with
  | .ret u, ⟨v, σ', H', I, r, q⟩ => exact ⟨v, H', I.os, I.bare, I.base, I.hok, r, q⟩
  | .next, ⟨σ', H', I, q⟩ => exact ⟨V.non, H', I.os, I.bare, I.base, I.hok, rfl, q⟩
  | .brk, ⟨_, _, _, q⟩ => exact q.elim
  | .cont, ⟨_, _, _, q⟩ => exact q.elim

/-! ### the law's own call -/
/-- the script is handed in as a list that is known to its object, or one of the module's -/
theorem law_goG {pg : Program} {w : World} {K : PySem.W.Frag} {mg mb : Str → Option Value} {k : Nat} {fa a : Addr} {fd : FuncData} {x : Str} {T : Tr} {s1 : Shared} {vs : List Value} {ns : List Int}
    (KX : K.In s1.heap) (gN : s1.heap.Ns mainGlobals mg) (bN : s1.heap.Ns builtinsNs mb) (bA : ∀ y : Str, y ≠ "__name__" → mb y = bootBuiltins y) (lim : s1.heap.NoLimit) (gens : s1.gens = #[])
    (ha : s1.heap.get? a = some { cls := .type "list", data := .seq vs.toArray }) (hi : PyProof.Rows.IntsAre vs ns) (hl : ns.length ≤ sizeLine) (hr : Room k callerA)
    (G : ∀ base : Heap, K.In base → base.Ns mainGlobals mg → FnG pg w K mg base k fa fd [x] T) (hb : ∀ (s : Shared) (u : Value), BindsTo s fd ⟨[u], []⟩ [(x, u)])
    (ht : ∀ H : Hp, SqL K H a (ns.map V.int) → ∃ F M ds, Ok K F M H ∧ Rps K F [.ref a] ds ∧ T ds M fun d _ => d = .bl true) :
    codeAny (model pg w) callerA (.call (.ref fa) ⟨[.ref a], []⟩) (fun r s' => r = .ok (.ret (.bool true)) ∧ OldK s1.heap s'.heap ∧ s'.os = s1.os ∧ PyProof.Rows.AllBare s'.gens) s1 := by
  have vals := vals_ints hi
  have main : ∀ H : Hp, (∀ b u, H b = some u → b = a ∧ K.lookup a = none ∧ u = .frz { cls := .type "list", data := .seq vs.toArray } (.lst (ns.map V.int))) → SqL K H a (ns.map V.int) → HOk pg w H s1.heap →
      codeAny (model pg w) callerA (.call (.ref fa) ⟨[.ref a], []⟩) (fun r s' => r = .ok (.ret (.bool true)) ∧ OldK s1.heap s'.heap ∧ s'.os = s1.os ∧ PyProof.Rows.AllBare s'.gens) s1 := by
    intro H only seq hok
    have kept : ∀ {b : Addr} {m : Str → Option Value}, s1.heap.Ns b m → (hidT s1.heap H).Ns b m := by
      rintro b m ⟨ob, es, ep, h1, h2, h3⟩
      refine ⟨ob, es, ep, hidT_get h1 ?_, h2, h3⟩
      cases q : H b with
      | none => rfl
      | some u =>
        obtain ⟨rfl, _, _⟩ := only b u q
        rw [ha] at h1; cases h1
        cases h2
    have kin : K.In (hidT s1.heap H) := by
      intro b ob h1
      refine hidT_get (KX b ob h1) ?_
      cases q : H b with
      | none => rfl
      | some u =>
        obtain ⟨rfl, h2, _⟩ := only b u q
        rw [h2] at h1; cases h1
    have start_ : Env0 pg w K mg (hidT s1.heap H) callerA [] s1 H :=
      ⟨rfl, ⟨kin, kept gN, ⟨mb, kept bN, bA⟩, let ⟨mc, z1, z2⟩ := lim; ⟨mc, kept z1, z2⟩⟩, fun b ob z => of_hidT z, Nat.le_of_eq (hidT_size _ _), trivial, fun b z => (List.not_mem_nil z).elim, hok, .of_eq gens⟩
    obtain ⟨F, M, ds, o, rd, t⟩ := ht H seq
    refine codeAny_mono ((G _ kin (kept gN)).go callerA [] s1 H F M ds _ ⟨[.ref a], []⟩ [.ref a] [.ref a] (fun v _ => v = .bl true) rfl hr start_ (hb s1 (.ref a)) (.cons rfl .nil) o rd t fun d v M' F' H' z1 _ _ z2 => by subst z1; cases z2; rfl) fun res s' end_ => ?_
    match res, end_ with
    | .error _, end_ => exact end_.elim
    | .ok .next, end_ => exact end_.elim
    | .ok .brk, end_ => exact end_.elim
    | .ok .cont, end_ => exact end_.elim
    | .ok (.ret u), ⟨v, H', h1, h2, h3, h4, h5, h6⟩ =>
      subst h6
      cases (show u = Value.bool true from h5)
      refine ⟨rfl, OldK.of_keep fun b ob z => ?_, h1, h2⟩
      cases q : H b with
      | none => exact h3.keep b ob z q List.not_mem_nil List.not_mem_nil
      | some u =>
        obtain ⟨rfl, _, rfl⟩ := only b u q
        obtain ⟨e1, _⟩ := h4 b _ (h3.frzs b _ _ q)
        rw [ha] at z; cases z
        exact e1
  cases q : K.lookup a with
  | some ob =>
    have e1 := KX a ob q
    rw [ha] at e1; cases e1
    exact main (fun _ => none) (fun b u z => by cases z) (.inr ⟨_, vs.toArray, _, q, rfl, rfl, rfl, by simpa [hi.length] using hl, by simpa using vals⟩) fun b u z => by cases z
  | none =>
    have own : ∀ b u, (if b = a then some (HO.frz { cls := .type "list", data := .seq vs.toArray } (.lst (ns.map V.int))) else none) = some u → b = a ∧ u = .frz { cls := .type "list", data := .seq vs.toArray } (.lst (ns.map V.int)) := by
      intro b u z
      by_cases e : b = a
      · rw [if_pos e] at z; cases z; exact ⟨e, rfl⟩
      · rw [if_neg e] at z; cases z
    refine main (fun b => if b = a then some (.frz { cls := .type "list", data := .seq vs.toArray } (.lst (ns.map V.int))) else none) (fun b u z => ⟨(own b u z).1, q, (own b u z).2⟩) (.inl (.inr ⟨_, if_pos rfl⟩)) fun b u z => ?_
    obtain ⟨rfl, rfl⟩ := own b u z
    exact ⟨ha, by rw [List.length_map]; exact hl, vs, _, vals, ha⟩
theorem walk_ofG {l : PySem.W.OpenLaw} {k : Nat} {q : Program} {loose : List Str} {XP : (Str → Option Value) → Heap → Prop} {YP : World → Heap → Prop} {d : DefRec} {x : Str} (hn : l.most = some 63) (hdf : d.params.defaults = []) (hr : Room k callerA)
    (G : ∀ (w : World) (mg : Str → Option Value) (fa : Addr) (h : Heap), YP w h → h.Ns mainGlobals mg → mg d.name = some (.ref fa) →
      ∃ (K : PySem.W.Frag) (fd : FuncData) (T : Tr), K.In h ∧ (∀ (s : Shared) (u : Value), BindsTo s fd ⟨[u], []⟩ [(x, u)]) ∧
        (∀ (H : Hp) (a : Addr) (ns : List Int), ns.length ≤ 63 → SqL K H a (ns.map V.int) → ∃ F M ds, Ok K F M H ∧ Rps K F [.ref a] ds ∧ T ds M fun d _ => d = .bl true) ∧
        ∀ base : Heap, K.In base → base.Ns mainGlobals mg → FnG l.prog w K mg base k fa fd [x] T) :
    PySem.W.WalkO q loose XP YP l.row.toRowW d [] (fun f vs => PySem.call f vs) :=
  Att.attach_call hn hdf fun w s0 s1 mg mb fa o pm cd doc a vs ns Gr Y ho hd hcd hmg hobj hints hlen hgens => by
    obtain ⟨K, fd, T, KX, hb, ht, hF⟩ := G w mg fa _ Y Gr.T.g hmg
    exact law_goG KX Gr.T.g Gr.T.b Gr.T.builtins Gr.T.nolimit hgens hobj hints (Nat.le_trans hlen (by decide)) hr hF hb fun H hS => ht H a ns hlen hS

/-! ### repr -/
theorem repr_all {K : PySem.W.Frag} {X : Cx} {pins : List (Addr × Obj)} {σ : St} {H : Hp} {s : Shared} {z : PyData} {v : V} {u : Value} {Q : Value → Shared → Prop} (hg : X.A.guards = some []) (hu : X.A.units + (z.depth + 1) < cLine) (I : L2.Inv X pins σ H s) (h : Dp X.K H v z) (r : RelV v u) (hs : z.showable = true) (hd : z.hasDict = false)
    (hz : z.shown.length ≤ sizeLine) (k : ∀ t s', L2.Inv X pins σ H s' → Q (.str z.shown t) s') : wpAny (model X.prog X.w) X.A (call (.builtin "repr") [u]) Q X.xe s := by
  cases h with
  | non => cases r; exact PySem.P.repr_of_none (by simpa [PyData.shown] using k _ _ (I.tok _))
  | bl b => cases r; exact PySem.P.repr_of_bool (by simpa [PyData.shown] using k _ _ (I.tok _))
  | int i =>
    obtain ⟨t, rfl⟩ := r
    exact PySem.P.repr_of_int (by simpa [PyData.showable] using hs) (by simpa [PyData.shown] using k _ _ (I.tok _))
  | str y =>
    obtain ⟨t, rfl⟩ := r
    exact PySem.P.repr_of_str (by simpa [PyData.shown] using k _ _ (I.tok _)) (by simpa [PyData.shown] using hz)
  | lst h1 h2 =>
    obtain ⟨as, rd⟩ := Dp.reads I _ _ u (.lst h1 h2) r
    cases r
    exact repr_of_reads' rd hs (fun q => by rw [hd] at q; cases q) hg hu (fun b ob z => z) (fun h' t tk hk => k t _ (I.kept hk)) hz
  | tup h1 h2 =>
    obtain ⟨as, rd⟩ := Dp.reads I _ _ u (.tup h1 h2) r
    cases r
    exact repr_of_reads' rd hs (fun q => by rw [hd] at q; cases q) hg hu (fun b ob z => z) (fun h' t tk hk => k t _ (I.kept hk)) hz
end DX
namespace DX
open PySem PySem.Spec L2

/-! ### what can be shown and compared as data -/
mutual
/-- ints below 2^200, texts of signs, lists and tuples of such -/
def good : D → Prop
  | .non => True
  | .bl _ => True
  | .int i => -(2 ^ 200) ≤ i ∧ i ≤ 2 ^ 200
  | .str x => PyData.strOk x = true
  | .tup ds => goods ds
  | .lst ds => goods ds
  | _ => False
def goods : List D → Prop
  | [] => True
  | d :: ds => good d ∧ goods ds
end
mutual
/-- at least as much as its text is long -/
def wt : D → Nat
  | .str x => 10 * x.length + 2
  | .tup ds => wts ds + 3
  | .lst ds => wts ds + 3
  | _ => 64
def wts : List D → Nat
  | [] => 0
  | d :: ds => wt d + 2 + wts ds
end
mutual
def dep : D → Nat
  | .tup ds => deps ds + 1
  | .lst ds => deps ds + 1
  | _ => 0
def deps : List D → Nat
  | [] => 0
  | d :: ds => max (dep d) (deps ds)
end
mutual
def pyd : D → PyData
  | .bl b => .bool b
  | .int i => .int i
  | .str x => .str x
  | .tup ds => .tuple (pyds ds)
  | .lst ds => .list (pyds ds)
  | _ => .none
def pyds : List D → List PyData
  | [] => []
  | d :: ds => pyd d :: pyds ds
end
/-- the text that repr gives -/
def txt (d : D) : Str := (pyd d).shown
theorem small_log {i : Int} (h : -(2 ^ 200) ≤ i ∧ i ≤ 2 ^ 200) : i.natAbs.log2 < 1920 := by
  have h1 : i.natAbs ≤ 2 ^ 200 := by omega
  by_cases h0 : i.natAbs = 0
  · rw [h0]; decide
  · rw [Nat.log2_lt h0]
    exact Nat.lt_of_le_of_lt h1 (by decide)
mutual
theorem good_py : ∀ {d : D}, good d → d.py = some (pyd d)
  | .non, _ => rfl
  | .bl _, _ => rfl
  | .int _, _ => rfl
  | .str _, _ => rfl
  | .tup ds, h => by rw [D.py, goods_py h]; rfl
  | .lst ds, h => by rw [D.py, goods_py h]; rfl
theorem goods_py : ∀ {ds : List D}, goods ds → pys ds = some (pyds ds)
  | [], _ => rfl
  | d :: ds, h => by rw [pys, good_py h.1, goods_py h.2]; rfl
end
mutual
theorem good_lay : ∀ {d : D}, good d → (pyd d).canLay0 = true
  | .non, _ => by simp [pyd, PyData.canLay0]
  | .bl _, _ => by simp [pyd, PyData.canLay0]
  | .int _, _ => by simp [pyd, PyData.canLay0]
  | .str _, h => by simp only [pyd, PyData.canLay0]; exact h
  | .tup ds, h => by simp only [pyd, PyData.canLay0]; exact goods_lay h
  | .lst ds, h => by simp only [pyd, PyData.canLay0]; exact goods_lay h
theorem goods_lay : ∀ {ds : List D}, goods ds → PyData.canLayAll0 (pyds ds) = true
  | [], _ => by simp [pyds, PyData.canLayAll0]
  | d :: ds, h => by simp only [pyds, PyData.canLayAll0, good_lay h.1, goods_lay h.2, Bool.and_self]
end
mutual
theorem good_show : ∀ {d : D}, good d → (pyd d).showable = true
  | .non, _ => by simp [pyd, PyData.showable]
  | .bl _, _ => by simp [pyd, PyData.showable]
  | .int i, h => by simp only [pyd, PyData.showable]; exact decide_eq_true (small_log h)
  | .str _, h => by simp [pyd, PyData.showable]
  | .tup ds, h => by simp only [pyd, PyData.showable]; exact goods_show h
  | .lst ds, h => by simp only [pyd, PyData.showable]; exact goods_show h
theorem goods_show : ∀ {ds : List D}, goods ds → PyData.showableAll (pyds ds) = true
  | [], _ => by simp [pyds, PyData.showableAll]
  | d :: ds, h => by simp only [pyds, PyData.showableAll, good_show h.1, goods_show h.2, Bool.and_self]
end
mutual
theorem dep_py : ∀ {d : D}, good d → (pyd d).depth ≤ dep d + 1
  | .non, _ => by simp [pyd, PyData.depth]
  | .bl _, _ => by simp [pyd, PyData.depth]
  | .int i, h => by simp [pyd, PyData.depth]
  | .str _, h => by simp [pyd, PyData.depth]
  | .tup ds, h => by simp only [pyd, PyData.depth, dep]; have := deps_py (ds := ds) h; omega
  | .lst ds, h => by simp only [pyd, PyData.depth, dep]; have := deps_py (ds := ds) h; omega
theorem deps_py : ∀ {ds : List D}, goods ds → PyData.depthAll (pyds ds) ≤ deps ds + 1
  | [], _ => by simp [pyds, PyData.depthAll]
  | d :: ds, h => by
    simp only [pyds, PyData.depthAll, deps]
    have h1 := dep_py h.1
    have h2 := deps_py h.2
    omega
end
mutual
theorem wt_py : ∀ {d : D}, good d → (pyd d).shown.length ≤ wt d
  | .non, _ => by simp only [pyd, PyData.shown, wt]; decide +kernel
  | .bl b, _ => by cases b <;> (simp only [pyd, PyData.shown, wt]; decide +kernel)
  | .int i, h => by
    simp only [pyd, PyData.shown, wt]
    have h0 : -(2 ^ 200) ≤ i ∧ i ≤ 2 ^ 200 := h
    have h1 : i.natAbs < 10 ^ 61 := Nat.lt_of_le_of_lt (show i.natAbs ≤ 2 ^ 200 by omega) (by decide)
    have h2 := int_text_length_le10 (a := i) (k := 61) (by decide) h1
    rw [← PySem.ofString_length] at h2
    omega
  | .str x, h => by
    simp only [pyd, PyData.shown, wt]
    refine StrLaws.reprText_len x fun c hc => ?_
    have h1 : x.cps.all (· < 0x110000) = true := h
    have h2 := Array.all_eq_true_iff_forall_mem.mp h1 c (by simpa using hc)
    have h3 : c < 0x110000 := by simpa using h2
    exact Nat.lt_trans h3 (by decide)
  | .tup ds, h => by
    simp only [pyd, PyData.shown, wt]
    have h1 := tupleText_len_le (PyData.shownAll (pyds ds))
    have h2 := wts_py (ds := ds) h
    omega
  | .lst ds, h => by
    simp only [pyd, PyData.shown, wt]
    have h1 := listText_len_le (PyData.shownAll (pyds ds))
    have h2 := wts_py (ds := ds) h
    omega
theorem wts_py : ∀ {ds : List D}, goods ds → ((PyData.shownAll (pyds ds)).map (·.length)).sum + 2 * (PyData.shownAll (pyds ds)).length ≤ wts ds
  | [], _ => by simp [pyds, PyData.shownAll, wts]
  | d :: ds, h => by
    simp only [pyds, PyData.shownAll, wts, List.map_cons, List.sum_cons, List.length_cons]
    have h1 := wt_py h.1
    have h2 := wts_py h.2
    omega
end
mutual
theorem eqv_refl : ∀ {d : D}, good d → PyData.eqv (pyd d) (pyd d) = true
  | .non, _ => by simp [pyd, PyData.eqv]
  | .bl b, _ => by cases b <;> simp [pyd, PyData.eqv]
  | .int i, h => by simp [pyd, PyData.eqv]
  | .str _, h => by simp [pyd, PyData.eqv]
  | .tup ds, h => by simp only [pyd, PyData.eqv]; exact eqvs_refl h
  | .lst ds, h => by simp only [pyd, PyData.eqv]; exact eqvs_refl h
theorem eqvs_refl : ∀ {ds : List D}, goods ds → PyData.eqvAll (pyds ds) (pyds ds) = true
  | [], _ => by simp [pyds, PyData.eqvAll]
  | d :: ds, h => by simp only [pyds, PyData.eqvAll, eqv_refl h.1, eqvs_refl h.2, Bool.and_self]
end

section
variable {X : Cx} {J : Gh} {e a b c o : Expr} {es : List Expr} {ρ ρ' : DEnv} {M M' : Mem} {F F' H H' : Hp} {σ : St} {B : Bd} {K : PySem.W.Frag} {pos p apos cpos : Pos} {x : Str} {P : D → Mem → Prop}
def rReprD (K : PySem.W.Frag) : List V → Hp → VK → Prop := fun xs H Q => ∃ y z, xs = [y] ∧ Dp K H y z ∧ z.showable = true ∧ z.hasDict = false ∧ z.depth ≤ 60 ∧ z.shown.length ≤ sizeLine ∧ Q (.str z.shown) H
theorem call_reprD (hg : X.A.guards = some []) (hu : X.A.units + 64 < cLine) : CallR X (.builtin "repr") (rReprD X.K) := by
  intro pins s σ H vs us Q I r h
  obtain ⟨y, z, rfl, hz, h1, h2, h3, h4, q⟩ := h
  obtain ⟨u, rfl, ru⟩ := Vals.one r
  exact repr_all (K := X.K) hg (by omega) I hz ru h1 h2 h4 fun t s' I' => ⟨.str z.shown, H, I', ⟨t, rfl⟩, q⟩
theorem cd_repr {d : D} (hg : X.A.guards = some []) (hu : X.A.units + 64 < cLine) (h : good d) (hw : wt d ≤ 16000000) (hd : dep d ≤ 50) (q : P (.str (txt d)) M) : CD X (.builtin "repr") [d] M P :=
  ⟨_, call_reprD hg hu, fun F H vs Q o r k => by
    cases r with
    | cons h1 r =>
      cases r
      have h2 := dep_py h
      have h3 := wt_py h
      exact ⟨_, _, rfl, h1.dp o.ex (good_py h), good_show h, PyData.hasDict_of_canLay _ (good_lay h), by omega, by rw [sizeLine_eq]; omega, k.here q o (.str _)⟩⟩
theorem shaped_good {d : D} (h : good d) (hd : dep d ≤ 50) : SeqAt.shaped (pyd d) = true := by
  have := dep_py h
  unfold SeqAt.shaped
  rw [good_lay h, Bool.true_and]
  exact decide_eq_true (by omega)
/-- == of data -/
def eqD (d1 d2 : D) : Bool := PyData.eqv (pyd d1) (pyd d2)
theorem eqD_refl {d : D} (h : good d) : eqD d d = true := eqv_refl h
theorem od_eqG {d1 d2 : D} (hu : X.A.units + 64 < cLine) (h1 : good d1) (h2 : good d2) (s1 : dep d1 ≤ 50) (s2 : dep d2 ≤ 50) (q : P (.bl (eqD d1 d2)) M) : OD X (compareOp .Eq) d1 d2 M P :=
  od_eqD hu (good_py h1) (good_py h2) (shaped_good h1 s1) (shaped_good h2 s2) q
theorem od_neG {d1 d2 : D} (hu : X.A.units + 64 < cLine) (h1 : good d1) (h2 : good d2) (s1 : dep d1 ≤ 50) (s2 : dep d2 ≤ 50) (q : P (.bl (!eqD d1 d2)) M) : OD X (compareOp .NotEq) d1 d2 M P :=
  od_neD hu (good_py h1) (good_py h2) (shaped_good h1 s1) (shaped_good h2 s2) q

/-! ### lists that change -/
/-- at h stands d; with another in its place the memory is f of it -/
structure At (M : Mem) (h : Addr) (d : D) (f : D → Mem) : Prop where
  get : M h = some d
  set : ∀ d', f d' = up M h d'
theorem at0 {h : Addr} {d : D} : At (up M h d) h d (fun d' => up M h d') := ⟨up_same, fun _ => up_up.symm⟩
theorem at1 {h q : Addr} {d l : D} {f : D → Mem} (hq : h ≠ q) (A : At M h d f) : At (up M q l) h d (fun d' => up (f d') q l) :=
  ⟨by rw [up_ne hq]; exact A.get, fun d' => by rw [A.set, up_comm hq]⟩
theorem at_gen {h : Addr} {d : D} (e : M h = some d) : At M h d (fun d' => up M h d') := ⟨e, fun _ => rfl⟩
/-- x.append(e) -/
theorem tyV_lst {K : PySem.W.Frag} {a : Addr} {xs : List V} {H : Hp} (h : H a = some (.lst xs)) : tyV K "list" (.ref a) H := Or.inl ⟨rfl, _, Or.inl (Or.inl h)⟩
theorem ex_append (h : EX X J o ρ M fun d M1 => ∃ q ds1, d = .adr q ∧ M1 q = some (.lst ds1) ∧ AX X J [e] ρ M1 fun ys M2 => ∃ y ds f, ys = [y] ∧ At M2 q (.lst ds) f ∧ ds.length < 1000000 ∧ P .non (f (.lst (ds ++ [y]))))
    (hbase : attributeBase o "append" X.env (eval o X.env) = eval o X.env := by rfl)
    (few : ((backTo cpos (starEach [e] X.env)).all (fun x => !x.1) && (backToKw cpos (keywordEach [] X.env)).all (fun x => x.1.isSome) && decide ([e].length + ([] : List Keyword).length + (if ([] : List Keyword).isEmpty then 0 else 1) < 30)) = true := by rfl)
    (line : (apos.endLine == cpos.line) = true := by rfl) (hst : starEach [e] X.env = (false, eval e X.env) :: starEach [] X.env := by rfl) (hpl : (backTo cpos (starEach [] X.env)).any (·.1) = false := by rfl) :
    EX X J (.Call (.Attribute o "append" apos) [e] [] cpos) ρ M P :=
  ex_of (pe_bm PySem.F.plainAttrs_list PySem.F.slot_list_append PySem.F.type_list_append mt_append pe_any pa_any hbase few line hst hpl) fun F σ H Q st k => h.go st fun d v M1 F1 H1 q1 e1 o1 r1 => by
    obtain ⟨q, ds1, rfl, hq, q2⟩ := q1
    cases r1
    obtain ⟨_, xs1, hx1, _⟩ := o1.mt _ _ hq
    refine ⟨tyV_lst hx1, q2.go (st.to e1 o1) fun ys vs M2 F2 H2 q3 e2 o2 r2 => ?_⟩
    obtain ⟨y, ds, f, rfl, hA, hz, q3⟩ := q3
    cases r2 with
    | cons r2 r3 =>
      cases r3
      obtain ⟨_, xs, hx, rx⟩ := o2.mt _ _ hA.get
      refine ⟨q, xs, _, rfl, rfl, hx, by rw [rx.length, sizeLine_eq]; omega, k _ _ _ _ _ q3 (e1.trans e2) ?_ .non⟩
      rw [hA.set]
      exact o2.set (o := .lst (xs ++ [_])) hA.get ⟨_, upd_same, rx.append (.cons r2 .nil)⟩
/-- x[i] = e -/
theorem g1_setIx {tp : Pos} (h : EX X J e ρ M fun y M1 => EX X J o ρ M1 fun d M2 => EX X J a ρ M2 fun i M3 => ∃ q ds f n m, d = .adr q ∧ i = .int n ∧ At M3 q (.lst ds) f ∧ ixN ds.length n = some m ∧ B.nx ρ (f (.lst (ds.set m y))))
    (hs : swapsWithSole [.Subscript o a tp] e pos.line X.env = pure false := by rfl) (hw : swappedStores [.Subscript o a tp] e X.env = pure none := by rfl)
    (h1 : (assignEach [.Subscript o a tp] X.env).map (·.2) = [assign (.Subscript o a tp) X.env] := by rfl)
    (ha : ∀ v, assign (.Subscript o a tp) X.env v = (do let ov ← holding [v] (eval o X.env); let iv ← holding [v, ov] (eval a X.env); standAt tp; holding [v, ov, iv] (setItem ov iv v); release [v, ov, iv] []) := by intro _; rfl) : G1 X J (.Assign [.Subscript o a tp] e pos) ρ M B :=
  g1_of (ps_asg pe_any (pg_sub pe_any pe_any set_list ha) hs hw h1) fun F σ H E s k => h.go s fun y v M1 F1 H1 q1 e1 o1 r1 => q1.go (s.to e1 o1) fun d w M2 F2 H2 q2 e2 o2 r2 => q2.go (s.to (e1.trans e2) o2) fun i u M3 F3 H3 q3 e3 o3 r3 => by
    obtain ⟨q, ds, f, n, m, rfl, rfl, hA, hm, q3⟩ := q3
    cases r2; cases r3
    obtain ⟨_, xs, hx, rx⟩ := o3.mt _ _ hA.get
    refine ⟨q, xs, n, m, rfl, rfl, hx, by rw [rx.length]; exact hm, k.nx F3 _ _ _ _ q3 ((e1.trans e2).trans e3) (((s.en.mono e1).mono e2).mono e3) ?_⟩
    rw [hA.set]
    exact o3.set (o := .lst (xs.set m v)) hA.get ⟨_, upd_same, rx.set m ((r1.mono e2).mono e3)⟩

/-! ### keywords -/
def pick {α : Type} (l : List α) (ix : List Nat) : List α := ix.filterMap fun i => l[i]?
theorem pick_vals {vs : List V} {us : List Value} (r : Vals vs us) : ∀ ix : List Nat, Vals (pick vs ix) (pick us ix)
  | [] => .nil
  | i :: ix => by
    unfold pick
    rw [List.filterMap_cons, List.filterMap_cons]
    cases e : vs[i]? with
    | none => rw [Vals.none_of r e]; exact pick_vals r ix
    | some v =>
      obtain ⟨u, h1, h2⟩ := r.get e
      rw [h1]
      exact .cons h2 (pick_vals r ix)
theorem pick_rps {vs : List V} {ds : List D} (r : Rps K F vs ds) : ∀ ix : List Nat, Rps K F (pick vs ix) (pick ds ix)
  | [] => .nil
  | i :: ix => by
    unfold pick
    rw [List.filterMap_cons, List.filterMap_cons]
    cases e : vs[i]? with
    | none =>
      have : ds[i]? = none := by
        rw [List.getElem?_eq_none_iff] at e ⊢
        rw [← r.length]; exact e
      rw [this]; exact pick_rps r ix
    | some v =>
      obtain ⟨d, h1, h2⟩ := r.getV e
      rw [h1]
      exact .cons h2 (pick_rps r ix)
/-- a call with n values by place and the keywords ks: the parameters' values out of both and the defaults -/
theorem kbn0 {x qual : Str} {params : Arguments} {body : List Stmt} {scope : Scope} {kws : List (Str × V)} {f : Addr} {fd : FuncData} {ps : List Str} (F : FunD K x qual params body scope [] kws f fd) (n : Nat) (ks : List Str) (ix : List Nat)
    (h : ∀ (kV doc pm : Value) (an : Option Addr) (cdv ct : Value) (us ws : List Value), us.length = n → ws.length = ks.length → bindArgs (PySem.W.fnOf x qual params body scope .none kV doc pm an cdv ct) ⟨us, ks.zip ws⟩ = pure (ps.zip (pick (us ++ ws) ix))) :
    KBn K fd ps n ks (fun us ws => pick (us ++ ws) ix) (fun vs zs => pick (vs ++ zs) ix) := by
  obtain ⟨oc, od, dV, kV, doc, pm, an, cdv, ct, osl, rfl, lk, hcd, hD, hK⟩ := F.ex
  rcases hD with ⟨_, rfl⟩ | ⟨e, _⟩
  · exact ⟨fun s us ws X l1 l2 => .of_eq (h kV doc pm an cdv ct us ws l1 l2), fun r1 r2 => pick_vals (r1.append r2) ix⟩
  · exact absurd rfl e
theorem kbn1 {x qual : Str} {params : Arguments} {body : List Stmt} {scope : Scope} {dvs : List V} {kws : List (Str × V)} {f : Addr} {fd : FuncData} {ps : List Str} (F : FunD K x qual params body scope dvs kws f fd) (hd : dvs ≠ []) (n : Nat) (ks : List Str) (ix : List Nat)
    (h : ∀ (T : Addr) (kV doc pm : Value) (an : Option Addr) (cdv ct : Value) (us its ws : List Value), us.length = n → its.length = dvs.length → ws.length = ks.length →
      ∃ k, bindArgs (PySem.W.fnOf x qual params body scope (.ref T) kV doc pm an cdv ct) ⟨us, ks.zip ws⟩ = seqItems? (.ref T) >>= k ∧ k (some its.toArray) = pure (ps.zip (pick (us ++ (its ++ ws)) ix))) :
    ∃ its, KBn K fd ps n ks (fun us ws => pick (us ++ (its ++ ws)) ix) (fun vs zs => pick (vs ++ (dvs ++ zs)) ix) := by
  obtain ⟨oc, od, dV, kV, doc, pm, an, cdv, ct, osl, rfl, lk, hcd, hD, hK⟩ := F.ex
  rcases hD with ⟨e, _⟩ | ⟨_, T, ob, its, m, rfl, lT, oT, rT⟩
  · exact absurd e hd
  · refine ⟨its, ⟨fun s us ws X l1 l2 => ?_, fun r1 r2 => pick_vals (r1.append (rT.append r2)) ix⟩⟩
    obtain ⟨k, e1, e2⟩ := h T kV doc pm an cdv ct us its ws l1 rT.length.symm l2
    exact BindsTo.of_looks fun M => by rw [e1]; exact looks_items X lT oT (.of_pure e2)
def KX (X : Cx) (J : Gh) (kws : List Keyword) (ρ : DEnv) (M : Mem) (P : List D → Mem → Prop) : Prop := PK X kws (tA X.K J ρ M P)
def tKe (X : Cx) (kws : List Keyword) : TA := fun σ H Q => ∃ t, PK X kws t ∧ t σ H Q
theorem pk_any {kws : List Keyword} : PK X kws (tKe X kws) := ⟨fun pos pins s σ H Q I ⟨t, h, q⟩ => h.run pos pins s σ H Q I q⟩
theorem KX.go {kws : List Keyword} {P : List D → Mem → Prop} (h : KX X J kws ρ M P) (s : Sts X.K J F σ H ρ M) {Q : List V → Hp → Prop} (k : Ka X.K F P Q) : tKe X kws σ H Q := ⟨_, h, F, s, k⟩
theorem kx_nil {P : List D → Mem → Prop} (q : P [] M) : KX X J [] ρ M P := ⟨fun pos pins s σ H Q I ⟨F, st, k⟩ => pk_nil.run pos pins s σ H Q I (k [] [] M F H q (Same.refl F) st.ok .nil)⟩
theorem kx_cons {kws : List Keyword} {nm : Option Str} {kpos : Pos} {P : List D → Mem → Prop} (h : EX X J e ρ M fun d M1 => KX X J kws ρ M1 fun ds M2 => P (d :: ds) M2) : KX X J (⟨nm, e, kpos⟩ :: kws) ρ M P :=
  ⟨fun pos pins s σ H Q I ⟨F, st, k⟩ => (pk_cons pe_any pk_any).run pos pins s σ H Q I (h.go st fun d v M1 F1 H1 q e1 o1 r1 => KX.go q (st.to e1 o1) fun ds vs M2 F2 H2 q2 e2 o2 r2 => k _ _ M2 F2 H2 q2 (e1.trans e2) o2 (.cons (r1.mono e2) r2))⟩
/-- f(k = v, ..) -/
theorem pe_callN0 {CX : CXT} {k : Nat} {f : Addr} {fd : FuncData} {ps ks : List Str} {sp : Sp} {E : XK} {kws : List Keyword} {tk : TA} {g : List Value → List Value → List Value} {gV : List V → List V → List V} (G : FnOk X.prog X.w X.K X.mg X.base CX k f fd ps sp) (hr : Room k X.A) (hg : Gl X x) (hm : X.mg x = some (.ref f))
    (hk : PySem.W.keepIn X.K (.ref f) = true) (hb : KBn X.K fd ps 0 ks g gV) (hx : Passes CX X E) (hkw : PK X kws tk) (hall : (backToKw pos (keywordEach kws X.env)).all (·.1.isSome) = true) (hks : (backToKw pos (keywordEach kws X.env)).filterMap (·.1) = ks)
    (hdb : (x == ("__debug__" : Str)) = false) (hpl : ((backTo pos (starEach [] X.env)).any (·.1) || (backToKw pos (keywordEach kws X.env)).any (·.1.isNone)) = false) :
    PE X (.Call (.Name x p) [] kws pos) (fun σ H Q => tk σ H fun zs H2 => zs.length = ks.length ∧ sp (gV [] zs) H2 Q E) :=
  ⟨fun pins s σ H Q I h => wpAny_Call_Name_kw (ld_glob I hg hm (PySem.W.callWith_KW0 (h₀ := X.base) I.ok.mod.kin hk hall (thn (hkw.run pos pins s σ H _ I h) fun ws s2 ⟨zs, H2, I2, rz, l2, q2⟩ => ⟨I2.kIn, by
    rw [hks]
    exact run_fnN (us := []) G hr hb hx I2 .nil rz rfl l2 q2⟩) hpl) hdb)⟩
theorem ex_callK {k n : Nat} {f : Addr} {fd : FuncData} {ps ks : List Str} {T : Tr} {kws : List Keyword} {g : List Value → List Value → List Value} {dvs : List V} {dds : List D} {ix : List Nat} (G : FnOk X.prog X.w X.K X.mg X.base CX0 k f fd ps (SpD X.K T)) (hr : Room k X.A) (hm : X.mg x = some (.ref f)) (hk : PySem.W.keepIn X.K (.ref f) = true)
    (hb : KBn X.K fd ps n ks g (fun vs zs => pick (vs ++ (dvs ++ zs)) ix)) (hdd : ∀ F, Rps X.K F dvs dds) (h : AX X J (e :: es) ρ M fun ds M1 => KX X J kws ρ M1 fun zs M2 => ds.length = n ∧ zs.length = ks.length ∧ T (pick (ds ++ (dds ++ zs)) ix) M2 P)
    (hg : Gl X x := by rfl) (hall : (backToKw pos (keywordEach kws X.env)).all (·.1.isSome) = true := by rfl) (hks : (backToKw pos (keywordEach kws X.env)).filterMap (·.1) = ks := by rfl)
    (hdb : (x == ("__debug__" : Str)) = false := by decide) (he : starEach (e :: es) X.env = (false, eval e X.env) :: starEach es X.env := by rfl)
    (hpl : ((backTo pos (starEach (e :: es) X.env)).any (·.1) || (backToKw pos (keywordEach kws X.env)).any (·.1.isNone)) = false := by rfl) : EX X J (.Call (.Name x p) (e :: es) kws pos) ρ M P :=
  ex_of (pe_callN (E := E0) G hr hg hm hk hb pass0 pa_any pk_any hall hks hdb he hpl) fun F σ H Q st k => h.go st fun ds vs M1 F1 H1 q e1 o1 r1 => q.go (st.to e1 o1) fun zs ws M2 F2 H2 q2 e2 o2 r2 => by
    obtain ⟨l1, l2, t⟩ := q2
    exact ⟨r1.length.trans l1, r2.length.trans l2, F2, M2, _, P, o2, pick_rps ((r1.mono e2).append ((hdd F2).append r2)) ix, t, k.to (e1.trans e2)⟩
theorem ex_callK0 {k : Nat} {f : Addr} {fd : FuncData} {ps ks : List Str} {T : Tr} {kws : List Keyword} {g : List Value → List Value → List Value} {dvs : List V} {dds : List D} {ix : List Nat} (G : FnOk X.prog X.w X.K X.mg X.base CX0 k f fd ps (SpD X.K T)) (hr : Room k X.A) (hm : X.mg x = some (.ref f)) (hk : PySem.W.keepIn X.K (.ref f) = true)
    (hb : KBn X.K fd ps 0 ks g (fun vs zs => pick (vs ++ (dvs ++ zs)) ix)) (hdd : ∀ F, Rps X.K F dvs dds) (h : KX X J kws ρ M fun zs M2 => zs.length = ks.length ∧ T (pick (dds ++ zs) ix) M2 P)
    (hg : Gl X x := by rfl) (hall : (backToKw pos (keywordEach kws X.env)).all (·.1.isSome) = true := by rfl) (hks : (backToKw pos (keywordEach kws X.env)).filterMap (·.1) = ks := by rfl)
    (hdb : (x == ("__debug__" : Str)) = false := by decide) (hpl : ((backTo pos (starEach [] X.env)).any (·.1) || (backToKw pos (keywordEach kws X.env)).any (·.1.isNone)) = false := by rfl) : EX X J (.Call (.Name x p) [] kws pos) ρ M P :=
  ex_of (pe_callN0 (E := E0) G hr hg hm hk hb pass0 pk_any hall hks hdb hpl) fun F σ H Q st k => h.go st fun zs ws M2 F2 H2 q2 e2 o2 r2 => by
    obtain ⟨l2, t⟩ := q2
    exact ⟨r2.length.trans l2, F2, M2, _, P, o2, pick_rps (show Rps X.K F2 ([] ++ (dvs ++ ws)) ([] ++ (dds ++ zs)) from (hdd F2).append r2) ix, t, k.to e2⟩
/-! ### max, min of two ints; all, any of a list of bools; sum -/
theorem cd_max2 {i j : Int} (hc : X.calm = true) (q : P (.int (if j > i then j else i)) M) : CD X (.builtin "max") [.int i, .int j] M P :=
  ⟨_, call_max2 hc, fun F H vs Q o r k => by
    cases r with
    | cons h1 r =>
      cases r with
      | cons h2 r => cases r; cases h1; cases h2; exact ⟨i, j, rfl, k.here q o (.int _)⟩⟩
theorem cd_min2 {i j : Int} (hc : X.calm = true) (q : P (.int (if j < i then j else i)) M) : CD X (.builtin "min") [.int i, .int j] M P :=
  ⟨_, call_min2 hc, fun F H vs Q o r k => by
    cases r with
    | cons h1 r =>
      cases r with
      | cons h2 r => cases r; cases h1; cases h2; exact ⟨i, j, rfl, k.here q o (.int _)⟩⟩
theorem cd_all {d : D} {bs : List Bool} (hc : X.calm = true) (s : Sl M d (bs.map D.bl)) (q : P (.bl (bs.all id)) M) : CD X (.builtin "all") [d] M P :=
  ⟨_, cr_all hc, fun F H vs Q o r k => by
    cases r with
    | cons h1 r =>
      cases r
      obtain ⟨a, xs, rfl, h2, r2⟩ := s.get o h1
      exact ⟨a, bs, rfl, by rw [← r2.bls]; exact SqL.of h2, k.here q o (.bl _)⟩⟩
theorem cd_any {d : D} {bs : List Bool} (hc : X.calm = true) (s : Sl M d (bs.map D.bl)) (q : P (.bl (bs.any id)) M) : CD X (.builtin "any") [d] M P :=
  ⟨_, cr_any hc, fun F H vs Q o r k => by
    cases r with
    | cons h1 r =>
      cases r
      obtain ⟨a, xs, rfl, h2, r2⟩ := s.get o h1
      exact ⟨a, bs, rfl, by rw [← r2.bls]; exact SqL.of h2, k.here q o (.bl _)⟩⟩
end
end DX
namespace DX
open PySem PySem.Spec L2
theorem le_b {m n : Nat} (h : Nat.ble m n = true) : m ≤ n := Nat.le_of_ble_eq_true h
section
variable {X : Cx} {J : Gh} {e a b c o : Expr} {es : List Expr} {st : Stmt} {ρ ρ' : DEnv} {M M' : Mem} {F F' H H' : Hp} {σ : St} {B : Bd} {K : PySem.W.Frag} {pos p apos cpos : Pos} {x : Str} {P : D → Mem → Prop}
/-- a word between a statement and the rest -/
theorem g1_mid (Mid : DEnv → Mem → Prop) (h : G1 X J st ρ M (B.thn Mid)) (k : ∀ ρ' M', Mid ρ' M' → B.nx ρ' M') : G1 X J st ρ M B :=
  g1_of h fun F σ H E st kd => ⟨F, st, fun F' σ' H' ρ' M' q => kd.nx F' σ' H' ρ' M' (k _ _ q), kd.rt, kd.bk, kd.ct⟩
/-- an item at a place that is only bounded -/
theorem id_all {y : D} {ds : List D} {i : Int} (s : Sq M y ds) (h0 : 0 ≤ i) (h1 : i < (ds.length : Int)) (h : ∀ d, d ∈ ds → P d M) : ID X y (.int i) M P := by
  have hi : i.toNat < ds.length := by omega
  have e : atI ds i = some ds[i.toNat] := by
    have := atI_nat (xs := ds) (j := i.toNat) (v := ds[i.toNat]) (by simp [hi])
    rwa [Int.toNat_of_nonneg h0] at this
  exact id_seq s e (h _ (List.getElem_mem hi))
theorem atI_ints {ns : List Int} {i : Int} (h0 : 0 ≤ i) (h1 : i < (ns.length : Int)) : atI (ns.map D.int) i = some (.int (ns.getD i.toNat 0)) := by
  have hi : i.toNat < ns.length := by omega
  have := atI_nat (xs := ns.map D.int) (j := i.toNat) (v := .int (ns.getD i.toNat 0)) (by simp [hi])
  rwa [Int.toNat_of_nonneg h0] at this
/-- the script's first items, as a list -/
theorem sd_scr {ns : List Int} {k : Nat} (q : P (.lst ((ns.take k).map D.int)) M) : SD X (.scr ns) none (some (k : Int)) M P :=
  ⟨_, sl_list, fun F H v Q o rx kt => by
    cases rx with
    | scr h =>
      refine ⟨_, _, rfl, same_l o.ex h, fun q' hq => kt _ _ _ _ _ q (o.fixSame hq) (o.fix hq) (.lst upd_same ?_)⟩
      have e1 : cutV (ns.map V.int) none (some (k : Int)) = (ns.take k).map V.int := by
        unfold cutV
        rw [HT.sIx_none, HT.sIx_nat, Nat.sub_zero, List.drop_zero, List.map_take, List.length_map]
        by_cases hk : k ≤ ns.length
        · rw [Nat.min_eq_left hk]
        · rw [Nat.min_eq_right (by omega), List.take_of_length_le (by simp), List.take_of_length_le (by simp; omega)]
      rw [e1]
      exact Rps.ofInts⟩
theorem od_andM {i : Int} {k : Nat} (q : P (.int (i % 2 ^ k)) M) : OD X (binaryOp .BitAnd) (.int i) (.int (2 ^ k - 1)) M P :=
  ⟨_, op_andM, fun F H v u Q o rx ry kt => by
    cases rx; cases ry
    exact ⟨i, k, rfl, rfl, kt.here q o (.int _)⟩⟩
theorem pyds_ints : ∀ ns : List Int, pys (ns.map D.int) = some (ns.map PyData.int)
  | [] => rfl
  | n :: ns => by rw [List.map_cons, pys, pyds_ints ns]; rfl
theorem lay_ints : ∀ ns : List Int, PyData.canLayAll0 (ns.map PyData.int) = true
  | [] => by simp [PyData.canLayAll0]
  | n :: ns => by simp only [List.map_cons, PyData.canLayAll0, PyData.canLay0, lay_ints ns, Bool.and_self]
theorem dep_ints : ∀ ns : List Int, PyData.depthAll (ns.map PyData.int) ≤ 1
  | [] => by simp [PyData.depthAll]
  | n :: ns => by have := dep_ints ns; simp only [List.map_cons, PyData.depthAll, PyData.depth]; omega
theorem shaped_ints (ns : List Int) : SeqAt.shaped (.list (ns.map PyData.int)) = true := by
  have := dep_ints ns
  unfold SeqAt.shaped
  rw [Bool.and_eq_true]
  exact ⟨by simp only [PyData.canLay0]; exact lay_ints ns, decide_eq_true (by simp only [PyData.depth]; omega)⟩
/-- ints != [] -/
theorem od_neNil {ns : List Int} (hu : X.A.units + 64 < cLine) (q : P (.bl (!ns.isEmpty)) M) : OD X (compareOp .NotEq) (.lst (ns.map D.int)) (.lst []) M P := by
  refine od_neD (z1 := .list (ns.map PyData.int)) (z2 := .list []) hu (by rw [D.py, pyds_ints]; rfl) rfl (shaped_ints ns) (shaped_ints []) ?_
  cases ns with
  | nil => simpa [PyData.eqv, PyData.eqvAll] using q
  | cons n ns => simpa [PyData.eqv, PyData.eqvAll] using q
end

/-! ### what draws -/
structure Hs where
  cells : List Int
  at_ : Int
  gr : Int
def hand (s : Hs) : D := .lst [.lst (s.cells.map D.int), .int s.at_, .int s.gr]
structure HOk (s : Hs) (n : Int) : Prop where
  a0 : 0 ≤ s.at_
  an : s.at_ ≤ n
  g0 : 0 ≤ s.gr
theorem HOk.mono {s : Hs} {n m : Int} (h : HOk s n) (l : n ≤ m) : HOk s m := ⟨h.a0, by have := h.an; omega, h.g0⟩
/-- a draw: any number below the bound -/
def trTake : Tr := fun ds M P => ∃ h s b M0 n, ds = [.adr h, .int b] ∧ M = up M0 h (hand s) ∧ HOk s n ∧ n ≤ 1000000 ∧ (0 < b ∧ b < 1000000000) ∧ ∀ k s', 0 ≤ k → k < b → HOk s' (n + 1) → P (.int k) (up M0 h (hand s'))
def trBegin : Tr := fun ds M P => ∃ ns, ds = [.scr ns] ∧ ∀ h s, M h = none → HOk s 0 → P (.adr h) (up M h (hand s))
theorem law_start {T : Tr} (hT : ∀ ns M P, (∀ M', P (.bl true) M') → T [.scr ns] M P) {K : PySem.W.Frag} {H : Hp} {a : Addr} {ns : List Int} (hS : SqL K H a (ns.map V.int)) : ∃ F M ds, Ok K F M H ∧ Rps K F [.ref a] ds ∧ T ds M fun d _ => d = .bl true :=
  ⟨H, fun _ => none, [.scr ns], ⟨Same.refl H, fun a d e => by cases e⟩, .cons (.scr hS) .nil, hT ns _ _ fun _ => rfl⟩
end DX
namespace DX
open PySem PySem.Spec L2
/-! ### isinstance of plain data -/
def kn : D → String
  | .bl _ => "bool"
  | .int _ => "int"
  | .str _ => "str"
  | .tup _ => "tuple"
  | .lst _ => "list"
  | .dct _ => "dict"
  | _ => "NoneType"
def plain : D → Bool
  | .adr _ => false
  | .ty _ => false
  | .scr _ => false
  | .ins _ _ => false
  | .stup _ => false
  | .exn _ _ => false
  | _ => true
def isi (n : String) (d : D) : Bool := (kn d == n) || (kn d == "bool" && n == "int")
theorem kit_names : ∀ a ∈ ["NoneType", "bool", "int", "str", "tuple", "list", "dict"], ∀ n ∈ ["int", "bool", "str", "tuple", "list", "dict"], kitB a n = some ((a == n) || (a == "bool" && n == "int")) := by decide +kernel
theorem kn_mem (d : D) : kn d ∈ ["NoneType", "bool", "int", "str", "tuple", "list", "dict"] := by
  cases d <;> simp [kn]
section
variable {X : Cx} {J : Gh} {e a b c o : Expr} {es : List Expr} {st : Stmt} {ρ ρ' : DEnv} {M M' : Mem} {F F' H H' : Hp} {σ : St} {B : Bd} {K : PySem.W.Frag} {pos p apos cpos : Pos} {x : Str} {P : D → Mem → Prop}
theorem ty_of {d : D} {v : V} (h : plain d = true) (hs : Same F H) (r : Rp K F v d) : TyX K H v (.type (kn d)) := by
  cases r with
  | non => exact .base .non
  | bl b => exact .base (.bl b)
  | int i => exact .base (.int i)
  | str x => exact .base (.str x)
  | lst h1 r => exact .base (.lst (hs _ _ h1))
  | tup h1 r =>
    rcases h1 with (h1 | ⟨o, h1⟩) | ⟨o, its, n, h1, h2, _⟩
    · exact .base (.tup (hs _ _ h1))
    · exact .fTuple (hs _ _ h1)
    · exact .kTuple h1 h2
  | dct h1 r => exact .base (.dK (hs _ _ h1))
  | adr a => cases h
  | ty n => cases h
  | scr h1 => cases h
  | exn h1 c r => cases h
  | ins h1 r => cases h
  | stup h1 c r => cases h
theorem cd_isi {d : D} {n : String} (hn : n ∈ ["int", "bool", "str", "tuple", "list", "dict"]) (h : plain d = true) (q : P (.bl (isi n d)) M) : CD X (.builtin "isinstance") [d, .ty n] M P :=
  ⟨_, call_isi, fun F H vs Q ok r k => by
    cases r with
    | cons h1 r =>
      cases r with
      | cons h2 r =>
        cases r
        cases h2
        exact ⟨_, _, _, _, _, rfl, .ty n, ty_of h ok.ex h1, kit_ty (kit_names _ (kn_mem d) _ hn), k.here q ok (.bl _)⟩⟩
/-- a built-in type by its name -/
theorem ex_tyn {n : String} (hm : X.mg x = none) (hv : bootBuiltins x = some (.type n)) (q : P (.ty n) M) (hg : Gl X x := by rfl) (hn : x ≠ "__name__" := by decide) (hd : (x == ("__debug__" : Str)) = false := by decide) : EX X J (.Name x pos) ρ M P :=
  ex_of (pe_bltn (v := .ty n) hg hm hv rfl hn hd) fun F σ H Q st k => k.here q st.ok (.ty n)
theorem bb_bool : bootBuiltins "bool" = some (.type "bool") := by decide +kernel
/-- a text, a tuple of the module by its name -/
theorem ex_gstr {z : Str} (hm : ∃ t, X.mg x = some (.str z t)) (q : P (.str z) M) (hg : Gl X x := by rfl) (hd : (x == ("__debug__" : Str)) = false := by decide) : EX X J (.Name x pos) ρ M P := by
  obtain ⟨t, h⟩ := hm
  exact ex_glob (v := .str z) hg h ⟨t, rfl⟩ (fun F => .str z) q hd
theorem ex_gint {z : Int} (hm : ∃ t, X.mg x = some (.int z t)) (q : P (.int z) M) (hg : Gl X x := by rfl) (hd : (x == ("__debug__" : Str)) = false := by decide) : EX X J (.Name x pos) ρ M P := by
  obtain ⟨t, h⟩ := hm
  exact ex_glob (v := .int z) hg h ⟨t, rfl⟩ (fun F => .int z) q hd
theorem ex_gtup {a : Addr} {xs : List V} {ds : List D} (hm : X.mg x = some (.ref a)) (ht : ∀ F, SqT X.K F a xs) (hr : ∀ F, Rps X.K F xs ds) (q : P (.tup ds) M) (hg : Gl X x := by rfl) (hd : (x == ("__debug__" : Str)) = false := by decide) : EX X J (.Name x pos) ρ M P :=
  ex_glob (v := .ref a) hg hm rfl (fun F => .tup (ht F) (hr F)) q hd
end
end DX
namespace DX
open PySem PySem.Spec L2
section
variable {X : Cx} {J : Gh} {e : Expr} {ρ : DEnv} {M : Mem} {P : D → Mem → Prop}
/-- a list that changed until here and does no more -/
theorem ex_frz (h : EX X J e ρ M fun d M1 => ∃ p ds M0, d = .adr p ∧ M0 p = none ∧ M1 = up M0 p (.lst ds) ∧ P (.lst ds) M0) : EX X J e ρ M P :=
  ex_of h fun F σ H Q st k => ⟨F, st, fun d v M' F' H' q e1 o r => by
    obtain ⟨p, ds, M0, rfl, hn, rfl, q⟩ := q
    cases r
    obtain ⟨_, ys, hy, ry⟩ := o.mt p _ up_same
    obtain ⟨s1, o4⟩ := o.freeze up_same hy
    rw [rm_up hn] at o4
    exact k _ _ _ _ _ q (e1.trans s1) o4 (.lst upd_same (ry.mono s1))⟩
end
/-! ### bits -/
def bits (v : Int) (n : Nat) : List D := (List.range n).map fun i => D.int (v / 2 ^ i % 2)
theorem bits_len {v : Int} {n : Nat} : (bits v n).length = n := by simp [bits]
theorem bits_succ {v : Int} {n : Nat} : bits v (n + 1) = bits v n ++ [.int (v / 2 ^ n % 2)] := by simp [bits, List.range_succ]
theorem bits_at {v : Int} {n i : Nat} (h : i < n) : (bits v n)[i]? = some (.int (v / 2 ^ i % 2)) := by simp [bits, h]
theorem pow_pos2 (i : Nat) : (0 : Int) < 2 ^ i := Int.pow_pos (by decide)
theorem div_succ (v : Int) (i : Nat) : v / 2 ^ i / 2 = v / 2 ^ (i + 1) := by
  rw [Int.pow_succ, Int.ediv_ediv_of_nonneg (Int.le_of_lt (pow_pos2 i))]
theorem mod_succ (x : Int) (i : Nat) : x % 2 ^ (i + 1) = x % 2 ^ i + 2 ^ i * (x / 2 ^ i % 2) := by
  rw [Int.emod_def x (2 ^ (i + 1)), Int.emod_def x (2 ^ i), Int.emod_def (x / 2 ^ i) 2, div_succ, Int.mul_sub, Int.pow_succ]
  have := Int.mul_assoc (2 ^ i) 2 (x / (2 ^ i * 2))
  omega
theorem pow_mono : ∀ {m n : Nat}, m ≤ n → (2 : Int) ^ m ≤ 2 ^ n := by
  intro m n h
  induction h with
  | refl => exact Int.le_refl _
  | step h ih => rename_i k; rw [Int.pow_succ]; have := pow_pos2 k; omega
theorem pow_le24 {n : Int} (h : 0 ≤ n ∧ n ≤ 24) : (1 : Int) ≤ 2 ^ n.toNat ∧ (2 : Int) ^ n.toNat ≤ 16777216 := by
  have h1 := pow_pos2 n.toNat
  have h2 : (2 : Int) ^ n.toNat ≤ 2 ^ 24 := pow_mono (by omega)
  exact ⟨by omega, by omega⟩
theorem pow_ge2 {n : Int} (h : 1 ≤ n) : (2 : Int) ≤ 2 ^ n.toNat := by
  have h2 : (2 : Int) ^ 1 ≤ 2 ^ n.toNat := pow_mono (by omega)
  omega
theorem emod_in {a b : Int} (h : 0 < b) : 0 ≤ a % b ∧ a % b < b := ⟨Int.emod_nonneg _ (by omega), Int.emod_lt_of_pos _ h⟩
/-- adding bit by bit: the sum of the low parts -/
def low (a b c : Int) (i : Nat) : Int := a % 2 ^ i + b % 2 ^ i + c
theorem low_succ (a b c : Int) (i : Nat) : low a b c (i + 1) = low a b c i + 2 ^ i * (a / 2 ^ i % 2 + b / 2 ^ i % 2) := by
  unfold low; rw [mod_succ, mod_succ, Int.mul_add]; omega
theorem low_div (a b c : Int) (i : Nat) : a / 2 ^ i % 2 + b / 2 ^ i % 2 + low a b c i / 2 ^ i = low a b c (i + 1) / 2 ^ i := by
  rw [low_succ, Int.add_mul_ediv_left _ _ (by have := pow_pos2 i; omega)]; omega
theorem low_total (a b c : Int) (i : Nat) : low a b c i % 2 ^ i + 2 ^ i * ((a / 2 ^ i % 2 + b / 2 ^ i % 2 + low a b c i / 2 ^ i) % 2) = low a b c (i + 1) % 2 ^ (i + 1) := by
  rw [low_div, mod_succ (low a b c (i + 1)), low_succ, Int.add_mul_emod_self_left]
theorem low_enter (a b c : Int) (i : Nat) : (a / 2 ^ i % 2 + b / 2 ^ i % 2 + low a b c i / 2 ^ i) / 2 = low a b c (i + 1) / 2 ^ (i + 1) := by
  rw [low_div, div_succ]
theorem low_all {a b c : Int} {n : Nat} (ha : 0 ≤ a ∧ a < 2 ^ n) (hb : 0 ≤ b ∧ b < 2 ^ n) : low a b c n = a + b + c := by
  unfold low; rw [Int.emod_eq_of_lt ha.1 ha.2, Int.emod_eq_of_lt hb.1 hb.2]
end DX
namespace DX
open PySem PySem.Spec L2
open PyProof.Rows hiding St
section
variable {X : Cx} {J : Gh} {e a b c o : Expr} {es : List Expr} {ρ : DEnv} {M : Mem} {F F' H H' : Hp} {σ : St} {K : PySem.W.Frag} {pos p apos cpos : Pos} {P : D → Mem → Prop}
/-! ### joined texts -/
def toS : D → Str
  | .str z => z
  | _ => Str.empty
def AllS (ds : List D) : Prop := (ds.map toS).map D.str = ds
theorem alls_nil : AllS [] := rfl
theorem alls_cons {z : Str} {ds : List D} (h : AllS ds) : AllS (.str z :: ds) := by unfold AllS at h ⊢; rw [List.map_cons, List.map_cons, h]; rfl
theorem alls_map {α : Type} {f : α → Str} {l : List α} : AllS (l.map fun x => D.str (f x)) := by
  unfold AllS; rw [List.map_map, List.map_map]; rfl
theorem vals_strs : ∀ {xs : List V} {zs : List Str}, Rps K F xs (zs.map D.str) → xs = zs.map V.str
  | _, [], .nil => rfl
  | _, z :: zs, .cons h r => by cases h; rw [vals_strs r]; rfl
def sizeJ (ds : List D) : Nat := ((ds.map toS).map (·.length)).sum
theorem ex_join (h : EX X J o ρ M fun d M1 => ∃ z, d = .str z ∧ EX X J e ρ M1 fun d2 M2 => ∃ ds, Sq M2 d2 ds ∧ AllS ds ∧ sizeJ ds + ds.length * z.length ≤ 16777216 ∧ P (.str (Txt.join z (ds.map toS))) M2)
    (hs : starEach [e] X.env = [(false, eval e X.env)] := by rfl) (hbase : attributeBase o "join" X.env (eval o X.env) = eval o X.env := by rfl) (hline : (apos.endLine == pos.line) = true := by rfl) :
    EX X J (.Call (.Attribute o "join" apos) [e] [] pos) ρ M P :=
  ex_of (pe_join pe_any pe_any hs hbase hline) fun F σ H Q st k => h.go st fun d v M1 F1 H1 q e1 o1 r1 => by
    obtain ⟨z, rfl, q⟩ := q
    cases r1
    refine ⟨⟨_, rfl⟩, EX.go q (st.to e1 o1) fun d2 v2 M2 F2 H2 q2 e2 o2 r2 => ?_⟩
    obtain ⟨ds, s, ha, hz, q3⟩ := q2
    obtain ⟨p, xs, rfl, h2, r3⟩ := s.get o2 r2
    have e3 : xs = (ds.map toS).map V.str := vals_strs (by rw [ha]; exact r3)
    refine ⟨z, p, ds.map toS, rfl, rfl, by rw [← e3]; exact h2, by rw [List.length_map]; exact hz, k _ _ _ _ _ q3 (e1.trans e2) o2 (.str _)⟩
/-! ### backwards -/
theorem ex_revL {k : Nat} {p1 p2 p3 : Pos} (h : EX X J e ρ M fun d M1 => ∃ ds, Sl M1 d ds ∧ P (.lst ds.reverse) M1) : EX X J (.Subscript e (.Slice none none (some (.UnaryOp .USub (.Constant (.int 1) k p1) p2)) p3) pos) ρ M P :=
  ex_of (pe_revL pe_any) fun F σ H Q st k => h.go st fun d v M1 F1 H1 q e1 o1 r1 => by
    obtain ⟨ds, s, q⟩ := q
    obtain ⟨p, xs, rfl, h2, r2⟩ := s.get o1 r1
    exact ⟨p, xs, rfl, SqL.of h2, fun l hl => k _ _ _ _ _ q (e1.trans (o1.fixSame hl)) (o1.fix hl) (.lst upd_same (Rps.mono (o1.fixSame hl) (rps_rev r2)))⟩
where
  rps_rev {K : PySem.W.Frag} {F : Hp} : ∀ {xs : List V} {ds : List D}, Rps K F xs ds → Rps K F xs.reverse ds.reverse
    | _, _, .nil => .nil
    | _, _, .cons h r => by
      rw [List.reverse_cons, List.reverse_cons]
      exact Rps.append (rps_rev r) (.cons h .nil)
/-! ### ranges -/
def rngC (a c : Int) (n : Nat) : List D := (List.range n).map fun (i : Nat) => D.int (a + (i : Int) * c)
theorem rngC_len {a c : Int} {n : Nat} : (rngC a c n).length = n := by simp [rngC]
theorem rngC_one {a : Int} {n : Nat} : rngC a 1 n = rngD a n := by unfold rngC rngD; simp only [Int.mul_one]
theorem rngC_at {a c : Int} {n i : Nat} {d : D} (h : (rngC a c n)[i]? = some d) : i < n ∧ d = .int (a + (i : Int) * c) := by
  unfold rngC at h
  rw [List.getElem?_map] at h
  by_cases hi : i < n
  · rw [List.getElem?_range hi] at h
    cases h
    exact ⟨hi, rfl⟩
  · rw [List.getElem?_eq_none (by simp; omega)] at h
    cases h
def PRc (X : Cx) (e : Expr) (t : St → Hp → (Int → Int → Nat → Hp → Prop) → Prop) : Prop :=
  ∀ (pins : List (Addr × Obj)) (s : Shared) (σ : St) (H : Hp) (Q : Int → Int → Nat → Hp → Prop), Inv X pins σ H s → t σ H Q →
    wpAny (model X.prog X.w) X.A (eval e X.env) (fun x s' => ∃ r a b c n t u v H', x = .ref r ∧ IsRange s'.heap r a b c t u v ∧ RgC a b c n ∧ n ≤ 2 ^ 24 ∧ Inv X pins σ H' s' ∧ Q a c n H') X.xe s
def tRc (ta : TA) : St → Hp → (Int → Int → Nat → Hp → Prop) → Prop := fun σ H Q => ta σ H fun vs H1 => ∃ i j c n, (vs = [.int i, .int j, .int c] ∨ (vs = [.int i, .int j] ∧ c = 1) ∨ (vs = [.int j] ∧ i = 0 ∧ c = 1)) ∧ RgC i j c n ∧ n ≤ 2 ^ 24 ∧ Q i c n H1
theorem rgc_pos {i j : Int} (ha : -(2 ^ 62) ≤ i) (ha' : i < 2 ^ 62) (hb : -(2 ^ 62) ≤ j) (hb' : j < 2 ^ 62) : RgC i j 1 (j - i).toNat :=
  ⟨by decide, by decide, small_one ha ha' hb hb', rangeSize_nat i j⟩
theorem prc {ta : TA} (hg : Gl X "range") (hm : X.mg "range" = none) (ha : PA X (a :: es) ta)
    (hs : starEach (a :: es) X.env = (false, eval a X.env) :: starEach es X.env := by rfl) (hpl : (backTo pos (starEach es X.env)).any (·.1) = false := by rfl) :
    PRc X (.Call (.Name "range" p) (a :: es) [] pos) (tRc ta) := by
  intro pins s σ H Q I h
  refine Call_ (ld_blt I hg hm boot_range (callWith_type1 (thn (ha.run pos pins s σ H _ I h) fun us s1 ⟨vs, H1, I1, r1, q1⟩ => ?_) hs hpl))
  obtain ⟨i, j, c, n, e, hc, hn, q⟩ := q1
  rcases e with e | ⟨e, ec⟩ | ⟨e, ei, ec⟩
  · subst e
    cases r1 with
    | cons r rr =>
      cases rr with
      | cons r' rr =>
        cases rr with
        | cons r'' rr =>
          cases rr
          obtain ⟨t, rfl⟩ := r
          obtain ⟨t', rfl⟩ := r'
          obtain ⟨t'', rfl⟩ := r''
          exact call_range_3 hc.1 ⟨_, i, j, c, n, _, _, _, H1, rfl, IsRange.new .., hc, hn, I1.kept (t' := s1.toks) fun b o e => Heap.get?_push_of_some _ e, q⟩ (.inl (PyProof.noPylong_small hc.2.1))
  · subst e ec
    cases r1 with
    | cons r rr =>
      cases rr with
      | cons r' rr =>
        cases rr
        obtain ⟨t, rfl⟩ := r
        obtain ⟨t', rfl⟩ := r'
        exact call_range_2 ⟨_, i, j, 1, n, _, _, _, H1, rfl, IsRange.new .., hc, hn, I1.kept fun b o e => Heap.get?_push_of_some _ e, q⟩
  · subst e ei ec
    cases r1 with
    | cons r rr =>
      cases rr
      obtain ⟨t, rfl⟩ := r
      exact call_range_1 ⟨_, 0, j, 1, n, _, _, _, H1, rfl, IsRange.new .., hc, hn, I1.kept fun b o e => Heap.get?_push_of_some _ e, q⟩
def rgC (a c : Int) (n : Nat) : List V := (List.range n).map fun (i : Nat) => V.int (a + (i : Int) * c)
theorem rps_rgC {a c : Int} {n : Nat} : Rps K F (rgC a c n) (rngC a c n) := by
  unfold rgC rngC
  induction (List.range n) with
  | nil => exact .nil
  | cons i r ih => exact .cons (.int _) ih
theorem vals_rgC {a c : Int} {n : Nat} {acc : Array Value} (h : ItemsOf (fun i v => ∃ t, v = .int (a + i * c) t) acc n) : Vals (rgC a c n) acc.toList := by
  have e : acc.toList.length = n := by rw [Array.length_toList]; exact h.1
  unfold rgC
  rw [← e]
  refine vals_of_get acc.toList _ fun j u hj => ?_
  obtain ⟨t, rfl⟩ := h.2 j u (by rw [← hj, Array.getElem?_toList])
  exact ⟨t, rfl⟩
theorem rgC_len {a c : Int} {n : Nat} : (rgC a c n).length = n := by simp [rgC]
def tLstRc (te : St → Hp → (Int → Int → Nat → Hp → Prop) → Prop) : TE := fun σ H Q => te σ H fun a c n H1 => ∀ q, H1 q = none → Q (.ref q) (upd H1 q (.lst (rgC a c n)))
def tTupRc (te : St → Hp → (Int → Int → Nat → Hp → Prop) → Prop) : TE := fun σ H Q => te σ H fun a c n H1 => ∀ q, H1 q = none → Q (.ref q) (upd H1 q (.tup (rgC a c n)))
variable {te : St → Hp → (Int → Int → Nat → Hp → Prop) → Prop}
theorem pe_lstRc (hc : X.calm = true) (hg : Gl X "list") (hm : X.mg "list" = none) (he : PRc X e te) (na : starEach [e] X.env = (false, eval e X.env) :: starEach [] X.env := by rfl) : PE X (.Call (.Name "list" p) [e] [] pos) (tLstRc te) := by
  refine ⟨fun pins s σ H Q I h => ?_⟩
  refine Call_ (ld_blt I hg hm boot_list (callWith_type1 (args_cons (thn (he pins s σ H _ I h) fun x s1 ⟨r, a, b, c, n, t, u, v, H1, ex, hr, ok, hn, I1, q⟩ => args_nil ?_) na) na))
  subst ex
  refine call_list_range (n := n) (I1.ok.hd hc) hr ok.2.2.1 ok.2.2.2 hn fun h' tk acc c' hk e' hi => ?_
  refine ⟨.ref s1.heap.objs.size, upd H1 s1.heap.objs.size (.lst (rgC a c n)), I1.laid hk (Nat.le_refl _) (show ObjOk X.prog X.w _ _ _ (.lst (rgC a c n)) from ⟨?_, acc.toList, c', vals_rgC hi, ?_⟩), rfl, q _ (I1.hok.fresh (Nat.le_refl _))⟩
  · rw [rgC_len, sizeLine_eq]; omega
  · rw [Array.toArray_toList]; exact e'
theorem pe_tupRc (hc : X.calm = true) (hg : Gl X "tuple") (hm : X.mg "tuple" = none) (he : PRc X e te) (na : starEach [e] X.env = (false, eval e X.env) :: starEach [] X.env := by rfl) : PE X (.Call (.Name "tuple" p) [e] [] pos) (tTupRc te) := by
  refine ⟨fun pins s σ H Q I h => ?_⟩
  refine Call_ (ld_blt I hg hm boot_tuple (callWith_type1 (args_cons (thn (he pins s σ H _ I h) fun x s1 ⟨r, a, b, c, n, t, u, v, H1, ex, hr, ok, hn, I1, q⟩ => args_nil ?_) na) na))
  subst ex
  refine call_tuple_range (n := n) (I1.ok.hd hc) hr ok.2.2.1 ok.2.2.2 hn fun h' tk acc hk hi => ?_
  have I2 : Inv X pins σ H1 { s1 with heap := h', toks := tk } := I1.kept hk
  refine ⟨.ref h'.objs.size, upd H1 h'.objs.size (.tup (rgC a c n)), I2.laid (t' := tk) (fun c o e => Heap.get?_push_of_some _ e) (Nat.le_refl _) (show ObjOk X.prog X.w _ _ _ (.tup (rgC a c n)) from ⟨?_, acc.toList, vals_rgC hi, ?_⟩), rfl, q _ (I2.hok.fresh (Nat.le_refl _))⟩
  · rw [rgC_len, sizeLine_eq]; omega
  · rw [Array.toArray_toList]; exact IsTup.new _ _
/-- what range is asked -/
def Rg (ds : List D) (i c : Int) (n : Nat) : Prop := ∃ j, (ds = [.int i, .int j, .int c] ∨ (ds = [.int i, .int j] ∧ c = 1) ∨ (ds = [.int j] ∧ i = 0 ∧ c = 1)) ∧ RgC i j c n ∧ n ≤ 2 ^ 24
theorem rg1 {j : Int} (h : -16777216 ≤ j ∧ j ≤ 16777216) : Rg [.int j] 0 1 j.toNat := ⟨j, .inr (.inr ⟨rfl, rfl, rfl⟩), by have := rgc_pos (i := 0) (j := j) (by omega) (by omega) (by omega) (by omega); rwa [Int.sub_zero] at this, by omega⟩
theorem rg2 {i j : Int} (h : (0 ≤ i ∧ i ≤ 16777216) ∧ -16777216 ≤ j ∧ j ≤ 16777216) : Rg [.int i, .int j] i 1 (j - i).toNat := ⟨j, .inr (.inl ⟨rfl, rfl⟩), rgc_pos (by omega) (by omega) (by omega) (by omega), by omega⟩
theorem rg3 {i j : Int} (h : (-1000000 ≤ i ∧ i ≤ 1000000) ∧ -1000000 ≤ j ∧ j ≤ 1000000) : Rg [.int i, .int j, .int (-1)] i (-1) (i - j).toNat := ⟨j, .inl rfl, RgC.neg (by omega) (by omega) (by omega) (by omega), by omega⟩
theorem Rg.raw {ds : List D} {vs : List V} {i c : Int} {n : Nat} (h : Rg ds i c n) (r : Rps K F vs ds) : ∃ i' j c' n', (vs = [.int i', .int j, .int c'] ∨ (vs = [.int i', .int j] ∧ c' = 1) ∨ (vs = [.int j] ∧ i' = 0 ∧ c' = 1)) ∧ RgC i' j c' n' ∧ n' ≤ 2 ^ 24 ∧ i' = i ∧ c' = c ∧ n' = n := by
  obtain ⟨j, h, hr, hn⟩ := h
  rcases h with rfl | ⟨rfl, hc⟩ | ⟨rfl, hi, hc⟩
  · cases r with | cons h1 r => cases r with | cons h2 r => cases r with | cons h3 r => cases r; cases h1; cases h2; cases h3; exact ⟨i, j, c, n, .inl rfl, hr, hn, rfl, rfl, rfl⟩
  · cases r with | cons h1 r => cases r with | cons h2 r => cases r; cases h1; cases h2; exact ⟨i, j, c, n, .inr (.inl ⟨rfl, hc⟩), hr, hn, rfl, rfl, rfl⟩
  · cases r with | cons h1 r => cases r; cases h1; exact ⟨i, j, c, n, .inr (.inr ⟨rfl, hi, hc⟩), hr, hn, rfl, rfl, rfl⟩
theorem ex_tupR {p' pos' : Pos} (hc : X.calm = true) (hmt : X.mg "tuple" = none) (hm : X.mg "range" = none) (h : AX X J (a :: es) ρ M fun ds M1 => ∃ i c n, Rg ds i c n ∧ P (.tup (rngC i c n)) M1) (hgt : Gl X "tuple" := by rfl) (hg : Gl X "range" := by rfl)
    (hs : starEach (a :: es) X.env = (false, eval a X.env) :: starEach es X.env := by rfl) (hpl : (backTo pos (starEach es X.env)).any (·.1) = false := by rfl) (na : starEach [.Call (.Name "range" p) (a :: es) [] pos] X.env = (false, eval (.Call (.Name "range" p) (a :: es) [] pos) X.env) :: starEach [] X.env := by rfl) :
    EX X J (.Call (.Name "tuple" p') [.Call (.Name "range" p) (a :: es) [] pos] [] pos') ρ M P :=
  ex_of (pe_tupRc hc hgt hmt (prc hg hm pa_any hs hpl) na) fun F σ H Q st k => h.go st fun ds vs M1 F1 H1 q e1 o1 r1 => by
    obtain ⟨i, c, n, hr, q⟩ := q
    obtain ⟨i', j, c', n', h1, h2, h3, rfl, rfl, rfl⟩ := hr.raw r1
    exact ⟨i', j, c', n', h1, h2, h3, fun l hl => k _ _ _ _ _ q (e1.trans (o1.fixSame hl)) (o1.fix hl) (.tup (.inl (.inl upd_same)) rps_rgC)⟩
theorem ex_lstR {p' pos' : Pos} (hc : X.calm = true) (hmt : X.mg "list" = none) (hm : X.mg "range" = none) (h : AX X J (a :: es) ρ M fun ds M1 => ∃ i c n, Rg ds i c n ∧ P (.lst (rngC i c n)) M1) (hgt : Gl X "list" := by rfl) (hg : Gl X "range" := by rfl)
    (hs : starEach (a :: es) X.env = (false, eval a X.env) :: starEach es X.env := by rfl) (hpl : (backTo pos (starEach es X.env)).any (·.1) = false := by rfl) (na : starEach [.Call (.Name "range" p) (a :: es) [] pos] X.env = (false, eval (.Call (.Name "range" p) (a :: es) [] pos) X.env) :: starEach [] X.env := by rfl) :
    EX X J (.Call (.Name "list" p') [.Call (.Name "range" p) (a :: es) [] pos] [] pos') ρ M P :=
  ex_of (pe_lstRc hc hgt hmt (prc hg hm pa_any hs hpl) na) fun F σ H Q st k => h.go st fun ds vs M1 F1 H1 q e1 o1 r1 => by
    obtain ⟨i, c, n, hr, q⟩ := q
    obtain ⟨i', j, c', n', h1, h2, h3, rfl, rfl, rfl⟩ := hr.raw r1
    exact ⟨i', j, c', n', h1, h2, h3, fun l hl => k _ _ _ _ _ q (e1.trans (o1.fixSame hl)) (o1.fix hl) (.lst upd_same rps_rgC)⟩
theorem wk_rngC {lo c : Int} {n : Nat} : Wk K F (Itc lo c n) (rngC lo c n) :=
  ⟨fun i H hi s => by rw [rngC_len] at hi; exact hi, fun H s => by rw [rngC_len]; exact Nat.le_refl _, fun i d H x H' F1 M hd s o y => by
    obtain ⟨rfl, rfl⟩ := y
    obtain ⟨_, rfl⟩ := rngC_at hd
    exact ⟨F1, Same.refl _, o, .int _⟩⟩
theorem ix_range3 {tg : Expr} {P : List D → Mem → Prop} (hm : X.mg "range" = none) (h : AX X J [a, b, c] ρ M fun ds M2 => ∃ i j, ds = [.int i, .int j, .int (-1)] ∧ ((-1000000 ≤ i ∧ i ≤ 1000000) ∧ -1000000 ≤ j ∧ j ≤ 1000000) ∧ P (rngC i (-1) (i - j).toNat) M2) (hg : Gl X "range" := by rfl)
    (hs : starEach [a, b, c] X.env = (false, eval a X.env) :: starEach [b, c] X.env := by rfl) (hpl : (backTo pos (starEach [b, c] X.env)).any (·.1) = false := by rfl) : IX X J tg (.Call (.Name "range" p) [a, b, c] [] pos) ρ M P :=
  ix_of (pi_range3 hg hm pa_any hs hpl) fun F σ H R s k => h.go s fun ds vs M1 F1 H1 q e1 o1 r1 => by
    obtain ⟨i, j, rfl, hj, q2⟩ := q
    cases r1 with | cons h1 r1 => cases r1 with | cons h2 r1 => cases r1 with | cons h3 r1 =>
      cases r1
      cases h1; cases h2; cases h3
      exact ⟨i, j, -1, (i - j).toNat, rfl, RgC.neg (by omega) (by omega) (by omega) (by omega), k _ _ M1 F1 H1 q2 e1 o1 wk_rngC⟩
end
end DX
namespace DX
open PySem PySem.Spec L2
open SX
section
variable {X : Cx} {J : Gh} {M : Mem} {P : D → Mem → Prop}
/-! ### texts by their signs -/
def isS (c : Nat) : Prop := c = 71 ∨ c = 75 ∨ c = 80
def sgl (L : List Nat) : List D := L.map fun c => D.str (S [c])
theorem tl_S {l : List Nat} : (S l).cps.toList = l := rfl
theorem joinL_one : ∀ L : List Nat, TL.joinL [] (L.map fun c => [c]) = L
  | [] => rfl
  | [c] => rfl
  | c :: d :: r => by
    have := joinL_one (d :: r)
    simp only [List.map_cons] at this
    simp only [List.map_cons, TL.joinL, this]
    simp
theorem sgl_toS (L : List Nat) : (sgl L).map toS = (L.map fun c => [c]).map S := by
  unfold sgl; rw [List.map_map, List.map_map]; rfl
theorem empty_S : ("" : Str) = S [] := by decide
theorem join_sgl (L : List Nat) : Txt.join "" ((sgl L).map toS) = S L := by
  rw [sgl_toS, empty_S, join_S, joinL_one]
theorem sgl_all (L : List Nat) : AllS (sgl L) := alls_map
theorem sgl_len {L : List Nat} : (sgl L).length = L.length := by simp [sgl]
theorem sgl_size : ∀ {L : List Nat}, sizeJ (sgl L) = L.length
  | [] => rfl
  | c :: r => by
    have := sgl_size (L := r)
    unfold sizeJ sgl at this ⊢
    simp only [List.map_cons, List.sum_cons, this, List.length_cons]
    show (S [c]).length + _ = _
    rw [S_len]; simp; omega
theorem sgl_rev {L : List Nat} : (sgl L).reverse = sgl L.reverse := by simp [sgl]
theorem sgl_app {L R : List Nat} : sgl L ++ sgl R = sgl (L ++ R) := by simp [sgl]
theorem signs_S {l : List Nat} : signs (S l) = sgl l := rfl
theorem id_strA {z : Str} {i : Int} (h : 0 ≤ i ∧ i < (z.cps.toList.length : Int)) (hz : z.cps.toList.length ≤ 1000000) (p : P (.str (S [z.cps.toList.getD i.toNat 0])) M) : ID X (.str z) (.int i) M P := by
  have hi : i.toNat < z.cps.toList.length := by omega
  refine id_str (n := z.cps.toList.getD i.toNat 0) (by unfold Str.length; rw [← Array.length_toList]; exact hz) ?_ p
  have := atI_nat (xs := z.cps.toList) (j := i.toNat) (v := z.cps.toList.getD i.toNat 0) (by rw [List.getD_eq_getElem?_getD, List.getElem?_eq_getElem hi]; rfl)
  rwa [Int.toNat_of_nonneg h.1] at this
/-! ### states of positions -/
def stp (l : List Nat) (p : Int) : Nat := l.getD (l.length - 1 - p.toNat) 0
def firstS (l : List Nat) : List Int → Nat
  | [] => 80
  | p :: ps => if stp l p = 80 then firstS l ps else stp l p
def carryS (c : Nat) : Int := if c = 71 then 1 else 0
def down (a b : Int) : List Int := (List.range (a - b).toNat).map fun (i : Nat) => a + (i : Int) * (-1)
theorem rngC_down {a b : Int} : rngC a (-1) (a - b).toNat = (down a b).map D.int := by unfold rngC down; rw [List.map_map]; rfl
theorem down_len {a b : Int} : (down a b).length = (a - b).toNat := by simp [down]
theorem down_mem {a b p : Int} (h : p ∈ down a b) : b < p ∧ p ≤ a := by
  unfold down at h
  simp only [List.mem_map, List.mem_range] at h
  obtain ⟨i, hi, rfl⟩ := h
  omega
theorem down_nil {a b : Int} (h : a ≤ b) : down a b = [] := by unfold down; rw [show (a - b).toNat = 0 by omega]; rfl
theorem down_cons {a b : Int} (h : b < a) : down a b = a :: down (a - 1) b := by
  unfold down
  rw [show (a - b).toNat = (a - 1 - b).toNat + 1 by omega, List.range_succ_eq_map, List.map_cons, List.map_map]
  congr 1
  · simp
  · apply List.map_congr_left
    intro i _
    simp only [Function.comp]
    omega
def dueP (n o : Int) (r : Bool) : List Int := if r then down o 0 ++ down n o else down o (-1)
theorem dueP_mem {n o p : Int} {r : Bool} (h0 : 0 ≤ o ∧ o ≤ n) (h : p ∈ dueP n o r) : 0 ≤ p ∧ p ≤ n := by
  unfold dueP at h
  split at h
  · rw [List.mem_append] at h
    rcases h with h | h <;> have := down_mem h <;> omega
  · have := down_mem h; omega
def upto (a b : Int) : List Int := (List.range (b - a).toNat).map fun (i : Nat) => a + (i : Int)
theorem rngD_upto {a b : Int} : rngD a (b - a).toNat = (upto a b).map D.int := by unfold rngD upto; rw [List.map_map]; rfl
theorem upto_mem {a b p : Int} (h : p ∈ upto a b) : a ≤ p ∧ p < b := by
  unfold upto at h
  simp only [List.mem_map, List.mem_range] at h
  obtain ⟨i, hi, rfl⟩ := h
  omega
theorem upto_len {a b : Int} : (upto a b).length = (b - a).toNat := by simp [upto]
def isRing (l : List Nat) : Bool := decide (stp l 0 = 80)
def trueS (l : List Nat) (o : Int) : Int := carryS (firstS l (dueP ((l.length : Int) - 1) o (isRing l)))
def trueAll (l : List Nat) : List Int := (upto (if isRing l then 1 else 0) ((l.length : Int) - 1 + 1)).map (trueS l)
theorem sceq_S {a b : List Nat} : sceq (.str (S a)) (.str (S b)) = decide (a = b) := by
  show decide (S a = S b) = _
  exact decide_eq_decide.mpr ⟨S_inj, fun h => by rw [h]⟩
theorem goods_ints : ∀ {l : List Int}, (∀ i ∈ l, -(2 ^ 200) ≤ i ∧ i ≤ 2 ^ 200) → goods (l.map D.int)
  | [], _ => trivial
  | i :: r, h => ⟨h i (by simp), goods_ints fun j hj => h j (by simp [hj])⟩
theorem wts_ints : ∀ {l : List Int}, wts (l.map D.int) = 66 * l.length
  | [] => rfl
  | i :: r => by rw [List.map_cons, wts, wts_ints, List.length_cons]; show 64 + 2 + _ = _; omega
theorem deps_ints : ∀ {l : List Int}, deps (l.map D.int) = 0
  | [] => rfl
  | i :: r => by rw [List.map_cons, deps, deps_ints]; rfl
theorem tint {l : List Int} (h : ∀ i ∈ l, -(2 ^ 200) ≤ i ∧ i ≤ 2 ^ 200) (hl : l.length ≤ 7000) : good (.tup (l.map D.int)) ∧ wt (.tup (l.map D.int)) ≤ 16000000 ∧ dep (.tup (l.map D.int)) ≤ 50 :=
  ⟨goods_ints h, by rw [wt, wts_ints]; omega, by rw [dep, deps_ints]; omega⟩
theorem lint {l : List Int} (h : ∀ i ∈ l, -(2 ^ 200) ≤ i ∧ i ≤ 2 ^ 200) (hl : l.length ≤ 7000) : good (.lst (l.map D.int)) ∧ wt (.lst (l.map D.int)) ≤ 16000000 ∧ dep (.lst (l.map D.int)) ≤ 50 :=
  ⟨goods_ints h, by rw [wt, wts_ints]; omega, by rw [dep, deps_ints]; omega⟩
theorem lit_G : ("G" : Str) = S [71] := by decide
theorem lit_K : ("K" : Str) = S [75] := by decide
theorem lit_P : ("P" : Str) = S [80] := by decide
theorem getD_mem {l : List Nat} {i : Nat} (h : i < l.length) : l.getD i 0 ∈ l := by
  rw [List.getD_eq_getElem?_getD, List.getElem?_eq_getElem h]; exact List.getElem_mem h
end
end DX
namespace DX
open PySem PySem.Spec L2
open SX
section
variable {X : Cx} {J : Gh} {M : Mem} {P : D → Mem → Prop}
/-! ### slices of texts and tuples -/
def cutA {α : Type} (xs : List α) (lo hi : Option Int) : List α := (xs.drop (HT.sIx xs.length 0 lo)).take (HT.sIx xs.length xs.length hi - HT.sIx xs.length 0 lo)
theorem sd_str {z : Str} {l u : Option Int} (hz : z.cps.toList.length ≤ 1000000) (p : P (.str (S (cutA z.cps.toList l u))) M) : SD X (.str z) l u M P :=
  ⟨_, sl_str, fun F H v Q o rx k => by
    cases rx
    have hl : z.length = z.cps.toList.length := by unfold Str.length; rw [Array.length_toList]
    refine ⟨z, rfl, by rw [sizeLine_eq]; omega, ?_⟩
    have e : cutS z l u = S (cutA z.cps.toList l u) := by unfold cutS cutA; rw [hl]
    rw [e]
    exact k.here p o (.str _)⟩
theorem sd_tup {ds : List D} {l u : Option Int} (hw : ¬ (HT.sIx ds.length 0 l = 0 ∧ HT.sIx ds.length ds.length u = ds.length)) (p : P (.tup (cutD ds l u)) M) : SD X (.tup ds) l u M P :=
  ⟨_, sl_tup, fun F H v Q o rx k => by
    cases rx with
    | tup h1 r1 => exact ⟨_, _, rfl, same_t o.ex h1, by rw [r1.length]; exact hw, fun q hq => k _ _ _ _ _ p (o.fixSame hq) (o.fix hq) (.tup (.inl (.inl upd_same)) ((cut_of r1 l u).mono (o.fixSame hq)))⟩⟩
theorem cut_init {α : Type} {xs : List α} : cutA xs none (some (-1)) = xs.dropLast := by
  unfold cutA
  rw [HT.sIx_none, List.drop_zero, Nat.sub_zero, List.dropLast_eq_take]
  congr 1
  show (if (-1 : Int) < 0 then (-1 + (xs.length : Int)).toNat else min (-1 : Int).toNat xs.length) = xs.length - 1
  rw [if_pos (by decide)]
  omega
theorem init_rev {c : Nat} {L : List Nat} : cutA (c :: L).reverse none (some (-1)) = L.reverse := by
  rw [cut_init, List.reverse_cons, List.dropLast_concat]
theorem od_and1 {i : Int} (p : P (.int (i % 2)) M) : OD X (binaryOp .BitAnd) (.int i) (.int 1) M P := by
  have h := od_andM (X := X) (M := M) (P := P) (i := i) (k := 1) (by simpa using p)
  exact h
/-- a list that changed is left behind -/
theorem ex_drop {e : Expr} {ρ : DEnv} (h : EX X J e ρ M fun d M1 => ∃ p ds M0, M0 p = none ∧ M1 = up M0 p (.lst ds) ∧ P d M0) : EX X J e ρ M P :=
  ex_of h fun F σ H Q st k => ⟨F, st, fun d v M' F' H' q e1 o r => by
    obtain ⟨p, ds, M0, hn, rfl, q⟩ := q
    obtain ⟨_, ys, hy, ry⟩ := o.mt p _ up_same
    obtain ⟨s1, o4⟩ := o.freeze up_same hy
    rw [rm_up hn] at o4
    exact k _ _ _ _ _ q (e1.trans s1) o4 (r.mono s1)⟩
theorem g1_par3 {a b c : Expr} {ρ : DEnv} {B : Bd} {pos : Pos} {x y z : Str} {px py pz pt : Pos} {kt k2 pt2} (i j l : Nat) (hc : X.calm = true) (hij : i ≠ j) (hil : i ≠ l) (hjl : j ≠ l) (h : AX X J [a, b, c] ρ M fun ds M1 => ∃ d1 d2 d3, ds = [d1, d2, d3] ∧ B.nx (put (put (put ρ i d1) j d2) l d3) M1)
    (hN : X.N.Nodup := by rfl) (hi : X.N[i]? = some x := by rfl) (hj : X.N[j]? = some y := by rfl) (hl : X.N[l]? = some z := by rfl) (hx : X.env.scope.names.lookup x = some .local := by rfl) (hy : X.env.scope.names.lookup y = some .local := by rfl) (hz : X.env.scope.names.lookup z = some .local := by rfl)
    (hw : swappedStores [.Tuple [.Name x px, .Name y py, .Name z pz] kt pt] (.Tuple [a, b, c] k2 pt2) X.env = pure (some [x, y, z]) := by rfl)
    (hs : swapsWithSole [.Tuple [.Name x px, .Name y py, .Name z pz] kt pt] (.Tuple [a, b, c] k2 pt2) pos.line X.env = pure false := by rfl) :
    G1 X J (.Assign [.Tuple [.Name x px, .Name y py, .Name z pz] kt pt] (.Tuple [a, b, c] k2 pt2) pos) ρ M B :=
  g1_of (ps_par3 hc hN hi hj hl hij hil hjl hx hy hz pa_any hw hs) fun F σ H E s k => h.go s fun ds vs M1 F1 H1 p e1 o1 r1 => by
    obtain ⟨d1, d2, d3, rfl, p⟩ := p
    cases r1 with
    | cons h1 r1 => cases r1 with
      | cons h2 r1 => cases r1 with
        | cons h3 r1 =>
          cases r1
          exact ⟨_, _, _, rfl, k.nx F1 _ H1 _ M1 p e1 ((((s.en.mono e1).put i h1).put j h2).put l h3) o1⟩
/-! ### numbers by their bits -/
def acc (f : Nat → Int) : Nat → Int
  | 0 => 0
  | i + 1 => acc f i + 2 ^ i * f i
theorem acc_in {f : Nat → Int} (hf : ∀ i, 0 ≤ f i ∧ f i ≤ 1) : ∀ n, 0 ≤ acc f n ∧ acc f n < 2 ^ n
  | 0 => ⟨Int.le_refl 0, by show (0 : Int) < 2 ^ 0; decide⟩
  | n + 1 => by
    have ih := acc_in hf n
    have h1 := hf n
    have h2 : 0 ≤ 2 ^ n * f n := Int.mul_nonneg (Int.le_of_lt (pow_pos2 n)) h1.1
    have h3 : 2 ^ n * f n ≤ 2 ^ n * 1 := Int.mul_le_mul_of_nonneg_left h1.2 (Int.le_of_lt (pow_pos2 n))
    rw [acc, Int.pow_succ]
    omega
theorem acc_bit {f : Nat → Int} (hf : ∀ i, 0 ≤ f i ∧ f i ≤ 1) : ∀ n i, i < n → acc f n / 2 ^ i % 2 = f i
  | n + 1, i, h => by
    have hn := acc_in hf n
    have h1 := hf n
    rw [acc]
    by_cases e : i = n
    · subst e
      rw [Int.add_mul_ediv_left _ _ (by have := pow_pos2 i; omega), Int.ediv_eq_zero_of_lt hn.1 hn.2]
      omega
    · have ih := acc_bit hf n i (by omega)
      have hp : (2 : Int) ^ n = 2 ^ i * (2 * 2 ^ (n - i - 1)) := by
        have e2 : n = i + (n - i - 1 + 1) := by omega
        rw [← Int.pow_succ', ← Int.pow_add, ← e2]
      rw [hp, Int.mul_assoc, Int.add_mul_ediv_left _ _ (by have := pow_pos2 i; omega), Int.mul_assoc]
      omega
/-- the state that two bits make -/
def ltr (x y : Int) : Nat := if x ≠ y then 80 else if x = 1 then 71 else 75
def stL (a b : Int) (n : Nat) : List Nat := (List.range n).map fun i => ltr (a / 2 ^ i % 2) (b / 2 ^ i % 2)
theorem stL_len {a b : Int} {n : Nat} : (stL a b n).length = n := by simp [stL]
theorem stL_succ {a b : Int} {n : Nat} : stL a b (n + 1) = stL a b n ++ [ltr (a / 2 ^ n % 2) (b / 2 ^ n % 2)] := by simp [stL, List.range_succ]
theorem stL_at {a b : Int} {n i : Nat} (h : i < n) : (stL a b n).getD i 0 = ltr (a / 2 ^ i % 2) (b / 2 ^ i % 2) := by
  unfold stL
  rw [List.getD_eq_getElem?_getD, List.getElem?_map, List.getElem?_range h]; rfl
theorem stL_isS {a b : Int} {n : Nat} : ∀ c ∈ stL a b n, isS c := by
  intro c hc
  unfold stL at hc
  simp only [List.mem_map] at hc
  obtain ⟨i, _, rfl⟩ := hc
  unfold ltr isS
  split
  · exact .inr (.inr rfl)
  · split
    · exact .inl rfl
    · exact .inr (.inl rfl)
theorem strOk_S {l : List Nat} (h : ∀ c ∈ l, isS c) : PyData.strOk (S l) = true := by
  unfold PyData.strOk
  simp only [List.all_toArray, List.all_eq_true, decide_eq_true_eq]
  intro c hc
  rcases h c hc with g | g | g <;> rw [g] <;> decide
theorem good_S {l : List Nat} (h : ∀ c ∈ l, isS c) (hl : l.length ≤ 1000) : good (.str (S l)) ∧ wt (.str (S l)) ≤ 16000000 ∧ dep (.str (S l)) ≤ 50 :=
  ⟨strOk_S h, by show 10 * (S l).length + 2 ≤ _; rw [S_len]; omega, Nat.zero_le _⟩
theorem isS_rev {c : Nat} {L : List Nat} (hc : isS c) (h : ∀ c ∈ L, isS c) : ∀ d ∈ (c :: L).reverse, isS d := by
  intro d hd
  rw [List.mem_reverse, List.mem_cons] at hd
  rcases hd with rfl | hd
  · exact hc
  · exact h d hd
theorem acc_congr {f g : Nat → Int} : ∀ n, (∀ i, i < n → f i = g i) → acc f n = acc g n
  | 0, _ => rfl
  | n + 1, h => by rw [acc, acc, acc_congr n fun i hi => h i (by omega), h n (by omega)]
def fA (L : List Nat) (i : Nat) : Int := if L.getD i 0 = 75 then 0 else 1
def fB (L : List Nat) (i : Nat) : Int := if L.getD i 0 = 71 then 1 else 0
theorem fA_in {L : List Nat} (i : Nat) : 0 ≤ fA L i ∧ fA L i ≤ 1 := by unfold fA; split <;> omega
theorem fB_in {L : List Nat} (i : Nat) : 0 ≤ fB L i ∧ fB L i ≤ 1 := by unfold fB; split <;> omega
theorem stL_back {L : List Nat} (h : ∀ c ∈ L, isS c) : stL (acc (fA L) L.length) (acc (fB L) L.length) L.length = L := by
  refine List.ext_getElem (by rw [stL_len]) fun i h1 h2 => ?_
  have e : L.getD i 0 = L[i] := by rw [List.getD_eq_getElem?_getD, List.getElem?_eq_getElem h2]; rfl
  have e1 : (stL (acc (fA L) L.length) (acc (fB L) L.length) L.length)[i] = ltr (fA L i) (fB L i) := by
    have e3 := stL_at (a := acc (fA L) L.length) (b := acc (fB L) L.length) h2
    rw [List.getD_eq_getElem?_getD, List.getElem?_eq_getElem h1, acc_bit fA_in _ _ h2, acc_bit fB_in _ _ h2] at e3
    exact e3
  rw [e1]
  unfold fA fB
  rw [e]
  rcases h _ (List.getElem_mem h2) with g | g | g <;> rw [g] <;> decide
end
end DX
namespace DX
open PySem PySem.Spec L2
open SX
section
variable {X : Cx} {J : Gh} {M : Mem} {P : D → Mem → Prop}
theorem dx_sub {α β : Sort _} {a a0 : α} {b b0 : β} {p : α → β → Prop} (h : b = b0 ∧ a = a0) (k : p a0 b0) : p a b := by
  obtain ⟨rfl, rfl⟩ := h
  exact k
/-! ### not in a tuple of texts -/
def inS (z : Str) (ds : List D) : Bool := ds.any fun d => decide (toS d = z)
theorem inV_strs {z : Str} : ∀ zs : List Str, inV (.str z) (zs.map V.str) = zs.any fun y => decide (y = z)
  | [] => rfl
  | y :: zs => by
    have ih := inV_strs (z := z) zs
    unfold inV at ih ⊢
    rw [List.map_cons, List.any_cons, List.any_cons, ih]
    rfl
theorem flat_strs : ∀ zs : List Str, (zs.map V.str).all flatV = true
  | [] => rfl
  | y :: zs => by rw [List.map_cons, List.all_cons, flat_strs zs]; rfl
theorem inS_toS {z : Str} {ds : List D} : ((ds.map toS).any fun y => decide (y = z)) = inS z ds := by unfold inS; rw [List.any_map]; rfl
theorem od_notInA {z : Str} {ds : List D} (ha : AllS ds) (p : P (.bl (!inS z ds)) M) : OD X (compareOp .NotIn) (.str z) (.tup ds) M P :=
  ⟨_, op_notIn_seq, fun F H v u Q o rx ry k => by
    cases rx
    cases ry with
    | tup h1 r1 =>
      have e3 := vals_strs (zs := ds.map toS) (by rw [ha]; exact r1)
      subst e3
      refine ⟨_, _, rfl, .inr (same_t o.ex h1), rfl, flat_strs _, ?_⟩
      rw [inV_strs, inS_toS]
      exact k.here p o (.bl _)⟩
theorem od_inA {z : Str} {ds : List D} (ha : AllS ds) (p : P (.bl (inS z ds)) M) : OD X (compareOp .In) (.str z) (.tup ds) M P :=
  ⟨_, op_in_seq, fun F H v u Q o rx ry k => by
    cases rx
    cases ry with
    | tup h1 r1 =>
      have e3 := vals_strs (zs := ds.map toS) (by rw [ha]; exact r1)
      subst e3
      refine ⟨_, _, rfl, .inr (same_t o.ex h1), rfl, flat_strs _, ?_⟩
      rw [inV_strs, inS_toS]
      exact k.here p o (.bl _)⟩
end
/-! ### a look at the module that asks one thing more -/
def lookY (fa : List He.Fa) (fn : List He.DefD) (ex : PySem.W.Frag → Bool) (n : Nat) (g : Addr → Option Obj) : He.AlD × Bool :=
  (He.obsDG n fa fn g, ex (He.frG g (He.asD g n)))
def hookY (n : Nat) (fa : List He.Fa) (fn : List He.DefD) (ex : PySem.W.Frag → Bool) : PySem.W.Hook where
  α := He.AlD × Bool
  obs := fun s => lookY fa fn ex n s.heap.get?
  val := fun _ => (He.valD fn, true)
  says := fun _ h => ∃ K : PySem.W.Frag, K.In h ∧ He.SaysD fa fn K ∧ ex K = true
  of := fun _ _ e => ⟨_, He.frG_in, congrArg Prod.fst e, congrArg Prod.snd e⟩
  keeps := fun _ _ _ ⟨K, hK, c, d⟩ k => ⟨K, PySem.W.Frag.In.keeps hK k, c, d⟩
theorem lookY_eq {n : Nat} {fa : List He.Fa} {fn : List He.DefD} {ex : PySem.W.Frag → Bool} {g : Addr → Option Obj} {s : Shared} (h : ∀ a, g a = s.heap.get? a) : lookY fa fn ex n g = (hookY n fa fn ex).obs s := by
  have e : g = s.heap.get? := funext h
  subst e
  rfl
end DX
namespace DX
open PySem PySem.Spec L2 PyProof.Rows StX

/-! ### calls of any form: values by place, keywords; star parameters -/
/-- t looks names up in the dict at D, one behind another, and ends in what fin says -/
def KwChainE {α : Type} (D : Addr) (fin : Sem α → Prop) : List (Str × Value) → Sem α → Prop
  | [], t => fin t
  | q :: l, t => ∃ (β γ : Type) (k1 : Option Value → Sem β) (k2 : β → Sem γ) (k3 : γ → Sem α) (a : β), t = ((nsGet D q.1 >>= k1) >>= k2) >>= k3 ∧ k1 (some q.2) = pure a ∧ KwChainE D fin l (k2 a >>= k3)
theorem KwChainE.run {α : Type} {K : PySem.W.Frag} {M : Model} {A : Around} {s : Shared} {D : Addr} {fin : Sem α → Prop} {Q : α → Shared → Prop} {E : Value → Shared → Prop} (X : K.In s.heap) (hf : ∀ t, fin t → wpAny M A t Q E s) :
    ∀ {l : List (Str × Value)} {t : Sem α}, (∀ q ∈ l, PySem.W.nsIn K D q.1 = some (some q.2)) → KwChainE D fin l t → wpAny M A t Q E s
  | [], t, _, e => hf t e
  | q :: l, t, hl, e => by
    obtain ⟨β, γ, k1, k2, k3, a, e1, e2, e3⟩ := e
    have l1 : PySem.W.Looks M s.heap (nsGet D q.1 >>= k1) a := (PySem.W.looks_nsIn X (hl q (List.mem_cons_self ..))).andThen (PySem.W.Looks.of_pure e2)
    rw [e1, bind_assoc]
    exact wpAny_bind (l1.here (KwChainE.run X hf (fun p hp => hl p (List.mem_cons_of_mem _ hp)) e3))
abbrev TrV := List D → List D → Mem → (D → Mem → Prop) → Prop
structure FnV (pg : Program) (w : World) (K : PySem.W.Frag) (mg : Str → Option Value) (base : Heap) (gd : Bool) (k : Nat) (f : Addr) (ks : List Str) (T : TrV) : Prop where
  go : ∀ (A : Around) (outer : List PySem.Env) (s : Shared) (H F : Hp) (M : Mem) (ds zs : List D) (P : D → Mem → Prop) (us ws : List Value) (vs xs : List V) (Q : VK), (gd = true → A.guards = some []) → Room k A → Env0 pg w K mg base A outer s H →
    Vals vs us → Vals xs ws → ws.length = ks.length → Ok K F M H → Rps K F vs ds → Rps K F xs zs → T ds zs M P → Kt K F P Q → codeAny (model pg w) A (.call (.ref f) ⟨us, ks.zip ws⟩) (CR CX0 outer pg w H s Q E0) s
/-- a def's body keeps the promise T of what stands in its parameters -/
def BodyOk (pg : Program) (w : World) (K : PySem.W.Frag) (mg : Str → Option Value) (base : Heap) (gd : Bool) (k : Nat) (f : Addr) (qual : Str) (body : List Stmt) (scope : Scope) (N ps : List Str) (T : Tr) : Prop :=
  ∀ (cdv : Value) (A : Around) (outer : List PySem.Env) (s : Shared) (H : Hp) (ds : List D) (M : Mem) (P : D → Mem → Prop), (gd = true → A.guards = some []) → Room k (A.deeper (PyProof.Rows.envOfC qual scope s.heap.objs.size f cdv)) → T ds M P →
      GX (cxOf CX0 pg w K mg base N qual scope f cdv A outer s H E0).nox Gh.triv body (startD (N.length - ps.length) ds) M ⟨fun _ M' => P .non M', P, fun _ _ => False, fun _ _ => False⟩
theorem up_tup_same {H : Hp} {a : Addr} {xs : List V} : upd H a (.tup xs) a = some (.tup xs) := upd_same
section
variable {pg : Program} {w : World} {K : PySem.W.Frag} {mg : Str → Option Value} {base : Heap} {x qual : Str} {params : Arguments} {body : List Stmt} {scope : Scope} {kws : List (Str × V)} {f : Addr} {fd : FuncData} {N pn : List Str} {pv : Str} {k : Nat} {T : Tr} {gd : Bool}
/-- the values in the parameters, from the body on -/
theorem body_run {ps : List Str} (B : BodyOk pg w K mg base gd k f qual body scope N ps T) (S : FnScope N ps scope) (cdv : Value) {A : Around} {outer : List PySem.Env} {s2 : Shared} {H2 F : Hp} {M : Mem} {ds : List D} {vs : List V} {P : D → Mem → Prop} {Q : VK}
    (hg : gd = true → A.guards = some []) (hr : Room k (A.deeper (PyProof.Rows.envOfC qual scope s2.heap.objs.size f cdv))) (hl : vs.length = ps.length) (o : Ok K F M H2) (rd : Rps K F vs ds) (t : T ds M P) (kt : Kt K F P Q) :
    ∃ t, PSs (cxOf CX0 pg w K mg base N qual scope f cdv A outer s2 H2 E0) body t ∧ t { nx := fun _ H' => Q .non H', rt := Q } (L2.start N vs) H2 := by
  have hb := B cdv A outer s2 H2 ds M P hg hr t
  refine ⟨_, PSs.nox (X := cxOf CX0 pg w K mg base N qual scope f cdv A outer s2 H2 E0) (show PSs (cxOf CX0 pg w K mg base N qual scope f cdv A outer s2 H2 E0).nox body _ from hb), F, ⟨?_, o, trivial⟩, ⟨fun F' σ' H' ρ' M' p e en o' => kt _ _ _ _ _ p e o' .non, kt, fun F' σ' H' ρ' M' p => p.elim, fun F' σ' H' ρ' M' p => p.elim⟩⟩
  unfold L2.start
  rw [hl]
  exact En.start _ rd
theorem rps_pick {F : Hp} {vs xs mvs : List V} {ds zs mds : List D} (r : Rps K F vs ds) (rm : Rps K F mvs mds) (rz : Rps K F xs zs) (ix : List Nat) : Rps K F (pick (vs ++ (mvs ++ xs)) ix) (pick (ds ++ (mds ++ zs)) ix) := pick_rps (r.append (rm.append rz)) ix
theorem Rps.split {F : Hp} : ∀ {vs : List V} {d1 d2 : List D}, Rps K F vs (d1 ++ d2) → ∃ v1 v2, vs = v1 ++ v2 ∧ Rps K F v1 d1 ∧ Rps K F v2 d2
  | vs, [], d2, h => ⟨[], vs, rfl, .nil, h⟩
  | _, d :: d1, d2, h => by
    cases h with
    | cons a r =>
      obtain ⟨v1, v2, e, r1, r2⟩ := Rps.split r
      exact ⟨_ :: v1, v2, by rw [e]; rfl, .cons a r1, r2⟩
/-- def f(a, .., *v, k=.., ..) -/
theorem fn_starV (F : FunD K x qual params body scope [] kws f fd) (S : FnScope N (pn ++ [pv]) scope) (B : BodyOk pg w K mg base gd k f qual body scope N (pn ++ [pv]) T) (np : Nat) (ks : List Str) (ms : List (Str × V)) (mds : List D) (ix : List Nat)
    (hms : ∀ q ∈ ms, q ∈ kws) (hmd : ∀ F, Rps K F (ms.map (·.2)) mds) (tp : List D → D) (htp : tp = .tup ∨ tp = .stup) (r0 : Bool)
    (h : ∀ (kV : Value) (D : Addr) (doc pm : Value) (an : Option Addr) (cdv ct : Value) (us rest mv ws : List Value), (kws ≠ [] → kV = .ref D) → (r0 = true → rest = []) → us.length = np → mv.length = ms.length → ws.length = ks.length →
      KwChainE D (fun t => t = (newTuple rest >>= fun t => pure (pn.zip (pick (us ++ (mv ++ ws)) ix) ++ [(pv, t)]))) ((ms.map (·.1)).zip mv) (bindArgs (PySem.W.fnOf x qual params body scope .none kV doc pm an cdv ct) ⟨us ++ rest, ks.zip ws⟩))
    (hix : ∀ (us mv ws : List V), us.length = np → mv.length = ms.length → ws.length = ks.length → (pick (us ++ (mv ++ ws)) ix).length = pn.length) :
    FnV pg w K mg base gd (k + 1) f ks (fun ds zs M P => ∃ d0 dr, ds = d0 ++ dr ∧ d0.length = np ∧ zs.length = ks.length ∧ dr.length ≤ 1000000 ∧ (r0 = true → dr = []) ∧ T (pick (d0 ++ (mds ++ zs)) ix ++ [tp dr]) M P) := by
  obtain ⟨oc, od, dV, kV, doc, pm, an, cdv, ct, osl, rfl, lk, hcd, hD, hK⟩ := F.ex
  obtain rfl : dV = .none := by
    rcases hD with ⟨_, e⟩ | ⟨e, _⟩
    · exact e
    · exact absurd rfl e
  obtain ⟨D, hkV, hq⟩ : ∃ D : Addr, (kws ≠ [] → kV = .ref D) ∧ ∀ q ∈ kws, ∃ u, PySem.W.nsIn K D q.1 = some (some u) ∧ RelV q.2 u := by
    rcases hK with e | ⟨D, e, hq⟩
    · exact ⟨0, fun z => absurd e z, fun q hq => by rw [e] at hq; cases hq⟩
    · exact ⟨D, fun _ => e, hq⟩
  obtain ⟨mv, hml, rmv, hmk⟩ := kwd_vals (ms := ms) fun q hm => hq q (hms q hm)
  refine ⟨fun A outer s H F0 M ds zs P us0 ws vs xs Q hg hr e0 rv rx hw o rd rz t kt => ?_⟩
  obtain ⟨d0, dr, rfl, hd0, hzl, hdr, hd00, t⟩ := t
  obtain ⟨v1, v2, rfl, rd1, rd2⟩ := Rps.split rd
  obtain ⟨us, rest, rfl, r1, r2⟩ := vals_split rv
  have l1 : us.length = np := by rw [← r1.length, rd1.length]; exact hd0
  have hz : rest.length ≤ sizeLine := by rw [← r2.length, rd2.length, sizeLine_eq]; omega
  have hn : H s.heap.objs.size = Option.none := e0.hok.fresh (Nat.le_refl _)
  have lm : mv.length = ms.length := hml
  have vl : (pick (v1 ++ (ms.map (·.2) ++ xs)) ix).length = pn.length := hix _ _ _ (by rw [r1.length]; exact l1) (by rw [List.length_map]) (by rw [rx.length]; exact hw)
  have vr : Vals (pick (v1 ++ (ms.map (·.2) ++ xs)) ix) (pick (us ++ (mv ++ ws)) ix) := pick_vals (r1.append (rmv.append rx)) ix
  refine run_bnd (CX := CX0) (E := E0) lk hcd S hr e0 (G := fun ys H2 => ∃ p, H p = Option.none ∧ ys = pick (v1 ++ (ms.map (·.2) ++ xs)) ix ++ [V.ref p] ∧ H2 = upd H p (.frz { cls := .type "tuple", data := .seq rest.toArray } (.tup v2))) (fun A' Ex Q' hh => ?_) fun s2 H2 ys ⟨p, hp, ey, eH⟩ hr' => ?_
  · refine KwChainE.run (K := K) (e0.mod.kin.keeps fun b o e => (e0.bs b o e).1) (fun t et => ?_) (fun q hq => hmk q hq) (h kV D doc pm an cdv ct us rest mv ws hkV (fun z => List.eq_nil_of_length_eq_zero (by rw [← r2.length, rd2.length, hd00 z]; rfl)) l1 lm hw)
    subst et
    refine wpAny_bind (wpAny_newTuple (wpAny_pure ?_) hz)
    have new : ObjOk pg w (upd H s.heap.objs.size (.frz { cls := .type "tuple", data := .seq rest.toArray } (.tup v2))) (s.heap.push ({ cls := .type "tuple", data := .seq rest.toArray } : Obj)) s.heap.objs.size (.frz { cls := .type "tuple", data := .seq rest.toArray } (.tup v2)) := ⟨Heap.get?_push_size _ rfl, by rw [r2.length]; exact hz, rest, r2, ⟨_, Heap.get?_push_size _ rfl, rfl, _, rfl⟩⟩
    have un := un_laid (fs := frs outer) (s := s) (o := ({ cls := .type "tuple", data := .seq rest.toArray } : Obj)) (u := .frz { cls := .type "tuple", data := .seq rest.toArray } (.tup v2)) hn
    have z := hh _ _ (pick (v1 ++ (ms.map (·.2) ++ xs)) ix ++ [V.ref s.heap.objs.size]) (pick (us ++ (mv ++ ws)) ix ++ [Value.ref s.heap.objs.size]) (env0_laid e0 new) un rfl (fun e s' z => z) (vr.append (.cons rfl .nil))
      (by rw [List.length_append, List.length_append, vl] <;> rfl) ⟨_, hn, rfl, rfl⟩
    rw [List.zip_append (by rw [← vr.length, vl])] at z
    exact z
  · subst ey eH
    have k0 := o.fixSame (o := .frz { cls := .type "tuple", data := .seq rest.toArray } (.tup v2)) hp
    have rt : Rp K (upd F0 p (.frz { cls := .type "tuple", data := .seq rest.toArray } (.tup v2))) (.ref p) (tp dr) := by
      rcases htp with e | e <;> rw [e]
      · exact .tup (.inl (.inr ⟨_, upd_same⟩)) (rd2.mono k0)
      · exact .stup upd_same ⟨rfl, rfl⟩ (rd2.mono k0)
    refine body_run B S cdv hg hr' (by rw [List.length_append, List.length_append, vl] <;> rfl) (o.fix hp) ((pick_rps ((rd1.mono k0).append ((hmd _).append (rz.mono k0))) ix).append (.cons rt .nil)) t (kt.to k0)
/-- def f(a, .., k=..): no star -/
theorem fn_kwV (F : FunD K x qual params body scope [] kws f fd) (S : FnScope N pn scope) (B : BodyOk pg w K mg base gd k f qual body scope N pn T) (np : Nat) (ks : List Str) (ms : List (Str × V)) (mds : List D) (ix : List Nat)
    (hms : ∀ q ∈ ms, q ∈ kws) (hmd : ∀ F, Rps K F (ms.map (·.2)) mds)
    (h : ∀ (kV : Value) (D : Addr) (doc pm : Value) (an : Option Addr) (cdv ct : Value) (us mv ws : List Value), (kws ≠ [] → kV = .ref D) → us.length = np → mv.length = ms.length → ws.length = ks.length →
      KwChainE D (fun t => t = pure (pn.zip (pick (us ++ (mv ++ ws)) ix))) ((ms.map (·.1)).zip mv) (bindArgs (PySem.W.fnOf x qual params body scope .none kV doc pm an cdv ct) ⟨us, ks.zip ws⟩))
    (hix : ∀ (us mv ws : List V), us.length = np → mv.length = ms.length → ws.length = ks.length → (pick (us ++ (mv ++ ws)) ix).length = pn.length) :
    FnV pg w K mg base gd (k + 1) f ks (fun ds zs M P => ds.length = np ∧ zs.length = ks.length ∧ T (pick (ds ++ (mds ++ zs)) ix) M P) := by
  obtain ⟨oc, od, dV, kV, doc, pm, an, cdv, ct, osl, rfl, lk, hcd, hD, hK⟩ := F.ex
  obtain rfl : dV = .none := by
    rcases hD with ⟨_, e⟩ | ⟨e, _⟩
    · exact e
    · exact absurd rfl e
  obtain ⟨D, hkV, hq⟩ : ∃ D : Addr, (kws ≠ [] → kV = .ref D) ∧ ∀ q ∈ kws, ∃ u, PySem.W.nsIn K D q.1 = some (some u) ∧ RelV q.2 u := by
    rcases hK with e | ⟨D, e, hq⟩
    · exact ⟨0, fun z => absurd e z, fun q hq => by rw [e] at hq; cases hq⟩
    · exact ⟨D, fun _ => e, hq⟩
  obtain ⟨mv, hml, rmv, hmk⟩ := kwd_vals (ms := ms) fun q hm => hq q (hms q hm)
  refine ⟨fun A outer s H F0 M ds zs P us ws vs xs Q hg hr e0 rv rx hw o rd rz t kt => ?_⟩
  obtain ⟨hd0, hzl, t⟩ := t
  have l1 : us.length = np := by rw [← rv.length, rd.length]; exact hd0
  have lm : mv.length = ms.length := hml
  have vl : (pick (vs ++ (ms.map (·.2) ++ xs)) ix).length = pn.length := hix _ _ _ (by rw [rv.length]; exact l1) (by rw [List.length_map]) (by rw [rx.length]; exact hw)
  have vr : Vals (pick (vs ++ (ms.map (·.2) ++ xs)) ix) (pick (us ++ (mv ++ ws)) ix) := pick_vals (rv.append (rmv.append rx)) ix
  refine run_bnd (CX := CX0) (E := E0) lk hcd S hr e0 (G := fun ys H2 => ys = pick (vs ++ (ms.map (·.2) ++ xs)) ix ∧ H2 = H) (fun A' Ex Q' hh => ?_) fun s2 H2 ys ⟨ey, eH⟩ hr' => ?_
  · refine KwChainE.run (K := K) (e0.mod.kin.keeps fun b o e => (e0.bs b o e).1) (fun t et => ?_) (fun q hq => hmk q hq) (h kV D doc pm an cdv ct us mv ws hkV l1 lm hw)
    subst et
    exact wpAny_pure (hh s H _ _ e0 Un.refl rfl (fun e s' z => z) vr vl ⟨rfl, rfl⟩)
  · subst ey eH
    exact body_run B S cdv hg hr' vl o (pick_rps (rd.append ((hmd _).append rz)) ix) t kt
end

section
variable {X : Cx} {J : Gh} {e a b c o : Expr} {es : List Expr} {ρ ρ' : DEnv} {M M' : Mem} {F F' H H' : Hp} {σ : L2.St} {B : Bd} {K : PySem.W.Frag} {pos p apos cpos : Pos} {x : Str} {P : D → Mem → Prop}
theorem run_fnV {k : Nat} {gd : Bool} {f : Addr} {ks : List Str} {T : TrV} {pins : List (Addr × Obj)} {s : Shared} {Q : VK} {us ws : List Value} {vs xs : List V} {ds zs : List D} (G : FnV X.prog X.w X.K X.mg X.base gd k f ks T) (hg : gd = true → X.A.guards = some []) (hr : Room k X.A)
    (I : L2.Inv X pins σ H s) (r : Vals vs us) (rx : Vals xs ws) (hw : zs.length = ks.length) (o : Ok X.K F M H) (rd : Rps X.K F vs ds) (rz : Rps X.K F xs zs) (t : T ds zs M P) (kt : Kt X.K F P Q) :
    wpAny (model X.prog X.w) X.A (call (.ref f) us (ks.zip ws)) (EP X pins σ Q) X.xe s := by
  refine wpAny_call (codeAny_mono (G.go X.A X.stack s H F M _ _ P us ws vs xs Q hg hr I.env0 r rx (by rw [← rx.length, rz.length]; exact hw) o rd rz t kt) fun res s' end_ => ?_)
  match res, end_ with
  | .error _, end_ => exact end_.elim
  | .ok (.ret _), end_ => exact I.after end_
  | .ok .next, end_ => exact end_.elim
  | .ok .brk, end_ => exact end_.elim
  | .ok .cont, end_ => exact end_.elim
/-- f(e, .., k = v, ..) -/
theorem ex_callV {k : Nat} {gd : Bool} {f : Addr} {ks : List Str} {T : TrV} {kws : List Keyword} (G : FnV X.prog X.w X.K X.mg X.base gd k f ks T) (hgd : gd = true → X.A.guards = some []) (hr : Room k X.A) (hm : X.mg x = some (.ref f)) (hk : PySem.W.keepIn X.K (.ref f) = true)
    (h : AX X J (e :: es) ρ M fun ds M1 => KX X J kws ρ M1 fun zs M2 => zs.length = ks.length ∧ T ds zs M2 P)
    (hg : Gl X x := by rfl) (hall : (backToKw pos (keywordEach kws X.env)).all (·.1.isSome) = true := by rfl) (hks : (backToKw pos (keywordEach kws X.env)).filterMap (·.1) = ks := by rfl)
    (hdb : (x == ("__debug__" : Str)) = false := by decide) (he : starEach (e :: es) X.env = (false, eval e X.env) :: starEach es X.env := by rfl)
    (hpl : ((backTo pos (starEach (e :: es) X.env)).any (·.1) || (backToKw pos (keywordEach kws X.env)).any (·.1.isNone)) = false := by rfl) : EX X J (.Call (.Name x p) (e :: es) kws pos) ρ M P := by
  refine ⟨fun pins s σ H Q I ⟨F, st, kt⟩ => ?_⟩
  refine wpAny_Call_Name_kw (ld_glob I hg hm ?_ hdb)
  refine PySem.W.callWith_KW (h₀ := X.base) I.ok.mod.kin hk hall (thn ((pa_any (X := X) (es := e :: es)).run pos pins s σ H (fun vs H1 => ∃ F1 M1 ds, Same F F1 ∧ Ok X.K F1 M1 H1 ∧ Rps X.K F1 vs ds ∧ KX X J kws ρ M1 fun zs M2 => zs.length = ks.length ∧ T ds zs M2 P) I
    (h.go st fun ds vs M1 F1 H1 q e1 o1 r1 => ⟨F1, M1, ds, e1, o1, r1, q⟩)) fun us s1 ⟨vs, H1, I1, r, F1, M1, ds, e1, o1, rd, q⟩ => ?_) hpl he
  refine thn ((pk_any (X := X) (kws := kws)).run pos pins s1 σ H1 (fun xs H2 => ∃ F2 M2 zs, Same F1 F2 ∧ Ok X.K F2 M2 H2 ∧ Rps X.K F2 xs zs ∧ zs.length = ks.length ∧ T ds zs M2 P) I1 (q.go (st.to e1 o1) fun zs xs M2 F2 H2 q2 e2 o2 r2 => ⟨F2, M2, zs, e2, o2, r2, q2.1, q2.2⟩)) fun ws s2 ⟨xs, H2, I2, rx, F2, M2, zs, e2, o2, rz, hl, t⟩ => ⟨I2.kIn, ?_⟩
  rw [hks]
  exact run_fnV G hgd hr I2 r rx hl o2 (rd.mono e2) rz t (kt.to (e1.trans e2))
/-- f(k = v, ..) -/
theorem ex_callV0 {k : Nat} {gd : Bool} {f : Addr} {ks : List Str} {T : TrV} {kws : List Keyword} (G : FnV X.prog X.w X.K X.mg X.base gd k f ks T) (hgd : gd = true → X.A.guards = some []) (hr : Room k X.A) (hm : X.mg x = some (.ref f)) (hk : PySem.W.keepIn X.K (.ref f) = true)
    (h : KX X J kws ρ M fun zs M2 => zs.length = ks.length ∧ T [] zs M2 P)
    (hg : Gl X x := by rfl) (hall : (backToKw pos (keywordEach kws X.env)).all (·.1.isSome) = true := by rfl) (hks : (backToKw pos (keywordEach kws X.env)).filterMap (·.1) = ks := by rfl)
    (hdb : (x == ("__debug__" : Str)) = false := by decide) (hpl : ((backTo pos (starEach [] X.env)).any (·.1) || (backToKw pos (keywordEach kws X.env)).any (·.1.isNone)) = false := by rfl) : EX X J (.Call (.Name x p) [] kws pos) ρ M P := by
  refine ⟨fun pins s σ H Q I ⟨F, st, kt⟩ => ?_⟩
  refine wpAny_Call_Name_kw (ld_glob I hg hm ?_ hdb)
  refine PySem.W.callWith_KW0 (h₀ := X.base) I.ok.mod.kin hk hall (thn ((pk_any (X := X) (kws := kws)).run pos pins s σ H (fun xs H2 => ∃ F2 M2 zs, Same F F2 ∧ Ok X.K F2 M2 H2 ∧ Rps X.K F2 xs zs ∧ zs.length = ks.length ∧ T [] zs M2 P) I (h.go st fun zs xs M2 F2 H2 q2 e2 o2 r2 => ⟨F2, M2, zs, e2, o2, r2, q2.1, q2.2⟩)) fun ws s2 ⟨xs, H2, I2, rx, F2, M2, zs, e2, o2, rz, hl, t⟩ => ⟨I2.kIn, ?_⟩) hpl
  rw [hks]
  exact run_fnV (us := []) G hgd hr I2 .nil rx hl o2 .nil rz t (kt.to e2)
/-! ### dict(..) of a tuple of pairs, .get -/
def kD : Key → D
  | .inl i => .int i
  | .inr z => .str z
theorem kD_rp {k : Key} {v : V} (r : Rp K F v (kD k)) : v = kV k := by cases k <;> (cases r; rfl)
def valD (kvs : List (Key × D)) (k : Key) : Option D := (kvs.find? fun kv => decide (kv.1 = k)).map (·.2)
def putD (kvs : List (Key × D)) (k : Key) (v : D) : List (Key × D) :=
  if (kvs.any fun kv => decide (kv.1 = k)) = true then kvs.map (fun kv => if kv.1 = k then (kv.1, v) else kv) else kvs ++ [(k, v)]
def mergeD (kvs more : List (Key × D)) : List (Key × D) := more.foldl (fun acc kv => putD acc kv.1 kv.2) kvs
theorem Rks.get {k : Key} : ∀ {vs : List (Key × V)} {ds : List (Key × D)}, Rks K F vs ds → (valV vs k = none ∧ valD ds k = none) ∨ ∃ v d, valV vs k = some v ∧ valD ds k = some d ∧ Rp K F v d
  | _, _, .nil => .inl ⟨rfl, rfl⟩
  | _, _, .cons (x := y) h r => by
    by_cases e : y = k
    · exact .inr ⟨_, _, valV_pos e, by simp [valD, List.find?_cons, e], h⟩
    · rcases Rks.get (k := k) r with ⟨h1, h2⟩ | ⟨v, d, h1, h2, h3⟩
      · exact .inl ⟨by rw [valV_neg e]; exact h1, by simpa [valD, List.find?_cons, e] using h2⟩
      · exact .inr ⟨v, d, by rw [valV_neg e]; exact h1, by simpa [valD, List.find?_cons, e] using h2, h3⟩
theorem Rks.any {k : Key} : ∀ {vs : List (Key × V)} {ds : List (Key × D)}, Rks K F vs ds → (vs.any fun kv => decide (kv.1 = k)) = ds.any fun kv => decide (kv.1 = k)
  | _, _, .nil => rfl
  | _, _, .cons h r => by rw [List.any_cons, List.any_cons, Rks.any r]
theorem Rks.over {k : Key} {v : V} {d : D} (h : Rp K F v d) : ∀ {vs : List (Key × V)} {ds : List (Key × D)}, Rks K F vs ds → Rks K F (vs.map fun kv => if kv.1 = k then (kv.1, v) else kv) (ds.map fun kv => if kv.1 = k then (kv.1, d) else kv)
  | _, _, .nil => .nil
  | _, _, .cons (x := y) h' r => by
    rw [List.map_cons, List.map_cons]
    by_cases e : y = k
    · rw [if_pos e, if_pos e]; exact .cons h (Rks.over h r)
    · rw [if_neg e, if_neg e]; exact .cons h' (Rks.over h r)
theorem Rks.append : ∀ {v w : List (Key × V)} {d e : List (Key × D)}, Rks K F v d → Rks K F w e → Rks K F (v ++ w) (d ++ e)
  | _, _, _, _, .nil, s => s
  | _, _, _, _, .cons h r, s => .cons h (Rks.append r s)
theorem Rks.put {k : Key} {v : V} {d : D} {vs : List (Key × V)} {ds : List (Key × D)} (h : Rp K F v d) (r : Rks K F vs ds) : Rks K F (putK vs k v) (putD ds k d) := by
  unfold putK putD
  rw [r.any]
  split
  · exact r.over h
  · exact r.append (.cons h .nil)
theorem Rks.merge : ∀ {more : List (Key × V)} {rs : List (Key × D)} {vs : List (Key × V)} {ds : List (Key × D)}, Rks K F more rs → Rks K F vs ds → Rks K F (mergeK vs more) (mergeD ds rs)
  | _, _, _, _, .nil, q => q
  | _, _, _, _, .cons (x := kk) h r, q => by have := Rks.merge r (q.put (k := kk) h); exact this
/-- pairs of keys and values -/
def prsD (kvs : List (Key × D)) : List D := kvs.map fun kv => .tup [kD kv.1, kv.2]
theorem prs_of : ∀ {kvs : List (Key × D)} {vs : List V}, Rps K F vs (prsD kvs) → ∃ (ps : List Addr) (ws : List (Key × V)), vs = ps.map V.ref ∧ Paired (fun q kv => SqT K F q [kV kv.1, kv.2]) ps ws ∧ Rks K F ws kvs
  | [], _, .nil => ⟨[], [], rfl, .nil, .nil⟩
  | kv :: kvs, _, .cons h r => by
    obtain ⟨ps, ws, e1, e2, e3⟩ := prs_of r
    cases h with
    | tup h1 r1 =>
      cases r1 with
      | cons a r1 =>
        cases r1 with
        | cons b r1 =>
          cases r1
          rw [kD_rp a] at h1
          exact ⟨_ :: ps, (kv.1, _) :: ws, by rw [e1]; rfl, .cons h1 e2, .cons b e3⟩
theorem paired_mono {R R' : Addr → (Key × V) → Prop} (i : ∀ a b, R a b → R' a b) : ∀ {xs : List Addr} {ys : List (Key × V)}, Paired R xs ys → Paired R' xs ys
  | _, _, .nil => .nil
  | _, _, .cons h r => .cons (i _ _ h) (paired_mono i r)
/-- the values of pairs, as they stand -/
def PW (h : Heap) (prs : List (Key × Value)) (Ts : List Addr) : Prop := True
/-- dict(xs) of a tuple of pairs whose object is known -/
theorem call_dictT (hcalm : X.calm = true) : CallR X (.type "dict") (fun xs H Q => ∃ (a : Addr) (ob : Obj) (ps : List Addr) (kvs : List (Key × V)), xs = [.ref a] ∧ H a = some (.frz ob (.tup (ps.map V.ref))) ∧ ob.cls = .type "tuple" ∧ ob.dict = none ∧ Paired (fun p kv => SqT X.K H p [kV kv.1, kv.2]) ps kvs ∧
    ∀ p, H p = none → Q (.ref p) (upd H p (.dK (mergeK [] kvs)))) := by
  intro pins s σ H xs us Q I r q
  obtain ⟨a, ob, ps, kvs, ex, hq, hoc, hod, hp, q⟩ := q
  subst ex
  obtain ⟨u, eu, rx⟩ := vals1 r
  subst eu
  cases rx
  obtain ⟨hget, hz, its, rv, ⟨o2, ho2, hc2, n, hdat⟩⟩ := I.hok a _ hq
  rw [hget] at ho2
  cases ho2
  have ei := refs_at rv
  subst ei
  rw [List.length_map] at hz
  obtain ⟨prs, rel, hl, hpr⟩ := pairs_of I hp
  have hpr' : ∀ (j : Nat) (q : Key × Value), prs[j]? = some q → ∃ u : Value, (ps.map Value.ref).toArray[j]? = some (.ref (ps.getD j 0)) ∧ IsTup s.heap (ps.getD j 0) #[u, q.2] ∧ keyIs q.1 u = true := by
    intro j q e
    obtain ⟨b, u, e1, e2, e3⟩ := hpr j q e
    have eb : ps.getD j 0 = b := by rw [List.getD_eq_getElem?_getD, e1]; rfl
    exact ⟨u, by simp [e1, eb], by rw [eb]; exact e2, e3⟩
  have key : ∃ pv : List (Value × Value), pv.length = prs.length ∧ ∀ (j : Nat) (kk v : Value), pv[j]? = some (kk, v) → ∃ kx, prs[j]? = some (kx, v) ∧ keyIs kx kk = true ∧ IsTup s.heap (ps.getD j 0) #[kk, v] := by
    have : ∀ (L : List (Key × Value)) (i0 : Nat), (∀ j q, L[j]? = some q → ∃ u : Value, IsTup s.heap (ps.getD (i0 + j) 0) #[u, q.2] ∧ keyIs q.1 u = true) →
        ∃ pv : List (Value × Value), pv.length = L.length ∧ ∀ (j : Nat) (kk v : Value), pv[j]? = some (kk, v) → ∃ kx, L[j]? = some (kx, v) ∧ keyIs kx kk = true ∧ IsTup s.heap (ps.getD (i0 + j) 0) #[kk, v] := by
      intro L
      induction L with
      | nil => exact fun i0 _ => ⟨[], rfl, fun j kk v e => by simp at e⟩
      | cons q L ih =>
        intro i0 h
        obtain ⟨u, h1, h2⟩ := h 0 q rfl
        obtain ⟨pv, h3, h4⟩ := ih (i0 + 1) fun j q' e => by
          obtain ⟨u, h5, h6⟩ := h (j + 1) q' (by simpa using e)
          exact ⟨u, by rw [show i0 + 1 + j = i0 + (j + 1) by omega]; exact h5, h6⟩
        refine ⟨(u, q.2) :: pv, by simp [h3], fun j kk v e => ?_⟩
        cases j with
        | zero =>
          simp only [List.getElem?_cons_zero, Option.some.injEq, Prod.mk.injEq] at e
          obtain ⟨rfl, rfl⟩ := e
          exact ⟨q.1, rfl, h2, h1⟩
        | succ j =>
          obtain ⟨kx, h5, h6, h7⟩ := h4 j kk v (by simpa using e)
          exact ⟨kx, by simpa using h5, h6, by rw [show i0 + (j + 1) = i0 + 1 + j by omega]; exact h7⟩
    obtain ⟨pv, h1, h2⟩ := this prs 0 fun j q e => by
      obtain ⟨u, _, h3, h4⟩ := hpr' j q e
      exact ⟨u, by rw [Nat.zero_add]; exact h3, h4⟩
    exact ⟨pv, h1, fun j kk v e => by
      obtain ⟨kx, h3, h4, h5⟩ := h2 j kk v e
      exact ⟨kx, h3, h4, by rw [Nat.zero_add] at h5; exact h5⟩⟩
  obtain ⟨pv, hpl, hpv⟩ := key
  refine PySem.call_dict_pairs (knd := mixKind X.prog X.w) (kvs := prs) (PairArg.tuple a (ps.map Value.ref).toArray (fun j => ps.getD j 0) pv) (I.ok.hd hcalm) ⟨⟨ob, n, hget, hoc, hod, hdat⟩, ⟨by simp [hpl, hl], fun j kk v e => ?_⟩⟩ ⟨by rw [hpl], fun i kk v e => ?_⟩ (by rw [hpl, hl]; exact hz) fun h' tk hd' k => ?_
  · obtain ⟨kx, h1, h2, h3⟩ := hpv j kk v e
    obtain ⟨_, h4, _⟩ := hpr' j _ h1
    exact ⟨h4, .inl h3⟩
  · obtain ⟨kx, h1, h2, h3⟩ := hpv i kk v e
    exact ⟨kx, h1, h2⟩
  · have hm : (s.heap.objs.size == sysModules) = false := beq_eq_false_iff_ne.mpr (Nat.ne_of_gt I.big)
    have hlen : (mergeK [] kvs).length ≤ sizeLine := by
      refine Nat.le_trans (length_mergeK kvs []) ?_
      rw [List.length_nil, Nat.zero_add, rel.length, hl]
      exact hz
    exact ⟨.ref s.heap.objs.size, upd H s.heap.objs.size (.dK (mergeK [] kvs)), I.laid (t' := tk) (fun b o => k b o (by simp)) (Nat.le_refl _) (show ObjOk X.prog X.w _ _ _ (.dK (mergeK [] kvs)) from ⟨hlen, hm, merged [] prs, KV.merge rel .nil, hd'⟩), rfl, q _ (I.hok.fresh (Nat.le_refl _))⟩
theorem bb_dict : bootBuiltins "dict" = some (.type "dict") := by decide +kernel
theorem cd_dict {kvs : List (Key × D)} (hc : X.calm = true) (q : P (.dct (mergeD [] kvs)) M) : CD X (.type "dict") [.stup (prsD kvs)] M P :=
  ⟨_, call_dictT hc, fun F H vs Q o r k => by
    cases r with
    | cons h1 r =>
      cases r
      cases h1 with
      | stup h2 hc r2 =>
        obtain ⟨ps, ws, e1, e2, e3⟩ := prs_of r2
        subst e1
        exact ⟨_, _, ps, ws, rfl, o.ex _ _ h2, hc.1, hc.2, paired_mono (fun _ _ z => same_t o.ex z) e2, fun l hl => k _ _ _ _ _ q (o.fixSame hl) (o.fix hl) (.dct upd_same ((e3.merge .nil).mono (o.fixSame hl)))⟩⟩
/-- d.get(k, x) -/
theorem ex_dget2 (hu : X.A.units + 64 < cLine) (h : EX X J o ρ M fun d M1 => ∃ kvs, d = .dct kvs ∧ EX X J a ρ M1 fun y M2 => ∃ k, y = kD k ∧ EX X J b ρ M2 fun z M3 => P ((valD kvs k).getD z) M3)
    (hbase : attributeBase o "get" X.env (eval o X.env) = eval o X.env := by rfl)
    (few : ((backTo cpos (starEach [a, b] X.env)).all (fun x => !x.1) && (backToKw cpos (keywordEach [] X.env)).all (fun x => x.1.isSome) && decide ([a, b].length + ([] : List Keyword).length + (if ([] : List Keyword).isEmpty then 0 else 1) < 30)) = true := by rfl)
    (line : (apos.endLine == cpos.line) = true := by rfl) (trees : backTo cpos (starEach [a, b] X.env) = [(false, eval a X.env), (false, eval b X.env)] := by rfl) :
    EX X J (.Call (.Attribute o "get" apos) [a, b] [] cpos) ρ M P :=
  ex_of (pe_dget2 (by omega) pe_any pe_any pe_any ⟨hbase, few, line, trees⟩) fun F σ H Q st kt => h.go st fun d v M1 F1 H1 q1 e1 o1 r1 => by
    obtain ⟨kvs, rfl, q1⟩ := q1
    cases r1 with
    | dct h1 r1 =>
      refine ⟨_, rfl, .inl ⟨_, .inl (o1.ex _ _ h1)⟩, q1.go (st.to e1 o1) fun y w M2 F2 H2 q2 e2 o2 r2 => ?_⟩
      obtain ⟨kk, rfl, q2⟩ := q2
      have := kD_rp r2
      subst this
      refine q2.go (st.to (e1.trans e2) o2) fun z u M3 F3 H3 q3 e3 o3 r3 => ?_
      refine ⟨_, .inl ⟨_, kk, .inl (o3.ex _ _ (e3 _ _ (e2 _ _ h1))), rfl, rfl⟩, ?_⟩
      rcases ((r1.mono e2).mono e3).get (k := kk) with ⟨g1, g2⟩ | ⟨v', d', g1, g2, g3⟩
      · rw [g1]; rw [g2] at q3
        exact kt _ _ _ _ _ q3 ((e1.trans e2).trans e3) o3 r3
      · rw [g1]; rw [g2] at q3
        exact kt _ _ _ _ _ q3 ((e1.trans e2).trans e3) o3 g3
/-- xs.pop(i) -/
theorem Rps.eraseIdx : ∀ {v : List V} {d : List D} (i : Nat), Rps K F v d → Rps K F (v.eraseIdx i) (d.eraseIdx i)
  | _, _, _, .nil => .nil
  | _, _, 0, .cons _ r => r
  | _, _, i + 1, .cons h r => .cons h (Rps.eraseIdx i r)
theorem ex_pop (h : EX X J o ρ M fun d M1 => ∃ q ds1, d = .adr q ∧ M1 q = some (.lst ds1) ∧ AX X J [e] ρ M1 fun ys M2 => ∃ i ds f y n, ys = [.int i] ∧ At M2 q (.lst ds) f ∧ (-(2 ^ 63) ≤ i ∧ i < 2 ^ 63) ∧ ixN ds.length i = some n ∧ ds[n]? = some y ∧ P y (f (.lst (ds.eraseIdx n))))
    (hbase : attributeBase o "pop" X.env (eval o X.env) = eval o X.env := by rfl)
    (few : ((backTo cpos (starEach [e] X.env)).all (fun x => !x.1) && (backToKw cpos (keywordEach [] X.env)).all (fun x => x.1.isSome) && decide ([e].length + ([] : List Keyword).length + (if ([] : List Keyword).isEmpty then 0 else 1) < 30)) = true := by rfl)
    (line : (apos.endLine == cpos.line) = true := by rfl) (hst : starEach [e] X.env = (false, eval e X.env) :: starEach [] X.env := by rfl) (hpl : (backTo cpos (starEach [] X.env)).any (·.1) = false := by rfl) :
    EX X J (.Call (.Attribute o "pop" apos) [e] [] cpos) ρ M P :=
  ex_of (pe_bm PySem.F.plainAttrs_list PySem.F.slot_list_pop PySem.F.type_list_pop mt_popAt pe_any pa_any hbase few line hst hpl) fun F σ H Q st k => h.go st fun d v M1 F1 H1 q1 e1 o1 r1 => by
    obtain ⟨q, ds1, rfl, hq, q2⟩ := q1
    cases r1
    obtain ⟨_, xs1, hx1, _⟩ := o1.mt _ _ hq
    refine ⟨tyV_lst hx1, q2.go (st.to e1 o1) fun ys vs M2 F2 H2 q3 e2 o2 r2 => ?_⟩
    obtain ⟨i, ds, f, y, n, rfl, hA, hi, hn, hy, q3⟩ := q3
    cases r2 with
    | cons r2 r3 =>
      cases r3
      cases r2
      obtain ⟨_, xs, hx, rx⟩ := o2.mt _ _ hA.get
      obtain ⟨w, hw, rw'⟩ := rx.get hy
      refine ⟨q, xs, i, n, w, rfl, rfl, hx, hi.1, hi.2, (ixN_seq (by rw [rx.length]; exact hn)).1, hw, k _ _ _ _ _ q3 (e1.trans e2) ?_ rw'⟩
      rw [hA.set]
      exact o2.set (o := .lst (xs.eraseIdx n)) hA.get ⟨_, upd_same, rx.eraseIdx n⟩
/-- z.index(y) of texts -/
theorem ex_sindex (h : EX X J o ρ M fun d M1 => ∃ z, d = .str z ∧ AX X J [e] ρ M1 fun ys M2 => ∃ y i rest, ys = [.str y] ∧ Builtin.Str.occurrences z y 0 z.length 1 = i :: rest ∧ P (.int ((i : Nat) : Int)) M2)
    (hbase : attributeBase o "index" X.env (eval o X.env) = eval o X.env := by rfl)
    (few : ((backTo cpos (starEach [e] X.env)).all (fun x => !x.1) && (backToKw cpos (keywordEach [] X.env)).all (fun x => x.1.isSome) && decide ([e].length + ([] : List Keyword).length + (if ([] : List Keyword).isEmpty then 0 else 1) < 30)) = true := by rfl)
    (line : (apos.endLine == cpos.line) = true := by rfl) (hst : starEach [e] X.env = (false, eval e X.env) :: starEach [] X.env := by rfl) (hpl : (backTo cpos (starEach [] X.env)).any (·.1) = false := by rfl) :
    EX X J (.Call (.Attribute o "index" apos) [e] [] cpos) ρ M P :=
  ex_of (pe_bm PySem.F.plainAttrs_str PySem.F.slot_str_index PySem.F.type_str_index mt_sindex pe_any pa_any hbase few line hst hpl) fun F σ H Q st k => h.go st fun d v M1 F1 H1 q1 e1 o1 r1 => by
    obtain ⟨z, rfl, q2⟩ := q1
    cases r1
    refine ⟨rfl, q2.go (st.to e1 o1) fun ys vs M2 F2 H2 q3 e2 o2 r2 => ?_⟩
    obtain ⟨y, i, rest, rfl, ho, q3⟩ := q3
    cases r2 with
    | cons r2 r3 =>
      cases r3
      cases r2
      exact ⟨z, y, i, rest, rfl, rfl, ho, k _ _ _ _ _ q3 (e1.trans e2) o2 (.int _)⟩
/-- *e among the arguments -/
theorem ax_star {PA' : List D → Mem → Prop} {sp : Pos} (h : EX X J e ρ M fun d M1 => ∃ ds, Sq M1 d ds ∧ AX X J es ρ M1 fun ds2 M2 => PA' (ds ++ ds2) M2) (hs : starEach (.Starred e sp :: es) X.env = (true, eval e X.env) :: starEach es X.env := by rfl) : AX X J (.Starred e sp :: es) ρ M PA' :=
  ax_of (pa_star pe_any pa_any hs) fun F σ H Q st k => h.go st fun d v M1 F1 H1 q1 e1 o1 r1 => by
    obtain ⟨ds, sq, q1⟩ := q1
    obtain ⟨q, xs, rfl, hx, rx⟩ := sq.get o1 r1
    exact ⟨q, xs, rfl, hx.symm, q1.go (st.to e1 o1) fun ds2 vs M2 F2 H2 q2 e2 o2 r2 => k _ _ M2 F2 H2 q2 (e1.trans e2) o2 ((rx.mono e2).append r2)⟩
end
end DX
namespace DX
open PySem PySem.Spec L2
section
variable {X : Cx} {J : Gh} {e a b c o : Expr} {es : List Expr} {ρ ρ' : DEnv} {M M' : Mem} {F F' H H' : Hp} {σ : St} {B : Bd} {K : PySem.W.Frag} {pos p apos cpos : Pos} {x : Str} {P : D → Mem → Prop}
/-- list(range(..)) that may change -/
theorem ex_lstRM {p' pos' : Pos} (hc : X.calm = true) (hmt : X.mg "list" = none) (hm : X.mg "range" = none) (h : AX X J (a :: es) ρ M fun ds M1 => ∃ i c n, Rg ds i c n ∧ ∀ q, M1 q = none → P (.adr q) (up M1 q (.lst (rngC i c n)))) (hgt : Gl X "list" := by rfl) (hg : Gl X "range" := by rfl)
    (hs : starEach (a :: es) X.env = (false, eval a X.env) :: starEach es X.env := by rfl) (hpl : (backTo pos (starEach es X.env)).any (·.1) = false := by rfl) (na : starEach [.Call (.Name "range" p) (a :: es) [] pos] X.env = (false, eval (.Call (.Name "range" p) (a :: es) [] pos) X.env) :: starEach [] X.env := by rfl) :
    EX X J (.Call (.Name "list" p') [.Call (.Name "range" p) (a :: es) [] pos] [] pos') ρ M P :=
  ex_of (pe_lstRc hc hgt hmt (prc hg hm pa_any hs hpl) na) fun F σ H Q st k => h.go st fun ds vs M1 F1 H1 q e1 o1 r1 => by
    obtain ⟨i, c, n, hr, q⟩ := q
    obtain ⟨i', j, c', n', h1, h2, h3, rfl, rfl, rfl⟩ := hr.raw r1
    exact ⟨i', j, c', n', h1, h2, h3, fun l hl => k _ _ _ _ _ (q l (o1.nn hl).2) e1 (o1.lay hl ⟨_, upd_same, rps_rgC⟩) (.adr l)⟩
/-- xs * n, a list that may change -/
theorem od_mulLM {x : D} {ds : List D} {n : Int} (sx : Sl M x ds) (h0 : -(2 ^ 62) ≤ n ∧ n < 2 ^ 62) (hz : ds.length * n.toNat ≤ 1000000) (p : ∀ q, M q = none → P (.adr q) (up M q (.lst (List.replicate n.toNat ds).flatten))) : OD X (binaryOp .Mult) x (.int n) M P :=
  ⟨_, op_rep, fun F H v u Q o rx ry k => by
    cases ry
    obtain ⟨a, xs, rfl, h1, r1⟩ := sx.get o rx
    exact ⟨a, n, xs, rfl, rfl, h1, by omega, by omega, by rw [r1.length, sizeLine_eq]; omega, fun q hq => k _ _ _ _ _ (p q (o.nn hq).2) (Same.refl _) (o.lay hq ⟨_, upd_same, r1.rep _⟩) (.adr q)⟩⟩
/-- xs + ys, a list that may change -/
theorem od_addLM {x y : D} {ds es : List D} (sx : Sl M x ds) (sy : Sl M y es) (hz : ds.length + es.length ≤ 1000000) (p : ∀ q, M q = none → P (.adr q) (up M q (.lst (ds ++ es)))) : OD X (binaryOp .Add) x y M P :=
  ⟨_, op_cat, fun F H v u Q o rx ry k => by
    obtain ⟨a, xs, rfl, h1, r1⟩ := sx.get o rx
    obtain ⟨b, ys, rfl, h2, r2⟩ := sy.get o ry
    exact ⟨a, b, xs, ys, rfl, rfl, h1, h2, by rw [r1.length, r2.length, sizeLine_eq]; omega, fun q hq => k _ _ _ _ _ (p q (o.nn hq).2) (Same.refl _) (o.lay hq ⟨_, upd_same, r1.append r2⟩) (.adr q)⟩⟩
/-- list(x), a list that may change -/
theorem cd_listM {d : D} {ds : List D} (s : Sq M d ds) (q : ∀ l, M l = none → P (.adr l) (up M l (.lst ds))) : CD X (.type "list") [d] M P :=
  ⟨_, call_list_of, fun F H vs Q o r k => by
    cases r with
    | cons h1 r =>
      cases r
      obtain ⟨a, xs, rfl, h2, r2⟩ := s.get o h1
      exact ⟨a, xs, rfl, h2, fun l hl => k _ _ _ _ _ (q l (o.nn hl).2) (Same.refl _) (o.lay hl ⟨_, upd_same, r2⟩) (.adr l)⟩⟩
/-! ### comprehensions whose elements change nothing: element i gives g i, is taken if t i -/
variable {scope : Scope} {tg iter elt : Expr} {ifs : List Expr}
def lcR (n : Nat) (t : Nat → Bool) (g : Nat → D) : List D := ((List.range n).filter t).map g
theorem lcR_succ {n : Nat} {t : Nat → Bool} {g : Nat → D} : lcR (n + 1) t g = lcR n t g ++ if t n then [g n] else [] := by
  unfold lcR
  rw [List.range_succ, List.filter_append, List.map_append]
  congr 1
  cases h : t n <;> simp [h]
theorem lcR_len {n : Nat} {t : Nat → Bool} {g : Nat → D} : (lcR n t g).length ≤ n := by
  unfold lcR
  rw [List.length_map]
  exact Nat.le_trans (List.length_filter_le _ _) (by rw [List.length_range]; exact Nat.le_refl _)
theorem lcR_all {n : Nat} {g : Nat → D} : lcR n (fun _ => true) g = (List.range n).map g := by unfold lcR; rw [List.filter_eq_self.mpr (fun _ _ => rfl)]
theorem lcR_map {ds : List D} {g : D → D} {n : Nat} {f : Nat → D} (hn : ds.length = n) (h : ∀ i d, ds[i]? = some d → f i = g d) : lcR n (fun _ => true) f = ds.map g := by
  rw [lcR_all]
  apply List.ext_getElem?
  intro i
  rw [List.getElem?_map, List.getElem?_map]
  by_cases hi : i < ds.length
  · rw [List.getElem?_range (by omega), List.getElem?_eq_getElem hi]
    show some (f i) = some (g ds[i])
    rw [h i ds[i] (List.getElem?_eq_getElem hi)]
  · rw [List.getElem?_eq_none (by rw [List.length_range]; omega), List.getElem?_eq_none (by omega)]; rfl
theorem lcI {vs : List Nat} {ds : List D} {M1 : Mem} (g : Nat → D) (t : Nat → Bool)
    (h : ∀ i d acc Dl, ds[i]? = some d → i < ds.length → M1 Dl = none → AsB X scope vs tg d (cuts ρ vs) fun ρ2 => TXb X J scope ifs ρ2 (up M1 Dl (.lst acc)) fun tb M2 => tb = t i ∧ M2 = up M1 Dl (.lst acc) ∧ (t i = true → EXb X J scope elt ρ2 M2 fun y M3 => y = g i ∧ M3 = up M1 Dl (.lst acc)))
    (hl : ds.length ≤ 1000000) (k : P (.lst (lcR ds.length t g)) M1) : LcW X J scope vs tg ifs elt ρ P ds M1 := by
  refine ⟨fun i acc M' => M' = M1 ∧ acc = lcR i t g, ⟨rfl, rfl⟩, ?_, fun acc M' q => by obtain ⟨rfl, rfl⟩ := q; exact k⟩
  rintro i d acc M' Dl hd ⟨rfl, rfl⟩ hD
  have hi : i < ds.length := by
    by_cases hi : i < ds.length
    · exact hi
    · rw [List.getElem?_eq_none (by omega)] at hd; cases hd
  refine ⟨by have := lcR_len (n := i) (t := t) (g := g); omega, ?_⟩
  obtain ⟨gg, h1, h2⟩ := h i d (lcR i t g) Dl hd hi hD
  refine ⟨gg, h1, fun F M v σ H Q o r en kk => h2 F M v σ H Q o r en fun σ' ρ' q en' w => kk σ' ρ' ?_ en' w⟩
  obtain ⟨tt, h3, h4⟩ := q
  refine ⟨tt, h3, fun F σ H Q st kb => h4 F σ H Q st fun tb M2 F' H' q e o => kb tb M2 F' H' ?_ e o⟩
  obtain ⟨rfl, rfl, q⟩ := q
  refine ⟨fun ht => ?_, fun ht => ⟨M', hD, rfl, rfl, by rw [lcR_succ, ht]; simp⟩⟩
  intro s H C cl fp
  exact (q ht s H C cl fp).imp fun y M3 hy => ⟨M', hD, hy.2, rfl, by rw [lcR_succ, ht, hy.1]; rfl⟩
end
end DX
namespace DX
open PySem PySem.Spec L2
/-! ### repr where dicts stand among the data -/
def keyP : Key → PyData
  | .inl i => .int i
  | .inr x => .str x
mutual
def pydR : D → PyData
  | .bl b => .bool b
  | .int i => .int i
  | .str x => .str x
  | .tup ds => .tuple (pydRs ds)
  | .lst ds => .list (pydRs ds)
  | .dct kvs => .dict (pydRk kvs)
  | _ => .none
def pydRs : List D → List PyData
  | [] => []
  | d :: ds => pydR d :: pydRs ds
def pydRk : List (Key × D) → List (PyData × PyData)
  | [] => []
  | (k, d) :: ds => (keyP k, pydR d) :: pydRk ds
end
mutual
/-- what may be shown -/
def shw : D → Bool
  | .non => true
  | .bl _ => true
  | .int _ => true
  | .str _ => true
  | .tup ds => shws ds
  | .lst ds => shws ds
  | .dct kvs => shwk kvs
  | _ => false
def shws : List D → Bool
  | [] => true
  | d :: ds => shw d && shws ds
def shwk : List (Key × D) → Bool
  | [] => true
  | (_, d) :: ds => shw d && shwk ds
end
/-- the text that repr gives -/
def txtR (d : D) : Str := (pydR d).shown
/-- all that repr asks of the data (to be shown by computation or by rules below) -/
structure ROk (d : D) : Prop where
  sh : shw d = true
  ok : (pydR d).showable = true
  dp : (pydR d).depth ≤ 60
  sz : (pydR d).shown.length ≤ 16000000
/-- sys.modules' place holds a dict: read off the written part -/
def sysB (K : PySem.W.Frag) : Bool := match K.lookup sysModules with
  | some o => decide (o.cls = .type "dict")
  | none => false
section
variable {X : Cx} {pins : List (Addr × Obj)} {σ : L2.St} {F H : Hp} {s : Shared}
theorem sys_dict (hS : sysB X.K = true) (I : L2.Inv X pins σ H s) : ∃ o, s.heap.get? sysModules = some o ∧ o.cls = .type "dict" := by
  unfold sysB at hS
  cases e : X.K.lookup sysModules with
  | none => rw [e] at hS; cases hS
  | some o =>
    rw [e] at hS
    exact ⟨o, I.kIn _ _ e, of_decide_eq_true hS⟩
theorem not_sys (hS : sysB X.K = true) (I : L2.Inv X pins σ H s) {a : Addr} {o : Obj} (h : s.heap.get? a = some o) (hc : o.cls = .type "list") : sysModules ≠ a := by
  intro e
  obtain ⟨o2, h2, h3⟩ := sys_dict hS I
  rw [e, h] at h2
  cases h2
  rw [hc] at h3
  exact absurd h3 (by decide)
theorem pairs_reads {h : Heap} {vs : List (Key × Value)} {es : List DictEntry} (ps : Pairs (mixKind X.prog X.w) es vs) : ReadsAll h (es.map (·.key)) (vs.map fun q => keyP q.1) [] ∧ es.map (·.val) = vs.map (·.2) := by
  induction ps with
  | nil => exact ⟨.nil, rfl⟩
  | @cons e kv es kvs hk hv _ ih =>
    refine ⟨?_, by rw [List.map_cons, List.map_cons, ih.2, hv]⟩
    rw [List.map_cons, List.map_cons]
    have hr : Reads h e.key (keyP kv.1) [] := by
      rcases keyIs_shape (show keyIs kv.1 e.key = true from hk) with ⟨i, t, e1, e2⟩ | ⟨x, t, e1, e2⟩
      · rw [e1, e2]; exact .int i t
      · rw [e1, e2]; exact .str x t
    exact ReadsAll.cons (as := []) (bs := []) hr ih.1
mutual
theorem Rp.reads (hS : sysB X.K = true) (I : L2.Inv X pins σ H s) (hs : Same F H) : ∀ (d : D) (v : V) (u : Value), shw d = true → Rp X.K F v d → RelV v u → ∃ as, Reads s.heap u (pydR d) as ∧ sysModules ∉ as
  | .non, _, _, _, .non, r => by cases r; exact ⟨_, .none, by simp⟩
  | .bl b, _, _, _, .bl _, r => by cases r; exact ⟨_, .bool b, by simp⟩
  | .int i, _, _, _, .int _, r => by obtain ⟨t, rfl⟩ := r; exact ⟨_, .int i t, by simp⟩
  | .str x, _, _, _, .str _, r => by obtain ⟨t, rfl⟩ := r; exact ⟨_, .str x t, by simp⟩
  | .lst ds, _, _, h, .lst h1 h2, r => by
    cases r
    obtain ⟨its, rv, ⟨o, n, ho, hc, _, hd⟩, _⟩ := I.list (SqL.of (hs _ _ h1))
    obtain ⟨as, hr, hn⟩ := Rps.readsAll hS I hs ds _ its (by rw [shw] at h; exact h) h2 rv
    have q := Reads.list ho hc hd hr
    rw [show pydR (.lst ds) = .list (pydRs ds) by rw [pydR]]
    exact ⟨_, q, by rw [List.mem_cons, not_or]; exact ⟨not_sys hS I ho hc, hn⟩⟩
  | .tup ds, _, _, h, .tup h1 h2, r => by
    cases r
    obtain ⟨its, rv, ⟨o, ho, hc, n, hd⟩, _⟩ := I.tuple (same_t hs h1)
    obtain ⟨as, hr, hn⟩ := Rps.readsAll hS I hs ds _ its (by rw [shw] at h; exact h) h2 rv
    have q := Reads.tuple ho hc hd hr
    rw [show pydR (.tup ds) = .tuple (pydRs ds) by rw [pydR]]
    exact ⟨_, q, hn⟩
  | .dct kvs, _, _, h, .dct h1 h2, r => by
    cases r
    obtain ⟨_, hne, vs, rel, o, es, ep, ho, hx, hd, _, hp, _⟩ := I.hok _ _ (hs _ _ h1)
    obtain ⟨k1, k2⟩ := pairs_reads (h := s.heap) hp
    obtain ⟨bs, hr, hn⟩ := Rks.readsAll hS I hs kvs _ vs (by rw [shw] at h; exact h) h2 rel
    have e : (pydRk kvs).map (·.1) = vs.map fun q => keyP q.1 := hr.2
    have k3 : ReadsAll s.heap (es.toList.map (·.key)) ((pydRk kvs).map (·.1)) [] := by rw [e]; exact k1
    have k4 : ReadsAll s.heap (es.toList.map (·.val)) ((pydRk kvs).map (·.2)) bs := by rw [k2]; exact hr.1
    have q := Reads.dict (as := []) ho hx.1 hd k3 k4
    rw [show pydR (.dct kvs) = .dict (pydRk kvs) by rw [pydR]]
    refine ⟨_, q, ?_⟩
    simp only [List.append_nil, List.cons_append, List.nil_append, List.mem_cons, not_or]
    exact ⟨fun z => by rw [← z] at hne; simp at hne, hn⟩
  | .adr _, _, _, h, _, _ => by simp [shw] at h
  | .ty _, _, _, h, _, _ => by simp [shw] at h
  | .scr _, _, _, h, _, _ => by simp [shw] at h
  | .ins _ _, _, _, h, _, _ => by simp [shw] at h
  | .stup _, _, _, h, _, _ => by simp [shw] at h
theorem Rps.readsAll (hS : sysB X.K = true) (I : L2.Inv X pins σ H s) (hs : Same F H) : ∀ (ds : List D) (vs : List V) (us : List Value), shws ds = true → Rps X.K F vs ds → Vals vs us → ∃ as, ReadsAll s.heap us (pydRs ds) as ∧ sysModules ∉ as
  | [], _, _, _, .nil, .nil => ⟨_, .nil, by simp⟩
  | d :: ds, _, _, h, .cons h1 h2, .cons r1 r2 => by
    rw [shws, Bool.and_eq_true] at h
    obtain ⟨as, q1, n1⟩ := Rp.reads hS I hs d _ _ h.1 h1 r1
    obtain ⟨bs, q2, n2⟩ := Rps.readsAll hS I hs ds _ _ h.2 h2 r2
    exact ⟨_, ReadsAll.cons q1 q2, by rw [List.mem_append, not_or]; exact ⟨n1, n2⟩⟩
theorem Rks.readsAll (hS : sysB X.K = true) (I : L2.Inv X pins σ H s) (hs : Same F H) : ∀ (ds : List (Key × D)) (vs : List (Key × V)) (us : List (Key × Value)), shwk ds = true → Rks X.K F vs ds → KV vs us →
    ∃ as, (ReadsAll s.heap (us.map (·.2)) ((pydRk ds).map (·.2)) as ∧ (pydRk ds).map (·.1) = us.map fun q => keyP q.1) ∧ sysModules ∉ as
  | [], _, _, _, .nil, .nil => ⟨_, ⟨.nil, rfl⟩, by simp⟩
  | (k, d) :: ds, _, _, h, .cons h1 h2, .cons (b := q) r1 r2 => by
    rw [shwk, Bool.and_eq_true] at h
    obtain ⟨as, q1, n1⟩ := Rp.reads hS I hs d _ _ h.1 h1 r1.2
    obtain ⟨bs, ⟨q2, q3⟩, n2⟩ := Rks.readsAll hS I hs ds _ _ h.2 h2 r2
    refine ⟨_, ⟨ReadsAll.cons q1 q2, ?_⟩, by rw [List.mem_append, not_or]; exact ⟨n1, n2⟩⟩
    rw [pydRk, List.map_cons, List.map_cons, q3, ← r1.1]
end
end
section
variable {X : Cx} {J : Gh} {e a b c o : Expr} {es : List Expr} {ρ ρ' : DEnv} {M M' : Mem} {F F' H H' : Hp} {σ : L2.St} {B : Bd} {K : PySem.W.Frag} {pos p apos cpos : Pos} {x : Str} {P : D → Mem → Prop}
theorem repr_allR {pins : List (Addr × Obj)} {s : Shared} {d : D} {v : V} {u : Value} {Q : Value → Shared → Prop} (hS : sysB X.K = true) (hg : X.A.guards = some []) (hu : X.A.units + 64 < cLine) (I : L2.Inv X pins σ H s) (hs : Same F H) (hR : ROk d) (h : Rp X.K F v d) (r : RelV v u)
    (k : ∀ t s', L2.Inv X pins σ H s' → Q (.str (txtR d) t) s') : wpAny (model X.prog X.w) X.A (call (.builtin "repr") [u]) Q X.xe s := by
  have hz : (pydR d).shown.length ≤ sizeLine := by rw [sizeLine_eq]; have := hR.sz; omega
  have hd := hR.dp
  unfold txtR at k
  obtain ⟨as, rd, hn⟩ := Rp.reads hS I hs d v u hR.sh h r
  have big : ∀ a, u = .ref a → wpAny (model X.prog X.w) X.A (call (.builtin "repr") [u]) Q X.xe s := by
    rintro a rfl
    exact repr_of_reads' rd hR.ok (fun _ => hn) hg (by omega) (fun b ob z => z) (fun h' t tk hk => k t _ (I.kept hk)) hz
  have hsh := hR.ok
  clear rd hn
  cases h with
  | non => cases r; exact PySem.P.repr_of_none (by simpa [pydR, PyData.shown] using k _ _ (I.tok _))
  | bl b => cases r; exact PySem.P.repr_of_bool (by simpa [pydR, PyData.shown] using k _ _ (I.tok _))
  | int i =>
    obtain ⟨t, rfl⟩ := r
    exact PySem.P.repr_of_int (by simpa [pydR, PyData.showable] using hsh) (by simpa [pydR, PyData.shown] using k _ _ (I.tok _))
  | str y =>
    obtain ⟨t, rfl⟩ := r
    exact PySem.P.repr_of_str (by simpa [pydR, PyData.shown] using k _ _ (I.tok _)) (by simpa [pydR, PyData.shown] using hz)
  | lst _ _ => exact big _ r
  | tup _ _ => exact big _ r
  | dct _ _ => exact big _ r
  | adr _ => have := hR.sh; simp [shw] at this
  | ty _ => have := hR.sh; simp [shw] at this
  | scr _ => have := hR.sh; simp [shw] at this
  | ins _ _ => have := hR.sh; simp [shw] at this
  | stup _ _ _ => have := hR.sh; simp [shw] at this
  | exn _ _ _ => have := hR.sh; simp [shw] at this
theorem call_reprR (hS : sysB X.K = true) (hg : X.A.guards = some []) (hu : X.A.units + 64 < cLine) : CallR X (.builtin "repr") (fun xs H Q => ∃ F v d, xs = [v] ∧ Same F H ∧ ROk d ∧ Rp X.K F v d ∧ Q (.str (txtR d)) H) := by
  intro pins s σ H xs us Q I r h
  obtain ⟨F, v, d, rfl, hs, hR, h, q⟩ := h
  obtain ⟨u, rfl, rx⟩ := vals1 r
  exact repr_allR hS hg hu I hs hR h rx fun t s' I' => ⟨.str (txtR d), H, I', ⟨t, rfl⟩, q⟩
theorem cd_reprR {d : D} (hS : sysB X.K = true) (hg : X.A.guards = some []) (hu : X.A.units + 64 < cLine) (hR : ROk d) (q : P (.str (txtR d)) M) : CD X (.builtin "repr") [d] M P :=
  ⟨_, call_reprR hS hg hu, fun F H vs Q o r k => by
    cases r with
    | cons h1 r =>
      cases r
      exact ⟨F, _, d, rfl, o.ex, hR, h1, k.here q o (.str _)⟩⟩
/-! ### list(text) -/
theorem call_list_text (hc : X.calm = true) : CallR X (.type "list") (fun xs H Q => ∃ z : Str, xs = [.str z] ∧ z.length ≤ 1000000 ∧ ∀ l, H l = none → Q (.ref l) (upd H l (.lst (z.cps.toList.map fun c => V.str ⟨#[c]⟩)))) := by
  intro pins s σ H xs us Q I r h
  obtain ⟨z, rfl, hz, q⟩ := h
  obtain ⟨u, rfl, rx⟩ := vals1 r
  obtain ⟨t, rfl⟩ := rx
  have hz2 : z.cps.size ≤ 1000000 := hz
  refine call_list_str (I.ok.hd hc) z t (hn := by rw [sizeLine_eq]; omega) fun h' tk acc c' kp e hi => ?_
  refine ⟨.ref s.heap.objs.size, _, I.laid (t' := tk) kp (Nat.le_refl _) (show ObjOk X.prog X.w _ h' _ (.lst (z.cps.toList.map fun c => V.str ⟨#[c]⟩)) from ⟨?_, acc.toList, c', ?_, e⟩), rfl, q _ (I.hok.fresh (Nat.le_refl _))⟩
  · rw [List.length_map, Array.length_toList, sizeLine_eq]; omega
  · have e1 : acc.toList.length = z.cps.toList.length := by rw [Array.length_toList, Array.length_toList]; exact hi.1
    have e2 : (z.cps.toList.map fun c => V.str ⟨#[c]⟩) = (List.range acc.toList.length).map fun j => V.str ⟨#[z.cps.toList.getD j 0]⟩ := by
      rw [e1]
      apply List.ext_getElem
      · simp
      · intro j h1 h2
        rw [List.length_map] at h1
        rw [List.getElem_map, List.getElem_map, List.getElem_range, List.getD_eq_getElem?_getD, List.getElem?_eq_getElem h1]; rfl
    rw [e2]
    refine vals_of_get _ _ fun j w hj => ?_
    obtain ⟨c, u, h1, h2⟩ := hi.2 j w (by rw [← hj, Array.getElem?_toList])
    have : z.cps.toList[j]? = some c := by rw [Array.getElem?_toList]; exact h1
    rw [List.getD_eq_getElem?_getD, this]
    exact ⟨u, h2⟩
theorem cd_listS {z : Str} (hc : X.calm = true) (hz : z.cps.toList.length ≤ 1000000) (q : P (.lst (signs z)) M) : CD X (.type "list") [.str z] M P :=
  ⟨_, call_list_text hc, fun F H vs Q o r k => by
    cases r with
    | cons h1 r =>
      cases r
      cases h1
      refine ⟨z, rfl, ?_, fun l hl => ?_⟩
      · show z.cps.size ≤ _
        rw [← Array.length_toList]; exact hz
      · refine k _ _ _ _ _ q (o.fixSame hl) (o.fix hl) (.lst upd_same ?_)
        have e : (z.cps.toList.map fun c => V.str ⟨#[c]⟩) = (z.cps.toList.map fun c => (⟨#[c]⟩ : Str)).map V.str := by rw [List.map_map]; rfl
        have e2 : signs z = (z.cps.toList.map fun c => (⟨#[c]⟩ : Str)).map D.str := by unfold signs; rw [List.map_map]; rfl
        rw [e, e2]
        exact Rps.ofStrs⟩
/-! ### dicts written out -/
theorem ex_dct0 (p : P (.dct []) M) : EX X J (.Dict [] [] pos) ρ M P :=
  ex_of pe_dnewK fun F σ H Q st k => fun l hl => k _ _ _ _ _ p (st.ok.fixSame hl) (st.ok.fix hl) (.dct upd_same .nil)
/-- {k: v} -/
theorem ex_dct1 (h : ∀ p, M p = none → EX X J a ρ (up M p (.dct [])) fun y M1 => ∃ k, y = kD k ∧ EX X J b ρ M1 fun d M2 => ∃ M3, M3 p = none ∧ M2 = up M3 p (.dct []) ∧ P (.dct [(k, d)]) M3) : EX X J (.Dict [some a] [b] pos) ρ M P :=
  ex_of (pe_disp (pps_cons pe_any pe_any pps_nil) rfl rfl (by simp) (Nat.le_of_ble_eq_true rfl)) fun F σ H Q st kt => fun l hl => by
    have hM := st.ok.nn hl
    have o0 : Ok X.K F (up M l (.dct [])) (upd H l (.dK [])) := st.ok.lay hl ⟨[], upd_same, .nil⟩
    refine (h l hM.2).go ⟨st.en, o0, st.gh⟩ fun y v M1 F1 H1 q1 e1 o1 r1 => ?_
    obtain ⟨k, rfl, q1⟩ := q1
    refine q1.go ⟨st.en.mono e1, o1, J.mono _ _ e1 st.gh⟩ fun d w M2 F2 H2 q2 e2 o2 r2 => ?_
    obtain ⟨M3, hn, rfl, q2⟩ := q2
    obtain ⟨_, kvs0, hk0, rk0⟩ := o2.mt l _ up_same
    cases rk0
    refine ⟨hk0, [(k, w)], ?_, Nat.le_of_ble_eq_true rfl, ?_⟩
    · rw [kD_rp r1]; rfl
    · have e : mergeK [] [(k, w)] = [(k, w)] := rfl
      rw [e]
      have o3 := o2.set (o := .dK [(k, w)]) (d' := .dct [(k, d)]) up_same ⟨_, upd_same, .cons r2 .nil⟩
      rw [up_up] at o3
      obtain ⟨s1, o4⟩ := o3.freeze up_same upd_same
      rw [rm_up hn] at o4
      exact kt _ _ _ _ _ q2 ((e1.trans e2).trans s1) o4 (.dct upd_same (.cons (r2.mono s1) .nil))
/-- z.lower() -/
theorem ex_lower (h : EX X J o ρ M fun d M1 => ∃ z, d = .str z ∧ z.length ≤ 1000000 ∧ P (.str (Txt.lower z)) M1)
    (hbase : attributeBase o "lower" X.env (eval o X.env) = eval o X.env := by rfl) (hline : (apos.endLine == cpos.line) = true := by rfl) : EX X J (.Call (.Attribute o "lower" apos) [] [] cpos) ρ M P :=
  ex_of (pe_bm0 PySem.F.plainAttrs_str PySem.F.slot_str_lower PySem.F.type_str_lower mt_lower pe_any hbase hline) fun F σ H Q st k => h.go st fun d v M1 F1 H1 q1 e1 o1 r1 => by
    obtain ⟨z, rfl, hz, q⟩ := q1
    cases r1
    exact ⟨rfl, z, rfl, rfl, by omega, k _ _ _ _ _ q e1 o1 (.str _)⟩
end
end DX
namespace DX
open PySem PySem.Spec L2 SX
/-! ### a look at the module that sees sys.modules' place, too -/
def lookS (fa : List He.Fa) (fn : List He.DefD) (ex : PySem.W.Frag → Bool) (n : Nat) (g : Addr → Option Obj) : He.AlD × Bool :=
  (He.obsD fa fn (He.frG g (sysModules :: He.asD g n)), ex (He.frG g (sysModules :: He.asD g n)))
def hookS (n : Nat) (fa : List He.Fa) (fn : List He.DefD) (ex : PySem.W.Frag → Bool) : PySem.W.Hook where
  α := He.AlD × Bool
  obs := fun s => lookS fa fn ex n s.heap.get?
  val := fun _ => (He.valD fn, true)
  says := fun _ h => ∃ K : PySem.W.Frag, K.In h ∧ He.SaysD fa fn K ∧ ex K = true
  of := fun _ _ e => ⟨_, He.frG_in, congrArg Prod.fst e, congrArg Prod.snd e⟩
  keeps := fun _ _ _ ⟨K, hK, c, d⟩ k => ⟨K, PySem.W.Frag.In.keeps hK k, c, d⟩
theorem lookS_eq {n : Nat} {fa : List He.Fa} {fn : List He.DefD} {ex : PySem.W.Frag → Bool} {g : Addr → Option Obj} {s : Shared} (h : ∀ a, g a = s.heap.get? a) : lookS fa fn ex n g = (hookS n fa fn ex).obs s := by
  have e : g = s.heap.get? := funext h
  subst e
  rfl
/-! ### texts times numbers -/
section
variable {X : Cx} {M : Mem} {P : D → Mem → Prop}
theorem op_mul_str : OpR X (binaryOp .Mult) (fun x y H Q => ∃ z n, x = .str z ∧ y = .int n ∧ z.length ≤ 1000 ∧ -(2 ^ 62) ≤ n ∧ n ≤ 10000 ∧ Q (.str (Txt.mul z n)) H) := by
  intro pins s σ H x y v u Q I rx ry h
  obtain ⟨z, n, rfl, rfl, hz, h1, h2, q⟩ := h
  obtain ⟨t, rfl⟩ := rx
  obtain ⟨t', rfl⟩ := ry
  exact PySem.SB.mul (PyProof.Rows.mulOk_of 1000 10000 hz h2 (by omega) (by decide) (by decide)) fun t' k => ⟨.str (Txt.mul z n), H, I.tok _, ⟨_, rfl⟩, q⟩
theorem foldl_arr (c : Nat) : ∀ (n : Nat) (acc : Array Nat), (List.replicate n #[c]).foldl (· ++ ·) acc = acc ++ (List.replicate n c).toArray
  | 0, acc => by simp
  | n + 1, acc => by
    rw [List.replicate_succ, List.foldl_cons, foldl_arr c n, List.replicate_succ, Array.append_assoc]
    congr 1
    apply Array.ext'
    simp
theorem mul_S {c : Nat} {n : Int} (h : 0 ≤ n) : Txt.mul (S [c]) n = S (List.replicate n.toNat c) := by
  unfold Txt.mul
  by_cases h1 : n < 1
  · rw [if_pos h1, show n.toNat = 0 by omega]; rfl
  · rw [if_neg h1]
    by_cases h2 : n = 1
    · subst h2; rfl
    · rw [if_neg (by simp [h2, S, Str.length])]
      show (⟨(List.replicate n.toNat #[c]).foldl (· ++ ·) #[]⟩ : Str) = ⟨(List.replicate n.toNat c).toArray⟩
      rw [foldl_arr]; simp
theorem od_mulS {z : Str} {n : Int} {c : Nat} (hz : z = S [c]) (h : 0 ≤ n ∧ n ≤ 10000) (p : P (.str (S (List.replicate n.toNat c))) M) : OD X (binaryOp .Mult) (.str z) (.int n) M P :=
  ⟨_, op_mul_str, fun F H v u Q o rx ry k => by
    subst hz
    cases rx; cases ry
    exact ⟨S [c], n, rfl, rfl, by rw [S_len]; simp, by omega, h.2, by rw [mul_S h.1]; exact k.here p o (.str _)⟩⟩
end
/-! ### what may be shown, of data without dicts -/
mutual
theorem good_R : ∀ {d : D}, good d → pydR d = pyd d ∧ shw d = true
  | .non, _ => ⟨by simp [pydR, pyd], by simp [shw]⟩
  | .bl _, _ => ⟨by simp [pydR, pyd], by simp [shw]⟩
  | .int _, _ => ⟨by simp [pydR, pyd], by simp [shw]⟩
  | .str _, _ => ⟨by simp [pydR, pyd], by simp [shw]⟩
  | .tup ds, h => by have := goods_R (ds := ds) h; exact ⟨by rw [pydR, pyd, this.1], by rw [shw, this.2]⟩
  | .lst ds, h => by have := goods_R (ds := ds) h; exact ⟨by rw [pydR, pyd, this.1], by rw [shw, this.2]⟩
theorem goods_R : ∀ {ds : List D}, goods ds → pydRs ds = pyds ds ∧ shws ds = true
  | [], _ => ⟨by simp [pydRs, pyds], by simp [shws]⟩
  | d :: ds, h => by
    have h1 := good_R h.1
    have h2 := goods_R h.2
    exact ⟨by rw [pydRs, pyds, h1.1, h2.1], by rw [shws, h1.2, h2.2]; rfl⟩
end
theorem rok_good {d : D} (h : good d) (hw : wt d ≤ 16000000) (hd : dep d ≤ 50) : ROk d := by
  obtain ⟨h1, h2⟩ := good_R h
  have h3 := dep_py h
  have h4 := wt_py h
  exact ⟨h2, by rw [h1]; exact good_show h, by rw [h1]; omega, by rw [h1]; omega⟩
theorem txtR_good {d : D} (h : good d) : txtR d = txt d := by unfold txtR txt; rw [(good_R h).1]
/-! ### texts of signs below 128 -/
def tx (l : List Nat) : Prop := ∀ c ∈ l, c < 128
theorem tx_app {a b : List Nat} (h : tx a) (g : tx b) : tx (a ++ b) := fun c hc => by
  rcases List.mem_append.mp hc with q | q
  · exact h c q
  · exact g c q
theorem tx_cut {l : List Nat} {a b : Option Int} (h : tx l) : tx (cutA l a b) := fun c hc => h c (List.mem_of_mem_drop (List.mem_of_mem_take hc))
theorem cut_le {α : Type} {l : List α} {a b : Option Int} : (cutA l a b).length ≤ l.length := by unfold cutA; rw [List.length_take, List.length_drop]; omega
theorem tx_isS {l : List Nat} (h : ∀ c ∈ l, isS c) : tx l := fun c hc => by rcases h c hc with rfl | rfl | rfl <;> decide
theorem tx_lower {l : List Nat} (h : tx l) : ∃ m, Txt.lower (S l) = S m ∧ tx m ∧ m.length = l.length := by
  refine ⟨l.map PyProof.Rows.lo1, ?_, ?_, by simp⟩
  · rw [PyProof.Rows.lower_ascii (x := S l) h]
    show (⟨(l.toArray).map PyProof.Rows.lo1⟩ : Str) = ⟨(l.map PyProof.Rows.lo1).toArray⟩
    simp
  · intro c hc
    rw [List.mem_map] at hc
    obtain ⟨d, hd, rfl⟩ := hc
    have := h d hd
    unfold PyProof.Rows.lo1
    split <;> omega
theorem tx_ok {l : List Nat} (h : tx l) : PyData.strOk (S l) = true := by
  show (l.toArray).all (· < 0x110000) = true
  rw [Array.all_eq_true_iff_forall_mem]
  intro c hc
  have := h c (by simpa using hc)
  simp; omega
theorem good_tx {l : List Nat} (h : tx l) (hl : l.length ≤ 10000) : good (.str (S l)) ∧ wt (.str (S l)) ≤ 16000000 ∧ dep (.str (S l)) ≤ 50 := ⟨tx_ok h, by rw [wt, S_len]; omega, le_b rfl⟩
theorem goods_sgl : ∀ {l : List Nat}, tx l → goods (sgl l)
  | [], _ => trivial
  | c :: l, h => ⟨tx_ok fun d hd => h d (by rw [List.mem_singleton] at hd; rw [hd]; exact List.mem_cons_self ..), goods_sgl fun d hd => h d (List.mem_cons_of_mem _ hd)⟩
theorem wts_sgl : ∀ l : List Nat, wts (sgl l) = 14 * l.length
  | [] => rfl
  | c :: l => by
    show wt (.str (S [c])) + 2 + wts (sgl l) = _
    rw [wts_sgl l, wt, S_len, List.length_cons, List.length_cons, List.length_nil]; omega
theorem deps_sgl : ∀ l : List Nat, deps (sgl l) = 0
  | [] => rfl
  | c :: l => by
    show max (dep (.str (S [c]))) (deps (sgl l)) = _
    rw [deps_sgl l]; rfl
/-- a text, if it is one, is short and of such signs -/
def txz (d : D) : Prop := ∀ z, d = .str z → tx z.cps.toList ∧ z.cps.toList.length ≤ 1000
/-- values that laws hand in: shown, asked for their kind, short if texts -/
structure Th (d : D) : Prop where
  pl : plain d = true
  ro : ROk d
  tz : txz d
theorem th_tx {l : List Nat} (h : tx l) (hl : l.length ≤ 1000) : Th (.str (S l)) := by
  obtain ⟨g1, g2, g3⟩ := good_tx h (by omega)
  exact ⟨rfl, rok_good g1 g2 g3, fun z e => by cases e; exact ⟨h, hl⟩⟩
theorem th_str {z : Str} {l : List Nat} (e : z = S l) (h : tx l) (hl : l.length ≤ 1000) : Th (.str z) := by rw [e]; exact th_tx h hl
theorem th_good {d : D} (hp : plain d = true) (hn : ∀ z, d ≠ .str z) (g : good d) (w : wt d ≤ 16000000) (q : dep d ≤ 50) : Th d := ⟨hp, rok_good g w q, fun z e => absurd e (hn z)⟩
theorem th_sgl {l : List Nat} (h : tx l) (hl : l.length ≤ 1000) : Th (.lst (sgl l)) := th_good rfl (fun z e => by cases e) (goods_sgl h) (by rw [wt, wts_sgl]; omega) (by rw [dep, deps_sgl]; exact le_b rfl)
theorem th_tsgl {l : List Nat} (h : tx l) (hl : l.length ≤ 1000) : Th (.tup (sgl l)) := th_good rfl (fun z e => by cases e) (goods_sgl h) (by rw [wt, wts_sgl]; omega) (by rw [dep, deps_sgl]; exact le_b rfl)
theorem th_tup1 {l : List Nat} (h : tx l) (hl : l.length ≤ 1000) : Th (.tup [.str (S l)]) := by
  obtain ⟨g1, g2, g3⟩ := good_tx h (by omega)
  exact th_good rfl (fun z e => by cases e) ⟨g1, trivial⟩ (by simp only [wt, wts, S_len]; omega) (le_b rfl)
theorem th_int {i : Int} (h : -(2 ^ 200) ≤ i ∧ i ≤ 2 ^ 200) : Th (.int i) := th_good rfl (fun z e => by cases e) h (le_b rfl) (le_b rfl)
theorem th_non : Th .non := th_good rfl (fun z e => by cases e) trivial (le_b rfl) (le_b rfl)
theorem th_bl {b : Bool} : Th (.bl b) := th_good rfl (fun z e => by cases e) trivial (le_b rfl) (le_b rfl)
theorem th_nil : Th (.lst []) := th_good rfl (fun z e => by cases e) trivial (le_b rfl) (le_b rfl)
theorem th_tnil : Th (.tup []) := th_good rfl (fun z e => by cases e) trivial (le_b rfl) (le_b rfl)
theorem th_dct0 : Th (.dct []) := ⟨rfl, ⟨by simp [shw, shwk], by simp [pydR, pydRk, PyData.showable, PyData.showableKv], by simp [pydR, pydRk, PyData.depth, PyData.depthKv], by
  simp only [pydR, pydRk, PyData.shown, PyData.shownKv]
  exact Nat.le_trans (dictText_len_le []) (by decide)⟩, fun z e => by cases e⟩
theorem th_dct1 {k : Str} {l : List Nat} (hk : (reprText k).length ≤ 1000) (h : tx l) (hl : l.length ≤ 1000) : Th (.dct [(.inr k, .str (S l))]) :=
  ⟨rfl, ⟨by simp [shw, shwk], by simp [pydR, pydRk, keyP, PyData.showable, PyData.showableKv], by simp [pydR, pydRk, keyP, PyData.depth, PyData.depthKv], by
    simp only [pydR, pydRk, keyP, PyData.shown, PyData.shownKv]
    refine Nat.le_trans (dictText_len_le _) ?_
    have h1 := StrLaws.reprText_len (S l) fun c hc => by
      have := h c hc
      exact Nat.lt_trans this (by decide)
    have h2 : (S l).length = l.length := S_len l
    have e2 : (reprText k ++ ": " ++ reprText (S l)).length = (reprText k).length + 2 + (reprText (S l)).length := by
      rw [strLen_append, strLen_append]; rfl
    simp only [List.map_cons, List.map_nil, List.sum_cons, List.sum_nil, List.length_cons, List.length_nil]
    rw [e2]
    omega⟩, fun z e => by cases e⟩
end DX
namespace DX
open PySem PySem.Spec L2 StX PyProof.Rows
/-! ### + by an own __add__ -/
theorem looks_fills {K : PySem.W.Frag} {M : Model} {h : Heap} {C f : Addr} {nm : String} (X : K.In h) (hsf : PySem.W.selfFirst K C = true) (hs : PySem.W.findIn K (.ref C) (dunder nm) = some (some (.ref f))) : PySem.W.Looks M h (fillsNumberSlot (.ref C) nm) true := by
  unfold PySem.W.selfFirst at hsf
  cases hc : PySem.W.clsIn K C with
  | none => rw [hc] at hsf; cases hsf
  | some cd =>
    rw [hc] at hsf
    have hh : cd.mro.head? = some (.ref C) := by simpa using hsf
    cases hm : cd.mro with
    | nil => rw [hm] at hh; cases hh
    | cons v rest =>
      rw [hm] at hh
      cases hh
      have L1 : PySem.W.Looks M h (mroOf (.ref C)) (.ref C :: rest) := by
        show PySem.W.Looks M h (classData C >>= fun d => pure d.mro) _
        exact (PySem.W.looks_clsIn X hc).andThen (by rw [hm]; exact PySem.W.Looks.now)
      show PySem.W.Looks M h (mroOf (.ref C) >>= fun l => l.anyM _) true
      refine L1.andThen ?_
      rw [List.anyM]
      refine PySem.W.Looks.andThen (a := true) ?_ PySem.W.Looks.now
      show PySem.W.Looks M h ([dunder nm, dunderR nm].anyM _) true
      rw [List.anyM]
      refine PySem.W.Looks.andThen (a := true) ?_ PySem.W.Looks.now
      refine (PySem.W.looks_findIn X hs).andThen ?_
      exact PySem.W.Looks.now
section
variable {prog : Program} {w : World} {A : Around} {E : Value → Shared → Prop} {s : Shared} {K : PySem.W.Frag} {x y C f : Addr} {ox oy : Obj} {od od' : Option Obj}
theorem special_K {name : Str} {args : List Value} {Q : Option Value → Shared → Prop} (X : K.In s.heap) (I : PySem.W.InstAt s.heap x ox C od) (hs : PySem.W.findIn K (.ref C) name = some (some (.ref f))) (hf : PySem.W.isFn K (.ref f) = true)
    (h : wpAny (model prog w) A (call (.ref f) (.ref x :: args)) (fun v => Q (some v)) E s) : wpAny (model prog w) A (callSpecial? (.ref x) name args) Q E s := by
  unfold callSpecial? specialOf
  refine wpAny_bind (wpAny_bind (I.type.here ((PySem.W.looks_findIn X hs).here ?_)))
  refine wpAny_holding (wpAny_bind ((PySem.W.bind_fn X _ (beq_iff_eq.mp hf)).here ?_))
  exact wpAny_bind (wpAny_mono h (fun v s' h' => wpAny_pure h') fun _ _ h' => h')
theorem add_own {Q : Value → Shared → Prop} (X : K.In s.heap) (I : PySem.W.InstAt s.heap x ox C od) (J : PySem.W.InstAt s.heap y oy C od') (hsf : PySem.W.selfFirst K C = true) (hs : PySem.W.findIn K (.ref C) "__add__" = some (some (.ref f))) (hf : PySem.W.isFn K (.ref f) = true)
    (h : wpAny (model prog w) A (call (.ref f) [.ref x, .ref y]) (fun v s' => v ≠ .notImplemented ∧ Q v s') E s) : wpAny (model prog w) A (binaryOp .Add (.ref x) (.ref y)) Q E s := by
  have one : wpAny (model prog w) A (binaryOp1 "add" (.ref x) (.ref y)) (fun r s' => ∃ v, r = some v ∧ Q v s') E s := by
    simp only [binaryOp1]
    refine wpAny_bind (I.type.here (wpAny_bind (J.type.here (wpAny_bind ((looks_fills (nm := "add") X hsf (by exact hs)).here ?_)))))
    simp only [beq_self_eq_true, if_true, pure_bind, Bool.and_false, Bool.false_and, Bool.false_eq_true, if_false]
    refine wpAny_bind ?_
    unfold tryMethod
    refine wpAny_bind (special_K (args := [.ref y]) X I (by exact hs) hf (wpAny_mono h (fun v s' h' => ?_) fun _ _ h' => h'))
    obtain ⟨h1, h2⟩ := h'
    cases v <;> first | exact absurd rfl h1 | exact wpAny_pure (wpAny_pure ⟨_, rfl, h2⟩)
  show wpAny (model prog w) A (holding [.ref x, .ref y] _) Q E s
  refine wpAny_holding (wpAny_bind (wpAny_mono one (fun r s' z => ?_) fun _ _ h' => h'))
  obtain ⟨v, rfl, hq⟩ := z
  exact wpAny_pure hq
end

/-! ### instances as data -/
inductive Is (M : Mem) : D → Addr → List (Str × D) → Prop
  | frz {C : Addr} {gs : List (Str × D)} : Is M (.ins C gs) C gs
  | adr {p C : Addr} {gs : List (Str × D)} : M p = some (.ins C gs) → Is M (.adr p) C gs
section
variable {K : PySem.W.Frag} {F H : Hp} {M : Mem}
theorem Is.get {d : D} {C : Addr} {gs : List (Str × D)} {v : V} (s : Is M d C gs) (o : Ok K F M H) (r : Rp K F v d) : ∃ a dx fs, v = .ref a ∧ H a = some (.ins C dx fs) ∧ Rfs K F fs gs := by
  cases s with
  | frz =>
    cases r with
    | ins h r => exact ⟨_, _, _, rfl, o.ex _ _ h, r⟩
  | adr h =>
    cases r
    obtain ⟨_, dx, fs, h1, h2⟩ := o.mt _ _ h
    exact ⟨_, dx, fs, rfl, h1, h2⟩
theorem Rfs.look {f : Str} : ∀ {fs : List (Str × V)} {gs : List (Str × D)}, Rfs K F fs gs → (fs.lookup f = none ∧ gs.lookup f = none) ∨ ∃ v d, fs.lookup f = some v ∧ gs.lookup f = some d ∧ Rp K F v d
  | _, _, .nil => .inl ⟨rfl, rfl⟩
  | _, _, .cons (x := x) h r => by
    by_cases e : f = x
    · subst e; exact .inr ⟨_, _, by simp [List.lookup], by simp [List.lookup], h⟩
    · have e2 : (f == x) = false := by simpa using e
      rcases Rfs.look (f := f) r with ⟨h1, h2⟩ | ⟨v, d, h1, h2, h3⟩
      · exact .inl ⟨by simpa [List.lookup, e2] using h1, by simpa [List.lookup, e2] using h2⟩
      · exact .inr ⟨v, d, by simpa [List.lookup, e2] using h1, by simpa [List.lookup, e2] using h2, h3⟩
def putG (f : Str) (v : D) : List (Str × D) → List (Str × D)
  | [] => [(f, v)]
  | (g, x) :: r => if g = f then (g, v) :: r else (g, x) :: putG f v r
theorem Rfs.put {f : Str} {v : V} {d : D} (h : Rp K F v d) : ∀ {fs : List (Str × V)} {gs : List (Str × D)}, Rfs K F fs gs → Rfs K F (putF f v fs) (putG f d gs)
  | _, _, .nil => .cons h .nil
  | _, _, .cons (x := x) h' r => by
    unfold putF putG
    by_cases e : x = f
    · rw [if_pos e, if_pos e]; exact .cons h r
    · rw [if_neg e, if_neg e]; exact .cons h' (Rfs.put h r)
theorem Rfs.length : ∀ {fs : List (Str × V)} {gs : List (Str × D)}, Rfs K F fs gs → fs.length = gs.length
  | _, _, .nil => rfl
  | _, _, .cons _ r => congrArg Nat.succ r.length
/-- an object beside -/
theorem Ok.more (k : Ok K F M H) {a : Addr} {o : HO} (h : H a = none) : Ok K F M (upd H a o) := by
  refine ⟨fun b u e => ?_, fun b d e => ?_⟩
  · rw [upd_ne (ne_of_none (k.ex b u e) h)]; exact k.ex b u e
  · obtain ⟨m1, m2⟩ := k.mt b d e
    obtain ⟨o2, h2⟩ := m2.there
    exact ⟨m1, m2.mono (Same.refl F) (upd_ne (ne_of_none h2 h))⟩
end
section
variable {X : Cx} {J : Gh} {e a b c o : Expr} {es : List Expr} {ρ ρ' : DEnv} {M M' : Mem} {F F' H H' : Hp} {σ : L2.St} {B : Bd} {K : PySem.W.Frag} {pos p apos cpos : Pos} {x f : Str} {P : D → Mem → Prop}
/-- e.f, a field -/
theorem ex_fld (h : EX X J e ρ M fun d M1 => ∃ C gs y, Is M1 d C gs ∧ Cls X.K C ∧ NoAttr X.K C f ∧ gs.lookup f = some y ∧ P y M1) (hb : attributeBase e f X.env (eval e X.env) = eval e X.env := by rfl) : EX X J (.Attribute e f pos) ρ M P :=
  ex_of (pe_fld pe_any hb) fun F σ H Q st k => h.go st fun d v M1 F1 H1 q1 e1 o1 r1 => by
    obtain ⟨C, gs, y, hi, hc, hn, hl, q⟩ := q1
    obtain ⟨a, dx, fs, rfl, h1, h2⟩ := hi.get o1 r1
    rcases h2.look (f := f) with ⟨_, h3⟩ | ⟨w, d', h3, h4, h5⟩
    · rw [h3] at hl; cases hl
    · rw [h4] at hl; cases hl
      exact ⟨a, C, dx, fs, w, rfl, h1, hc, hn, h3, k _ _ _ _ _ q e1 o1 h5⟩
/-- e.f, a constant of the class -/
theorem ex_con (h : EX X J e ρ M fun d M1 => ∃ C gs v u y, Is M1 d C gs ∧ Cls X.K C ∧ Con X.K C f v u ∧ gs.lookup f = none ∧ (∀ F, Rp X.K F v y) ∧ P y M1) (hb : attributeBase e f X.env (eval e X.env) = eval e X.env := by rfl) : EX X J (.Attribute e f pos) ρ M P :=
  ex_of (pe_con pe_any hb) fun F σ H Q st k => h.go st fun d v M1 F1 H1 q1 e1 o1 r1 => by
    obtain ⟨C, gs, v, u, y, hi, hc, hk, hl, hy, q⟩ := q1
    obtain ⟨a, dx, fs, rfl, h1, h2⟩ := hi.get o1 r1
    rcases h2.look (f := f) with ⟨h3, _⟩ | ⟨w, d', h3, h4, h5⟩
    · exact ⟨a, C, dx, fs, v, u, rfl, h1, hc, hk, h3, k _ _ _ _ _ q e1 o1 (hy _)⟩
    · rw [h4] at hl; cases hl
/-- e.f, a property -/
theorem ex_prop {k : Nat} {C q g : Addr} {fd : FuncData} {ps : List Str} {T : Tr} (c : Cls X.K C) (hp : PropOf X.K C f q g) (G : FnOk X.prog X.w X.K X.mg X.base CX0 k g fd ps (SpD X.K T)) (hr : Room (k + 1) X.A) (hb : Binds X.K fd ps [])
    (h : EX X J e ρ M fun d M1 => ∃ gs, Is M1 d C gs ∧ T [d] M1 P) (hab : attributeBase e f X.env (eval e X.env) = eval e X.env := by rfl) : EX X J (.Attribute e f pos) ρ M P :=
  ex_of (pe_prop (E := E0) pe_any c hp G hr hb .nil pass0 hab) fun F σ H Q st k => h.go st fun d v M1 F1 H1 q1 e1 o1 r1 => by
    obtain ⟨gs, hi, t⟩ := q1
    obtain ⟨a, dx, fs, rfl, h1, h2⟩ := hi.get o1 r1
    exact ⟨a, dx, fs, rfl, h1, F1, M1, [d], P, o1, .cons r1 .nil, t, k.to e1⟩
/-- o.f = e, o an instance that may change -/
theorem g1_setFld {fp : Pos} (h : EX X J e ρ M fun y M1 => EX X J o ρ M1 fun d M2 => ∃ q C gs, d = .adr q ∧ M2 q = some (.ins C gs) ∧ Cls X.K C ∧ NoAttr X.K C f ∧ gs.length < 1000 ∧ B.nx ρ (up M2 q (.ins C (putG f y gs))))
    (hs : swapsWith e (some (.Attribute o f fp)) pos.line X.env = pure false := by rfl) : G1 X J (.Assign [.Attribute o f fp] e pos) ρ M B :=
  g1_of (ps_fld pe_any pe_any hs) fun F σ H E s k => h.go s fun y v M1 F1 H1 q1 e1 o1 r1 => q1.go (s.to e1 o1) fun d w M2 F2 H2 q2 e2 o2 r2 => by
    obtain ⟨q, C, gs, rfl, hq, hc, hn, hl, q3⟩ := q2
    cases r2
    obtain ⟨_, dx, fs, h1, h2⟩ := o2.mt _ _ hq
    refine ⟨q, C, dx, fs, rfl, h1, hc, hn, by rw [h2.length]; exact hl, k.nx F2 _ _ _ _ q3 (e1.trans e2) ((s.en.mono e1).mono e2) ?_⟩
    exact o2.set (o := .ins C dx (putF f v fs)) hq ⟨dx, _, upd_same, h2.put (r1.mono e2)⟩
/-- what is made by C(..), told of its values -/
def TMk (C : Addr) (T : TrV) (ds : List D) (M : Mem) (P : D → Mem → Prop) : Prop := ∀ a, M a = none → T (.adr a :: ds) [] (up M a (.ins C [])) fun d M2 => d = .non ∧ ∃ gs M0, M0 a = none ∧ M2 = up M0 a (.ins C gs) ∧ P (.ins C gs) M0
theorem run_makeV {k : Nat} {C g : Addr} {T : TrV} {pins : List (Addr × Obj)} {s : Shared} {Q : VK} {us : List Value} {vs : List V} {ds : List D} (Mk0 : Mk X.K C g) (G : FnV X.prog X.w X.K X.mg X.base false k g [] T) (hr : Room (k + 1) X.A)
    (I : L2.Inv X pins σ H s) (r : Vals vs us) (o : Ok X.K F M H) (rd : Rps X.K F vs ds) (t : TMk C T ds M P) (kt : Kt X.K F P Q) : wpAny (model X.prog X.w) X.A (call (.ref C) us) (EP X pins σ Q) X.xe s := by
  have h1 : H (s.heap.objs.size + 1) = none := I.hok.fresh (Nat.le_succ _)
  have h0 : H s.heap.objs.size = none := I.hok.fresh (Nat.le_refl _)
  have I2 := Inv.made (C := C) I
  have o1 := o.more (o := .own (s.heap.objs.size + 1)) h0
  have h2 : upd H s.heap.objs.size (.own (s.heap.objs.size + 1)) (s.heap.objs.size + 1) = none := by rw [upd_ne (Nat.succ_ne_self _)]; exact h1
  have o2 := o1.lay (o := .ins C s.heap.objs.size []) (d := .ins C []) h2 ⟨_, [], upd_same, .nil⟩
  have hM := (o.nn h1).2
  have r2 : Vals (V.ref (s.heap.objs.size + 1) :: vs) (Value.ref (s.heap.objs.size + 1) :: us) := .cons rfl r
  refine wpAny_call (make_map (f := g) I.kIn Mk0.makes Mk0.init (beq_iff_eq.mp Mk0.fn) (codeAny_mono (G.go _ X.stack _ _ F _ _ [] _ (Value.ref (s.heap.objs.size + 1) :: us) [] _ [] (fun v H2 => v = .non ∧ Q (.ref (s.heap.objs.size + 1)) H2) (fun z => nomatch z) (hr.make C us []) (I2.env0.make C us []) r2 .nil rfl o2 (.cons (.adr _) rd) .nil (t _ hM) ?_) fun r s' hq' => ?_))
  · rintro d v M' F' H' ⟨rfl, gs, M0, hn, rfl, q⟩ e' o' r'
    cases r'
    refine ⟨rfl, ?_⟩
    obtain ⟨_, dx, fs, h3, h4⟩ := o'.mt _ _ up_same
    obtain ⟨s1, o5⟩ := o'.freeze up_same h3
    rw [rm_up hn] at o5
    exact kt _ _ _ _ _ q (e'.trans s1) o5 (.ins upd_same (h4.mono s1))
  · cases r with
    | error e => exact hq'.elim
    | ok fl =>
      cases fl with
      | ret u =>
        obtain ⟨v, H', I3, rv, ev, q3⟩ := I2.after hq'
        subst ev
        exact ⟨rv, ⟨V.ref (s.heap.objs.size + 1), H', I3, rfl, q3⟩⟩
      | next => exact False.elim hq'
      | brk => exact False.elim hq'
      | cont => exact False.elim hq'
/-- C(e, ..) -/
theorem ex_make {k : Nat} {C g : Addr} {T : TrV} (Mk0 : Mk X.K C g) (G : FnV X.prog X.w X.K X.mg X.base false k g [] T) (hr : Room (k + 1) X.A) (hm : X.mg x = some (.ref C)) (h : AX X J (e :: es) ρ M fun ds M1 => TMk C T ds M1 P) (hg : Gl X x := by rfl) (hdb : (x == ("__debug__" : Str)) = false := by decide)
    (he : starEach (e :: es) X.env = (false, eval e X.env) :: starEach es X.env := by rfl) (hpl : (backTo pos (starEach es X.env)).any (·.1) = false := by rfl) : EX X J (.Call (.Name x p) (e :: es) [] pos) ρ M P := by
  refine ⟨fun pins s σ H Q I ⟨F, st, kt⟩ => ?_⟩
  refine wpAny_Call_Name_kw (ld_glob I hg hm ?_ hdb)
  refine PySem.W.callWith_K (h₀ := X.base) I.ok.mod.kin Mk0.kp (thn ((pa_any (X := X) (es := e :: es)).run pos pins s σ H (fun vs H1 => ∃ F1 M1 ds, Same F F1 ∧ Ok X.K F1 M1 H1 ∧ Rps X.K F1 vs ds ∧ TMk C T ds M1 P) I
    (h.go st fun ds vs M1 F1 H1 q e1 o1 r1 => ⟨F1, M1, ds, e1, o1, r1, q⟩)) fun us s1 ⟨vs, H1, I1, r, F1, M1, ds, e1, o1, rd, q⟩ => ⟨I1.kIn, ?_⟩) he hpl
  exact run_makeV Mk0 G hr I1 r o1 rd q (kt.to e1)
/-- C() -/
theorem ex_make0 {k : Nat} {C g : Addr} {T : TrV} (Mk0 : Mk X.K C g) (G : FnV X.prog X.w X.K X.mg X.base false k g [] T) (hr : Room (k + 1) X.A) (hm : X.mg x = some (.ref C)) (h : TMk C T [] M P) (hg : Gl X x := by rfl) (hdb : (x == ("__debug__" : Str)) = false := by decide) : EX X J (.Call (.Name x p) [] [] pos) ρ M P := by
  refine ⟨fun pins s σ H Q I ⟨F, st, kt⟩ => ?_⟩
  refine wpAny_Call_Name_kw (ld_glob I hg hm ?_ hdb)
  exact PySem.W.callWith_K0 I.kIn Mk0.kp (run_makeV Mk0 G hr I .nil st.ok .nil h kt)
theorem evalArgs_two {Mo : Model} {A : Around} {E : Value → Shared → Prop} {s : Shared} {fv : Value} {u1 u2 : Bool × Sem Value} {rest : List (Bool × Sem Value)} {Q : Args → Shared → Prop}
    (h : wpAny Mo A (spliced (u1 :: u2 :: rest)) (fun vs s' => Q ⟨vs, []⟩ s') E s) : wpAny Mo A (evalArgs fv true (u1 :: u2 :: rest) []) Q E s := by
  unfold evalArgs
  obtain ⟨b1, x1⟩ := u1
  cases b1 <;>
  · show wpAny Mo A (spliced _ >>= _) Q E s
    refine wpAny_bind (wpAny_mono h (fun vs s' h' => ?_) fun _ _ x => x)
    refine wpAny_holding ?_
    exact wpAny_bind (wpAny_pure (wpAny_bind (wpAny_pure (wpAny_pure h'))))
/-- C( *a, *b) -/
theorem ex_makeS2 {k : Nat} {C g : Addr} {T : TrV} {p1 p2 : Pos} (Mk0 : Mk X.K C g) (G : FnV X.prog X.w X.K X.mg X.base false k g [] T) (hr : Room (k + 1) X.A) (hm : X.mg x = some (.ref C)) (h : AX X J [.Starred a p1, .Starred b p2] ρ M fun ds M1 => TMk C T ds M1 P) (hg : Gl X x := by rfl) (hdb : (x == ("__debug__" : Str)) = false := by decide)
    (he : starEach [.Starred a p1, .Starred b p2] X.env = [(true, eval a X.env), (true, eval b X.env)] := by rfl) : EX X J (.Call (.Name x p) [.Starred a p1, .Starred b p2] [] pos) ρ M P := by
  refine ⟨fun pins s σ H Q I ⟨F, st, kt⟩ => ?_⟩
  refine wpAny_Call_Name_kw (ld_glob I hg hm ?_ hdb)
  have hh := (pa_any (X := X) (es := [.Starred a p1, .Starred b p2])).run pos pins s σ H (fun vs H1 => ∃ F1 M1 ds, Same F F1 ∧ Ok X.K F1 M1 H1 ∧ Rps X.K F1 vs ds ∧ TMk C T ds M1 P) I
    (h.go st fun ds vs M1 F1 H1 q e1 o1 r1 => ⟨F1, M1, ds, e1, o1, r1, q⟩)
  rw [he] at hh ⊢
  refine PySem.W.ks_call (P := X.K.In) rfl (PySem.W.keeps_K Mk0.kp) (evalArgs_two (thn hh fun us s1 ⟨vs, H1, I1, r, F1, M1, ds, e1, o1, rd, q⟩ => ⟨I1.kIn, ?_⟩))
  exact run_makeV Mk0 G hr I1 r o1 rd q (kt.to e1)
/-! ### instances called; +, == -/
def SpV (K : PySem.W.Frag) (T : TrV) : Sp := fun vs H Q _ => ∃ F M ds P, Ok K F M H ∧ Rps K F vs ds ∧ T ds [] M P ∧ Kt K F P Q
theorem fnR_of {pg : Program} {w : World} {mg : Str → Option Value} {base : Heap} {k : Nat} {g : Addr} {T : TrV} (G : FnV pg w K mg base false k g [] T) : FnR pg w K mg base CX0 k g (SpV K T) := by
  intro A outer s H us vs Q E hr e0 r ⟨F, M, ds, P, o, rd, t, kt⟩
  refine codeAny_mono (G.go A outer s H F M ds [] P us [] vs [] Q (fun z => nomatch z) hr e0 r .nil rfl o rd .nil t kt) fun res s' h => ?_
  cases res with
  | error e => exact h.elim
  | ok fl => cases fl <;> exact h
theorem ex_callO {k : Nat} {C g : Addr} {T : TrV} (c0 : CallO X.K C g) (G : FnV X.prog X.w X.K X.mg X.base false k g [] T) (hr : Room k X.A) (h : EX X J o ρ M fun d M1 => (∃ gs, Is M1 d C gs) ∧ AX X J (e :: es) ρ M1 fun ds M2 => ∃ gs, Is M2 d C gs ∧ T (d :: ds) [] M2 P)
    (ht : eval (.Call o (e :: es) [] pos) X.env = (do callWith pos (← eval o X.env) [] (backTo pos (starEach (e :: es) X.env)) (backToKw pos (keywordEach [] X.env))) := by rfl)
    (he : starEach (e :: es) X.env = (false, eval e X.env) :: starEach es X.env := by rfl) (hpl : (backTo pos (starEach es X.env)).any (·.1) = false := by rfl) : EX X J (.Call o (e :: es) [] pos) ρ M P := by
  refine ⟨fun pins s σ H Q I ⟨F, st, kt⟩ => ?_⟩
  refine Call_ (thn ((pe_any (X := X) (e := o)).run pins s σ H (fun v H1 => ∃ F1 M1 d, Same F F1 ∧ Ok X.K F1 M1 H1 ∧ Rp X.K F1 v d ∧ (∃ gs, Is M1 d C gs) ∧ AX X J (e :: es) ρ M1 fun ds M2 => ∃ gs, Is M2 d C gs ∧ T (d :: ds) [] M2 P) I (h.go st fun d v M1 F1 H1 q e1 o1 r1 => ⟨F1, M1, d, e1, o1, r1, q⟩)) fun u s1 ⟨y, H1, I1, ry, F1, M1, d, e1, o1, rd, ⟨gs0, hi0⟩, q⟩ => ?_) ht
  obtain ⟨a, _, _, rfl, _, _⟩ := hi0.get o1 rd
  obtain rfl : u = Value.ref a := ry
  refine callO_with (thn ((pa_any (X := X) (es := e :: es)).run pos pins s1 σ H1 (fun vs H2 => ∃ F2 M2 ds, Same F1 F2 ∧ Ok X.K F2 M2 H2 ∧ Rps X.K F2 vs ds ∧ ∃ gs, Is M2 d C gs ∧ T (d :: ds) [] M2 P) I1 (q.go (st.to e1 o1) fun ds vs M2 F2 H2 q2 e2 o2 r2 => ⟨F2, M2, ds, e2, o2, r2, q2⟩)) fun us s2 ⟨vs, H2, I2, r, F2, M2, ds, e2, o2, rds, gs, hi, t⟩ => ?_) he hpl
  obtain ⟨a', dx, fs, ea, h1, h2⟩ := hi.get o2 (rd.mono e2)
  cases ea
  obtain ⟨ox, od, J0, hd⟩ := insC_at (X := X) I2 (.inr ⟨dx, fs, h1⟩)
  exact ⟨⟨C, ox, od, J0, hd⟩, run_callO (E := E0) c0 (fnR_of G) hr pass0 I2 (.inr ⟨dx, fs, h1⟩) r ⟨F2, M2, _, P, o2, .cons (rd.mono e2) rds, t, kt.to (e1.trans e2)⟩⟩
/-- x + y by the class's __add__, which gives an instance -/
theorem od_addOwn {k : Nat} {C g : Addr} {T : TrV} {x y : D} {gs hs : List (Str × D)} (G : FnV X.prog X.w X.K X.mg X.base false k g [] T) (hr : Room k X.A) (hsf : PySem.W.selfFirst X.K C = true) (hm : Meth X.K C "__add__" g) (hx : Is M x C gs) (hy : Is M y C hs)
    (t : T [x, y] [] M fun d M2 => (∃ C' gs', d = .ins C' gs') ∧ P d M2) : OD X (binaryOp .Add) x y M P :=
  ⟨fun v u H Q => ∃ F, Ok X.K F M H ∧ Rp X.K F v x ∧ Rp X.K F u y ∧ Kt X.K F P Q, fun pins s σ H v0 u0 v u Q I rv ru ⟨F, o, rx, ry, kt⟩ => by
    obtain ⟨a, dx, fs, rfl, h1, _⟩ := hx.get o rx
    obtain ⟨b, dy, fs', rfl, h2, _⟩ := hy.get o ry
    obtain rfl : v = Value.ref a := rv
    obtain rfl : u = Value.ref b := ru
    obtain ⟨ox, od, J0, _⟩ := insC_at (X := X) I (.inr ⟨dx, fs, h1⟩)
    obtain ⟨oy, od', J1, _⟩ := insC_at (X := X) I (.inr ⟨dy, fs', h2⟩)
    have hc : wpAny (model X.prog X.w) X.A (call (.ref g) [.ref a, .ref b]) (EP X pins σ fun v H' => (∃ a, v = .ref a) ∧ Q v H') X.xe s := wpAny_call (run_fnR (E := E0) (us := [.ref a, .ref b]) (vs := [V.ref a, V.ref b]) (fnR_of G) hr pass0 I (.cons rfl (.cons rfl .nil)) ⟨F, M, _, _, o, .cons rx (.cons ry .nil), t, fun d v M' F' H' q e o' r => by
      obtain ⟨⟨C', gs', rfl⟩, q⟩ := q
      exact ⟨by cases r; exact ⟨_, rfl⟩, kt _ _ _ _ _ q e o' r⟩⟩)
    refine add_own I.kIn J0 J1 hsf hm.at_ hm.fn (wpAny_mono hc (fun v' s' h => ?_) fun _ _ z => z)
    obtain ⟨v, H', I', rv', ⟨a', rfl⟩, q⟩ := h
    obtain rfl : v' = Value.ref a' := rv'
    exact ⟨fun z => (nomatch z), V.ref a', H', I', rfl, q⟩, fun F H v u Q o rx ry kt => ⟨F, o, rx, ry, kt⟩⟩
/-- x == y by the class's __eq__ -/
theorem od_eqOwn {k : Nat} {C g : Addr} {T : TrV} {x y : D} {gs hs : List (Str × D)} (G : FnV X.prog X.w X.K X.mg X.base false k g [] T) (hr : Room k X.A) (hm : Meth X.K C "__eq__" g) (hx : Is M x C gs) (hy : Is M y C hs)
    (t : T [x, y] [] M fun d M2 => (∃ b, d = .bl b) ∧ P d M2) : OD X (compareOp .Eq) x y M P :=
  ⟨fun v u H Q => ∃ F, Ok X.K F M H ∧ Rp X.K F v x ∧ Rp X.K F u y ∧ Kt X.K F P Q, fun pins s σ H v0 u0 v u Q I rv ru ⟨F, o, rx, ry, kt⟩ => by
    obtain ⟨a, dx, fs, rfl, h1, _⟩ := hx.get o rx
    obtain ⟨b, dy, fs', rfl, h2, _⟩ := hy.get o ry
    obtain rfl : v = Value.ref a := rv
    obtain rfl : u = Value.ref b := ru
    obtain ⟨ox, od, J0, _⟩ := insC_at (X := X) I (.inr ⟨dx, fs, h1⟩)
    obtain ⟨oy, od', J1, _⟩ := insC_at (X := X) I (.inr ⟨dy, fs', h2⟩)
    have hc : wpAny (model X.prog X.w) X.A (call (.ref g) [.ref a, .ref b]) (EP X pins σ fun v H' => (∃ a, v = .bl a) ∧ Q v H') X.xe s := wpAny_call (run_fnR (E := E0) (us := [.ref a, .ref b]) (vs := [V.ref a, V.ref b]) (fnR_of G) hr pass0 I (.cons rfl (.cons rfl .nil)) ⟨F, M, _, _, o, .cons rx (.cons ry .nil), t, fun d v M' F' H' q e o' r => by
      obtain ⟨⟨b', rfl⟩, q⟩ := q
      exact ⟨by cases r; exact ⟨_, rfl⟩, kt _ _ _ _ _ q e o' r⟩⟩)
    obtain ⟨m, hF⟩ := I.fr
    show wpAny (model X.prog X.w) X.A (richCompare .Eq (.ref a) (.ref b)) (EP X pins σ Q) X.xe s
    refine PySem.W.cmp_K (op := .Eq) (tb := .ref C) hr.units0 hF I.ok.mod.kin J0 J1.type (by simp [PySem.W.notFirst]) hm.at_ hm.fn (wpAny_mono hc (fun v' s' h => ?_) fun _ _ z => z)
    obtain ⟨v, H', I', rv', ⟨b', rfl⟩, q⟩ := h
    obtain rfl : v' = Value.bool b' := rv'
    exact ⟨V.bl b', H', I', rfl, q⟩, fun F H v u Q o rx ry kt => ⟨F, o, rx, ry, kt⟩⟩
end
end DX
namespace DX
open PySem PySem.Spec L2
/-! ### a look at the module: properties, sys.modules' place -/
def prAd (K : PySem.W.Frag) (C f : Str) : Addr × Addr := match PySem.W.findIn K (.ref (He.ga K C)) f with
  | some (some (.ref p)) => (match PySem.W.recIn K p "property" with
    | some (.ref g :: _) => (p, g)
    | _ => (0, 0))
  | _ => (0, 0)
def fnWA (K : PySem.W.Frag) (a : Addr) : He.FnW := match K.lookup a with
  | some ⟨_, _, .func fd, _⟩ => some (fd.name, fd.qualname, fd.params, fd.body, fd.scope, fd.globals, fd.closure, fd.builtins)
  | _ => none
/-- a property's getter: the class, the property's name; its def -/
def prB (K : PySem.W.Frag) (C f q : Str) : Bool :=
  He.eqO (PySem.W.findIn K (.ref (He.ga K C)) f) (some (some (.ref (prAd K C f).1))) && (He.eqO (PySem.W.specialIn K (.ref (prAd K C f).1) "__get__") (some (some (.builtin "property.__get__"))) &&
    (decide (PySem.W.takesIn K (.ref (prAd K C f).1) = some true) && ((match PySem.W.recIn K (prAd K C f).1 "property" with
      | some (v :: _) => decide (v = .ref (prAd K C f).2)
      | _ => false) && (PySem.W.keepIn K (.ref (prAd K C f).2) && (match K.lookup (prAd K C f).2 with
        | some ⟨_, _, .func fd, _⟩ => PySem.W.codeIn K fd.code q && (He.dflB K fd.defaults [] && He.kwdB K fd.kwdefaults [])
        | _ => false)))))
theorem prB_prop {K : PySem.W.Frag} {C f q : Str} (h : prB K C f q = true) : PropOf K (He.ga K C) f (prAd K C f).1 (prAd K C f).2 := by
  obtain ⟨h1, h⟩ := He.ba h
  obtain ⟨h2, h⟩ := He.ba h
  obtain ⟨h3, h⟩ := He.ba h
  obtain ⟨h4, h⟩ := He.ba h
  refine ⟨He.eqO_ok h1, He.eqO_ok h2, of_decide_eq_true h3, ?_⟩
  cases e : PySem.W.recIn K (prAd K C f).1 "property" with
  | none => rw [e] at h4; cases h4
  | some l =>
    cases l with
    | nil => rw [e] at h4; cases h4
    | cons v r =>
      rw [e] at h4
      rw [of_decide_eq_true h4]
      exact ⟨r, rfl⟩
theorem prB_fun {K : PySem.W.Frag} {C f : Str} {name qual : Str} {params : Arguments} {body : List Stmt} {scope : Scope} (h : prB K C f qual = true) (e : fnWA K (prAd K C f).2 = some (name, qual, params, .stmts body, scope, mainGlobals, [], builtinsNs)) :
    ∃ fd, FunD K name qual params body scope [] [] (prAd K C f).2 fd := by
  obtain ⟨_, h⟩ := He.ba h
  obtain ⟨_, h⟩ := He.ba h
  obtain ⟨_, h⟩ := He.ba h
  obtain ⟨_, h⟩ := He.ba h
  obtain ⟨kp, c2⟩ := He.ba h
  unfold fnWA at e
  cases q : K.lookup (prAd K C f).2 with
  | none => rw [q] at c2; cases c2
  | some o =>
    obtain ⟨oc, od, dt, osl⟩ := o
    rw [q] at c2 e
    cases dt with
    | func fd =>
      obtain ⟨n1, n2, n3, n4, n5, n6, n7, n8, n9, n10, n11, n12, n13, n14, n15⟩ := fd
      have e2 : (some (n1, n2, n3, n4, n5, n6, n7, n15) : He.FnW) = some (name, qual, params, .stmts body, scope, mainGlobals, [], builtinsNs) := e
      simp only [Option.some.injEq, Prod.mk.injEq] at e2
      obtain ⟨h1, h2, h3, h4, h5, h6, h7, h8⟩ := e2
      subst h1 h2 h3 h4 h5 h6 h7 h8
      have c3 : (PySem.W.codeIn K n13 _ && (He.dflB K n8 [] && He.kwdB K n9 [])) = true := c2
      obtain ⟨k1, k2⟩ := He.ba c3
      obtain ⟨k3, k4⟩ := He.ba k2
      exact ⟨_, ⟨oc, od, n8, n9, n10, n11, n12, n13, n14, osl, rfl, q, k1, He.dflB_ok k3, He.kwdB_ok k4⟩, kp⟩
    | _ => cases c2
/-- a getter's def (at_: the class, the property) -/
structure PrD where
  cls : Str
  nm : Str
  qual : Str
  params : Arguments
  body : List Stmt
  scope : Scope
def PrD.val (d : PrD) : He.FnW := some (d.nm, d.qual, d.params, .stmts d.body, d.scope, mainGlobals, [], builtinsNs)
def obsP (fa : List He.Fa) (fn : List He.DefD) (pr : List PrD) (ex : PySem.W.Frag → Bool) (K : PySem.W.Frag) : He.AlD × Bool × List He.FnW :=
  (He.obsD fa fn K, ex K && pr.all (fun d => prB K d.cls d.nm d.qual), pr.map fun d => fnWA K (prAd K d.cls d.nm).2)
def lookP (fa : List He.Fa) (fn : List He.DefD) (pr : List PrD) (ex : PySem.W.Frag → Bool) (n : Nat) (g : Addr → Option Obj) : He.AlD × Bool × List He.FnW := obsP fa fn pr ex (He.frG g (cStatics :: sysModules :: He.asD g n))
def SaysP (fa : List He.Fa) (fn : List He.DefD) (pr : List PrD) (ex : PySem.W.Frag → Bool) (K : PySem.W.Frag) : Prop := obsP fa fn pr ex K = (He.valD fn, true, pr.map PrD.val)
def hookP (n : Nat) (fa : List He.Fa) (fn : List He.DefD) (pr : List PrD) (ex : PySem.W.Frag → Bool) : PySem.W.Hook where
  α := He.AlD × Bool × List He.FnW
  obs := fun s => lookP fa fn pr ex n s.heap.get?
  val := fun _ => (He.valD fn, true, pr.map PrD.val)
  says := fun _ h => ∃ K : PySem.W.Frag, K.In h ∧ SaysP fa fn pr ex K
  of := fun _ _ e => ⟨_, He.frG_in, e⟩
  keeps := fun _ _ _ ⟨K, hK, c⟩ k => ⟨K, PySem.W.Frag.In.keeps hK k, c⟩
theorem lookP_eq {n : Nat} {fa : List He.Fa} {fn : List He.DefD} {pr : List PrD} {ex : PySem.W.Frag → Bool} {g : Addr → Option Obj} {s : Shared} (h : ∀ a, g a = s.heap.get? a) : lookP fa fn pr ex n g = (hookP n fa fn pr ex).obs s := by
  have e : g = s.heap.get? := funext h
  subst e
  rfl
section
variable {fa : List He.Fa} {fn : List He.DefD} {pr : List PrD} {ex : PySem.W.Frag → Bool} {K : PySem.W.Frag}
theorem SaysP.says (c : SaysP fa fn pr ex K) : He.SaysD fa fn K := congrArg Prod.fst c
theorem SaysP.exx (c : SaysP fa fn pr ex K) : ex K = true := (He.ba (congrArg (fun z => z.2.1) c)).1
theorem SaysP.pr_ (c : SaysP fa fn pr ex K) (i : Nat) {d : PrD} (h : pr[i]? = some d := by rfl) : PropOf K (He.ga K d.cls) d.nm (prAd K d.cls d.nm).1 (prAd K d.cls d.nm).2 ∧ ∃ fd, FunD K d.nm d.qual d.params d.body d.scope [] [] (prAd K d.cls d.nm).2 fd := by
  have c2 := (He.ba (congrArg (fun z => z.2.1) c)).2
  have e : pr.map (fun d => fnWA K (prAd K d.cls d.nm).2) = pr.map PrD.val := congrArg (fun z => z.2.2) c
  have e2 : (pr.map fun d => fnWA K (prAd K d.cls d.nm).2)[i]? = (pr.map PrD.val)[i]? := by rw [e]
  rw [List.getElem?_map, List.getElem?_map, h] at e2
  have hb := List.all_eq_true.mp c2 d (List.mem_of_getElem? h)
  exact ⟨prB_prop hb, prB_fun hb (Option.some.inj e2)⟩
end
/-- a class that stands first among those that its instances are looked up in -/
def sfB (K : PySem.W.Frag) (C : Str) : Bool := PySem.W.selfFirst K (He.ga K C)
/-- a constant of a class, an int -/
def conB (K : PySem.W.Frag) (C f : Str) (i : Int) : Bool := match PySem.W.findIn K (.ref (He.ga K C)) f with
  | some (some (.int j t)) => decide (j = i) && He.eqO (PySem.W.specialIn K (.int j t) "__get__") (some none)
  | _ => false
theorem conB_ok {K : PySem.W.Frag} {C f : Str} {i : Int} (h : conB K C f i = true) (hc : PySem.W.copiedNames.contains f = false) : ∃ u, Con K (He.ga K C) f (.int i) u := by
  unfold conB at h
  cases e : PySem.W.findIn K (.ref (He.ga K C)) f with
  | none => rw [e] at h; cases h
  | some v =>
    cases v with
    | none => rw [e] at h; cases h
    | some w =>
      rw [e] at h
      cases w with
      | int j t =>
        obtain ⟨h1, h2⟩ := He.ba h
        have := of_decide_eq_true h1
        subst this
        exact ⟨_, e, ⟨t, rfl⟩, He.eqO_ok h2, hc⟩
      | _ => cases h
/-- its instances may be called -/
def callB (K : PySem.W.Frag) (C : Str) : Bool := He.eqO (PySem.W.findIn K (.ref (He.ga K C)) "__call__") (some (some (.ref (He.ma K (He.ga K C) "__call__")))) && (PySem.W.isFn K (.ref (He.ma K (He.ga K C) "__call__")) && PySem.W.fnIn K (He.ma K (He.ga K C) "__call__"))
theorem callB_ok {K : PySem.W.Frag} {C : Str} (h : callB K C = true) : StX.CallO K (He.ga K C) (He.ma K (He.ga K C) "__call__") := by
  obtain ⟨h1, h⟩ := He.ba h
  obtain ⟨h2, h3⟩ := He.ba h
  exact ⟨He.eqO_ok h1, h2, h3⟩
end DX
namespace DX
open PySem PySem.Spec L2
open SX
section
variable {X : Cx} {J : Gh} {M : Mem} {P : D → Mem → Prop} {ρ : DEnv} {o e : Expr} {pos apos cpos : Pos}
/-! ### in, not in: ints; signs of a text -/
theorem flat_ints : ∀ ns : List Int, (ns.map V.int).all flatV = true
  | [] => rfl
  | y :: ns => by rw [List.map_cons, List.all_cons, flat_ints ns]; rfl
theorem inV_ints {i : Int} : ∀ ns : List Int, inV (.int i) (ns.map V.int) = decide (i ∈ ns)
  | [] => by simp [inV]
  | y :: ns => by
    have ih := inV_ints (i := i) ns
    unfold inV at ih ⊢
    rw [List.map_cons, List.any_cons, ih]
    show (y == i || decide (i ∈ ns)) = decide (i ∈ y :: ns)
    by_cases h : y = i
    · subst h; simp
    · have h' : ¬ i = y := fun z => h z.symm
      simp [h, h']
theorem od_inI {i : Int} {c : D} {ds : List D} {ns : List Int} (s : Sq M c ds) (e : ds = ns.map D.int) (p : P (.bl (decide (i ∈ ns))) M) : OD X (compareOp .In) (.int i) c M P :=
  ⟨_, op_in_seq, fun F H v u Q o rx ry k => by
    subst e
    cases rx
    obtain ⟨q, xs, rfl, hx, rs⟩ := s.get o ry
    obtain rfl := rs.ints
    refine ⟨_, _, rfl, hx, rfl, flat_ints _, ?_⟩
    rw [inV_ints]
    exact k.here p o (.bl _)⟩
theorem od_notInI {i : Int} {c : D} {ds : List D} {ns : List Int} (s : Sq M c ds) (e : ds = ns.map D.int) (p : P (.bl (!decide (i ∈ ns))) M) : OD X (compareOp .NotIn) (.int i) c M P :=
  ⟨_, op_notIn_seq, fun F H v u Q o rx ry k => by
    subst e
    cases rx
    obtain ⟨q, xs, rfl, hx, rs⟩ := s.get o ry
    obtain rfl := rs.ints
    refine ⟨_, _, rfl, hx, rfl, flat_ints _, ?_⟩
    rw [inV_ints]
    exact k.here p o (.bl _)⟩
theorem od_inC {y z : Str} {c : Nat} (e : y = ⟨#[c]⟩) (p : P (.bl (decide (c ∈ z.cps.toList))) M) : OD X (compareOp .In) (.str y) (.str z) M P :=
  ⟨_, op_in_sign, fun F H v u Q o rx ry k => by
    subst e
    cases rx; cases ry
    exact ⟨c, z, rfl, rfl, k.here p o (.bl _)⟩⟩
theorem od_notInC {y z : Str} {c : Nat} (e : y = ⟨#[c]⟩) (p : P (.bl (!decide (c ∈ z.cps.toList))) M) : OD X (compareOp .NotIn) (.str y) (.str z) M P :=
  ⟨_, op_notIn_sign, fun F H v u Q o rx ry k => by
    subst e
    cases rx; cases ry
    exact ⟨c, z, rfl, rfl, k.here p o (.bl _)⟩⟩
/-! ### max, min of a list of ints -/
theorem cd_maxL {d : D} {ds : List D} {ns : List Int} (hc : X.calm = true) (s : Sl M d ds) (e : ds = ns.map D.int) (hn : 0 < ns.length) (q : ∀ m, m ∈ ns → (∀ y, y ∈ ns → y ≤ m) → P (.int m) M) : CD X (.builtin "max") [d] M P :=
  ⟨_, cr_max hc, fun F H vs Q o r k => by
    subst e
    cases r with
    | cons h1 r =>
      cases r
      obtain ⟨a, xs, rfl, h2, r2⟩ := s.get o h1
      exact ⟨a, ns, rfl, by rw [← r2.ints]; exact SqL.of h2, hn, fun m h3 h4 => k.here (q m h3 h4) o (.int _)⟩⟩
theorem cd_minL {d : D} {ds : List D} {ns : List Int} (hc : X.calm = true) (s : Sl M d ds) (e : ds = ns.map D.int) (hn : 0 < ns.length) (q : ∀ m, m ∈ ns → (∀ y, y ∈ ns → m ≤ y) → P (.int m) M) : CD X (.builtin "min") [d] M P :=
  ⟨_, cr_min hc, fun F H vs Q o r k => by
    subst e
    cases r with
    | cons h1 r =>
      cases r
      obtain ⟨a, xs, rfl, h2, r2⟩ := s.get o h1
      exact ⟨a, ns, rfl, by rw [← r2.ints]; exact SqL.of h2, hn, fun m h3 h4 => k.here (q m h3 h4) o (.int _)⟩⟩
/-! ### z.count(y) -/
theorem ex_scount (h : EX X J o ρ M fun d M1 => ∃ z, d = .str z ∧ AX X J [e] ρ M1 fun ys M2 => ∃ y, ys = [.str y] ∧ P (.int (Txt.count z y)) M2)
    (hbase : attributeBase o "count" X.env (eval o X.env) = eval o X.env := by rfl)
    (few : ((backTo cpos (starEach [e] X.env)).all (fun x => !x.1) && (backToKw cpos (keywordEach [] X.env)).all (fun x => x.1.isSome) && decide ([e].length + ([] : List Keyword).length + (if ([] : List Keyword).isEmpty then 0 else 1) < 30)) = true := by rfl)
    (line : (apos.endLine == cpos.line) = true := by rfl) (hst : starEach [e] X.env = (false, eval e X.env) :: starEach [] X.env := by rfl) (hpl : (backTo cpos (starEach [] X.env)).any (·.1) = false := by rfl) :
    EX X J (.Call (.Attribute o "count" apos) [e] [] cpos) ρ M P :=
  ex_of (pe_bm PySem.F.plainAttrs_str PySem.F.slot_str_count PySem.F.type_str_count mt_count pe_any pa_any hbase few line hst hpl) fun F σ H Q st k => h.go st fun d v M1 F1 H1 q1 e1 o1 r1 => by
    obtain ⟨z, rfl, q2⟩ := q1
    cases r1
    refine ⟨rfl, q2.go (st.to e1 o1) fun ys vs M2 F2 H2 q3 e2 o2 r2 => ?_⟩
    obtain ⟨y, rfl, q3⟩ := q3
    cases r2 with
    | cons r2 r3 =>
      cases r3
      cases r2
      exact ⟨z, y, rfl, rfl, k _ _ _ _ _ q3 (e1.trans e2) o2 (.int _)⟩
/-! ### == [], != [] of a list that may change -/
theorem pyds_nil {ds : List D} : PyData.eqv (.list (pyds ds)) (.list []) = ds.isEmpty := by
  cases ds with
  | nil => simp [pyds, PyData.eqv, PyData.eqvAll]
  | cons d ds => simp [pyds, PyData.eqv, PyData.eqvAll]
theorem sl_dp {K : PySem.W.Frag} {F H : Hp} {x : D} {ds : List D} {v : V} (o : Ok K F M H) (s : Sl M x ds) (r : Rp K F v x) (hg : goods ds) : Dp K H v (.list (pyds ds)) := by
  obtain ⟨p, xs, rfl, h1, h2⟩ := s.get o r
  exact .lst (SqL.of h1) (Rps.dps o.ex h2 (goods_py hg))
theorem shaped_l {ds : List D} (hg : goods ds) (hd : deps ds ≤ 40) : SeqAt.shaped (.list (pyds ds)) = true := by
  have := shaped_good (d := .lst ds) hg (by rw [dep]; omega)
  simpa [pyd] using this
theorem od_neNilA {x : D} {ds : List D} (hu : X.A.units + 64 < cLine) (s : Sl M x ds) (hg : goods ds) (hd : deps ds ≤ 40) (q : P (.bl (!ds.isEmpty)) M) : OD X (compareOp .NotEq) x (.lst []) M P :=
  ⟨_, op_neD hu, fun F H v u Q o rx ry k => ⟨.list (pyds ds), .list [], sl_dp o s rx hg, sl_dp (ds := []) o .lst ry trivial, shaped_l hg hd, shaped_l (ds := []) trivial (by decide), by rw [pyds_nil]; exact k.here q o (.bl _)⟩⟩
theorem od_eqNilA {x : D} {ds : List D} (hu : X.A.units + 64 < cLine) (s : Sl M x ds) (hg : goods ds) (hd : deps ds ≤ 40) (q : P (.bl ds.isEmpty) M) : OD X (compareOp .Eq) x (.lst []) M P :=
  ⟨_, op_eqD hu, fun F H v u Q o rx ry k => ⟨.list (pyds ds), .list [], sl_dp o s rx hg, sl_dp (ds := []) o .lst ry trivial, shaped_l hg hd, shaped_l (ds := []) trivial (by decide), by rw [pyds_nil]; exact k.here q o (.bl _)⟩⟩
/-! ### what changed is left behind -/
theorem Ok.less {K : PySem.W.Frag} {F H : Hp} {p : Addr} {d : D} (o : Ok K F (up M p d) H) (hp : M p = none) : Ok K F M H :=
  ⟨o.ex, fun a d' h => o.mt a d' (by rw [up_ne (fun e => by subst e; rw [hp] at h; cases h)]; exact h)⟩
theorem gx_drop {sts : List Stmt} {B : Bd} {p : Addr} {d : D} (hp : M p = none) (h : GX X J sts ρ M B) : GX X J sts ρ (up M p d) B :=
  ⟨fun pins s σ H E I ⟨F, st, k⟩ => h.run pins s σ H E I ⟨F, ⟨st.en, st.ok.less hp, st.gh⟩, k⟩⟩
theorem g1_drop {st : Stmt} {B : Bd} {p : Addr} {d : D} (hp : M p = none) (h : G1 X J st ρ M B) : G1 X J st ρ (up M p d) B :=
  ⟨fun pins s σ H E I ⟨F, st, k⟩ => h.run pins s σ H E I ⟨F, ⟨st.en, st.ok.less hp, st.gh⟩, k⟩⟩
end
end DX
/-! enumerate(t) of a tuple -/
namespace EnT
open PySem PySem.Spec L2 PyProof.Rows
theorem meets1 {v : Value} {o : Obj} {Hh : Heap → Prop} (B : Begins v o Hh) :
    Meets (Builtin.«enumerate.__new__» ⟨[.type "enumerate", v], []⟩) (fun _ R s => Hh s.heap ∧
      R (.ok (.ret (.ref (s.heap.push o).objs.size))) { s with heap := (s.heap.push o).push { cls := .type "enumerate", data := .fields #[.none, .bool false, .ref s.heap.objs.size, rawInt 0, .none, .none] } }) :=
  .of_wp fun prog w A R s h => by
    obtain ⟨hp, g, d, tk, os⟩ := s
    obtain ⟨h1, h⟩ := h
    have hsub := sub_enumerate
    have it1 : ∀ {A' : Around} {E : Value → Shared → Prop} {Q : Value → Shared → Prop}, Q (.ref hp.objs.size) ⟨hp.push o, g, d, tk, os⟩ → wpAny (model prog w) A' (pyIter v) Q E ⟨hp, g, d, tk, os⟩ :=
      fun q => B.iter prog w _ _ ⟨hp, g, d, tk, os⟩ _ h1 q
    wp_walk using it1
    refine wpAny_stack_any fun st => wpAny_pure ?_
    split
    · rename_i c _ _ _ _ _
      by_cases z : (c == Value.type "enumerate") = true
      · rw [z]; wp_walk using it1
        exact ⟨_, rfl, h⟩
      · rw [Bool.not_eq_true] at z
        rw [z]; wp_walk using it1
        exact ⟨_, rfl, h⟩
    · wp_walk using it1
      exact ⟨_, rfl, h⟩
section
variable {prog : Program} {w : World} {A : Around} {E : Value → Shared → Prop} {s : Shared}
theorem begins1 {v : Value} {o : Obj} {Hh : Heap → Prop} {Q : Value → Shared → Prop} (B : Begins v o Hh) (h1 : Hh s.heap)
    (h : ∀ h', IsEnum h' (s.heap.objs.size + 1) s.heap.objs.size 0 .none → h'.get? s.heap.objs.size = some o → h'.objs.size = s.heap.objs.size + 2 →
      (∀ b ob, s.heap.get? b = some ob → h'.get? b = some ob) → Q (.ref (s.heap.objs.size + 1)) { s with heap := h' }) : wpAny (model prog w) A (call (.type "enumerate") [v]) Q E s := by
  refine callType_new F.called_enumerate (by decide) (F.typeCall_enumerate_1 _) (F.newCall_enumerate_1 _) (fun obj => F.args_object_init_2 obj _) F.entry_enumerate_new (meets1 B) ⟨h1, ?_⟩
  have n1 : (s.heap.push o).objs.size = s.heap.objs.size + 1 := Heap.size_push ..
  have g0 := Heap.get?_push_size (s.heap.push o) (o := { cls := .type "enumerate", data := .fields #[.none, .bool false, .ref s.heap.objs.size, rawInt 0, .none, .none] }) rfl
  show _ ∧ _
  rw [n1] at g0 ⊢
  exact ⟨⟨_, g0, rfl⟩, h _ g0 (Heap.get?_push_of_some _ (Heap.get?_push_size _ B.free)) (by rw [Heap.size_push, n1]) fun b ob z => Heap.get?_push_of_some _ (Heap.get?_push_of_some _ z)⟩
end
/-- the tuple at a, its items in new pairs -/
def IteT (K : PySem.W.Frag) (a : Addr) : It :=
  ⟨fun i H => ∃ (xs : List V) (x : V), SqT K H a xs ∧ xs[i]? = some x, fun i H v H' => ∃ T x, v = .ref T ∧ H T = none ∧ H' = upd H T (.tup [.int (i : Nat), x]) ∧ ∀ xs, SqT K H a xs → xs[i]? = some x, fun i H => ∃ xs : List V, SqT K H a xs ∧ xs.length ≤ i⟩
theorem turnT {P : Program} {w : World} {K : PySem.W.Frag} {elts : List Expr} {kk : Nat} {tpos : Pos} (a e it : Addr) (hai : a ≠ it) (hae : a ≠ e) :
    Turn P w K (.Tuple elts kk tpos) (IteT K a) [e, it] e (fun i h => (∃ old, IsEnum h e it ((i : Nat) : Int) old) ∧ h.IsTupleIter it a i ∧ e ≠ it) where
  mem := by simp
  obj := fun i h st b hb => by
    obtain ⟨⟨old, he⟩, ⟨o, ho, hc, hd⟩, _⟩ := st
    rcases (show b = e ∨ b = it by simpa using hb) with z | z
    · rw [z]; exact ⟨_, he, fun v q => nomatch q⟩
    · rw [z]; exact ⟨o, ho, fun v q => by rw [hd] at q; cases q⟩
  keep := fun i h h' st k => let ⟨⟨old, he⟩, hi, hne⟩ := st; ⟨⟨old, k e (by simp) _ he⟩, hi.at fun o q => k it (by simp) o q, hne⟩
  item := by
    intro X hP hw hK hc i pins s σ H E I hf st hg
    subst hP hw hK
    obtain ⟨⟨old, he⟩, hit, hne⟩ := st
    obtain ⟨xs, x, hq, hx⟩ := hg
    obtain ⟨its, rv, p, hz⟩ := I.tuple hq
    obtain ⟨u, hu, ru⟩ := rv.get hx
    have hel : e < s.heap.objs.size := Heap.lt_size he
    have hil : it < s.heap.objs.size := by obtain ⟨_, q, _⟩ := hit; exact Heap.lt_size q
    have hin : i < its.toArray.size := by simpa using (List.getElem?_eq_some_iff.mp hu).1
    have D := Draws.tuple (prog := X.prog) (w := X.w) (A := X.A.in1) (show X.A.in1.handled = none from I.ok.hd hc) it a hai its.toArray
    refine wpAny_pyNext_enum_itemD D he ⟨hit, p⟩ hin hne (by simp [hne, Ne.symm hae]) fun y h' tk hy ho hst hT hsz hk => ?_
    obtain rfl : u = y := Option.some.inj ((by simpa using hu : its.toArray[i]? = some u).symm.trans hy)
    refine ⟨_, rfl, wpAny_letOwnedTupleGo_enum (s := { s with heap := h', toks := tk + 1 }) ho fun h'' he' sb => ?_⟩
    have hT2 : h''.get? s.heap.objs.size = some { cls := .type "tuple", data := .seq #[.int i tk, u] } := (sb.2 _ (Nat.ne_of_gt hel)).trans hT
    have new : ObjOk X.prog X.w (upd H s.heap.objs.size (.tup [.int (i : Nat), x])) h'' s.heap.objs.size (.tup [.int (i : Nat), x]) :=
      ⟨by show 2 ≤ sizeLine; decide, [.int i tk, u], .cons ⟨_, rfl⟩ (.cons ru .nil), ⟨_, hT2, rfl, _, rfl⟩⟩
    have I1 : Inv X pins σ (upd H s.heap.objs.size (.tup [.int (i : Nat), x])) { s with heap := h'', toks := tk + 1 } :=
      I.turnedNew (ch := [e, it]) (fun b ob hb q => (sb.2 b (fun z => hb (by simp [z]))).trans (hk b ob (fun z => hb (by simp [z])) (fun z => hb (by simp [z])) q)) hf (Nat.le_refl _) new
    refine ⟨.ref s.heap.objs.size, _, I1, rfl, ⟨_, x, rfl, I.hok.fresh (Nat.le_refl _), rfl, fun ys hy => by rw [I.tuple_inj hy hq]; exact hx⟩, ⟨⟨u, ?_⟩, hst.1.at fun o q => (sb.2 it (Ne.symm hne)).trans q, hne⟩, fun b hb => ?_⟩
    · rw [show ((i + 1 : Nat) : Int) = (i : Int) + 1 by omega]; exact he'
    · have hb' : b < s.heap.objs.size := by
        rcases (show b = e ∨ b = it by simpa using hb) with z | z
        · rw [z]; exact hel
        · rw [z]; exact hil
      rw [upd_ne (Nat.ne_of_lt hb')]
      exact (hf b hb).1
  done := by
    intro X hP hw hK hc i pins s σ H E I hf st hg
    subst hP hw hK
    obtain ⟨⟨old, he⟩, hit, hne⟩ := st
    obtain ⟨xs, hq, hx⟩ := hg
    obtain ⟨its, rv, p, hz⟩ := I.tuple hq
    obtain ⟨f0, f1, f2, f3, f4, f5⟩ := hf it (by simp)
    have hl := rv.length
    have hT : s.TypeIs (.ref e) "enumerate" := ⟨_, he, rfl⟩
    unfold pyNext
    refine wpAny_bind (wpAny_attempt (wpAny_callSpecial?_slot (name := Str.ofString "__next__") hT F.slot_enumerate_next
      (wpAny_call_entry F.slot_enumerate_next hT F.entry_enumerate_next ?_ (F.args_enumerate_next_1 _))))
    show wpAny _ _ (field (.ref e) 2 >>= _) _ _ _
    refine wpAny_bind (wpAny_field he rfl (x := .ref it) rfl ?_)
    refine wpAny_bind (wpAny_nextOf_tuple_end (I.ok.hd hc) hit p (by simp; omega) fun h' y eb hy => ?_)
    obtain ⟨o, ho, hc'⟩ := hy
    refine wpAny_bind (wpAny_isInstance (T := "StopIteration") (b := true) ⟨o, ho, hc'⟩ isSubtype_stop ?_)
    exact wpAny_pure ⟨rfl, I.turned (t' := s.toks) (fun b o hb q => eb b o hb q) f0 f1 f3 f4 f5⟩
  self := fun A i s Q E st h => let ⟨⟨_, he⟩, _⟩ := st; wpAny_pyIter_enum he h
def iEnumT (K : PySem.W.Frag) (ta : TA) : TI := fun σ H R => ta σ H fun vs H1 => ∃ a xs, vs = [.ref a] ∧ SqT K H1 a xs ∧ R (IteT K a) H1
theorem pi_enumT {X : Cx} {e : Expr} {ta : TA} {p pos tpos : Pos} {elts : List Expr} {kk : Nat} (hg : Gl X "enumerate") (hm : X.mg "enumerate" = none) (ha : PA X [e] ta) (hs : starEach [e] X.env = [(false, eval e X.env)] := by rfl) :
    PI X (.Tuple elts kk tpos) (.Call (.Name "enumerate" p) [e] [] pos) (iEnumT X.K ta) := by
  refine ⟨fun pins s σ H R I h => ?_⟩
  refine Call_ (ld_blt I hg hm boot_enumerate (PyProof.Rows.callWith_type1 (thn (ha.run pos pins s σ H _ I h) fun us s1 ⟨vs, H1, I1, r1, q1⟩ => ?_) hs rfl))
  obtain ⟨a, xs, ex, hq, q⟩ := q1
  subst ex
  cases r1 with
  | cons r rr =>
    cases rr
    cases r
    obtain ⟨its, rv, p', hz⟩ := I1.tuple hq
    have hal : a < s1.heap.objs.size := p'.lt
    refine begins1 (begins_tuple a its.toArray) p' fun h' he hit hsz hk => wpAny_pyIter_enum he ?_
    have I2 : Inv X pins σ H1 { s1 with heap := h' } := I1.kept (t' := s1.toks) hk
    refine ⟨s1.heap.objs.size + 1, [s1.heap.objs.size + 1, s1.heap.objs.size], _, _, H1, rfl, I2, turnT a (s1.heap.objs.size + 1) s1.heap.objs.size (Nat.ne_of_lt hal) (Nat.ne_of_lt (Nat.lt_succ_of_lt hal)), ⟨⟨.none, he⟩, ⟨_, hit, rfl, rfl⟩, Nat.succ_ne_self _⟩, fun b hb => ?_, q⟩
    have hle : s1.heap.objs.size ≤ b := by
      rcases (show b = s1.heap.objs.size + 1 ∨ b = s1.heap.objs.size by simpa using hb) with z | z
      · rw [z]; exact Nat.le_add_right _ _
      · rw [z]; exact Nat.le_refl _
    exact I1.fpOk hle (I1.hok.fresh hle)
end EnT
namespace DX
open PySem PySem.Spec L2
variable {X : Cx} {J : Gh} {M : Mem} {F : Hp} {K : PySem.W.Frag} {ρ : DEnv} {a : Expr} {p pos : Pos}
/-! ### a if t else b as a test -/
def tIfT (t ta tb : TT) : TT := fun σ H Q => t σ H fun c H1 => if c = true then ta σ H1 Q else tb σ H1 Q
theorem pt_ifExp {b c : Expr} {t ta tb : TT} (hc : PT X c t) (ha : PT X a ta) (hb : PT X b tb) : PT X (.IfExp c a b pos) (tIfT t ta tb) := by
  refine ⟨fun pins s σ H Q I h => ?_⟩
  refine PyProof.Rows.isTrue_IfExp (thn (hc.run pins s σ H _ I h) fun d s1 ⟨H1, I1, q1⟩ => ?_)
  cases d with
  | true => exact ha.run pins s1 σ H1 Q I1 q1
  | false => exact hb.run pins s1 σ H1 Q I1 q1
theorem tx_if {b c : Expr} {PB : Bool → Mem → Prop} (h : TX X J c ρ M fun t M1 => (t = true → TX X J a ρ M1 PB) ∧ (t = false → TX X J b ρ M1 PB)) : TX X J (.IfExp c a b pos) ρ M PB :=
  tx_of (pt_ifExp pt_any pt_any pt_any) fun F σ H Q st k => h.go st fun t M1 F1 H1 p e1 o1 => by
    cases t with
    | true => exact iteT ((p.1 rfl).go (st.to e1 o1) (k.to e1))
    | false => exact iteF ((p.2 rfl).go (st.to e1 o1) (k.to e1))
theorem wk_enumT {q : Addr} {xs : List V} {ds : List D} (h : SqT K F q xs) (hx : Rps K F xs ds) : Wk K F (EnT.IteT K q) (enumD 0 ds) := by
  refine ⟨fun i H hi s => ?_, fun H s => ⟨xs, same_t s h, by rw [enumD_len, hx.length]; exact Nat.le_refl _⟩, fun i d H x H' F1 M hd s o y => ?_⟩
  · rw [enumD_len] at hi
    have h1 : i < xs.length := by rw [hx.length]; omega
    exact ⟨xs, xs[i], same_t s h, by simp [h1]⟩
  · obtain ⟨T, v1, rfl, h2, rfl, h4⟩ := y
    obtain ⟨d1, g1, rfl⟩ := enumD_at hd
    obtain ⟨w1, k1, k2⟩ := hx.get g1
    have e1 := h4 xs (same_t o.ex (same_t s h))
    rw [k1] at e1; cases e1
    rw [Nat.zero_add]
    exact pair_new (x := d1) (y := d1) o h2 (.int _) (k2.mono s)
theorem ix_enumT {elts : List Expr} {kk : Nat} {tpos : Pos} {P : List D → Mem → Prop} (hm : X.mg "enumerate" = none) (h : AX X J [a] ρ M fun ws M1 => ∃ ds, ws = [.tup ds] ∧ P (enumD 0 ds) M1) (hg : Gl X "enumerate" := by rfl)
    (hs : starEach [a] X.env = [(false, eval a X.env)] := by rfl) : IX X J (.Tuple elts kk tpos) (.Call (.Name "enumerate" p) [a] [] pos) ρ M P :=
  ix_of (EnT.pi_enumT hg hm pa_any hs) fun F σ H R s k => h.go s fun ws vs M1 F1 H1 q e1 o1 r1 => by
    obtain ⟨ds, rfl, q⟩ := q
    cases r1 with
    | cons h1 r1 =>
      cases r1
      cases h1 with
      | tup h1 k1 => exact ⟨_, _, rfl, same_t o1.ex h1, k _ _ M1 F1 H1 q e1 o1 (wk_enumT h1 k1)⟩
/-! ### tuple(text) -/
open PyProof.Rows in
theorem call_tuple_text (hc : X.calm = true) : CallR X (.type "tuple") (fun xs H Q => ∃ z : Str, xs = [.str z] ∧ z.length ≤ 1000000 ∧ ∀ l, H l = none → Q (.ref l) (upd H l (.tup (z.cps.toList.map fun c => V.str ⟨#[c]⟩)))) := by
  intro pins s σ H xs us Q I r h
  obtain ⟨z, rfl, hz, q⟩ := h
  obtain ⟨u, rfl, rx⟩ := vals1 r
  obtain ⟨t, rfl⟩ := rx
  have hz2 : z.cps.size ≤ 1000000 := hz
  refine call_tuple_str (I.ok.hd hc) z t (fun h' tk acc kp hi => ?_) (hsz := by rw [sizeLine_eq]; omega)
  have I1 : Inv X pins σ H { s with heap := h', toks := tk } := I.kept (t' := tk) kp
  have e1 : acc.toList.length = z.cps.toList.length := by rw [Array.length_toList, Array.length_toList]; exact hi.1
  have hv : Vals (z.cps.toList.map fun c => V.str ⟨#[c]⟩) acc.toList := by
    have e2 : (z.cps.toList.map fun c => V.str ⟨#[c]⟩) = (List.range acc.toList.length).map fun j => V.str ⟨#[z.cps.toList.getD j 0]⟩ := by
      rw [e1]
      apply List.ext_getElem
      · simp
      · intro j h1 h2
        rw [List.length_map] at h1
        rw [List.getElem_map, List.getElem_map, List.getElem_range, List.getD_eq_getElem?_getD, List.getElem?_eq_getElem h1]; rfl
    rw [e2]
    refine vals_of_get _ _ fun j w hj => ?_
    obtain ⟨c, u, h1, h2⟩ := hi.2 j w (by rw [← hj, Array.getElem?_toList])
    have : z.cps.toList[j]? = some c := by rw [Array.getElem?_toList]; exact h1
    rw [List.getD_eq_getElem?_getD, this]
    exact ⟨u, h2⟩
  have I2 : Inv X pins σ (upd H h'.objs.size (.tup (z.cps.toList.map fun c => V.str ⟨#[c]⟩))) { s with heap := h'.push { cls := .type "tuple", data := .seq acc }, toks := tk } :=
    I1.laid (t' := tk) (fun b o e => Heap.get?_push_of_some _ e) (Nat.le_refl _) (show ObjOk X.prog X.w _ _ _ (.tup (z.cps.toList.map fun c => V.str ⟨#[c]⟩)) from ⟨by rw [List.length_map, Array.length_toList, sizeLine_eq]; omega, acc.toList, hv, IsTup.new _ _⟩)
  exact ⟨.ref h'.objs.size, _, I2, rfl, q _ (I1.hok.fresh (Nat.le_refl _))⟩
theorem cd_tupleS {P : D → Mem → Prop} {z : Str} (hc : X.calm = true) (hz : z.cps.toList.length ≤ 1000000) (q : P (.tup (signs z)) M) : CD X (.type "tuple") [.str z] M P :=
  ⟨_, call_tuple_text hc, fun F H vs Q o r k => by
    cases r with
    | cons h1 r =>
      cases r
      cases h1
      refine ⟨z, rfl, ?_, fun l hl => ?_⟩
      · show z.cps.size ≤ _
        rw [← Array.length_toList]; exact hz
      · refine k _ _ _ _ _ q (o.fixSame hl) (o.fix hl) (.tup (SqT.of upd_same) ?_)
        have e : (z.cps.toList.map fun c => V.str ⟨#[c]⟩) = (z.cps.toList.map fun c => (⟨#[c]⟩ : Str)).map V.str := by rw [List.map_map]; rfl
        have e2 : signs z = (z.cps.toList.map fun c => (⟨#[c]⟩ : Str)).map D.str := by unfold signs; rw [List.map_map]; rfl
        rw [e, e2]
        exact Rps.ofStrs⟩
theorem od_isB {P : D → Mem → Prop} {x y : Bool} (p : P (.bl (decide (x = y))) M) : OD X (compareOp .Is) (.bl x) (.bl y) M P :=
  ⟨_, op_is_bl, fun F H v u Q o rx ry k => by
    cases rx; cases ry
    exact ⟨x, y, rfl, rfl, k.here p o (.bl _)⟩⟩
end DX
namespace DX
open PySem PySem.Spec L2
/-! ### isinstance with an own class -/
/-- what a look at the module tells of the class C -/
def isiB (K : PySem.W.Frag) (C : Str) : Bool :=
  He.eqO (PySem.W.findIn K (.ref (He.ga K C)) "__class__") (some (some (.builtin "object.__class__"))) && (He.eqO (PySem.W.specialIn K (.builtin "object.__class__") "__get__") (some (some (.builtin "getset_descriptor.__get__"))) &&
    (decide (PySem.W.takesIn K (.builtin "object.__class__") = some true) && (decide (PySem.W.mroIn K (He.ga K C) (.type "object") = some true) &&
      (["NoneType", "bool", "int", "str", "tuple", "list", "dict"].all fun n => decide (PySem.W.kitOne K (.type n) (.ref (He.ga K C)) = some false)))))
structure IsiC (K : PySem.W.Frag) (C : Addr) : Prop where
  ha : PySem.W.findIn K (.ref C) "__class__" = some (some (.builtin "object.__class__"))
  hn : PySem.W.specialIn K (.builtin "object.__class__") "__get__" = some (some (.builtin "getset_descriptor.__get__"))
  htk : PySem.W.takesIn K (.builtin "object.__class__") = some true
  hm : PySem.W.mroIn K C (.type "object") = some true
  no : ∀ n ∈ ["NoneType", "bool", "int", "str", "tuple", "list", "dict"], PySem.W.kitOne K (.type n) (.ref C) = some false
theorem isiB_ok {K : PySem.W.Frag} {C : Str} (h : isiB K C = true) : IsiC K (He.ga K C) := by
  obtain ⟨h1, h⟩ := He.ba h
  obtain ⟨h2, h⟩ := He.ba h
  obtain ⟨h3, h⟩ := He.ba h
  obtain ⟨h4, h5⟩ := He.ba h
  exact ⟨He.eqO_ok h1, He.eqO_ok h2, of_decide_eq_true h3, of_decide_eq_true h4, fun n hn => of_decide_eq_true (List.all_eq_true.mp h5 n hn)⟩
section
variable {X : Cx} {J : Gh} {M : Mem} {P : D → Mem → Prop} {ρ : DEnv} {pos : Pos} {x : Str}
/-- the class's name -/
theorem ex_gcls {C : Addr} (hm : X.mg x = some (.ref C)) (p : P (.adr C) M) (hg : Gl X x := by rfl) (hdb : (x == ("__debug__" : Str)) = false := by decide) : EX X J (.Name x pos) ρ M P :=
  ex_glob (v := .ref C) hg hm rfl (fun F => .adr C) p hdb
/-- an instance is one -/
theorem cd_isiO {d : D} {C : Addr} {gs : List (Str × D)} (c : Cls X.K C) (ic : IsiC X.K C) (hi : Is M d C gs) (q : P (.bl true) M) : CD X (.builtin "isinstance") [d, .adr C] M P :=
  ⟨_, call_isi, fun F H vs Q o r k => by
    cases r with
    | cons h1 r =>
      cases r with
      | cons h2 r =>
        cases r
        cases h2
        obtain ⟨a, dx, fs, rfl, e, _⟩ := hi.get o h1
        refine ⟨_, _, .ref C, .ref C, true, rfl, .own C, .base (.ins e c ic.ha ic.hn ic.htk ic.hm), ?_, k.here q o (.bl _)⟩
        unfold PySem.W.kitOne
        rw [if_pos (by simp)]⟩
/-- plain data are none -/
theorem cd_isiN {d : D} {C : Addr} (ic : IsiC X.K C) (h : plain d = true) (q : P (.bl false) M) : CD X (.builtin "isinstance") [d, .adr C] M P :=
  ⟨_, call_isi, fun F H vs Q o r k => by
    cases r with
    | cons h1 r =>
      cases r with
      | cons h2 r =>
        cases r
        cases h2
        exact ⟨_, _, _, .ref C, false, rfl, .own C, ty_of h o.ex h1, ic.no _ (kn_mem d), k.here q o (.bl _)⟩⟩
end
end DX
/-! t[::-1] of a tuple: a new tuple whose object is known; t.index(i) of such -/
namespace RevT
open PySem PySem.Spec L2 PyProof.Rows HT
theorem fm_congr {α β : Type} {f g : α → Option β} : ∀ {l : List α}, (∀ a ∈ l, f a = g a) → l.filterMap f = l.filterMap g
  | [], _ => rfl
  | a :: l, h => by rw [List.filterMap_cons, List.filterMap_cons, h a List.mem_cons_self, fm_congr (fun b hb => h b (List.mem_cons_of_mem _ hb))]
theorem rev_pick (xs : Array Value) : ((List.range xs.size).filterMap fun (k : Nat) => xs[(((xs.size : Int) - 1) + (k : Int) * (-1)).toNat]?) = xs.toList.reverse := by
  have e : ((List.range xs.size).filterMap fun (k : Nat) => xs[(((xs.size : Int) - 1) + (k : Int) * (-1)).toNat]?) = ((List.range xs.size).map fun k => xs.size - 1 - k).filterMap (xs[·]?) := by
    rw [List.filterMap_map]
    refine fm_congr fun k hk => ?_
    have := List.mem_range.mp hk
    have e3 : (((xs.size : Int) - 1) + (k : Int) * (-1)).toNat = xs.size - 1 - k := by omega
    show xs[(((xs.size : Int) - 1) + (k : Int) * (-1)).toNat]? = xs[xs.size - 1 - k]?
    rw [e3]
  have e2 : ((List.range xs.size).map fun k => xs.size - 1 - k) = (List.range xs.size).reverse := by
    apply List.ext_getElem
    · simp
    · intro i h1 h2
      simp at h1 h2 ⊢
  rw [e, e2, List.filterMap_reverse, PySem.W.krv_all]
section
variable {prog : Program} {w : World} {A : Around} {E : Value → Shared → Prop} {s : Shared}
theorem getItem_rev {t sl : Addr} {items : Array Value} {vs : Value} {Q : Value → Shared → Prop} (ht : IsTup s.heap t items) (hs : s.heap.IsSliceOf sl .none .none vs) (ps : IsPart vs (some (-1)))
    (h : Q (.ref s.heap.objs.size) { s with heap := s.heap.push { cls := .type "tuple", data := .seq items.toList.reverse.toArray } }) (hsz : items.size ≤ sizeLine) : wpAny (model prog w) A (getItem (.ref t) (.ref sl)) Q E s := by
  have hok : sizeOk (.seq items.toList.reverse.toArray) := by
    show items.toList.reverse.toArray.size ≤ sizeLine
    rw [List.size_toArray, List.length_reverse, Array.length_toList]
    exact hsz
  obtain ⟨os, hos, hcs, hds⟩ := id hs
  have hTs : s.TypeIs (.ref sl) "slice" := ⟨os, hos, hcs⟩
  unfold getItem
  try with_reducible refine wpAny_holding ?_
  first | refine wpAny_bind (wpAny_pure ?_) | skip
  refine wpAny_bind (wpAny_sequenceKey ht.typeIs (by decide) ?_)
  refine wpAny_bind (wpAny_callSpecial?_slot (name := Str.ofString "__getitem__") ht.typeIs PyProof.Rows.slot_tuple_getitem
    (wpAny_call_entry PyProof.Rows.slot_tuple_getitem ht.typeIs entry_tuple_getitem ?_ (args_tuple_getitem _ _)))
  show wpAny _ _ (Builtin.Tuple.tupleItemsOf (.ref t) >>= _) _ _ s
  refine wpAny_bind (tupleItemsOf_ ht ?_)
  refine wpAny_bind (wpAny_typeOf hTs ?_)
  rw [if_pos (by decide)]
  refine wpAny_bind ?_
  · unfold Builtin.Slice.sliceApplied Builtin.Slice.sliceFields
    refine wpAny_bind (wpAny_bind (wpAny_field hos hds (x := .none) rfl (wpAny_bind (wpAny_field hos hds (x := .none) rfl (wpAny_bind (wpAny_field hos hds (x := vs) rfl (wpAny_pure ?_)))))))
    refine wpAny_bind (slicePart_ ps ?_)
    show wpAny _ _ (if ((-1 : Int) == 0) = true then _ else _) _ _ s
    rw [if_neg (by decide)]
    refine wpAny_bind (slicePart_none (wpAny_bind (slicePart_none (wpAny_bind (wpAny_pure ?_)))))
    show wpAny _ _ (pure ((items.size : Int) - 1, (-1 : Int), Builtin.Slice.slicePlaces ((items.size : Int) - 1) (-1) (-1))) _ _ s
    have e : Builtin.Slice.slicePlaces ((items.size : Int) - 1) (-1) (-1) = items.size := by
      unfold Builtin.Slice.slicePlaces
      rw [if_neg (by decide), show (-(-1) : Int) = 1 from rfl, Int.ediv_one]
      split <;> omega
    rw [e]
    refine wpAny_pure ?_
    have hno : ¬ ((((items.size : Int) - 1) == 0 && (-1 : Int) == 1 && items.size == items.size) = true) := by simp
    show wpAny _ _ (if (((items.size : Int) - 1) == 0 && (-1 : Int) == 1 && items.size == items.size) = true then _ else _) _ _ s
    rw [if_neg hno, rev_pick]
    first
      | exact wpAny_bind (m := Builtin.Tuple.tupleExact _) (wpAny_newObj_type (wpAny_pure ⟨_, rfl, wpAny_pure h⟩) hok)
      | exact wpAny_bind (m := Builtin.Tuple.tupleExact _) (wpAny_newObj_type (wpAny_bind (wpAny_pure (wpAny_pure ⟨_, rfl, wpAny_pure h⟩))) hok)
      | exact wpAny_bind (wpAny_bind (m := Builtin.Tuple.tupleExact _) (wpAny_newObj_type (wpAny_pure (wpAny_pure ⟨_, rfl, wpAny_pure h⟩)) hok))
      | exact wpAny_bind (wpAny_bind (m := Builtin.Tuple.tupleExact _) (wpAny_newObj_type (wpAny_pure ⟨_, rfl, wpAny_pure h⟩) hok))
end
end RevT
namespace RevT
open PySem PySem.Spec L2 PyProof.Rows HT
def tRevT (K : PySem.W.Frag) (te : TE) : TE := fun σ H Q => te σ H fun x H1 => ∃ a xs, x = .ref a ∧ SqT K H1 a xs ∧ ∀ p (ob : Obj), H1 p = none → (ob.cls = .type "tuple" ∧ ob.dict = none) → Q (.ref p) (upd H1 p (.frz ob (.tup xs.reverse)))
theorem pe_revT {X : Cx} {e : Expr} {te : TE} {k : Nat} {p1 p2 p3 pos : Pos} (he : PE X e te) : PE X (.Subscript e (.Slice none none (some (.UnaryOp .USub (.Constant (.int 1) k p1) p2)) p3) pos) (tRevT X.K te) := by
  refine ⟨fun pins s σ H Q I h => ?_⟩
  refine Subscript_ (thn (he.run pins s σ H _ I h) fun v s1 ⟨x, H1, I1, r1, q1⟩ => ?_)
  obtain ⟨a, xs, ex, hx, q⟩ := q1
  subst ex
  cases r1
  have hst : PO X (some (.UnaryOp .USub (.Constant (.int 1) k p1) p2)) (tPart (tUn (rU fun i => .int (-i)) (tC (.int 1)))) := po_some (pe_un un_neg pe_int)
  refine wpAny_Slice (thn (po_none.run pins s1 σ H1 (fun o H2 => o = none ∧ H2 = H1) I1 ⟨rfl, rfl⟩) fun vl s2 ⟨l, H2, I2, pl, el, e2⟩ => ?_)
  subst el e2
  refine thn (po_none.run pins s2 σ H2 (fun o H3 => o = none ∧ H3 = H2) I2 ⟨rfl, rfl⟩) fun vu s3 ⟨u, H3, I3, pu, eu, e3⟩ => ?_
  subst eu e3
  refine thn (hst.run pins s3 σ H3 (fun o H4 => o = some (-1) ∧ H4 = H3) I3 ⟨1, rfl, -1, rfl, rfl, rfl⟩) fun vs s4 ⟨o, H4, I4, ps, eo, e4⟩ => ?_
  subst eo e4
  cases pl
  cases pu
  have I5 : Inv X pins σ H4 { s4 with heap := s4.heap.push { cls := .type "slice", data := .fields #[.none, .none, vs] } } := I4.kept (t' := s4.toks) fun b ob q => Heap.get?_push_of_some _ q
  obtain ⟨its, r, ht, hz⟩ := I5.tuple hx
  have hlen := r.length
  show wpAny (model X.prog X.w) X.A (subscriptTail e (.Slice none none (some (.UnaryOp .USub (.Constant (.int 1) k p1) p2)) p3) (.ref a) (.ref s4.heap.objs.size)) (EP X pins σ Q) X.xe { s4 with heap := s4.heap.push { cls := .type "slice", data := .fields #[.none, .none, vs] } }
  refine tail_any (ops := [.ref a, .ref s4.heap.objs.size]) ht.typeIs (PyProof.Rows.slot_tuple_getitem.lookup) ?_ (by with_unfolding_all rfl)
  refine getItem_rev ht (Heap.IsSliceOf.new _ .none .none vs) ps ?_ (by rw [List.size_toArray]; omega)
  have e1 : its.toArray.toList.reverse.toArray = its.reverse.toArray := by simp
  rw [e1]
  refine ⟨.ref _, _, I5.laid (t' := s4.toks) (o := .frz { cls := .type "tuple", data := .seq its.reverse.toArray } (.tup xs.reverse)) (fun b ob q => Heap.get?_push_of_some _ q) (Nat.le_refl _) ?_, rfl, q _ _ (I5.hok.fresh (Nat.le_refl _)) ⟨rfl, rfl⟩⟩
  exact ⟨Heap.get?_push_size _ rfl, by rw [List.length_reverse]; exact hz, its.reverse, r.reverse, IsTup.new _ _⟩
/-- o.m(e, ..) of an object that is known -/
def tBMK (T : String) (r : V → List V → Hp → VK → Prop) (to : TE) (t : TA) : TE := fun σ H Q => to σ H fun x H1 => (∃ p ob u, x = .ref p ∧ H1 p = some (.frz ob u) ∧ ob.cls = .type T ∧ ob.dict = none) ∧ t σ H1 fun xs H2 => r x xs H2 Q
theorem pe_bmK {X : Cx} {o e : Expr} {es : List Expr} {to : TE} {t : TA} {name : Str} {apos cpos : Pos} {T id : String} {r : V → List V → Hp → VK → Prop}
    (pa : PlainAttrs T) (slot : Slot T name id) (hty : typeOf (.builtin id) = pure (.type "method_descriptor")) (hm : MtR X id r) (ho : PE X o to) (ha : PA X (e :: es) t)
    (hbase : attributeBase o name X.env (eval o X.env) = eval o X.env := by rfl)
    (hfew : ((backTo cpos (starEach (e :: es) X.env)).all (fun x => !x.1) && (backToKw cpos (keywordEach [] X.env)).all (fun x => x.1.isSome)
      && decide ((e :: es).length + ([] : List Keyword).length + (if ([] : List Keyword).isEmpty then 0 else 1) < 30)) = true := by rfl)
    (hline : (apos.endLine == cpos.line) = true := by rfl) (hs : starEach (e :: es) X.env = (false, eval e X.env) :: starEach es X.env := by rfl) (hplain : (backTo cpos (starEach es X.env)).any (·.1) = false := by rfl) :
    PE X (.Call (.Attribute o name apos) (e :: es) [] cpos) (tBMK T r to t) := by
  refine ⟨fun pins s σ H Q I h => ?_⟩
  refine wpAny_Call_method_late hbase hfew hline rfl (thn (ho.run pins s σ H _ I h) fun v s1 ⟨x, H1, I1, r1, ty, q1⟩ => ?_)
  obtain ⟨p, ob, u, rfl, hp, hc, hd⟩ := ty
  obtain rfl : v = Value.ref p := r1
  have hob := (I1.hok p _ hp).1
  refine ⟨T, id, pa, slot, hty, ⟨ob, hob, hc⟩, fun a ea => by cases ea; exact ⟨ob, hob, hd⟩, ?_⟩
  have hA := ha.run cpos pins s1 σ H1 _ I1 q1
  rw [hs] at hA ⊢
  refine Calls.callWith_builtin (by show (false || (backTo cpos (starEach es X.env)).any (·.1)) = false; rw [hplain] <;> rfl) (Calls.evalArgs_plain ?_)
  exact thn hA fun us s2 ⟨vs, H2, I2, r2, q2⟩ => hm pins s2 σ H2 (V.ref p) vs (Value.ref p) us Q I2 (show L2.RelV (V.ref p) (Value.ref p) from rfl) r2 q2
/-- t.index(i), the first place -/
theorem mt_tupIdxI {X : Cx} : MtR X "tuple.index" (fun x xs H Q => ∃ p, ∃ ns : List Int, ∃ i, x = .ref p ∧ xs = [.int i] ∧ SqT X.K H p (ns.map V.int) ∧ i ∈ ns ∧ Q (.int (ns.idxOf i : Nat)) H) := by
  intro pins s σ H x xs v us Q I rx rs h
  obtain ⟨p, ns, i, rfl, rfl, hq, hi, q⟩ := h
  cases rx
  obtain ⟨u, rfl, t, rfl⟩ := vals1 rs
  obtain ⟨its, r, pl, hz⟩ := I.tuple hq
  exact SeqAt.tuple_index_ints pl (intsAre_of r) hi ⟨.int _, H, I.tok _, ⟨_, rfl⟩, q⟩
end RevT
namespace DX
open PySem PySem.Spec L2
section
variable {X : Cx} {J : Gh} {M : Mem} {P : D → Mem → Prop} {ρ : DEnv} {o e : Expr} {pos apos cpos : Pos} {F H : Hp} {K : PySem.W.Frag}
theorem rps_rev : ∀ {xs : List V} {ds : List D}, Rps K F xs ds → Rps K F xs.reverse ds.reverse
  | _, _, .nil => .nil
  | _, _, .cons h r => by
    rw [List.reverse_cons, List.reverse_cons]
    exact Rps.append (rps_rev r) (.cons h .nil)
theorem ex_revT {k : Nat} {p1 p2 p3 : Pos} (h : EX X J e ρ M fun d M1 => ∃ ds, d = .tup ds ∧ P (.stup ds.reverse) M1) : EX X J (.Subscript e (.Slice none none (some (.UnaryOp .USub (.Constant (.int 1) k p1) p2)) p3) pos) ρ M P :=
  ex_of (RevT.pe_revT pe_any) fun F σ H Q st k => h.go st fun d v M1 F1 H1 q e1 o1 r1 => by
    obtain ⟨ds, rfl, q⟩ := q
    cases r1 with
    | tup h2 r2 => exact ⟨_, _, rfl, same_t o1.ex h2, fun l ob hl hc => k _ _ _ _ _ q (e1.trans (o1.fixSame hl)) (o1.fix hl) (.stup upd_same hc (Rps.mono (o1.fixSame hl) (rps_rev r2)))⟩
/-- a tuple whose object is known is a tuple -/
theorem Rp.unst {v : V} {ds : List D} (r : Rp K F v (.stup ds)) : Rp K F v (.tup ds) := by
  cases r with
  | stup h c r => exact .tup (.inl (.inr ⟨_, h⟩)) r
theorem ex_unst (h : EX X J e ρ M fun d M1 => ∃ ds, d = .stup ds ∧ P (.tup ds) M1) : EX X J e ρ M P :=
  ex_of h fun F σ H Q st k => ⟨F, st, fun d v M' F' H' q e1 o r => by
    obtain ⟨ds, rfl, q⟩ := q
    exact k _ _ _ _ _ q e1 o r.unst⟩
/-- t.index(i), t's object known -/
theorem ex_tindex (h : EX X J o ρ M fun d M1 => ∃ ns : List Int, d = .stup (ns.map D.int) ∧ AX X J [e] ρ M1 fun ys M2 => ∃ i, ys = [.int i] ∧ i ∈ ns ∧ P (.int ((ns.idxOf i : Nat) : Int)) M2)
    (hbase : attributeBase o "index" X.env (eval o X.env) = eval o X.env := by rfl)
    (few : ((backTo cpos (starEach [e] X.env)).all (fun x => !x.1) && (backToKw cpos (keywordEach [] X.env)).all (fun x => x.1.isSome) && decide ([e].length + ([] : List Keyword).length + (if ([] : List Keyword).isEmpty then 0 else 1) < 30)) = true := by rfl)
    (line : (apos.endLine == cpos.line) = true := by rfl) (hst : starEach [e] X.env = (false, eval e X.env) :: starEach [] X.env := by rfl) (hpl : (backTo cpos (starEach [] X.env)).any (·.1) = false := by rfl) :
    EX X J (.Call (.Attribute o "index" apos) [e] [] cpos) ρ M P :=
  ex_of (RevT.pe_bmK PySem.F.plainAttrs_tuple PySem.F.slot_tuple_index PySem.F.type_tuple_index RevT.mt_tupIdxI pe_any pa_any hbase few line hst hpl) fun F σ H Q st k => h.go st fun d v M1 F1 H1 q1 e1 o1 r1 => by
    obtain ⟨ns, rfl, q2⟩ := q1
    cases r1 with
    | stup h1 hc rs =>
      refine ⟨⟨_, _, _, rfl, o1.ex _ _ h1, hc.1, hc.2⟩, q2.go (st.to e1 o1) fun ys vs M2 F2 H2 q3 e2 o2 r2 => ?_⟩
      obtain ⟨i, rfl, hi, q3⟩ := q3
      cases r2 with
      | cons r2 r3 =>
        cases r3
        cases r2
        obtain rfl := rs.ints
        exact ⟨_, ns, i, rfl, rfl, .inl (.inr ⟨_, o2.ex _ _ (e2 _ _ h1)⟩), hi, k _ _ _ _ _ q3 (e1.trans e2) o2 (.int _)⟩
theorem En.unst : ∀ {σ : St} {ρ : DEnv} {i : Nat} {ds : List D}, En K F σ ρ → DX.look ρ i = some (.stup ds) → En K F σ (DX.put ρ i (.tup ds))
  | _, _, i, _, .nil, e => by simp [DX.look] at e
  | _, _, 0, ds, .cons h r, e => .cons (fun x q => by
    obtain ⟨y, a, b⟩ := h (.stup ds) e
    cases q
    exact ⟨y, a, b.unst⟩) r
  | _, _, i + 1, ds, .cons h r, e => .cons h (En.unst r e)
theorem gx_unst {sts : List Stmt} {B : Bd} (i : Nat) {ds : List D} (hi : DX.look ρ i = some (.stup ds)) (h : GX X J sts (DX.put ρ i (.tup ds)) M B) : GX X J sts ρ M B :=
  ⟨fun pins s σ H E I ⟨F, st, k⟩ => h.run pins s σ H E I ⟨F, ⟨st.en.unst hi, st.ok, st.gh⟩, k⟩⟩
/-- t[l:u], also where it is the whole of t -/
theorem sd_tupA {ds : List D} {l u : Option Int} (p : P (.tup (cutD ds l u)) M) : SD X (.tup ds) l u M P :=
  ⟨_, sl_tupA, fun F H v Q o rx k => by
    cases rx with
    | tup h1 r1 =>
      refine ⟨_, _, rfl, same_t o.ex h1, fun hw => ?_, fun hw q hq => k _ _ _ _ _ p (o.fixSame hq) (o.fix hq) (.tup (.inl (.inl upd_same)) ((cut_of r1 l u).mono (o.fixSame hq)))⟩
      rw [r1.length] at hw
      have e : cutD ds l u = ds := by
        unfold cutD
        rw [hw.1, hw.2, Nat.sub_zero, List.drop_zero, List.take_length]
      rw [e] at p
      exact k.here p o (.tup h1 r1)⟩
end
end DX
/-! x.extend(l); l.index(text); range with a step above 0 -/
namespace DX
open PySem PySem.Spec L2
section
variable {X : Cx} {J : Gh} {M : Mem} {P : D → Mem → Prop} {ρ : DEnv} {a b c o e : Expr} {p pos apos cpos : Pos} {K : PySem.W.Frag} {F : Hp}
/-- x.extend(l) -/
theorem ex_extend (h : EX X J o ρ M fun d M1 => ∃ q ds1, d = .adr q ∧ M1 q = some (.lst ds1) ∧ AX X J [e] ρ M1 fun ys M2 => ∃ y ds es f, ys = [y] ∧ Sl M2 y es ∧ At M2 q (.lst ds) f ∧ ds.length + es.length ≤ 1000000 ∧ P .non (f (.lst (ds ++ es))))
    (hbase : attributeBase o "extend" X.env (eval o X.env) = eval o X.env := by rfl)
    (few : ((backTo cpos (starEach [e] X.env)).all (fun x => !x.1) && (backToKw cpos (keywordEach [] X.env)).all (fun x => x.1.isSome) && decide ([e].length + ([] : List Keyword).length + (if ([] : List Keyword).isEmpty then 0 else 1) < 30)) = true := by rfl)
    (line : (apos.endLine == cpos.line) = true := by rfl) (hst : starEach [e] X.env = (false, eval e X.env) :: starEach [] X.env := by rfl) (hpl : (backTo cpos (starEach [] X.env)).any (·.1) = false := by rfl) :
    EX X J (.Call (.Attribute o "extend" apos) [e] [] cpos) ρ M P :=
  ex_of (pe_bm PySem.F.plainAttrs_list PySem.F.slot_list_extend PySem.F.type_list_extend mt_extend pe_any pa_any hbase few line hst hpl) fun F σ H Q st k => h.go st fun d v M1 F1 H1 q1 e1 o1 r1 => by
    obtain ⟨q, ds1, rfl, hq, q2⟩ := q1
    cases r1
    obtain ⟨_, xs1, hx1, _⟩ := o1.mt _ _ hq
    refine ⟨tyV_lst hx1, q2.go (st.to e1 o1) fun ys vs M2 F2 H2 q3 e2 o2 r2 => ?_⟩
    obtain ⟨y, ds, es, f, rfl, hs, hA, hz, q3⟩ := q3
    cases r2 with
    | cons r2 r3 =>
      cases r3
      obtain ⟨_, xs, hx, rx⟩ := o2.mt _ _ hA.get
      obtain ⟨b, zs, rfl, hb, rz⟩ := hs.get o2 r2
      refine ⟨q, b, xs, zs, rfl, rfl, hx, hb, by rw [rx.length, rz.length, sizeLine_eq]; omega, k _ _ _ _ _ q3 (e1.trans e2) ?_ .non⟩
      rw [hA.set]
      exact o2.set (o := .lst (xs ++ zs)) hA.get ⟨_, upd_same, rx.append rz⟩
/-- l.index(z) of a list of texts -/
theorem ex_lindexS (h : EX X J o ρ M fun d M1 => ∃ zs : List Str, d = .lst (zs.map D.str) ∧ AX X J [e] ρ M1 fun ys M2 => ∃ y, ys = [.str y] ∧ y ∈ zs ∧ P (.int ((zs.idxOf y : Nat) : Int)) M2)
    (hbase : attributeBase o "index" X.env (eval o X.env) = eval o X.env := by rfl)
    (few : ((backTo cpos (starEach [e] X.env)).all (fun x => !x.1) && (backToKw cpos (keywordEach [] X.env)).all (fun x => x.1.isSome) && decide ([e].length + ([] : List Keyword).length + (if ([] : List Keyword).isEmpty then 0 else 1) < 30)) = true := by rfl)
    (line : (apos.endLine == cpos.line) = true := by rfl) (hst : starEach [e] X.env = (false, eval e X.env) :: starEach [] X.env := by rfl) (hpl : (backTo cpos (starEach [] X.env)).any (·.1) = false := by rfl) :
    EX X J (.Call (.Attribute o "index" apos) [e] [] cpos) ρ M P :=
  ex_of (pe_bm PySem.F.plainAttrs_list PySem.F.slot_list_index PySem.F.type_list_index mt_index pe_any pa_any hbase few line hst hpl) fun F σ H Q st k => h.go st fun d v M1 F1 H1 q1 e1 o1 r1 => by
    obtain ⟨zs, rfl, q2⟩ := q1
    cases r1 with
    | lst h1 rs =>
      refine ⟨tyV_lst (o1.ex _ _ h1), q2.go (st.to e1 o1) fun ys vs M2 F2 H2 q3 e2 o2 r2 => ?_⟩
      obtain ⟨y, rfl, hy, q3⟩ := q3
      cases r2 with
      | cons r2 r3 =>
        cases r3
        cases r2
        obtain rfl := vals_strs rs
        have hlt := List.idxOf_lt_length_of_mem hy
        refine ⟨_, zs.map V.str, .str y, zs.idxOf y, .str y, rfl, rfl, SqL.of (o2.ex _ _ (e2 _ _ h1)), rfl, flat_strs _, ?_, by simp [eqV], fun m z' hm hz => ?_, k _ _ _ _ _ q3 (e1.trans e2) o2 (.int _)⟩
        · rw [List.getElem?_map, List.getElem?_eq_getElem hlt, List.getElem_idxOf]; rfl
        · rw [List.getElem?_map, List.getElem?_eq_getElem (by omega)] at hz
          cases hz
          have hne := List.not_of_lt_findIdx (p := fun x => x == y) hm
          simpa [eqV] using hne
/-- how many numbers range(i, j, c) has -/
def cntP (i j c : Int) : Nat := if i < j then ((j - i - 1) / c + 1).toNat else 0
theorem rgcP {i j c : Int} (hc : 1 ≤ c ∧ c ≤ 1000) (hi : -1000000 ≤ i ∧ i ≤ 1000000) (hj : -1000000 ≤ j ∧ j ≤ 1000000) : RgC i j c (cntP i j c) := by
  have e : Builtin.Range.rangeSize i j c = (cntP i j c : Nat) := by
    unfold Builtin.Range.rangeSize cntP
    rw [if_pos (by omega)]
    by_cases h : i < j
    · rw [if_pos h, if_pos h]
      have : 0 ≤ (j - i - 1) / c := Int.ediv_nonneg (by omega) (by omega)
      omega
    · rw [if_neg h, if_neg h]; rfl
  have hn : (cntP i j c : Int) ≤ 2000000 := by
    unfold cntP
    split
    · have h1 : (j - i - 1) / c ≤ j - i - 1 := Int.ediv_le_self _ (by omega)
      omega
    · simp
  refine ⟨by omega, by omega, ?_, e⟩
  unfold Builtin.Range.small
  rw [e]
  rw [if_pos (show c > 0 by omega)]
  simp only [Builtin.Range.rangeFitsLong, Bool.and_eq_true, Bool.or_eq_true, decide_eq_true_eq, beq_iff_eq]
  omega
theorem ix_rangeP {tg : Expr} {P : List D → Mem → Prop} (hm : X.mg "range" = none) (h : AX X J [a, b, c] ρ M fun ds M2 => ∃ i j d, ds = [.int i, .int j, .int d] ∧ ((-1000000 ≤ i ∧ i ≤ 1000000) ∧ (-1000000 ≤ j ∧ j ≤ 1000000) ∧ 1 ≤ d ∧ d ≤ 1000) ∧ P (rngC i d (cntP i j d)) M2) (hg : Gl X "range" := by rfl)
    (hs : starEach [a, b, c] X.env = (false, eval a X.env) :: starEach [b, c] X.env := by rfl) (hpl : (backTo pos (starEach [b, c] X.env)).any (·.1) = false := by rfl) : IX X J tg (.Call (.Name "range" p) [a, b, c] [] pos) ρ M P :=
  ix_of (pi_range3 hg hm pa_any hs hpl) fun F σ H R s k => h.go s fun ds vs M1 F1 H1 q e1 o1 r1 => by
    obtain ⟨i, j, d, rfl, hj, q2⟩ := q
    cases r1 with | cons h1 r1 => cases r1 with | cons h2 r1 => cases r1 with | cons h3 r1 =>
      cases r1
      cases h1; cases h2; cases h3
      exact ⟨i, j, d, cntP i j d, rfl, rgcP hj.2.2 hj.1 hj.2.1, k _ _ M1 F1 H1 q2 e1 o1 wk_rngC⟩
theorem cntP_at {i j c : Int} {k : Nat} (hc : 1 ≤ c) (h : k < cntP i j c) : i + (k : Int) * c < j := by
  unfold cntP at h
  split at h
  · have h1 : (k : Int) ≤ (j - i - 1) / c := by
      have : 0 ≤ (j - i - 1) / c := Int.ediv_nonneg (by omega) (by omega)
      omega
    have h2 : (k : Int) * c ≤ j - i - 1 := Int.le_trans (Int.mul_le_mul_of_nonneg_right h1 (by omega)) (Int.ediv_mul_le _ (by omega))
    omega
  · omega
end
end DX
/-! comprehensions whose list changes later; a variable's list is frozen; all([..]) -/
namespace DX
open PySem PySem.Spec L2
section
variable {X : Cx} {J : Gh} {e a b c : Expr} {es : List Expr} {ρ ρ' : DEnv} {M M' : Mem} {F F' H H' : Hp} {σ : St} {B : Bd} {K : PySem.W.Frag} {pos p : Pos} {x : Str} {P : D → Mem → Prop}
variable {scope : Scope} {tg iter elt : Expr} {ifs : List Expr}
/-- LcW, where the list goes on changing -/
def LcWM (X : Cx) (J : Gh) (scope : Scope) (vs : List Nat) (tg : Expr) (ifs : List Expr) (elt : Expr) (ρ : DEnv) (P : D → Mem → Prop) (ds : List D) (M1 : Mem) : Prop := ∃ Wd : Nat → List D → Mem → Prop, Wd 0 [] M1 ∧
  (∀ i d acc M' Dl, ds[i]? = some d → Wd i acc M' → M' Dl = none → acc.length < 1000000 ∧ AsB X scope vs tg d (cuts ρ vs) fun ρ2 =>
    TXb X J scope ifs ρ2 (up M' Dl (.lst acc)) fun t M2 => (t = true → EXb X J scope elt ρ2 M2 fun y M3 => ∃ M4, M4 Dl = none ∧ M3 = up M4 Dl (.lst acc) ∧ Wd (i + 1) (acc ++ [y]) M4) ∧
      (t = false → ∃ M4, M4 Dl = none ∧ M2 = up M4 Dl (.lst acc) ∧ Wd (i + 1) acc M4)) ∧
  ∀ acc M' Dl, Wd ds.length acc M' → M' Dl = none → P (.adr Dl) (up M' Dl (.lst acc))
theorem lc_goM {vs : List Nat} {Q : VK} (st : Sts X.K J F σ H ρ M) (k : Kt X.K F P Q) (h : IX X J tg iter ρ M (LcWM X J scope vs tg ifs elt ρ P)) :
    tLc (tIe X tg iter) (gB X scope tg) (tTb X scope ifs) (tEb X scope elt) vs σ H Q := by
  refine h.go st fun ds I M1 F1 H1 ⟨Wd, h0, hs, hd⟩ e1 o1 w Dl hD => ?_
  have hm1 := o1.nn hD
  refine ⟨fun i m H2 => m = ds.length - i ∧ i ≤ ds.length ∧ ∃ F' M' acc xs, Same F1 F' ∧ Ok X.K F' (up M' Dl (.lst acc)) H2 ∧ M' Dl = none ∧ H2 Dl = some (.lst xs) ∧ Wd i acc M', ⟨ds.length, by simp, Nat.zero_le _, F1, M1, [], [], Same.refl _, o1.lay hD ⟨[], upd_same, .nil⟩, hm1.2, upd_same, h0⟩, ?_⟩
  rintro i m H2 ⟨rfl, hi, F', M', acc, xs, e2, o2, hn, hx, q⟩
  by_cases hlt : i < ds.length
  · refine .inr ⟨w.goes i H2 hlt (e2.trans o2.ex), fun H3 => ∃ m', m' < ds.length - i ∧ m' = ds.length - (i + 1) ∧ i + 1 ≤ ds.length ∧ ∃ F' M' acc xs, Same F1 F' ∧ Ok X.K F' (up M' Dl (.lst acc)) H3 ∧ M' Dl = none ∧ H3 Dl = some (.lst xs) ∧ Wd (i + 1) acc M', fun H3 n3 => n3, fun x H3 y => ?_⟩
    obtain ⟨F3, e3, o3, r3⟩ := w.yields i ds[i] H2 x H3 F' _ (by simp [hlt]) e2 o2 y
    obtain ⟨ha, g, hg, hgo⟩ := hs i ds[i] acc M' Dl (by simp [hlt]) q hn
    have en3 : En X.K F3 (wipe σ vs) (cuts ρ vs) := (((st.en.cuts vs).mono e1).mono e2).mono e3
    refine ⟨g, hg, hgo F3 _ x _ H3 _ o3 r3 en3 fun σ4 ρ4 q4 en4 w4 => ⟨w4.trans (wipe_wipe σ vs), ?_⟩⟩
    obtain ⟨t, ht, q4⟩ := q4
    refine ⟨t, ht, q4 F3 σ4 H3 _ ⟨en4, o3, J.mono _ _ ((e1.trans e2).trans e3) st.gh⟩ fun tb M5 F5 H5 q5 e5 o5 => ?_⟩
    have fin : ∀ F6 M6 acc6 H6, Same F5 F6 → M6 Dl = none → Ok X.K F6 (up M6 Dl (.lst acc6)) H6 → Wd (i + 1) acc6 M6 → ∃ m', m' < ds.length - i ∧ m' = ds.length - (i + 1) ∧ i + 1 ≤ ds.length ∧ ∃ F' M' acc xs, Same F1 F' ∧ Ok X.K F' (up M' Dl (.lst acc)) H6 ∧ M' Dl = none ∧ H6 Dl = some (.lst xs) ∧ Wd (i + 1) acc M' := by
      intro F6 M6 acc6 H6 e6 n6 o6 q6
      obtain ⟨_, xs6, h6, _⟩ := o6.mt Dl _ up_same
      exact ⟨_, by omega, rfl, hlt, F6, M6, acc6, xs6, ((e2.trans e3).trans e5).trans e6, o6, n6, h6, q6⟩
    cases tb with
    | true =>
      refine iteT ⟨tD X.K J ρ4 M5 _, q5.1 rfl, F5, ⟨en4.mono e5, o5, J.mono _ _ (((e1.trans e2).trans e3).trans e5) st.gh⟩, fun y v M7 F7 H7 ⟨M4, n4, e4, q7⟩ e7 o7 r7 => ?_⟩
      subst e4
      obtain ⟨_, ys, hy, ry⟩ := o7.mt Dl _ up_same
      refine ⟨ys, hy, by rw [ry.length, sizeLine_eq]; omega, fin F7 M4 (acc ++ [y]) _ e7 n4 ?_ q7⟩
      have := o7.set (o := .lst (ys ++ [v])) (d' := .lst (acc ++ [y])) up_same ⟨_, upd_same, ry.append (.cons r7 .nil)⟩
      rwa [up_up] at this
    | false =>
      obtain ⟨M4, n4, e4, q7⟩ := q5.2 rfl
      subst e4
      exact iteF (fin F5 M4 acc H5 (Same.refl _) n4 o5 q7)
  · have e : i = ds.length := by omega
    subst e
    exact .inl ⟨w.stops H2 (e2.trans o2.ex), k _ _ _ _ _ (hd acc M' Dl q hn) (e1.trans e2) o2 (.adr Dl)⟩
theorem ex_lcM {own : List (Str × Nat)} (hc : X.calm = true) (h : IX X J tg iter ρ M (LcWM X J scope (own.map (·.2)) tg ifs elt ρ P)) (hN : X.N.Nodup := by rfl) (ok : blkC X.N X.env.scope scope own = true := by rfl) (hs : ∀ x, foldedSetIterable iter X.env x = pure x := by intro _; rfl) :
    EX X J (.ListComp elt [⟨tg, iter, ifs, 0⟩] scope pos) ρ M P :=
  ex_of (pe_lcA hc hN (blkOk_by ok) hs) fun F σ H Q st k => lc_goM st k h
theorem g1_lcM {y : Str} {py : Pos} {spos : Pos} {own : List (Str × Nat)} (i : Nat) (hc : X.calm = true) (h : IX X J tg iter ρ M (LcWM X J scope (own.map (·.2)) tg ifs elt ρ fun d M1 => B.nx (put ρ i d) M1)) (hN : X.N.Nodup := by rfl) (hy : X.N[i]? = some y := by rfl) (hyl : X.env.scope.names.lookup y = some .local := by rfl)
    (hsw : swapsWith (.ListComp elt [⟨tg, iter, ifs, 0⟩] scope pos) (some (.Name y py)) spos.line X.env = pure true := by rfl) (ok : blkC X.N X.env.scope scope own = true := by rfl) (hs : ∀ x, foldedSetIterable iter X.env x = pure x := by intro _; rfl) :
    G1 X J (.Assign [.Name y py] (.ListComp elt [⟨tg, iter, ifs, 0⟩] scope pos) spos) ρ M B :=
  g1_of (ps_setLc hc hN hy hyl hsw pi_any (blkOk_by ok) (fun s H C cl fp => ⟨fun pins s' σ H' v u Q I r ⟨g, h, q⟩ => (h s H C cl fp).run pins s' σ H' v u Q I r q⟩)
    (fun s H C cl fp => ⟨fun pins s' σ H' Q I ⟨t, h, q⟩ => (h s H C cl fp).run pins s' σ H' Q I q⟩) (fun s H C cl fp => ⟨fun pins s' σ H' Q I ⟨t, h, q⟩ => (h s H C cl fp).run pins s' σ H' Q I q⟩) hs)
    fun F σ H E st k => lc_goM st (P := fun d M1 => B.nx (put ρ i d) M1) (fun d v M' F' H' q e o r => k.nx F' _ H' _ M' q e ((st.en.mono e).put i r) o) h
/-- the pure one -/
theorem lcIM {vs : List Nat} {ds : List D} {M1 : Mem} (g : Nat → D) (t : Nat → Bool)
    (h : ∀ i d acc Dl, ds[i]? = some d → i < ds.length → M1 Dl = none → AsB X scope vs tg d (cuts ρ vs) fun ρ2 => TXb X J scope ifs ρ2 (up M1 Dl (.lst acc)) fun tb M2 => tb = t i ∧ M2 = up M1 Dl (.lst acc) ∧ (t i = true → EXb X J scope elt ρ2 M2 fun y M3 => y = g i ∧ M3 = up M1 Dl (.lst acc)))
    (hl : ds.length ≤ 1000000) (k : ∀ Dl, M1 Dl = none → P (.adr Dl) (up M1 Dl (.lst (lcR ds.length t g)))) : LcWM X J scope vs tg ifs elt ρ P ds M1 := by
  refine ⟨fun i acc M' => M' = M1 ∧ acc = lcR i t g, ⟨rfl, rfl⟩, ?_, fun acc M' Dl q hn => by obtain ⟨rfl, rfl⟩ := q; exact k Dl hn⟩
  rintro i d acc M' Dl hd ⟨rfl, rfl⟩ hD
  have hi : i < ds.length := by
    by_cases hi : i < ds.length
    · exact hi
    · rw [List.getElem?_eq_none (by omega)] at hd; cases hd
  refine ⟨by have := lcR_len (n := i) (t := t) (g := g); omega, ?_⟩
  obtain ⟨gg, h1, h2⟩ := h i d (lcR i t g) Dl hd hi hD
  refine ⟨gg, h1, fun F M v σ H Q o r en kk => h2 F M v σ H Q o r en fun σ' ρ' q en' w => kk σ' ρ' ?_ en' w⟩
  obtain ⟨tt, h3, h4⟩ := q
  refine ⟨tt, h3, fun F σ H Q st kb => h4 F σ H Q st fun tb M2 F' H' q e o => kb tb M2 F' H' ?_ e o⟩
  obtain ⟨rfl, rfl, q⟩ := q
  refine ⟨fun ht => ?_, fun ht => ⟨M', hD, rfl, rfl, by rw [lcR_succ, ht]; simp⟩⟩
  intro s H C cl fp
  exact (q ht s H C cl fp).imp fun y M3 hy => ⟨M', hD, hy.2, rfl, by rw [lcR_succ, ht, hy.1]; rfl⟩
/-! ### a variable's list changes no more -/
theorem En.frz : ∀ {σ : St} {ρ : DEnv} {i : Nat} {q : Addr} {d : D}, En K F σ ρ → DX.look ρ i = some (.adr q) → Rp K F (.ref q) d → En K F σ (DX.put ρ i d)
  | _, _, i, _, _, .nil, e, _ => by simp [DX.look] at e
  | _, _, 0, q, d, .cons h r, e, rq => .cons (fun x z => by
    obtain ⟨y, a, b⟩ := h (.adr q) e
    cases z
    cases b
    exact ⟨_, a, rq⟩) r
  | _, _, i + 1, q, d, .cons h r, e, rq => .cons h (En.frz r e rq)
theorem gx_frzv {sts : List Stmt} {p : Addr} {ds : List D} {M0 : Mem} (i : Nat) (hi : DX.look ρ i = some (.adr p)) (hn : M0 p = none) (h : GX X J sts (DX.put ρ i (.lst ds)) M0 B) : GX X J sts ρ (up M0 p (.lst ds)) B :=
  ⟨fun pins s σ H E I ⟨F, st, k⟩ => by
    obtain ⟨_, ys, hy, ry⟩ := st.ok.mt p _ up_same
    obtain ⟨s1, o4⟩ := st.ok.freeze up_same hy
    rw [rm_up hn] at o4
    exact h.run pins s σ H E I ⟨_, ⟨(st.en.mono s1).frz hi (.lst upd_same (ry.mono s1)), o4, J.mono _ _ s1 st.gh⟩, ⟨fun F' σ' H' ρ' M' q z1 z2 z3 => k.nx F' σ' H' ρ' M' q (s1.trans z1) z2 z3, k.rt.to s1, fun F' σ' H' ρ' M' q z1 z2 z3 => k.bk F' σ' H' ρ' M' q (s1.trans z1) z2 z3, fun F' σ' H' ρ' M' q z1 z2 z3 => k.ct F' σ' H' ρ' M' q (s1.trans z1) z2 z3⟩⟩⟩
/-! ### all([..]) -/
theorem cd_allE {d : D} {ds : List D} {bs : List Bool} (hc : X.calm = true) (s : Sl M d ds) (e : ds = bs.map D.bl) (q : P (.bl (bs.all id)) M) : CD X (.builtin "all") [d] M P := by
  subst e; exact cd_all hc s q
theorem cd_anyE {d : D} {ds : List D} {bs : List Bool} (hc : X.calm = true) (s : Sl M d ds) (e : ds = bs.map D.bl) (q : P (.bl (bs.any id)) M) : CD X (.builtin "any") [d] M P := by
  subst e; exact cd_any hc s q
theorem lcR_bls {n : Nat} {t : Nat → Bool} {g : Nat → Bool} : lcR n t (fun i => D.bl (g i)) = (((List.range n).filter t).map g).map D.bl := by
  unfold lcR; rw [List.map_map]; rfl
end
end DX
/-! l.index(int) -/
namespace DX
open PySem PySem.Spec L2
section
variable {X : Cx} {J : Gh} {M : Mem} {P : D → Mem → Prop} {ρ : DEnv} {o e : Expr} {apos cpos : Pos} {K : PySem.W.Frag} {F : Hp}
theorem flatI : ∀ zs : List Int, (zs.map V.int).all flatV = true
  | [] => rfl
  | y :: zs => by rw [List.map_cons, List.all_cons, flatI zs]; rfl
/-- l.index(i) of a list of ints -/
theorem ex_lindexI (h : EX X J o ρ M fun d M1 => ∃ zs : List Int, d = .lst (zs.map D.int) ∧ AX X J [e] ρ M1 fun ys M2 => ∃ y, ys = [.int y] ∧ y ∈ zs ∧ P (.int ((zs.idxOf y : Nat) : Int)) M2)
    (hbase : attributeBase o "index" X.env (eval o X.env) = eval o X.env := by rfl)
    (few : ((backTo cpos (starEach [e] X.env)).all (fun x => !x.1) && (backToKw cpos (keywordEach [] X.env)).all (fun x => x.1.isSome) && decide ([e].length + ([] : List Keyword).length + (if ([] : List Keyword).isEmpty then 0 else 1) < 30)) = true := by rfl)
    (line : (apos.endLine == cpos.line) = true := by rfl) (hst : starEach [e] X.env = (false, eval e X.env) :: starEach [] X.env := by rfl) (hpl : (backTo cpos (starEach [] X.env)).any (·.1) = false := by rfl) :
    EX X J (.Call (.Attribute o "index" apos) [e] [] cpos) ρ M P :=
  ex_of (pe_bm PySem.F.plainAttrs_list PySem.F.slot_list_index PySem.F.type_list_index mt_index pe_any pa_any hbase few line hst hpl) fun F σ H Q st k => h.go st fun d v M1 F1 H1 q1 e1 o1 r1 => by
    obtain ⟨zs, rfl, q2⟩ := q1
    cases r1 with
    | lst h1 rs =>
      refine ⟨tyV_lst (o1.ex _ _ h1), q2.go (st.to e1 o1) fun ys vs M2 F2 H2 q3 e2 o2 r2 => ?_⟩
      obtain ⟨y, rfl, hy, q3⟩ := q3
      cases r2 with
      | cons r2 r3 =>
        cases r3
        cases r2
        obtain rfl := rs.ints
        have hlt := List.idxOf_lt_length_of_mem hy
        refine ⟨_, zs.map V.int, .int y, zs.idxOf y, .int y, rfl, rfl, SqL.of (o2.ex _ _ (e2 _ _ h1)), rfl, flatI _, ?_, by simp [eqV], fun m z' hm hz => ?_, k _ _ _ _ _ q3 (e1.trans e2) o2 (.int _)⟩
        · rw [List.getElem?_map, List.getElem?_eq_getElem hlt, List.getElem_idxOf]; rfl
        · rw [List.getElem?_map, List.getElem?_eq_getElem (by omega)] at hz
          cases hz
          have hne := List.not_of_lt_findIdx (p := fun x => x == y) hm
          simpa [eqV] using hne
theorem od_isnotB {x y : Bool} (p : P (.bl (!decide (x = y))) M) : OD X (compareOp .IsNot) (.bl x) (.bl y) M P :=
  ⟨_, op_isnot_bl, fun F H v u Q o rx ry k => by
    cases rx; cases ry
    exact ⟨x, y, rfl, rfl, k.here p o (.bl _)⟩⟩
end
end DX
/-! operations on data, each a plain function; what the program's operation gives is what the function gives -/
namespace DX
open PySem PySem.Spec L2 SX

noncomputable section
open Classical in
def chk {α : Type} (p : Prop) (x : α) : Option α := if p then some x else none
theorem chk_inv {α : Type} {p : Prop} {x y : α} (h : chk p x = some y) : p ∧ x = y := by
  unfold chk at h
  split at h
  · exact ⟨by assumption, Option.some.inj h⟩
  · cases h
theorem chk_pos {α : Type} {p : Prop} {x : α} (h : p) : chk p x = some x := if_pos h
theorem bi {α β : Type} {o : Option α} {f : α → Option β} {r : β} {C : Prop} (h : o.bind f = some r) (k : ∀ v, o = some v → f v = some r → C) : C := by
  cases o with
  | none => cases h
  | some v => exact k v rfl h
theorem so {α : Type} {a b : α} (h : some a = some b) : a = b := Option.some.inj h
theorem iT {α : Type} {c : Bool} {a b r : α} (q : c = true) (h : (if c = true then a else b) = r) : a = r := by rwa [if_pos q] at h
theorem iF {α : Type} {c : Bool} {a b r : α} (q : c = false) (h : (if c = true then a else b) = r) : b = r := by rwa [if_neg (by rw [q]; decide)] at h

def frzD : D → Bool
  | .lst _ => true
  | .ins _ _ => true
  | .dct _ => true
  | _ => false
/-- x, as it stands in a name, is seen as d -/
inductive Vw (M : Mem) : D → D → Prop
  | id {d : D} : Vw M d d
  | ad {p : Addr} {d : D} : M p = some d → frzD d = true → Vw M (.adr p) d
section
variable {X : Cx} {J : Gh} {e a b c o : Expr} {es : List Expr} {ρ ρ' : DEnv} {M M' : Mem} {F F' H H' : Hp} {σ : L2.St} {B : Bd} {K : PySem.W.Frag} {pos p apos cpos : Pos} {x y dx dy z : D} {P : D → Mem → Prop} {t : Bool}
theorem Vw.sl {ds : List D} (v : Vw M x (.lst ds)) : Sl M x ds := by
  cases v with
  | id => exact .lst
  | ad h hf => exact .adr h
theorem Vw.sq {ds : List D} (v : Vw M x (.lst ds)) : Sq M x ds := v.sl.sq
theorem Vw.rtup {ds : List D} {v : V} (w : Vw M x (.tup ds)) (o : Ok K F M H) (r : Rp K F v x) : Rp K F v (.tup ds) := by
  cases w with
  | id => exact r
  | ad h hf => exact (o.mt _ _ h).2.elim
theorem Vw.int {i : Int} (w : Vw M x (.int i)) (o : Ok K F M H) : x = .int i := by
  cases w with
  | id => rfl
  | ad h hf => exact (o.mt _ _ h).2.elim
theorem Vw.str {i : Str} (w : Vw M x (.str i)) (o : Ok K F M H) : x = .str i := by
  cases w with
  | id => rfl
  | ad h hf => exact (o.mt _ _ h).2.elim
/-- a list, a tuple, as lists of V -/
theorem Vw.seq {ds : List D} {v : V} (w : Vw M x z) (hz : z = .lst ds ∨ z = .tup ds) (o : Ok K F M H) (r : Rp K F v x) : ∃ p xs, v = .ref p ∧ (SqL K H p xs ∨ SqT K H p xs) ∧ Rps K F xs ds := by
  rcases hz with rfl | rfl
  · exact w.sq.get o r
  · have r := w.rtup o r
    cases r with
    | tup h r => exact ⟨_, _, rfl, .inr (same_t o.ex h), r⟩
/-- plain data but in what changes -/
def imm : D → Bool
  | .lst _ => false
  | .ins _ _ => false
  | .dct _ => false
  | .tbl _ => false
  | _ => true
theorem Vw.rp {v : V} (w : Vw M x z) (hz : imm z = true) (o : Ok K F M H) (r : Rp K F v x) : Rp K F v z := by
  cases w with
  | id => exact r
  | ad h hf =>
    have := (o.mt _ _ h).2
    cases z <;> first | exact this.elim | cases hz

/-! ### operators -/
theorem od_by {f : Value → Value → Sem Value} (hx : imm dx = true) (hy : imm dy = true) (vx : Vw M x dx) (vy : Vw M y dy) (h : OD X f dx dy M P) : OD X f x y M P := by
  obtain ⟨r, h1, h2⟩ := h
  exact ⟨r, h1, fun F H v u Q o rx ry k => h2 F H v u Q o (vx.rp hx o rx) (vy.rp hy o ry) k⟩
def dAdd : D → D → Option D
  | .int i, .int j => some (.int (i + j))
  | .str a, .str b => chk (a.length + b.length ≤ 1000000) (.str (a ++ b))
  | .lst a, .lst b => chk (a.length + b.length ≤ 1000000) (.lst (a ++ b))
  | .tup a, .tup b => chk (a.length + b.length ≤ 1000000) (.tup (a ++ b))
  | _, _ => none
theorem od_dAdd (vx : Vw M x dx) (vy : Vw M y dy) (h : dAdd dx dy = some z) (p : P z M) : OD X (binaryOp .Add) x y M P := by
  unfold dAdd at h
  split at h
  · cases h; exact od_by rfl rfl vx vy (od_add p)
  · obtain ⟨h1, rfl⟩ := chk_inv h; exact od_by rfl rfl vx vy (od_addS h1 p)
  · obtain ⟨h1, rfl⟩ := chk_inv h; exact od_addL vx.sl vy.sl h1 p
  · obtain ⟨h1, rfl⟩ := chk_inv h; exact od_by rfl rfl vx vy (od_addT h1 p)
  · cases h
/-- the same, of lists, the new one may change -/
def lAdd : D → D → Option (List D)
  | .lst a, .lst b => chk (a.length + b.length ≤ 1000000) (a ++ b)
  | _, _ => none
theorem od_lAdd {l : List D} (vx : Vw M x dx) (vy : Vw M y dy) (h : lAdd dx dy = some l) (p : ∀ q, M q = none → P (.adr q) (up M q (.lst l))) : OD X (binaryOp .Add) x y M P := by
  unfold lAdd at h
  split at h
  · obtain ⟨h1, rfl⟩ := chk_inv h; exact od_addLM vx.sl vy.sl h1 p
  · cases h
def dSub : D → D → Option D
  | .int i, .int j => some (.int (i - j))
  | _, _ => none
theorem od_dSub (vx : Vw M x dx) (vy : Vw M y dy) (h : dSub dx dy = some z) (p : P z M) : OD X (binaryOp .Sub) x y M P := by
  unfold dSub at h
  split at h
  · cases h; exact od_by rfl rfl vx vy (od_sub p)
  · cases h
def dMul : D → D → Option D
  | .int i, .int j => chk (CMul i j) (.int (i * j))
  | .str a, .int n => chk (a.length ≤ 1000 ∧ -(2 ^ 62) ≤ n ∧ n ≤ 10000) (.str (Txt.mul a n))
  | .lst a, .int n => chk ((-(2 ^ 62) ≤ n ∧ n < 2 ^ 62) ∧ a.length * n.toNat ≤ 1000000) (.lst (List.replicate n.toNat a).flatten)
  | .tup a, .int n => chk (a ≠ [] ∧ 2 ≤ n ∧ n ≤ 1000 ∧ a.length ≤ 1000) (.tup (List.replicate n.toNat a).flatten)
  | _, _ => none
theorem od_dMul (vx : Vw M x dx) (vy : Vw M y dy) (h : dMul dx dy = some z) (p : P z M) : OD X (binaryOp .Mult) x y M P := by
  unfold dMul at h
  split at h
  · obtain ⟨h1, rfl⟩ := chk_inv h; exact od_by rfl rfl vx vy (od_mul h1 p)
  · obtain ⟨h1, rfl⟩ := chk_inv h
    refine od_by rfl rfl vx vy ⟨_, op_mul_str, fun F H v u Q o rx ry k => ?_⟩
    cases rx; cases ry
    exact ⟨_, _, rfl, rfl, h1.1, h1.2.1, h1.2.2, k.here p o (.str _)⟩
  · rename_i a n
    obtain ⟨h1, rfl⟩ := chk_inv h
    obtain ⟨r, g1, g2⟩ := od_mulL (X := X) vx.sl h1.1 h1.2 p
    exact ⟨r, g1, fun F H v u Q o rx ry k => g2 F H v u Q o rx (vy.rp rfl o ry) k⟩
  · obtain ⟨h1, rfl⟩ := chk_inv h
    refine od_by rfl rfl vx vy ⟨_, op_repT, fun F H v u Q o rx ry k => ?_⟩
    cases ry
    cases rx with
    | @tup a xs _ g1 r1 =>
    refine ⟨a, _, xs, rfl, rfl, same_t o.ex g1, fun e => ?_, h1.2.1, h1.2.2.1, by rw [r1.length]; exact h1.2.2.2, fun q hq => k _ _ _ _ _ p (o.fixSame hq) (o.fix hq) (.tup (SqT.of upd_same) ((r1.rep _).mono (o.fixSame hq)))⟩
    subst e
    cases r1
    exact h1.1 rfl
  · cases h
def lMul : D → D → Option (List D)
  | .lst a, .int n => chk ((-(2 ^ 62) ≤ n ∧ n < 2 ^ 62) ∧ a.length * n.toNat ≤ 1000000) (List.replicate n.toNat a).flatten
  | _, _ => none
theorem od_lMul {l : List D} (vx : Vw M x dx) (vy : Vw M y dy) (h : lMul dx dy = some l) (p : ∀ q, M q = none → P (.adr q) (up M q (.lst l))) : OD X (binaryOp .Mult) x y M P := by
  unfold lMul at h
  split at h
  · obtain ⟨h1, rfl⟩ := chk_inv h
    obtain ⟨r, g1, g2⟩ := od_mulLM (X := X) vx.sl h1.1 h1.2 p
    exact ⟨r, g1, fun F H v u Q o rx ry k => g2 F H v u Q o rx (vy.rp rfl o ry) k⟩
  · cases h
def dFdiv : D → D → Option D
  | .int i, .int j => chk (CDiv i j) (.int (i / j))
  | _, _ => none
theorem od_dFdiv (vx : Vw M x dx) (vy : Vw M y dy) (h : dFdiv dx dy = some z) (p : P z M) : OD X (binaryOp .FloorDiv) x y M P := by
  unfold dFdiv at h
  split at h
  · obtain ⟨h1, rfl⟩ := chk_inv h; exact od_by rfl rfl vx vy (od_fdiv h1 p)
  · cases h
def dMod : D → D → Option D
  | .int i, .int j => chk (0 < j) (.int (i % j))
  | _, _ => none
theorem od_dMod (vx : Vw M x dx) (vy : Vw M y dy) (h : dMod dx dy = some z) (p : P z M) : OD X (binaryOp .Mod) x y M P := by
  unfold dMod at h
  split at h
  · obtain ⟨h1, rfl⟩ := chk_inv h; exact od_by rfl rfl vx vy (od_mod h1 p)
  · cases h
def dPow : D → D → Option D
  | .int i, .int j => chk (CPow i j) (.int (i ^ j.toNat))
  | _, _ => none
theorem od_dPow (vx : Vw M x dx) (vy : Vw M y dy) (h : dPow dx dy = some z) (p : P z M) : OD X (binaryOp .Pow) x y M P := by
  unfold dPow at h
  split at h
  · obtain ⟨h1, rfl⟩ := chk_inv h; exact od_by rfl rfl vx vy (od_pow h1 p)
  · cases h
def dShl : D → D → Option D
  | .int i, .int j => chk (CPow i j) (.int (i * 2 ^ j.toNat))
  | _, _ => none
theorem od_dShl (vx : Vw M x dx) (vy : Vw M y dy) (h : dShl dx dy = some z) (p : P z M) : OD X (binaryOp .LShift) x y M P := by
  unfold dShl at h
  split at h
  · obtain ⟨h1, rfl⟩ := chk_inv h; exact od_by rfl rfl vx vy (od_shl h1 p)
  · cases h
def dShr : D → D → Option D
  | .int i, .int j => chk (0 ≤ j) (.int (i / 2 ^ j.toNat))
  | _, _ => none
theorem od_dShr (vx : Vw M x dx) (vy : Vw M y dy) (h : dShr dx dy = some z) (p : P z M) : OD X (binaryOp .RShift) x y M P := by
  unfold dShr at h
  split at h
  · obtain ⟨h1, rfl⟩ := chk_inv h; exact od_by rfl rfl vx vy (od_shr h1 p)
  · cases h
def dBand : D → D → Option D
  | .int i, .int j => some (.int (Builtin.bitAnd i j))
  | _, _ => none
theorem od_dBand (vx : Vw M x dx) (vy : Vw M y dy) (h : dBand dx dy = some z) (p : P z M) : OD X (binaryOp .BitAnd) x y M P := by
  unfold dBand at h
  split at h
  · cases h; exact od_by rfl rfl vx vy (od_and p)
  · cases h
def dBor : D → D → Option D
  | .int i, .int j => some (.int (Builtin.bitOr i j))
  | _, _ => none
theorem od_dBor (vx : Vw M x dx) (vy : Vw M y dy) (h : dBor dx dy = some z) (p : P z M) : OD X (binaryOp .BitOr) x y M P := by
  unfold dBor at h
  split at h
  · cases h; exact od_by rfl rfl vx vy (od_int0 (g' := fun i j => .int (Builtin.bitOr i j)) op_or (fun F => .int _) p)
  · cases h
def dBxor : D → D → Option D
  | .int i, .int j => some (.int (Builtin.bitXor i j))
  | _, _ => none
theorem od_dBxor (vx : Vw M x dx) (vy : Vw M y dy) (h : dBxor dx dy = some z) (p : P z M) : OD X (binaryOp .BitXor) x y M P := by
  unfold dBxor at h
  split at h
  · cases h; exact od_by rfl rfl vx vy (od_xor p)
  · cases h
def dNeg : D → Option D
  | .int i => some (.int (-i))
  | _ => none
theorem ex_dNeg (h : EX X J a ρ M fun x M1 => ∃ dx z, Vw M1 x dx ∧ dNeg dx = some z ∧ P z M1) : EX X J (.UnaryOp .USub a pos) ρ M P :=
  ex_of (pe_un un_neg pe_any) fun F σ H Q st k => h.go st fun d v M1 F1 H1 p e1 o1 r1 => by
    obtain ⟨dx, z, w, g, p⟩ := p
    unfold dNeg at g
    split at g
    · cases g
      have r2 := w.rp rfl o1 r1
      cases r2
      exact ⟨_, rfl, k _ _ _ _ _ p e1 o1 (.int _)⟩
    · cases g
def dInv : D → Option D
  | .int i => some (.int (Builtin.bitNot i))
  | _ => none
theorem ex_dInv (h : EX X J a ρ M fun x M1 => ∃ dx z, Vw M1 x dx ∧ dInv dx = some z ∧ P z M1) : EX X J (.UnaryOp .Invert a pos) ρ M P :=
  ex_of (pe_un un_inv pe_any) fun F σ H Q st k => h.go st fun d v M1 F1 H1 p e1 o1 r1 => by
    obtain ⟨dx, z, w, g, p⟩ := p
    unfold dInv at g
    split at g
    · cases g
      have r2 := w.rp rfl o1 r1
      cases r2
      exact ⟨_, rfl, k _ _ _ _ _ p e1 o1 (.int _)⟩
    · cases g
/-! ### comparisons -/
def cLt : D → D → Option Bool
  | .int i, .int j => some (decide (i < j))
  | _, _ => none
def cLe : D → D → Option Bool
  | .int i, .int j => some (decide (i ≤ j))
  | _, _ => none
def cGt : D → D → Option Bool
  | .int i, .int j => some (decide (j < i))
  | _, _ => none
def cGe : D → D → Option Bool
  | .int i, .int j => some (decide (j ≤ i))
  | _, _ => none
theorem od_cLt (vx : Vw M x dx) (vy : Vw M y dy) (h : cLt dx dy = some t) (p : P (.bl t) M) : OD X (compareOp .Lt) x y M P := by
  unfold cLt at h
  split at h
  · cases h; exact od_by rfl rfl vx vy (od_lt p)
  · cases h
theorem od_cLe (vx : Vw M x dx) (vy : Vw M y dy) (h : cLe dx dy = some t) (p : P (.bl t) M) : OD X (compareOp .LtE) x y M P := by
  unfold cLe at h
  split at h
  · cases h; exact od_by rfl rfl vx vy (od_le p)
  · cases h
theorem od_cGt (vx : Vw M x dx) (vy : Vw M y dy) (h : cGt dx dy = some t) (p : P (.bl t) M) : OD X (compareOp .Gt) x y M P := by
  unfold cGt at h
  split at h
  · cases h; exact od_by rfl rfl vx vy (od_gt p)
  · cases h
theorem od_cGe (vx : Vw M x dx) (vy : Vw M y dy) (h : cGe dx dy = some t) (p : P (.bl t) M) : OD X (compareOp .GtE) x y M P := by
  unfold cGe at h
  split at h
  · cases h; exact od_by rfl rfl vx vy (od_ge p)
  · cases h
/-- == of data; a list that changes against data by its content -/
def isLst : D → Bool
  | .lst _ => true
  | _ => false
/-- lists of ints of any size against [] -/
def intsB : List D → Bool
  | [] => true
  | .int _ :: ds => intsB ds
  | _ => false
def nilB : D → D → Bool
  | .lst ds, .lst [] => intsB ds
  | _, _ => false
def empB : D → Bool
  | .lst ds => ds.isEmpty
  | _ => false
theorem intsB_eq : ∀ {ds : List D}, intsB ds = true → ∃ ns : List Int, ds = ns.map D.int
  | [], _ => ⟨[], rfl⟩
  | .int i :: ds, h => by
    obtain ⟨ns, e⟩ := intsB_eq (ds := ds) h
    exact ⟨i :: ns, by rw [e]; rfl⟩
theorem intsB_map : ∀ ns : List Int, intsB (ns.map D.int) = true
  | [] => rfl
  | n :: ns => intsB_map ns
/-- lists of unlike lengths; a tuple against the empty one -/
def lenB : D → D → Bool
  | .lst ds, .lst es => ds.length != es.length
  | .tup (_ :: _), .tup [] => true
  | _, _ => false
def strsL : D → Option (List Str)
  | .lst ds => ds.mapM fun d => match d with
    | .str z => some z
    | _ => none
  | _ => none
theorem strsL_eq {d : D} {xs : List Str} (h : strsL d = some xs) : d = .lst (xs.map D.str) := by
  have main : ∀ (ds : List D) (xs : List Str), (ds.mapM fun d => match d with | .str z => some z | _ => none) = some xs → ds = xs.map D.str := by
    intro ds
    induction ds with
    | nil => intro xs h; cases h; rfl
    | cons d ds ih =>
      intro xs h
      rw [List.mapM_cons] at h
      obtain ⟨z, h1, h2⟩ := Option.bind_eq_some_iff.mp h
      obtain ⟨zs, h3, h4⟩ := Option.bind_eq_some_iff.mp h2
      cases h4
      rw [List.map_cons, ← ih zs h3]
      cases d <;> first | (cases h1; rfl) | cases h1
  cases d <;> first
    | (rename_i ds; exact congrArg D.lst (main ds xs h))
    | cases h
theorem strsL_map {xs : List Str} : strsL (.lst (xs.map D.str)) = some xs := by
  show ((xs.map D.str).mapM fun d => match d with | .str z => some z | _ => none) = some xs
  induction xs with
  | nil => rfl
  | cons x xs ih => rw [List.map_cons, List.mapM_cons, ih]; rfl
theorem all_eq {xs ys : List Str} (hl : xs.length = ys.length) : ((List.range xs.length).all fun j => xs.getD j Str.empty == ys.getD j Str.empty) = decide (xs = ys) := by
  by_cases h : xs = ys
  · subst h
    rw [decide_eq_true rfl, List.all_eq_true]
    intro j _
    simp
  · rw [decide_eq_false h, List.all_eq_false]
    by_cases g : ∃ j, j < xs.length ∧ xs.getD j Str.empty ≠ ys.getD j Str.empty
    · obtain ⟨j, h1, h2⟩ := g
      exact ⟨j, List.mem_range.mpr h1, by simpa using h2⟩
    · refine absurd (List.ext_getElem hl fun j h1 h2 => ?_) h
      have e : xs.getD j Str.empty = ys.getD j Str.empty := Decidable.byContradiction fun q => g ⟨j, h1, q⟩
      rw [List.getD_eq_getElem?_getD, List.getD_eq_getElem?_getD, List.getElem?_eq_getElem h1, List.getElem?_eq_getElem h2] at e
      exact e
theorem vals_strT {xs : List Str} {us : List Value} (r : Vals (xs.map V.str) us) : us.length = xs.length ∧ ∀ j (h : j < us.length), ∃ t, us[j] = .str (xs.getD j Str.empty) t := by
  induction xs generalizing us with
  | nil => cases r; exact ⟨rfl, fun j h => absurd h (Nat.not_lt_zero _)⟩
  | cons x xs ih =>
    cases r with
    | cons r1 r2 =>
      obtain ⟨t, rfl⟩ := r1
      obtain ⟨h1, h2⟩ := ih r2
      refine ⟨by simp [h1], fun j h => ?_⟩
      cases j with
      | zero => exact ⟨t, rfl⟩
      | succ j =>
        obtain ⟨t2, e⟩ := h2 j (by simpa using h)
        exact ⟨t2, by simpa using e⟩
theorem op_strsEq (hu : X.A.units + 64 < cLine) : OpR X (compareOp .Eq) (fun x y H Q => ∃ (a b : Addr) (xs ys : List Str), x = .ref a ∧ y = .ref b ∧ H a = some (.lst (xs.map V.str)) ∧ H b = some (.lst (ys.map V.str)) ∧ xs.length = ys.length ∧ Q (.bl (decide (xs = ys))) H) := by
  intro pins s σ H x y v u Q I rx ry ⟨a, b, xs, ys, e1, e2, h1, h2, hn, q⟩
  subst e1 e2
  cases (show v = Value.ref a from rx)
  cases (show u = Value.ref b from ry)
  obtain ⟨us, r1, p1, _⟩ := I.list (SqL.of h1)
  obtain ⟨ws, r2, p2, _⟩ := I.list (SqL.of h2)
  obtain ⟨l1, g1⟩ := vals_strT r1
  obtain ⟨l2, g2⟩ := vals_strT r2
  refine SeqAt.RcAt.lists (e := fun j => xs.getD j Str.empty == ys.getD j Str.empty) p1.isList p2.isList (by rw [List.size_toArray, List.size_toArray, l1, l2, hn]) (by omega) (fun j h3 h4 => ?_) _ _ _ _ ?_
  · obtain ⟨t1, e1⟩ := g1 j (by simpa using h3)
    obtain ⟨t2, e2⟩ := g2 j (by simpa using h4)
    rw [show us.toArray[j] = us[j]'(by simpa using h3) from by simp, show ws.toArray[j] = ws[j]'(by simpa using h4) from by simp, e1, e2]
    exact SeqAt.EqAt.str_str _ _ _ _
  · rw [List.size_toArray, l1, all_eq hn]
    exact ⟨.bl _, H, I, rfl, q⟩
theorem op_strsNe (hu : X.A.units + 64 < cLine) : OpR X (compareOp .NotEq) (fun x y H Q => ∃ (a b : Addr) (xs ys : List Str), x = .ref a ∧ y = .ref b ∧ H a = some (.lst (xs.map V.str)) ∧ H b = some (.lst (ys.map V.str)) ∧ xs.length = ys.length ∧ Q (.bl (!decide (xs = ys))) H) := by
  intro pins s σ H x y v u Q I rx ry ⟨a, b, xs, ys, e1, e2, h1, h2, hn, q⟩
  subst e1 e2
  cases (show v = Value.ref a from rx)
  cases (show u = Value.ref b from ry)
  obtain ⟨us, r1, p1, _⟩ := I.list (SqL.of h1)
  obtain ⟨ws, r2, p2, _⟩ := I.list (SqL.of h2)
  obtain ⟨l1, g1⟩ := vals_strT r1
  obtain ⟨l2, g2⟩ := vals_strT r2
  refine SeqAt.RcNeAt.lists (e := fun j => xs.getD j Str.empty == ys.getD j Str.empty) p1.isList p2.isList (by rw [List.size_toArray, List.size_toArray, l1, l2, hn]) (by omega) (fun j h3 h4 => ?_) _ _ _ _ ?_
  · obtain ⟨t1, e1⟩ := g1 j (by simpa using h3)
    obtain ⟨t2, e2⟩ := g2 j (by simpa using h4)
    rw [show us.toArray[j] = us[j]'(by simpa using h3) from by simp, show ws.toArray[j] = ws[j]'(by simpa using h4) from by simp, e1, e2]
    exact SeqAt.EqAt.str_str _ _ _ _
  · rw [List.size_toArray, l1, all_eq hn]
    exact ⟨.bl _, H, I, rfl, q⟩
def cEq (a b : D) : Option Bool :=
  if sc a b = true then some (sceq a b) else if nilB a b = true then some (empB a) else match chk (good a ∧ good b ∧ dep a ≤ 50 ∧ dep b ≤ 50) (eqD a b) with
    | some t => some t
    | none => if lenB a b = true then some false else match strsL a, strsL b with
      | some xs, some ys => some (decide (xs = ys))
      | _, _ => none
theorem op_lenEq (hu : X.A.units + 64 < cLine) : OpR X (compareOp .Eq) (fun x y H Q => ∃ a b xs ys, x = .ref a ∧ y = .ref b ∧ H a = some (.lst xs) ∧ H b = some (.lst ys) ∧ xs.length ≠ ys.length ∧ Q (.bl false) H) := by
  intro pins s σ H x y v u Q I rx ry ⟨a, b, xs, ys, e1, e2, h1, h2, hn, q⟩
  subst e1 e2
  cases (show v = Value.ref a from rx)
  cases (show u = Value.ref b from ry)
  obtain ⟨us, r1, p1, _⟩ := I.list (SqL.of h1)
  obtain ⟨ws, r2, p2, _⟩ := I.list (SqL.of h2)
  refine SeqAt.RcAt.lists_lengths p1.isList p2.isList ?_ (by omega) _ _ _ _ ⟨.bl false, H, I, rfl, q⟩
  rw [List.size_toArray, List.size_toArray, ← r1.length, ← r2.length]
  simpa using hn
theorem op_lenNe (hu : X.A.units + 64 < cLine) : OpR X (compareOp .NotEq) (fun x y H Q => ∃ a b xs ys, x = .ref a ∧ y = .ref b ∧ H a = some (.lst xs) ∧ H b = some (.lst ys) ∧ xs.length ≠ ys.length ∧ Q (.bl true) H) := by
  intro pins s σ H x y v u Q I rx ry ⟨a, b, xs, ys, e1, e2, h1, h2, hn, q⟩
  subst e1 e2
  cases (show v = Value.ref a from rx)
  cases (show u = Value.ref b from ry)
  obtain ⟨us, r1, p1, _⟩ := I.list (SqL.of h1)
  obtain ⟨ws, r2, p2, _⟩ := I.list (SqL.of h2)
  refine SeqAt.RcNeAt.lists_lengths p1.isList p2.isList ?_ (by omega) _ _ _ _ ⟨.bl true, H, I, rfl, q⟩
  rw [List.size_toArray, List.size_toArray, ← r1.length, ← r2.length]
  simpa using hn
theorem op_tupNilEq (hu : X.A.units + 64 < cLine) : OpR X (compareOp .Eq) (fun x y H Q => ∃ a b xs, x = .ref a ∧ y = .ref b ∧ SqT X.K H a xs ∧ SqT X.K H b [] ∧ xs ≠ [] ∧ Q (.bl false) H) := by
  intro pins s σ H x y v u Q I rx ry ⟨a, b, xs, e1, e2, h1, h2, hn, q⟩
  subst e1 e2
  cases (show v = Value.ref a from rx)
  cases (show u = Value.ref b from ry)
  obtain ⟨us, r1, p1, _⟩ := I.tuple h1
  obtain ⟨ws, r2, p2, _⟩ := I.tuple h2
  cases r2
  have hl := r1.length
  have hne : us.length ≠ 0 := fun z => hn (List.eq_nil_of_length_eq_zero (by omega))
  have key := SeqAt.RcAt.tuples (A := X.A) (e := fun _ => true) (show s.heap.IsTuple a us.toArray from p1) (show s.heap.IsTuple b ([] : List Value).toArray from p2) (by omega) (fun j h1 h2 => absurd h2 (by simp))
  rw [show ((List.range (min us.toArray.size ([] : List Value).toArray.size)).all (fun _ => true) && us.toArray.size == ([] : List Value).toArray.size) = false by simp; exact fun z => hne (by rw [z]; rfl)] at key
  exact key _ _ _ _ ⟨.bl false, H, I, rfl, q⟩
theorem op_tupNilNe (hu : X.A.units + 64 < cLine) : OpR X (compareOp .NotEq) (fun x y H Q => ∃ a b xs, x = .ref a ∧ y = .ref b ∧ SqT X.K H a xs ∧ SqT X.K H b [] ∧ xs ≠ [] ∧ Q (.bl true) H) := by
  intro pins s σ H x y v u Q I rx ry ⟨a, b, xs, e1, e2, h1, h2, hn, q⟩
  subst e1 e2
  cases (show v = Value.ref a from rx)
  cases (show u = Value.ref b from ry)
  obtain ⟨us, r1, p1, _⟩ := I.tuple h1
  obtain ⟨ws, r2, p2, _⟩ := I.tuple h2
  cases r2
  have hl := r1.length
  have hne : us.length ≠ 0 := fun z => hn (List.eq_nil_of_length_eq_zero (by omega))
  have key := SeqAt.RcNeAt.tuples (A := X.A) (e := fun _ => true) (show s.heap.IsTuple a us.toArray from p1) (show s.heap.IsTuple b ([] : List Value).toArray from p2) (by omega) (fun j h1 h2 => absurd h2 (by simp))
  rw [show (!((List.range (min us.toArray.size ([] : List Value).toArray.size)).all (fun _ => true) && us.toArray.size == ([] : List Value).toArray.size)) = true by simp; exact fun z => hne (by rw [z]; rfl)] at key
  exact key _ _ _ _ ⟨.bl true, H, I, rfl, q⟩
theorem tupnil_at {v w : V} {d : D} {ds : List D} (vx : Vw M x (.tup (d :: ds))) (vy : Vw M y (.tup [])) (o : Ok K F M H) (rx : Rp K F v x) (ry : Rp K F w y) :
    ∃ a b xs, v = .ref a ∧ w = .ref b ∧ SqT K H a xs ∧ SqT K H b [] ∧ xs ≠ [] := by
  cases vx.rp rfl o rx with
  | tup h1 k1 =>
    cases vy.rp rfl o ry with
    | tup h2 k2 =>
      cases k2
      exact ⟨_, _, _, rfl, rfl, same_t o.ex h1, same_t o.ex h2, fun z => by rw [z] at k1; cases k1⟩
theorem cEq_inv {a b : D} {t : Bool} (h : (match chk (good a ∧ good b ∧ dep a ≤ 50 ∧ dep b ≤ 50) (eqD a b) with
    | some t => some t
    | none => if lenB a b = true then some false else match strsL a, strsL b with
      | some xs, some ys => some (decide (xs = ys))
      | _, _ => none) = some t) : ((good a ∧ good b ∧ dep a ≤ 50 ∧ dep b ≤ 50) ∧ t = eqD a b) ∨ (t = false ∧ ((∃ ds es, a = .lst ds ∧ b = .lst es ∧ ds.length ≠ es.length) ∨ ∃ d ds, a = .tup (d :: ds) ∧ b = .tup [])) ∨
      ∃ xs ys : List Str, a = .lst (xs.map D.str) ∧ b = .lst (ys.map D.str) ∧ xs.length = ys.length ∧ t = decide (xs = ys) := by
  split at h
  · rename_i t' e
    cases h
    obtain ⟨g, e⟩ := chk_inv e
    exact .inl ⟨g, by rw [e]⟩
  · split at h
    · rename_i hl
      cases h
      refine .inr (.inl ⟨rfl, ?_⟩)
      unfold lenB at hl
      split at hl
      · exact .inl ⟨_, _, rfl, rfl, by simpa using hl⟩
      · exact .inr ⟨_, _, rfl, rfl⟩
      · cases hl
    · rename_i hl
      split at h
      · rename_i xs ys h1 h2
        cases h
        have e1 := strsL_eq h1
        have e2 := strsL_eq h2
        subst e1 e2
        refine .inr (.inr ⟨xs, ys, rfl, rfl, ?_, rfl⟩)
        simpa [lenB] using hl
      · cases h
theorem strs_at {v w : V} {xs ys : List Str} (vx : Vw M x (.lst (xs.map D.str))) (vy : Vw M y (.lst (ys.map D.str))) (o : Ok K F M H) (rx : Rp K F v x) (ry : Rp K F w y) :
    ∃ a b, v = .ref a ∧ w = .ref b ∧ H a = some (.lst (xs.map V.str)) ∧ H b = some (.lst (ys.map V.str)) := by
  obtain ⟨q, us, rfl, h1, r1⟩ := vx.sl.get o rx
  obtain ⟨q2, ws, rfl, h2, r2⟩ := vy.sl.get o ry
  rw [Rps.strs r1] at h1
  rw [Rps.strs r2] at h2
  exact ⟨q, q2, rfl, rfl, h1, h2⟩
theorem lenat_v {v w : V} {ds es : List D} (vx : Vw M x (.lst ds)) (vy : Vw M y (.lst es)) (o : Ok K F M H) (rx : Rp K F v x) (ry : Rp K F w y) (hn : ds.length ≠ es.length) :
    ∃ a b xs ys, v = .ref a ∧ w = .ref b ∧ H a = some (.lst xs) ∧ H b = some (.lst ys) ∧ xs.length ≠ ys.length := by
  obtain ⟨q, xs, rfl, h1, r1⟩ := vx.sl.get o rx
  obtain ⟨q2, ys, rfl, h2, r2⟩ := vy.sl.get o ry
  exact ⟨q, q2, xs, ys, rfl, rfl, h1, h2, by rw [r1.length, r2.length]; exact hn⟩
theorem nil_dp {v w : V} (h : nilB dx dy = true) (vx : Vw M x dx) (vy : Vw M y dy) (o : Ok K F M H) (rx : Rp K F v x) (ry : Rp K F w y) :
    ∃ z1, Dp K H v z1 ∧ Dp K H w (.list []) ∧ SeqAt.shaped z1 = true ∧ SeqAt.shaped (.list []) = true ∧ PyData.eqv z1 (.list []) = empB dx := by
  unfold nilB at h
  split at h
  · obtain ⟨ns, rfl⟩ := intsB_eq h
    obtain ⟨q, xs, rfl, h1, r1⟩ := vx.sl.get o rx
    obtain ⟨q2, ys, rfl, h2, r2⟩ := vy.sl.get o ry
    have e2 : ys = [] := by cases r2; rfl
    subst e2
    refine ⟨.list (ns.map PyData.int), .lst (SqL.of h1) (r1.dps o.ex (pyds_ints ns)), .lst (SqL.of h2) .nil, shaped_ints ns, shaped_ints [], ?_⟩
    cases ns with
    | nil => simp [PyData.eqv, PyData.eqvAll, empB]
    | cons n ns => simp [PyData.eqv, PyData.eqvAll, empB]
  · cases h
theorem sc_imm (h : sc dx dy = true) : imm dx = true ∧ imm dy = true := by
  cases dx <;> cases dy <;> first | exact ⟨rfl, rfl⟩ | cases h
theorem Vw.dp {v : V} (w : Vw M x dx) (g : good dx) (o : Ok K F M H) (r : Rp K F v x) : Dp K H v (pyd dx) := by
  cases w with
  | id => exact r.dp o.ex (good_py g)
  | ad h hf =>
    obtain ⟨_, hm⟩ := o.mt _ _ h
    cases dx with
    | lst ds =>
      obtain ⟨xs, h1, h2⟩ := hm
      cases r
      rw [pyd]
      exact .lst (SqL.of h1) (h2.dps o.ex (goods_py (by simpa [good] using g)))
    | _ => first | exact hm.elim | exact g.elim
theorem od_cEq (hu : X.A.units + 64 < cLine) (vx : Vw M x dx) (vy : Vw M y dy) (h : cEq dx dy = some t) (p : P (.bl t) M) : OD X (compareOp .Eq) x y M P := by
  unfold cEq at h
  split at h
  · rename_i hs
    cases h
    exact od_by (sc_imm hs).1 (sc_imm hs).2 vx vy (od_eq hs p)
  split at h
  · rename_i hs
    cases h
    refine ⟨_, op_eqD hu, fun F H v u Q o rx ry k => ?_⟩
    obtain ⟨z1, g1, g2, s1, s2, e⟩ := nil_dp hs vx vy o rx ry
    exact ⟨_, _, g1, g2, s1, s2, by rw [e]; exact k.here p o (.bl _)⟩
  rcases cEq_inv h with ⟨⟨g1, g2, d1, d2⟩, rfl⟩ | ⟨rfl, ⟨ds, es, rfl, rfl, hn⟩ | ⟨d, ds, rfl, rfl⟩⟩ | ⟨xs, ys, rfl, rfl, hn, rfl⟩
  rotate_left
  rotate_left
  rotate_left
  · refine ⟨_, op_strsEq hu, fun F H v u Q o rx ry k => ?_⟩
    obtain ⟨a, b, e1, e2, h1, h2⟩ := strs_at vx vy o rx ry
    exact ⟨a, b, xs, ys, e1, e2, h1, h2, hn, k.here p o (.bl _)⟩
  rotate_left
  · refine ⟨_, op_lenEq hu, fun F H v u Q o rx ry k => ?_⟩
    obtain ⟨a, b, xs, ys, e1, e2, h1, h2, h3⟩ := lenat_v vx vy o rx ry hn
    exact ⟨a, b, xs, ys, e1, e2, h1, h2, h3, k.here p o (.bl _)⟩
  · refine ⟨_, op_tupNilEq hu, fun F H v u Q o rx ry k => ?_⟩
    obtain ⟨a, b, xs, e1, e2, h1, h2, h3⟩ := tupnil_at vx vy o rx ry
    exact ⟨a, b, xs, e1, e2, h1, h2, h3, k.here p o (.bl _)⟩
  · exact ⟨_, op_eqD hu, fun F H v u Q o rx ry k => ⟨_, _, vx.dp g1 o rx, vy.dp g2 o ry, shaped_good g1 d1, shaped_good g2 d2, k.here p o (.bl _)⟩⟩
def cNe (a b : D) : Option Bool := (cEq a b).map (!·)
theorem od_cNe (hu : X.A.units + 64 < cLine) (vx : Vw M x dx) (vy : Vw M y dy) (h : cNe dx dy = some t) (p : P (.bl t) M) : OD X (compareOp .NotEq) x y M P := by
  unfold cNe at h
  obtain ⟨t2, h', e'⟩ := Option.map_eq_some_iff.mp h
  subst e'
  clear h
  have h := h'
  unfold cEq at h
  split at h
  · rename_i hs
    cases h
    exact od_by (sc_imm hs).1 (sc_imm hs).2 vx vy (od_ne hs p)
  split at h
  · rename_i hs
    cases h
    refine ⟨_, op_neD hu, fun F H v u Q o rx ry k => ?_⟩
    obtain ⟨z1, g1, g2, s1, s2, e⟩ := nil_dp hs vx vy o rx ry
    exact ⟨_, _, g1, g2, s1, s2, by rw [e]; exact k.here p o (.bl _)⟩
  rcases cEq_inv h with ⟨⟨g1, g2, d1, d2⟩, rfl⟩ | ⟨rfl, ⟨ds, es, rfl, rfl, hn⟩ | ⟨d, ds, rfl, rfl⟩⟩ | ⟨xs, ys, rfl, rfl, hn, rfl⟩
  rotate_left
  rotate_left
  rotate_left
  · refine ⟨_, op_strsNe hu, fun F H v u Q o rx ry k => ?_⟩
    obtain ⟨a, b, e1, e2, h1, h2⟩ := strs_at vx vy o rx ry
    exact ⟨a, b, xs, ys, e1, e2, h1, h2, hn, k.here p o (.bl _)⟩
  rotate_left
  · refine ⟨_, op_lenNe hu, fun F H v u Q o rx ry k => ?_⟩
    obtain ⟨a, b, xs, ys, e1, e2, h1, h2, h3⟩ := lenat_v vx vy o rx ry hn
    exact ⟨a, b, xs, ys, e1, e2, h1, h2, h3, k.here p o (.bl _)⟩
  · refine ⟨_, op_tupNilNe hu, fun F H v u Q o rx ry k => ?_⟩
    obtain ⟨a, b, xs, e1, e2, h1, h2, h3⟩ := tupnil_at vx vy o rx ry
    exact ⟨a, b, xs, e1, e2, h1, h2, h3, k.here p o (.bl _)⟩
  · exact ⟨_, op_neD hu, fun F H v u Q o rx ry k => ⟨_, _, vx.dp g1 o rx, vy.dp g2 o ry, shaped_good g1 d1, shaped_good g2 d2, k.here p o (.bl _)⟩⟩
/-- is, is not: with None; of bools -/
def isNonD : D → Option Bool
  | .non => some true
  | .int _ => some false
  | .bl _ => some false
  | .str _ => some false
  | .tup _ => some false
  | .lst _ => some false
  | .ins _ _ => some false
  | .dct _ => some false
  | .exn _ _ => some false
  | _ => none
def cIs : D → D → Option Bool
  | .bl a, .bl b => some (decide (a = b))
  | x, .non => isNonD x
  | _, _ => none
theorem Vw.isn {v : V} (w : Vw M x dx) (h : isNonD dx = some t) (o : Ok K F M H) (r : Rp K F v x) : decide (v = V.non) = t := by
  cases w with
  | id => cases r <;> cases h <;> rfl
  | ad q hf =>
    cases r
    have := (o.mt _ _ q).2
    cases dx <;> cases h <;> first | rfl | exact this.elim
theorem od_cIs (vx : Vw M x dx) (vy : Vw M y dy) (h : cIs dx dy = some t) (p : P (.bl t) M) : OD X (compareOp .Is) x y M P := by
  unfold cIs at h
  split at h
  · cases h; exact od_by rfl rfl vx vy (od_isB p)
  · refine ⟨_, op_isN, fun F H v u Q o rx ry k => ?_⟩
    have ry := vy.rp rfl o ry
    cases ry
    refine ⟨rfl, ?_⟩
    rw [vx.isn h o rx]
    exact k.here p o (.bl _)
  · cases h
def cIsnt (a b : D) : Option Bool := (cIs a b).map (!·)
theorem od_cIsnt (vx : Vw M x dx) (vy : Vw M y dy) (h : cIsnt dx dy = some t) (p : P (.bl t) M) : OD X (compareOp .IsNot) x y M P := by
  unfold cIsnt at h
  obtain ⟨t2, h', e'⟩ := Option.map_eq_some_iff.mp h
  subst e'
  clear h
  have h := h'
  unfold cIs at h
  split at h
  · cases h; exact od_by rfl rfl vx vy (od_isnotB p)
  · refine ⟨_, op_notN, fun F H v u Q o rx ry k => ?_⟩
    have ry := vy.rp rfl o ry
    cases ry
    refine ⟨rfl, ?_⟩
    rw [vx.isn h o rx]
    exact k.here p o (.bl _)
  · cases h
/-- flat data as values -/
def flD : D → Option V
  | .non => some .non
  | .bl b => some (.bl b)
  | .int i => some (.int i)
  | .str z => some (.str z)
  | _ => none
def flDs : List D → Option (List V)
  | [] => some []
  | d :: ds => (flD d).bind fun v => (flDs ds).map fun vs => v :: vs
theorem flD_rp {d : D} {v w : V} (h : flD d = some w) (r : Rp K F v d) : v = w := by
  cases r <;> cases h <;> rfl
theorem flDs_rps : ∀ {ds : List D} {vs ws : List V}, flDs ds = some ws → Rps K F vs ds → vs = ws
  | [], _, _, h, .nil => by cases h; rfl
  | d :: ds, _, _, h, .cons r rs => by
    rw [flDs] at h
    obtain ⟨v, h1, h⟩ := Option.bind_eq_some_iff.mp h
    obtain ⟨vs, h2, rfl⟩ := Option.map_eq_some_iff.mp h
    rw [flD_rp h1 r, flDs_rps h2 rs]
theorem flD_flat {d : D} {v : V} (h : flD d = some v) : flatV v = true := by
  cases d <;> cases h <;> rfl
theorem flDs_flat : ∀ {ds : List D} {vs : List V}, flDs ds = some vs → vs.all flatV = true
  | [], _, h => by cases h; rfl
  | d :: ds, _, h => by
    rw [flDs] at h
    obtain ⟨v, h1, h⟩ := Option.bind_eq_some_iff.mp h
    obtain ⟨vs, h2, rfl⟩ := Option.map_eq_some_iff.mp h
    rw [List.all_cons, flD_flat h1, flDs_flat h2]; rfl
theorem flDs_ints : ∀ ns : List Int, flDs (ns.map D.int) = some (ns.map V.int)
  | [] => rfl
  | n :: ns => by rw [List.map_cons, flDs, flDs_ints ns]; rfl
theorem flDs_strs : ∀ ns : List Str, flDs (ns.map D.str) = some (ns.map V.str)
  | [] => rfl
  | n :: ns => by rw [List.map_cons, flDs, flDs_strs ns]; rfl
def itemsD : D → Option (List D)
  | .lst ds => some ds
  | .tup ds => some ds
  | _ => none
theorem items_eq {d : D} {ds : List D} (h : itemsD d = some ds) : d = .lst ds ∨ d = .tup ds := by
  cases d <;> cases h
  · exact .inr rfl
  · exact .inl rfl
/-- x in c: flat x among flat items; a sign in a text; a key in a dict -/
def cIn (a c : D) : Option Bool := match a, c with
  | .str y, .str z => match y.cps.toList with
    | [n] => some (decide (n ∈ z.cps.toList))
    | _ => none
  | a, c => (flD a).bind fun v => (itemsD c).bind fun ds => (flDs ds).bind fun vs => some (inV v vs)
theorem od_cIn (vx : Vw M x dx) (vy : Vw M y dy) (h : cIn dx dy = some t) (p : P (.bl t) M) : OD X (compareOp .In) x y M P := by
  unfold cIn at h
  split at h
  · rename_i y z
    split at h
    · rename_i n e
      cases h
      have e2 : y = ⟨#[n]⟩ := by
        cases y with | mk a => simp at e; cases a; simp at e; subst e; rfl
      exact od_by rfl rfl vx vy (od_inC e2 p)
    · cases h
  · obtain ⟨v0, h1, h⟩ := Option.bind_eq_some_iff.mp h
    obtain ⟨ds, h2, h⟩ := Option.bind_eq_some_iff.mp h
    obtain ⟨vs, h3, h⟩ := Option.bind_eq_some_iff.mp h
    cases h
    refine ⟨_, op_in_seq, fun F H v u Q o rx ry k => ?_⟩
    have i1 : imm dx = true := by cases dx <;> first | rfl | cases h1
    have rx := vx.rp i1 o rx
    obtain rfl := flD_rp h1 rx
    obtain ⟨q, xs, rfl, hs, rs⟩ := vy.seq (items_eq h2) o ry
    obtain rfl := flDs_rps h3 rs
    exact ⟨q, xs, rfl, hs, flD_flat h1, flDs_flat h3, k.here p o (.bl _)⟩
def cNin (a c : D) : Option Bool := (cIn a c).map (!·)
theorem od_cNin (vx : Vw M x dx) (vy : Vw M y dy) (h : cNin dx dy = some t) (p : P (.bl t) M) : OD X (compareOp .NotIn) x y M P := by
  unfold cNin at h
  obtain ⟨t2, h', e'⟩ := Option.map_eq_some_iff.mp h
  subst e'
  clear h
  have h := h'
  unfold cIn at h
  split at h
  · rename_i y z
    split at h
    · rename_i n e
      cases h
      have e2 : y = ⟨#[n]⟩ := by
        cases y with | mk a => simp at e; cases a; simp at e; subst e; rfl
      exact od_by rfl rfl vx vy (od_notInC e2 p)
    · cases h
  · obtain ⟨v0, h1, h⟩ := Option.bind_eq_some_iff.mp h
    obtain ⟨ds, h2, h⟩ := Option.bind_eq_some_iff.mp h
    obtain ⟨vs, h3, h⟩ := Option.bind_eq_some_iff.mp h
    cases h
    refine ⟨_, op_notIn_seq, fun F H v u Q o rx ry k => ?_⟩
    have i1 : imm dx = true := by cases dx <;> first | rfl | cases h1
    have rx := vx.rp i1 o rx
    obtain rfl := flD_rp h1 rx
    obtain ⟨q, xs, rfl, hs, rs⟩ := vy.seq (items_eq h2) o ry
    obtain rfl := flDs_rps h3 rs
    exact ⟨q, xs, rfl, hs, flD_flat h1, flDs_flat h3, k.here p o (.bl _)⟩
/-! ### truth -/
def dTru : D → Option Bool
  | .non => some false
  | .bl b => some b
  | .int i => some (i != 0)
  | .str y => chk (y.length ≤ 1000000) ((y.length : Int) != 0)
  | .lst ds => some (!ds.isEmpty)
  | .tup ds => some (!ds.isEmpty)
  | _ => none
theorem rps_empty {xs : List V} {ds : List D} (r : Rps K F xs ds) : xs.isEmpty = ds.isEmpty := by cases r <;> rfl
theorem Vw.tru {v : V} (w : Vw M x dx) (h : dTru dx = some t) (o : Ok K F M H) (r : Rp K F v x) : TruV K v H t := by
  unfold dTru at h
  split at h
  · have r := w.rp rfl o r; cases r; cases h; rfl
  · have r := w.rp rfl o r; cases r; cases h; rfl
  · have r := w.rp rfl o r; cases r; cases h; rfl
  · have r := w.rp rfl o r; cases r
    obtain ⟨h1, rfl⟩ := chk_inv h
    exact ⟨by rw [sizeLine_eq]; omega, rfl⟩
  · cases h
    obtain ⟨q, xs, rfl, h1, r1⟩ := w.sl.get o r
    exact .inl ⟨xs, SqL.of h1, by rw [rps_empty r1]⟩
  · cases h
    have r := w.rp rfl o r
    cases r with
    | tup h1 r1 => exact .inr (.inl ⟨_, same_t o.ex h1, by rw [rps_empty r1]⟩)
  · cases h
theorem tx_tru {PB : Bool → Mem → Prop} (h : EX X J e ρ M fun x M1 => ∃ dx t, Vw M1 x dx ∧ dTru dx = some t ∧ PB t M1) (he : ∀ whole, isTrue e X.env whole = (do let v ← whole; standAt e.pos; holding [v] (truthy v)) := by intro _; rfl) : TX X J e ρ M PB :=
  tx_of (pt_truth pe_any he) fun F σ H Q st k => h.go st fun d v M1 F1 H1 p e1 o1 r1 => by
    obtain ⟨dx, t, w, g, p⟩ := p
    exact ⟨t, w.tru g o1 r1, k _ _ _ _ p e1 o1⟩
theorem ex_notT (h : EX X J a ρ M fun x M1 => ∃ dx t, Vw M1 x dx ∧ dTru dx = some t ∧ P (.bl (!t)) M1) : EX X J (.UnaryOp .Not a pos) ρ M P :=
  ex_of (pe_notT pe_any) fun F σ H Q st k => h.go st fun d v M1 F1 H1 p e1 o1 r1 => by
    obtain ⟨dx, t, w, g, p⟩ := p
    exact ⟨t, w.tru g o1 r1, k _ _ _ _ _ p e1 o1 (.bl _)⟩
theorem ex_andT {rest : List Expr} (h : EX X J a ρ M fun x M1 => ∃ dx t, Vw M1 x dx ∧ dTru dx = some t ∧ (t = true → EX X J (.BoolOp .And (b :: rest) pos) ρ M1 P) ∧ (t = false → P x M1)) : EX X J (.BoolOp .And (a :: b :: rest) pos) ρ M P :=
  ex_of (pe_andT pe_any pe_any) fun F σ H Q st k => h.go st fun d v M1 F1 H1 p e1 o1 r1 => by
    obtain ⟨dx, t, w, g, p⟩ := p
    refine ⟨t, w.tru g o1 r1, ?_⟩
    cases t with
    | true => exact iteT ((p.1 rfl).go (st.to e1 o1) (k.to e1))
    | false => exact iteF (k _ _ _ _ _ (p.2 rfl) e1 o1 r1)
theorem ex_orT {rest : List Expr} (h : EX X J a ρ M fun x M1 => ∃ dx t, Vw M1 x dx ∧ dTru dx = some t ∧ (t = false → EX X J (.BoolOp .Or (b :: rest) pos) ρ M1 P) ∧ (t = true → P x M1)) : EX X J (.BoolOp .Or (a :: b :: rest) pos) ρ M P :=
  ex_of (pe_orT pe_any pe_any) fun F σ H Q st k => h.go st fun d v M1 F1 H1 p e1 o1 r1 => by
    obtain ⟨dx, t, w, g, p⟩ := p
    refine ⟨t, w.tru g o1 r1, ?_⟩
    cases t with
    | true => exact iteT (k _ _ _ _ _ (p.2 rfl) e1 o1 r1)
    | false => exact iteF ((p.1 rfl).go (st.to e1 o1) (k.to e1))
/-- what is known of the end is shown once -/
theorem ex_fix (v : D) (M1 : Mem) (h : EX X J e ρ M fun d M' => d = v ∧ M' = M1) (k : P v M1) : EX X J e ρ M P := h.imp fun d M' q => by rw [q.1, q.2]; exact k
theorem tx_fix {PB : Bool → Mem → Prop} (v : Bool) (M1 : Mem) (h : TX X J e ρ M fun d M' => d = v ∧ M' = M1) (k : PB v M1) : TX X J e ρ M PB := h.imp fun d M' q => by rw [q.1, q.2]; exact k
/-! ### places and parts -/
def dIx : D → D → Option D
  | .lst ds, .int i => atI ds i
  | .tup ds, .int i => atI ds i
  | .str z, .int i => (atI z.cps.toList i).bind fun n => chk (z.length ≤ 1000000) (.str ⟨#[n]⟩)
  | _, _ => none
theorem id_dIx (vx : Vw M x dx) (vy : Vw M y dy) (h : dIx dx dy = some z) (p : P z M) : ID X x y M P := by
  unfold dIx at h
  split at h
  · rename_i ds i
    obtain ⟨r, h1, h2⟩ := id_seq (X := X) vx.sq h p
    exact ⟨r, h1, fun F H v u Q o rx ry k => h2 F H v u Q o rx (vy.rp rfl o ry) k⟩
  · rename_i ds i
    obtain ⟨r, h1, h2⟩ := id_seq (X := X) (.tup : Sq M (.tup ds) ds) h p
    exact ⟨r, h1, fun F H v u Q o rx ry k => h2 F H v u Q o (vx.rp rfl o rx) (vy.rp rfl o ry) k⟩
  · obtain ⟨n, h1, h⟩ := Option.bind_eq_some_iff.mp h
    obtain ⟨h2, rfl⟩ := chk_inv h
    obtain ⟨r, g1, g2⟩ := id_str (X := X) h2 h1 p
    exact ⟨r, g1, fun F H v u Q o rx ry k => g2 F H v u Q o (vx.rp rfl o rx) (vy.rp rfl o ry) k⟩
  · cases h
/-- a slice's end -/
def dEnd : D → Option Int
  | .int i => some i
  | _ => none
theorem ox_d {PO' : Option Int → Mem → Prop} (h : EX X J e ρ M fun x M1 => ∃ dx i, Vw M1 x dx ∧ dEnd dx = some i ∧ PO' (some i) M1) : OX X J (some e) ρ M PO' := fun F σ H Q st k => ⟨_, po_some pe_any, h.go st fun d v M1 F1 H1 p e1 o1 r1 => by
  obtain ⟨dx, i, w, g, p⟩ := p
  unfold dEnd at g
  split at g
  · cases g
    have r2 := w.rp rfl o1 r1
    cases r2
    exact ⟨_, rfl, k _ _ _ _ p e1 o1⟩
  · cases g⟩
def dCut (d : D) (l u : Option Int) : Option D := match d, l, u with
  | .lst ds, l, u => some (.lst (cutD ds l u))
  | .tup ds, l, u => some (.tup (cutD ds l u))
  | .str z, l, u => chk (z.cps.toList.length ≤ 1000000) (.str (S (cutA z.cps.toList l u)))
  | .scr ns, none, some (.ofNat k) => some (.lst ((ns.take k).map D.int))
  | _, _, _ => none
theorem sd_by {l u : Option Int} (w : Vw M x dx) (hz : imm dx = true) (h : SD X dx l u M P) : SD X x l u M P := by
  obtain ⟨r, h1, h2⟩ := h
  exact ⟨r, h1, fun F H v Q o rx k => h2 F H v Q o (w.rp hz o rx) k⟩
theorem sd_dCut {l u : Option Int} (w : Vw M x dx) (h : dCut dx l u = some z) (p : P z M) : SD X x l u M P := by
  unfold dCut at h
  split at h
  · cases h; exact sd_list w.sl p
  · cases h; exact sd_by w rfl (sd_tupA p)
  · obtain ⟨h1, rfl⟩ := chk_inv h; exact sd_by w rfl (sd_str h1 p)
  · cases h; exact sd_by w rfl (sd_scr p)
  · cases h
/-! ### built-ins -/
theorem cd_by {f : Value} (w : Vw M x dx) (hz : imm dx = true) (h : CD X f [dx] M P) : CD X f [x] M P := by
  obtain ⟨r, h1, h2⟩ := h
  exact ⟨r, h1, fun F H vs Q o rs k => by
    cases rs with
    | cons r1 rs => exact h2 F H _ Q o (.cons (w.rp hz o r1) rs) k⟩
theorem cd_by2 {f : Value} (w : Vw M x dx) (hz : imm dx = true) (w2 : Vw M y dy) (hz2 : imm dy = true) (h : CD X f [dx, dy] M P) : CD X f [x, y] M P := by
  obtain ⟨r, h1, h2⟩ := h
  exact ⟨r, h1, fun F H vs Q o rs k => by
    cases rs with
    | cons r1 rs =>
      cases rs with
      | cons r2 rs => exact h2 F H _ Q o (.cons (w.rp hz o r1) (.cons (w2.rp hz2 o r2) rs)) k⟩
def dLen : D → Option D
  | .lst ds => some (.int (ds.length : Int))
  | .tup ds => some (.int (ds.length : Int))
  | .str z => chk (z.length ≤ 1000000) (.int (z.length : Int))
  | _ => none
theorem cd_dLen (w : Vw M x dx) (h : dLen dx = some z) (p : P z M) : CD X (.builtin "len") [x] M P := by
  unfold dLen at h
  split at h
  · cases h; exact cd_len w.sq p
  · cases h; exact cd_by w rfl (cd_len .tup p)
  · obtain ⟨h1, rfl⟩ := chk_inv h; exact cd_by w rfl (cd_lenS h1 p)
  · cases h
def dAbs : D → Option D
  | .int t => some (.int (if t < 0 then -t else t))
  | _ => none
theorem cd_dAbs (w : Vw M x dx) (h : dAbs dx = some z) (p : P z M) : CD X (.builtin "abs") [x] M P := by
  unfold dAbs at h
  split at h
  · cases h; exact cd_by w rfl (cd_abs p)
  · cases h
def dInt : D → Option D
  | .int t => some (.int t)
  | .bl t => some (.int (if t = true then 1 else 0))
  | _ => none
theorem cd_dInt (w : Vw M x dx) (h : dInt dx = some z) (p : P z M) : CD X (.type "int") [x] M P := by
  unfold dInt at h
  split at h
  · cases h; exact cd_by w rfl (cd_intI p)
  · cases h; exact cd_by w rfl (cd_intB p)
  · cases h
def dStr : D → Option D
  | .int i => chk (i.natAbs.log2 < 1920) (.str (toString i))
  | _ => none
theorem cd_dStr (w : Vw M x dx) (h : dStr dx = some z) (p : P z M) : CD X (.type "str") [x] M P := by
  unfold dStr at h
  split at h
  · obtain ⟨h1, rfl⟩ := chk_inv h
    refine cd_by w rfl ⟨_, call_str_int, fun F H vs Q o r k => ?_⟩
    cases r with
    | cons r1 r => cases r; cases r1; exact ⟨_, rfl, h1, k.here p o (.str _)⟩
  · cases h
/-- list(x), tuple(x) -/
def lList : D → Option (List D)
  | .lst ds => some ds
  | .tup ds => some ds
  | .str z => chk (z.cps.toList.length ≤ 1000000) (signs z)
  | _ => none
theorem cd_lList {l : List D} (hc : X.calm = true) (w : Vw M x dx) (h : lList dx = some l) (p : P (.lst l) M) : CD X (.type "list") [x] M P := by
  unfold lList at h
  split at h
  · cases h; exact cd_list w.sq p
  · cases h; exact cd_by w rfl (cd_list .tup p)
  · obtain ⟨h1, rfl⟩ := chk_inv h; exact cd_by w rfl (cd_listS hc h1 p)
  · cases h
def lListM : D → Option (List D)
  | .lst ds => some ds
  | .tup ds => some ds
  | _ => none
theorem cd_lListM {l : List D} (w : Vw M x dx) (h : lListM dx = some l) (p : ∀ q, M q = none → P (.adr q) (up M q (.lst l))) : CD X (.type "list") [x] M P := by
  unfold lListM at h
  split at h
  · cases h; exact cd_listM w.sq p
  · cases h; exact cd_by w rfl (cd_listM .tup p)
  · cases h
theorem cd_lTuple {l : List D} (hc : X.calm = true) (w : Vw M x dx) (h : lList dx = some l) (p : P (.tup l) M) : CD X (.type "tuple") [x] M P := by
  unfold lList at h
  split at h
  · cases h; exact cd_tuple w.sl p
  · cases h; exact cd_by w rfl (cd_tupleT p)
  · obtain ⟨h1, rfl⟩ := chk_inv h; exact cd_by w rfl (cd_tupleS hc h1 p)
  · cases h
/-- lists of ints, of bools -/
def intsD : List D → Option (List Int)
  | [] => some []
  | .int i :: ds => (intsD ds).map fun l => i :: l
  | _ => none
theorem ints_eq : ∀ {ds : List D} {ns : List Int}, intsD ds = some ns → ds = ns.map D.int
  | [], _, h => by cases h; rfl
  | .int i :: ds, _, h => by
    rw [intsD] at h
    obtain ⟨l, h1, rfl⟩ := Option.map_eq_some_iff.mp h
    rw [ints_eq h1]; rfl
theorem intsD_map : ∀ ns : List Int, intsD (ns.map D.int) = some ns
  | [] => rfl
  | n :: ns => by rw [List.map_cons, intsD, intsD_map ns]; rfl
def blsD : List D → Option (List Bool)
  | [] => some []
  | .bl i :: ds => (blsD ds).map fun l => i :: l
  | _ => none
theorem bls_eq : ∀ {ds : List D} {ns : List Bool}, blsD ds = some ns → ds = ns.map D.bl
  | [], _, h => by cases h; rfl
  | .bl i :: ds, _, h => by
    rw [blsD] at h
    obtain ⟨l, h1, rfl⟩ := Option.map_eq_some_iff.mp h
    rw [bls_eq h1]; rfl
theorem blsD_map : ∀ ns : List Bool, blsD (ns.map D.bl) = some ns
  | [] => rfl
  | n :: ns => by rw [List.map_cons, blsD, blsD_map ns]; rfl
def lstD : D → Option (List D)
  | .lst ds => some ds
  | _ => none
theorem lstD_eq {d : D} {ds : List D} (h : lstD d = some ds) : d = .lst ds := by cases d <;> cases h; rfl
def maxI : List Int → Int
  | [] => 0
  | n :: ns => ns.foldl max n
def minI : List Int → Int
  | [] => 0
  | n :: ns => ns.foldl min n
theorem foldmax : ∀ (ns : List Int) (n : Int), (ns.foldl max n = n ∨ ns.foldl max n ∈ ns) ∧ n ≤ ns.foldl max n ∧ ∀ y ∈ ns, y ≤ ns.foldl max n
  | [], n => ⟨.inl rfl, Int.le_refl _, fun y hy => absurd hy List.not_mem_nil⟩
  | m :: ns, n => by
    obtain ⟨h1, h2, h3⟩ := foldmax ns (max n m)
    rw [List.foldl_cons]
    refine ⟨?_, by omega, fun y hy => ?_⟩
    · rcases h1 with h1 | h1
      · rw [h1]
        by_cases h : n ≤ m
        · right; rw [Int.max_eq_right h]; exact List.mem_cons_self
        · left; rw [Int.max_eq_left (by omega)]
      · exact .inr (List.mem_cons_of_mem _ h1)
    · rcases List.mem_cons.mp hy with rfl | hy
      · omega
      · exact h3 y hy
theorem foldmin : ∀ (ns : List Int) (n : Int), (ns.foldl min n = n ∨ ns.foldl min n ∈ ns) ∧ ns.foldl min n ≤ n ∧ ∀ y ∈ ns, ns.foldl min n ≤ y
  | [], n => ⟨.inl rfl, Int.le_refl _, fun y hy => absurd hy List.not_mem_nil⟩
  | m :: ns, n => by
    obtain ⟨h1, h2, h3⟩ := foldmin ns (min n m)
    rw [List.foldl_cons]
    refine ⟨?_, by omega, fun y hy => ?_⟩
    · rcases h1 with h1 | h1
      · rw [h1]
        by_cases h : n ≤ m
        · left; rw [Int.min_eq_left h]
        · right; rw [Int.min_eq_right (by omega)]; exact List.mem_cons_self
      · exact .inr (List.mem_cons_of_mem _ h1)
    · rcases List.mem_cons.mp hy with rfl | hy
      · omega
      · exact h3 y hy
theorem maxI_mem {ns : List Int} (h : 0 < ns.length) : maxI ns ∈ ns ∧ ∀ y ∈ ns, y ≤ maxI ns := by
  cases ns with
  | nil => cases h
  | cons n ns =>
    obtain ⟨h1, h2, h3⟩ := foldmax ns n
    refine ⟨?_, fun y hy => ?_⟩
    · rcases h1 with h1 | h1
      · show ns.foldl max n ∈ _
        rw [h1]; exact List.mem_cons_self
      · exact List.mem_cons_of_mem _ h1
    · rcases List.mem_cons.mp hy with rfl | hy
      · exact h2
      · exact h3 y hy
theorem minI_mem {ns : List Int} (h : 0 < ns.length) : minI ns ∈ ns ∧ ∀ y ∈ ns, minI ns ≤ y := by
  cases ns with
  | nil => cases h
  | cons n ns =>
    obtain ⟨h1, h2, h3⟩ := foldmin ns n
    refine ⟨?_, fun y hy => ?_⟩
    · rcases h1 with h1 | h1
      · show ns.foldl min n ∈ _
        rw [h1]; exact List.mem_cons_self
      · exact List.mem_cons_of_mem _ h1
    · rcases List.mem_cons.mp hy with rfl | hy
      · exact h2
      · exact h3 y hy
def dMax (d : D) : Option D := (lstD d).bind fun ds => (intsD ds).bind fun ns => chk (0 < ns.length) (.int (maxI ns))
def dMin (d : D) : Option D := (lstD d).bind fun ds => (intsD ds).bind fun ns => chk (0 < ns.length) (.int (minI ns))
def dSum (d : D) : Option D := (lstD d).bind fun ds => (intsD ds).bind fun ns => some (.int ns.sum)
def dAll (d : D) : Option D := (lstD d).bind fun ds => (blsD ds).bind fun ns => some (.bl (ns.all id))
def dAny (d : D) : Option D := (lstD d).bind fun ds => (blsD ds).bind fun ns => some (.bl (ns.any id))
theorem cd_dMax (hc : X.calm = true) (w : Vw M x dx) (h : dMax dx = some z) (p : P z M) : CD X (.builtin "max") [x] M P := by
  obtain ⟨ds, h1, h⟩ := Option.bind_eq_some_iff.mp h
  obtain ⟨ns, h2, h⟩ := Option.bind_eq_some_iff.mp h
  obtain ⟨h3, rfl⟩ := chk_inv h
  obtain rfl := lstD_eq h1
  refine cd_maxL hc w.sl (ints_eq h2) h3 fun m hm hb => ?_
  have q := maxI_mem h3
  have e : m = maxI ns := by have a := hb _ q.1; have b := q.2 _ hm; omega
  rw [e]; exact p
theorem cd_dMin (hc : X.calm = true) (w : Vw M x dx) (h : dMin dx = some z) (p : P z M) : CD X (.builtin "min") [x] M P := by
  obtain ⟨ds, h1, h⟩ := Option.bind_eq_some_iff.mp h
  obtain ⟨ns, h2, h⟩ := Option.bind_eq_some_iff.mp h
  obtain ⟨h3, rfl⟩ := chk_inv h
  obtain rfl := lstD_eq h1
  refine cd_minL hc w.sl (ints_eq h2) h3 fun m hm hb => ?_
  have q := minI_mem h3
  have e : m = minI ns := by have a := hb _ q.1; have b := q.2 _ hm; omega
  rw [e]; exact p
theorem cd_dSum (hc : X.calm = true) (w : Vw M x dx) (h : dSum dx = some z) (p : P z M) : CD X (.builtin "sum") [x] M P := by
  obtain ⟨ds, h1, h⟩ := Option.bind_eq_some_iff.mp h
  obtain ⟨ns, h2, h⟩ := Option.bind_eq_some_iff.mp h
  cases h
  obtain rfl := lstD_eq h1
  obtain rfl := ints_eq h2
  refine ⟨_, cr_sum hc, fun F H vs Q o r k => ?_⟩
  cases r with
  | cons g1 r =>
    cases r
    obtain ⟨a, xs, rfl, g2, r2⟩ := w.sl.get o g1
    obtain rfl := r2.ints
    exact ⟨a, ns, rfl, SqL.of g2, k.here p o (.int _)⟩
theorem cd_dAll (hc : X.calm = true) (w : Vw M x dx) (h : dAll dx = some z) (p : P z M) : CD X (.builtin "all") [x] M P := by
  obtain ⟨ds, h1, h⟩ := Option.bind_eq_some_iff.mp h
  obtain ⟨ns, h2, h⟩ := Option.bind_eq_some_iff.mp h
  cases h
  obtain rfl := lstD_eq h1
  exact cd_allE hc w.sl (bls_eq h2) p
theorem cd_dAny (hc : X.calm = true) (w : Vw M x dx) (h : dAny dx = some z) (p : P z M) : CD X (.builtin "any") [x] M P := by
  obtain ⟨ds, h1, h⟩ := Option.bind_eq_some_iff.mp h
  obtain ⟨ns, h2, h⟩ := Option.bind_eq_some_iff.mp h
  cases h
  obtain rfl := lstD_eq h1
  exact cd_anyE hc w.sl (bls_eq h2) p
def dMax2 : D → D → Option D
  | .int i, .int j => some (.int (if j > i then j else i))
  | _, _ => none
def dMin2 : D → D → Option D
  | .int i, .int j => some (.int (if j < i then j else i))
  | _, _ => none
theorem cd_dMax2 (hc : X.calm = true) (w : Vw M x dx) (w2 : Vw M y dy) (h : dMax2 dx dy = some z) (p : P z M) : CD X (.builtin "max") [x, y] M P := by
  unfold dMax2 at h
  split at h
  · cases h; exact cd_by2 w rfl w2 rfl (cd_max2 hc p)
  · cases h
theorem cd_dMin2 (hc : X.calm = true) (w : Vw M x dx) (w2 : Vw M y dy) (h : dMin2 dx dy = some z) (p : P z M) : CD X (.builtin "min") [x, y] M P := by
  unfold dMin2 at h
  split at h
  · cases h; exact cd_by2 w rfl w2 rfl (cd_min2 hc p)
  · cases h
/-- repr of data without dicts -/
def dRepr (d : D) : Option D := chk (good d ∧ wt d ≤ 16000000 ∧ dep d ≤ 50) (.str (txt d))
theorem cd_dRepr (hg : X.A.guards = some []) (hu : X.A.units + 64 < cLine) (w : Vw M x dx) (h : dRepr dx = some z) (p : P z M) : CD X (.builtin "repr") [x] M P := by
  obtain ⟨⟨h1, h2, h3⟩, rfl⟩ := chk_inv h
  obtain ⟨r, g1, g2⟩ := cd_repr (X := X) hg hu h1 h2 h3 p
  refine ⟨_, call_reprD hg hu, fun F H vs Q o rs k => ?_⟩
  cases rs with
  | cons r1 rs =>
    cases rs
    refine ⟨_, _, rfl, w.dp h1 o r1, good_show h1, ?_, ?_, ?_, k.here p o (.str _)⟩
    · exact PyData.hasDict_of_canLay _ (good_lay h1)
    · have := dep_py h1; omega
    · have := wt_py h1; rw [sizeLine_eq]; omega
/-- isinstance with a built-in class -/
def dIsi (n : String) (d : D) : Option Bool := chk (plain d = true) (isi n d)
theorem cd_dIsi {n : String} (hn : n ∈ ["int", "bool", "str", "tuple", "list", "dict"]) (w : Vw M x dx) (hi : x = dx) (h : dIsi n dx = some t) (p : P (.bl t) M) : CD X (.builtin "isinstance") [x, .ty n] M P := by
  obtain ⟨h1, rfl⟩ := chk_inv h
  subst hi
  exact cd_isi hn h1 p
end
end
end DX
/-! zip of a tuple and a list, in either order -/
namespace ZMix
open PySem PySem.Spec L2 PyProof.Rows
def SeqK : Bool → Heap → Addr → Array Value → Prop
  | true, h, a, its => h.IsTuple a its
  | false, h, a, its => h.IsList a its
def WalkK : Bool → Heap → Addr → Addr → Nat → Prop
  | true, h, it, a, i => h.IsTupleIter it a i
  | false, h, it, a, i => h.IsListIter it a i
def SqK : Bool → PySem.W.Frag → Hp → Addr → List V → Prop
  | true, K, H, a, xs => SqT K H a xs
  | false, K, H, a, xs => SqL K H a xs
def objK : Bool → Addr → Obj
  | true, a => { cls := .type "tuple_iterator", data := .fields #[.ref a, .int 0 0] }
  | false, a => { cls := .type "list_iterator", data := .fields #[.ref a, .int 0 0] }
theorem walkK_at {t : Bool} {h h' : Heap} {it a : Addr} {i : Nat} (w : WalkK t h it a i) (k : ∀ o, h.get? it = some o → h'.get? it = some o) : WalkK t h' it a i := by
  cases t with
  | true => exact Heap.IsTupleIter.at w k
  | false => exact Heap.IsListIter.at w k
theorem walkK_o {t : Bool} {h : Heap} {it a : Addr} {i : Nat} (w : WalkK t h it a i) : ∃ o, h.get? it = some o ∧ ∃ f, o.data = .fields f := by
  cases t with
  | true => obtain ⟨o, h1, _, h2⟩ := w; exact ⟨o, h1, _, h2⟩
  | false => obtain ⟨o, h1, _, h2⟩ := w; exact ⟨o, h1, _, h2⟩
theorem walkK_new {t : Bool} {h : Heap} {it a : Addr} (g : h.get? it = some (objK t a)) : WalkK t h it a 0 := by
  cases t with
  | true => exact ⟨_, g, rfl, rfl⟩
  | false => exact ⟨_, g, rfl, rfl⟩
theorem drawsK (t : Bool) {prog : Program} {w : World} {A : Around} (hh : A.handled = none) (it a : Addr) (hne : a ≠ it) (its : Array Value) :
    Draws prog w A it [it, a] its.size (fun i v => its[i]? = some v) (fun i h => WalkK t h it a i ∧ SeqK t h a its) := by
  cases t with
  | true => exact Draws.tuple hh it a hne its
  | false => exact Draws.list hh it a hne its
theorem beginsK (t : Bool) (a : Addr) (its : Array Value) : Begins (.ref a) (objK t a) fun h => SeqK t h a its := by
  cases t with
  | true => exact begins_tuple a its
  | false => exact begins_list a its
theorem sqK_inv {t : Bool} {X : Cx} {pins : List (Addr × Obj)} {σ : L2.St} {H : Hp} {s : Shared} {a : Addr} {xs : List V} (I : Inv X pins σ H s) (q : SqK t X.K H a xs) :
    ∃ its : List Value, Vals xs its ∧ SeqK t s.heap a its.toArray ∧ a < s.heap.objs.size := by
  cases t with
  | true => obtain ⟨its, rv, p, _⟩ := I.tuple q; exact ⟨its, rv, p, p.lt⟩
  | false => obtain ⟨its, rv, p, _⟩ := I.list q; exact ⟨its, rv, p.isList, p.lt⟩
theorem sqK_inj {t : Bool} {X : Cx} {pins : List (Addr × Obj)} {σ : L2.St} {H : Hp} {s : Shared} {a : Addr} {xs ys : List V} (I : Inv X pins σ H s) (q : SqK t X.K H a xs) (q2 : SqK t X.K H a ys) : xs = ys := by
  cases t with
  | true => exact I.tuple_inj q q2
  | false => exact I.list_inj q q2
/-- both walked side by side, in new pairs -/
def ItM (t u : Bool) (K : PySem.W.Frag) (a b : Addr) : It :=
  ⟨fun i H => ∃ xs ys : List V, ∃ x y : V, SqK t K H a xs ∧ SqK u K H b ys ∧ xs[i]? = some x ∧ ys[i]? = some y,
   fun i H v H' => ∃ n : Addr, ∃ x y : V, v = .ref n ∧ H n = none ∧ H' = upd H n (.tup [x, y]) ∧ (∀ xs, SqK t K H a xs → xs[i]? = some x) ∧ (∀ ys, SqK u K H b ys → ys[i]? = some y),
   fun i H => ∃ xs ys : List V, SqK t K H a xs ∧ SqK u K H b ys ∧ i ≤ xs.length ∧ i ≤ ys.length ∧ (i = xs.length ∨ i = ys.length)⟩
structure Far (z TI TO i1 i2 a b : Addr) : Prop where
  s : ZipSep2 z TI TO i1 i2 [i1, a] [i2, b]
  a1 : a ≠ i1
  b1 : b ≠ i2
  i12 : i1 ≠ i2
theorem turnM {P : Program} {w : World} {K : PySem.W.Frag} {elts : List Expr} {kk : Nat} {tpos : Pos} (t u : Bool) {a b z TI TO i1 i2 : Addr} (D : Far z TI TO i1 i2 a b) :
    Turn P w K (.Tuple elts kk tpos) (ItM t u K a b) [z, TI, TO, i1, i2] z
      (fun i h => IsZip h z TI TO .none ∧ IsTupOf2 h TI (.ref i1) (.ref i2) ∧ (∃ x y, IsTupOf2 h TO x y) ∧ WalkK t h i1 a i ∧ WalkK u h i2 b i) where
  mem := by simp
  obj := fun i h st c hc => by
    obtain ⟨hz, hT, ⟨x, y, hO⟩, w1, w2⟩ := st
    obtain ⟨o1, e1, f1, d1⟩ := walkK_o w1
    obtain ⟨o2, e2, f2, d2⟩ := walkK_o w2
    rcases (show c = z ∨ c = TI ∨ c = TO ∨ c = i1 ∨ c = i2 by simpa using hc) with q | q | q | q | q <;> rw [q]
    · exact ⟨_, hz, fun v g => nomatch g⟩
    · exact ⟨_, hT, fun v g => nomatch g⟩
    · exact ⟨_, hO, fun v g => nomatch g⟩
    · exact ⟨o1, e1, fun v g => by rw [d1] at g; cases g⟩
    · exact ⟨o2, e2, fun v g => by rw [d2] at g; cases g⟩
  keep := fun i h h' st k => by
    obtain ⟨hz, hT, ⟨x, y, hO⟩, w1, w2⟩ := st
    exact ⟨k z (by simp) _ hz, k TI (by simp) _ hT, ⟨x, y, k TO (by simp) _ hO⟩, walkK_at w1 (k i1 (by simp)), walkK_at w2 (k i2 (by simp))⟩
  item := by
    intro X hP hw hK hc i pins s σ H E I hf st hg
    subst hP hw hK
    obtain ⟨hz, hT, ⟨x0, y0, hO⟩, w1, w2⟩ := st
    obtain ⟨xs, ys, x, y, hqx, hqy, hx, hy⟩ := hg
    obtain ⟨its, rv, p, _⟩ := sqK_inv I hqx
    obtain ⟨jts, rw2, p2, _⟩ := sqK_inv I hqy
    obtain ⟨v, hv, rv1⟩ := rv.get hx
    obtain ⟨v2, hv2, rv2⟩ := rw2.get hy
    have hzl : z < s.heap.objs.size := Heap.lt_size hz
    have n1 : i < its.toArray.size := by simpa using (List.getElem?_eq_some_iff.mp hv).1
    have n2 : i < jts.toArray.size := by simpa using (List.getElem?_eq_some_iff.mp hv2).1
    have hh : X.A.in1.handled = none := I.ok.hd hc
    refine wpAny_pyNext_zipD2_item D.s (drawsK t (prog := X.prog) (w := X.w) hh i1 a D.a1 its.toArray) (drawsK u hh i2 b D.b1 jts.toArray) hz hT hO ⟨w1, p⟩ ⟨w2, p2⟩ n1 n2 fun y1 y2 h' tk g1 g2 z' O' k1 k2 hN hsz hk => ?_
    obtain rfl : v = y1 := Option.some.inj ((by simpa using hv : its.toArray[i]? = some v).symm.trans g1)
    obtain rfl : v2 = y2 := Option.some.inj ((by simpa using hv2 : jts.toArray[i]? = some v2).symm.trans g2)
    refine ⟨_, rfl, wpAny_letOwnedTupleGo_zip (s := { s with heap := h', toks := tk }) z' fun h'' z'' sb => ?_⟩
    have hN2 : h''.get? s.heap.objs.size = some { cls := .type "tuple", data := .seq #[v, v2] } := (sb.2 _ (Nat.ne_of_gt hzl)).trans hN
    have new : ObjOk X.prog X.w (upd H s.heap.objs.size (.tup [x, y])) h'' s.heap.objs.size (.tup [x, y]) :=
      ⟨by show 2 ≤ sizeLine; decide, [v, v2], .cons rv1 (.cons rv2 .nil), ⟨_, hN2, rfl, _, rfl⟩⟩
    have out : ∀ c o, c ∉ [z, TI, TO, i1, i2] → s.heap.get? c = some o → h''.get? c = some o := fun c o hb q => by
      have hb' : c ≠ z ∧ c ≠ TI ∧ c ≠ TO ∧ c ≠ i1 ∧ c ≠ i2 := by simpa using hb
      exact (sb.2 c hb'.1).trans (hk c o hb'.1 hb'.2.2.1 hb'.2.2.2.1 hb'.2.2.2.2 q)
    have I1 : Inv X pins σ (upd H s.heap.objs.size (.tup [x, y])) { s with heap := h'', toks := tk } :=
      I.turnedNew (ch := [z, TI, TO, i1, i2]) out hf (Nat.le_refl _) new
    refine ⟨.ref s.heap.objs.size, _, I1, rfl, ⟨_, x, y, rfl, I.hok.fresh (Nat.le_refl _), rfl, fun l hl => (sqK_inj I hl hqx).symm ▸ hx, fun l hl => (sqK_inj I hl hqy).symm ▸ hy⟩, ⟨z'', ?_, ⟨v, v2, ?_⟩, ?_, ?_⟩, fun c hcm => ?_⟩
    · exact (sb.2 _ D.s.TIz).trans (hk _ _ D.s.TIz D.s.TITO D.s.TIi1 D.s.TIi2 hT)
    · exact (sb.2 _ D.s.TOz).trans O'
    · exact walkK_at k1.1 fun o q => (sb.2 _ D.s.zi1.symm).trans q
    · exact walkK_at k2.1 fun o q => (sb.2 _ D.s.zi2.symm).trans q
    · have hlt : c < s.heap.objs.size := by
        obtain ⟨_, e1, _⟩ := walkK_o w1
        obtain ⟨_, e2, _⟩ := walkK_o w2
        rcases (show c = z ∨ c = TI ∨ c = TO ∨ c = i1 ∨ c = i2 by simpa using hcm) with q | q | q | q | q <;> rw [q]
        · exact hzl
        · exact Heap.lt_size hT
        · exact Heap.lt_size hO
        · exact Heap.lt_size e1
        · exact Heap.lt_size e2
      rw [upd_ne (Nat.ne_of_lt hlt)]
      exact (hf c hcm).1
  done := by
    intro X hP hw hK hc i pins s σ H E I hf st hg
    subst hP hw hK
    obtain ⟨hz, hT, ⟨x0, y0, hO⟩, w1, w2⟩ := st
    obtain ⟨xs, ys, hqx, hqy, m1, m2, m3⟩ := hg
    obtain ⟨its, rv, p, _⟩ := sqK_inv I hqx
    obtain ⟨jts, rw2, p2, _⟩ := sqK_inv I hqy
    have hl1 := rv.length
    have hl2 := rw2.length
    have hh : X.A.in1.handled = none := I.ok.hd hc
    refine wpAny_pyNext_zipD2_end D.s (drawsK t (prog := X.prog) (w := X.w) hh i1 a D.a1 its.toArray) (drawsK u hh i2 b D.b1 jts.toArray) hz hT hO ⟨w1, p⟩ ⟨w2, p2⟩ (by simp; omega) (by simp; omega) (by simp; omega) fun h' tk hk => ⟨rfl, I.turnedL (t' := tk) (ch := [z, TI, TO, i1, i2]) (fun c o hb q => ?_) hf⟩
    have hb' : c ≠ z ∧ c ≠ TI ∧ c ≠ TO ∧ c ≠ i1 ∧ c ≠ i2 := by simpa using hb
    exact hk c o hb'.1 hb'.2.2.1 hb'.2.2.2.1 hb'.2.2.2.2 q
  self := fun A i s Q E st h => wpAny_pyIter_zip st.1 h
def iZipM (t u : Bool) (K : PySem.W.Frag) (ta : TA) : TI := fun σ H R => ta σ H fun vs H1 => ∃ a b : Addr, ∃ xs ys : List V, vs = [.ref a, .ref b] ∧ SqK t K H1 a xs ∧ SqK u K H1 b ys ∧ R (ItM t u K a b) H1
theorem pi_zipM (t u : Bool) {X : Cx} {e1 e2 : Expr} {ta : TA} {p pos tpos : Pos} {elts : List Expr} {kk : Nat} (hg : Gl X "zip") (hm : X.mg "zip" = none) (ha : PA X [e1, e2] ta)
    (hs : starEach [e1, e2] X.env = (false, eval e1 X.env) :: starEach [e2] X.env := by rfl) (hpl : (backTo pos (starEach [e2] X.env)).any (·.1) = false := by rfl) :
    PI X (.Tuple elts kk tpos) (.Call (.Name "zip" p) [e1, e2] [] pos) (iZipM t u X.K ta) := by
  refine ⟨fun pins s σ H R I h => ?_⟩
  refine Call_ (ld_blt I hg hm boot_zip (PyProof.Rows.callWith_type1 (thn (ha.run pos pins s σ H _ I h) fun us s1 ⟨vs, H1, I1, r1, q1⟩ => ?_) hs hpl))
  obtain ⟨a, b, xs, ys, ex, hqx, hqy, q⟩ := q1
  subst ex
  cases r1 with
  | cons r rr =>
    cases rr with
    | cons r2 rr =>
      cases rr
      cases r
      cases r2
      obtain ⟨its, rv, g1, la⟩ := sqK_inv I1 hqx
      obtain ⟨jts, rw2, g2, lb⟩ := sqK_inv I1 hqy
      refine zip_begins2 (beginsK t a its.toArray) (beginsK u b jts.toArray) g1 g2 fun h' hz hT hO ho1 ho2 hsz hk => wpAny_pyIter_zip hz ?_
      have I2 : Inv X pins σ H1 { s1 with heap := h' } := I1.kept (t' := s1.toks) hk
      refine ⟨s1.heap.objs.size + 4, [s1.heap.objs.size + 4, s1.heap.objs.size + 2, s1.heap.objs.size + 3, s1.heap.objs.size, s1.heap.objs.size + 1], _, _, H1, rfl, I2,
        turnM t u (a := a) (b := b) (z := s1.heap.objs.size + 4) (TI := s1.heap.objs.size + 2) (TO := s1.heap.objs.size + 3) (i1 := s1.heap.objs.size) (i2 := s1.heap.objs.size + 1) ⟨?_, Nat.ne_of_lt la, Nat.ne_of_lt (Nat.lt_succ_of_lt lb), (Nat.succ_ne_self _).symm⟩, ⟨hz, hT, ⟨_, _, hO⟩, walkK_new ho1, walkK_new ho2⟩, fun c hcm => ?_, q⟩
      · have na : ∀ k : Nat, a ≠ s1.heap.objs.size + k := fun k => Nat.ne_of_lt (Nat.lt_of_lt_of_le la (Nat.le_add_right _ _))
        have nb : ∀ k : Nat, b ≠ s1.heap.objs.size + k := fun k => Nat.ne_of_lt (Nat.lt_of_lt_of_le lb (Nat.le_add_right _ _))
        have nb0 : b ≠ s1.heap.objs.size := nb 0
        have na0 : a ≠ s1.heap.objs.size := na 0
        constructor <;> simp [(na _).symm, (nb _).symm, nb0.symm, na0.symm, Addr]
      · have hle : s1.heap.objs.size ≤ c := by
          rcases (show c = s1.heap.objs.size + 4 ∨ c = s1.heap.objs.size + 2 ∨ c = s1.heap.objs.size + 3 ∨ c = s1.heap.objs.size ∨ c = s1.heap.objs.size + 1 by simpa using hcm) with g | g | g | g | g <;> rw [g] <;> first | exact Nat.le_add_right _ _ | exact Nat.le_refl _
        exact I1.fpOk hle (I1.hok.fresh hle)
end ZMix
namespace DX
open PySem PySem.Spec L2 ZMix
variable {X : Cx} {J : Gh} {M : Mem} {F : Hp} {K : PySem.W.Frag} {ρ : DEnv} {a b : Expr} {p pos : Pos}
theorem sqK_ex {t : Bool} {H : Hp} {q : Addr} {xs : List V} (e : Same F H) (h : SqK t K F q xs) : SqK t K H q xs := by
  cases t with
  | true => exact same_t e h
  | false => exact same_l e h
theorem wk_zipM (t u : Bool) {q r : Addr} {xs ys : List V} {ds es : List D} (h : SqK t K F q xs) (g : SqK u K F r ys) (hx : Rps K F xs ds) (hy : Rps K F ys es) : Wk K F (ItM t u K q r) (zipD ds es) := by
  have lx := hx.length
  have ly := hy.length
  refine ⟨fun i H hi s => ?_, fun H s => ⟨xs, ys, sqK_ex s h, sqK_ex s g, ?_⟩, fun i d H x H' F1 M hd s o y => ?_⟩
  · rw [zipD_len] at hi
    exact ⟨xs, ys, xs[i]'(by omega), ys[i]'(by omega), sqK_ex s h, sqK_ex s g, by simp, by simp⟩
  · rw [zipD_len]; omega
  · obtain ⟨n, v1, v2, rfl, hn, rfl, c1, c2⟩ := y
    obtain ⟨d1, d2, g1, g2, rfl⟩ := zipD_at hd
    obtain ⟨w1, k1, k2⟩ := hx.get g1
    obtain ⟨w2, k3, k4⟩ := hy.get g2
    obtain rfl : w1 = v1 := Option.some.inj (k1.symm.trans (c1 xs (sqK_ex o.ex (sqK_ex s h))))
    obtain rfl : w2 = v2 := Option.some.inj (k3.symm.trans (c2 ys (sqK_ex o.ex (sqK_ex s g))))
    exact pair_new (x := d1) (y := d2) o hn (k2.mono s) (k4.mono s)
theorem ix_zipTL {elts : List Expr} {kk : Nat} {tpos : Pos} {P : List D → Mem → Prop} (hm : X.mg "zip" = none) (h : AX X J [a, b] ρ M fun ws M2 => ∃ ds es : List D, ws = [.tup ds, .lst es] ∧ P (zipD ds es) M2) (hg : Gl X "zip" := by rfl)
    (hs : starEach [a, b] X.env = (false, eval a X.env) :: starEach [b] X.env := by rfl) (hpl : (backTo pos (starEach [b] X.env)).any (·.1) = false := by rfl) : IX X J (.Tuple elts kk tpos) (.Call (.Name "zip" p) [a, b] [] pos) ρ M P :=
  ix_of (pi_zipM true false hg hm pa_any hs hpl) fun F σ H R s k => h.go s fun ws vs M2 F2 H2 q e1 o2 r1 => by
    obtain ⟨ds, es, rfl, q2⟩ := q
    cases r1 with
    | cons h1 r1 =>
      cases r1 with
      | cons h2 r1 =>
        cases r1
        cases h1 with
        | tup h1 k1 =>
          cases h2 with
          | lst h2 k2 => exact ⟨_, _, _, _, rfl, same_t o2.ex h1, SqL.of (o2.ex _ _ h2), k _ _ M2 F2 H2 q2 e1 o2 (wk_zipM true false h1 (SqL.of h2) k1 k2)⟩
theorem ix_zipLT {elts : List Expr} {kk : Nat} {tpos : Pos} {P : List D → Mem → Prop} (hm : X.mg "zip" = none) (h : AX X J [a, b] ρ M fun ws M2 => ∃ ds es : List D, ws = [.lst ds, .tup es] ∧ P (zipD ds es) M2) (hg : Gl X "zip" := by rfl)
    (hs : starEach [a, b] X.env = (false, eval a X.env) :: starEach [b] X.env := by rfl) (hpl : (backTo pos (starEach [b] X.env)).any (·.1) = false := by rfl) : IX X J (.Tuple elts kk tpos) (.Call (.Name "zip" p) [a, b] [] pos) ρ M P :=
  ix_of (pi_zipM false true hg hm pa_any hs hpl) fun F σ H R s k => h.go s fun ws vs M2 F2 H2 q e1 o2 r1 => by
    obtain ⟨ds, es, rfl, q2⟩ := q
    cases r1 with
    | cons h1 r1 =>
      cases r1 with
      | cons h2 r1 =>
        cases r1
        cases h1 with
        | lst h1 k1 =>
          cases h2 with
          | tup h2 k2 => exact ⟨_, _, _, _, rfl, SqL.of (o2.ex _ _ h1), same_t o2.ex h2, k _ _ M2 F2 H2 q2 e1 o2 (wk_zipM false true (SqL.of h1) h2 k1 k2)⟩
end DX
/-! loops, comprehensions, lists that change: plain functions, and the rules that follow them -/
namespace DX
open PySem PySem.Spec L2 SX
noncomputable section
/-! ### plain -/
inductive Ctl (S R : Type) where
  | go (s : S) | brk (s : S) | ret (r : R)
def foldO {S : Type} (f : S → D → Option S) : S → List D → Option S
  | s, [] => some s
  | s, x :: xs => (f s x).bind fun s' => foldO f s' xs
/-- how a loop that may be left ends: brk never -/
def loopC {S R : Type} (f : S → D → Option (Ctl S R)) : S → List D → Option (Ctl S R)
  | s, [] => some (.go s)
  | s, x :: xs => (f s x).bind fun
    | .go s' => loopC f s' xs
    | .brk s' => some (.go s')
    | .ret r => some (.ret r)
def ctl {S R T : Type} (c : Ctl S R) (f : S → Option T) (g : R → Option T) : Option T := match c with
  | .go s => f s
  | .brk s => f s
  | .ret r => g r
theorem ctl_ret {S R T : Type} {c : Ctl S R} {f : S → Option T} {g : R → Option T} {v : R} {z : T} (h : ctl c f g = some z) (e : c = .ret v) : g v = some z := by subst e; exact h
theorem ctl_retS {S R : Type} {c : Ctl S R} {f : S → Option R} {v z : R} (h : ctl c f (fun v => some v) = some z) (e : c = .ret v) : some v = some z := by subst e; exact h
theorem ctl_retR {S R T : Type} {c : Ctl S R} {f : S → Option (Ctl T R)} {v : R} {z : Ctl T R} (h : ctl c f (fun v => some (.ret v)) = some z) (e : c = .ret v) : some (.ret v) = some z := by subst e; exact h
theorem ctl_go {S R T : Type} {c : Ctl S R} {f : S → Option T} {g : R → Option T} {v : S} {z : T} (h : ctl c f g = some z) (e : c = .go v) : f v = some z := by subst e; exact h
def whileO {S : Type} (c : S → Option Bool) (f : S → Option S) : Nat → S → Option S
  | 0, _ => none
  | n + 1, s => (c s).bind fun t => if t = true then (f s).bind fun s' => whileO c f n s' else some s
def mapO (f : D → Option D) : List D → Option (List D)
  | [] => some []
  | x :: xs => (f x).bind fun y => (mapO f xs).map fun ys => y :: ys
def filtO (f : D → Option (Option D)) : List D → Option (List D)
  | [] => some []
  | x :: xs => (f x).bind fun o => (filtO f xs).map fun ys => match o with
    | some y => y :: ys
    | none => ys
def mapS {S : Type} (f : S → D → Option (D × S)) : S → List D → Option (List D × S)
  | s, [] => some ([], s)
  | s, x :: xs => (f s x).bind fun p => (mapS f p.2 xs).map fun q => (p.1 :: q.1, q.2)
def filtS {S : Type} (f : S → D → Option (Option D × S)) : S → List D → Option (List D × S)
  | s, [] => some ([], s)
  | s, x :: xs => (f s x).bind fun p => (filtS f p.2 xs).map fun q => (match p.1 with
    | some y => y :: q.1
    | none => q.1, q.2)
/-- the tuple's parts -/
def un1 : D → Option D
  | .tup [a] => some a
  | _ => none
def un2 : D → Option (D × D)
  | .tup [a, b] => some (a, b)
  | _ => none
def un3 : D → Option (D × D × D)
  | .tup [a, b, c] => some (a, b, c)
  | _ => none
def un4 : D → Option (D × D × D × D)
  | .tup [a, b, c, d] => some (a, b, c, d)
  | _ => none
def un5 : D → Option (D × D × D × D × D)
  | .tup [a, b, c, d, e] => some (a, b, c, d, e)
  | _ => none
theorem un1_eq {d a : D} (h : un1 d = some a) : d = .tup [a] := by unfold un1 at h; split at h <;> cases h; rfl
theorem un2_eq {d : D} {p : D × D} (h : un2 d = some p) : d = .tup [p.1, p.2] := by unfold un2 at h; split at h <;> cases h; rfl
theorem un3_eq {d : D} {p : D × D × D} (h : un3 d = some p) : d = .tup [p.1, p.2.1, p.2.2] := by unfold un3 at h; split at h <;> cases h; rfl
theorem un4_eq {d : D} {p : D × D × D × D} (h : un4 d = some p) : d = .tup [p.1, p.2.1, p.2.2.1, p.2.2.2] := by unfold un4 at h; split at h <;> cases h; rfl
theorem un5_eq {d : D} {p : D × D × D × D × D} (h : un5 d = some p) : d = .tup [p.1, p.2.1, p.2.2.1, p.2.2.2.1, p.2.2.2.2] := by unfold un5 at h; split at h <;> cases h; rfl
/-- what is walked -/
def dIter : D → Option (List D)
  | .lst ds => some ds
  | .tup ds => some ds
  | .str z => some (signs z)
  | _ => none
def dZip : D → D → Option (List D)
  | .lst a, .lst b => some (zipD a b)
  | .tup a, .tup b => some (zipD a b)
  | .tup a, .lst b => some (zipD a b)
  | .lst a, .tup b => some (zipD a b)
  | _, _ => none
def dEnum : D → Option (List D)
  | .lst a => some (enumD 0 a)
  | .tup a => some (enumD 0 a)
  | _ => none
def dRange : List D → Option (List D)
  | [.int j] => chk (-1000000 ≤ j ∧ j ≤ 1000000) (rngD 0 j.toNat)
  | [.int i, .int j] => chk ((0 ≤ i ∧ i ≤ 1000000) ∧ -1000000 ≤ j ∧ j ≤ 1000000) (rngD i (j - i).toNat)
  | [.int i, .int j, .int c] => if c = -1 then chk ((-1000000 ≤ i ∧ i ≤ 1000000) ∧ -1000000 ≤ j ∧ j ≤ 1000000) (rngC i (-1) (i - j).toNat)
    else chk ((-1000000 ≤ i ∧ i ≤ 1000000) ∧ (-1000000 ≤ j ∧ j ≤ 1000000) ∧ 1 ≤ c ∧ c ≤ 1000) (rngC i c (cntP i j c))
  | _ => none
/-- x[i] = v; x.pop(i); x.pop() -/
def lSet (l : List D) (i v : D) : Option (List D) := match i with
  | .int n => (ixN l.length n).map fun m => l.set m v
  | _ => none
def lPopAt (l : List D) (i : D) : Option (D × List D) := match i with
  | .int n => (chk (-(2 ^ 62) ≤ n ∧ n < 2 ^ 62) ()).bind fun _ => (ixN l.length n).bind fun m => (l[m]?).map fun v => (v, l.eraseIdx m)
  | _ => none
def lPop (l : List D) : Option (D × List D) := (l[l.length - 1]?).map fun v => (v, l.dropLast)
def dJoin (z d : D) : Option D := match z, itemsD d with
  | .str z, some ds => chk (AllS ds ∧ sizeJ ds + ds.length * z.length ≤ 16777216) (.str (Txt.join z (ds.map toS)))
  | _, _ => none
section
variable {X : Cx} {J : Gh} {e a b c o : Expr} {es : List Expr} {ρ ρ' : DEnv} {M M' M0 M1 : Mem} {F F' H H' : Hp} {σ : L2.St} {B : Bd} {K : PySem.W.Frag} {pos p apos cpos : Pos} {x y dx dy z : D} {P : D → Mem → Prop} {t : Bool}
/-! ### memory: what is forgotten, what is frozen -/
theorem up_none {a b : Addr} {d : D} (h : up M a d b = none) : a ≠ b ∧ M b = none := by
  unfold up at h
  split at h
  · cases h
  · rename_i q; exact ⟨fun e => q e.symm, h⟩
theorem nn {a b : Addr} {d : D} (q : a ≠ b) (h : M b = none) : up M a d b = none := by rw [up_ne (Ne.symm q)]; exact h
theorem At.ne {h b : Addr} {d : D} {f : D → Mem} (A : At M h d f) (q : M b = none) : h ≠ b := by rintro rfl; rw [A.get] at q; cases q
theorem fresh1 {W : D → Mem} {p b : Addr} (hW : ∀ x, At (W x) p x W) {x : D} (h : W x b = none) (y : D) : W y b = none := by
  rw [(hW x).set y, up_ne (Ne.symm ((hW x).ne h))]; exact h
theorem fresh2 {W : D → D → Mem} {p q b : Addr} (h1 : ∀ x y, At (W x y) p x fun z => W z y) (h2 : ∀ x y, At (W x y) q y fun z => W x z) {x y : D} (h : W x y b = none) (x' y' : D) : W x' y' b = none := by
  have g1 : W x' y b = none := by rw [(h1 x y).set x', up_ne (Ne.symm ((h1 x y).ne h))]; exact h
  rw [(h2 x' y).set y', up_ne (Ne.symm ((h2 x' y).ne g1))]; exact g1
def Sub (M0 M1 : Mem) : Prop := ∀ a d, M0 a = some d → M1 a = some d
theorem sub_refl : Sub M M := fun _ _ h => h
theorem sub_drop {a : Addr} {d : D} (s : Sub M0 M1) (h : M1 a = none) : Sub M0 (up M1 a d) := fun b d' q => by
  have q1 := s b d' q
  rw [up_ne (fun e => by rw [e, h] at q1; cases q1)]; exact q1
theorem sub_keep {a : Addr} {d : D} (s : Sub M0 M1) : Sub (up M0 a d) (up M1 a d) := fun b d' q => by
  unfold up at q ⊢
  split at q
  · rename_i e; rw [if_pos e]; exact q
  · rename_i e; rw [if_neg e]; exact s b d' q
def SubX (p : Addr) (M0 M1 : Mem) : Prop := ∀ a d, M0 a = some d → a ≠ p ∧ M1 a = some d
theorem subx_here {p : Addr} {d : D} (h : M p = none) : SubX p M (up M p d) := fun a d' q => by
  have : a ≠ p := fun e => by rw [e, h] at q; cases q
  exact ⟨this, by rw [up_ne this]; exact q⟩
theorem subx_keep {p a : Addr} {d : D} (n : p ≠ a) (s : SubX p M0 M1) : SubX p (up M0 a d) (up M1 a d) := fun b d' q => by
  unfold up at q ⊢
  split at q
  · rename_i e; rw [if_pos e]; exact ⟨fun z => n (z.symm.trans e), q⟩
  · rename_i e; rw [if_neg e]; exact s b d' q
theorem Ok.sub (o : Ok K F M1 H) (s : Sub M0 M1) : Ok K F M0 H := ⟨o.ex, fun a d h => o.mt a d (s a d h)⟩
theorem Ok.frz {p : Addr} {u : HO} (o : Ok K F M1 H) (s : SubX p M0 M1) {d : D} (hp : M1 p = some d) (hH : H p = some u) : Same F (upd F p u) ∧ Ok K (upd F p u) M0 H := by
  obtain ⟨h1, h2⟩ := o.freeze hp hH
  refine ⟨h1, h2.sub fun a d' q => ?_⟩
  obtain ⟨q1, q2⟩ := s a d' q
  unfold rm; rw [if_neg q1]; exact q2
theorem ex_less (h : EX X J e ρ M fun d M1 => ∃ M0, Sub M0 M1 ∧ P d M0) : EX X J e ρ M P :=
  ex_of h fun F σ H Q st k => ⟨F, st, fun d v M' F' H' q e1 o1 r1 => by
    obtain ⟨M0, s, q⟩ := q
    exact k d v M0 F' H' q e1 (o1.sub s) r1⟩
theorem gx_less {sts : List Stmt} (s : Sub M0 M) (h : GX X J sts ρ M0 B) : GX X J sts ρ M B :=
  ⟨fun pins sh σ H E I ⟨F, st, k⟩ => h.run pins sh σ H E I ⟨F, ⟨st.en, st.ok.sub s, st.gh⟩, k⟩⟩
theorem Mt.rp {p : Addr} {d : D} {u : HO} (m : Mt K F H p d) (h : H p = some u) (s : Same F F') (hF : F' p = some u) (hf : frzD d = true) : Rp K F' (.ref p) d := by
  cases d <;> first
    | exact m.elim
    | (cases hf; done)
    | (obtain ⟨xs, g1, g2⟩ := m; rw [h] at g1; cases g1; first | exact .lst hF (g2.mono s) | exact .dct hF (g2.mono s))
    | (obtain ⟨dx, fs, g1, g2⟩ := m; rw [h] at g1; cases g1; exact .ins hF (g2.mono s))
theorem gx_frzA {sts : List Stmt} {p : Addr} {d : D} (i : Nat) (hi : DX.look ρ i = some (.adr p)) (hp : M p = some d) (sx : SubX p M0 M) (h : GX X J sts (DX.put ρ i d) M0 B) (hf : frzD d = true := by rfl) : GX X J sts ρ M B :=
  ⟨fun pins s σ H E I ⟨F, st, k⟩ => by
    obtain ⟨u, hu⟩ := (st.ok.mt p _ hp).2.there
    obtain ⟨s1, o4⟩ := st.ok.frz sx hp hu
    exact h.run pins s σ H E I ⟨_, ⟨(st.en.mono s1).frz hi ((st.ok.mt p _ hp).2.rp hu s1 upd_same hf), o4, J.mono _ _ s1 st.gh⟩, ⟨fun F' σ' H' ρ' M' q z1 z2 z3 => k.nx F' σ' H' ρ' M' q (s1.trans z1) z2 z3, k.rt.to s1, fun F' σ' H' ρ' M' q z1 z2 z3 => k.bk F' σ' H' ρ' M' q (s1.trans z1) z2 z3, fun F' σ' H' ρ' M' q z1 z2 z3 => k.ct F' σ' H' ρ' M' q (s1.trans z1) z2 z3⟩⟩⟩
theorem ex_frzA (h : EX X J e ρ M fun x M1 => ∃ p ds M0, x = .adr p ∧ M1 p = some (.lst ds) ∧ SubX p M0 M1 ∧ P (.lst ds) M0) : EX X J e ρ M P :=
  ex_of h fun F σ H Q st k => ⟨F, st, fun d v M' F' H' q e1 o1 r1 => by
    obtain ⟨p, d, M0, rfl, hp, sx, q⟩ := q
    cases r1
    obtain ⟨u, hu⟩ := (o1.mt p _ hp).2.there
    obtain ⟨s1, o4⟩ := o1.frz sx hp hu
    exact k (.lst d) _ M0 _ H' q (e1.trans s1) o4 ((o1.mt p _ hp).2.rp hu s1 upd_same rfl)⟩
/-! ### what is returned -/
theorem ret0 {v r : D} (e : v = r) (k : P r M) : P v M := by subst e; exact k
theorem ret1 {v : D} {r : D × List D} {l : List D} {W : D → Mem} (e : (v, l) = r) (k : P r.1 (W (.lst r.2))) : P v (W (.lst l)) := by subst e; exact k
theorem ret2 {v : D} {r : D × List D × List D} {l m : List D} {W : D → D → Mem} (e : (v, l, m) = r) (k : P r.1 (W (.lst r.2.1) (.lst r.2.2))) : P v (W (.lst l) (.lst m)) := by subst e; exact k
/-! ### targets -/
theorem as_eq {tg : Expr} {d d' : D} {Q : DEnv → Prop} (e : d = d') (h : AsD X tg d' ρ Q) : AsD X tg d ρ Q := by subst e; exact h
theorem asb_eq {scope : Scope} {vs : List Nat} {tg : Expr} {d d' : D} {Q : DEnv → Prop} (e : d = d') (h : AsB X scope vs tg d' ρ Q) : AsB X scope vs tg d ρ Q := by subst e; exact h
/-! ### what is walked -/
theorem ix_seqU {tg : Expr} {v : D} {ds : List D} {M2 : Mem} {P : List D → Mem → Prop} (h : EX X J e ρ M fun d M' => d = v ∧ M' = M2) (hv : dIter v = some ds) (k : P ds M2) : IX X J tg e ρ M P := by
  cases v <;> cases hv
  · exact ix_str (h.imp fun d M' q => ⟨_, q.1, by rw [q.2]; exact k⟩)
  · exact ix_tup (h.imp fun d M' q => ⟨_, q.1, by rw [q.2]; exact k⟩)
  · exact ix_lst (h.imp fun d M' q => ⟨_, q.1, by rw [q.2]; exact k⟩)
theorem AX.imp {P' Q' : List D → Mem → Prop} (h : AX X J es ρ M P') (k : ∀ d M', P' d M' → Q' d M') : AX X J es ρ M Q' := ax_of h fun F σ H Q st q => ⟨F, st, fun d v M' F' H' p => q d v M' F' H' (k d M' p)⟩
theorem ix_enumU {elts : List Expr} {kk : Nat} {tpos : Pos} {v : D} {ds : List D} {M2 : Mem} {P : List D → Mem → Prop} (hm : X.mg "enumerate" = none) (h : AX X J [a] ρ M fun ws M' => ws = [v] ∧ M' = M2) (hv : dEnum v = some ds) (k : P ds M2) (hg : Gl X "enumerate" := by rfl)
    (hs : starEach [a] X.env = [(false, eval a X.env)] := by rfl) : IX X J (.Tuple elts kk tpos) (.Call (.Name "enumerate" p) [a] [] pos) ρ M P := by
  cases v <;> cases hv
  · exact ix_enumT hm (h.imp fun d M' q => ⟨_, q.1, by rw [q.2]; exact k⟩) hg hs
  · exact ix_enum hm (h.imp fun d M' q => ⟨_, q.1, by rw [q.2]; exact k⟩) hg hs
theorem ix_zipU {elts : List Expr} {kk : Nat} {tpos : Pos} {v w : D} {ds : List D} {M2 : Mem} {P : List D → Mem → Prop} (hm : X.mg "zip" = none) (h : AX X J [a, b] ρ M fun ws M' => ws = [v, w] ∧ M' = M2) (hv : dZip v w = some ds) (k : P ds M2) (hg : Gl X "zip" := by rfl)
    (hs : starEach [a, b] X.env = (false, eval a X.env) :: starEach [b] X.env := by rfl) (hpl : (backTo pos (starEach [b] X.env)).any (·.1) = false := by rfl) : IX X J (.Tuple elts kk tpos) (.Call (.Name "zip" p) [a, b] [] pos) ρ M P := by
  unfold dZip at hv
  split at hv
  · cases hv; exact ix_zip hm (h.imp fun d M' q => ⟨_, _, _, _, q.1, .lst, by rw [q.2]; exact k⟩) hg hs hpl
  · cases hv; exact ix_zip hm (h.imp fun d M' q => ⟨_, _, _, _, q.1, .tup, by rw [q.2]; exact k⟩) hg hs hpl
  · cases hv; exact ix_zipTL hm (h.imp fun d M' q => ⟨_, _, q.1, by rw [q.2]; exact k⟩) hg hs hpl
  · cases hv; exact ix_zipLT hm (h.imp fun d M' q => ⟨_, _, q.1, by rw [q.2]; exact k⟩) hg hs hpl
  · cases hv
theorem ix_range1U {tg : Expr} {v : D} {ds : List D} {M2 : Mem} {P : List D → Mem → Prop} (hm : X.mg "range" = none) (h : AX X J [a] ρ M fun ws M' => ws = [v] ∧ M' = M2) (hv : dRange [v] = some ds) (k : P ds M2) (hg : Gl X "range" := by rfl)
    (hs : starEach [a] X.env = [(false, eval a X.env)] := by rfl) : IX X J tg (.Call (.Name "range" p) [a] [] pos) ρ M P := by
  cases v <;> first | (cases hv; done) | skip
  obtain ⟨h1, rfl⟩ := chk_inv hv
  exact ix_range1 hm (h.imp fun d M' q => ⟨_, q.1, ⟨by omega, by omega⟩, by rw [q.2]; exact k⟩) hg hs
theorem ix_range2U {tg : Expr} {v w : D} {ds : List D} {M2 : Mem} {P : List D → Mem → Prop} (hm : X.mg "range" = none) (h : AX X J [a, b] ρ M fun ws M' => ws = [v, w] ∧ M' = M2) (hv : dRange [v, w] = some ds) (k : P ds M2) (hg : Gl X "range" := by rfl)
    (hs : starEach [a, b] X.env = [(false, eval a X.env), (false, eval b X.env)] := by rfl) (hs2 : starEach [b] X.env = [(false, eval b X.env)] := by rfl) : IX X J tg (.Call (.Name "range" p) [a, b] [] pos) ρ M P := by
  cases v <;> first | (cases hv; done) | skip
  cases w <;> first | (cases hv; done) | skip
  obtain ⟨h1, rfl⟩ := chk_inv hv
  exact ix_range2 hm (h.imp fun d M' q => ⟨_, _, q.1, ⟨by omega, by omega, by omega, by omega⟩, by rw [q.2]; exact k⟩) hg hs hs2
theorem ix_range3U {tg : Expr} {v w : D} {ds : List D} {M2 : Mem} {P : List D → Mem → Prop} (hm : X.mg "range" = none) (h : AX X J [a, b, c] ρ M fun ws M' => ws = [v, w, .int (-1)] ∧ M' = M2) (hv : dRange [v, w, .int (-1)] = some ds) (k : P ds M2) (hg : Gl X "range" := by rfl)
    (hs : starEach [a, b, c] X.env = (false, eval a X.env) :: starEach [b, c] X.env := by rfl) (hpl : (backTo pos (starEach [b, c] X.env)).any (·.1) = false := by rfl) : IX X J tg (.Call (.Name "range" p) [a, b, c] [] pos) ρ M P := by
  cases v <;> first | (cases hv; done) | skip
  cases w <;> first | (cases hv; done) | skip
  unfold dRange at hv
  dsimp only at hv
  rw [if_pos rfl] at hv
  obtain ⟨h1, rfl⟩ := chk_inv hv
  exact ix_range3 hm (h.imp fun d M' q => ⟨_, _, q.1, h1, by rw [q.2]; exact k⟩) hg hs hpl
theorem ix_rangePU {tg : Expr} {v w u : D} {ds : List D} {M2 : Mem} {P : List D → Mem → Prop} (hm : X.mg "range" = none) (h : AX X J [a, b, c] ρ M fun ws M' => ws = [v, w, u] ∧ M' = M2) (hu : ∀ z, u = .int z → 1 ≤ z) (hv : dRange [v, w, u] = some ds) (k : P ds M2) (hg : Gl X "range" := by rfl)
    (hs : starEach [a, b, c] X.env = (false, eval a X.env) :: starEach [b, c] X.env := by rfl) (hpl : (backTo pos (starEach [b, c] X.env)).any (·.1) = false := by rfl) : IX X J tg (.Call (.Name "range" p) [a, b, c] [] pos) ρ M P := by
  cases v <;> first | (cases hv; done) | skip
  cases w <;> first | (cases hv; done) | skip
  cases u <;> first | (cases hv; done) | skip
  rename_i z
  have hz := hu z rfl
  unfold dRange at hv
  dsimp only at hv
  rw [if_neg (by omega)] at hv
  obtain ⟨h1, rfl⟩ := chk_inv hv
  exact ix_rangeP hm (h.imp fun d M' q => ⟨_, _, _, q.1, h1, by rw [q.2]; exact k⟩) hg hs hpl
theorem rg_d {vs ds : List D} (h : dRange vs = some ds) (hc : ∀ i j c, vs = [.int i, .int j, .int c] → c = -1) : ∃ i c n, Rg vs i c n ∧ ds = rngC i c n := by
  unfold dRange at h
  split at h
  · obtain ⟨h1, rfl⟩ := chk_inv h; exact ⟨_, _, _, rg1 (by omega), rngC_one.symm⟩
  · obtain ⟨h1, rfl⟩ := chk_inv h; exact ⟨_, _, _, rg2 (by omega), rngC_one.symm⟩
  · rename_i i j c
    obtain rfl := hc _ _ _ rfl
    rw [if_pos rfl] at h
    obtain ⟨h1, rfl⟩ := chk_inv h; exact ⟨_, _, _, rg3 h1, rfl⟩
  · cases h
/-! ### loops -/
section
variable {S R : Type} {xs : List D} {tg : Expr} {stm : List Stmt}
theorem drop_at {i : Nat} {d : D} (h : xs[i]? = some d) : xs.drop i = d :: xs.drop (i + 1) := by
  have hi : i < xs.length := by
    by_cases q : i < xs.length
    · exact q
    · rw [List.getElem?_eq_none (by omega)] at h; cases h
  rw [List.getElem?_eq_getElem hi] at h
  cases h
  exact List.drop_eq_getElem_cons hi
theorem forF {f : S → D → Option S} {s0 sN : S} (hl : foldO f s0 xs = some sN) (V : S → DEnv → Mem → Prop) (h0 : V s0 ρ M)
    (hs : ∀ d s s', f s d = some s' → ∀ ρ' M', V s ρ' M' → AsD X tg d ρ' fun ρ2 => GX X J stm ρ2 M' ⟨V s', B.rt, B.nx, V s'⟩) (hd : ∀ ρ' M', V sN ρ' M' → B.nx ρ' M') :
    ∃ Wd : Nat → DEnv → Mem → Prop, Wd 0 ρ M ∧ (∀ i d ρ' M', xs[i]? = some d → Wd i ρ' M' → AsD X tg d ρ' fun ρ2 => GX X J stm ρ2 M' ⟨Wd (i + 1), B.rt, B.nx, Wd (i + 1)⟩) ∧ ∀ ρ' M', Wd xs.length ρ' M' → B.nx ρ' M' := by
  refine ⟨fun i ρ' M' => ∃ s, foldO f s (xs.drop i) = some sN ∧ V s ρ' M', ⟨s0, hl, h0⟩, fun i d ρ' M' hi ⟨s, h1, h2⟩ => ?_, fun ρ' M' ⟨s, h1, h2⟩ => ?_⟩
  · rw [drop_at hi, foldO] at h1
    obtain ⟨s', h3, h4⟩ := Option.bind_eq_some_iff.mp h1
    obtain ⟨g, hg, h⟩ := hs d s s' h3 ρ' M' h2
    exact ⟨g, hg, fun F M v σ H Q o r en k => h F M v σ H Q o r en fun σ' ρ2 q en2 => k σ' ρ2 (q.imp (fun _ _ z => ⟨s', h4, z⟩) (fun _ _ z => z) (fun _ _ z => z) (fun _ _ z => ⟨s', h4, z⟩)) en2⟩
  · rw [List.drop_length, foldO] at h1
    cases h1
    exact hd ρ' M' h2
theorem forC {f : S → D → Option (Ctl S R)} {s0 : S} {c : Ctl S R} (hl : loopC f s0 xs = some c) (V : S → DEnv → Mem → Prop) (h0 : V s0 ρ M)
    (hs : ∀ d s b, f s d = some b → (∀ r, b = .ret r → c = .ret r) → ∀ ρ' M', V s ρ' M' → AsD X tg d ρ' fun ρ2 => GX X J stm ρ2 M' ⟨fun ρ M => ∃ s', b = .go s' ∧ V s' ρ M, B.rt, fun ρ M => ∃ s', b = .brk s' ∧ V s' ρ M, fun ρ M => ∃ s', b = .go s' ∧ V s' ρ M⟩)
    (hd : ∀ s', c = .go s' → ∀ ρ' M', V s' ρ' M' → B.nx ρ' M') :
    ∃ Wd : Nat → DEnv → Mem → Prop, Wd 0 ρ M ∧ (∀ i d ρ' M', xs[i]? = some d → Wd i ρ' M' → AsD X tg d ρ' fun ρ2 => GX X J stm ρ2 M' ⟨Wd (i + 1), B.rt, B.nx, Wd (i + 1)⟩) ∧ ∀ ρ' M', Wd xs.length ρ' M' → B.nx ρ' M' := by
  refine ⟨fun i ρ' M' => ∃ s, loopC f s (xs.drop i) = some c ∧ V s ρ' M', ⟨s0, hl, h0⟩, fun i d ρ' M' hi ⟨s, h1, h2⟩ => ?_, fun ρ' M' ⟨s, h1, h2⟩ => ?_⟩
  · rw [drop_at hi, loopC] at h1
    obtain ⟨b, h3, h4⟩ := Option.bind_eq_some_iff.mp h1
    obtain ⟨g, hg, h⟩ := hs d s b h3 (fun r e => by subst e; cases h4; rfl) ρ' M' h2
    refine ⟨g, hg, fun F M v σ H Q o r en k => h F M v σ H Q o r en fun σ' ρ2 q en2 => k σ' ρ2 (q.imp (fun _ _ z => ?_) (fun _ _ z => z) (fun _ _ z => ?_) (fun _ _ z => ?_)) en2⟩
    · obtain ⟨s', e, z⟩ := z; subst e; exact ⟨s', h4, z⟩
    · obtain ⟨s', e, z⟩ := z; subst e; exact hd s' (so h4).symm _ _ z
    · obtain ⟨s', e, z⟩ := z; subst e; exact ⟨s', h4, z⟩
  · rw [List.drop_length, loopC] at h1
    exact hd s (so h1).symm ρ' M' h2
theorem whF {cF : S → Option Bool} {f : S → Option S} {n : Nat} {s0 sN : S} {c : Expr} (hp : PassesOwn (model X.prog X.w) X.A X.env X.xe) (hl : whileO cF f n s0 = some sN) (V : S → DEnv → Mem → Prop) (h0 : V s0 ρ M)
    (hs : ∀ s t ρ' M', cF s = some t → V s ρ' M' → TX X J c ρ' M' fun t' M1 => t' = t ∧ M1 = M')
    (hb : ∀ s s' ρ' M', f s = some s' → V s ρ' M' → GX X J stm ρ' M' ⟨V s', B.rt, B.nx, V s'⟩) (hd : ∀ ρ' M', V sN ρ' M' → B.nx ρ' M') : G1 X J (.While c stm [] pos) ρ M B := by
  refine g1_while hp (fun m ρ' M' => ∃ s, whileO cF f m s = some sN ∧ V s ρ' M') n ⟨s0, hl, h0⟩ fun m ρ' M' ⟨s, h1, h2⟩ => ?_
  cases m with
  | zero => cases h1
  | succ m =>
    rw [whileO] at h1
    obtain ⟨t, h3, h4⟩ := Option.bind_eq_some_iff.mp h1
    refine (hs s t ρ' M' h3 h2).imp fun t' M1 q => ?_
    obtain ⟨rfl, rfl⟩ := q
    refine ⟨fun e => ?_, fun e => ?_⟩
    · subst e
      rw [if_pos rfl] at h4
      obtain ⟨s', h5, h6⟩ := Option.bind_eq_some_iff.mp h4
      exact (hb s s' ρ' _ h5 h2).imp (fun _ _ z => ⟨m, Nat.lt_succ_self _, s', h6, z⟩) (fun _ _ z => z) (fun _ _ z => z) (fun _ _ z => ⟨m, Nat.lt_succ_self _, s', h6, z⟩)
    · subst e
      rw [if_neg (by decide)] at h4
      cases h4
      exact hd ρ' _ h2
end
/-! ### comprehensions -/
section
variable {S : Type} {scope : Scope} {tg elt : Expr} {ifs : List Expr} {vs : List Nat} {xs ys : List D}
theorem mapO_len {f : D → Option D} : ∀ {xs ys : List D}, mapO f xs = some ys → ys.length = xs.length
  | [], _, h => by cases h; rfl
  | x :: xs, _, h => by
    rw [mapO] at h
    obtain ⟨y, h1, h⟩ := Option.bind_eq_some_iff.mp h
    obtain ⟨l, h2, rfl⟩ := Option.map_eq_some_iff.mp h
    rw [List.length_cons, List.length_cons, mapO_len h2]
theorem len_at {i : Nat} {d : D} (h : xs[i]? = some d) : i < xs.length := by
  by_cases q : i < xs.length
  · exact q
  · rw [List.getElem?_eq_none (by omega)] at h; cases h
theorem lcF {f : D → Option D} (hl : mapO f xs = some ys) (hz : xs.length ≤ 1000000)
    (hs : ∀ d y acc Dl, f d = some y → M Dl = none → AsB X scope vs tg d (cuts ρ vs) fun ρ2 => EXb X J scope elt ρ2 (up M Dl (.lst acc)) fun y' M3 => y' = y ∧ M3 = up M Dl (.lst acc)) (k : P (.lst ys) M) : LcW X J scope vs tg [] elt ρ P xs M := by
  refine ⟨fun i acc M' => M' = M ∧ acc.length = i ∧ ∃ r, mapO f (xs.drop i) = some r ∧ acc ++ r = ys, ⟨rfl, rfl, ys, hl, rfl⟩, fun i d acc M' Dl hi ⟨e, ha, r, h1, h2⟩ hD => ?_, fun acc M' ⟨e, ha, r, h1, h2⟩ => ?_⟩
  · subst e
    have hi2 := len_at hi
    refine ⟨by omega, ?_⟩
    rw [drop_at hi, mapO] at h1
    obtain ⟨y, h3, h1⟩ := Option.bind_eq_some_iff.mp h1
    obtain ⟨r', h4, rfl⟩ := Option.map_eq_some_iff.mp h1
    obtain ⟨g, hg, h⟩ := hs d y acc Dl h3 hD
    refine ⟨g, hg, fun F M v σ H Q o r en k => h F M v σ H Q o r en fun σ' ρ2 q en2 w => k σ' ρ2 ?_ en2 w⟩
    refine txb_nil ⟨fun _ => fun s H C cl fp => (q s H C cl fp).imp fun y' M3 z => ?_, fun h => nomatch h⟩
    obtain ⟨rfl, rfl⟩ := z
    exact ⟨M', hD, rfl, rfl, by rw [List.length_append, ha]; rfl, r', h4, by rw [List.append_assoc]; exact h2⟩
  · rw [List.drop_length, mapO] at h1
    cases h1
    subst e
    rw [List.append_nil] at h2
    subst h2
    exact k
theorem filtF {f : D → Option (Option D)} (hl : filtO f xs = some ys) (hz : xs.length ≤ 1000000)
    (hs : ∀ d y acc Dl, f d = some y → M Dl = none → AsB X scope vs tg d (cuts ρ vs) fun ρ2 => TXb X J scope ifs ρ2 (up M Dl (.lst acc)) fun t M2 => (t = true → EXb X J scope elt ρ2 M2 fun y' M3 => y = some y' ∧ M3 = up M Dl (.lst acc)) ∧ (t = false → y = none ∧ M2 = up M Dl (.lst acc))) (k : P (.lst ys) M) : LcW X J scope vs tg ifs elt ρ P xs M := by
  refine ⟨fun i acc M' => M' = M ∧ acc.length ≤ i ∧ ∃ r, filtO f (xs.drop i) = some r ∧ acc ++ r = ys, ⟨rfl, Nat.le_refl _, ys, hl, rfl⟩, fun i d acc M' Dl hi ⟨e, ha, r, h1, h2⟩ hD => ?_, fun acc M' ⟨e, ha, r, h1, h2⟩ => ?_⟩
  · subst e
    have hi2 := len_at hi
    refine ⟨by omega, ?_⟩
    rw [drop_at hi, filtO] at h1
    obtain ⟨y, h3, h1⟩ := Option.bind_eq_some_iff.mp h1
    obtain ⟨r', h4, rfl⟩ := Option.map_eq_some_iff.mp h1
    obtain ⟨g, hg, h⟩ := hs d y acc Dl h3 hD
    refine ⟨g, hg, fun F M v σ H Q o r en k => h F M v σ H Q o r en fun σ' ρ2 q en2 w => k σ' ρ2 ?_ en2 w⟩
    obtain ⟨tt, h5, h6⟩ := q
    refine ⟨tt, h5, fun F σ H Q st kb => h6 F σ H Q st fun tb M2 F' H' q e o => kb tb M2 F' H' ?_ e o⟩
    refine ⟨fun ht => fun s H C cl fp => (q.1 ht s H C cl fp).imp fun y' M3 z => ?_, fun ht => ?_⟩
    · obtain ⟨rfl, rfl⟩ := z
      exact ⟨M', hD, rfl, rfl, by rw [List.length_append, List.length_singleton]; omega, r', h4, by rw [List.append_assoc]; exact h2⟩
    · obtain ⟨rfl, e2⟩ := q.2 ht
      exact ⟨M', hD, e2, rfl, by omega, r', h4, h2⟩
  · rw [List.drop_length, filtO] at h1
    cases h1
    subst e
    rw [List.append_nil] at h2
    subst h2
    exact k
theorem mapSF {f : S → D → Option (D × S)} {s0 sN : S} (hl : mapS f s0 xs = some (ys, sN)) (hz : xs.length ≤ 1000000) (W : S → Mem) (hM : M = W s0)
    (hs : ∀ d s q acc Dl, f s d = some q → W s Dl = none → AsB X scope vs tg d (cuts ρ vs) fun ρ2 => EXb X J scope elt ρ2 (up (W s) Dl (.lst acc)) fun y' M3 => y' = q.1 ∧ W q.2 Dl = none ∧ M3 = up (W q.2) Dl (.lst acc)) (k : P (.lst ys) (W sN)) : LcW X J scope vs tg [] elt ρ P xs M := by
  refine ⟨fun i acc M' => acc.length = i ∧ ∃ s r, M' = W s ∧ mapS f s (xs.drop i) = some (r, sN) ∧ acc ++ r = ys, ⟨rfl, s0, ys, hM, hl, rfl⟩, fun i d acc M' Dl hi ⟨ha, s, r, e, h1, h2⟩ hD => ?_, fun acc M' ⟨ha, s, r, e, h1, h2⟩ => ?_⟩
  · subst e
    have hi2 := len_at hi
    refine ⟨by omega, ?_⟩
    rw [drop_at hi, mapS] at h1
    obtain ⟨q, h3, h1⟩ := Option.bind_eq_some_iff.mp h1
    obtain ⟨q', h4, e4⟩ := Option.map_eq_some_iff.mp h1
    obtain ⟨r', s'⟩ := q'
    cases e4
    obtain ⟨g, hg, h⟩ := hs d s q acc Dl h3 hD
    refine ⟨g, hg, fun F M v σ H Q o r en k => h F M v σ H Q o r en fun σ' ρ2 q en2 w => k σ' ρ2 ?_ en2 w⟩
    refine txb_nil ⟨fun _ => fun s H C cl fp => (q s H C cl fp).imp fun y' M3 z => ?_, fun h => nomatch h⟩
    obtain ⟨rfl, z2, rfl⟩ := z
    exact ⟨W _, z2, rfl, by rw [List.length_append, ha]; rfl, _, r', rfl, h4, by rw [List.append_assoc]; exact h2⟩
  · rw [List.drop_length, mapS] at h1
    cases h1
    subst e
    rw [List.append_nil] at h2
    subst h2
    exact k
theorem filtSF {f : S → D → Option (Option D × S)} {s0 sN : S} (hl : filtS f s0 xs = some (ys, sN)) (hz : xs.length ≤ 1000000) (W : S → Mem) (hM : M = W s0)
    (hs : ∀ d s q acc Dl, f s d = some q → W s Dl = none → AsB X scope vs tg d (cuts ρ vs) fun ρ2 => TXb X J scope ifs ρ2 (up (W s) Dl (.lst acc)) fun t M2 => (t = true → EXb X J scope elt ρ2 M2 fun y' M3 => q.1 = some y' ∧ W q.2 Dl = none ∧ M3 = up (W q.2) Dl (.lst acc)) ∧ (t = false → q.1 = none ∧ W q.2 Dl = none ∧ M2 = up (W q.2) Dl (.lst acc))) (k : P (.lst ys) (W sN)) : LcW X J scope vs tg ifs elt ρ P xs M := by
  refine ⟨fun i acc M' => acc.length ≤ i ∧ ∃ s r, M' = W s ∧ filtS f s (xs.drop i) = some (r, sN) ∧ acc ++ r = ys, ⟨Nat.le_refl _, s0, ys, hM, hl, rfl⟩, fun i d acc M' Dl hi ⟨ha, s, r, e, h1, h2⟩ hD => ?_, fun acc M' ⟨ha, s, r, e, h1, h2⟩ => ?_⟩
  · subst e
    have hi2 := len_at hi
    refine ⟨by omega, ?_⟩
    rw [drop_at hi, filtS] at h1
    obtain ⟨q, h3, h1⟩ := Option.bind_eq_some_iff.mp h1
    obtain ⟨q', h4, e4⟩ := Option.map_eq_some_iff.mp h1
    obtain ⟨r', s'⟩ := q'
    cases e4
    obtain ⟨g, hg, h⟩ := hs d s q acc Dl h3 hD
    refine ⟨g, hg, fun F M v σ H Q o r en k => h F M v σ H Q o r en fun σ' ρ2 z en2 w => k σ' ρ2 ?_ en2 w⟩
    obtain ⟨tt, h5, h6⟩ := z
    refine ⟨tt, h5, fun F σ H Q st kb => h6 F σ H Q st fun tb M2 F' H' z e o => kb tb M2 F' H' ?_ e o⟩
    refine ⟨fun ht => fun s H C cl fp => (z.1 ht s H C cl fp).imp fun y' M3 w => ?_, fun ht => ?_⟩
    · obtain ⟨e1, w2, rfl⟩ := w
      exact ⟨W _, w2, rfl, by rw [List.length_append, List.length_singleton]; omega, _, r', rfl, h4, by rw [e1] at h2; rw [List.append_assoc]; exact h2⟩
    · obtain ⟨e1, e2, e3⟩ := z.2 ht
      exact ⟨W _, e2, e3, by omega, _, r', rfl, h4, by rw [e1] at h2; exact h2⟩
  · rw [List.drop_length, filtS] at h1
    cases h1
    subst e
    rw [List.append_nil] at h2
    subst h2
    exact k
end
/-- the comprehension's list goes on changing -/
theorem lc_mut {scope : Scope} {tg elt : Expr} {ifs : List Expr} {vs : List Nat} {xs ys : List D} {M2 : Mem} (h : LcW X J scope vs tg ifs elt ρ (fun d M' => d = .lst ys ∧ M' = M2) xs M) (k : ∀ Dl, M2 Dl = none → P (.adr Dl) (up M2 Dl (.lst ys))) : LcWM X J scope vs tg ifs elt ρ P xs M := by
  obtain ⟨Wd, h0, hs, hd⟩ := h
  refine ⟨Wd, h0, hs, fun acc M' Dl q hD => ?_⟩
  obtain ⟨e1, e2⟩ := hd acc M' q
  cases e1
  subst e2
  exact k Dl hD
/-! ### join, methods of lists -/
theorem allS_of {l : List Str} : AllS (l.map D.str) := by
  unfold AllS
  rw [List.map_map, List.map_map]
  exact List.map_congr_left fun _ _ => rfl
def strD : D → Option Str
  | .str z => some z
  | _ => none
theorem strD_eq {d : D} {z : Str} (h : strD d = some z) : d = .str z := by cases d <;> cases h; rfl
def dJoinS (z : Str) (d : D) : Option D := (itemsD d).bind fun ds => chk (AllS ds ∧ sizeJ ds + ds.length * z.length ≤ 16777216) (.str (Txt.join z (ds.map toS)))
theorem jn {z : Str} {y dy r : D} (w : Vw M y dy) (h : dJoinS z dy = some r) (p : P r M) : ∃ ds, Sq M y ds ∧ AllS ds ∧ sizeJ ds + ds.length * z.length ≤ 16777216 ∧ P (.str (Txt.join z (ds.map toS))) M := by
  obtain ⟨ds, h1, h⟩ := Option.bind_eq_some_iff.mp h
  obtain ⟨⟨h2, h3⟩, rfl⟩ := chk_inv h
  refine ⟨ds, ?_, h2, h3, p⟩
  rcases items_eq h1 with rfl | rfl
  · exact w.sq
  · cases w with
    | id => exact .tup
    | ad q hf => cases hf
def lExt (l : List D) (v : D) : Option (List D) := (lstD v).bind fun es => chk (l.length + es.length ≤ 1000000) (l ++ es)
theorem g1_setIxF {tp : Pos} (h : EX X J e ρ M fun y M1 => EX X J o ρ M1 fun d M2 => EX X J a ρ M2 fun i M3 => ∃ q l f l', d = .adr q ∧ At M3 q (.lst l) f ∧ lSet l i y = some l' ∧ B.nx ρ (f (.lst l')))
    (hs : swapsWithSole [.Subscript o a tp] e pos.line X.env = pure false := by rfl) (hw : swappedStores [.Subscript o a tp] e X.env = pure none := by rfl)
    (h1 : (assignEach [.Subscript o a tp] X.env).map (·.2) = [assign (.Subscript o a tp) X.env] := by rfl)
    (ha : ∀ v, assign (.Subscript o a tp) X.env v = (do let ov ← holding [v] (eval o X.env); let iv ← holding [v, ov] (eval a X.env); standAt tp; holding [v, ov, iv] (setItem ov iv v); release [v, ov, iv] []) := by intro _; rfl) : G1 X J (.Assign [.Subscript o a tp] e pos) ρ M B :=
  g1_setIx (h.imp fun y M1 q => q.imp fun d M2 q => q.imp fun i M3 q => by
    obtain ⟨q, l, f, l', e1, hA, h1, k⟩ := q
    unfold lSet at h1
    split at h1
    · obtain ⟨m, h2, rfl⟩ := Option.map_eq_some_iff.mp h1
      exact ⟨q, l, f, _, m, e1, rfl, hA, h2, k⟩
    · cases h1) hs hw h1 ha
end
end
end DX
/-! small pieces: sums in place, stars, ranges, lists that grow, dicts -/
namespace DX
open PySem PySem.Spec L2 SX
noncomputable section
def iOp (f : Int → Int → Int) : D → D → Option D
  | .int i, .int j => some (.int (f i j))
  | _, _ => none
theorem iOp_eq {f : Int → Int → Int} {a b z : D} (h : iOp f a b = some z) : ∃ i j, a = .int i ∧ b = .int j ∧ z = .int (f i j) := by
  unfold iOp at h
  split at h
  · cases h; exact ⟨_, _, rfl, rfl, rfl⟩
  · cases h
def keyD : D → Option Key
  | .int i => some (.inl i)
  | .str z => some (.inr z)
  | _ => none
theorem keyD_eq {d : D} {k : Key} (h : keyD d = some k) : d = kD k := by cases d <;> cases h <;> rfl
def dctD : D → Option (List (Key × D))
  | .dct l => some l
  | _ => none
theorem dctD_eq {d : D} {l : List (Key × D)} (h : dctD d = some l) : d = .dct l := by cases d <;> cases h; rfl
def kvsD : List D → Option (List (Key × D))
  | [] => some []
  | .tup [a, b] :: ds => (keyD a).bind fun k => (kvsD ds).map fun l => (k, b) :: l
  | _ => none
theorem kvs_eq : ∀ {ds : List D} {l : List (Key × D)}, kvsD ds = some l → ds = prsD l := by
  intro ds
  induction ds with
  | nil => intro l h; cases h; rfl
  | cons d ds ih =>
    intro l h
    unfold kvsD at h
    split at h
    · rename_i e; cases e
    · rename_i a b ds' e
      cases e
      obtain ⟨k, h1, h⟩ := Option.bind_eq_some_iff.mp h
      obtain ⟨l', h2, rfl⟩ := Option.map_eq_some_iff.mp h
      rw [ih h2, keyD_eq h1]; rfl
    · cases h
section
variable {X : Cx} {J : Gh} {e a b c o : Expr} {es : List Expr} {ρ ρ' : DEnv} {M M' M0 M1 : Mem} {F F' H H' : Hp} {σ : L2.St} {B : Bd} {K : PySem.W.Frag} {pos p apos cpos : Pos} {x y dx dy z : D} {P : D → Mem → Prop} {t : Bool}
theorem g1_augF {x : Str} {op : Operator} {f : Int → Int → Int} (ho : PIp X op (ipI f)) (i : Nat) {u : D} (hu : look ρ i = some u) (h : EX X J e ρ M fun d M1 => ∃ z, iOp f u d = some z ∧ B.nx (put ρ i z) M1)
    (hN : X.N.Nodup := by rfl) (hi : X.N[i]? = some x := by rfl) (hx : Loc X.env.scope x := by first | exact Or.inl rfl | exact Or.inr rfl) (hf : X.fn x = true ∨ X.env.scope.names.lookup x = some .local := by first | exact .inl rfl | exact .inr rfl) :
    G1 X J (.AugAssign (.Name x p) op e pos) ρ M B := by
  cases u with
  | int v =>
    refine g1_aug ho i ⟨v, hu, h.imp fun d M1 q => ?_⟩ hN hi hx hf
    obtain ⟨z, h1, q⟩ := q
    obtain ⟨i', j', e1, rfl, rfl⟩ := iOp_eq h1
    cases e1
    exact ⟨_, rfl, q⟩
  | _ => 
    refine g1_of (ps_aug hN hi hx pe_any ho hf) fun F σ H E s k => ?_
    obtain ⟨v0, h1, h2⟩ := s.en.look hu
    refine ⟨_, h1, h.go s fun d v M1 F1 H1 q e1 o1 r1 => ?_⟩
    obtain ⟨z, h1, q⟩ := q
    obtain ⟨i', j', e2, _, _⟩ := iOp_eq h1
    cases e2
theorem sqOf {l : List D} (w : Vw M x dx) (h : itemsD dx = some l) : Sq M x l := by
  rcases items_eq h with rfl | rfl
  · exact w.sq
  · cases w with
    | id => exact .tup
    | ad q hf => cases hf
theorem vwsl {l : List D} (w : Vw M x dx) (h : lstD dx = some l) : Sl M x l := by
  obtain rfl := lstD_eq h
  exact w.sl
theorem rgkT {vs ds : List D} (h : dRange vs = some ds) (hc : ∀ i j c, vs = [.int i, .int j, .int c] → c = -1) (p : P (.tup ds) M) : ∃ i c n, Rg vs i c n ∧ P (.tup (rngC i c n)) M := by
  obtain ⟨i, c, n, h1, rfl⟩ := rg_d h hc
  exact ⟨i, c, n, h1, p⟩
theorem rgkL {vs ds : List D} (h : dRange vs = some ds) (hc : ∀ i j c, vs = [.int i, .int j, .int c] → c = -1) (p : P (.lst ds) M) : ∃ i c n, Rg vs i c n ∧ P (.lst (rngC i c n)) M := by
  obtain ⟨i, c, n, h1, rfl⟩ := rg_d h hc
  exact ⟨i, c, n, h1, p⟩
theorem rgkM {vs ds : List D} (h : dRange vs = some ds) (hc : ∀ i j c, vs = [.int i, .int j, .int c] → c = -1) (p : ∀ q, M q = none → P (.adr q) (up M q (.lst ds))) : ∃ i c n, Rg vs i c n ∧ ∀ q, M q = none → P (.adr q) (up M q (.lst (rngC i c n))) := by
  obtain ⟨i, c, n, h1, rfl⟩ := rg_d h hc
  exact ⟨i, c, n, h1, p⟩
theorem extK {l l' : List D} {q : Addr} {f : D → Mem} (h : lExt l dx = some l') (w : Vw M x dx) (A : At M q (.lst l) f) (k : P .non (f (.lst l'))) : ∃ y ds es f, [x] = [y] ∧ Sl M y es ∧ At M q (.lst ds) f ∧ ds.length + es.length ≤ 1000000 ∧ P .non (f (.lst (ds ++ es))) := by
  obtain ⟨es, h1, h⟩ := Option.bind_eq_some_iff.mp h
  obtain ⟨h2, rfl⟩ := chk_inv h
  exact ⟨x, l, es, f, rfl, vwsl w h1, A, h2, k⟩
theorem popK {l : List D} {r : D × List D} {q : Addr} {f : D → Mem} (h : lPopAt l x = some r) (A : At M q (.lst l) f) (k : P r.1 (f (.lst r.2))) : ∃ i ds f y n, [x] = [.int i] ∧ At M q (.lst ds) f ∧ (-(2 ^ 63) ≤ i ∧ i < 2 ^ 63) ∧ ixN ds.length i = some n ∧ ds[n]? = some y ∧ P y (f (.lst (ds.eraseIdx n))) := by
  unfold lPopAt at h
  split at h
  · obtain ⟨_, h1, h⟩ := Option.bind_eq_some_iff.mp h
    obtain ⟨m, h2, h⟩ := Option.bind_eq_some_iff.mp h
    obtain ⟨v, h3, rfl⟩ := Option.map_eq_some_iff.mp h
    have h1 := (chk_inv h1).1
    exact ⟨_, l, f, v, m, rfl, A, ⟨by omega, by omega⟩, h2, h3, k⟩
  · cases h
theorem cd_dictK {l : List D} {kvs : List (Key × D)} (h : kvsD l = some kvs) (q : P (.dct (mergeD [] kvs)) M) (hc : X.calm = true := by rfl) : CD X (.type "dict") [.stup l] M P := by
  rw [kvs_eq h]; exact cd_dict hc q
/-! ### methods of texts with one text -/
theorem ex_lstrip (h : EX X J o ρ M fun d M1 => ∃ z, d = .str z ∧ AX X J [e] ρ M1 fun ys M2 => ∃ y, ys = [.str y] ∧ z.length ≤ 1000000 ∧ P (.str (Txt.lstripChars z y)) M2)
    (hbase : attributeBase o "lstrip" X.env (eval o X.env) = eval o X.env := by rfl)
    (few : ((backTo cpos (starEach [e] X.env)).all (fun x => !x.1) && (backToKw cpos (keywordEach [] X.env)).all (fun x => x.1.isSome) && decide ([e].length + ([] : List Keyword).length + (if ([] : List Keyword).isEmpty then 0 else 1) < 30)) = true := by rfl)
    (line : (apos.endLine == cpos.line) = true := by rfl) (hst : starEach [e] X.env = (false, eval e X.env) :: starEach [] X.env := by rfl) (hpl : (backTo cpos (starEach [] X.env)).any (·.1) = false := by rfl) :
    EX X J (.Call (.Attribute o "lstrip" apos) [e] [] cpos) ρ M P :=
  ex_of (pe_bm PySem.F.plainAttrs_str PySem.F.slot_str_lstrip PySem.F.type_str_lstrip mt_lstripChars pe_any pa_any hbase few line hst hpl) fun F σ H Q st k => h.go st fun d v M1 F1 H1 q1 e1 o1 r1 => by
    obtain ⟨z, rfl, q2⟩ := q1
    cases r1
    refine ⟨rfl, q2.go (st.to e1 o1) fun ys vs M2 F2 H2 q3 e2 o2 r2 => ?_⟩
    obtain ⟨y, rfl, hz, q3⟩ := q3
    cases r2 with
    | cons r2 r3 =>
      cases r3
      cases r2
      exact ⟨z, y, rfl, rfl, by rw [sizeLine_eq]; omega, k _ _ _ _ _ q3 (e1.trans e2) o2 (.str _)⟩
def dLstrip (z : Str) : D → Option D
  | .str y => chk (z.length ≤ 1000000) (.str (Txt.lstripChars z y))
  | _ => none
theorem lstripK {z : Str} {r : D} (h : dLstrip z dx = some r) (w : Vw M x dx) (p : P r M) : ∃ y, [x] = [.str y] ∧ z.length ≤ 1000000 ∧ P (.str (Txt.lstripChars z y)) M := by
  unfold dLstrip at h
  split at h
  · obtain ⟨h1, rfl⟩ := chk_inv h
    cases w with
    | id => exact ⟨_, rfl, h1, p⟩
    | ad q hf => cases hf
  · cases h
/-! ### calls with stars and keywords -/
theorem cwS {M : Model} {A : Around} {E : Value → Shared → Prop} {s : Shared} {f : Value} {first : List Value} {pos : Pos} {Q : Value → Shared → Prop} {Ph : Heap → Prop} {args : List (Bool × Sem Value)} {kw : List (Option Str × Sem Value)} (hst : (args.any (·.1) || kw.any (·.1.isNone)) = true)
    (hk : ∀ h, Ph h → ∃ k, (k = Keeper.frame ∨ k = Keeper.machine ∨ k = Keeper.boundFrame) ∧ PySem.W.Looks M h (keeperOf f) k)
    (h : wpAny M A (evalArgs f true args kw) (fun a s1 => Ph s1.heap ∧ wpAny M A (call f (first ++ a.pos) a.kw) Q E s1) E s) : wpAny M A (callWith pos f first args kw) Q E s := by
  unfold callWith
  refine wpAny_bind (wpAny_holding (wpAny_mono h (fun a s1 g => wpAny_bind (wpAny_standAt ?_)) fun _ _ x => x))
  obtain ⟨k, hk', L⟩ := hk _ g.1
  simp only [hst]
  refine wpAny_bind (L.here ?_)
  have fin : ∀ {z : Sem Value}, wpAny M A z Q E s1 → wpAny M A (z >>= fun r => holding [r] point >>= fun _ => pure r) Q E s1 := by
    intro z hz
    exact wpAny_bind (wpAny_mono hz (fun r s2 hr => wpAny_bind (wpAny_holding (wpAny_point (wpAny_pure hr)))) fun _ _ x => x)
  rcases hk' with rfl | rfl | rfl
  · refine fin ?_
    show wpAny M A (callMarked _ f (first ++ a.pos) a.kw) Q E s1
    unfold callMarked
    exact Calls.wpAny_keep g.2
  · exact fin (wpAny_operating g.2)
  · exact fin (wpAny_operating g.2)
theorem ex_callVS {x : Str} {k : Nat} {gd : Bool} {f : Addr} {ks : List Str} {T : TrV} {kws : List Keyword} (G : FnV X.prog X.w X.K X.mg X.base gd k f ks T) (hgd : gd = true → X.A.guards = some []) (hr : Room k X.A) (hm : X.mg x = some (.ref f)) (hk : PySem.W.keepIn X.K (.ref f) = true)
    (h : AX X J (e :: es) ρ M fun ds M1 => KX X J kws ρ M1 fun zs M2 => zs.length = ks.length ∧ T ds zs M2 P)
    (hg : Gl X x := by rfl) (hall : (backToKw pos (keywordEach kws X.env)).all (·.1.isSome) = true := by rfl) (hks : (backToKw pos (keywordEach kws X.env)).filterMap (·.1) = ks := by rfl)
    (hdb : (x == ("__debug__" : Str)) = false := by decide) (he : starEach (e :: es) X.env = (false, eval e X.env) :: starEach es X.env := by rfl)
    (hpl : ((backTo pos (starEach (e :: es) X.env)).any (·.1) || (backToKw pos (keywordEach kws X.env)).any (·.1.isNone)) = true := by rfl) : EX X J (.Call (.Name x p) (e :: es) kws pos) ρ M P := by
  refine ⟨fun pins s σ H Q I ⟨F, st, kt⟩ => ?_⟩
  refine wpAny_Call_Name_kw (ld_glob I hg hm ?_ hdb)
  refine cwS hpl (PySem.W.keeps_K hk) (PyProof.Rows.evalArgs_kw2 hall (thn ((pa_any (X := X) (es := e :: es)).run pos pins s σ H (fun vs H1 => ∃ F1 M1 ds, Same F F1 ∧ Ok X.K F1 M1 H1 ∧ Rps X.K F1 vs ds ∧ KX X J kws ρ M1 fun zs M2 => zs.length = ks.length ∧ T ds zs M2 P) I
    (h.go st fun ds vs M1 F1 H1 q e1 o1 r1 => ⟨F1, M1, ds, e1, o1, r1, q⟩)) fun us s1 ⟨vs, H1, I1, r, F1, M1, ds, e1, o1, rd, q⟩ => ?_) he)
  refine thn ((pk_any (X := X) (kws := kws)).run pos pins s1 σ H1 (fun xs H2 => ∃ F2 M2 zs, Same F1 F2 ∧ Ok X.K F2 M2 H2 ∧ Rps X.K F2 xs zs ∧ zs.length = ks.length ∧ T ds zs M2 P) I1 (q.go (st.to e1 o1) fun zs xs M2 F2 H2 q2 e2 o2 r2 => ⟨F2, M2, zs, e2, o2, r2, q2.1, q2.2⟩)) fun ws s2 ⟨xs, H2, I2, rx, F2, M2, zs, e2, o2, rz, hl, t⟩ => ⟨I2.kIn, ?_⟩
  rw [hks]
  exact run_fnV G hgd hr I2 r rx hl o2 (rd.mono e2) rz t (kt.to (e1.trans e2))
/-! ### the rules with plain functions -/
theorem ex_joinF (h : EX X J o ρ M fun d M1 => ∃ z, d = .str z ∧ EX X J e ρ M1 fun d2 M2 => ∃ dy r, Vw M2 d2 dy ∧ dJoinS z dy = some r ∧ P r M2)
    (hbase : attributeBase o "join" X.env (eval o X.env) = eval o X.env := by rfl)
    (few : ((backTo cpos (starEach [e] X.env)).all (fun x => !x.1) && (backToKw cpos (keywordEach [] X.env)).all (fun x => x.1.isSome) && decide ([e].length + ([] : List Keyword).length + (if ([] : List Keyword).isEmpty then 0 else 1) < 30)) = true := by rfl)
    (line : (apos.endLine == cpos.line) = true := by rfl) (hst : starEach [e] X.env = (false, eval e X.env) :: starEach [] X.env := by rfl) (hpl : (backTo cpos (starEach [] X.env)).any (·.1) = false := by rfl) :
    EX X J (.Call (.Attribute o "join" apos) [e] [] cpos) ρ M P :=
  ex_join (h.imp fun d M1 q => by
    obtain ⟨z, e1, q⟩ := q
    exact ⟨z, e1, q.imp fun d2 M2 q => by
      obtain ⟨dy, r, w, h1, k⟩ := q
      exact jn w h1 k⟩) (hbase := hbase) (hline := line) (hs := hst)
theorem ex_extendF (h : EX X J o ρ M fun d M1 => ∃ q l, d = .adr q ∧ M1 q = some (.lst l) ∧ EX X J e ρ M1 fun y M2 => ∃ dy l f l', Vw M2 y dy ∧ At M2 q (.lst l) f ∧ lExt l dy = some l' ∧ P .non (f (.lst l')))
    (hbase : attributeBase o "extend" X.env (eval o X.env) = eval o X.env := by rfl)
    (few : ((backTo cpos (starEach [e] X.env)).all (fun x => !x.1) && (backToKw cpos (keywordEach [] X.env)).all (fun x => x.1.isSome) && decide ([e].length + ([] : List Keyword).length + (if ([] : List Keyword).isEmpty then 0 else 1) < 30)) = true := by rfl)
    (line : (apos.endLine == cpos.line) = true := by rfl) (hst : starEach [e] X.env = (false, eval e X.env) :: starEach [] X.env := by rfl) (hpl : (backTo cpos (starEach [] X.env)).any (·.1) = false := by rfl) :
    EX X J (.Call (.Attribute o "extend" apos) [e] [] cpos) ρ M P :=
  ex_extend (h.imp fun d M1 q => by
    obtain ⟨a, l, e1, h1, q⟩ := q
    refine ⟨a, l, e1, h1, ax_cons (q.imp fun y M2 q => ax_nil ?_) hst⟩
    obtain ⟨dy, l, f, l', w, A, h2, k⟩ := q
    exact extK h2 w A k) hbase few line hst hpl
theorem ex_popF (h : EX X J o ρ M fun d M1 => ∃ q l, d = .adr q ∧ M1 q = some (.lst l) ∧ EX X J e ρ M1 fun y M2 => ∃ l f r, At M2 q (.lst l) f ∧ lPopAt l y = some r ∧ P r.1 (f (.lst r.2)))
    (hbase : attributeBase o "pop" X.env (eval o X.env) = eval o X.env := by rfl)
    (few : ((backTo cpos (starEach [e] X.env)).all (fun x => !x.1) && (backToKw cpos (keywordEach [] X.env)).all (fun x => x.1.isSome) && decide ([e].length + ([] : List Keyword).length + (if ([] : List Keyword).isEmpty then 0 else 1) < 30)) = true := by rfl)
    (line : (apos.endLine == cpos.line) = true := by rfl) (hst : starEach [e] X.env = (false, eval e X.env) :: starEach [] X.env := by rfl) (hpl : (backTo cpos (starEach [] X.env)).any (·.1) = false := by rfl) :
    EX X J (.Call (.Attribute o "pop" apos) [e] [] cpos) ρ M P :=
  ex_pop (h.imp fun d M1 q => by
    obtain ⟨a, l, e1, h1, q⟩ := q
    refine ⟨a, l, e1, h1, ax_cons (q.imp fun y M2 q => ax_nil ?_) hst⟩
    obtain ⟨l, f, r, A, h2, k⟩ := q
    exact popK h2 A k) hbase few line hst hpl
theorem ex_lstripF (h : EX X J o ρ M fun d M1 => ∃ z, d = .str z ∧ EX X J e ρ M1 fun d2 M2 => ∃ dy r, Vw M2 d2 dy ∧ dLstrip z dy = some r ∧ P r M2)
    (hbase : attributeBase o "lstrip" X.env (eval o X.env) = eval o X.env := by rfl)
    (few : ((backTo cpos (starEach [e] X.env)).all (fun x => !x.1) && (backToKw cpos (keywordEach [] X.env)).all (fun x => x.1.isSome) && decide ([e].length + ([] : List Keyword).length + (if ([] : List Keyword).isEmpty then 0 else 1) < 30)) = true := by rfl)
    (line : (apos.endLine == cpos.line) = true := by rfl) (hst : starEach [e] X.env = (false, eval e X.env) :: starEach [] X.env := by rfl) (hpl : (backTo cpos (starEach [] X.env)).any (·.1) = false := by rfl) :
    EX X J (.Call (.Attribute o "lstrip" apos) [e] [] cpos) ρ M P :=
  ex_lstrip (h.imp fun d M1 q => by
    obtain ⟨z, e1, q⟩ := q
    refine ⟨z, e1, ax_cons (q.imp fun y M2 q => ax_nil ?_) hst⟩
    obtain ⟨dy, r, w, h1, k⟩ := q
    exact lstripK h1 w k) hbase few line hst hpl
theorem ex_tupRF {p' pos' : Pos} (hc : X.calm = true) (hmt : X.mg "tuple" = none) (hm : X.mg "range" = none) (h : AX X J (a :: es) ρ M fun vs M1 => ∃ ds, dRange vs = some ds ∧ (∀ i j c, vs = [.int i, .int j, .int c] → c = -1) ∧ P (.tup ds) M1) (hgt : Gl X "tuple" := by rfl) (hg : Gl X "range" := by rfl)
    (na : starEach [.Call (.Name "range" p') (a :: es) [] pos'] X.env = (false, eval (.Call (.Name "range" p') (a :: es) [] pos') X.env) :: starEach [] X.env := by rfl) (he : starEach (a :: es) X.env = (false, eval a X.env) :: starEach es X.env := by rfl) (hpl : (backTo pos' (starEach es X.env)).any (·.1) = false := by rfl) : EX X J (.Call (.Name "tuple" p) [.Call (.Name "range" p') (a :: es) [] pos'] [] pos) ρ M P :=
  ex_tupR hc hmt hm (h.imp fun vs M1 q => by
    obtain ⟨ds, h1, h2, k⟩ := q
    exact rgkT h1 h2 k) (hgt := hgt) (hg := hg) (hs := he) (hpl := hpl) (na := na)
theorem ex_lstRF {p' pos' : Pos} (hc : X.calm = true) (hmt : X.mg "list" = none) (hm : X.mg "range" = none) (h : AX X J (a :: es) ρ M fun vs M1 => ∃ ds, dRange vs = some ds ∧ (∀ i j c, vs = [.int i, .int j, .int c] → c = -1) ∧ P (.lst ds) M1) (hgt : Gl X "list" := by rfl) (hg : Gl X "range" := by rfl)
    (na : starEach [.Call (.Name "range" p') (a :: es) [] pos'] X.env = (false, eval (.Call (.Name "range" p') (a :: es) [] pos') X.env) :: starEach [] X.env := by rfl) (he : starEach (a :: es) X.env = (false, eval a X.env) :: starEach es X.env := by rfl) (hpl : (backTo pos' (starEach es X.env)).any (·.1) = false := by rfl) : EX X J (.Call (.Name "list" p) [.Call (.Name "range" p') (a :: es) [] pos'] [] pos) ρ M P :=
  ex_lstR hc hmt hm (h.imp fun vs M1 q => by
    obtain ⟨ds, h1, h2, k⟩ := q
    exact rgkL h1 h2 k) (hgt := hgt) (hg := hg) (hs := he) (hpl := hpl) (na := na)
theorem ex_lstRMF {p' pos' : Pos} (hc : X.calm = true) (hmt : X.mg "list" = none) (hm : X.mg "range" = none) (h : AX X J (a :: es) ρ M fun vs M1 => ∃ ds, dRange vs = some ds ∧ (∀ i j c, vs = [.int i, .int j, .int c] → c = -1) ∧ ∀ q, M1 q = none → P (.adr q) (up M1 q (.lst ds))) (hgt : Gl X "list" := by rfl) (hg : Gl X "range" := by rfl)
    (na : starEach [.Call (.Name "range" p') (a :: es) [] pos'] X.env = (false, eval (.Call (.Name "range" p') (a :: es) [] pos') X.env) :: starEach [] X.env := by rfl) (he : starEach (a :: es) X.env = (false, eval a X.env) :: starEach es X.env := by rfl) (hpl : (backTo pos' (starEach es X.env)).any (·.1) = false := by rfl) : EX X J (.Call (.Name "list" p) [.Call (.Name "range" p') (a :: es) [] pos'] [] pos) ρ M P :=
  ex_lstRM hc hmt hm (h.imp fun vs M1 q => by
    obtain ⟨ds, h1, h2, k⟩ := q
    exact rgkM h1 h2 k) (hgt := hgt) (hg := hg) (hs := he) (hpl := hpl) (na := na)
end
end
end DX
/-! more that the data do: how many different ones, backwards -/
namespace DX
open PySem PySem.Spec L2
open PyProof.Rows hiding St
section
variable {X : Cx} {J : Gh} {e a b c o : Expr} {es : List Expr} {ρ : DEnv} {M : Mem} {F F' H H' : Hp} {σ : St} {K : PySem.W.Frag} {pos p q apos cpos : Pos} {P : D → Mem → Prop}
/-- the numbers, each once -/
def difI : List Int → List Int
  | [] => []
  | n :: ns => if n ∈ ns then difI ns else n :: difI ns
theorem difI_mem : ∀ {ns : List Int} {k : Int}, k ∈ difI ns ↔ k ∈ ns
  | [], k => Iff.rfl
  | n :: ns, k => by
    unfold difI
    split
    · rename_i h
      rw [difI_mem, List.mem_cons]
      exact ⟨.inr, fun q => q.elim (fun e => e ▸ h) id⟩
    · rw [List.mem_cons, List.mem_cons, difI_mem]
theorem difI_nd : ∀ {ns : List Int}, (difI ns).Nodup
  | [] => List.nodup_nil
  | n :: ns => by
    unfold difI
    split
    · exact difI_nd
    · rename_i h
      exact List.nodup_cons.mpr ⟨fun q => h (difI_mem.mp q), difI_nd⟩
theorem nd_len : ∀ {l m : List Int}, l.Nodup → (∀ k ∈ l, k ∈ m) → l.length ≤ m.length
  | [], m, _, _ => Nat.zero_le _
  | a :: l, m, h, s => by
    have h := List.nodup_cons.mp h
    have ha := s a List.mem_cons_self
    have := nd_len (m := m.erase a) h.2 fun k hk => (List.mem_erase_of_ne (a := k) (b := a) (fun e => h.1 (by rw [← e]; exact hk))).mpr (s k (List.mem_cons_of_mem _ hk))
    have h3 := List.length_erase_of_mem ha
    have h4 := List.length_pos_of_mem ha
    rw [List.length_cons]; omega
theorem nd_eq {l m : List Int} (hl : l.Nodup) (hm : m.Nodup) (h : ∀ k, k ∈ l ↔ k ∈ m) : l.length = m.length := Nat.le_antisymm (nd_len hl fun k hk => (h k).mp hk) (nd_len hm fun k hk => (h k).mpr hk)
theorem met_spec (val : Nat → Int) : ∀ n, (firstMet val n).Nodup ∧ ∀ k, k ∈ firstMet val n ↔ ∃ j, j < n ∧ val j = k
  | 0 => ⟨List.nodup_nil, fun k => ⟨fun h => absurd h List.not_mem_nil, fun ⟨j, h, _⟩ => absurd h (Nat.not_lt_zero j)⟩⟩
  | n + 1 => by
    obtain ⟨h1, h2⟩ := met_spec val n
    rw [firstMet_succ]
    unfold step_dedup
    split
    · rename_i hb
      obtain ⟨y, hy, ey⟩ := List.any_eq_true.mp hb
      have ey := eq_of_beq ey
      refine ⟨h1, fun k => ⟨fun h => ?_, fun ⟨j, hj, e⟩ => ?_⟩⟩
      · obtain ⟨j, hj, e⟩ := (h2 k).mp h
        exact ⟨j, Nat.lt_succ_of_lt hj, e⟩
      · rcases Nat.lt_succ_iff_lt_or_eq.mp hj with hj | rfl
        · exact (h2 k).mpr ⟨j, hj, e⟩
        · rw [← e, ← ey]; exact hy
    · rename_i hb
      have hno : val n ∉ firstMet val n := fun q => hb (List.any_eq_true.mpr ⟨_, q, by simp⟩)
      refine ⟨List.nodup_append.mpr ⟨h1, by simp, fun a ha b hb => ?_⟩, fun k => ?_⟩
      · rw [List.mem_singleton] at hb
        rw [hb]; exact fun e => hno (e ▸ ha)
      · rw [List.mem_append, h2, List.mem_singleton]
        constructor
        · rintro (⟨j, hj, e⟩ | rfl)
          · exact ⟨j, Nat.lt_succ_of_lt hj, e⟩
          · exact ⟨n, Nat.lt_succ_self n, rfl⟩
        · rintro ⟨j, hj, e⟩
          rcases Nat.lt_succ_iff_lt_or_eq.mp hj with hj | rfl
          · exact .inl ⟨j, hj, e⟩
          · exact .inr e.symm
theorem met_len {ns : List Int} : (firstMet (fun i => ns.getD i 0) ns.length).length = (difI ns).length :=
  nd_eq (met_spec _ _).1 difI_nd fun k => by
    rw [(met_spec _ _).2, difI_mem, List.mem_iff_getElem?]
    constructor
    · rintro ⟨j, hj, e⟩
      exact ⟨j, by rw [← e, List.getD_eq_getElem?_getD, List.getElem?_eq_getElem hj]; rfl⟩
    · rintro ⟨j, e⟩
      obtain ⟨hj, e2⟩ := List.getElem?_eq_some_iff.mp e
      exact ⟨j, hj, by rw [List.getD_eq_getElem?_getD, e]; rfl⟩
def tDif (K : PySem.W.Frag) (ta : TE) : TE := fun σ H Q => ta σ H fun x H1 => ∃ l : Addr, ∃ ns : List Int, x = .ref l ∧ (SqL K H1 l (ns.map V.int) ∨ SqT K H1 l (ns.map V.int)) ∧ ns.length ≤ 4000 ∧ Q (.int ((difI ns).length : Nat)) H1
theorem pe_dif {p2 : Pos} {ta : TE} (hg : Gl X "len") (hm : X.mg "len" = none) (hg2 : Gl X "set") (hm2 : X.mg "set" = none) (ha : PE X a ta) (hc : X.calm = true)
    (hs : starEach [a] X.env = (false, eval a X.env) :: starEach [] X.env) : PE X (.Call (.Name "len" p) [.Call (.Name "set" p2) [a] [] q] [] pos) (tDif X.K ta) := by
  constructor
  intro pins s σ H Q I h
  refine Call_ (ld_blt I hg hm boot_len (PyProof.Rows.callWith_builtin1 (PyProof.Rows.args_cons ?_ rfl) rfl rfl))
  refine Call_ (ld_blt I hg2 hm2 boot_set (PyProof.Rows.callWith_type1 (PyProof.Rows.args_cons (thn (ha.run pins s σ H _ I h) ?_) hs) hs rfl))
  intro v s1 hq
  obtain ⟨x, H1, I1, r1, l, ns, rfl, hq, hl, q1⟩ := hq
  cases r1
  refine PyProof.Rows.args_nil ?_
  rcases hq with hq | hq
  · obtain ⟨its, r, pl, hz⟩ := I1.list hq
    have hn : its.toArray.size = ns.length := by rw [List.size_toArray, ← r.length, List.length_map]
    have hb : its.toArray.size + 1 < scanBound := by rw [hn]; unfold scanBound; omega
    refine call_set_list (I1.ok.hd hc) pl.isList (by simpa using RZ.intsAre_vals r) hb fun h' tk hS hk => ?_
    rw [hn] at hS
    obtain ⟨o, es, ep, t, ho, hex, hd, _, _, _, hf, hk2⟩ := hS
    have hle := firstMet_length_le (fun i => ns.getD i 0) ns.length
    refine PyProof.Rows.args_nil (call_len_set ho hex hd hf (by rw [hk2]; omega) ?_)
    exact ⟨.int (difI ns).length, H1, (I1.kept fun b o e => hk b o (Heap.lt_size e) e).tok _, ⟨_, by rw [hk2, met_len]⟩, q1⟩
  · obtain ⟨its, r, pl, hz⟩ := I1.tuple hq
    refine call_set_tupI ns (I1.ok.hd hc) pl (by simpa using RZ.intsAre_vals r) (by unfold scanBound; omega) fun h' tk c hS hcn hk => ?_
    obtain ⟨o, es, ep, t, ho, hex, hd, _, hnd, hmem, _, hf, hk2, _⟩ := hS
    have hlen : es.size = (difI ns).length := by
      have := nd_eq hnd (difI_nd (ns := ns)) fun k => by rw [← hmem k, difI_mem, decide_eq_true_eq]
      rw [List.length_map] at this
      simpa using this
    refine PyProof.Rows.args_nil (call_len_set ho hex hd hf (by omega) ?_)
    exact ⟨.int (difI ns).length, H1, (I1.kept hk).tok _, ⟨_, by rw [hlen]⟩, q1⟩
/-- len(set(x)) -/
noncomputable def dLenSet : D → Option D
  | .lst ds => (intsD ds).bind fun ns => chk (ns.length ≤ 4000) (.int ((difI ns).length : Int))
  | .tup ds => (intsD ds).bind fun ns => chk (ns.length ≤ 4000) (.int ((difI ns).length : Int))
  | _ => none
theorem ex_lenSetF {p2 : Pos} (hc : X.calm = true) (hm : X.mg "len" = none) (hm2 : X.mg "set" = none) (h : EX X J a ρ M fun d M1 => ∃ dx z, Vw M1 d dx ∧ dLenSet dx = some z ∧ P z M1) (hg : Gl X "len" := by rfl) (hg2 : Gl X "set" := by rfl)
    (hs : starEach [a] X.env = (false, eval a X.env) :: starEach [] X.env := by rfl) : EX X J (.Call (.Name "len" p) [.Call (.Name "set" p2) [a] [] q] [] pos) ρ M P :=
  ex_of (pe_dif hg hm hg2 hm2 pe_any hc hs) fun F σ H Q st k => h.go st fun d v M1 F1 H1 q e1 o1 r1 => by
    obtain ⟨dx, z, w, hz, q⟩ := q
    unfold dLenSet at hz
    split at hz
    · obtain ⟨ns, h1, h2⟩ := Option.bind_eq_some_iff.mp hz
      obtain ⟨hl, rfl⟩ := chk_inv h2
      rw [ints_eq h1] at w
      obtain ⟨l, xs, rfl, g1, r2⟩ := w.sl.get o1 r1
      rw [Rps.ints r2] at g1
      exact ⟨l, ns, rfl, .inl (SqL.of g1), hl, k _ _ _ _ _ q e1 o1 (.int _)⟩
    · obtain ⟨ns, h1, h2⟩ := Option.bind_eq_some_iff.mp hz
      obtain ⟨hl, rfl⟩ := chk_inv h2
      rw [ints_eq h1] at w
      have r1 := w.rtup o1 r1
      cases r1 with
      | tup g1 r2 =>
        rw [Rps.ints r2] at g1
        exact ⟨_, ns, rfl, .inr (same_t o1.ex g1), hl, k _ _ _ _ _ q e1 o1 (.int _)⟩
    · cases hz
/-- x[::-1] -/
def dRev : D → Option D
  | .lst ds => some (.lst ds.reverse)
  | .tup ds => some (.tup ds.reverse)
  | _ => none
theorem ex_revF {kk : Nat} {p1 p2 p3 : Pos} {v dx z : D} {M2 : Mem} (w : Vw M2 v dx) (h : EX X J e ρ M fun d M1 => d = v ∧ M1 = M2) (hz : dRev dx = some z) (k : P z M2) :
    EX X J (.Subscript e (.Slice none none (some (.UnaryOp .USub (.Constant (.int 1) kk p1) p2)) p3) pos) ρ M P := by
  unfold dRev at hz
  split at hz
  · rename_i ds; cases hz; exact ex_revL (h.imp fun d M1 q => ⟨ds, by rw [q.1, q.2]; exact w.sl, by rw [q.2]; exact k⟩)
  · cases hz
    cases w with
    | id => rename_i ds; exact ex_unst (ex_revT (h.imp fun d M1 q => ⟨ds, q.1, _, rfl, by rw [q.2]; exact k⟩))
    | ad h1 h2 => cases h2
  · cases hz
end
end DX
/-! the plain operations at data as they are written: rules for simp -/
namespace DX
open PySem PySem.Spec L2 SX
section
variable {i j : Int} {a b : Str} {l m : List D} {x y : D} {p q : Bool}
@[simp] theorem chk_true {α : Type} {x : α} : chk True x = some x := chk_pos trivial
@[simp] theorem dAdd_ii : dAdd (.int i) (.int j) = some (.int (i + j)) := rfl
@[simp] theorem dAdd_ll : dAdd (.lst l) (.lst m) = chk (l.length + m.length ≤ 1000000) (.lst (l ++ m)) := rfl
@[simp] theorem dAdd_tt : dAdd (.tup l) (.tup m) = chk (l.length + m.length ≤ 1000000) (.tup (l ++ m)) := rfl
@[simp] theorem dAdd_ss : dAdd (.str a) (.str b) = chk (a.length + b.length ≤ 1000000) (.str (a ++ b)) := rfl
@[simp] theorem lAdd_ll : lAdd (.lst l) (.lst m) = chk (l.length + m.length ≤ 1000000) (l ++ m) := rfl
@[simp] theorem dSub_ii : dSub (.int i) (.int j) = some (.int (i - j)) := rfl
@[simp] theorem dMul_ii : dMul (.int i) (.int j) = chk (CMul i j) (.int (i * j)) := rfl
@[simp] theorem dMul_li : dMul (.lst l) (.int j) = chk ((-(2 ^ 62) ≤ j ∧ j < 2 ^ 62) ∧ l.length * j.toNat ≤ 1000000) (.lst (List.replicate j.toNat l).flatten) := rfl
@[simp] theorem lMul_li : lMul (.lst l) (.int j) = chk ((-(2 ^ 62) ≤ j ∧ j < 2 ^ 62) ∧ l.length * j.toNat ≤ 1000000) (List.replicate j.toNat l).flatten := rfl
@[simp] theorem dFdiv_ii : dFdiv (.int i) (.int j) = chk (CDiv i j) (.int (i / j)) := rfl
@[simp] theorem dMod_ii : dMod (.int i) (.int j) = chk (0 < j) (.int (i % j)) := rfl
@[simp] theorem dPow_ii : dPow (.int i) (.int j) = chk (CPow i j) (.int (i ^ j.toNat)) := rfl
@[simp] theorem dShl_ii : dShl (.int i) (.int j) = chk (CPow i j) (.int (i * 2 ^ j.toNat)) := rfl
@[simp] theorem dShr_ii : dShr (.int i) (.int j) = chk (0 ≤ j) (.int (i / 2 ^ j.toNat)) := rfl
@[simp] theorem dBand_ii : dBand (.int i) (.int j) = some (.int (Builtin.bitAnd i j)) := rfl
@[simp] theorem dBor_ii : dBor (.int i) (.int j) = some (.int (Builtin.bitOr i j)) := rfl
@[simp] theorem dBxor_ii : dBxor (.int i) (.int j) = some (.int (Builtin.bitXor i j)) := rfl
@[simp] theorem dNeg_i : dNeg (.int i) = some (.int (-i)) := rfl
@[simp] theorem dInv_i : dInv (.int i) = some (.int (Builtin.bitNot i)) := rfl
@[simp] theorem cLt_ii : cLt (.int i) (.int j) = some (decide (i < j)) := rfl
@[simp] theorem cLe_ii : cLe (.int i) (.int j) = some (decide (i ≤ j)) := rfl
@[simp] theorem cGt_ii : cGt (.int i) (.int j) = some (decide (j < i)) := rfl
@[simp] theorem cGe_ii : cGe (.int i) (.int j) = some (decide (j ≤ i)) := rfl
@[simp] theorem cEq_ii : cEq (.int i) (.int j) = some (decide (i = j)) := rfl
@[simp] theorem cEq_bb : cEq (.bl p) (.bl q) = some (decide (p = q)) := rfl
@[simp] theorem cEq_ss : cEq (.str a) (.str b) = some (decide (a = b)) := rfl
@[simp] theorem cEq_si : cEq (.str a) (.int j) = some false := rfl
@[simp] theorem cEq_is : cEq (.int j) (.str a) = some false := rfl
@[simp] theorem cEq_bs : cEq (.bl p) (.str a) = some false := rfl
@[simp] theorem cEq_sb : cEq (.str a) (.bl p) = some false := rfl
@[simp] theorem cEq_nn : cEq .non .non = some true := rfl
@[simp] theorem cEq_ni : cEq .non (.int j) = some false := rfl
@[simp] theorem cEq_in : cEq (.int j) .non = some false := rfl
@[simp] theorem cEq_ns : cEq .non (.str a) = some false := rfl
@[simp] theorem cEq_sn : cEq (.str a) .non = some false := rfl
@[simp] theorem cNe_of {x y : D} : cNe x y = (cEq x y).map (!·) := rfl
@[simp] theorem cNin_of {x y : D} : cNin x y = (cIn x y).map (!·) := rfl
@[simp] theorem cIsnt_of {x y : D} : cIsnt x y = (cIs x y).map (!·) := rfl
@[simp] theorem cIs_bb : cIs (.bl p) (.bl q) = some (decide (p = q)) := rfl
@[simp] theorem cIs_nn : cIs .non .non = some true := rfl
@[simp] theorem cIs_tn : cIs (.tup l) .non = some false := rfl
@[simp] theorem cIs_ln : cIs (.lst l) .non = some false := rfl
@[simp] theorem cIs_in : cIs (.int i) .non = some false := rfl
@[simp] theorem cIs_sn : cIs (.str a) .non = some false := rfl
@[simp] theorem dTru_b : dTru (.bl p) = some p := rfl
@[simp] theorem dTru_i : dTru (.int i) = some (i != 0) := rfl
@[simp] theorem dTru_l : dTru (.lst l) = some (!l.isEmpty) := rfl
@[simp] theorem dTru_t : dTru (.tup l) = some (!l.isEmpty) := rfl
@[simp] theorem dTru_n : dTru .non = some false := rfl
@[simp] theorem dIx_li : dIx (.lst l) (.int i) = atI l i := rfl
@[simp] theorem dIx_ti : dIx (.tup l) (.int i) = atI l i := rfl
@[simp] theorem dIx_si : dIx (.str a) (.int i) = (atI a.cps.toList i).bind fun n => chk (a.length ≤ 1000000) (.str ⟨#[n]⟩) := rfl
@[simp] theorem dEnd_i : dEnd (.int i) = some i := rfl
@[simp] theorem dCut_l {u v : Option Int} : dCut (.lst l) u v = some (.lst (cutD l u v)) := rfl
@[simp] theorem dCut_t {u v : Option Int} : dCut (.tup l) u v = some (.tup (cutD l u v)) := rfl
@[simp] theorem dCut_s {u v : Option Int} : dCut (.str a) u v = chk (a.cps.toList.length ≤ 1000000) (.str (S (cutA a.cps.toList u v))) := rfl
@[simp] theorem dLen_l : dLen (.lst l) = some (.int (l.length : Int)) := rfl
@[simp] theorem dLen_t : dLen (.tup l) = some (.int (l.length : Int)) := rfl
@[simp] theorem dLen_s : dLen (.str a) = chk (a.length ≤ 1000000) (.int (a.length : Int)) := rfl
@[simp] theorem dAbs_i : dAbs (.int i) = some (.int (if i < 0 then -i else i)) := rfl
@[simp] theorem dInt_i : dInt (.int i) = some (.int i) := rfl
@[simp] theorem dInt_b : dInt (.bl p) = some (.int (if p = true then 1 else 0)) := rfl
@[simp] theorem lList_l : lList (.lst l) = some l := rfl
@[simp] theorem lList_t : lList (.tup l) = some l := rfl
@[simp] theorem lListM_l : lListM (.lst l) = some l := rfl
@[simp] theorem lListM_t : lListM (.tup l) = some l := rfl
@[simp] theorem dIter_l : dIter (.lst l) = some l := rfl
@[simp] theorem dIter_t : dIter (.tup l) = some l := rfl
@[simp] theorem dIter_s : dIter (.str a) = some (signs a) := rfl
@[simp] theorem items_l : itemsD (.lst l) = some l := rfl
@[simp] theorem items_t : itemsD (.tup l) = some l := rfl
@[simp] theorem dEnum_l : dEnum (.lst l) = some (enumD 0 l) := rfl
@[simp] theorem dEnum_t : dEnum (.tup l) = some (enumD 0 l) := rfl
@[simp] theorem dZip_l : dZip (.lst l) (.lst m) = some (zipD l m) := rfl
@[simp] theorem dZip_tl : dZip (.tup l) (.lst m) = some (zipD l m) := rfl
@[simp] theorem dZip_lt : dZip (.lst l) (.tup m) = some (zipD l m) := rfl
@[simp] theorem dZip_t : dZip (.tup l) (.tup m) = some (zipD l m) := rfl
@[simp] theorem dRange_1 : dRange [.int j] = chk (-1000000 ≤ j ∧ j ≤ 1000000) (rngD 0 j.toNat) := rfl
@[simp] theorem dRange_2 : dRange [.int i, .int j] = chk ((0 ≤ i ∧ i ≤ 1000000) ∧ -1000000 ≤ j ∧ j ≤ 1000000) (rngD i (j - i).toNat) := rfl
@[simp] theorem dRange_3 : dRange [.int i, .int j, .int (-1)] = chk ((-1000000 ≤ i ∧ i ≤ 1000000) ∧ -1000000 ≤ j ∧ j ≤ 1000000) (rngC i (-1) (i - j).toNat) := by simp only [dRange, if_pos]
@[simp] theorem lSet_i {v : D} : lSet l (.int i) v = (ixN l.length i).map fun m => l.set m v := rfl
@[simp] theorem un1_t : un1 (.tup [x]) = some x := rfl
@[simp] theorem un2_t : un2 (.tup [x, y]) = some (x, y) := rfl
@[simp] theorem un3_t {z : D} : un3 (.tup [x, y, z]) = some (x, y, z) := rfl
@[simp] theorem un4_t {z w : D} : un4 (.tup [x, y, z, w]) = some (x, y, z, w) := rfl
@[simp] theorem iOp_ii {f : Int → Int → Int} : iOp f (.int i) (.int j) = some (.int (f i j)) := rfl
@[simp] theorem strD_s : strD (.str a) = some a := rfl
@[simp] theorem lstD_l : lstD (.lst l) = some l := rfl
@[simp] theorem dctD_d {k : List (Key × D)} : dctD (.dct k) = some k := rfl
@[simp] theorem keyD_i : keyD (.int i) = some (.inl i) := rfl
@[simp] theorem keyD_s : keyD (.str a) = some (.inr a) := rfl
@[simp] theorem dMax2_ii : dMax2 (.int i) (.int j) = some (.int (if j > i then j else i)) := rfl
@[simp] theorem dMin2_ii : dMin2 (.int i) (.int j) = some (.int (if j < i then j else i)) := rfl
@[simp] theorem foldO_nil {S : Type} {f : S → D → Option S} {s : S} : foldO f s [] = some s := rfl
@[simp] theorem foldO_cons {S : Type} {f : S → D → Option S} {s : S} {x : D} {xs : List D} : foldO f s (x :: xs) = (f s x).bind fun s' => foldO f s' xs := rfl
@[simp] theorem mapO_nil {f : D → Option D} : mapO f [] = some [] := rfl
@[simp] theorem mapO_cons {f : D → Option D} {x : D} {xs : List D} : mapO f (x :: xs) = (f x).bind fun y => (mapO f xs).map fun ys => y :: ys := rfl
@[simp] theorem loopC_nil {S R : Type} {f : S → D → Option (Ctl S R)} {s : S} : loopC f s [] = some (.go s) := rfl
@[simp] theorem ctl_g {S R T : Type} {s : S} {f : S → Option T} {g : R → Option T} : ctl (.go s) f g = f s := rfl
@[simp] theorem ctl_r {S R T : Type} {s : R} {f : S → Option T} {g : R → Option T} : ctl (.ret s) f g = g s := rfl
@[simp] theorem dAll_b {bs : List Bool} : dAll (.lst (bs.map D.bl)) = some (.bl (bs.all id)) := by unfold dAll; simp [blsD_map]
@[simp] theorem dAny_b {bs : List Bool} : dAny (.lst (bs.map D.bl)) = some (.bl (bs.any id)) := by unfold dAny; simp [blsD_map]
@[simp] theorem dSum_i {ns : List Int} : dSum (.lst (ns.map D.int)) = some (.int ns.sum) := by unfold dSum; simp [intsD_map]
theorem cIn_ints {ns : List Int} : cIn (.int i) (.lst (ns.map D.int)) = some (decide (i ∈ ns)) := by
  unfold cIn
  simp [flD, flDs_ints, inV_ints]
theorem cIn_tints {ns : List Int} : cIn (.int i) (.tup (ns.map D.int)) = some (decide (i ∈ ns)) := by
  unfold cIn
  simp [flD, flDs_ints, inV_ints]
end
/-! ### lists as images -/
section
variable {α β : Type} {f : D → Option D} {xs : List D}
theorem mapO_of {l : List α} {e : α → D} {g : α → D} (h : ∀ a ∈ l, f (e a) = some (g a)) : mapO f (l.map e) = some (l.map g) := by
  induction l with
  | nil => rfl
  | cons a l ih =>
    rw [List.map_cons, mapO_cons, h a List.mem_cons_self, Option.bind_some, ih fun b hb => h b (List.mem_cons_of_mem _ hb)]
    rfl
theorem filtO_of {f : D → Option (Option D)} {l : List α} {e g : α → D} {t : α → Bool} (h : ∀ a ∈ l, f (e a) = some (if t a = true then some (g a) else none)) : filtO f (l.map e) = some ((l.filter t).map g) := by
  induction l with
  | nil => rfl
  | cons a l ih =>
    rw [List.map_cons, filtO, h a List.mem_cons_self, Option.bind_some, ih fun b hb => h b (List.mem_cons_of_mem _ hb), List.filter_cons]
    cases t a <;> rfl
/-- a loop that puts one thing behind at each turn -/
theorem foldO_app {f : List D → D → Option (List D)} {l : List α} {e g : α → D} {acc : List D} (h : ∀ a ∈ l, ∀ acc : List D, acc.length < 1000000 → f acc (e a) = some (acc ++ [g a])) (hz : acc.length + l.length ≤ 1000000) : foldO f acc (l.map e) = some (acc ++ l.map g) := by
  induction l generalizing acc with
  | nil => simp
  | cons a l ih =>
    rw [List.length_cons] at hz
    rw [List.map_cons, foldO_cons, h a List.mem_cons_self acc (by omega), Option.bind_some, ih (fun b hb => h b (List.mem_cons_of_mem _ hb)) (by rw [List.length_append, List.length_singleton]; omega)]
    simp
/-- a loop by a plain fold -/
theorem foldO_of {S T : Type} {f : S → D → Option S} {l : List α} {e : α → D} {c : T → S} {g : T → α → T} (I : T → Prop) {t : T} (h0 : I t) (h : ∀ a ∈ l, ∀ t, I t → f (c t) (e a) = some (c (g t a)) ∧ I (g t a)) : foldO f (c t) (l.map e) = some (c (l.foldl g t)) ∧ I (l.foldl g t) := by
  induction l generalizing t with
  | nil => exact ⟨rfl, h0⟩
  | cons a l ih =>
    obtain ⟨h1, h2⟩ := h a List.mem_cons_self t h0
    rw [List.map_cons, foldO_cons, h1, Option.bind_some, List.foldl_cons]
    exact ih h2 fun b hb => h b (List.mem_cons_of_mem _ hb)
/-- a search: the first that gives something -/
theorem loopC_first {R : Type} {f : Unit → D → Option (Ctl Unit R)} {l : List α} {e : α → D} {g : α → Option R} (h : ∀ a ∈ l, f () (e a) = some (match g a with | some r => .ret r | none => .go ())) : loopC f () (l.map e) = some (match l.findSome? g with | some r => .ret r | none => .go ()) := by
  induction l with
  | nil => rfl
  | cons a l ih =>
    rw [List.map_cons, loopC, h a List.mem_cons_self, Option.bind_some, List.findSome?_cons]
    cases g a with
    | some r => rfl
    | none => exact ih fun b hb => h b (List.mem_cons_of_mem _ hb)
/-- what holds of what comes -/
def Gives {α : Type} (o : Option α) (Q : α → Prop) : Prop := ∃ y, o = some y ∧ Q y
theorem Gives.bind {o : Option α} {f : α → Option β} {Q : β → Prop} (h : Gives o fun a => Gives (f a) Q) : Gives (o.bind f) Q := by
  obtain ⟨y, rfl, h⟩ := h
  exact h
theorem Gives.mk {y : α} {Q : α → Prop} (h : Q y) : Gives (some y) Q := ⟨y, rfl, h⟩
theorem Gives.imp {o : Option α} {Q Q' : α → Prop} (h : Gives o Q) (k : ∀ a, Q a → Q' a) : Gives o Q' := by
  obtain ⟨y, e, h⟩ := h
  exact ⟨y, e, k y h⟩
theorem Gives.eq {o : Option α} {y : α} {Q : α → Prop} (e : o = some y) (h : Q y) : Gives o Q := ⟨y, e, h⟩
theorem gives_fold {S : Type} {f : S → D → Option S} {xs : List D} {s : S} (I : Nat → S → Prop) (h0 : I 0 s) (h : ∀ i x s, xs[i]? = some x → I i s → Gives (f s x) fun s' => I (i + 1) s') : Gives (foldO f s xs) fun s' => I xs.length s' := by
  induction xs generalizing s I with
  | nil => exact ⟨s, rfl, h0⟩
  | cons x xs ih =>
    rw [foldO_cons]
    refine .bind ((h 0 x s rfl h0).imp fun s' h1 => ?_)
    exact ih (fun i => I (i + 1)) h1 fun i y s2 hy => h (i + 1) y s2 (by simpa using hy)
theorem gives_mapS {S : Type} {f : S → D → Option (D × S)} {xs : List D} {s : S} (I : Nat → List D → S → Prop) (h0 : I 0 [] s) (h : ∀ i x acc s, xs[i]? = some x → I i acc s → Gives (f s x) fun q => I (i + 1) (acc ++ [q.1]) q.2) : Gives (mapS f s xs) fun q => I xs.length q.1 q.2 := by
  have main : ∀ (xs : List D) (s : S) (k : Nat) (acc : List D), I k acc s → (∀ i x acc s, xs[i]? = some x → I (k + i) acc s → Gives (f s x) fun q => I (k + i + 1) (acc ++ [q.1]) q.2) → Gives (mapS f s xs) fun q => I (k + xs.length) (acc ++ q.1) q.2 := by
    intro xs
    induction xs with
    | nil => intro s k acc h0 _; exact ⟨_, rfl, by simpa using h0⟩
    | cons x xs ih =>
      intro s k acc h0 h
      obtain ⟨q, e1, h1⟩ := h 0 x acc s rfl h0
      obtain ⟨q2, e2, h2⟩ := ih q.2 (k + 1) (acc ++ [q.1]) h1 fun i y acc2 s2 hy hI => by
        have := h (i + 1) y acc2 s2 (by simpa using hy) (by rw [show k + (i + 1) = k + 1 + i by omega]; exact hI)
        rw [show k + (i + 1) + 1 = k + 1 + i + 1 by omega] at this
        exact this
      refine ⟨(q.1 :: q2.1, q2.2), by rw [mapS, e1, Option.bind_some, e2]; rfl, ?_⟩
      rw [List.length_cons, show k + (xs.length + 1) = k + 1 + xs.length by omega]
      simpa using h2
  obtain ⟨q, e, h1⟩ := main xs s 0 [] h0 fun i x acc s hx hI => by
    rw [Nat.zero_add] at hI ⊢
    exact h i x acc s hx hI
  exact ⟨q, e, by simpa using h1⟩
theorem gives_filtS {S : Type} {f : S → D → Option (Option D × S)} {xs : List D} {s : S} (I : Nat → List D → S → Prop) (h0 : I 0 [] s) (h : ∀ i x acc s, xs[i]? = some x → I i acc s → Gives (f s x) fun q => I (i + 1) (acc ++ q.1.toList) q.2) : Gives (filtS f s xs) fun q => I xs.length q.1 q.2 := by
  have main : ∀ (xs : List D) (s : S) (k : Nat) (acc : List D), I k acc s → (∀ i x acc s, xs[i]? = some x → I (k + i) acc s → Gives (f s x) fun q => I (k + i + 1) (acc ++ q.1.toList) q.2) → Gives (filtS f s xs) fun q => I (k + xs.length) (acc ++ q.1) q.2 := by
    intro xs
    induction xs with
    | nil => intro s k acc h0 _; exact ⟨_, rfl, by simpa using h0⟩
    | cons x xs ih =>
      intro s k acc h0 h
      obtain ⟨⟨o, s1⟩, e1, h1⟩ := h 0 x acc s rfl h0
      obtain ⟨q2, e2, h2⟩ := ih s1 (k + 1) (acc ++ o.toList) h1 fun i y acc2 s2 hy hI => by
        have := h (i + 1) y acc2 s2 (by simpa using hy) (by rw [show k + (i + 1) = k + 1 + i by omega]; exact hI)
        rw [show k + (i + 1) + 1 = k + 1 + i + 1 by omega] at this
        exact this
      cases o with
      | none =>
        refine ⟨(q2.1, q2.2), by rw [filtS, e1, Option.bind_some, e2]; rfl, ?_⟩
        rw [List.length_cons, show k + (xs.length + 1) = k + 1 + xs.length by omega]
        simpa using h2
      | some y =>
        refine ⟨(y :: q2.1, q2.2), by rw [filtS, e1, Option.bind_some, e2]; rfl, ?_⟩
        rw [List.length_cons, show k + (xs.length + 1) = k + 1 + xs.length by omega]
        simpa using h2
  obtain ⟨q, e, h1⟩ := main xs s 0 [] h0 fun i x acc s hx hI => by
    rw [Nat.zero_add] at hI ⊢
    exact h i x acc s hx hI
  exact ⟨q, e, by simpa using h1⟩
end
end DX
namespace My
open PySem PySem.Spec L2 DX SX
noncomputable section
def F_Lpen (x0 : D) : Option (List D) :=
  (dEnd (D.int 63)).bind fun i1 => (dCut x0 none (some i1)).bind fun v2 => (lList v2).bind fun l3 => some [(D.lst l3), (D.int 0), (D.int 0)]
def F_Ldraw (x0 : List D) (x1 : D) : Option (D × List D) :=
  (dIx (D.lst x0) (D.int 2)).bind fun v2 => (cGt v2 (D.int 0)).bind fun t3 => if t3 = true then (dIx (D.lst x0) (D.int 2)).bind fun v4 => (dMod v4 x1).bind fun v5 => (dIx (D.lst x0) (D.int 2)).bind fun v6 => (dFdiv v6 x1).bind fun v7 => (lSet x0 (D.int 2) v7).bind fun l8 => some (v5, l8) else (dIx (D.lst x0) (D.int 1)).bind fun v9 => (dAdd v9 (D.int 1)).bind fun v10 => (lSet x0 (D.int 1) v10).bind fun l11 => (dMul (D.int 5581) v9).bind fun v12 => (dAdd v12 (D.int 277)).bind fun v13 => ((dIx (D.lst l11) (D.int 0)).bind fun v16 => (cNe v16 (D.lst [])).bind fun t17 => if t17 = true then (dIx (D.lst l11) (D.int 0)).bind fun v18 => (dIx (D.lst l11) (D.int 0)).bind fun v19 => (dLen v19).bind fun v20 => (dMod v9 v20).bind fun v21 => (dIx v18 v21).bind fun v22 => some v22 else some v13).bind fun (r15 : D) => ((dIx (D.lst l11) (D.int 0)).bind fun v25 => (dLen v25).bind fun v26 => (cLt v9 v26).bind fun t27 => if t27 = true then (dAbs r15).bind fun v28 => (dPow (D.int 10) (D.int 18)).bind fun v29 => (cGe v28 v29).bind fun t30 => some t30 else some false).bind fun t31 => if t31 = true then (dAbs r15).bind fun v32 => (dMul (D.int 2) v32).bind fun v33 => (cLt r15 (D.int 0)).bind fun t34 => (dInt (D.bl t34)).bind fun v35 => (dAdd v33 v35).bind fun v36 => (dFdiv v36 x1).bind fun v37 => (lSet l11 (D.int 2) v37).bind fun l38 => (dMod v36 x1).bind fun v39 => some (v39, l38) else (dMod r15 (D.int 2147483563)).bind fun v40 => (dMul (D.int 40771) v9).bind fun v41 => (dAdd v40 v41).bind fun v42 => (dAdd v42 (D.int 29)).bind fun v43 => (dPow v43 (D.int 5)).bind fun v44 => (dMod v44 (D.int 2147483647)).bind fun v45 => (dAdd v9 (D.int 50021)).bind fun v46 => (dMul v45 v46).bind fun v47 => (dMul (D.int 70001) v9).bind fun v48 => (dMul v48 v9).bind fun v49 => (dAdd v47 v49).bind fun v50 => (dAdd v50 (D.int 11)).bind fun v51 => (dPow v51 (D.int 3)).bind fun v52 => (dMod v52 (D.int 2147483587)).bind fun v53 => (dFdiv v53 (D.int 32)).bind fun v54 => (dMod v54 x1).bind fun v55 => some (v55, l11)
def F_Lmode (x0 : List D) : Option (D × List D) :=
  (F_Ldraw x0 (D.int 3)).bind fun v1 => (cEq v1.1 (D.int 0)).bind fun t2 => (F_Ldraw v1.2 (D.int 3)).bind fun v3 => (cEq v3.1 (D.int 0)).bind fun t4 => some ((D.tup [(D.bl t2), (D.bl t4)]), v3.2)
def F_output_positions (x0 : D) (x1 : D) : Option (D) :=
  (dInt x1).bind fun v1 => (dAdd x0 (D.int 1)).bind fun v2 => (dRange [v1, v2]).bind fun l3 => some (D.tup l3)
def F_outputs_asked (x0 : D) (x1 : D) (x2 : D) : Option (D) :=
  ((cIs x1 D.non).bind fun t1 => if t1 = true then (F_output_positions x0 x2).bind fun v2 => some v2 else (lList x1).bind fun l3 => some (D.tup l3)).bind fun v5 => some v5
def F_is_letter (x0 : D) : Option (D) :=
  ((dIsi "str" x0).bind fun t2 => (dTru (D.bl t2)).bind fun t3 => if t3 = true then (cIn x0 (D.tup [(D.str "G"), (D.str "K")])).bind fun t4 => some (D.bl t4) else some (D.bl t2)).bind fun v5 => some v5
def F_state_at (x0 : D) (x1 : D) : Option (D) :=
  (dLen x0).bind fun v1 => (dSub v1 (D.int 1)).bind fun v2 => (dSub v2 x1).bind fun v3 => (dIx x0 v3).bind fun v4 => some v4
def F_carry_of (x0 : D) : Option (D) :=
  (cEq x0 (D.str "G")).bind fun t1 => (dInt (D.bl t1)).bind fun v2 => some v2
def F_row_carry (x0 : D) (x1 : D) : Option (D) :=
  (dIter x0).bind fun l1 => (loopC (fun (s2 : Unit) x4 => ((F_is_letter x4).bind fun v7 => (dTru v7).bind fun t8 => if t8 = true then some x4 else (F_state_at x1 x4).bind fun v9 => some v9).bind fun v11 => (cNe v11 (D.str "P")).bind fun t13 => if t13 = true then (F_carry_of v11).bind fun v14 => some (.ret v14) else some (.go ())) () l1).bind fun c5 => ctl c5 (fun (r3 : Unit) => some (D.int 0)) (fun v => some v)
def F_first_state (x0 : D) (x1 : D) : Option (D) :=
  (dIter x1).bind fun l1 => (loopC (fun (s2 : Unit) x4 => (F_state_at x0 x4).bind fun v8 => (cNe v8 (D.str "P")).bind fun t9 => if t9 = true then (F_state_at x0 x4).bind fun v10 => some (.ret v10) else some (.go ())) () l1).bind fun c5 => ctl c5 (fun (r3 : Unit) => some (D.str "P")) (fun v => some v)
def F_due_positions (x0 : D) (x1 : D) (x2 : D) : Option (D) :=
  (dTru x2).bind fun t2 => if (!t2) = true then (dRange [x1, (D.int (-1)), (D.int (-1))]).bind fun l3 => some (D.tup l3) else (dRange [x1, (D.int 0), (D.int (-1))]).bind fun l4 => (dRange [x0, x1, (D.int (-1))]).bind fun l5 => (dAdd (D.lst l4) (D.lst l5)).bind fun v6 => (lList v6).bind fun l7 => some (D.tup l7)
def F_true_carry (x0 : D) (x1 : D) : Option (D) :=
  (F_state_at x0 (D.int 0)).bind fun v1 => (cEq v1 (D.str "P")).bind fun t2 => (dLen x0).bind fun v3 => (dSub v3 (D.int 1)).bind fun v4 => (F_due_positions v4 x1 (D.bl t2)).bind fun v5 => (F_first_state x0 v5).bind fun v6 => (F_carry_of v6).bind fun v7 => some v7
def F_is_between (x0 : D) (x1 : D) (x2 : D) : Option (D) :=
  ((dIsi "int" x0).bind fun t2 => (dTru (D.bl t2)).bind fun t3 => if t3 = true then (dIsi "bool" x0).bind fun t5 => (dTru (D.bl t5)).bind fun t6 => (dTru (D.bl (!t6))).bind fun t7 => if t7 = true then (cLe x1 x0).bind fun t9 => if t9 = true then (cLe x0 x2).bind fun t10 => some (D.bl t10) else some (D.bl false) else some (D.bl (!t6)) else some (D.bl t2)).bind fun v11 => some v11
def F_is_row_of (x0 : D) (x1 : D) (x2 : D) (x3 : D) : Option (D) :=
  ((dIsi "tuple" x1).bind fun t3 => (dTru (D.bl t3)).bind fun t4 => if (!t4) = true then some true else (cEq x1 (D.tup [])).bind fun t5 => some t5).bind fun t6 => if t6 = true then some (D.bl false) else (((dTru x3).bind fun t8 => if t8 = true then (dIx x1 (D.int (-1))).bind fun v9 => (F_is_letter v9).bind fun v10 => (dTru v10).bind fun t11 => some t11 else some false).bind fun t12 => if t12 = true then (dEnd (D.int (-1))).bind fun i13 => (dCut x1 none (some i13)).bind fun v14 => some v14 else some x1).bind fun v16 => ((dIter v16).bind fun l19 => (chk (l19.length ≤ 1000000) ()).bind fun _ => (mapO (fun x21 => (dInt x2).bind fun v26 => (F_is_between x21 v26 x0).bind fun v27 => some v27) l19).bind fun y22 => (dAll (D.lst y22)).bind fun v28 => (dTru v28).bind fun t29 => if (!t29) = true then some true else (dLenSet v16).bind fun v30 => (dLen v16).bind fun v31 => (cNe v30 v31).bind fun t32 => some t32).bind fun t33 => if t33 = true then some (D.bl false) else (dEnd (D.int (-1))).bind fun i34 => (dCut x1 none (some i34)).bind fun v35 => (cNin (D.int 0) v35).bind fun t36 => some (D.bl t36)
def F_has_states (x0 : D) (x1 : D) : Option (D) :=
  ((dIsi "str" x0).bind fun t3 => (dTru (D.bl t3)).bind fun t4 => if (!t4) = true then some true else (dLen x0).bind fun v5 => (dAdd x1 (D.int 1)).bind fun v6 => (cNe v5 v6).bind fun t7 => some t7).bind fun t8 => if t8 = true then some (D.bl false) else (dIter x0).bind fun l9 => (chk (l9.length ≤ 1000000) ()).bind fun _ => (filtO (fun x11 => (cNin x11 (D.tup [D.str "G", D.str "K", D.str "P"])).bind fun t16 => if t16 = true then some (some x11) else some none) l9).bind fun y12 => (cEq (D.lst y12) (D.lst [])).bind fun t18 => some (D.bl t18)
def F_is_ring_trial (x0 : D) (x1 : D) : Option (D) :=
  ((F_has_states x0 x1).bind fun v2 => (dTru v2).bind fun t3 => if t3 = true then (dIx x0 x1).bind fun v4 => (cEq v4 (D.str "P")).bind fun t5 => some (D.bl t5) else some v2).bind fun v6 => some v6
def F_is_trial (x0 : D) (x1 : D) : Option (D) :=
  ((F_has_states x0 x1).bind fun v2 => (dTru v2).bind fun t3 => if t3 = true then (dIx x0 x1).bind fun v4 => (cNe v4 (D.str "P")).bind fun t5 => some (D.bl t5) else some v2).bind fun v6 => some v6
def F_holds_short (x0 : D) (x1 : D) (x2 : D) (x3 : D) (x4 : D) (x5 : D) : Option (D) :=
  (un4 x2).bind fun p1 => ((F_is_between p1.2.1 (D.int 0) x0).bind fun v4 => (dTru v4).bind fun t5 => if (!t5) = true then some true else (cNin p1.2.1 x3).bind fun t7 => if t7 = true then some true else (F_is_row_of x0 p1.2.2.1 x4 x5).bind fun v8 => (dTru v8).bind fun t9 => some (!t9)).bind fun t10 => if t10 = true then some (D.bl false) else ((dTru x4).bind fun t12 => if t12 = true then (F_is_ring_trial p1.2.2.2 x0).bind fun v13 => (dTru v13).bind fun t14 => some t14 else (F_is_trial p1.2.2.2 x0).bind fun v15 => (dTru v15).bind fun t16 => some t16).bind fun t18 => if (!t18) = true then some (D.bl false) else (dIter x1).bind fun l20 => (chk (l20.length ≤ 1000000) ()).bind fun _ => (filtO (fun x22 => (F_row_carry p1.2.2.1 x22).bind fun v27 => (F_true_carry x22 p1.2.1).bind fun v28 => (cNe v27 v28).bind fun t29 => if t29 = true then some (some x22) else some none) l20).bind fun y23 => (cNe (D.lst y23) (D.lst [])).bind fun t31 => if t31 = true then some (D.bl false) else (F_row_carry p1.2.2.1 p1.2.2.2).bind fun v32 => (F_true_carry p1.2.2.2 p1.2.1).bind fun v33 => (cNe v32 v33).bind fun t34 => some (D.bl t34)
def F_is_row (x0 : D) (x1 : D) : Option (D) :=
  ((dIsi "tuple" x0).bind fun t2 => (dTru (D.bl t2)).bind fun t3 => if t3 = true then (dLen x0).bind fun v4 => (cEq v4 x1).bind fun t5 => some (D.bl t5) else some (D.bl t2)).bind fun v6 => some v6
def F_options_at (x0 : D) (x1 : D) (x2 : D) (x3 : D) (x4 : D) : Option (D) :=
  (dLen x1).bind fun v2 => (cEq x2 v2).bind fun t3 => if t3 = true then some (D.lst [(D.str "G")]) else ((dInt x3).bind fun v4 => (dAdd x0 (D.int 1)).bind fun v5 => some (v4, v5)).bind fun v6 => (dRange [v6.1, v6.2]).bind fun l7 => (chk (l7.length ≤ 1000000) ()).bind fun _ => (filtO (fun x9 => (dAdd x2 (D.int 1)).bind fun v14 => (dEnd v14).bind fun i15 => (dCut x1 none (some i15)).bind fun v16 => (cNin x9 v16).bind fun t17 => if t17 = true then some (some x9) else some none) l7).bind fun y10 => ((cGt x2 (D.int 0)).bind fun t20 => (dTru (D.bl t20)).bind fun t21 => if t21 = true then some (D.bl t20) else some x4).bind fun v22 => (dInt v22).bind fun v23 => (dMul (D.lst [(D.str "end")]) v23).bind fun v24 => (dAdd (D.lst y10) v24).bind fun v25 => (dInt x4).bind fun v26 => (dMul (D.lst [(D.str "G")]) v26).bind fun v27 => (dAdd v25 v27).bind fun v28 => some v28
def F_options_of (x0 : D) (x1 : D) (x2 : D) (x3 : D) : Option (D) :=
  (F_due_positions x0 x1 x2).bind fun v1 => ((dLen v1).bind fun v2 => ((dTru x2).bind fun t4 => if t4 = true then some x3 else some x2).bind fun v5 => (dInt v5).bind fun v6 => (dAdd v2 v6).bind fun v7 => some v7).bind fun v8 => (dRange [v8]).bind fun l9 => (chk (l9.length ≤ 1000000) ()).bind fun _ => (mapO (fun x11 => (F_options_at x0 v1 x11 x2 x3).bind fun v16 => some v16) l9).bind fun y12 => some (D.lst y12)
def F_is_refuted (x0 : D) (x1 : D) (x2 : D) : Option (D) :=
  (cEq x1 (D.str "end")).bind fun t2 => if t2 = true then (cEq x2 (D.int 1)).bind fun t3 => some (D.bl t3) else ((cEq x1 (D.str "G")).bind fun t4 => if t4 = true then some x1 else (F_state_at x0 x1).bind fun v5 => some v5).bind fun v7 => ((cNe v7 (D.str "P")).bind fun t9 => (dTru (D.bl t9)).bind fun t10 => if t10 = true then (F_carry_of v7).bind fun v11 => (cNe v11 x2).bind fun t12 => some (D.bl t12) else some (D.bl t9)).bind fun v13 => some v13
def F_leading_passes (x0 : D) (x1 : D) : Option (D) :=
  (dEnum x1).bind fun l1 => (loopC (fun (s2 : Unit) x4 => (un2 x4).bind fun p7 => (F_state_at x0 p7.2).bind fun v9 => (cNe v9 (D.str "P")).bind fun t10 => if t10 = true then some (.ret p7.1) else some (.go ())) () l1).bind fun c5 => ctl c5 (fun (r3 : Unit) => (dLen x1).bind fun v11 => some v11) (fun v => some v)
def F_holds_index (x0 : D) (x1 : D) (x2 : D) (x3 : D) (x4 : D) (x5 : D) : Option (D) :=
  ((dLen x0).bind fun v3 => (dSub v3 (D.int 1)).bind fun v4 => (F_is_between x1 (D.int 0) v4).bind fun v5 => (dTru v5).bind fun t6 => if (!t6) = true then some true else (dIx x0 x1).bind fun v7 => (F_leading_passes v7 x3).bind fun v8 => (cLt v8 x4).bind fun t9 => some t9).bind fun t10 => if t10 = true then some (D.bl false) else (dIx x0 x1).bind fun v11 => (dIx x0 x1).bind fun v12 => (F_true_carry v12 x2).bind fun v13 => (F_is_refuted v11 x5 v13).bind fun v14 => some v14
def F_holds_table (x0 : D) (x1 : D) (x2 : D) (x3 : D) (x4 : D) (x5 : D) : Option (D) :=
  (F_due_positions x0 x3 x4).bind fun v1 => (F_options_of x0 x3 x4 x5).bind fun v2 => (dLen v2).bind fun v4 => (F_is_row x2 v4).bind fun v5 => (dTru v5).bind fun t6 => if (!t6) = true then some (D.bl false) else (dEnum v2).bind fun l7 => (loopC (fun (s8 : Unit) x10 => (un2 x10).bind fun p13 => (dIx x2 p13.1).bind fun v15 => (dLen p13.2).bind fun v16 => (F_is_row v15 v16).bind fun v17 => (dTru v17).bind fun t18 => if (!t18) = true then some (.ret (D.bl false)) else ((dIx x2 p13.1).bind fun v19 => some (p13.2, v19)).bind fun v20 => (dZip v20.1 v20.2).bind fun l21 => (loopC (fun (s22 : Unit) x24 => (un2 x24).bind fun p27 => (F_holds_index x1 p27.2 x3 v1 p13.1 p27.1).bind fun v29 => (dTru v29).bind fun t30 => if (!t30) = true then some (.ret (D.bl false)) else some (.go ())) () l21).bind fun c25 => ctl c25 (fun (r23 : Unit) => some (.go ())) (fun v => some (.ret v))) () l7).bind fun c11 => ctl c11 (fun (r9 : Unit) => some (D.bl true)) (fun v => some v)
def F_check_judgement (x0 : D) (x1 : D) (x2 : D) (x3 : D) (x4 : D) (x5 : D) : Option (D) :=
  ((dIsi "tuple" x2).bind fun t3 => (dTru (D.bl t3)).bind fun t4 => if (!t4) = true then some true else (cEq x2 (D.tup [])).bind fun t6 => if t6 = true then some true else (dIx x2 (D.int 0)).bind fun v7 => (dIsi "str" v7).bind fun t8 => (dTru (D.bl t8)).bind fun t9 => some (!t9)).bind fun t10 => if t10 = true then some (D.bl false) else (F_outputs_asked x0 x3 x4).bind fun v11 => (dIx x2 (D.int 0)).bind fun v13 => (cEq v13 (D.str "short")).bind fun t14 => if t14 = true then ((dLen x2).bind fun v16 => (cEq v16 (D.int 4)).bind fun t17 => (dTru (D.bl t17)).bind fun t18 => if t18 = true then (F_holds_short x0 x1 x2 v11 x4 x5).bind fun v19 => some v19 else some (D.bl t17)).bind fun v20 => some v20 else ((dIx x2 (D.int 0)).bind fun v23 => (cNe v23 (D.str "enough")).bind fun t24 => if t24 = true then some true else (dLen x2).bind fun v26 => (cNe v26 (D.int 2)).bind fun t27 => if t27 = true then some true else (dIx x2 (D.int 1)).bind fun v28 => (dLen v11).bind fun v29 => (F_is_row v28 v29).bind fun v30 => (dTru v30).bind fun t31 => some (!t31)).bind fun t32 => if t32 = true then some (D.bl false) else ((dIx x2 (D.int 1)).bind fun v33 => some (v33, v11)).bind fun v34 => (dZip v34.1 v34.2).bind fun l35 => (chk (l35.length ≤ 1000000) ()).bind fun _ => (mapO (fun x37 => (un2 x37).bind fun p42 => (F_holds_table x0 x1 p42.1 p42.2 x4 x5).bind fun v43 => some v43) l35).bind fun y38 => (dAll (D.lst y38)).bind fun v44 => some v44
def F_Lput (x0 : D) (x1 : D) (x2 : D) : Option (D) :=
  (dMul (D.lst [(D.str "P")]) x0).bind fun v1 => (lAdd v1 (D.lst [x2])).bind fun l2 => (dIter x1).bind fun l4 => (foldO (fun (s5 : List D) x7 => (un2 x7).bind fun p10 => (dSub x0 p10.1).bind fun v11 => (lSet s5 v11 p10.2).bind fun l12 => some l12) l2 l4).bind fun (r6 : List D) => (strD (D.str "")).bind fun s13 => (dJoinS s13 (D.lst r6)).bind fun v14 => some v14
def F_Lstandard (x0 : D) (x1 : D) (x2 : D) : Option (List D) :=
  ((dTru x1).bind fun t4 => if t4 = true then ((dAdd x0 (D.int 1)).bind fun v5 => some ((D.int 1), v5)).bind fun v6 => (dRange [v6.1, v6.2]).bind fun l7 => (foldO (fun (s8 : List D) x10 => (F_Lput x0 (D.lst [(D.tup [x10, (D.str "G")])]) (D.str "P")).bind fun v13 => (chk (s8.length < 1000000) ()).bind fun _ => some (s8 ++ [v13])) [] l7).bind fun (r9 : List D) => ((dAdd x0 (D.int 1)).bind fun v15 => some ((D.int 1), v15)).bind fun v16 => (dRange [v16.1, v16.2]).bind fun l17 => (foldO (fun (s18 : List D) x20 => ((cGt x20 (D.int 1)).bind fun t23 => if t23 = true then (dSub x20 (D.int 1)).bind fun v24 => some v24 else some x0).bind fun v26 => (F_Lput x0 (D.lst [(D.tup [x20, (D.str "G")]), (D.tup [v26, (D.str "K")])]) (D.str "P")).bind fun v27 => (chk (s18.length < 1000000) ()).bind fun _ => some (s18 ++ [v27])) r9 l17).bind fun (r19 : List D) => some (D.lst r19) else (F_Lput x0 (D.lst []) (D.str "G")).bind fun v29 => (F_Lput x0 (D.lst [(D.tup [(D.int 1), (D.str "G")])]) (D.str "K")).bind fun v30 => ((dAdd x0 (D.int 1)).bind fun v32 => some ((D.int 2), v32)).bind fun v33 => (dRange [v33.1, v33.2]).bind fun l34 => (foldO (fun (s35 : List D) x37 => (dSub x37 (D.int 1)).bind fun v40 => (F_Lput x0 (D.lst [(D.tup [x37, (D.str "G")]), (D.tup [v40, (D.str "K")])]) (D.str "G")).bind fun v41 => (chk (s35.length < 1000000) ()).bind fun _ => some (s35 ++ [v41])) [v29, v30] l34).bind fun (r36 : List D) => (F_Lput x0 (D.lst [(D.tup [x0, (D.str "K")])]) (D.str "G")).bind fun v43 => (chk (r36.length < 1000000) ()).bind fun _ => some (D.lst (r36 ++ [v43]))).bind fun (r3 : D) => ((dTru x1).bind fun t45 => if t45 = true then some (D.str "P") else some (D.str "K")).bind fun v47 => (F_Lput x0 (D.lst []) v47).bind fun v48 => (dInt x2).bind fun v49 => (dMul (D.lst [v48]) v49).bind fun v50 => (lAdd r3 v50).bind fun l51 => some l51
def F_Ltrial (x0 : List D) (x1 : D) (x2 : D) : Option (D × List D) :=
  (F_Ldraw x0 (D.int 3)).bind fun v1 => (F_Lstandard x1 x2 (D.bl true)).bind fun v2 => (cEq v1.1 (D.int 0)).bind fun t4 => if t4 = true then (dLen (D.lst v2)).bind fun v5 => (F_Ldraw v1.2 v5).bind fun v6 => (dIx (D.lst v2) v6.1).bind fun v7 => some (v7, v6.2) else (dSub v1.1 (D.int 1)).bind fun v8 => (dIx (D.lst [(D.int 5), (D.int 2)]) v8).bind fun v9 => (F_Ldraw v1.2 v9).bind fun v10 => (dIx (D.lst [(D.str "GKP"), (D.str "GKPPPP"), (D.str "PPPG"), (D.str "PPPK"), (D.str "GK")]) v10.1).bind fun v11 => ((dTru x2).bind fun t12 => if t12 = true then some ((D.str "P"), v10.2) else (F_Ldraw v10.2 (D.int 2)).bind fun v13 => (dIx (D.str "GK") v13.1).bind fun v14 => some (v14, v13.2)).bind fun v16 => (strD (D.str "")).bind fun s17 => (dRange [x1]).bind fun l18 => (chk (l18.length ≤ 1000000) ()).bind fun _ => (mapS (fun s19 x20 => (dLen v11).bind fun v25 => (F_Ldraw s19 v25).bind fun v26 => (dIx v11 v26.1).bind fun v27 => some (v27, v26.2)) v16.2 l18).bind fun y21 => (dJoinS s17 (D.lst y21.1)).bind fun v28 => (dAdd v28 v16.1).bind fun v29 => some (v29, y21.2)
def F_Ltrials (x0 : List D) (x1 : D) (x2 : D) (x3 : D) : Option (D × List D) :=
  (F_Lstandard x1 x2 x3).bind fun v1 => (F_Ldraw x0 (D.int 4)).bind fun v3 => (cEq v3.1 (D.int 0)).bind fun t5 => if t5 = true then ((F_Ldraw v3.2 (D.int 28)).bind fun v6 => some (v6.1, v6.2)).bind fun v7 => (dRange [v7.1]).bind fun l8 => (chk (l8.length ≤ 1000000) ()).bind fun _ => (mapS (fun s9 x10 => (F_Ltrial s9 x1 x2).bind fun v15 => some (v15.1, v15.2)) v7.2 l8).bind fun y11 => some ((D.lst y11.1), y11.2) else ((dSub v3.1 (D.int 1)).bind fun v16 => (dIx (D.lst [(D.int 0), (D.int 1), (D.int 2)]) v16).bind fun v17 => some v17).bind fun v18 => (dRange [v18]).bind fun l19 => (foldO (fun (s20 : List D × List D) x22 => (dLen (D.lst s20.1)).bind fun v25 => (F_Ldraw s20.2 v25).bind fun v26 => (lPopAt s20.1 v26.1).bind fun v27 => some (v27.2, v26.2)) (v1, v3.2) l19).bind fun (r21 : List D × List D) => ((F_Ldraw r21.2 (D.int 3)).bind fun v28 => some (v28.1, v28.2)).bind fun v29 => (dRange [v29.1]).bind fun l30 => (chk (l30.length ≤ 1000000) ()).bind fun _ => (mapS (fun s31 x32 => (F_Ltrial s31 x1 x2).bind fun v37 => some (v37.1, v37.2)) v29.2 l30).bind fun y33 => (lAdd (D.lst r21.1) (D.lst y33.1)).bind fun l38 => ((dLen (D.lst l38)).bind fun v40 => some v40).bind fun v41 => (dRange [v41]).bind fun l42 => (chk (l42.length ≤ 1000000) ()).bind fun _ => (mapS (fun s43 x44 => (dLen (D.lst s43.1)).bind fun v49 => (F_Ldraw s43.2 v49).bind fun v50 => (lPopAt s43.1 v50.1).bind fun v51 => some (v51.1, v51.2, v50.2)) (l38, y33.2) l42).bind fun y45 => some ((D.lst y45.1), y45.2.2)
def F_Lends (x0 : D) (x1 : D) : Option (D) :=
  (dInt x1).bind fun v1 => (dAdd x0 (D.int 1)).bind fun v2 => (dRange [v1, v2]).bind fun l3 => some (D.lst l3)
def F_Lasked (x0 : List D) (x1 : D) (x2 : D) : Option (D × List D) :=
  ((F_Lends x1 x2).bind fun v1 => some v1).bind fun v2 => (dIter v2).bind fun l3 => (chk (l3.length ≤ 1000000) ()).bind fun _ => (filtS (fun s4 x5 => (F_Ldraw s4 (D.int 2)).bind fun v10 => (cEq v10.1 (D.int 0)).bind fun t11 => if t11 = true then some (some x5, v10.2) else some (none, v10.2)) x0 l3).bind fun y6 => (lList (D.lst y6.1)).bind fun l13 => (F_Lends x1 x2).bind fun v14 => (dIx v14 (D.int (-1))).bind fun v15 => (F_Ldraw y6.2 (D.int 4)).bind fun v16 => (dIx (D.lst [D.non, D.non, (D.tup l13), (D.tup [v15])]) v16.1).bind fun v17 => some (v17, v16.2)
def F_Ldue (x0 : D) (x1 : D) (x2 : D) : Option (D) :=
  (dTru x2).bind fun t2 => if (!t2) = true then ((dAdd x1 (D.int 1)).bind fun v3 => some v3).bind fun v4 => (dRange [v4]).bind fun l5 => (chk (l5.length ≤ 1000000) ()).bind fun _ => (mapO (fun x7 => (dSub x1 x7).bind fun v12 => some v12) l5).bind fun y8 => (lList (D.lst y8)).bind fun l13 => some (D.tup l13) else (dRange [x0]).bind fun l14 => (chk (l14.length ≤ 1000000) ()).bind fun _ => (mapO (fun x16 => (dSub x1 (D.int 1)).bind fun v21 => (dSub v21 x16).bind fun v22 => (dMod v22 x0).bind fun v23 => (dAdd v23 (D.int 1)).bind fun v24 => some v24) l14).bind fun y17 => (lList (D.lst y17)).bind fun l25 => some (D.tup l25)
def F_Loptions (x0 : D) (x1 : D) (x2 : D) (x3 : D) (x4 : D) : Option (D) :=
  (F_Ldue x0 x1 x3).bind fun v1 => (dLen v1).bind fun v3 => (cEq x2 v3).bind fun t4 => if t4 = true then some (D.lst [(D.str "G")]) else ((F_Lends x0 x3).bind fun v5 => some v5).bind fun v6 => (dIter v6).bind fun l7 => (chk (l7.length ≤ 1000000) ()).bind fun _ => (filtO (fun x9 => (dAdd x2 (D.int 1)).bind fun v14 => (dEnd v14).bind fun i15 => (dCut v1 none (some i15)).bind fun v16 => (cNin x9 v16).bind fun t17 => if t17 = true then some (some x9) else some none) l7).bind fun y10 => ((cGt x2 (D.int 0)).bind fun t20 => (dTru (D.bl t20)).bind fun t21 => if t21 = true then some (D.bl t20) else some x4).bind fun v22 => (dInt v22).bind fun v23 => (dMul (D.lst [(D.str "end")]) v23).bind fun v24 => (dAdd (D.lst y10) v24).bind fun v25 => (dInt x4).bind fun v26 => (dMul (D.lst [(D.str "G")]) v26).bind fun v27 => (dAdd v25 v27).bind fun v28 => some v28
def F_Lsign (x0 : D) (x1 : D) : Option (D) :=
  (dLen x0).bind fun v1 => (dSub v1 (D.int 1)).bind fun v2 => (dSub v2 x1).bind fun v3 => (dIx x0 v3).bind fun v4 => some v4
def F_Lagainst (x0 : D) (x1 : D) (x2 : D) : Option (D) :=
  (cEq x1 (D.str "end")).bind fun t2 => if t2 = true then (cEq x2 (D.int 1)).bind fun t3 => some (D.bl t3) else ((cEq x1 (D.str "G")).bind fun t4 => if t4 = true then some x1 else (F_Lsign x0 x1).bind fun v5 => some v5).bind fun v7 => ((cNe v7 (D.str "P")).bind fun t9 => (dTru (D.bl t9)).bind fun t10 => if t10 = true then (cEq v7 (D.str "G")).bind fun t11 => (dInt (D.bl t11)).bind fun v12 => (cNe v12 x2).bind fun t13 => some (D.bl t13) else some (D.bl t9)).bind fun v14 => some v14
def F_Llead (x0 : D) (x1 : D) : Option (D) :=
  (strD (D.str "")).bind fun s1 => (dIter x1).bind fun l2 => (chk (l2.length ≤ 1000000) ()).bind fun _ => (mapO (fun x4 => (F_Lsign x0 x4).bind fun v9 => some v9) l2).bind fun y5 => (dJoinS s1 (D.lst y5)).bind fun v10 => (dLen v10).bind fun v11 => (strD v10).bind fun s12 => (dLstrip s12 (D.str "P")).bind fun v13 => (dLen v13).bind fun v14 => (dSub v11 v14).bind fun v15 => some v15
def F_Lseen (x0 : D) (x1 : D) : Option (D) :=
  (dIter x0).bind fun l1 => (loopC (fun (s2 : Unit) x4 => ((dIsi "str" x4).bind fun t7 => (dTru (D.bl t7)).bind fun t8 => if t8 = true then some x4 else (F_Lsign x1 x4).bind fun v9 => some v9).bind fun v11 => (cNe v11 (D.str "P")).bind fun t13 => if t13 = true then (cEq v11 (D.str "G")).bind fun t14 => (dInt (D.bl t14)).bind fun v15 => some (.ret v15) else some (.go ())) () l1).bind fun c5 => ctl c5 (fun (r3 : Unit) => some (D.int 0)) (fun v => some v)
def F_Ltables (x0 : List D) (x1 : D) (x2 : D) (x3 : D) (x4 : D) (x5 : D) : Option (D × List D) :=
  (dIter x3).bind fun l2 => (foldO (fun (s3 : List D × List D) x7 => (F_Ldue x2 x7 x4).bind fun v10 => ((dLen v10).bind fun v12 => ((dTru x4).bind fun t14 => if t14 = true then some x5 else some x4).bind fun v15 => (dInt v15).bind fun v16 => (dAdd v12 v16).bind fun v17 => some v17).bind fun v18 => (dRange [v18]).bind fun l19 => (foldO (fun (s20 : List D × List D) x22 => ((F_Loptions x2 x7 x22 x4 x5).bind fun v26 => some v26).bind fun v27 => (dIter v27).bind fun l28 => (foldO (fun (s29 : List D × List D) x31 => (dEnum x1).bind fun l34 => (chk (l34.length ≤ 1000000) ()).bind fun _ => (filtO (fun x36 => (un2 x36).bind fun p41 => (F_Llead p41.2 v10).bind fun v42 => (cGe v42 x22).bind fun t43 => if t43 = true then some (some p41.1) else some none) l34).bind fun y37 => (dIter (D.lst y37)).bind fun l45 => (chk (l45.length ≤ 1000000) ()).bind fun _ => (filtO (fun x47 => (dIx x1 x47).bind fun v52 => (dIx x1 x47).bind fun v53 => (F_Lseen v10 v53).bind fun v54 => (F_Lagainst v52 x31 v54).bind fun v55 => (dTru v55).bind fun t56 => if t56 = true then some (some x47) else some none) l45).bind fun y48 => ((dTru (D.lst y48)).bind fun t59 => if t59 = true then some (D.lst y48) else some (D.lst [(D.int 0)])).bind fun v60 => ((dTru (D.lst y48)).bind fun t62 => if t62 = true then some (D.lst y48) else some (D.lst [(D.int 0)])).bind fun v63 => (dLen v63).bind fun v64 => (F_Ldraw s29.2 v64).bind fun v65 => (dIx v60 v65.1).bind fun v66 => (chk (s29.1.length < 1000000) ()).bind fun _ => some ((s29.1 ++ [v66]), v65.2)) ([], s20.1) l28).bind fun (r30 : List D × List D) => (lList (D.lst r30.1)).bind fun l68 => (chk (s20.2.length < 1000000) ()).bind fun _ => some (r30.2, (s20.2 ++ [(D.tup l68)]))) (s3.1, []) l19).bind fun (r21 : List D × List D) => (lList (D.lst r21.2)).bind fun l70 => (chk (s3.2.length < 1000000) ()).bind fun _ => some (r21.1, (s3.2 ++ [(D.tup l70)]))) (x0, []) l2).bind fun (r4 : List D × List D) => some ((D.lst r4.2), r4.1)
def F_Lholds (x0 : D) (x1 : D) (x2 : D) (x3 : D) (x4 : D) (x5 : D) : Option (D) :=
  ((dIsi "tuple" x0).bind fun t3 => (dTru (D.bl t3)).bind fun t4 => if (!t4) = true then some true else (dLen x0).bind fun v6 => (cNe v6 (D.int 2)).bind fun t7 => if t7 = true then some true else (dIx x0 (D.int 0)).bind fun v8 => (dRepr v8).bind fun v9 => (dRepr (D.str "enough")).bind fun v10 => (cNe v9 v10).bind fun t11 => some t11).bind fun t12 => if t12 = true then some (D.bl false) else ((dIx x0 (D.int 1)).bind fun v15 => (dIsi "tuple" v15).bind fun t16 => (dTru (D.bl t16)).bind fun t17 => if (!t17) = true then some true else (dIx x0 (D.int 1)).bind fun v18 => (dLen v18).bind fun v19 => (dLen x3).bind fun v20 => (cNe v19 v20).bind fun t21 => some t21).bind fun t22 => if t22 = true then some (D.bl false) else ((dIx x0 (D.int 1)).bind fun v23 => some (x3, v23)).bind fun v24 => (dZip v24.1 v24.2).bind fun l25 => (loopC (fun (s26 : Unit) x28 => (un2 x28).bind fun p31 => (F_Ldue x2 p31.1 x4).bind fun v32 => ((dIsi "tuple" p31.2).bind fun t35 => (dTru (D.bl t35)).bind fun t36 => if (!t36) = true then some true else (dLen p31.2).bind fun v37 => (dLen v32).bind fun v38 => ((dTru x4).bind fun t40 => if t40 = true then some x5 else some x4).bind fun v41 => (dInt v41).bind fun v42 => (dAdd v38 v42).bind fun v43 => (cNe v37 v43).bind fun t44 => some t44).bind fun t45 => if t45 = true then some (.ret (D.bl false)) else (dEnum p31.2).bind fun l46 => (loopC (fun (s47 : Unit) x49 => (un2 x49).bind fun p52 => (F_Loptions x2 p31.1 p52.1 x4 x5).bind fun v53 => ((dIsi "tuple" p52.2).bind fun t56 => (dTru (D.bl t56)).bind fun t57 => if (!t57) = true then some true else (dLen p52.2).bind fun v58 => (dLen v53).bind fun v59 => (cNe v58 v59).bind fun t60 => some t60).bind fun t61 => if t61 = true then some (.ret (D.bl false)) else (dZip v53 p52.2).bind fun l62 => (loopC (fun (s63 : Unit) x65 => (un2 x65).bind fun p68 => ((dIsi "int" p68.2).bind fun t71 => (dTru (D.bl t71)).bind fun t72 => if (!t72) = true then some true else (dIsi "bool" p68.2).bind fun t74 => (dTru (D.bl t74)).bind fun t75 => if t75 = true then some true else ((cLe (D.int 0) p68.2).bind fun t77 => if t77 = true then (dLen x1).bind fun v78 => (cLt p68.2 v78).bind fun t79 => some t79 else some false).bind fun t80 => some (!t80)).bind fun t81 => if t81 = true then some (.ret (D.bl false)) else (dIx x1 p68.2).bind fun v82 => (F_Lseen v32 v82).bind fun v83 => ((dIx x1 p68.2).bind fun v86 => (F_Llead v86 v32).bind fun v87 => (cLt v87 p52.1).bind fun t88 => if t88 = true then some true else (dIx x1 p68.2).bind fun v89 => (F_Lagainst v89 p68.1 v83).bind fun v90 => (dTru v90).bind fun t91 => some (!t91)).bind fun t92 => if t92 = true then some (.ret (D.bl false)) else some (.go ())) () l62).bind fun c66 => ctl c66 (fun (r64 : Unit) => some (.go ())) (fun v => some (.ret v))) () l46).bind fun c50 => ctl c50 (fun (r48 : Unit) => some (.go ())) (fun v => some (.ret v))) () l25).bind fun c29 => ctl c29 (fun (r27 : Unit) => some (D.bl true)) (fun v => some v)
def F_Lbent (x0 : List D) (x1 : D) (x2 : D) : Option (D × List D) :=
  ((cEq x1 (D.lst [])).bind fun t3 => if t3 = true then some (true, x0) else (F_Ldraw x0 (D.int 6)).bind fun v4 => (cEq v4.1 (D.int 0)).bind fun t5 => some (t5, v4.2)).bind fun t6 => if t6.1 = true then (lList x1).bind fun l7 => (dAdd (D.tup l7) (D.tup [(D.tup [])])).bind fun v8 => (dEnd (D.int 1)).bind fun i9 => (dCut x1 (some i9) none).bind fun v10 => (lList v10).bind fun l11 => (lList x1).bind fun l12 => (dRev x1).bind fun v13 => (lList v13).bind fun l14 => (F_Ldraw t6.2 (D.int 5)).bind fun v15 => (dIx (D.lst [v8, (D.tup l11), (D.lst l12), D.non, (D.tup l14)]) v15.1).bind fun v16 => some (v16, v15.2) else (dLen x1).bind fun v17 => (F_Ldraw t6.2 v17).bind fun v18 => (dIx x1 v18.1).bind fun v19 => (lListM v19).bind fun l20 => (dLen (D.lst l20)).bind fun v22 => (F_Ldraw v18.2 v22).bind fun v23 => (dIx (D.lst l20) v23.1).bind fun v24 => (lList v24).bind fun l25 => (dLen (D.lst l25)).bind fun v26 => (dAdd v26 (D.int 1)).bind fun v27 => (F_Ldraw v23.2 v27).bind fun v28 => (dMax2 (D.int 1) x2).bind fun v29 => (F_Ldraw v28.2 v29).bind fun v30 => ((cNe (D.lst l25) (D.lst [])).bind fun t31 => if t31 = true then (dIx (D.lst l25) (D.int 0)).bind fun v32 => some v32 else some (D.int 0)).bind fun v34 => (dEnd v28.1).bind fun i35 => (dCut (D.lst l25) none (some i35)).bind fun v36 => (F_Ldraw v30.2 (D.int 8)).bind fun v37 => (dIx (D.lst [v30.1, x2, (D.int (-1)), (D.bl true), D.non, (D.str "0"), (D.tup [(D.int 0)]), v34]) v37.1).bind fun v38 => (dAdd v36 (D.lst [v38])).bind fun v39 => (dAdd v28.1 (D.int 1)).bind fun v40 => (dEnd v40).bind fun i41 => (dCut (D.lst l25) (some i41) none).bind fun v42 => (dAdd v39 v42).bind fun v43 => (dEnd v28.1).bind fun i44 => (dCut (D.lst l25) none (some i44)).bind fun v45 => (dAdd v28.1 (D.int 1)).bind fun v46 => (dEnd v46).bind fun i47 => (dCut (D.lst l25) (some i47) none).bind fun v48 => (dAdd v45 v48).bind fun v49 => (dRev (D.lst l25)).bind fun v50 => (dAdd (D.lst l25) (D.lst [(D.int 0)])).bind fun v51 => (F_Ldraw v37.2 (D.int 5)).bind fun v52 => (dIx (D.lst [v43, v49, v50, v51, D.non]) v52.1).bind fun v53 => ((cIs v53 D.non).bind fun t54 => if t54 = true then some v53 else (lList v53).bind fun l55 => some (D.tup l55)).bind fun v57 => (lSet l20 v23.1 v57).bind fun l58 => (lList (D.lst l58)).bind fun l59 => (lList (D.lst l58)).bind fun l60 => (lList (D.lst l58)).bind fun l61 => (dEnd v23.1).bind fun i62 => (dCut (D.lst l58) none (some i62)).bind fun v63 => (dAdd v23.1 (D.int 1)).bind fun v64 => (dEnd v64).bind fun i65 => (dCut (D.lst l58) (some i65) none).bind fun v66 => (dAdd v63 v66).bind fun v67 => (lList v67).bind fun l68 => (dAdd (D.lst l58) (D.lst [(D.tup [])])).bind fun v69 => (lList v69).bind fun l70 => (dEnd v18.1).bind fun i71 => (dCut x1 none (some i71)).bind fun v72 => (F_Ldraw v52.2 (D.int 6)).bind fun v73 => (dIx (D.lst [(D.tup l59), (D.tup l60), (D.tup l61), (D.tup l68), (D.lst l58), (D.tup l70)]) v73.1).bind fun v74 => (dAdd v72 (D.lst [v74])).bind fun v75 => (dAdd v18.1 (D.int 1)).bind fun v76 => (dEnd v76).bind fun i77 => (dCut x1 (some i77) none).bind fun v78 => (dAdd v75 v78).bind fun v79 => (lList v79).bind fun l80 => some ((D.tup l80), v73.2)
def F_Lright (x0 : List D) (x1 : D) (x2 : D) (x3 : D) : Option (D × List D) :=
  (F_Ltrials x0 x1 x2 x3).bind fun v1 => (F_Lasked v1.2 x1 x2).bind fun v2 => ((cIs v2.1 D.non).bind fun t3 => if t3 = true then (F_Lends x1 x2).bind fun v4 => some v4 else (lList v2.1).bind fun l5 => some (D.lst l5)).bind fun v7 => (F_Ltables v2.2 v1.1 x1 v7 x2 x3).bind fun v8 => (lList v8.1).bind fun l9 => (lList v8.1).bind fun l10 => (lList v8.1).bind fun l11 => (lList v8.1).bind fun l12 => (lList v8.1).bind fun l13 => (lList v8.1).bind fun l14 => (dAdd (D.lst [(D.tup [(D.str "enough"), (D.tup l9)]), (D.lst [(D.str "enough"), (D.tup l10)]), (D.tup [(D.str "enough")]), (D.tup [(D.str "enough"), (D.tup l11), (D.int 0)]), (D.str "enough")]) (D.lst [(D.tup [(D.str "Enough"), (D.tup l12)]), D.non, (D.tup []), (D.tup [(D.str "short"), (D.tup l13)]), (D.tup [(D.bl true), (D.tup l14)])])).bind fun v15 => (dRange [(D.int 12)]).bind fun l16 => (chk (l16.length ≤ 1000000) ()).bind fun _ => (mapS (fun s17 x18 => (dLen v1.1).bind fun v23 => (F_Lbent s17 v8.1 v23).bind fun v24 => some ((D.tup [(D.str "enough"), v24.1]), v24.2)) v8.2 l16).bind fun y19 => (dAdd v15 (D.lst y19.1)).bind fun v25 => (dIter v25).bind fun l26 => (loopC (fun (s27 : Unit) x29 => (dRepr (D.tup [x29, v1.1])).bind fun v32 => (F_Lholds x29 v1.1 x1 v7 x2 x3).bind fun v33 => (F_check_judgement x1 v1.1 x29 v2.1 x2 x3).bind fun v34 => (lList v1.1).bind fun l36 => (F_check_judgement x1 (D.tup l36) x29 v2.1 x2 x3).bind fun v37 => (chk ([v34].length < 1000000) ()).bind fun _ => ((dRepr (D.lst ([v34] ++ [v37]))).bind fun v41 => (dRepr (D.lst [v33, v33])).bind fun v42 => (cNe v41 v42).bind fun t43 => if t43 = true then some true else (dRepr (D.tup [x29, v1.1])).bind fun v44 => (cNe v44 v32).bind fun t45 => some t45).bind fun t46 => if t46 = true then some (.ret ((D.bl false), y19.2)) else some (.go ())) () l26).bind fun c30 => ctl c30 (fun (r28 : Unit) => some ((D.bl true), y19.2)) (fun v => some v)
def F_law (x0 : D) : Option (D) :=
  (F_Lpen x0).bind fun v1 => (dRange [(D.int 5)]).bind fun l3 => (loopC (fun (s4 : List D) x6 => (F_Lmode s4).bind fun v9 => (un2 v9.1).bind fun p10 => (F_Ldraw v9.2 (D.int 7)).bind fun v12 => (dAdd (D.int 2) v12.1).bind fun v13 => (F_Ldraw v12.2 (D.int 4)).bind fun v14 => (dIx (D.lst [(D.int 2), (D.int 3), (D.int 8), v13]) v14.1).bind fun v15 => (F_Lright v14.2 v15 p10.1 p10.2).bind fun v16 => (dTru v16.1).bind fun t17 => if (!t17) = true then some (.ret (D.bl false)) else some (.go v16.2)) v1 l3).bind fun c7 => ctl c7 (fun (r5 : List D) => (F_check_judgement (D.int 1) (D.tup [(D.str "PG"), (D.str "GK")]) (D.tup [(D.str "enough"), (D.tup [(D.tup [(D.tup [(D.int 1)])])])]) (D.tup [(D.int 0)]) (D.bl false) (D.bl false)).bind fun v18 => (cIs v18 (D.bl true)).bind fun t19 => some (D.bl t19)) (fun v => some v)
end
end My
namespace My
open PySem PySem.Spec L2 DX SX
def topS (i : Nat) : Stmt := PySem.Challenge.pw_carryprobe_k32_enough_checked.main.body.getD i (.Pass ⟨0, 0, 0, 0⟩)
abbrev s_Lpen : Stmt := topS 36
abbrev s_Ldraw : Stmt := topS 37
abbrev s_Lmode : Stmt := topS 48
abbrev s_output_positions : Stmt := topS 16
abbrev s_outputs_asked : Stmt := topS 20
abbrev s_is_letter : Stmt := topS 30
abbrev s_state_at : Stmt := topS 11
abbrev s_carry_of : Stmt := topS 12
abbrev s_row_carry : Stmt := topS 32
abbrev s_first_state : Stmt := topS 14
abbrev s_due_positions : Stmt := topS 15
abbrev s_true_carry : Stmt := topS 17
abbrev s_is_between : Stmt := topS 1
abbrev s_is_row_of : Stmt := topS 31
abbrev s_has_states : Stmt := topS 8
abbrev s_is_ring_trial : Stmt := topS 10
abbrev s_is_trial : Stmt := topS 9
abbrev s_holds_short : Stmt := topS 33
abbrev s_is_row : Stmt := topS 2
abbrev s_options_at : Stmt := topS 21
abbrev s_options_of : Stmt := topS 22
abbrev s_is_refuted : Stmt := topS 24
abbrev s_leading_passes : Stmt := topS 23
abbrev s_holds_index : Stmt := topS 28
abbrev s_holds_table : Stmt := topS 29
abbrev s_check_judgement : Stmt := topS 34
abbrev s_Lput : Stmt := topS 42
abbrev s_Lstandard : Stmt := topS 43
abbrev s_Ltrial : Stmt := topS 44
abbrev s_Ltrials : Stmt := topS 49
abbrev s_Lends : Stmt := topS 41
abbrev s_Lasked : Stmt := topS 50
abbrev s_Ldue : Stmt := topS 38
abbrev s_Loptions : Stmt := topS 45
abbrev s_Lsign : Stmt := topS 39
abbrev s_Lagainst : Stmt := topS 47
abbrev s_Llead : Stmt := topS 46
abbrev s_Lseen : Stmt := topS 40
abbrev s_Ltables : Stmt := topS 51
abbrev s_Lholds : Stmt := topS 52
abbrev s_Lbent : Stmt := topS 53
abbrev s_Lright : Stmt := topS 54
abbrev s_law : Stmt := topS 55
def dd_Lpen : He.DefD := ⟨("_law_pen", none), "_law_pen", "_law_pen", defArgs s_Lpen, defBody s_Lpen, defScope s_Lpen, [], []⟩
def dd_Ldraw : He.DefD := ⟨("_law_draw", none), "_law_draw", "_law_draw", defArgs s_Ldraw, defBody s_Ldraw, defScope s_Ldraw, [], []⟩
def dd_Lmode : He.DefD := ⟨("_law_mode", none), "_law_mode", "_law_mode", defArgs s_Lmode, defBody s_Lmode, defScope s_Lmode, [], []⟩
def dd_output_positions : He.DefD := ⟨("output_positions", none), "output_positions", "output_positions", defArgs s_output_positions, defBody s_output_positions, defScope s_output_positions, [], []⟩
def dd_outputs_asked : He.DefD := ⟨("outputs_asked", none), "outputs_asked", "outputs_asked", defArgs s_outputs_asked, defBody s_outputs_asked, defScope s_outputs_asked, [], []⟩
def dd_is_letter : He.DefD := ⟨("is_letter", none), "is_letter", "is_letter", defArgs s_is_letter, defBody s_is_letter, defScope s_is_letter, [], []⟩
def dd_state_at : He.DefD := ⟨("state_at", none), "state_at", "state_at", defArgs s_state_at, defBody s_state_at, defScope s_state_at, [], []⟩
def dd_carry_of : He.DefD := ⟨("carry_of", none), "carry_of", "carry_of", defArgs s_carry_of, defBody s_carry_of, defScope s_carry_of, [], []⟩
def dd_row_carry : He.DefD := ⟨("row_carry", none), "row_carry", "row_carry", defArgs s_row_carry, defBody s_row_carry, defScope s_row_carry, [], []⟩
def dd_first_state : He.DefD := ⟨("first_state", none), "first_state", "first_state", defArgs s_first_state, defBody s_first_state, defScope s_first_state, [], []⟩
def dd_due_positions : He.DefD := ⟨("due_positions", none), "due_positions", "due_positions", defArgs s_due_positions, defBody s_due_positions, defScope s_due_positions, [], []⟩
def dd_true_carry : He.DefD := ⟨("true_carry", none), "true_carry", "true_carry", defArgs s_true_carry, defBody s_true_carry, defScope s_true_carry, [], []⟩
def dd_is_between : He.DefD := ⟨("is_between", none), "is_between", "is_between", defArgs s_is_between, defBody s_is_between, defScope s_is_between, [], []⟩
def dd_is_row_of : He.DefD := ⟨("is_row_of", none), "is_row_of", "is_row_of", defArgs s_is_row_of, defBody s_is_row_of, defScope s_is_row_of, [], []⟩
def dd_has_states : He.DefD := ⟨("has_states", none), "has_states", "has_states", defArgs s_has_states, defBody s_has_states, defScope s_has_states, [], []⟩
def dd_is_ring_trial : He.DefD := ⟨("is_ring_trial", none), "is_ring_trial", "is_ring_trial", defArgs s_is_ring_trial, defBody s_is_ring_trial, defScope s_is_ring_trial, [], []⟩
def dd_is_trial : He.DefD := ⟨("is_trial", none), "is_trial", "is_trial", defArgs s_is_trial, defBody s_is_trial, defScope s_is_trial, [], []⟩
def dd_holds_short : He.DefD := ⟨("holds_short", none), "holds_short", "holds_short", defArgs s_holds_short, defBody s_holds_short, defScope s_holds_short, [], []⟩
def dd_is_row : He.DefD := ⟨("is_row", none), "is_row", "is_row", defArgs s_is_row, defBody s_is_row, defScope s_is_row, [], []⟩
def dd_options_at : He.DefD := ⟨("options_at", none), "options_at", "options_at", defArgs s_options_at, defBody s_options_at, defScope s_options_at, [], []⟩
def dd_options_of : He.DefD := ⟨("options_of", none), "options_of", "options_of", defArgs s_options_of, defBody s_options_of, defScope s_options_of, [], []⟩
def dd_is_refuted : He.DefD := ⟨("is_refuted", none), "is_refuted", "is_refuted", defArgs s_is_refuted, defBody s_is_refuted, defScope s_is_refuted, [], []⟩
def dd_leading_passes : He.DefD := ⟨("leading_passes", none), "leading_passes", "leading_passes", defArgs s_leading_passes, defBody s_leading_passes, defScope s_leading_passes, [], []⟩
def dd_holds_index : He.DefD := ⟨("holds_index", none), "holds_index", "holds_index", defArgs s_holds_index, defBody s_holds_index, defScope s_holds_index, [], []⟩
def dd_holds_table : He.DefD := ⟨("holds_table", none), "holds_table", "holds_table", defArgs s_holds_table, defBody s_holds_table, defScope s_holds_table, [], []⟩
def dd_check_judgement : He.DefD := ⟨("check_judgement", none), "check_judgement", "check_judgement", defArgs s_check_judgement, defBody s_check_judgement, defScope s_check_judgement, [], [("outputs", .non), ("ring", .bl false), ("stuck", .bl false)]⟩
def dd_Lput : He.DefD := ⟨("_law_put", none), "_law_put", "_law_put", defArgs s_Lput, defBody s_Lput, defScope s_Lput, [], []⟩
def dd_Lstandard : He.DefD := ⟨("_law_standard", none), "_law_standard", "_law_standard", defArgs s_Lstandard, defBody s_Lstandard, defScope s_Lstandard, [], []⟩
def dd_Ltrial : He.DefD := ⟨("_law_trial", none), "_law_trial", "_law_trial", defArgs s_Ltrial, defBody s_Ltrial, defScope s_Ltrial, [], []⟩
def dd_Ltrials : He.DefD := ⟨("_law_trials", none), "_law_trials", "_law_trials", defArgs s_Ltrials, defBody s_Ltrials, defScope s_Ltrials, [], []⟩
def dd_Lends : He.DefD := ⟨("_law_ends", none), "_law_ends", "_law_ends", defArgs s_Lends, defBody s_Lends, defScope s_Lends, [], []⟩
def dd_Lasked : He.DefD := ⟨("_law_asked", none), "_law_asked", "_law_asked", defArgs s_Lasked, defBody s_Lasked, defScope s_Lasked, [], []⟩
def dd_Ldue : He.DefD := ⟨("_law_due", none), "_law_due", "_law_due", defArgs s_Ldue, defBody s_Ldue, defScope s_Ldue, [], []⟩
def dd_Loptions : He.DefD := ⟨("_law_options", none), "_law_options", "_law_options", defArgs s_Loptions, defBody s_Loptions, defScope s_Loptions, [], []⟩
def dd_Lsign : He.DefD := ⟨("_law_sign", none), "_law_sign", "_law_sign", defArgs s_Lsign, defBody s_Lsign, defScope s_Lsign, [], []⟩
def dd_Lagainst : He.DefD := ⟨("_law_against", none), "_law_against", "_law_against", defArgs s_Lagainst, defBody s_Lagainst, defScope s_Lagainst, [], []⟩
def dd_Llead : He.DefD := ⟨("_law_lead", none), "_law_lead", "_law_lead", defArgs s_Llead, defBody s_Llead, defScope s_Llead, [], []⟩
def dd_Lseen : He.DefD := ⟨("_law_seen", none), "_law_seen", "_law_seen", defArgs s_Lseen, defBody s_Lseen, defScope s_Lseen, [], []⟩
def dd_Ltables : He.DefD := ⟨("_law_tables", none), "_law_tables", "_law_tables", defArgs s_Ltables, defBody s_Ltables, defScope s_Ltables, [], []⟩
def dd_Lholds : He.DefD := ⟨("_law_holds", none), "_law_holds", "_law_holds", defArgs s_Lholds, defBody s_Lholds, defScope s_Lholds, [], []⟩
def dd_Lbent : He.DefD := ⟨("_law_bent", none), "_law_bent", "_law_bent", defArgs s_Lbent, defBody s_Lbent, defScope s_Lbent, [], []⟩
def dd_Lright : He.DefD := ⟨("_law_right", none), "_law_right", "_law_right", defArgs s_Lright, defBody s_Lright, defScope s_Lright, [], []⟩
def dd_law : He.DefD := ⟨("law", none), "law", "law", defArgs s_law, defBody s_law, defScope s_law, [], []⟩
def fn : List He.DefD := [dd_Lpen, dd_Ldraw, dd_Lmode, dd_output_positions, dd_outputs_asked, dd_is_letter, dd_state_at, dd_carry_of, dd_row_carry, dd_first_state, dd_due_positions, dd_true_carry, dd_is_between, dd_is_row_of, dd_has_states, dd_is_ring_trial, dd_is_trial, dd_holds_short, dd_is_row, dd_options_at, dd_options_of, dd_is_refuted, dd_leading_passes, dd_holds_index, dd_holds_table, dd_check_judgement, dd_Lput, dd_Lstandard, dd_Ltrial, dd_Ltrials, dd_Lends, dd_Lasked, dd_Ldue, dd_Loptions, dd_Lsign, dd_Lagainst, dd_Llead, dd_Lseen, dd_Ltables, dd_Lholds, dd_Lbent, dd_Lright, dd_law]
def fa : List He.Fa := [.glo "_law_pen", .glo "_law_draw", .glo "_law_mode", .glo "output_positions", .glo "outputs_asked", .glo "is_letter", .glo "state_at", .glo "carry_of", .glo "row_carry", .glo "first_state", .glo "due_positions", .glo "true_carry", .glo "is_between", .glo "is_row_of", .glo "has_states", .glo "is_ring_trial", .glo "is_trial", .glo "holds_short", .glo "is_row", .glo "options_at", .glo "options_of", .glo "is_refuted", .glo "leading_passes", .glo "holds_index", .glo "holds_table", .glo "check_judgement", .glo "_law_put", .glo "_law_standard", .glo "_law_trial", .glo "_law_trials", .glo "_law_ends", .glo "_law_asked", .glo "_law_due", .glo "_law_options", .glo "_law_sign", .glo "_law_against", .glo "_law_lead", .glo "_law_seen", .glo "_law_tables", .glo "_law_holds", .glo "_law_bent", .glo "_law_right", .glo "law", .free "abs", .free "all", .free "bool", .free "enumerate", .free "int", .free "isinstance", .free "len", .free "list", .free "max", .free "range", .free "repr", .free "set", .free "str", .free "tuple", .free "zip", .str "END" "end", .str "ENOUGH" "enough", .str "GENERATE" "G", .str "KILL" "K", .str "PASS" "P", .str "SHORT" "short", .glo "STATES"]
abbrev R : PySem.W.OpenRow := PySem.W.OpenLaw.row PySem.Challenge.rw_carryprobe_k32_enough_checked
def exq (K : PySem.W.Frag) : Bool := He.tupB K "STATES" [.str "G", .str "K", .str "P"]
abbrev hk : PySem.W.Hook := DX.hookY 5 fa fn exq
def ob (s : PySem.W.SharedT) : He.AlD × Bool := DX.lookY fa fn exq 5 (HandSHeadRun.getT s)
theorem ob_eq (s : PySem.W.SharedT) : ob s = hk.obs s.abs := DX.lookY_eq (HandSHeadRun.getT_eq s)
def loose : List PySem.Str := (["is_between", "is_row", "GENERATE", "KILL", "PASS", "STATES", "has_states", "is_trial", "is_ring_trial", "state_at", "carry_of", "first_state", "due_positions", "output_positions", "true_carry", "END", "outputs_asked", "options_at", "options_of", "leading_passes", "is_refuted", "ENOUGH", "SHORT", "holds_index", "holds_table", "is_letter", "is_row_of", "row_carry", "holds_short", "check_judgement"] : List PySem.Str) ++ (["_law_pen", "_law_draw", "_law_due", "_law_sign", "_law_seen", "_law_ends", "_law_put", "_law_standard", "_law_trial", "_law_options", "_law_lead", "_law_against", "_law_mode", "_law_trials", "_law_asked", "_law_tables", "_law_holds", "_law_bent", "_law_right"] : List PySem.Str)
theorem run (w : World) : HandSHeadRun.RunEq R (PySem.W.view R.prog [55]) hk ob 6000 loose w := by
  intro os
  kernel_rfl
end My
namespace My
open PySem PySem.Spec L2 DX SX
/-! ### what draws -/
def penL (s : Hs) : List D := [.lst (s.cells.map D.int), .int s.at_, .int s.gr]
theorem ixN_of {n : Nat} {i : Int} (h0 : 0 ≤ i) (h1 : i < n) : ixN n i = some i.toNat := by unfold ixN; rw [if_pos h0, if_pos h1]
theorem atI_of_get {α : Type} {l : List α} {i : Int} {x : α} (h0 : 0 ≤ i) (h : l[i.toNat]? = some x) : atI l i = some x := by
  have : i.toNat < l.length := by
    by_cases q : i.toNat < l.length
    · exact q
    · rw [List.getElem?_eq_none (by omega)] at h; cases h
  unfold atI
  rw [ixN_of h0 (by omega)]
  exact h
theorem nilB_ints {ns : List Int} : cEq (.lst (ns.map D.int)) (.lst []) = some ns.isEmpty := by
  have : sc (.lst (ns.map D.int)) (.lst []) = false := rfl
  unfold cEq
  rw [this]
  simp only [Bool.false_eq_true, if_false]
  rw [show nilB (.lst (ns.map D.int)) (.lst []) = true from intsB_map ns]
  cases ns <;> rfl
theorem cp_mixP {x a c b e : Int} (h : 0 ≤ a ∧ a ≤ 1000000) (hc : 0 ≤ c ∧ c ≤ 200000) (hb : 0 ≤ b ∧ b ≤ 1000000) (he : 0 ≤ e ∧ e ≤ 1000) : CPow (x % 2147483647 * (a + b) + c * a * a + e) 3 := by
  have h1 : 0 ≤ x % 2147483647 := Int.emod_nonneg _ (by decide)
  have h2 : x % 2147483647 < 2147483647 := Int.emod_lt_of_pos _ (by decide)
  have h3 : 0 ≤ x % 2147483647 * (a + b) := Int.mul_nonneg h1 (by omega)
  have h4 : x % 2147483647 * (a + b) ≤ 2147483647 * 2000000 := Int.mul_le_mul (by omega) (by omega) (by omega) (by omega)
  have h5 : 0 ≤ c * a := Int.mul_nonneg hc.1 h.1
  have h6 : c * a ≤ 200000 * 1000000 := Int.mul_le_mul (by omega) (by omega) (by omega) (by omega)
  have h7 : 0 ≤ c * a * a := Int.mul_nonneg h5 h.1
  have h8 : c * a * a ≤ 200000 * 1000000 * 1000000 := Int.mul_le_mul (by omega) (by omega) (by omega) (by omega)
  exact ⟨by omega, by omega, by omega⟩
theorem cmul_small {i j : Int} (h : -(2 ^ 63) ≤ i ∧ i ≤ 2 ^ 63) : CMul i j := .inl ⟨by omega, by omega⟩
theorem cmul_smallr {i j : Int} (h : -(2 ^ 63) ≤ j ∧ j ≤ 2 ^ 63) : CMul i j := .inr ⟨by omega, by omega⟩
theorem fin_take {m b : Int} (hb : 0 < b) : 0 ≤ m % b ∧ m % b < b := ⟨Int.emod_nonneg _ (by omega), Int.emod_lt_of_pos _ hb⟩
theorem pen_set1 {s : Hs} {v : D} : lSet (penL s) (.int 1) v = some [.lst (s.cells.map D.int), v, .int s.gr] := rfl
theorem pen_set2 {c : D} {a g v : D} : lSet [c, a, g] (.int 2) v = some [c, a, v] := rfl
theorem pen_at0 {c a g : D} : dIx (.lst [c, a, g]) (.int 0) = some c := rfl
theorem pen_at1 {c a g : D} : dIx (.lst [c, a, g]) (.int 1) = some a := rfl
theorem pen_at2 {c a g : D} : dIx (.lst [c, a, g]) (.int 2) = some g := rfl
theorem draw_ok {s : Hs} {n b : Int} (h : HOk s n) (hn : n ≤ 1000000) (hb : 0 < b ∧ b < 1000000000) : Gives (F_Ldraw (penL s) (.int b)) fun q => ∃ k s', q = (.int k, penL s') ∧ 0 ≤ k ∧ k < b ∧ HOk s' (n + 1) := by
  obtain ⟨a0, an, g0⟩ := h
  have hcd : CDiv s.gr b := ⟨hb.1, by omega⟩
  unfold F_Ldraw penL
  rw [pen_at2]
  simp only [Option.bind_some, cGt_ii]
  by_cases hg : (0 : Int) < s.gr
  · rw [if_pos (decide_eq_true hg)]
    simp only [dMod_ii, dFdiv_ii, pen_set2, Option.bind_some, chk_pos hb.1, chk_pos hcd]
    exact .mk ⟨_, ⟨s.cells, s.at_, s.gr / b⟩, rfl, (fin_take hb.1).1, (fin_take hb.1).2, ⟨a0, by show s.at_ ≤ n + 1; omega, Int.ediv_nonneg g0 (by omega)⟩⟩
  rw [if_neg (by simpa using hg)]
  rw [pen_at1]
  simp only [Option.bind_some, dAdd_ii]
  rw [show lSet [D.lst (s.cells.map D.int), .int s.at_, .int s.gr] (.int 1) (.int (s.at_ + 1)) = some [D.lst (s.cells.map D.int), .int (s.at_ + 1), .int s.gr] from rfl]
  have hc1 : CMul 5581 s.at_ := cmul_small (by omega)
  simp only [Option.bind_some, dMul_ii, chk_pos hc1, dAdd_ii, pen_at0, cNe_of, nilB_ints, Option.map_some, dLen_l, List.length_map]
  refine .bind (Gives.imp (Q := fun r => ∃ q : Int, r = D.int q) ?_ fun r hr => ?_)
  · by_cases he : s.cells.isEmpty = true
    · rw [he]; exact .mk ⟨_, rfl⟩
    · have he : s.cells.isEmpty = false := by simpa using he
      have hl : (0 : Int) < (s.cells.length : Int) := by
        cases hcs : s.cells with
        | nil => rw [hcs] at he; cases he
        | cons a l => simp only [List.length_cons]; omega
      rw [he, if_pos (by rfl)]
      simp only [dMod_ii, chk_pos hl, Option.bind_some, dIx_li]
      have e1 := fin_take (m := s.at_) hl
      rw [atI_of_get (x := .int (s.cells.getD (s.at_ % (s.cells.length : Int)).toNat 0)) e1.1 (by rw [List.getElem?_map, List.getD_eq_getElem?_getD, List.getElem?_eq_getElem (by omega)]; rfl)]
      exact .mk ⟨_, rfl⟩
  obtain ⟨q, rfl⟩ := hr
  refine .bind (Gives.imp (Q := fun _ => True) ?_ fun t _ => ?_)
  · simp only [cLt_ii, Option.bind_some]
    split
    · simp only [dAbs_i, dPow_ii, Option.bind_some]
      rw [chk_pos (show CPow 10 18 from ⟨by decide, by decide, by decide⟩)]
      exact .mk trivial
    · exact .mk trivial
  cases t with
  | true =>
    rw [if_pos rfl]
    have hcd : ∀ i, CDiv i b := fun i => ⟨hb.1, by omega⟩
    simp only [dAbs_i, dMul_ii, Option.bind_some, cLt_ii, dInt_b, dAdd_ii, dFdiv_ii, dMod_ii, chk_pos (show CMul 2 (if q < 0 then -q else q) from cmul_small (by decide)), chk_pos (hcd _), chk_pos hb.1, pen_set2]
    have big : (0 : Int) ≤ 2 * (if q < 0 then -q else q) + (if decide (q < 0) = true then 1 else 0) := by
      split <;> split <;> omega
    exact .mk ⟨_, ⟨s.cells, s.at_ + 1, _⟩, rfl, (fin_take hb.1).1, (fin_take hb.1).2, ⟨by show 0 ≤ s.at_ + 1; omega, by show s.at_ + 1 ≤ n + 1; omega, Int.ediv_nonneg big (by omega)⟩⟩
  | false =>
    rw [if_neg (by decide)]
    have p1 : CPow (q % 2147483563 + 40771 * s.at_ + 29) 5 := by
      have := fin_take (m := q) (b := 2147483563) (by decide)
      exact ⟨by omega, by omega, by omega⟩
    have p3 : ∀ z : Int, CMul (z % 2147483647) (s.at_ + 50021) := fun z => by
      have := fin_take (m := z) (b := 2147483647) (by decide)
      exact cmul_small (by omega)
    simp only [dMod_ii, dMul_ii, dAdd_ii, dPow_ii, dFdiv_ii, Option.bind_some, chk_pos (show (0 : Int) < 2147483563 by decide), chk_pos (show (0 : Int) < 2147483647 by decide), chk_pos (show (0 : Int) < 2147483587 by decide), chk_pos (show CMul 40771 s.at_ from cmul_small (by omega)),
      chk_pos (show CMul 70001 s.at_ from cmul_small (by omega)), chk_pos (show CMul (70001 * s.at_) s.at_ from cmul_smallr (by omega)), chk_pos p1, chk_pos (p3 _), chk_pos (cp_mixP (x := _) (a := s.at_) (c := 70001) (b := 50021) (e := 11) ⟨a0, by omega⟩ (by decide) (by decide) (by decide)), chk_pos (show CDiv _ 32 from ⟨by decide, by decide⟩), chk_pos hb.1]
    exact .mk ⟨_, ⟨s.cells, s.at_ + 1, s.gr⟩, rfl, (fin_take hb.1).1, (fin_take hb.1).2, ⟨by show 0 ≤ s.at_ + 1; omega, by show s.at_ + 1 ≤ n + 1; omega, g0⟩⟩
theorem pen_ok (ns : List Int) : F_Lpen (.scr ns) = some (penL ⟨ns.take 63, 0, 0⟩) := rfl
theorem pen_hok (ns : List Int) : HOk ⟨ns.take 63, 0, 0⟩ 0 := ⟨Int.le_refl 0, Int.le_refl 0, Int.le_refl 0⟩
/-! ### states, orders, carries -/
theorem S_len' {l : List Nat} : (S l).length = l.length := S_len l
theorem atI_str {l : List Nat} {i : Int} (h : 0 ≤ i ∧ i < (l.length : Int)) : atI (S l).cps.toList i = some (l.getD i.toNat 0) := by
  rw [tl_S]
  exact atI_of_get h.1 (by rw [List.getD_eq_getElem?_getD, List.getElem?_eq_getElem (by omega)]; rfl)
theorem dIx_S {l : List Nat} {i : Int} (h : 0 ≤ i ∧ i < (l.length : Int)) (hl : l.length ≤ 1000000) : dIx (.str (S l)) (.int i) = some (.str (S [l.getD i.toNat 0])) := by
  rw [dIx_si, atI_str h, Option.bind_some, S_len, chk_pos hl]
theorem state_at_ok {l : List Nat} {p : Int} (h : 0 ≤ p ∧ p < (l.length : Int)) (hl : l.length ≤ 1000000) : F_state_at (.str (S l)) (.int p) = some (.str (S [stp l p])) := by
  unfold F_state_at
  simp only [dLen_s, S_len, chk_pos hl, Option.bind_some, dSub_ii]
  rw [dIx_S (by omega) hl, show ((l.length : Int) - 1 - p).toNat = l.length - 1 - p.toNat by omega]
  rfl
theorem carry_of_ok {c : Nat} : F_carry_of (.str (S [c])) = some (.int (carryS c)) := by
  unfold F_carry_of carryS
  rw [cEq_ss, lit_G]
  simp only [Option.bind_some, dInt_b]
  congr 2
  by_cases h : c = 71
  · rw [if_pos h, h]; rfl
  · rw [if_neg h, if_neg]
    intro q
    have := of_decide_eq_true q
    exact h (by have := congrArg (fun z : Str => z.cps.toList) this; simpa using this)
theorem S1_eq {c d : Nat} : (S [c] = S [d]) ↔ c = d := by
  constructor
  · intro h
    have := congrArg (fun z : Str => z.cps.toList) h
    simpa using this
  · rintro rfl; rfl
theorem cEq_S1 {c d : Nat} : cEq (.str (S [c])) (.str (S [d])) = some (decide (c = d)) := by
  rw [cEq_ss]; congr 1; exact decide_eq_decide.mpr S1_eq
theorem first_find {l : List Nat} : ∀ {ps : List Int}, firstS l ps = ((ps.findSome? fun p => if stp l p ≠ 80 then some (stp l p) else none).getD 80)
  | [] => rfl
  | p :: ps => by
    rw [List.findSome?_cons, firstS]
    by_cases h : stp l p = 80
    · rw [if_pos h, if_neg (by simpa using h)]
      exact first_find
    · rw [if_neg h, if_pos h]; rfl
theorem first_state_ok {l : List Nat} {ps : List Int} (h : ∀ p ∈ ps, 0 ≤ p ∧ p < (l.length : Int)) (hl : l.length ≤ 1000000) : F_first_state (.str (S l)) (.tup (ps.map D.int)) = some (.str (S [firstS l ps])) := by
  unfold F_first_state
  rw [dIter_t, Option.bind_some, loopC_first (g := fun p => if stp l p ≠ 80 then some (D.str (S [stp l p])) else none) fun p hp => ?_]
  · rw [Option.bind_some, first_find]
    have e : ∀ ps : List Int, (ps.findSome? fun p => if stp l p ≠ 80 then some (D.str (S [stp l p])) else none) = (ps.findSome? fun p => if stp l p ≠ 80 then some (stp l p) else none).map fun c => D.str (S [c]) := by
      intro ps
      induction ps with
      | nil => rfl
      | cons p ps ih =>
        rw [List.findSome?_cons, List.findSome?_cons]
        by_cases h : stp l p = 80
        · rw [if_neg (by simpa using h), if_neg (by simpa using h)]; exact ih
        · rw [if_pos h, if_pos h]; rfl
    rw [e]
    cases (ps.findSome? fun p => if stp l p ≠ 80 then some (stp l p) else none) with
    | none => rw [lit_P]; rfl
    | some c => rfl
  · rw [state_at_ok (h p hp) hl, Option.bind_some, cNe_of, lit_P, cEq_S1]
    simp only [Option.map_some, Option.bind_some]
    by_cases q : stp l p = 80
    · simp [q]
    · simp [q]
theorem due_ok {n o : Int} {r : Bool} (hn : 0 ≤ n ∧ n ≤ 1000) (ho : 0 ≤ o ∧ o ≤ n) : F_due_positions (.int n) (.int o) (.bl r) = some (.tup ((dueP n o r).map D.int)) := by
  unfold F_due_positions dueP
  cases r with
  | false =>
    simp only [dTru_b, Option.bind_some, Bool.not_false, if_true, dRange_3]
    rw [chk_pos (by omega), Option.bind_some, rngC_down]; rfl
  | true =>
    simp only [dTru_b, Option.bind_some, Bool.not_true, Bool.false_eq_true, if_false, dRange_3]
    rw [chk_pos (by omega), Option.bind_some, chk_pos (by omega), Option.bind_some, dAdd_ll, chk_pos (by rw [rngC_len, rngC_len]; omega), rngC_down, rngC_down]
    simp
theorem outs_ok {n : Int} {r : Bool} (hn : 0 ≤ n ∧ n ≤ 1000) : F_output_positions (.int n) (.bl r) = some (.tup ((upto (if r = true then 1 else 0) (n + 1)).map D.int)) := by
  unfold F_output_positions
  simp only [dInt_b, Option.bind_some, dAdd_ii, dRange_2]
  rw [chk_pos (by split <;> omega), Option.bind_some, rngD_upto]
theorem true_carry_ok {l : List Nat} {o : Int} (hl : 1 ≤ l.length ∧ l.length ≤ 1000) (ho : 0 ≤ o ∧ o < (l.length : Int)) : F_true_carry (.str (S l)) (.int o) = some (.int (trueS l o)) := by
  unfold F_true_carry
  rw [state_at_ok (by omega) (by omega), Option.bind_some, lit_P, cEq_S1]
  simp only [Option.bind_some, dLen_s, S_len, chk_pos (show l.length ≤ 1000000 by omega), dSub_ii]
  rw [due_ok (by omega) (by omega)]
  simp only [Option.bind_some]
  rw [first_state_ok (fun p hp => by have := dueP_mem (by omega) hp; omega) (by omega), Option.bind_some, carry_of_ok]
  rfl
/-! ### what may stand at the places of a due order -/
@[reducible] def e0 (r : Bool) : Int := if r = true then 1 else 0
theorem e0_in (r : Bool) : 0 ≤ e0 r ∧ e0 r ≤ 1 := by cases r <;> decide
inductive Op
  | pos (q : Int)
  | fin
  | gen
deriving DecidableEq
def opD : Op → D
  | .pos q => .int q
  | .fin => .str "end"
  | .gen => .str "G"
def behK (n : Int) (r : Bool) (L : List Int) : List Int := (upto (e0 r) (n + 1)).filter fun q => !decide (q ∈ L)
def optsAt (n : Int) (r st : Bool) (due : List Int) (p : Nat) : List Op :=
  if p = due.length then [.gen] else (behK n r (due.take (p + 1))).map .pos ++ (if 0 < p ∨ st = true then [.fin] else []) ++ (if st = true then [.gen] else [])
def opsD (L : List Op) : D := .lst (L.map opD)
theorem beh_len {n : Int} {r : Bool} {L : List Int} : (behK n r L).length ≤ (n + 1 - e0 r).toNat := by
  unfold behK
  refine Nat.le_trans (List.length_filter_le _ _) ?_
  rw [upto_len]; exact Nat.le_refl _
theorem beh_mem {n q : Int} {r : Bool} {L : List Int} (h : q ∈ behK n r L) : e0 r ≤ q ∧ q ≤ n ∧ q ∉ L := by
  unfold behK at h
  rw [List.mem_filter] at h
  have := upto_mem h.1
  exact ⟨this.1, by omega, by simpa using h.2⟩
theorem cutD_take {l : List Int} {p : Nat} : cutD (l.map D.int) none (some (p : Int)) = (l.take p).map D.int := by
  unfold cutD HT.sIx
  simp only [List.drop_zero, Nat.sub_zero]
  rw [← List.map_take]
  congr 1
  by_cases h : p ≤ l.length
  · simp [show ¬ ((p : Int) < 0) by omega, h]
  · simp [show ¬ ((p : Int) < 0) by omega]
theorem rep_b {b : Bool} {d : D} : (List.replicate (if b = true then (1 : Int) else 0).toNat [d]).flatten = if b = true then [d] else [] := by cases b <;> rfl
theorem options_at_ok {n : Int} {r st : Bool} {due : List Int} {p : Nat} (hn : 1 ≤ n ∧ n ≤ 1000) (hp : p ≤ due.length) : F_options_at (.int n) (.tup (due.map D.int)) (.int (p : Int)) (.bl r) (.bl st) = some (opsD (optsAt n r st due p)) := by
  unfold F_options_at opsD optsAt
  have e0 := e0_in r
  simp only [dLen_t, List.length_map, Option.bind_some, cEq_ii]
  by_cases h : p = due.length
  · rw [if_pos (decide_eq_true (by omega)), if_pos h]; rfl
  rw [if_neg (by rw [decide_eq_true_eq]; omega), if_neg h]
  simp only [dInt_b, Option.bind_some, dAdd_ii, dRange_2]
  rw [chk_pos (by omega), Option.bind_some, rngD_upto, chk_pos (by rw [List.length_map, upto_len]; omega), Option.bind_some]
  rw [filtO_of (g := D.int) (t := fun q => !decide (q ∈ due.take (p + 1))) fun q _ => ?_]
  · simp only [Option.bind_some, cGt_ii, dTru_b]
    have hb := beh_len (n := n) (r := r) (L := due.take (p + 1))
    have hm : ∀ b : Bool, [D.str "end"].length * (if b = true then (1 : Int) else 0).toNat ≤ 1000000 := fun b => by cases b <;> decide
    have hm2 : ∀ b : Bool, [D.str "G"].length * (if b = true then (1 : Int) else 0).toNat ≤ 1000000 := fun b => by cases b <;> decide
    have hr : ∀ b : Bool, -(2 ^ 62) ≤ (if b = true then (1 : Int) else 0) ∧ (if b = true then (1 : Int) else 0) < 2 ^ 62 := fun b => by cases b <;> decide
    have key : ∀ b : Bool, (dInt (.bl b)).bind (fun v23 => (dMul (.lst [.str "end"]) v23).bind fun v24 => (dAdd (.lst ((behK n r (due.take (p + 1))).map D.int)) v24).bind fun v25 => (dInt (.bl st)).bind fun v26 => (dMul (.lst [.str "G"]) v26).bind fun v27 => (dAdd v25 v27).bind fun v28 => some v28)
        = some (.lst (((behK n r (due.take (p + 1))).map Op.pos ++ (if b = true then [Op.fin] else []) ++ (if st = true then [Op.gen] else [])).map opD)) := by
      intro b
      simp only [dInt_b, Option.bind_some, dMul_li, chk_pos (show _ ∧ _ from ⟨hr b, hm b⟩), rep_b, dAdd_ll]
      rw [chk_pos (by rw [List.length_map]; cases b <;> simp <;> omega), Option.bind_some, chk_pos ⟨hr st, hm2 st⟩, Option.bind_some, dAdd_ll, chk_pos (by rw [List.length_append, List.length_map]; cases b <;> cases st <;> simp <;> omega)]
      simp only [List.map_append, List.map_map]
      cases b <;> cases st <;> rfl
    by_cases hq : 0 < p
    · have : decide ((0 : Int) < (p : Int)) = true := by simpa using hq
      rw [this, if_pos (Or.inl hq)]
      exact key true
    · have : decide ((0 : Int) < (p : Int)) = false := by simpa using hq
      rw [this, show (if 0 < p ∨ st = true then [Op.fin] else []) = (if st = true then [Op.fin] else []) by simp [hq]]
      exact key st
  · rw [show ((p : Int) + 1) = ((p + 1 : Nat) : Int) by omega]
    simp only [dAdd_ii, Option.bind_some, dEnd_i, dCut_t, cutD_take, cNin_of, cIn_tints, Option.map_some, show ((p : Int) + 1) = ((p + 1 : Nat) : Int) by omega]
    split <;> rfl
theorem dueP_len {n o : Int} {r : Bool} (h : 0 ≤ o ∧ o ≤ n) : (dueP n o r).length ≤ (n + 1).toNat := by
  unfold dueP
  split
  · rw [List.length_append, down_len, down_len]; omega
  · rw [down_len]; omega
def manyP (n o : Int) (r st : Bool) : Nat := (dueP n o r).length + (if (r && st) = true then 1 else 0)
def optsOf (n o : Int) (r st : Bool) : List (List Op) := (List.range (manyP n o r st)).map fun p => optsAt n r st (dueP n o r) p
theorem manyP_le {n o : Int} {r st : Bool} (ho : 0 ≤ o ∧ o ≤ n) : manyP n o r st ≤ (n + 2).toNat := by
  unfold manyP
  have := dueP_len (r := r) ho
  split <;> omega
theorem rngD_nat {m : Nat} : rngD 0 ((m : Int)).toNat = (List.range m).map fun (i : Nat) => D.int (i : Int) := by
  unfold rngD
  rw [Int.toNat_natCast]
  exact List.map_congr_left fun i _ => by rw [Int.zero_add]
theorem optsAt_wide {n : Int} {r st : Bool} {due : List Int} {p : Nat} : p = due.length → optsAt n r st due p = [.gen] := fun h => if_pos h
theorem options_of_ok {n o : Int} {r st : Bool} (hn : 1 ≤ n ∧ n ≤ 900) (ho : 0 ≤ o ∧ o ≤ n) : F_options_of (.int n) (.int o) (.bl r) (.bl st) = some (.lst ((optsOf n o r st).map opsD)) := by
  unfold F_options_of
  rw [due_ok (by omega) ho]
  simp only [Option.bind_some, dLen_t, List.length_map, dTru_b]
  have e : (if r = true then some (D.bl st) else some (D.bl r)) = some (.bl (r && st)) := by cases r <;> rfl
  rw [e]
  simp only [Option.bind_some, dInt_b, dAdd_ii, dRange_1]
  have hl := manyP_le (r := r) (st := st) ho
  have em : ((dueP n o r).length : Int) + (if (r && st) = true then 1 else 0) = ((manyP n o r st : Nat) : Int) := by
    unfold manyP
    split <;> omega
  rw [em, chk_pos (by omega), Option.bind_some, rngD_nat, chk_pos (by rw [List.length_map, List.length_range]; omega), Option.bind_some]
  rw [mapO_of (g := fun p => opsD (optsAt n r st (dueP n o r) p)) fun p hp => ?_]
  · unfold optsOf
    rw [Option.bind_some, List.map_map]; rfl
  · rw [options_at_ok (by omega) ?_]; rfl
    have := List.mem_range.mp hp
    unfold manyP at this
    split at this <;> omega
/-! ### refuters -/
theorem enum_from {α : Type} {g : α → D} : ∀ (l : List α) (k : Nat), enumD k (l.map g) = (l.zipIdx k).map fun q => D.tup [.int (q.2 : Int), g q.1]
  | [], _ => rfl
  | a :: l, k => by rw [List.map_cons, enumD, enum_from l (k + 1)]; rfl
theorem zipIdx_range {α : Type} {f : Nat → α} {m : Nat} : ((List.range m).map f).zipIdx = (List.range m).map fun i => (f i, i) := by
  apply List.ext_getElem
  · simp
  · intro i h1 h2
    simp
theorem enum_range {m : Nat} {g : Nat → D} : enumD 0 ((List.range m).map g) = (List.range m).map fun (p : Nat) => D.tup [.int (p : Int), g p] := by
  have h := enum_from (g := g) (List.range m) 0
  rw [h]
  have := zipIdx_range (f := id) (m := m)
  rw [List.map_id] at this
  rw [this, List.map_map]; rfl
theorem map_range {α β : Type} {l : List α} {x : α} {f : α → β} : l.map f = (List.range l.length).map fun i => f (l.getD i x) := by
  apply List.ext_getElem
  · simp
  · intro i h1 h2
    simp at h1
    simp [List.getD_eq_getElem?_getD, h1]
theorem getD_in {α : Type} {l : List α} {x : α} {i : Nat} (h : i < l.length) : l.getD i x ∈ l := by
  rw [List.getD_eq_getElem?_getD, List.getElem?_eq_getElem h]; exact List.getElem_mem h
def leadN (t : List Nat) (ps : List Int) : Nat := (ps.takeWhile fun p => decide (stp t p = 80)).length
theorem lead_find {t : List Nat} : ∀ (ps : List Int) (k : Nat), ((ps.zipIdx k).findSome? fun q => if stp t q.1 = 80 then none else some q.2).getD (k + ps.length) = k + leadN t ps
  | [], k => rfl
  | p :: ps, k => by
    unfold leadN
    rw [List.zipIdx_cons, List.findSome?_cons, List.takeWhile_cons]
    by_cases h : stp t p = 80
    · simp only [h, if_true, decide_true]
      rw [List.length_cons, List.length_cons]
      have := lead_find (t := t) ps (k + 1)
      unfold leadN at this
      rw [show k + (ps.length + 1) = k + 1 + ps.length by omega, this]; omega
    · simp only [h, if_false, decide_false]
      rfl
theorem leading_ok {t : List Nat} {ps : List Int} (h : ∀ p ∈ ps, 0 ≤ p ∧ p < (t.length : Int)) (hl : t.length ≤ 1000000) : F_leading_passes (.str (S t)) (.tup (ps.map D.int)) = some (.int ((leadN t ps : Nat) : Int)) := by
  unfold F_leading_passes
  rw [dEnum_t, Option.bind_some, enum_from, loopC_first (g := fun q => if stp t q.1 = 80 then none else some (D.int ((q.2 : Nat) : Int))) fun q hq => ?_]
  · have e := lead_find (t := t) ps 0
    rw [Nat.zero_add, Nat.zero_add] at e
    rw [Option.bind_some]
    have e2 : ∀ (ps : List (Int × Nat)), (ps.findSome? fun q => if stp t q.1 = 80 then none else some (D.int ((q.2 : Nat) : Int))) = (ps.findSome? fun q => if stp t q.1 = 80 then none else some q.2).map fun c => D.int ((c : Nat) : Int) := by
      intro ps
      induction ps with
      | nil => rfl
      | cons p ps ih =>
        rw [List.findSome?_cons, List.findSome?_cons]
        by_cases h : stp t p.1 = 80
        · rw [if_pos h, if_pos h]; exact ih
        · rw [if_neg h, if_neg h]; rfl
    rw [e2, ← e]
    cases (List.findSome? (fun q : Int × Nat => if stp t q.1 = 80 then none else some q.2) ps.zipIdx) with
    | none => simp
    | some c => rfl
  · have hm : q.1 ∈ ps := by
      have := List.fst_mem_of_mem_zipIdx hq
      exact this
    simp only [un2_t, Option.bind_some]
    rw [state_at_ok (h _ hm) hl, Option.bind_some, cNe_of, lit_P, cEq_S1]
    by_cases z : stp t q.1 = 80
    · simp [z]
    · simp [z]
def refB (t : List Nat) (o : Op) (c : Int) : Bool := match o with
  | .pos q => decide (stp t q ≠ 80) && decide (carryS (stp t q) ≠ c)
  | .fin => decide (c = 1)
  | .gen => decide ((1 : Int) ≠ c)
theorem refuted_ok {t : List Nat} {o : Op} {c : Int} (h : ∀ q, o = .pos q → 0 ≤ q ∧ q < (t.length : Int)) (hl : t.length ≤ 1000000) : F_is_refuted (.str (S t)) (opD o) (.int c) = some (.bl (refB t o c)) := by
  unfold F_is_refuted
  cases o with
  | fin => rfl
  | gen =>
    simp only [opD, cEq_ss, Option.bind_some]
    rw [show decide (("G" : Str) = "end") = false by decide]
    simp only [Bool.false_eq_true, if_false, if_true, Option.bind_some, cNe_of, cEq_ss, Option.map_some, dTru_b, decide_true]
    rw [show decide (("G" : Str) = "P") = false by decide]
    simp only [Bool.not_false, if_true]
    rw [lit_G, carry_of_ok]
    simp only [Option.bind_some, cEq_ii, Option.map_some]
    unfold refB carryS
    simp
  | pos q =>
    obtain ⟨h1, h2⟩ := h q rfl
    simp only [opD, cEq_is, Option.bind_some, Bool.false_eq_true, if_false]
    rw [state_at_ok ⟨h1, h2⟩ hl]
    simp only [Option.bind_some, cNe_of, lit_P, cEq_S1, Option.map_some, dTru_b]
    by_cases z : stp t q = 80
    · rw [z]; simp [refB, z]
    · simp only [decide_eq_false z, Bool.not_false, if_true]
      rw [carry_of_ok]
      simp [refB, z]
/-- which trials come to a place and refute an option -/
def hits (T : List (List Nat)) (o : Int) (due : List Int) (p : Nat) (op : Op) : List Nat := (List.range T.length).filter fun i => decide (p ≤ leadN (T.getD i []) due) && refB (T.getD i []) op (trueS (T.getD i []) o)
def bitsOf (L : List Nat) : Int := (L.map fun i => (2 : Int) ^ i).sum
def refD (T : List (List Nat)) (n o : Int) (r st : Bool) : D := .lst ((List.range (manyP n o r st)).map fun p => .lst ((optsAt n r st (dueP n o r) p).map fun op => .int (bitsOf (hits T o (dueP n o r) p op))))
def txD (T : List (List Nat)) : List D := T.map fun t => D.str (S t)
structure TOk (n : Int) (T : List (List Nat)) : Prop where
  len : ∀ t ∈ T, (t.length : Int) = n + 1
  few : T.length ≤ 200
theorem optsAt_in {n : Int} {r st : Bool} {due : List Int} {p : Nat} {op : Op} {q : Int} (h : op ∈ optsAt n r st due p) (e : op = .pos q) : 0 ≤ q ∧ q ≤ n ∧ e0 r ≤ q := by
  subst e
  unfold optsAt at h
  split at h
  · simp at h
  · rcases List.mem_append.mp h with h | h
    · rcases List.mem_append.mp h with h | h
      · obtain ⟨q2, h2, e⟩ := List.mem_map.mp h
        cases e
        have := beh_mem h2
        have := e0_in r
        omega
      · split at h <;> simp at h
    · split at h <;> simp at h
theorem optsAt_len {n : Int} {r st : Bool} {due : List Int} {p : Nat} (hn : 1 ≤ n ∧ n ≤ 900) : (optsAt n r st due p).length ≤ 1000 := by
  unfold optsAt
  split
  · simp
  · have := beh_len (n := n) (r := r) (L := due.take (p + 1))
    have h0 := e0_in r
    rw [List.length_append, List.length_append, List.length_map]
    have a : (if 0 < p ∨ st = true then [Op.fin] else []).length ≤ 1 := by split <;> simp
    have b : (if st = true then [Op.gen] else []).length ≤ 1 := by split <;> simp
    omega
/-! ### trials with some states -/
/-- pairs of positions and letters; the letter at a position, later ones first -/
def kvsOf (pl : List (Int × Nat)) : List (Key × D) := pl.map fun q => (.inl q.1, .str (S [q.2]))
def plookF (pl : List (Int × Nat)) (p : Int) (c : Nat) : Nat := pl.foldl (fun c q => if q.1 = p then q.2 else c) c
def plook (pl : List (Int × Nat)) (p : Int) : Nat := plookF pl p 80
def tw (pl : List (Int × Nat)) (n : Nat) : List Nat := (List.range n).map fun i : Nat => plook pl ((i : Int) + 1)
theorem tw_len {pl : List (Int × Nat)} {n : Nat} : (tw pl n).length = n := by simp [tw]
theorem prs0 : ([] : List D) = prsD (kvsOf []) := rfl
theorem prs1 {a : Int} {c : Nat} : [D.tup [.int a, .str (S [c])]] = prsD (kvsOf [(a, c)]) := rfl
theorem prs2 {a b : Int} {c d : Nat} : [D.tup [.int a, .str (S [c])], D.tup [.int b, .str (S [d])]] = prsD (kvsOf [(a, c), (b, d)]) := rfl
theorem valD_put {kvs : List (Key × D)} {k k' : Key} {v : D} : valD (putD kvs k v) k' = if k = k' then some v else valD kvs k' := by
  have over : ∀ kvs : List (Key × D), valD (kvs.map fun kv => if kv.1 = k then (kv.1, v) else kv) k' = if k = k' then (valD kvs k').map (fun _ => v) else valD kvs k' := by
    intro kvs
    induction kvs with
    | nil => simp [valD]
    | cons q kvs ih =>
      unfold valD at ih ⊢
      rw [List.map_cons, List.find?_cons, List.find?_cons]
      by_cases h : q.1 = k
      · rw [if_pos h]
        by_cases g : q.1 = k'
        · have : k = k' := by rw [← h]; exact g
          simp [g, this]
        · have : ¬ k = k' := fun z => g (by rw [h]; exact z)
          simp only [this, if_false] at ih ⊢
          simp only [decide_eq_false g]
          exact ih
      · rw [if_neg h]
        by_cases g : q.1 = k'
        · have : ¬ k = k' := fun z => h (by rw [z]; exact g)
          simp [g, this]
        · simp only [decide_eq_false g]
          exact ih
  unfold putD
  by_cases h : (kvs.any fun kv => decide (kv.1 = k)) = true
  · rw [if_pos h, over]
    by_cases g : k = k'
    · rw [if_pos g, if_pos g]
      rw [List.any_eq_true] at h
      obtain ⟨q, hq, hk⟩ := h
      have hk : q.1 = k := of_decide_eq_true hk
      cases e : valD kvs k' with
      | some z => rfl
      | none =>
        unfold valD at e
        rw [Option.map_eq_none_iff, List.find?_eq_none] at e
        exact absurd (e q hq) (by simp [hk, g])
    · rw [if_neg g, if_neg g]
  · rw [if_neg h]
    unfold valD
    rw [List.find?_append]
    by_cases g : k = k'
    · rw [if_pos g]
      have : List.find? (fun kv => decide (kv.1 = k')) kvs = none := by
        rw [List.find?_eq_none]
        intro q hq hk
        exact h (List.any_eq_true.mpr ⟨q, hq, by rw [g]; exact hk⟩)
      rw [this]
      simp [g]
    · rw [if_neg g]
      have : List.find? (fun kv => decide (kv.1 = k')) [(k, v)] = none := by simp [g]
      rw [this, Option.or_none]
theorem get_merge {p : Int} : ∀ (pl : List (Int × Nat)) (kvs : List (Key × D)) (c : Nat), (valD kvs (.inl p)).getD (.str (S [80])) = .str (S [c]) → (valD (mergeD kvs (kvsOf pl)) (.inl p)).getD (.str (S [80])) = .str (S [plookF pl p c])
  | [], _, _, h => h
  | q :: pl, kvs, c, h => by
    have := get_merge pl (putD kvs (.inl q.1) (.str (S [q.2]))) (if q.1 = p then q.2 else c) (by
      rw [valD_put]
      by_cases e : q.1 = p
      · rw [if_pos (by rw [e]), if_pos e]; rfl
      · rw [if_neg (fun z => e (Sum.inl.inj z)), if_neg e]; exact h)
    exact this
theorem get_plook (pl : List (Int × Nat)) (p : Int) : (valD (mergeD [] (kvsOf pl)) (.inl p)).getD (.str (S [80])) = .str (S [plook pl p]) := get_merge pl [] 80 rfl
theorem map_rev {n : Nat} {f : Int → Nat} {m : Int} (h : m = (n : Int)) : (List.range n).map (fun i : Nat => f (m + (i : Int) * (-1))) = ((List.range n).map fun i : Nat => f ((i : Int) + 1)).reverse := by
  apply List.ext_getElem
  · simp
  · intro i h1 h2
    rw [List.getElem_map, List.getElem_reverse, List.getElem_map, List.getElem_range, List.getElem_range]
    simp only [List.length_map, List.length_range] at h1 h2 ⊢
    congr 1
    omega
theorem kvs_back (pl : List (Int × Nat)) : kvsD (prsD (kvsOf pl)) = some (kvsOf pl) := by
  induction pl with
  | nil => rfl
  | cons q pl ih =>
    show kvsD (.tup [.int q.1, .str (S [q.2])] :: prsD (kvsOf pl)) = _
    rw [kvsD, ih]; rfl
theorem dJoin_sgl {L : List Nat} (h : L.length ≤ 1000000) : dJoinS "" (.lst (sgl L)) = some (.str (S L)) := by
  unfold dJoinS
  rw [items_l, Option.bind_some, chk_pos ⟨sgl_all L, by rw [sgl_size]; have : ("" : Str).length = 0 := rfl; rw [this]; omega⟩, join_sgl]
theorem S_cat {a b : List Nat} : S a ++ S b = S (a ++ b) := by
  show Str.mk _ = Str.mk _
  congr 1
  simp
/-- the positions from n down to 1, then position 0 -/
def twS (pl : List (Int × Nat)) (n : Int) (c0 : Nat) : List Nat := (c0 :: tw pl n.toNat).reverse
theorem twS_len {pl : List (Int × Nat)} {n : Int} {c0 : Nat} (hn : 0 ≤ n) : ((twS pl n c0).length : Int) = n + 1 := by
  unfold twS
  rw [List.length_reverse, List.length_cons, tw_len]; omega
theorem tw0 : ([] : List D) = prsD (kvsOf []) := rfl
theorem tw1 {a : Int} {c : Nat} : [D.tup [.int a, .str (S [c])]] = prsD (kvsOf [(a, c)]) := rfl
theorem tw2 {a b : Int} {c d : Nat} : [D.tup [.int a, .str (S [c])], D.tup [.int b, .str (S [d])]] = prsD (kvsOf [(a, c), (b, d)]) := rfl
/-! ### the least bit -/
theorem band1 {i : Int} : Builtin.bitAnd i 1 = i % 2 := by
  have h := PySem.W.kbt_mask i 1
  simpa using h
theorem least_go {b : Int} {k : Nat} (h1 : b / 2 ^ k % 2 = 1) (h0 : ∀ j, j < k → b / 2 ^ j % 2 = 0) : ∀ (m i : Nat), i ≤ k → k < i + m → whileO (fun (s1 : D) => (dShr (.int b) s1).bind fun v3 => (dBand v3 (D.int 1)).bind fun v4 => (cEq v4 (D.int 0)).bind fun t5 => some t5) (fun (s1 : D) => (iOp (· + ·) s1 (D.int 1)).bind fun v6 => some v6) m (.int (i : Int)) = some (.int (k : Int)) := by
  intro m
  induction m with
  | zero => intro i h2 h3; omega
  | succ m ih =>
    intro i h2 h3
    rw [whileO]
    simp only [dShr_ii]
    rw [chk_pos (by omega)]
    simp only [Option.bind_some, dBand_ii, band1, cEq_ii, Int.toNat_natCast]
    by_cases e : i = k
    · subst e
      rw [h1, if_neg (by decide)]
    · have := h0 i (by omega)
      rw [this, if_pos (by decide), iOp_ii, Option.bind_some, Option.bind_some]
      exact ih (i + 1) (by omega) (by omega)
theorem bitsOf_cons {k : Nat} {L : List Nat} : bitsOf (k :: L) = 2 ^ k + bitsOf L := by unfold bitsOf; rw [List.map_cons, List.sum_cons]
theorem bitsOf_high : ∀ {L : List Nat} {k : Nat}, (∀ i ∈ L, k ≤ i) → ∃ c : Int, 0 ≤ c ∧ bitsOf L = 2 ^ k * c
  | [], k, _ => ⟨0, by decide, by simp [bitsOf]⟩
  | i :: L, k, h => by
    obtain ⟨c, h0, e⟩ := bitsOf_high (L := L) (k := k) fun j hj => h j (List.mem_cons_of_mem _ hj)
    have hi := h i List.mem_cons_self
    refine ⟨2 ^ (i - k) + c, by have := le_pow2 (i - k); omega, ?_⟩
    rw [bitsOf_cons, e, Int.mul_add, ← Int.pow_add, show k + (i - k) = i by omega]
where le_pow2 (n : Nat) : (0 : Int) < 2 ^ n := Int.pow_pos (by decide)
theorem bitsOf_least {k : Nat} {L : List Nat} (h : ∀ i ∈ L, k < i) : bitsOf (k :: L) / 2 ^ k % 2 = 1 ∧ ∀ j, j < k → bitsOf (k :: L) / 2 ^ j % 2 = 0 := by
  obtain ⟨c, h0, e⟩ := bitsOf_high (L := L) (k := k + 1) fun i hi => h i hi
  have hp : ∀ n : Nat, (2 : Int) ^ n ≠ 0 := fun n => by have : (0 : Int) < 2 ^ n := Int.pow_pos (by decide); omega
  have e2 : bitsOf (k :: L) = 2 ^ k * (1 + 2 * c) := by
    rw [bitsOf_cons, e, Int.pow_succ, Int.mul_add, Int.mul_one, Int.mul_assoc]
  refine ⟨?_, fun j hj => ?_⟩
  · rw [e2, Int.mul_ediv_cancel_left _ (hp k)]; omega
  · rw [e2, show k = j + (k - j - 1 + 1) by omega, Int.pow_add, Int.mul_assoc, Int.mul_ediv_cancel_left _ (hp j), Int.pow_succ, Int.mul_assoc, Int.mul_comm 2 (1 + 2 * c), ← Int.mul_assoc]
    exact Int.mul_emod_left _ _
theorem bitsOf_zero {L : List Nat} : bitsOf L = 0 ↔ L = [] := by
  cases L with
  | nil => simp [bitsOf]
  | cons k L =>
    refine ⟨fun h => ?_, fun h => by cases h⟩
    obtain ⟨c, h0, e⟩ := bitsOf_high (L := k :: L) (k := 0) fun i _ => Nat.zero_le _
    rw [bitsOf_cons] at h
    obtain ⟨c', h0', e'⟩ := bitsOf_high (L := L) (k := 0) fun i _ => Nat.zero_le _
    rw [e'] at h
    have : (0 : Int) < 2 ^ k := Int.pow_pos (by decide)
    rw [Int.pow_zero, Int.one_mul] at h
    omega
theorem hits_sorted {T : List (List Nat)} {o : Int} {due : List Int} {p : Nat} {op : Op} : (hits T o due p op).Pairwise (· < ·) := List.Pairwise.filter _ List.pairwise_lt_range
/-! ### the first gap -/
def rowGap (f : Op → List Nat) (ops : List Op) : Option Op := ops.findSome? fun op => if f op = [] then some op else none
def gapD : Option (Nat × Op) → D
  | none => .non
  | some (p, op) => .tup [.int (p : Int), opD op]
def firstGap (T : List (List Nat)) (n o : Int) (r st : Bool) : Option (Nat × Op) := (List.range (manyP n o r st)).findSome? fun p => (rowGap (hits T o (dueP n o r) p) (optsAt n r st (dueP n o r) p)).map fun op => (p, op)
theorem zip_map {α : Type} {f g : α → D} : ∀ l : List α, zipD (l.map f) (l.map g) = l.map fun a => D.tup [f a, g a]
  | [] => rfl
  | a :: l => by rw [List.map_cons, List.map_cons, zipD, zip_map l]; rfl
theorem findSome_map {α β γ : Type} {f : α → Option β} {g : β → γ} : ∀ l : List α, (l.findSome? fun a => (f a).map g) = (l.findSome? f).map g
  | [] => rfl
  | a :: l => by
    rw [List.findSome?_cons, List.findSome?_cons]
    cases f a with
    | none => exact findSome_map l
    | some b => rfl
theorem atI_range {m p : Nat} {g : Nat → D} (h : p < m) : atI ((List.range m).map g) ((p : Nat) : Int) = some (g p) := atI_of_get (by omega) (by rw [Int.toNat_natCast, List.getElem?_map, List.getElem?_range h]; rfl)
/-! ### judgements -/
theorem cutD_drop {l : List Int} {p : Nat} : cutD (l.map D.int) (some (p : Int)) none = (l.drop p).map D.int := by
  unfold cutD HT.sIx
  rw [List.length_map, ← List.map_drop]
  by_cases h : p ≤ l.length
  · simp [show ¬ ((p : Int) < 0) by omega, h]
    rw [List.take_of_length_le (by simp)]
  · simp [show ¬ ((p : Int) < 0) by omega, show l.length ≤ p by omega]
def rowW (due : List Int) (p : Nat) : Op → List D
  | .fin => if due.take p = [] then [.str "K"] else (due.take p).map D.int
  | .gen => (due.take p).map D.int ++ [.str "G"]
  | .pos q => if q = 0 then (due.take p).map D.int ++ [.int 0] else (due.take p).map D.int ++ (.int q :: ((due.drop p).filter fun x => decide (x ≠ q)).map D.int)
def zeroC (r : Bool) : Nat := if r = true then 80 else 75
def partT (n : Int) (r : Bool) (due : List Int) (p : Nat) : Op → List Nat
  | .gen => twS [] n (zeroC r)
  | .fin => if due.getD p 0 = 0 then twS [] n 71 else twS [(due.getD p 0, 71)] n (zeroC r)
  | .pos q => if q = 0 then twS [(due.getD p 0, 71)] n (zeroC r) else if due.getD p 0 = 0 then twS [(q, 71)] n (zeroC r) else twS [(q, 71), (due.getD p 0, 75)] n (zeroC r)
def shortD (n o : Int) (r : Bool) (p : Nat) (op : Op) : D := .tup [.str "short", .int o, .tup (rowW (dueP n o r) p op), .str (S (partT n r (dueP n o r) p op))]
theorem firstGap_in {T : List (List Nat)} {n o : Int} {r st : Bool} {p : Nat} {op : Op} (h : firstGap T n o r st = some (p, op)) : p < manyP n o r st ∧ op ∈ optsAt n r st (dueP n o r) p ∧ hits T o (dueP n o r) p op = [] := by
  unfold firstGap at h
  obtain ⟨q, hq, e⟩ := List.exists_of_findSome?_eq_some h
  obtain ⟨op2, h2, e2⟩ := Option.map_eq_some_iff.mp e
  cases e2
  unfold rowGap at h2
  obtain ⟨op3, h3, e3⟩ := List.exists_of_findSome?_eq_some h2
  split at e3
  · cases e3
    exact ⟨List.mem_range.mp hq, h3, by assumption⟩
  · cases e3
theorem firstGap_none {T : List (List Nat)} {n o : Int} {r st : Bool} : firstGap T n o r st = none ↔ ∀ p, p < manyP n o r st → ∀ op ∈ optsAt n r st (dueP n o r) p, hits T o (dueP n o r) p op ≠ [] := by
  unfold firstGap rowGap
  rw [List.findSome?_eq_none_iff]
  constructor
  · intro h p hp op hop z
    have := h p (List.mem_range.mpr hp)
    rw [Option.map_eq_none_iff, List.findSome?_eq_none_iff] at this
    have := this op hop
    rw [if_pos z] at this; cases this
  · intro h p hp
    rw [Option.map_eq_none_iff, List.findSome?_eq_none_iff]
    intro op hop
    rw [if_neg (h p (List.mem_range.mp hp) op hop)]
theorem opts_end {n o : Int} {r st : Bool} {p : Nat} {op : Op} (hp : p < manyP n o r st) (h : op ∈ optsAt n r st (dueP n o r) p) : op = .gen ∨ p < (dueP n o r).length := by
  by_cases e : p = (dueP n o r).length
  · rw [optsAt, if_pos e] at h
    exact .inl (by simpa using h)
  · right
    unfold manyP at hp
    split at hp <;> omega
def headN (L : List Nat) : Nat := L.headD 0
def tblD (T : List (List Nat)) (n o : Int) (r st : Bool) : D := .tup ((List.range (manyP n o r st)).map fun p => .tup ((optsAt n r st (dueP n o r) p).map fun op => .int ((headN (hits T o (dueP n o r) p op) : Nat) : Int)))
def judgeD (T : List (List Nat)) (n : Int) (O : List Int) (r st : Bool) : D := match O.findSome? fun o => (firstGap T n o r st).map fun q => (o, q) with
  | some (o, p, op) => shortD n o r p op
  | none => .tup [.str "enough", .tup (O.map fun o => tblD T n o r st)]
/-- what is asked for -/
def askD : Option (List Int) → D
  | none => .non
  | some O => .tup (O.map D.int)
def askO (n : Int) (r : Bool) : Option (List Int) → List Int
  | none => upto (e0 r) (n + 1)
  | some O => O
theorem asked_ok {n : Int} {r : Bool} {a : Option (List Int)} (hn : 0 ≤ n ∧ n ≤ 1000) : F_outputs_asked (.int n) (askD a) (.bl r) = some (.tup ((askO n r a).map D.int)) := by
  unfold F_outputs_asked
  cases a with
  | none =>
    simp only [askD, cIs_nn, Option.bind_some, if_true]
    rw [outs_ok hn]; rfl
  | some O => simp only [askD, cIs_tn, Option.bind_some, Bool.false_eq_true, if_false, lList_t]; rfl
theorem loopC_acc {α R : Type} {f : List D → D → Option (Ctl (List D) R)} {l : List α} {e g : α → D} {b : α → Option R} {acc : List D} (h : ∀ a ∈ l, ∀ acc : List D, acc.length < 1000000 → f acc (e a) = some (match b a with | some r => .ret r | none => .go (acc ++ [g a]))) (hz : acc.length + l.length ≤ 1000000) :
    loopC f acc (l.map e) = some (match l.findSome? b with | some r => .ret r | none => .go (acc ++ l.map g)) := by
  induction l generalizing acc with
  | nil => simp
  | cons a l ih =>
    rw [List.length_cons] at hz
    rw [List.map_cons, loopC, h a List.mem_cons_self acc (by omega), Option.bind_some, List.findSome?_cons]
    cases b a with
    | some r => rfl
    | none =>
      show loopC f (acc ++ [g a]) (l.map e) = _
      rw [ih (fun c hc => h c (List.mem_cons_of_mem _ hc)) (by rw [List.length_append, List.length_singleton]; omega)]
      cases List.findSome? b l <;> simp
/-! ### the law's trials -/
theorem rep_sgl : ∀ n : Nat, (List.replicate n [D.str "P"]).flatten = sgl (List.replicate n 80)
  | 0 => rfl
  | n + 1 => by rw [List.replicate_succ, List.flatten_cons, rep_sgl n, List.replicate_succ, lit_P]; rfl
theorem set_sgl {L : List Nat} {i c : Nat} : (sgl L).set i (.str (S [c])) = sgl (L.set i c) := by unfold sgl; rw [List.map_set]
theorem tw_snoc {pl : List (Int × Nat)} {q : Int × Nat} {n : Nat} (hq : 1 ≤ q.1 ∧ q.1 ≤ n) : tw (pl ++ [q]) n = (tw pl n).set (q.1 - 1).toNat q.2 := by
  apply List.ext_getElem?
  intro i
  rw [List.getElem?_set]
  unfold tw
  by_cases hi : i < n
  · rw [List.getElem?_map, List.getElem?_map, List.getElem?_range hi]
    simp only [Option.map_some, List.length_map, List.length_range]
    unfold plook plookF
    rw [List.foldl_append]
    by_cases e : (q.1 - 1).toNat = i
    · rw [if_pos e, if_pos (by omega)]
      simp [show q.1 = (i : Int) + 1 by omega]
    · rw [if_neg e]
      simp [show ¬ q.1 = (i : Int) + 1 by omega]
  · rw [List.getElem?_eq_none (by simp; omega)]
    split
    · rw [if_neg (by simp; omega)]
    · rw [List.getElem?_eq_none (by simp; omega)]
theorem twS_snoc {pl : List (Int × Nat)} {q : Int × Nat} {n : Int} {c0 : Nat} (hq : 1 ≤ q.1 ∧ q.1 ≤ n) : (twS pl n c0).set (n - q.1).toNat q.2 = twS (pl ++ [q]) n c0 := by
  unfold twS
  rw [tw_snoc (by omega)]
  apply List.ext_getElem?
  intro i
  rw [List.getElem?_set]
  have hl : (tw pl n.toNat).length = n.toNat := tw_len
  by_cases hi : i < n.toNat + 1
  · rw [List.getElem?_reverse (by simp [hl]; omega), List.getElem?_reverse (by simp [hl]; omega)]
    simp only [List.length_cons, List.length_set, hl, List.length_reverse]
    by_cases e : (n - q.1).toNat = i
    · rw [if_pos e, if_pos (by omega)]
      rw [show n.toNat + 1 - 1 - i = (q.1 - 1).toNat + 1 by omega, List.getElem?_cons_succ, List.getElem?_set_self (by omega)]
    · rw [if_neg e]
      by_cases h0 : n.toNat + 1 - 1 - i = 0
      · rw [h0]; rfl
      · obtain ⟨j, hj⟩ := Nat.exists_eq_succ_of_ne_zero h0
        rw [hj, List.getElem?_cons_succ, List.getElem?_cons_succ, List.getElem?_set_ne (by omega)]
  · rw [List.getElem?_eq_none (by simp [hl]; omega), List.getElem?_eq_none (by simp [hl]; omega)]
    split
    · rw [if_neg (by simp [hl]; omega)]
    · rfl
theorem twS_nil {n : Int} {c0 : Nat} : twS [] n c0 = List.replicate n.toNat 80 ++ [c0] := by
  unfold twS tw
  rw [show (List.range n.toNat).map (fun i : Nat => plook [] ((i : Int) + 1)) = List.replicate n.toNat 80 from ?_]
  · rw [List.reverse_cons, List.reverse_replicate]
  · apply List.ext_getElem
    · simp
    · intro i h1 h2; simp [plook, plookF]
theorem put_go {n : Int} {c0 : Nat} : ∀ (pl pre : List (Int × Nat)), (∀ q ∈ pl, 1 ≤ q.1 ∧ q.1 ≤ n) → foldO (fun (s5 : List D) x7 => (un2 x7).bind fun p10 => (dSub (.int n) p10.1).bind fun v11 => (lSet s5 v11 p10.2).bind fun l12 => some l12) (sgl (twS pre n c0)) (prsD (kvsOf pl)) = some (sgl (twS (pre ++ pl) n c0))
  | [], pre, _ => by rw [List.append_nil]; rfl
  | q :: pl, pre, h => by
    have hq := h q List.mem_cons_self
    show foldO _ (sgl (twS pre n c0)) (.tup [.int q.1, .str (S [q.2])] :: prsD (kvsOf pl)) = _
    have hl : ((twS pre n c0).length : Int) = n + 1 := twS_len (by omega)
    rw [foldO_cons]
    simp only [un2_t, Option.bind_some, dSub_ii, lSet_i]
    rw [ixN_of (by omega) (by rw [sgl_len]; omega)]
    simp only [Option.map_some, Option.bind_some]
    rw [set_sgl, twS_snoc hq, put_go pl (pre ++ [q]) (fun x hx => h x (List.mem_cons_of_mem _ hx)), List.append_assoc]; rfl
theorem put_ok {n : Int} {c0 : Nat} {pl : List (Int × Nat)} (hn : 1 ≤ n ∧ n ≤ 1000) (h : ∀ q ∈ pl, 1 ≤ q.1 ∧ q.1 ≤ n) : F_Lput (.int n) (.lst (prsD (kvsOf pl))) (.str (S [c0])) = some (.str (S (twS pl n c0))) := by
  unfold F_Lput
  rw [dMul_li, chk_pos ⟨by omega, by simp; omega⟩, rep_sgl]
  simp only [Option.bind_some, lAdd_ll]
  rw [chk_pos (by rw [sgl_len, List.length_replicate]; simp; omega)]
  rw [show sgl (List.replicate n.toNat 80) ++ [D.str (S [c0])] = sgl (twS [] n c0) from by rw [twS_nil, ← sgl_app]; rfl]
  simp only [Option.bind_some, dIter_l]
  rw [put_go pl [] h, List.nil_append]
  simp only [Option.bind_some, strD_s]
  rw [dJoin_sgl (by have := twS_len (pl := pl) (c0 := c0) (n := n) (by omega); omega)]; rfl
/-- the standard trials -/
def stdT (n : Int) (r st : Bool) : List (List Nat) :=
  (if r = true then (upto 1 (n + 1)).map (fun p => twS [(p, 71)] n 80) ++ (upto 1 (n + 1)).map (fun p => twS [(p, 71), (if p > 1 then p - 1 else n, 75)] n 80)
   else [twS [] n 71, twS [(1, 71)] n 75] ++ (upto 2 (n + 1)).map (fun p => twS [(p, 71), (p - 1, 75)] n 71) ++ [twS [(n, 75)] n 71])
  ++ (if st = true then [twS [] n (zeroC r)] else [])
theorem txD_app {a b : List (List Nat)} : txD (a ++ b) = txD a ++ txD b := List.map_append
theorem upto_map {a b : Int} : rngD a (b - a).toNat = (upto a b).map D.int := rngD_upto
theorem std_ok {n : Int} {r st : Bool} (hn : 1 ≤ n ∧ n ≤ 900) : F_Lstandard (.int n) (.bl r) (.bl st) = some (txD (stdT n r st)) := by
  have fin : ∀ L : List (List Nat), L.length ≤ 10000 → (((dTru (.bl r)).bind fun t45 => if t45 = true then some (D.str "P") else some (D.str "K")).bind fun v47 => (F_Lput (.int n) (D.lst []) v47).bind fun v48 => (dInt (.bl st)).bind fun v49 => (dMul (D.lst [v48]) v49).bind fun v50 => (lAdd (.lst (txD L)) v50).bind fun l51 => some l51) = some (txD (L ++ (if st = true then [twS [] n (zeroC r)] else []))) := by
    intro L hL
    rw [dTru_b, Option.bind_some, show (if r = true then some (D.str "P") else some (D.str "K")) = some (.str (S [zeroC r])) from (by cases r <;> rfl), Option.bind_some, show D.lst [] = D.lst (prsD (kvsOf [])) from rfl, put_ok (by omega) (fun q hq => absurd hq List.not_mem_nil), Option.bind_some]
    simp only [dInt_b, Option.bind_some, dMul_li]
    rw [chk_pos ⟨by cases st <;> decide, by cases st <;> simp⟩, Option.bind_some, rep_b, lAdd_ll, chk_pos (by unfold txD; rw [List.length_map]; cases st <;> simp <;> omega), Option.bind_some, txD_app]
    cases st <;> rfl
  unfold F_Lstandard stdT
  cases r with
  | true =>
    rw [dTru_b, Option.bind_some, if_pos rfl]
    simp only [dAdd_ii, Option.bind_some, dRange_2]
    rw [chk_pos (by omega), Option.bind_some, upto_map]
    rw [foldO_app (g := fun p => D.str (S (twS [(p, 71)] n 80))) (fun p hp acc ha => ?_) (by rw [upto_len]; simp; omega)]
    · rw [Option.bind_some, Option.bind_some, foldO_app (g := fun p => D.str (S (twS [(p, 71), (if p > 1 then p - 1 else n, 75)] n 80))) (fun p hp acc ha => ?_) (by simp; rw [upto_len]; omega)]
      · have e : [] ++ (upto 1 (n + 1)).map (fun p => D.str (S (twS [(p, 71)] n 80))) ++ (upto 1 (n + 1)).map (fun p => D.str (S (twS [(p, 71), (if p > 1 then p - 1 else n, 75)] n 80))) = txD ((upto 1 (n + 1)).map (fun p => twS [(p, 71)] n 80) ++ (upto 1 (n + 1)).map (fun p => twS [(p, 71), (if p > 1 then p - 1 else n, 75)] n 80)) := by
          unfold txD; rw [List.map_append, List.map_map, List.map_map]; rfl
        rw [Option.bind_some, e, Option.bind_some]
        exact fin _ (by rw [List.length_append, List.length_map, List.length_map, upto_len]; omega)
      · have := upto_mem hp
        simp only [cGt_ii, Option.bind_some, dSub_ii]
        have e : (if decide ((1 : Int) < p) = true then some (D.int (p - 1)) else some (.int n)) = some (.int (if p > 1 then p - 1 else n)) := by
          by_cases z : 1 < p
          · rw [if_pos (decide_eq_true z), if_pos z]
          · rw [if_neg (by simpa using z), if_neg z]
        rw [e, Option.bind_some, lit_G, lit_K, lit_P, tw2, put_ok (by omega) ?_, Option.bind_some, chk_pos ha]; rfl
        intro q hq
        simp only [List.mem_cons, List.not_mem_nil, or_false] at hq
        rcases hq with rfl | rfl
        · exact ⟨this.1, by omega⟩
        · show 1 ≤ (if p > 1 then p - 1 else n) ∧ (if p > 1 then p - 1 else n) ≤ n
          split <;> omega
    · have := upto_mem hp
      rw [lit_G, lit_P, tw1, put_ok (by omega) ?_, Option.bind_some, chk_pos ha]; rfl
      intro q hq
      rw [List.mem_singleton] at hq
      subst hq
      exact ⟨this.1, by omega⟩
  | false =>
    rw [dTru_b, Option.bind_some, if_neg (by decide)]
    rw [show D.lst [] = D.lst (prsD (kvsOf [])) from rfl, lit_G, lit_K, put_ok (by omega) (fun q hq => absurd hq List.not_mem_nil), Option.bind_some, tw1, put_ok (by omega) (fun q hq => by rw [List.mem_singleton] at hq; subst hq; exact ⟨by omega, by omega⟩), Option.bind_some]
    simp only [dAdd_ii, Option.bind_some, dRange_2]
    rw [chk_pos (by omega), Option.bind_some, upto_map]
    rw [foldO_app (g := fun p => D.str (S (twS [(p, 71), (p - 1, 75)] n 71))) (fun p hp acc ha => ?_) (by rw [upto_len]; simp; omega)]
    · rw [Option.bind_some, tw1, put_ok (by omega) (fun q hq => by rw [List.mem_singleton] at hq; subst hq; exact ⟨by omega, by omega⟩), Option.bind_some, chk_pos (by simp; rw [upto_len]; omega), Option.bind_some]
      have e : [D.str (S (twS [] n 71)), .str (S (twS [(1, 71)] n 75))] ++ (upto 2 (n + 1)).map (fun p => D.str (S (twS [(p, 71), (p - 1, 75)] n 71))) ++ [.str (S (twS [(n, 75)] n 71))] = txD ([twS [] n 71, twS [(1, 71)] n 75] ++ (upto 2 (n + 1)).map (fun p => twS [(p, 71), (p - 1, 75)] n 71) ++ [twS [(n, 75)] n 71]) := by
        unfold txD; rw [List.map_append, List.map_append, List.map_map]; rfl
      rw [e, Option.bind_some]
      have := fin ([twS [] n 71, twS [(1, 71)] n 75] ++ (upto 2 (n + 1)).map (fun p => twS [(p, 71), (p - 1, 75)] n 71) ++ [twS [(n, 75)] n 71]) (by simp; rw [upto_len]; omega)
      rw [lit_P, lit_K] at this
      exact this
    · have := upto_mem hp
      simp only [dSub_ii, Option.bind_some]
      rw [tw2, put_ok (by omega) ?_, Option.bind_some, chk_pos ha]; rfl
      intro q hq
      simp only [List.mem_cons, List.not_mem_nil, or_false] at hq
      rcases hq with rfl | rfl
      · exact ⟨by omega, by omega⟩
      · exact ⟨by show 1 ≤ p - 1; omega, by show p - 1 ≤ n; omega⟩
/-! ### drawn trials -/
structure TR1 (n : Int) (r : Bool) (t : List Nat) : Prop where
  len : (t.length : Int) = n + 1
  sts : ∀ c ∈ t, isS c
  rng : isRing t = r
theorem tw_sts {pl : List (Int × Nat)} {n : Nat} (h : ∀ q ∈ pl, isS q.2) : ∀ c ∈ tw pl n, isS c := by
  intro c hc
  unfold tw at hc
  obtain ⟨i, _, rfl⟩ := List.mem_map.mp hc
  unfold plook plookF
  have : ∀ (pl : List (Int × Nat)) (d : Nat), isS d → (∀ q ∈ pl, isS q.2) → isS (pl.foldl (fun c q => if q.1 = (i : Int) + 1 then q.2 else c) d) := by
    intro pl
    induction pl with
    | nil => intro d hd _; exact hd
    | cons q pl ih =>
      intro d hd h
      rw [List.foldl_cons]
      refine ih _ ?_ fun x hx => h x (List.mem_cons_of_mem _ hx)
      split
      · exact h q List.mem_cons_self
      · exact hd
  exact this pl 80 (.inr (.inr rfl)) h
theorem stp_last {L : List Nat} {c0 : Nat} : stp (c0 :: L).reverse 0 = c0 := by
  unfold stp
  rw [List.reverse_cons, List.length_append, List.length_singleton, List.getD_eq_getElem?_getD, List.getElem?_append_right (by simp)]
  simp
theorem isS_all {L : List Nat} (h : L.all (fun c => decide (c = 71 ∨ c = 75 ∨ c = 80)) = true) : ∀ c ∈ L, isS c := fun c hc => (of_decide_eq_true (List.all_eq_true.mp h c hc) : c = 71 ∨ c = 75 ∨ c = 80)
theorem twS_tr {pl : List (Int × Nat)} {n : Int} {c0 : Nat} {r : Bool} (hn : 0 ≤ n) (h : ∀ q ∈ pl, isS q.2) (hc : isS c0) (hr : decide (c0 = 80) = r) : TR1 n r (twS pl n c0) := by
  refine ⟨twS_len hn, fun c hm => ?_, ?_⟩
  · unfold twS at hm
    rw [List.mem_reverse, List.mem_cons] at hm
    rcases hm with rfl | hm
    · exact hc
    · exact tw_sts h c hm
  · unfold isRing twS
    rw [stp_last]; exact hr
def TR (n : Int) (r : Bool) (T : List (List Nat)) : Prop := ∀ t ∈ T, TR1 n r t
theorem isS71 : isS 71 := .inl rfl
theorem isS75 : isS 75 := .inr (.inl rfl)
theorem isS80 : isS 80 := .inr (.inr rfl)
theorem std_tr {n : Int} {r st : Bool} (hn : 1 ≤ n) : TR n r (stdT n r st) := by
  intro t ht
  unfold stdT at ht
  have one : ∀ (a : Int) (c : Nat), isS c → ∀ q ∈ [(a, c)], isS q.2 := fun a c h q hq => by rw [List.mem_singleton] at hq; rw [hq]; exact h
  have two : ∀ (a b : Int) (c d : Nat), isS c → isS d → ∀ q ∈ [(a, c), (b, d)], isS q.2 := fun a b c d h g q hq => by
    simp only [List.mem_cons, List.not_mem_nil, or_false] at hq
    rcases hq with rfl | rfl
    · exact h
    · exact g
  have zero : ∀ q ∈ ([] : List (Int × Nat)), isS q.2 := fun q hq => absurd hq List.not_mem_nil
  rcases List.mem_append.mp ht with ht | ht
  · cases r with
    | true =>
      rw [if_pos rfl] at ht
      rcases List.mem_append.mp ht with ht | ht
      · obtain ⟨p, _, rfl⟩ := List.mem_map.mp ht
        exact twS_tr (by omega) (one _ _ isS71) isS80 rfl
      · obtain ⟨p, _, rfl⟩ := List.mem_map.mp ht
        exact twS_tr (by omega) (two _ _ _ _ isS71 isS75) isS80 rfl
    | false =>
      rw [if_neg (by decide)] at ht
      rcases List.mem_append.mp ht with ht | ht
      · rcases List.mem_append.mp ht with ht | ht
        · simp only [List.mem_cons, List.not_mem_nil, or_false] at ht
          rcases ht with rfl | rfl
          · exact twS_tr (by omega) zero isS71 rfl
          · exact twS_tr (by omega) (one _ _ isS71) isS75 rfl
        · obtain ⟨p, _, rfl⟩ := List.mem_map.mp ht
          exact twS_tr (by omega) (two _ _ _ _ isS71 isS75) isS71 rfl
      · rw [List.mem_singleton] at ht
        subst ht
        exact twS_tr (by omega) (one _ _ isS75) isS71 rfl
  · split at ht
    · rw [List.mem_singleton] at ht
      subst ht
      refine twS_tr (by omega) zero ?_ ?_
      · cases r
        · exact isS75
        · exact isS80
      · cases r <;> rfl
    · cases ht
theorem std_len {n : Int} {r st : Bool} (hn : 1 ≤ n) : 2 ≤ (stdT n r st).length ∧ ((stdT n r st).length : Int) ≤ 2 * n + 4 := by
  unfold stdT
  cases r <;> cases st <;> simp [upto_len] <;> omega
theorem txD_at {T : List (List Nat)} {i : Int} (h : 0 ≤ i ∧ i < (T.length : Int)) : atI (txD T) i = some (.str (S (T.getD i.toNat []))) := atI_of_get h.1 (by
  unfold txD
  rw [List.getElem?_map, List.getD_eq_getElem?_getD, List.getElem?_eq_getElem (by omega)]; rfl)
theorem txD_len {T : List (List Nat)} : (txD T).length = T.length := by simp [txD]
theorem getD_memL {T : List (List Nat)} {i : Nat} (h : i < T.length) : T.getD i [] ∈ T := getD_in h
/-- n drawn letters -/
theorem letters_ok {f : List D → D → Option (D × List D)} {A : List Nat} {n : Nat} {s : Hs} {m : Int} (hs : HOk s m) (hm : m + n ≤ 1000000) (hA : ∀ c ∈ A, isS c) (hf : ∀ s m x, HOk s m → m ≤ 1000000 → Gives (f (penL s) x) fun q => ∃ c s', q = (.str (S [c]), penL s') ∧ c ∈ A ∧ HOk s' (m + 1)) :
    Gives (mapS f (penL s) (rngD 0 n)) fun q => ∃ L s', q = (sgl L, penL s') ∧ L.length = n ∧ (∀ c ∈ L, isS c) ∧ HOk s' (m + n) := by
  refine (gives_mapS (fun i acc s' => i ≤ n → ∃ L s'', acc = sgl L ∧ s' = penL s'' ∧ L.length = i ∧ (∀ c ∈ L, isS c) ∧ HOk s'' (m + i)) (fun _ => ⟨[], s, rfl, rfl, rfl, fun c hc => absurd hc List.not_mem_nil, by simpa using hs⟩) fun i x acc s' hx hI => ?_).imp fun q hq => ?_
  · have hi : i < n := by
      have := len_at hx
      rwa [rngD_len] at this
    obtain ⟨L, s2, rfl, rfl, hl, hL, h2⟩ := hI (by omega)
    refine (hf s2 (m + i) x h2 (by omega)).imp fun q hq => ?_
    obtain ⟨c, s3, rfl, hc, h3⟩ := hq
    refine fun _ => ⟨L ++ [c], s3, by rw [← sgl_app]; rfl, rfl, by rw [List.length_append, hl]; rfl, fun d hd => ?_, by rw [show m + ((i + 1 : Nat) : Int) = m + i + 1 by omega]; exact h3⟩
    rcases List.mem_append.mp hd with hd | hd
    · exact hL d hd
    · rw [List.mem_singleton] at hd; rw [hd]; exact hA c hc
  · rw [rngD_len] at hq
    obtain ⟨L, s2, e1, e2, hl, hL, h2⟩ := hq (Nat.le_refl _)
    exact ⟨L, s2, Prod.ext e1 e2, hl, hL, h2⟩
theorem trial_ok {s : Hs} {m n : Int} {r : Bool} (hs : HOk s m) (hm : m ≤ 900000) (hn : 1 ≤ n ∧ n ≤ 100) : Gives (F_Ltrial (penL s) (.int n) (.bl r)) fun q => ∃ t s', q = (.str (S t), penL s') ∧ TR1 n r t ∧ HOk s' (m + 110) := by
  unfold F_Ltrial
  refine .bind ((draw_ok hs (by omega) (by decide)).imp fun q hq => ?_)
  obtain ⟨k, s1, rfl, k0, k3, h1⟩ := hq
  rw [std_ok (by omega)]
  simp only [Option.bind_some, cEq_ii, dLen_l, txD_len, dIx_li, dSub_ii]
  have hsl := std_len (n := n) (r := r) (st := true) (by omega)
  by_cases hk : k = 0
  · rw [if_pos (decide_eq_true hk)]
    refine .bind ((draw_ok h1 (by omega) (by omega)).imp fun q hq => ?_)
    obtain ⟨j, s2, rfl, j0, j1, h2⟩ := hq
    simp only [dIx_li]
    rw [txD_at ⟨j0, j1⟩]
    exact .mk ⟨_, _, rfl, std_tr (by omega) _ (getD_memL (by omega)), h2.mono (by omega)⟩
  · rw [if_neg (by simpa using hk)]
    have hb : ∃ b : Int, atI [D.int 5, .int 2] (k - 1) = some (.int b) ∧ 0 < b ∧ b ≤ 5 := by
      have : k = 1 ∨ k = 2 := by omega
      rcases this with rfl | rfl
      · exact ⟨5, rfl, by decide, by decide⟩
      · exact ⟨2, rfl, by decide, by decide⟩
    obtain ⟨b, eb, hb⟩ := hb
    rw [eb, Option.bind_some]
    refine .bind ((draw_ok h1 (by omega) (by omega)).imp fun q hq => ?_)
    obtain ⟨j, s2, rfl, j0, j1, h2⟩ := hq
    have hA : ∃ A : List Nat, atI [D.str "GKP", .str "GKPPPP", .str "PPPG", .str "PPPK", .str "GK"] j = some (.str (S A)) ∧ (∀ c ∈ A, isS c) ∧ 0 < A.length ∧ A.length ≤ 10 := by
      have : j = 0 ∨ j = 1 ∨ j = 2 ∨ j = 3 ∨ j = 4 := by omega
      rcases this with rfl | rfl | rfl | rfl | rfl
      · exact ⟨[71, 75, 80], rfl, isS_all rfl, by decide, by decide⟩
      · exact ⟨[71, 75, 80, 80, 80, 80], rfl, isS_all rfl, by decide, by decide⟩
      · exact ⟨[80, 80, 80, 71], rfl, isS_all rfl, by decide, by decide⟩
      · exact ⟨[80, 80, 80, 75], rfl, isS_all rfl, by decide, by decide⟩
      · exact ⟨[71, 75], rfl, isS_all rfl, by decide, by decide⟩
    obtain ⟨A, eA, hA, hA0, hA1⟩ := hA
    simp only [dIx_li]
    rw [eA, Option.bind_some]
    refine .bind (Gives.imp (Q := fun q => ∃ c s', q = (.str (S [c]), penL s') ∧ isS c ∧ decide (c = 80) = r ∧ HOk s' (m + 3)) ?_ fun q hq => ?_)
    · cases r with
      | true => exact .mk ⟨80, s2, by rw [lit_P], isS80, rfl, h2.mono (by omega)⟩
      | false =>
        simp only [dTru_b, Option.bind_some, Bool.false_eq_true, if_false]
        refine .bind ((draw_ok h2 (by omega) (by decide)).imp fun q hq => ?_)
        obtain ⟨i, s3, rfl, i0, i1, h3⟩ := hq
        have : ("GK" : Str) = S [71, 75] := by decide
        rw [this, dIx_S (by simp; omega) (by simp), Option.bind_some]
        have : i = 0 ∨ i = 1 := by omega
        rcases this with rfl | rfl
        · exact .mk ⟨71, s3, rfl, isS71, rfl, h3.mono (by omega)⟩
        · exact .mk ⟨75, s3, rfl, isS75, rfl, h3.mono (by omega)⟩
    obtain ⟨c0, s3, rfl, hc0, hcr, h3⟩ := hq
    simp only [strD_s, Option.bind_some, dRange_1]
    rw [chk_pos (by omega), Option.bind_some, chk_pos (by rw [rngD_len]; omega), Option.bind_some]
    refine .bind ((letters_ok (A := A) (n := n.toNat) h3 (by omega) hA fun s m x hs hm => ?_).imp fun q hq => ?_)
    · simp only [dLen_s, S_len, chk_pos (show A.length ≤ 1000000 by omega), Option.bind_some]
      refine .bind ((draw_ok hs hm (by omega)).imp fun q hq => ?_)
      obtain ⟨i, s4, rfl, i0, i1, h4⟩ := hq
      simp only
      rw [dIx_S ⟨i0, i1⟩ (by omega), Option.bind_some]
      exact .mk ⟨_, s4, rfl, getD_mem (by omega), h4⟩
    · obtain ⟨L, s4, rfl, hL, hLs, h4⟩ := hq
      simp only
      rw [dJoin_sgl (by omega), Option.bind_some, dAdd_ss, S_len, S_len, chk_pos (by simp; omega), Option.bind_some, S_cat]
      refine .mk ⟨_, s4, rfl, ⟨by rw [List.length_append, hL]; simp; omega, fun c hc => ?_, ?_⟩, h4.mono (by omega)⟩
      · rcases List.mem_append.mp hc with hc | hc
        · exact hLs c hc
        · rw [List.mem_singleton] at hc; rw [hc]; exact hc0
      · unfold isRing
        have := stp_last (L := L.reverse) (c0 := c0)
        rw [List.reverse_cons, List.reverse_reverse] at this
        rw [this]; exact hcr
/-! ### the law's tables -/
theorem Lends_ok {n : Int} {r : Bool} (hn : 0 ≤ n ∧ n ≤ 1000) : F_Lends (.int n) (.bl r) = some (.lst ((upto (e0 r) (n + 1)).map D.int)) := by
  unfold F_Lends
  simp only [dInt_b, Option.bind_some, dAdd_ii, dRange_2]
  rw [chk_pos (by split <;> omega), Option.bind_some, rngD_upto]
theorem down_rng {a : Int} {m : Nat} : (List.range m).map (fun i : Nat => a - (i : Int)) = down a (a - m) := by
  unfold down
  rw [show (a - (a - (m : Int))).toNat = m by omega]
  exact List.map_congr_left fun i _ => by omega
theorem Ldue_ok {n o : Int} {r : Bool} (hn : 1 ≤ n ∧ n ≤ 1000) (ho : 0 ≤ o ∧ o ≤ n) (hr : r = true → 1 ≤ o) : F_Ldue (.int n) (.int o) (.bl r) = some (.tup ((dueP n o r).map D.int)) := by
  unfold F_Ldue dueP
  cases r with
  | false =>
    simp only [dTru_b, Option.bind_some, Bool.not_false, if_true, dAdd_ii, dRange_1]
    rw [chk_pos (by omega), Option.bind_some, chk_pos (by rw [rngD_len]; omega), Option.bind_some]
    unfold rngD
    rw [mapO_of (g := fun i : Nat => D.int (o - (i : Int))) fun i hi => ?_]
    · rw [Option.bind_some, lList_l, Option.bind_some]
      have := down_rng (a := o) (m := (o + 1).toNat)
      rw [show o - (((o + 1).toNat : Nat) : Int) = -1 by omega] at this
      rw [if_neg (by decide), ← this, List.map_map]; rfl
    · simp only [dSub_ii, Option.bind_some, Int.zero_add]
  | true =>
    have ho1 := hr rfl
    simp only [dTru_b, Option.bind_some, Bool.not_true, Bool.false_eq_true, if_false, dRange_1]
    rw [chk_pos (by omega), Option.bind_some, chk_pos (by rw [rngD_len]; omega), Option.bind_some]
    unfold rngD
    rw [mapO_of (g := fun i : Nat => D.int ((o - 1 - (i : Int)) % n + 1)) fun i hi => ?_]
    · rw [Option.bind_some, lList_l, Option.bind_some, if_pos trivial]
      congr 2
      have e : (List.range n.toNat).map (fun i : Nat => (o - 1 - (i : Int)) % n + 1) = down o 0 ++ down n o := by
        apply List.ext_getElem
        · simp [down_len]; omega
        · intro i h1 h2
          simp only [List.length_map, List.length_range] at h1
          rw [List.getElem_map, List.getElem_range]
          by_cases hi : i < o.toNat
          · rw [List.getElem_append_left (by rw [down_len]; omega)]
            unfold down
            rw [List.getElem_map, List.getElem_range, Int.emod_eq_of_lt (by omega) (by omega)]; omega
          · rw [List.getElem_append_right (by rw [down_len]; omega)]
            unfold down
            rw [List.getElem_map, List.getElem_range]
            simp only [List.length_map, List.length_range]
            rw [show o - 1 - (i : Int) = (o - 1 - (i : Int) + n) - n by omega, Int.sub_emod_right, Int.emod_eq_of_lt (by omega) (by omega)]; omega
      rw [← e, List.map_map]; rfl
    · simp only [dSub_ii, Option.bind_some, Int.zero_add, dMod_ii, chk_pos (show 0 < n by omega), dAdd_ii]
theorem Lsign_ok {l : List Nat} {p : Int} (h : 0 ≤ p ∧ p < (l.length : Int)) (hl : l.length ≤ 1000000) : F_Lsign (.str (S l)) (.int p) = some (.str (S [stp l p])) := by
  unfold F_Lsign
  simp only [dLen_s, S_len, chk_pos hl, Option.bind_some, dSub_ii]
  rw [dIx_S (by omega) hl, show ((l.length : Int) - 1 - p).toNat = l.length - 1 - p.toNat by omega]
  rfl
theorem isi_int {p : Int} : dIsi "str" (.int p) = some false := by
  unfold dIsi
  rw [chk_pos (show DX.plain (D.int p) = true from rfl)]; rfl
theorem Lseen_ok {l : List Nat} {ps : List Int} (h : ∀ p ∈ ps, 0 ≤ p ∧ p < (l.length : Int)) (hl : l.length ≤ 1000000) : F_Lseen (.tup (ps.map D.int)) (.str (S l)) = some (.int (carryS (firstS l ps))) := by
  unfold F_Lseen
  rw [dIter_t, Option.bind_some, loopC_first (g := fun p => if stp l p ≠ 80 then some (D.int (carryS (stp l p))) else none) fun p hp => ?_]
  · rw [Option.bind_some, first_find]
    have e : ∀ ps : List Int, (ps.findSome? fun p => if stp l p ≠ 80 then some (D.int (carryS (stp l p))) else none) = (ps.findSome? fun p => if stp l p ≠ 80 then some (stp l p) else none).map fun c => D.int (carryS c) := by
      intro ps
      induction ps with
      | nil => rfl
      | cons p ps ih =>
        rw [List.findSome?_cons, List.findSome?_cons]
        by_cases h : stp l p = 80
        · rw [if_neg (by simpa using h), if_neg (by simpa using h)]; exact ih
        · rw [if_pos h, if_pos h]; rfl
    rw [e]
    cases (ps.findSome? fun p => if stp l p ≠ 80 then some (stp l p) else none) with
    | none => rfl
    | some c => rfl
  · rw [isi_int]
    simp only [Option.bind_some, dTru_b, Bool.false_eq_true, if_false]
    rw [Lsign_ok (h p hp) hl]
    simp only [Option.bind_some, cNe_of]
    rw [lit_P, lit_G, cEq_S1, cEq_S1]
    simp only [Option.map_some, Option.bind_some, dInt_b]
    by_cases q : stp l p = 80
    · simp [q]
    · simp only [decide_eq_false q, Bool.not_false, if_true, if_pos q]
      unfold carryS
      by_cases g : stp l p = 71
      · simp [g]
      · simp [g]
theorem strip_P : ∀ (L : List Nat), (Txt.lstripChars (S L) "P") = S (L.dropWhile fun c => decide (c = 80)) := by
  intro L
  have hc : ("P" : Str).cps.contains = fun c => decide (c = 80) := by
    funext c
    rw [lit_P]
    show Array.contains #[80] c = _
    by_cases h : c = 80
    · simp [h]
    · simp [h]
  unfold Txt.lstripChars
  rw [PyProof.Rows.stripBy_eq, hc]
  unfold stripLo stripHi Builtin.Str.strSub
  simp only [if_true, Bool.false_eq_true, if_false, tl_S, S_len]
  have e : ∀ L : List Nat, L.drop (L.takeWhile fun c => decide (c = 80)).length = L.dropWhile fun c => decide (c = 80) := by
    intro L
    induction L with
    | nil => rfl
    | cons a L ih =>
      rw [List.takeWhile_cons, List.dropWhile_cons]
      by_cases h : a = 80
      · simp only [h, decide_true, if_true, List.length_cons, List.drop_succ_cons]; exact ih
      · simp [h]
  rw [← e L]
  unfold S
  congr 1
  apply Array.ext'
  simp [Array.toList_extract, List.extract_eq_drop_take]
  rw [List.take_of_length_le (by simp)]
theorem Llead_ok {t : List Nat} {ps : List Int} (h : ∀ p ∈ ps, 0 ≤ p ∧ p < (t.length : Int)) (hl : t.length ≤ 1000000) (hps : ps.length ≤ 100000) : F_Llead (.str (S t)) (.tup (ps.map D.int)) = some (.int ((leadN t ps : Nat) : Int)) := by
  unfold F_Llead
  simp only [strD_s, Option.bind_some, dIter_t]
  rw [chk_pos (by rw [List.length_map]; omega), Option.bind_some, mapO_of (g := fun p => D.str (S [stp t p])) fun p hp => by rw [Lsign_ok (h p hp) hl]; rfl]
  rw [Option.bind_some, show ps.map (fun p => D.str (S [stp t p])) = sgl (ps.map (stp t)) by unfold sgl; rw [List.map_map]; rfl, dJoin_sgl (by rw [List.length_map]; omega)]
  simp only [Option.bind_some, dLen_s, S_len, List.length_map, strD_s]
  rw [chk_pos (by omega), Option.bind_some]
  unfold dLstrip
  simp only [S_len, List.length_map]
  rw [chk_pos (by omega), Option.bind_some, strip_P, dLen_s, S_len]
  have e : ∀ ps : List Int, ((ps.map (stp t)).dropWhile fun c => decide (c = 80)).length + leadN t ps = ps.length := by
    intro ps
    induction ps with
    | nil => rfl
    | cons p ps ih =>
      unfold leadN at ih ⊢
      rw [List.map_cons, List.dropWhile_cons, List.takeWhile_cons]
      by_cases z : stp t p = 80
      · simp only [z, decide_true, if_true, List.length_cons]; omega
      · simp [z]
  have e1 := e ps
  rw [chk_pos (by omega), Option.bind_some, dSub_ii, Option.bind_some]
  congr 2; omega
theorem Lagainst_ok {t : List Nat} {o : Op} {c : Int} (h : ∀ q, o = .pos q → 0 ≤ q ∧ q < (t.length : Int)) (hl : t.length ≤ 1000000) : F_Lagainst (.str (S t)) (opD o) (.int c) = some (.bl (refB t o c)) := by
  unfold F_Lagainst
  cases o with
  | fin => rfl
  | gen =>
    simp only [opD, cEq_ss, Option.bind_some]
    rw [show decide (("G" : Str) = "end") = false by decide]
    simp only [Bool.false_eq_true, if_false, if_true, Option.bind_some, cNe_of, cEq_ss, Option.map_some, dTru_b, decide_true]
    rw [show decide (("G" : Str) = "P") = false by decide]
    simp only [Bool.not_false, if_true, dInt_b, Option.bind_some, cEq_ii, Option.map_some]
    unfold refB
    simp
  | pos q =>
    obtain ⟨h1, h2⟩ := h q rfl
    simp only [opD, cEq_is, Option.bind_some, Bool.false_eq_true, if_false]
    rw [Lsign_ok ⟨h1, h2⟩ hl]
    simp only [Option.bind_some, cNe_of, lit_P, lit_G, cEq_S1, Option.map_some, dTru_b, dInt_b, cEq_ii]
    by_cases z : stp t q = 80
    · rw [z]; simp [refB, z]
    · simp only [decide_eq_false z, Bool.not_false, if_true]
      unfold refB carryS
      by_cases g : stp t q = 71
      · simp [z, g]
      · simp [z, g]
theorem Loptions_ok {n o : Int} {r st : Bool} {p : Nat} (hn : 1 ≤ n ∧ n ≤ 900) (ho : 0 ≤ o ∧ o ≤ n) (hr : r = true → 1 ≤ o) (hp : p ≤ (dueP n o r).length) : F_Loptions (.int n) (.int o) (.int (p : Int)) (.bl r) (.bl st) = some (opsD (optsAt n r st (dueP n o r) p)) := by
  have h := options_at_ok (n := n) (r := r) (st := st) (due := dueP n o r) (by omega) hp
  have e0 := e0_in r
  rw [← h]
  unfold F_Loptions F_options_at
  rw [Ldue_ok (by omega) ho hr, Lends_ok (by omega)]
  simp only [Option.bind_some, dIter_l, dInt_b, dAdd_ii, dRange_2]
  have hz : ((upto (My.e0 r) (n + 1)).map D.int).length ≤ 1000000 := by rw [List.length_map, upto_len]; omega
  rw [chk_pos hz, chk_pos (show (0 ≤ My.e0 r ∧ My.e0 r ≤ 1000000) ∧ -1000000 ≤ n + 1 ∧ n + 1 ≤ 1000000 by omega), rngD_upto]
  simp only [Option.bind_some]
  rw [chk_pos hz]
  rfl
theorem at_head {x : D} {l : List D} : dIx (.lst (x :: l)) (.int 0) = some x := by
  show atI _ _ = _
  unfold atI
  rw [ixN_of (by decide) (by rw [List.length_cons]; omega)]; rfl
def headD (L : List Nat) : D := match L with
  | [] => .non
  | k :: _ => .int (k : Int)
def ltblD (T : List (List Nat)) (n o : Int) (r st : Bool) : D := .tup ((List.range (manyP n o r st)).map fun p => .tup ((optsAt n r st (dueP n o r) p).map fun op => headD (hits T o (dueP n o r) p op)))
theorem true_of_ring {T : List (List Nat)} {n o : Int} {r : Bool} {t : List Nat} (hl : (t.length : Int) = n + 1) (hr : isRing t = r) : trueS t o = carryS (firstS t (dueP n o r)) := by
  unfold trueS
  rw [hr, show ((t.length : Int) - 1) = n by omega]
theorem cNe_nil {ns : List Int} : cNe (.lst (ns.map D.int)) (.lst []) = some (!ns.isEmpty) := by rw [cNe_of, nilB_ints]; rfl
/-! ### data that are shown and compared -/
theorem goods_map {α : Type} {f : α → D} : ∀ {l : List α}, (∀ a ∈ l, good (f a)) → goods (l.map f)
  | [], _ => trivial
  | a :: l, h => ⟨h a List.mem_cons_self, goods_map fun b hb => h b (List.mem_cons_of_mem _ hb)⟩
theorem deps_map {α : Type} {f : α → D} {k : Nat} : ∀ {l : List α}, (∀ a ∈ l, dep (f a) ≤ k) → deps (l.map f) ≤ k
  | [], _ => Nat.zero_le _
  | a :: l, h => by
    rw [List.map_cons, deps]
    exact Nat.max_le.mpr ⟨h a List.mem_cons_self, deps_map fun b hb => h b (List.mem_cons_of_mem _ hb)⟩
theorem wts_map {α : Type} {f : α → D} {k : Nat} : ∀ {l : List α}, (∀ a ∈ l, wt (f a) ≤ k) → wts (l.map f) ≤ l.length * (k + 2)
  | [], _ => Nat.zero_le _
  | a :: l, h => by
    rw [List.map_cons, wts, List.length_cons, Nat.succ_mul]
    have := wts_map (l := l) fun b hb => h b (List.mem_cons_of_mem _ hb)
    have := h a List.mem_cons_self
    omega
theorem dRepr_ok {d : D} (h : good d) (hw : wt d ≤ 16000000) (hd : dep d ≤ 50) : dRepr d = some (.str (txt d)) := chk_pos ⟨h, hw, hd⟩
theorem dRepr_b {b : Bool} : dRepr (.bl b) = some (.str (txt (.bl b))) := dRepr_ok trivial (by simp [wt]) (by simp [dep])
theorem dRepr_i {i : Int} (h : -(2 ^ 200) ≤ i ∧ i ≤ 2 ^ 200) : dRepr (.int i) = some (.str (txt (.int i))) := dRepr_ok h (by simp [wt]) (by simp [dep])
theorem cEq_good {a b : D} (hs : sc a b = false) (hn : nilB a b = false) (ha : good a) (hb : good b) (da : dep a ≤ 50) (db : dep b ≤ 50) : cEq a b = some (eqD a b) := by
  unfold cEq
  rw [hs, hn]
  simp only [Bool.false_eq_true, if_false]
  rw [chk_pos ⟨ha, hb, da, db⟩]
theorem eqD_nil {ds : List D} : eqD (.lst ds) (.lst []) = ds.isEmpty := by
  cases ds with
  | nil => simp [eqD, pyd, pyds, PyData.eqv, PyData.eqvAll]
  | cons d ds => simp [eqD, pyd, pyds, PyData.eqv, PyData.eqvAll]
theorem cEq_nil {ds : List D} (hg : goods ds) (hd : deps ds ≤ 40) : cEq (.lst ds) (.lst []) = some ds.isEmpty := by
  by_cases h : nilB (.lst ds) (.lst []) = true
  · unfold cEq
    rw [show sc (.lst ds) (.lst []) = false from rfl, h]; rfl
  · rw [cEq_good rfl (by simpa using h) (a := .lst ds) hg (show good (.lst []) from trivial) (by rw [dep]; omega) (by simp [dep, deps]), eqD_nil]
theorem flDs_map {α : Type} {f : α → D} {g : α → V} : ∀ {l : List α}, (∀ a ∈ l, flD (f a) = some (g a)) → flDs (l.map f) = some (l.map g)
  | [], _ => rfl
  | a :: l, h => by
    rw [List.map_cons, flDs, h a List.mem_cons_self, Option.bind_some, flDs_map fun b hb => h b (List.mem_cons_of_mem _ hb)]
    rfl
theorem cIn_strs {z : Str} {zs : List Str} : cIn (.str z) (.lst (zs.map D.str)) = some (decide (z ∈ zs)) := by
  unfold cIn
  simp only [flD, Option.bind_some, items_l, flDs_strs]
  rw [inV_strs]
  congr 1
  by_cases h : z ∈ zs
  · rw [decide_eq_true h, List.any_eq_true]
    exact ⟨z, h, by simp⟩
  · rw [decide_eq_false h, List.any_eq_false]
    intro y hy
    simp only [decide_eq_true_eq]
    rintro rfl
    exact h hy
/-- a loop that is never left -/
theorem gives_loop {S R : Type} {f : S → D → Option (Ctl S R)} {xs : List D} {s : S} (I : Nat → S → Prop) (h0 : I 0 s) (h : ∀ i x s, xs[i]? = some x → I i s → Gives (f s x) fun c => ∃ s', c = .go s' ∧ I (i + 1) s') : Gives (loopC f s xs) fun c => ∃ s', c = .go s' ∧ I xs.length s' := by
  induction xs generalizing s I with
  | nil => exact ⟨.go s, rfl, s, rfl, h0⟩
  | cons x xs ih =>
    rw [loopC]
    refine .bind ((h 0 x s rfl h0).imp fun c hc => ?_)
    obtain ⟨s', rfl, h1⟩ := hc
    exact ih (fun i => I (i + 1)) h1 fun i y s2 hy => h (i + 1) y s2 (by simpa using hy)
theorem ok_enough : PyData.strOk (Str.ofString "enough") = true := by decide +kernel
/-! ### rows of a shortage: what they give -/
theorem first_app {t : List Nat} : ∀ {a b : List Int}, firstS t (a ++ b) = if firstS t a = 80 then firstS t b else firstS t a
  | [], b => by simp [firstS]
  | p :: a, b => by
    rw [List.cons_append, firstS, firstS]
    by_cases h : stp t p = 80
    · rw [if_pos h, if_pos h]; exact first_app
    · rw [if_neg h, if_neg h, if_neg h]
theorem first_all {t : List Nat} : ∀ {a : List Int}, (∀ x ∈ a, stp t x = 80) → firstS t a = 80
  | [], _ => rfl
  | p :: a, h => by
    rw [firstS, if_pos (h p List.mem_cons_self)]
    exact first_all fun x hx => h x (List.mem_cons_of_mem _ hx)
theorem lead_cons {t : List Nat} {x : Int} {due : List Int} : leadN t (x :: due) = if stp t x = 80 then leadN t due + 1 else 0 := by
  unfold leadN
  rw [List.takeWhile_cons]
  by_cases h : stp t x = 80 <;> simp [h]
theorem lead_take {t : List Nat} : ∀ {due : List Int} {p : Nat}, p ≤ leadN t due → ∀ x ∈ due.take p, stp t x = 80
  | [], p, _, x, hx => by rw [List.take_nil] at hx; exact absurd hx List.not_mem_nil
  | d :: due, 0, _, x, hx => absurd hx List.not_mem_nil
  | d :: due, p + 1, h, x, hx => by
    rw [lead_cons] at h
    by_cases q : stp t d = 80
    · rw [if_pos q] at h
      rw [List.take_succ_cons, List.mem_cons] at hx
      rcases hx with rfl | hx
      · exact q
      · exact lead_take (by omega) x hx
    · rw [if_neg q] at h; omega
theorem lead_lt {t : List Nat} : ∀ {due : List Int} {p : Nat}, p ≤ due.length → ¬ p ≤ leadN t due → firstS t (due.take p) ≠ 80
  | [], p, hp, h => by simp at hp; subst hp; exact absurd (Nat.zero_le _) h
  | d :: due, 0, hp, h => absurd (Nat.zero_le _) h
  | d :: due, p + 1, hp, h => by
    rw [lead_cons] at h
    rw [List.take_succ_cons, firstS]
    by_cases q : stp t d = 80
    · rw [if_pos q] at h ⊢
      exact lead_lt (by simpa using hp) (by omega)
    · rw [if_neg q]; exact q
theorem first_skip {t : List Nat} {q : Int} (h : stp t q = 80) : ∀ {a : List Int}, firstS t (a.filter fun x => decide (x ≠ q)) = firstS t a
  | [] => rfl
  | p :: a => by
    rw [List.filter_cons]
    by_cases e : p = q
    · subst e
      simp only [ne_eq, not_true_eq_false, decide_false, Bool.false_eq_true, if_false]
      rw [firstS, if_pos h]; exact first_skip h
    · rw [if_pos (by simpa using e), firstS, firstS, first_skip h]
/-- positions, and the letter behind them -/
def rowP (due : List Int) (p : Nat) : Op → List Int × Option Bool
  | .fin => if due.take p = [] then ([], some false) else (due.take p, none)
  | .gen => (due.take p, some true)
  | .pos q => (if q = 0 then due.take p ++ [0] else due.take p ++ q :: (due.drop p).filter fun x => decide (x ≠ q), none)
def tailD : Option Bool → List D
  | none => []
  | some true => [.str "G"]
  | some false => [.str "K"]
theorem rowW_eq {due : List Int} {p : Nat} {op : Op} : rowW due p op = (rowP due p op).1.map D.int ++ tailD (rowP due p op).2 := by
  unfold rowW rowP
  cases op with
  | fin =>
    by_cases h : due.take p = []
    · rw [if_pos h, if_pos h]; rfl
    · rw [if_neg h, if_neg h]; exact (List.append_nil _).symm
  | gen => rfl
  | pos q =>
    by_cases h : q = 0
    · simp only [if_pos h]
      rw [List.map_append]; exact (List.append_nil _).symm
    · simp only [if_neg h]
      rw [List.map_append, List.map_cons]; exact (List.append_nil _).symm
def tailV : Option Bool → Int
  | some true => 1
  | _ => 0
/-- what a row gives at a trial -/
def rowV (t : List Nat) (ps : List Int) (g : Option Bool) : Int := if firstS t ps = 80 then tailV g else carryS (firstS t ps)
theorem carryS_01 {c : Nat} : carryS c = 0 ∨ carryS c = 1 := by unfold carryS; split <;> simp
theorem row_same {t : List Nat} {due : List Int} {p : Nat} {op : Op} (hp : p ≤ due.length) (h0 : op = .pos 0 → stp t 0 ≠ 80) (h : ¬ (p ≤ leadN t due ∧ refB t op (carryS (firstS t due)) = true)) :
    rowV t (rowP due p op).1 (rowP due p op).2 = carryS (firstS t due) := by
  have split : due.take p ++ due.drop p = due := List.take_append_drop p due
  have hdue : firstS t due = if firstS t (due.take p) = 80 then firstS t (due.drop p) else firstS t (due.take p) := by rw [← first_app, split]
  by_cases hl : p ≤ leadN t due
  · have ha := first_all (lead_take hl)
    have hr : refB t op (carryS (firstS t due)) = false := by
      cases hb : refB t op (carryS (firstS t due)) with
      | false => rfl
      | true => exact absurd ⟨hl, hb⟩ h
    cases op with
    | fin =>
      have hc : carryS (firstS t due) = 0 := by
        have : ¬ carryS (firstS t due) = 1 := by simpa [refB] using hr
        rcases carryS_01 (c := firstS t due) with e | e
        · exact e
        · exact absurd e this
      unfold rowP
      by_cases e : due.take p = []
      · rw [if_pos e, hc]; rfl
      · rw [if_neg e, hc]; unfold rowV; rw [if_pos ha]; rfl
    | gen =>
      have hc : (1 : Int) = carryS (firstS t due) := by simpa [refB] using hr
      rw [← hc]
      show rowV t (due.take p) (some true) = 1
      unfold rowV; rw [if_pos ha]; rfl
    | pos q =>
      by_cases hq : q = 0
      · subst hq
        have hs := h0 rfl
        have hc : carryS (stp t 0) = carryS (firstS t due) := by simpa [refB, hs] using hr
        show rowV t (due.take p ++ [0]) none = _
        unfold rowV
        rw [first_app, if_pos ha, firstS, if_neg hs, if_neg hs, hc]
      · show rowV t (if q = 0 then _ else due.take p ++ q :: (due.drop p).filter fun x => decide (x ≠ q)) none = _
        rw [if_neg hq]
        unfold rowV
        rw [first_app, if_pos ha, firstS]
        by_cases hs : stp t q = 80
        · rw [if_pos hs, first_skip hs]
          rw [hdue, if_pos ha]
          by_cases e : firstS t (due.drop p) = 80
          · rw [if_pos e, e]; rfl
          · rw [if_neg e]
        · rw [if_neg hs, if_neg hs]
          have : carryS (stp t q) = carryS (firstS t due) := by simpa [refB, hs] using hr
          exact this
  · have hne := lead_lt hp hl
    rw [hdue, if_neg hne]
    cases op with
    | fin =>
      have e : due.take p ≠ [] := fun e => hne (by rw [e]; rfl)
      unfold rowP
      rw [if_neg e]; unfold rowV; rw [if_neg hne]
    | gen => show rowV t (due.take p) (some true) = _; unfold rowV; rw [if_neg hne]
    | pos q =>
      by_cases hq : q = 0
      · show rowV t (if q = 0 then due.take p ++ [0] else _) none = _
        rw [if_pos hq]; unfold rowV; rw [first_app, if_neg hne, if_neg hne]
      · show rowV t (if q = 0 then _ else due.take p ++ q :: (due.drop p).filter fun x => decide (x ≠ q)) none = _
        rw [if_neg hq]; unfold rowV; rw [first_app, if_neg hne, if_neg hne]
/-! ### the positions of an order -/
theorem take_down {a b x : Int} {p : Nat} (h : x ∈ (down a b).take p) : a - p < x := by
  unfold down at h
  rw [← List.map_take, List.mem_map] at h
  obtain ⟨i, hi, rfl⟩ := h
  rw [List.take_range, List.mem_range] at hi
  omega
theorem down_nd {a b : Int} : (down a b).Nodup := by
  unfold down
  refine List.Pairwise.map _ (fun i j h => ?_) List.nodup_range
  omega
theorem due_nd {n o : Int} {r : Bool} : (dueP n o r).Nodup := by
  unfold dueP
  cases r with
  | false => exact down_nd
  | true =>
    refine List.nodup_append.mpr ⟨down_nd, down_nd, fun a ha b hb => ?_⟩
    have h1 := down_mem ha
    have h2 := down_mem hb
    omega
theorem due_zero {n o : Int} {r : Bool} {p : Nat} (ho : 0 ≤ o ∧ o ≤ n) (hp : r = false → p < (dueP n o r).length) : (0 : Int) ∉ (dueP n o r).take p := by
  cases r with
  | true =>
    intro h
    have h := List.mem_of_mem_take h
    unfold dueP at h
    rw [if_pos rfl] at h
    rcases List.mem_append.mp h with h | h <;> have := down_mem h <;> omega
  | false =>
    have hp := hp rfl
    intro h
    unfold dueP at h hp
    simp only [Bool.false_eq_true, if_false] at h hp
    have := take_down h
    rw [down_len] at hp
    omega
theorem due_low {n o x : Int} {r : Bool} (ho : 0 ≤ o ∧ o ≤ n) (h : x ∈ dueP n o r) : e0 r ≤ x ∧ x ≤ n := by
  refine ⟨?_, (dueP_mem ho h).2⟩
  cases r with
  | false => exact (dueP_mem ho h).1
  | true =>
    unfold dueP at h
    rw [if_pos rfl] at h
    show (1 : Int) ≤ x
    rcases List.mem_append.mp h with h | h <;> have := down_mem h <;> omega
/-! ### the trial that parts them -/
theorem stp_twS {pl : List (Int × Nat)} {n p : Int} {c0 : Nat} (hp : 1 ≤ p ∧ p ≤ n) : stp (twS pl n c0) p = plook pl p := by
  unfold stp twS
  have hl : (c0 :: tw pl n.toNat).length = n.toNat + 1 := by rw [List.length_cons, tw_len]
  rw [List.length_reverse, hl, List.getD_eq_getElem?_getD, List.getElem?_reverse (by omega), hl, show n.toNat + 1 - 1 - (n.toNat + 1 - 1 - p.toNat) = (p.toNat - 1) + 1 by omega, List.getElem?_cons_succ]
  unfold tw
  rw [List.getElem?_map, List.getElem?_range (by omega)]
  simp only [Option.map_some, Option.getD_some]
  congr 1; omega
theorem stp_zero {pl : List (Int × Nat)} {n : Int} {c0 : Nat} : stp (twS pl n c0) 0 = c0 := stp_last
theorem look0 {p : Int} : plook [] p = 80 := rfl
theorem look1 {a p : Int} {c : Nat} : plook [(a, c)] p = if a = p then c else 80 := rfl
theorem look2 {a b p : Int} {c d : Nat} : plook [(a, c), (b, d)] p = if b = p then d else if a = p then c else 80 := rfl
theorem due_at {due : List Int} {p : Nat} (h : p < due.length) : due = due.take p ++ due.getD p 0 :: due.drop (p + 1) := by
  rw [List.getD_eq_getElem?_getD, List.getElem?_eq_getElem h]
  simp
theorem not_take {due : List Int} {p : Nat} (hn : due.Nodup) (h : p < due.length) : due.getD p 0 ∉ due.take p := by
  intro hx
  have e := due_at h
  rw [e] at hn
  have := (List.nodup_append.mp hn).2.2 _ hx _ List.mem_cons_self
  exact this rfl
theorem first_cons {t : List Nat} {x : Int} {l : List Int} : firstS t (x :: l) = if stp t x = 80 then firstS t l else stp t x := rfl
/-- what is not within the first p keeps its sign; the rest of them pass -/
theorem part_differs {n o : Int} {r st : Bool} {p : Nat} {op : Op} (hn : 1 ≤ n) (ho : 0 ≤ o ∧ o ≤ n) (hp : p < manyP n o r st) (hop : op ∈ optsAt n r st (dueP n o r) p) :
    rowV (partT n r (dueP n o r) p op) (rowP (dueP n o r) p op).1 (rowP (dueP n o r) p op).2 ≠ carryS (firstS (partT n r (dueP n o r) p op) (dueP n o r)) ∧ isRing (partT n r (dueP n o r) p op) = r := by
  have hend := opts_end hp hop
  have hle : r = false → p < (dueP n o r).length := fun hr => by
    unfold manyP at hp
    rw [hr] at hp ⊢
    simpa using hp
  have h0 := due_zero ho hle
  have hlow : ∀ x ∈ dueP n o r, e0 r ≤ x ∧ x ≤ n := fun x hx => due_low ho hx
  have he := e0_in r
  generalize hdue : dueP n o r = due at *
  have tk : ∀ x ∈ due.take p, x ≠ 0 ∧ x ∈ due := fun x hx => ⟨fun e => h0 (e ▸ hx), List.mem_of_mem_take hx⟩
  have tk1 : ∀ x ∈ due.take p, 1 ≤ x ∧ x ≤ n := fun x hx => by have := tk x hx; have := hlow x this.2; omega
  have hnd : due.Nodup := hdue ▸ due_nd
  have zc : zeroC r ≠ 71 ∧ (decide (zeroC r = 80) = r) := by cases r <;> decide
  cases op with
  | gen =>
    simp only [partT, rowP]
    refine ⟨?_, by unfold isRing; rw [stp_zero]; exact zc.2⟩
    have a1 : firstS (twS [] n (zeroC r)) (due.take p) = 80 := first_all fun x hx => by rw [stp_twS (tk1 x hx), look0]
    have a2 : carryS (firstS (twS [] n (zeroC r)) due) = 0 := by
      have : ∀ l : List Int, (∀ x ∈ l, e0 r ≤ x ∧ x ≤ n) → carryS (firstS (twS [] n (zeroC r)) l) = 0 := by
        intro l
        induction l with
        | nil => intro _; rfl
        | cons x l ih =>
          intro h
          rw [first_cons]
          have hx := h x List.mem_cons_self
          split
          · exact ih fun y hy => h y (List.mem_cons_of_mem _ hy)
          · rename_i hs
            by_cases z : x = 0
            · rw [z, stp_zero]; unfold carryS; rw [if_neg zc.1]
            · rw [stp_twS ⟨by omega, hx.2⟩, look0] at hs; exact absurd rfl hs
      exact this due hlow
    unfold rowV
    rw [a2, if_pos a1]; decide
  | fin =>
    have hpl : p < due.length := by rcases hend with h | h; cases h; exact h
    have hd := hlow _ (show due.getD p 0 ∈ due by rw [List.getD_eq_getElem?_getD, List.getElem?_eq_getElem hpl]; exact List.getElem_mem hpl)
    have hnt := not_take hnd hpl
    have hat := due_at hpl
    simp only [partT]
    generalize due.getD p 0 = d at *
    have ndx : ∀ x ∈ due.take p, d ≠ x := fun x hx e => hnt (by rw [e]; exact hx)
    have vdue : ∀ t : List Nat, firstS t (due.take p) = 80 → firstS t due = if stp t d = 80 then firstS t (due.drop (p + 1)) else stp t d := fun t ht => by
      conv => lhs; rw [hat]
      rw [first_app, if_pos ht, first_cons]
    have rowval : ∀ t : List Nat, firstS t (due.take p) = 80 → rowV t (rowP due p .fin).1 (rowP due p .fin).2 = 0 := fun t ht => by
      simp only [rowP]
      by_cases e : due.take p = []
      · rw [if_pos e]; rfl
      · rw [if_neg e]; unfold rowV; rw [if_pos ht]; rfl
    by_cases z : d = 0
    · simp only [if_pos z]
      have hr : r = false := by
        cases r with
        | false => rfl
        | true => have : (1 : Int) ≤ d := hd.1; omega
      refine ⟨?_, by unfold isRing; rw [stp_zero, hr]; decide⟩
      have a1 : firstS (twS [] n 71) (due.take p) = 80 := first_all fun x hx => by rw [stp_twS (tk1 x hx), look0]
      rw [rowval _ a1, vdue _ a1, z, stp_zero, if_neg (by decide)]; decide
    · simp only [if_neg z]
      refine ⟨?_, by unfold isRing; rw [stp_zero]; exact zc.2⟩
      have a1 : firstS (twS [(d, 71)] n (zeroC r)) (due.take p) = 80 := first_all fun x hx => by rw [stp_twS (tk1 x hx), look1, if_neg (ndx x hx)]
      rw [rowval _ a1, vdue _ a1, stp_twS ⟨by omega, hd.2⟩, look1, if_pos rfl, if_neg (by decide)]; decide
  | pos q =>
    have hpl : p < due.length := by rcases hend with h | h; cases h; exact h
    have hq0 := optsAt_in hop rfl
    have hqn : q ∉ due.take (p + 1) := by
      unfold optsAt at hop
      rw [if_neg (by omega)] at hop
      simp only [List.mem_append, List.mem_map] at hop
      rcases hop with (⟨x, hx, e⟩ | h) | h
      · cases e; exact (beh_mem hx).2.2
      · split at h <;> simp at h
      · split at h <;> simp at h
    have hd := hlow _ (show due.getD p 0 ∈ due by rw [List.getD_eq_getElem?_getD, List.getElem?_eq_getElem hpl]; exact List.getElem_mem hpl)
    have hnt := not_take hnd hpl
    have hat := due_at hpl
    have hqd : q ≠ due.getD p 0 := fun e => hqn (by
      rw [List.take_add_one, e, List.getD_eq_getElem?_getD, List.getElem?_eq_getElem hpl]; exact List.mem_append_right _ List.mem_cons_self)
    have hqt : q ∉ due.take p := fun h => hqn (by rw [List.take_add_one]; exact List.mem_append_left _ h)
    simp only [partT, rowP]
    generalize due.getD p 0 = d at *
    have ndx : ∀ x ∈ due.take p, d ≠ x := fun x hx e => hnt (by rw [e]; exact hx)
    have vdue : ∀ t : List Nat, firstS t (due.take p) = 80 → firstS t due = if stp t d = 80 then firstS t (due.drop (p + 1)) else stp t d := fun t ht => by
      conv => lhs; rw [hat]
      rw [first_app, if_pos ht, first_cons]
    have nqx : ∀ x ∈ due.take p, q ≠ x := fun x hx e => hqt (by rw [e]; exact hx)
    by_cases z : q = 0
    · simp only [if_pos z]
      have hr : r = false := by
        cases r with
        | false => rfl
        | true => have : (1 : Int) ≤ q := hq0.2.2; omega
      refine ⟨?_, by unfold isRing; rw [stp_zero]; exact zc.2⟩
      have a1 : firstS (twS [(d, 71)] n (zeroC r)) (due.take p) = 80 := first_all fun x hx => by rw [stp_twS (tk1 x hx), look1, if_neg (ndx x hx)]
      have hs : stp (twS [(d, 71)] n (zeroC r)) 0 = 75 := by rw [stp_zero, hr]; rfl
      have vd : firstS (twS [(d, 71)] n (zeroC r)) due = 71 := by rw [vdue _ a1, stp_twS ⟨by omega, hd.2⟩, look1, if_pos rfl, if_neg (by decide)]
      have vr : firstS (twS [(d, 71)] n (zeroC r)) (due.take p ++ [0]) = 75 := by rw [first_app, if_pos a1, first_cons, hs, if_neg (by decide)]
      unfold rowV
      rw [vr, vd]; decide
    · simp only [if_neg z]
      by_cases zd : d = 0
      · simp only [if_pos zd]
        have hr : r = false := by
          cases r with
          | false => rfl
          | true => have : (1 : Int) ≤ d := hd.1; omega
        refine ⟨?_, by unfold isRing; rw [stp_zero]; exact zc.2⟩
        have a1 : firstS (twS [(q, 71)] n (zeroC r)) (due.take p) = 80 := first_all fun x hx => by rw [stp_twS (tk1 x hx), look1, if_neg (nqx x hx)]
        have hs : stp (twS [(q, 71)] n (zeroC r)) 0 = 75 := by rw [stp_zero, hr]; rfl
        have vd : firstS (twS [(q, 71)] n (zeroC r)) due = 75 := by rw [vdue _ a1, zd, hs, if_neg (by decide)]
        have vr : firstS (twS [(q, 71)] n (zeroC r)) (due.take p ++ q :: (due.drop p).filter fun x => decide (x ≠ q)) = 71 := by rw [first_app, if_pos a1, first_cons, stp_twS ⟨by omega, hq0.2.1⟩, look1, if_pos rfl, if_neg (by decide)]
        unfold rowV
        rw [vr, vd]; decide
      · simp only [if_neg zd]
        refine ⟨?_, by unfold isRing; rw [stp_zero]; exact zc.2⟩
        have a1 : firstS (twS [(q, 71), (d, 75)] n (zeroC r)) (due.take p) = 80 := first_all fun x hx => by rw [stp_twS (tk1 x hx), look2, if_neg (ndx x hx), if_neg (nqx x hx)]
        have vd : firstS (twS [(q, 71), (d, 75)] n (zeroC r)) due = 75 := by rw [vdue _ a1, stp_twS ⟨by omega, hd.2⟩, look2, if_pos rfl, if_neg (by decide)]
        have vr : firstS (twS [(q, 71), (d, 75)] n (zeroC r)) (due.take p ++ q :: (due.drop p).filter fun x => decide (x ≠ q)) = 71 := by rw [first_app, if_pos a1, first_cons, stp_twS ⟨by omega, hq0.2.1⟩, look2, if_neg (Ne.symm hqd), if_pos rfl, if_neg (by decide)]
        unfold rowV
        rw [vr, vd]; decide
/-! ### rows of a shortage: what the law's own words say of them -/
noncomputable def seenF (x1 : D) : Unit → D → Option (Ctl Unit D) := fun (s2 : Unit) x4 => ((dIsi "str" x4).bind fun t7 => (dTru (D.bl t7)).bind fun t8 => if t8 = true then some x4 else (F_Lsign x1 x4).bind fun v9 => some v9).bind fun v11 => (cNe v11 (D.str "P")).bind fun t13 => if t13 = true then (cEq v11 (D.str "G")).bind fun t14 => (dInt (D.bl t14)).bind fun v15 => some (.ret v15) else some (.go ())
theorem seen_eq {x0 x1 : D} : F_Lseen x0 x1 = (dIter x0).bind fun l1 => (loopC (seenF x1) () l1).bind fun c5 => ctl c5 (fun (_ : Unit) => some (D.int 0)) (fun v => some v) := rfl
theorem seenF_int {l : List Nat} {p : Int} (h : 0 ≤ p ∧ p < (l.length : Int)) (hl : l.length ≤ 1000000) : seenF (.str (S l)) () (.int p) = some (if stp l p = 80 then .go () else .ret (.int (carryS (stp l p)))) := by
  unfold seenF
  rw [isi_int]
  simp only [Option.bind_some, dTru_b, Bool.false_eq_true, if_false]
  rw [Lsign_ok h hl]
  simp only [Option.bind_some, cNe_of]
  rw [lit_P, lit_G, cEq_S1, cEq_S1]
  simp only [Option.map_some, Option.bind_some, dInt_b]
  by_cases q : stp l p = 80
  · simp [q]
  · simp only [decide_eq_false q, Bool.not_false, if_true, if_neg q]
    unfold carryS
    by_cases g : stp l p = 71
    · simp [g]
    · simp [g]
theorem isi_str {z : Str} : dIsi "str" (.str z) = some true := by
  unfold dIsi
  rw [chk_pos (show DX.plain (D.str z) = true from rfl)]; rfl
theorem seenF_str {x1 : D} {b : Bool} : seenF x1 () (.str (if b = true then "G" else "K")) = some (.ret (.int (if b = true then 1 else 0))) := by
  unfold seenF
  rw [isi_str]
  cases b <;> rfl
theorem seen_go {l : List Nat} (hl : l.length ≤ 1000000) {rest : List D} : ∀ {ps : List Int}, (∀ p ∈ ps, 0 ≤ p ∧ p < (l.length : Int)) → loopC (seenF (.str (S l))) () (ps.map D.int ++ rest) = if firstS l ps = 80 then loopC (seenF (.str (S l))) () rest else some (.ret (.int (carryS (firstS l ps))))
  | [], _ => rfl
  | p :: ps, h => by
    rw [List.map_cons, List.cons_append, loopC, seenF_int (h p List.mem_cons_self) hl, Option.bind_some, firstS]
    by_cases q : stp l p = 80
    · rw [if_pos q, if_pos q]
      exact seen_go hl fun x hx => h x (List.mem_cons_of_mem _ hx)
    · rw [if_neg q, if_neg q, if_neg q]
theorem seen_row {l : List Nat} {ps : List Int} {g : Option Bool} (h : ∀ p ∈ ps, 0 ≤ p ∧ p < (l.length : Int)) (hl : l.length ≤ 1000000) : F_Lseen (.tup (ps.map D.int ++ tailD g)) (.str (S l)) = some (.int (rowV l ps g)) := by
  rw [seen_eq, dIter_t, Option.bind_some, seen_go hl h]
  unfold rowV
  by_cases q : firstS l ps = 80
  · rw [if_pos q, if_pos q]
    match g with
    | none => rfl
    | some true =>
      show (loopC (seenF (.str (S l))) () [.str (if true = true then "G" else "K")]).bind _ = _
      rw [loopC, seenF_str]; rfl
    | some false =>
      show (loopC (seenF (.str (S l))) () [.str (if false = true then "G" else "K")]).bind _ = _
      rw [loopC, seenF_str]; rfl
  · rw [if_neg q, if_neg q]; rfl
/-- a row as it should be -/
structure RowOk (n : Int) (r st : Bool) (ps : List Int) (g : Option Bool) : Prop where
  ne : g = none → ps ≠ []
  sk : g ≠ none → st = true
  bd : ∀ x ∈ ps, e0 r ≤ x ∧ x ≤ n
  nd : ps.Nodup
  zr : (0 : Int) ∉ (if g = none then ps.dropLast else ps)
theorem difI_self : ∀ {ns : List Int}, ns.Nodup → difI ns = ns
  | [], _ => rfl
  | n :: ns, h => by
    have h := List.nodup_cons.mp h
    unfold difI
    rw [if_neg h.1, difI_self h.2]
theorem atI_last {l : List D} {x : D} : atI (l ++ [x]) (-1) = some x := by
  unfold atI ixN
  rw [if_neg (by decide), if_pos (by simp; omega)]
  simp
  rw [show (-1 + ((l.length : Int) + 1)).toNat = l.length by omega]
  simp
theorem cut_pop {l : List D} {x : D} : cutD (l ++ [x]) none (some (-1)) = l := by
  unfold cutD HT.sIx
  simp
  rw [show (-1 + ((l.length : Int) + 1)).toNat = l.length by omega]
  simp
theorem cut_drop1 {ps : List Int} : cutD (ps.map D.int) none (some (-1)) = ps.dropLast.map D.int := by
  by_cases h : ps = []
  · subst h; rfl
  · have e := List.dropLast_concat_getLast h
    generalize ps.dropLast = a at *
    generalize ps.getLast h = b at *
    subst e
    rw [List.map_append, List.map_cons, List.map_nil, cut_pop]
theorem cIn_tstrs {z : Str} {zs : List Str} : cIn (.str z) (.tup (zs.map D.str)) = some (decide (z ∈ zs)) := by
  have h := cIn_strs (z := z) (zs := zs)
  unfold cIn at h ⊢
  simp only [flD, Option.bind_some, items_l, items_t] at h ⊢
  exact h
theorem no_letter : ∀ i : Fin 31, decide (txt (.int (i.val : Int)) ∈ ([Str.ofString "'G'", Str.ofString "'K'"] : List Str)) = false := by decide +kernel
theorem no_letterI {i : Int} (h : 0 ≤ i ∧ i ≤ 30) : decide (txt (.int i) ∈ ([Str.ofString "'G'", Str.ofString "'K'"] : List Str)) = false := by
  have := no_letter ⟨i.toNat, by omega⟩
  rwa [show (((⟨i.toNat, by omega⟩ : Fin 31).val : Nat) : Int) = i from Int.toNat_of_nonneg h.1] at this
theorem letter_G : decide (txt (.str "G") ∈ ([Str.ofString "'G'", Str.ofString "'K'"] : List Str)) = true := by decide +kernel
theorem letter_K : decide (txt (.str "K") ∈ ([Str.ofString "'G'", Str.ofString "'K'"] : List Str)) = true := by decide +kernel
theorem ok_G : PyData.strOk (Str.ofString "G") = true := by decide +kernel
theorem ok_K : PyData.strOk (Str.ofString "K") = true := by decide +kernel
theorem eqD_nilt {ds : List D} : eqD (.tup ds) (.tup []) = ds.isEmpty := by
  cases ds with
  | nil => simp [eqD, pyd, pyds, PyData.eqv, PyData.eqvAll]
  | cons d ds => simp [eqD, pyd, pyds, PyData.eqv, PyData.eqvAll]
theorem cEq_nilt {ds : List D} (hg : goods ds) (hd : deps ds ≤ 40) : cEq (.tup ds) (.tup []) = some ds.isEmpty := by
  rw [cEq_good rfl rfl (a := .tup ds) hg (show good (.tup []) from trivial) (by rw [dep]; omega) (by simp [dep, deps]), eqD_nilt]
theorem goods_app : ∀ {a b : List D}, goods a → goods b → goods (a ++ b)
  | [], _, _, h => h
  | _ :: _, _, g, h => ⟨g.1, goods_app g.2 h⟩
theorem deps_app : ∀ {a b : List D} {k : Nat}, deps a ≤ k → deps b ≤ k → deps (a ++ b) ≤ k
  | [], _, _, _, h => h
  | _ :: _, _, _, g, h => by
    rw [deps] at g
    have g := Nat.max_le.mp g
    rw [List.cons_append, deps]
    exact Nat.max_le.mpr ⟨g.1, deps_app g.2 h⟩
theorem isi_tup {ds : List D} : dIsi "tuple" (.tup ds) = some true := by
  unfold dIsi
  rw [chk_pos (show DX.plain (D.tup ds) = true from rfl)]; rfl
theorem row_fine {n o : Int} {r st : Bool} {p : Nat} {op : Op} (ho : 0 ≤ o ∧ o ≤ n) (hp : p < manyP n o r st) (hop : op ∈ optsAt n r st (dueP n o r) p) : RowOk n r st (rowP (dueP n o r) p op).1 (rowP (dueP n o r) p op).2 := by
  have hend := opts_end hp hop
  have hle : r = false → p < (dueP n o r).length := fun hr => by
    unfold manyP at hp
    rw [hr] at hp ⊢
    simpa using hp
  have h0 := due_zero ho hle
  have hlow : ∀ x ∈ (dueP n o r).take p, e0 r ≤ x ∧ x ≤ n := fun x hx => due_low ho (List.mem_of_mem_take hx)
  have hnd : ((dueP n o r).take p).Nodup := List.Nodup.sublist (List.take_sublist ..) due_nd
  cases op with
  | gen =>
    refine ⟨fun h => (by cases h), fun _ => ?_, hlow, hnd, by simpa [rowP] using h0⟩
    unfold optsAt at hop
    by_cases e : p = (dueP n o r).length
    · unfold manyP at hp
      by_cases q : (r && st) = true
      · simp at q; exact q.2
      · rw [if_neg q] at hp; omega
    · rw [if_neg e] at hop
      simp only [List.mem_append, List.mem_map] at hop
      rcases hop with (⟨x, hx, e⟩ | h) | h
      · cases e
      · split at h <;> simp at h
      · split at h
        · assumption
        · simp at h
  | fin =>
    have hst : (dueP n o r).take p = [] → st = true := fun e => by
      have hpl : p < (dueP n o r).length := by rcases hend with h | h; cases h; exact h
      have hp0 : p = 0 := by
        have := congrArg List.length e
        rw [List.length_take, List.length_nil] at this
        omega
      unfold optsAt at hop
      rw [if_neg (by omega)] at hop
      simp only [List.mem_append, List.mem_map] at hop
      rcases hop with (⟨x, hx, e⟩ | h) | h
      · cases e
      · split at h
        · rename_i q; rcases q with q | q
          · omega
          · exact q
        · simp at h
      · split at h <;> simp at h
    simp only [rowP]
    by_cases e : (dueP n o r).take p = []
    · rw [if_pos e]
      exact ⟨fun h => (by cases h), fun _ => hst e, fun x hx => absurd hx List.not_mem_nil, List.nodup_nil, by simp⟩
    · rw [if_neg e]
      exact ⟨fun _ => e, fun h => absurd rfl h, hlow, hnd, fun h => h0 (List.dropLast_subset _ (by simpa using h))⟩
  | pos q =>
    have hpl : p < (dueP n o r).length := by rcases hend with h | h; cases h; exact h
    have hq0 := optsAt_in hop rfl
    have hqn : q ∉ (dueP n o r).take (p + 1) := by
      unfold optsAt at hop
      rw [if_neg (by omega)] at hop
      simp only [List.mem_append, List.mem_map] at hop
      rcases hop with (⟨x, hx, e⟩ | h) | h
      · cases e; exact (beh_mem hx).2.2
      · split at h <;> simp at h
      · split at h <;> simp at h
    have hqt : q ∉ (dueP n o r).take p := fun h => hqn (by rw [List.take_add_one]; exact List.mem_append_left _ h)
    simp only [rowP]
    by_cases z : q = 0
    · rw [if_pos z]
      refine ⟨fun _ => by simp, fun h => absurd rfl h, fun x hx => ?_, ?_, by simpa using h0⟩
      · rcases List.mem_append.mp hx with hx | hx
        · exact hlow x hx
        · rw [List.mem_singleton] at hx; rw [hx, ← z]; exact ⟨hq0.2.2, hq0.2.1⟩
      · refine List.nodup_append.mpr ⟨hnd, by simp, fun a ha b hb => ?_⟩
        rw [List.mem_singleton] at hb
        rw [hb]; exact fun e => h0 (e ▸ ha)
    · rw [if_neg z]
      have dn : ((dueP n o r).take p ++ (dueP n o r).drop p).Nodup := by rw [List.take_append_drop]; exact due_nd
      have dn2 := List.nodup_append.mp dn
      refine ⟨fun _ => by simp, fun h => absurd rfl h, fun x hx => ?_, ?_, ?_⟩
      · rcases List.mem_append.mp hx with hx | hx
        · exact hlow x hx
        · rcases List.mem_cons.mp hx with rfl | hx
          · exact ⟨hq0.2.2, hq0.2.1⟩
          · exact due_low ho (List.mem_of_mem_drop (List.mem_filter.mp hx).1)
      · refine List.nodup_append.mpr ⟨hnd, List.nodup_cons.mpr ⟨fun h => ?_, dn2.2.1.filter _⟩, fun a ha b hb => ?_⟩
        · have := (List.mem_filter.mp h).2
          simp at this
        · rcases List.mem_cons.mp hb with rfl | hb
          · exact fun e => hqt (e ▸ ha)
          · exact dn2.2.2 a ha b (List.mem_filter.mp hb).1
      · cases r with
        | true =>
          intro h
          rw [if_pos rfl] at h
          have h := List.dropLast_subset _ h
          rcases List.mem_append.mp h with h | h
          · exact h0 h
          · rcases List.mem_cons.mp h with h | h
            · exact z h.symm
            · have := (due_low ho (List.mem_of_mem_drop (List.mem_filter.mp h).1)).1
              exact absurd (show (1 : Int) ≤ 0 from this) (by decide)
        | false =>
          have eD : dueP n o false = down o 0 ++ [0] := by
            show down o (-1) = _
            unfold down
            rw [show (o - -1).toNat = (o - 0).toNat + 1 by omega, List.range_succ, List.map_append]
            congr 1
            simp only [List.map_cons, List.map_nil]
            congr 1; omega
          have hpl2 : p ≤ (down o 0).length := by rw [eD] at hpl; simp at hpl; omega
          rw [eD] at h0 ⊢
          rw [List.drop_append_of_le_length hpl2, List.filter_append, show ([0] : List Int).filter (fun x => decide (x ≠ q)) = [0] by simp [Ne.symm z]]
          rw [show ∀ a : List Int, ∀ b : List Int, a ++ q :: (b ++ [0]) = (a ++ q :: b) ++ [0] from fun a b => by simp]
          rw [if_pos rfl, List.dropLast_concat]
          intro h
          rcases List.mem_append.mp h with h | h
          · exact h0 h
          · rcases List.mem_cons.mp h with h | h
            · exact z h.symm
            · have := (down_mem (List.mem_of_mem_drop (List.mem_filter.mp h).1)).1
              omega
/-! ### the law's list of trials -/
theorem mode_ok {s : Hs} {m : Int} (hs : HOk s m) (hm : m ≤ 900000) : Gives (F_Lmode (penL s)) fun q => ∃ r : Bool, ∃ st : Bool, ∃ s' : Hs, q = (.tup [.bl r, .bl st], penL s') ∧ HOk s' (m + 2) := by
  unfold F_Lmode
  refine .bind ((draw_ok hs (by omega) (by decide)).imp fun q hq => ?_)
  obtain ⟨a, s1, rfl, _, _, h1⟩ := hq
  simp only [cEq_ii, Option.bind_some]
  refine .bind ((draw_ok h1 (by omega) (by decide)).imp fun q hq => ?_)
  obtain ⟨b, s2, rfl, _, _, h2⟩ := hq
  exact .mk ⟨_, _, s2, rfl, by rw [show m + 2 = m + 1 + 1 by omega]; exact h2⟩
theorem ts_trials {n : Int} {r : Bool} {k : Nat} {s : Hs} {m : Int} (hs : HOk s m) (hm : m + 110 * k ≤ 800000) (hn : 1 ≤ n ∧ n ≤ 100) :
    Gives (mapS (fun (s9 : List D) x10 => (F_Ltrial s9 (.int n) (.bl r)).bind fun v15 => some (v15.1, v15.2)) (penL s) (rngD 0 k)) fun q => ∃ T s', q = (txD T, penL s') ∧ T.length = k ∧ TR n r T ∧ HOk s' (m + 110 * k) := by
  refine (gives_mapS (fun i acc s' => i ≤ k → ∃ T s'', acc = txD T ∧ s' = penL s'' ∧ T.length = i ∧ TR n r T ∧ HOk s'' (m + 110 * i)) (fun _ => ⟨[], s, rfl, rfl, rfl, fun t ht => absurd ht List.not_mem_nil, by simpa using hs⟩) fun i x acc s' hx hI => ?_).imp fun q hq => ?_
  · have hi : i < k := by
      have := len_at hx
      rwa [rngD_len] at this
    obtain ⟨T, s2, rfl, rfl, hl, hT, h2⟩ := hI (by omega)
    refine .bind ((trial_ok h2 (by omega) hn).imp fun q hq => ?_)
    obtain ⟨t, s3, rfl, ht, h3⟩ := hq
    refine .mk fun _ => ⟨T ++ [t], s3, by rw [txD_app]; rfl, rfl, by rw [List.length_append, hl]; rfl, fun u hu => ?_, h3.mono (by omega)⟩
    rcases List.mem_append.mp hu with hu | hu
    · exact hT u hu
    · rw [List.mem_singleton] at hu; rw [hu]; exact ht
  · rw [rngD_len] at hq
    obtain ⟨T, s2, e1, e2, hl, hT, h2⟩ := hq (Nat.le_refl _)
    exact ⟨T, s2, Prod.ext e1 e2, hl, hT, h2⟩
theorem pop_ok {T : List (List Nat)} {i : Int} (h : 0 ≤ i ∧ i < (T.length : Int)) (hl : T.length ≤ 100000) : lPopAt (txD T) (.int i) = some (.str (S (T.getD i.toNat [])), txD (T.eraseIdx i.toNat)) := by
  unfold lPopAt
  simp only
  rw [chk_pos (by omega), Option.bind_some, txD_len, ixN_of h.1 h.2, Option.bind_some]
  unfold txD
  rw [List.getElem?_map, List.getElem?_eq_getElem (by omega), List.getD_eq_getElem?_getD, List.getElem?_eq_getElem (by omega)]
  simp only [Option.map_some, Option.getD_some]
  congr 2
  apply List.ext_getElem?
  intro j
  rw [List.getElem?_eraseIdx, List.getElem?_map, List.getElem?_map, List.getElem?_map, List.getElem?_eraseIdx]
  split <;> rfl
theorem TR.erase {n : Int} {r : Bool} {T : List (List Nat)} (h : TR n r T) (i : Nat) : TR n r (T.eraseIdx i) := fun t ht => h t (List.mem_of_mem_eraseIdx ht)
theorem erase_len {T : List (List Nat)} {i : Int} (h : 0 ≤ i ∧ i < (T.length : Int)) : (T.eraseIdx i.toNat).length = T.length - 1 := List.length_eraseIdx_of_lt (by omega)
theorem TR.app {n : Int} {r : Bool} {T U : List (List Nat)} (h : TR n r T) (g : TR n r U) : TR n r (T ++ U) := fun t ht => (List.mem_append.mp ht).elim (h t) (g t)
/-- k drawn ones taken out, in the order drawn -/
theorem pops_ok {n : Int} {r : Bool} {k : Nat} {T : List (List Nat)} {s : Hs} {m : Int} (hT : TR n r T) (hk : k ≤ T.length) (hl : T.length ≤ 1000) (hs : HOk s m) (hm : m + k ≤ 900000) :
    Gives (mapS (fun (s43 : List D × List D) x44 => (dLen (D.lst s43.1)).bind fun v49 => (F_Ldraw s43.2 v49).bind fun v50 => (lPopAt s43.1 v50.1).bind fun v51 => some (v51.1, v51.2, v50.2)) (txD T, penL s) (rngD 0 k)) fun q => ∃ U s', q.1 = txD U ∧ q.2.2 = penL s' ∧ U.length = k ∧ TR n r U ∧ HOk s' (m + k) := by
  refine (gives_mapS (fun i acc s' => i ≤ k → ∃ U V s'', acc = txD U ∧ s' = (txD V, penL s'') ∧ U.length = i ∧ V.length = T.length - i ∧ TR n r U ∧ TR n r V ∧ HOk s'' (m + i)) (fun _ => ⟨[], T, s, rfl, rfl, rfl, rfl, fun t ht => absurd ht List.not_mem_nil, hT, by simpa using hs⟩) fun i x acc s' hx hI => ?_).imp fun q hq => ?_
  · have hi : i < k := by
      have := len_at hx
      rwa [rngD_len] at this
    obtain ⟨U, V, s2, rfl, rfl, hu, hv, hU, hV, h2⟩ := hI (by omega)
    simp only [dLen_l, txD_len, Option.bind_some]
    refine .bind ((draw_ok h2 (by omega) (by omega)).imp fun q hq => ?_)
    obtain ⟨j, s3, rfl, j0, j1, h3⟩ := hq
    simp only
    rw [pop_ok ⟨j0, j1⟩ (by omega), Option.bind_some]
    refine .mk fun _ => ⟨U ++ [V.getD j.toNat []], V.eraseIdx j.toNat, s3, by rw [txD_app]; rfl, rfl, by rw [List.length_append, hu]; rfl, by rw [erase_len ⟨j0, j1⟩]; omega, fun t ht => ?_, hV.erase _, by rw [show m + ((i + 1 : Nat) : Int) = m + i + 1 by omega]; exact h3⟩
    rcases List.mem_append.mp ht with ht | ht
    · exact hU t ht
    · rw [List.mem_singleton] at ht; rw [ht]; exact hV _ (getD_in (by omega))
  · rw [rngD_len] at hq
    obtain ⟨U, V, s2, e1, e2, hu, hv, hU, hV, h2⟩ := hq (Nat.le_refl _)
    exact ⟨U, s2, e1, by rw [e2], hu, hU, h2⟩
theorem trials_ok {s : Hs} {m n : Int} {r st : Bool} (hs : HOk s m) (hm : m ≤ 100000) (hn : 1 ≤ n ∧ n ≤ 100) : Gives (F_Ltrials (penL s) (.int n) (.bl r) (.bl st)) fun q => ∃ T s', q = (.lst (txD T), penL s') ∧ TR n r T ∧ (T.length : Int) ≤ 2 * n + 30 ∧ HOk s' (m + 4000) := by
  unfold F_Ltrials
  rw [std_ok (by omega), Option.bind_some]
  have hsl := std_len (n := n) (r := r) (st := st) (by omega)
  have hst := std_tr (n := n) (r := r) (st := st) (by omega)
  generalize stdT n r st = T0 at *
  refine .bind ((draw_ok hs (by omega) (by decide)).imp fun q hq => ?_)
  obtain ⟨k, s1, rfl, k0, k4, h1⟩ := hq
  simp only [cEq_ii, Option.bind_some, dSub_ii]
  by_cases hk : k = 0
  · rw [if_pos (decide_eq_true hk)]
    refine .bind (.bind ((draw_ok h1 (by omega) (by decide)).imp fun q hq => ?_))
    obtain ⟨j, s2, rfl, j0, j1, h2⟩ := hq
    refine .mk ?_
    simp only [dRange_1]
    rw [chk_pos (by omega), Option.bind_some, chk_pos (by rw [rngD_len]; omega), Option.bind_some]
    refine .bind ((ts_trials h2 (by omega) hn).imp fun q hq => ?_)
    obtain ⟨T, s3, rfl, hl, hT, h3⟩ := hq
    exact .mk ⟨T, s3, rfl, hT, by omega, h3.mono (by omega)⟩
  · rw [if_neg (by simpa using hk)]
    have hb : ∃ b : Nat, dIx (.lst [.int 0, .int 1, .int 2]) (.int (k - 1)) = some (.int (b : Int)) ∧ b ≤ 2 := by
      have : k = 1 ∨ k = 2 ∨ k = 3 := by omega
      rcases this with rfl | rfl | rfl
      · exact ⟨0, rfl, by decide⟩
      · exact ⟨1, rfl, by decide⟩
      · exact ⟨2, rfl, by decide⟩
    obtain ⟨b, eb, hb⟩ := hb
    rw [eb]
    simp only [Option.bind_some, dRange_1]
    rw [chk_pos (by omega), Option.bind_some, Int.toNat_natCast]
    refine .bind ((gives_fold (fun i q => i ≤ b → ∃ V s', q = (txD V, penL s') ∧ V.length = T0.length - i ∧ TR n r V ∧ HOk s' (m + 1 + i)) (fun _ => ⟨T0, s1, rfl, rfl, hst, by simpa using h1⟩) fun i x q hx hI => ?_).imp fun q hq => ?_)
    · have hi : i < b := by
        have := len_at hx
        rwa [rngD_len] at this
      obtain ⟨V, s2, rfl, hv, hV, h2⟩ := hI (by omega)
      simp only [dLen_l, txD_len, Option.bind_some]
      refine .bind ((draw_ok h2 (by omega) (by omega)).imp fun q hq => ?_)
      obtain ⟨j, s3, rfl, j0, j1, h3⟩ := hq
      simp only
      rw [pop_ok ⟨j0, j1⟩ (by omega), Option.bind_some]
      exact .mk fun _ => ⟨V.eraseIdx j.toNat, s3, rfl, by rw [erase_len ⟨j0, j1⟩]; omega, hV.erase _, by rw [show m + 1 + ((i + 1 : Nat) : Int) = m + 1 + i + 1 by omega]; exact h3⟩
    · rw [rngD_len] at hq
      obtain ⟨V, s2, rfl, hv, hV, h2⟩ := hq (Nat.le_refl _)
      simp only
      refine .bind (.bind ((draw_ok h2 (by omega) (by decide)).imp fun q hq => ?_))
      obtain ⟨j, s3, rfl, j0, j1, h3⟩ := hq
      refine .mk ?_
      simp only [dRange_1]
      rw [chk_pos (by omega), Option.bind_some, chk_pos (by rw [rngD_len]; omega), Option.bind_some]
      refine .bind ((ts_trials h3 (by omega) hn).imp fun q hq => ?_)
      obtain ⟨U, s4, rfl, hu, hU, h4⟩ := hq
      simp only [lAdd_ll, txD_len]
      rw [chk_pos (by omega)]
      simp only [Option.bind_some, dLen_l, List.length_append, txD_len]
      rw [show (((V.length + U.length : Nat) : Int)) = ((V ++ U).length : Int) by rw [List.length_append], ← txD_app]
      have hz : (V ++ U).length = V.length + U.length := List.length_append
      rw [dRange_1, chk_pos (by omega), Option.bind_some, chk_pos (by rw [rngD_len]; omega), Option.bind_some, Int.toNat_natCast]
      refine .bind ((pops_ok (hV.app hU) (Nat.le_refl _) (by omega) h4 (by omega)).imp fun q hq => ?_)
      obtain ⟨W, s5, e1, e2, hw, hW, h5⟩ := hq
      exact .mk ⟨W, s5, by rw [e1, e2], hW, by omega, h5.mono (by omega)⟩
/-! ### the outputs that are asked for, gaps -/
theorem last_up {a b : Int} (h : a < b) : atI ((upto a b).map D.int) (-1) = some (.int (b - 1)) := by
  unfold atI ixN
  rw [List.length_map, upto_len, if_neg (by decide), if_pos (by omega)]
  unfold upto
  rw [Option.bind_some, List.getElem?_map, List.getElem?_map, List.getElem?_range (by omega)]
  simp only [Option.map_some]
  congr 2; omega
theorem asked_gives {s : Hs} {m n : Int} {r : Bool} (hs : HOk s m) (hm : m ≤ 500000) (hn : 1 ≤ n ∧ n ≤ 100) (hr : r = true → 2 ≤ n) : Gives (F_Lasked (penL s) (.int n) (.bl r)) fun q => ∃ a : Option (List Int), ∃ s' : Hs, q = (askD a, penL s') ∧ (∀ o ∈ askO n r a, e0 r ≤ o ∧ o ≤ n) ∧ ((askO n r a).length : Int) ≤ n + 1 ∧ HOk s' (m + 110) := by
  have he := e0_in r
  unfold F_Lasked
  rw [Lends_ok (by omega)]
  simp only [Option.bind_some, dIter_l, dIx_li]
  rw [last_up (by cases r <;> simp [e0] <;> omega), chk_pos (by rw [List.length_map, upto_len]; omega), Option.bind_some]
  refine .bind ((gives_filtS (fun i acc s' => i ≤ (upto (e0 r) (n + 1)).length → ∃ O : List Int, ∃ s'' : Hs, acc = O.map D.int ∧ s' = penL s'' ∧ O.length ≤ i ∧ (∀ o ∈ O, o ∈ upto (e0 r) (n + 1)) ∧ HOk s'' (m + i)) (fun _ => ⟨[], s, rfl, rfl, Nat.le_refl _, fun o ho => absurd ho List.not_mem_nil, by simpa using hs⟩) fun i x acc s' hx hI => ?_).imp fun q hq => ?_)
  · have hi : i < (upto (e0 r) (n + 1)).length := by
      have := len_at hx
      rwa [List.length_map] at this
    rw [List.getElem?_map, List.getElem?_eq_getElem hi] at hx
    cases hx
    have hul : ((upto (e0 r) (n + 1)).length : Int) ≤ n + 1 := by rw [upto_len]; omega
    obtain ⟨O, s2, rfl, rfl, hl, hO, h2⟩ := hI (by omega)
    refine .bind ((draw_ok h2 (by omega) (by decide)).imp fun q hq => ?_)
    obtain ⟨k, s3, rfl, _, _, h3⟩ := hq
    simp only [cEq_ii, Option.bind_some]
    have h3' : HOk s3 (m + ((i + 1 : Nat) : Int)) := by rw [show m + ((i + 1 : Nat) : Int) = m + i + 1 by omega]; exact h3
    by_cases z : k = 0
    · rw [if_pos (decide_eq_true z)]
      refine .mk fun _ => ⟨O ++ [(upto (e0 r) (n + 1))[i]], s3, by rw [List.map_append]; rfl, rfl, by rw [List.length_append, List.length_singleton]; omega, fun o ho => ?_, h3'⟩
      rcases List.mem_append.mp ho with ho | ho
      · exact hO o ho
      · rw [List.mem_singleton] at ho; rw [ho]; exact List.getElem_mem hi
    · rw [if_neg (by simpa using z)]
      exact .mk fun _ => ⟨O, s3, by simp, rfl, by omega, hO, h3'⟩
  · rw [List.length_map] at hq
    have hul : ((upto (e0 r) (n + 1)).length : Int) ≤ n + 1 := by rw [upto_len]; omega
    obtain ⟨O, s2, e1, e2, hl, hO, h2⟩ := hq (Nat.le_refl _)
    rw [e1, e2, lList_l]
    simp only [Option.bind_some]
    refine .bind ((draw_ok h2 (by omega) (by decide)).imp fun q hq => ?_)
    obtain ⟨k, s3, rfl, k0, k4, h3⟩ := hq
    have hOb : ∀ o ∈ O, e0 r ≤ o ∧ o ≤ n := fun o ho => by have := upto_mem (hO o ho); omega
    have hUb : ∀ o ∈ upto (e0 r) (n + 1), e0 r ≤ o ∧ o ≤ n := fun o ho => by have := upto_mem ho; omega
    have : k = 0 ∨ k = 1 ∨ k = 2 ∨ k = 3 := by omega
    rcases this with rfl | rfl | rfl | rfl
    · exact .mk ⟨none, s3, rfl, hUb, hul, h3.mono (by omega)⟩
    · exact .mk ⟨none, s3, rfl, hUb, hul, h3.mono (by omega)⟩
    · exact .mk ⟨some O, s3, rfl, hOb, by show (O.length : Int) ≤ n + 1; omega, h3.mono (by omega)⟩
    · refine .mk ⟨some [n], s3, by rw [show n + 1 - 1 = n by omega]; rfl, fun o ho => ?_, by show (([n] : List Int).length : Int) ≤ n + 1; simp; omega, h3.mono (by omega)⟩
      have : o = n := by simpa [askO] using ho
      rw [this]
      have := hr
      cases r <;> simp [e0] <;> omega
/-! ### a judgement checked: tables -/
def entB (T : List (List Nat)) (o : Int) (due : List Int) (p : Nat) (op : Op) : D → Bool
  | .int k => decide (0 ≤ k) && decide (k < (T.length : Int)) && (decide (p ≤ leadN (T.getD k.toNat []) due) && refB (T.getD k.toNat []) op (trueS (T.getD k.toNat []) o))
  | _ => false
theorem entB_int {T : List (List Nat)} {o k : Int} {due : List Int} {p : Nat} {op : Op} : entB T o due p op (.int k) = (decide (0 ≤ k) && decide (k < (T.length : Int)) && (decide (p ≤ leadN (T.getD k.toNat []) due) && refB (T.getD k.toNat []) op (trueS (T.getD k.toNat []) o))) := rfl
def lineB (f : Op → D → Bool) (ops : List Op) : D → Bool
  | .tup es => decide (es.length = ops.length) && (ops.zip es).all fun q => f q.1 q.2
  | _ => false
def tableB (T : List (List Nat)) (n o : Int) (r st : Bool) : D → Bool
  | .tup ls => decide (ls.length = manyP n o r st) && (List.range (manyP n o r st)).all fun p => lineB (entB T o (dueP n o r) p) (optsAt n r st (dueP n o r) p) (ls.getD p .non)
  | _ => false
def valB (T : List (List Nat)) (n : Int) (O : List Int) (r st : Bool) : D → Bool
  | .tup ts => decide (ts.length = O.length) && (O.zip ts).all fun q => tableB T n q.1 r st q.2
  | _ => false
theorem good_plain {d : D} (h : good d) : DX.plain d = true := by cases d <;> first | rfl | exact h.elim
theorem isi_pl {c : String} {d : D} (h : good d) : dIsi c d = some (isi c d) := by
  unfold dIsi
  rw [chk_pos (good_plain h)]
def intB (a b : Int) : D → Bool
  | .int k => decide (a ≤ k) && decide (k ≤ b)
  | _ => false
theorem between_ok {e : D} {a b : Int} (h : good e) : F_is_between e (.int a) (.int b) = some (.bl (intB a b e)) := by
  unfold F_is_between
  rw [isi_pl h, isi_pl h]
  cases e with
  | int k =>
    rw [show isi "int" (.int k) = true from rfl, show isi "bool" (.int k) = false from rfl]
    simp only [Option.bind_some, dTru_b, Bool.not_false, if_true, cLe_ii, intB]
    by_cases q : a ≤ k
    · rw [decide_eq_true q, if_pos rfl, Bool.true_and]; rfl
    · rw [decide_eq_false q, if_neg (by decide), Bool.false_and]; rfl
  | bl b => rfl
  | non => rfl
  | str z => rfl
  | tup l => rfl
  | lst l => rfl
  | dct l => exact h.elim
  | adr a => exact h.elim
  | ty a => exact h.elim
  | scr a => exact h.elim
  | ins a b => exact h.elim
  | stup a => exact h.elim
  | exn a b => exact h.elim
  | tbl a => exact h.elim
def Trs (L : D) (T : List (List Nat)) : Prop := L = .lst (txD T) ∨ L = .tup (txD T)
theorem Trs.len {L : D} {T : List (List Nat)} (h : Trs L T) : dLen L = some (.int (T.length : Int)) := by
  rcases h with rfl | rfl
  · rw [dLen_l, txD_len]
  · rw [dLen_t, txD_len]
theorem Trs.at_ {L : D} {T : List (List Nat)} (h : Trs L T) {k : Int} (hk : 0 ≤ k ∧ k < (T.length : Int)) : dIx L (.int k) = some (.str (S (T.getD k.toNat []))) := by
  have : atI (txD T) k = some (.str (S (T.getD k.toNat []))) := atI_of_get hk.1 (by
    unfold txD
    rw [List.getElem?_map, List.getElem?_eq_getElem (by omega), List.getD_eq_getElem?_getD, List.getElem?_eq_getElem (by omega)]; rfl)
  rcases h with rfl | rfl
  · rw [dIx_li]; exact this
  · rw [dIx_ti]; exact this
theorem getD_mem {α : Type} {l : List α} {k : Int} {d : α} (hk : 0 ≤ k ∧ k < (l.length : Int)) : l.getD k.toNat d ∈ l := by
  rw [List.getD_eq_getElem?_getD, List.getElem?_eq_getElem (by omega)]
  exact List.getElem_mem _
theorem index_ok {T : List (List Nat)} {L e : D} {n o : Int} {r : Bool} {p : Nat} {op : Op} (hL : Trs L T) (hT : TOk n T) (hn : 1 ≤ n ∧ n ≤ 900) (ho : 0 ≤ o ∧ o ≤ n) (hop : ∀ q, op = .pos q → 0 ≤ q ∧ q ≤ n) (he : good e) :
    F_holds_index L e (.int o) (.tup ((dueP n o r).map D.int)) (.int (p : Int)) (opD op) = some (.bl (entB T o (dueP n o r) p op e)) := by
  unfold F_holds_index
  rw [hL.len]
  simp only [Option.bind_some, dSub_ii]
  rw [between_ok he]
  simp only [Option.bind_some, dTru_b]
  have other : (∀ k, e ≠ .int k) → intB 0 ((T.length : Int) - 1) e = false ∧ entB T o (dueP n o r) p op e = false := fun h => by
    cases e <;> first | exact ⟨rfl, rfl⟩ | exact absurd rfl (h _)
  by_cases hk : ∃ k, e = .int k
  · obtain ⟨k, rfl⟩ := hk
    rw [show intB 0 ((T.length : Int) - 1) (.int k) = (decide (0 ≤ k) && decide (k ≤ (T.length : Int) - 1)) from rfl]
    by_cases hr : 0 ≤ k ∧ k < (T.length : Int)
    · rw [decide_eq_true hr.1, decide_eq_true (show k ≤ (T.length : Int) - 1 by omega)]
      have hm := hT.len _ (getD_mem (d := []) hr)
      simp only [Bool.and_self, Bool.not_true, Bool.false_eq_true, if_false]
      rw [hL.at_ hr, Option.bind_some, leading_ok (fun x hx => by have := dueP_mem ho hx; omega) (by omega), Option.bind_some, cLt_ii, Option.bind_some, Option.bind_some]
      rw [entB_int]
      rw [decide_eq_true hr.1, decide_eq_true hr.2]
      generalize T.getD k.toNat [] = t at *
      by_cases hp : p ≤ leadN t (dueP n o r)
      · rw [decide_eq_false (show ¬ ((leadN t (dueP n o r) : Nat) : Int) < (p : Int) by omega), decide_eq_true hp]
        simp only [Bool.false_eq_true, if_false, Option.bind_some]
        rw [true_carry_ok (by omega) (by omega), Option.bind_some, refuted_ok (fun q hq => by have := hop q hq; omega) (by omega)]
        rfl
      · rw [decide_eq_true (show ((leadN t (dueP n o r) : Nat) : Int) < (p : Int) by omega), decide_eq_false hp]; rfl
    · have e1 : (decide (0 ≤ k) && decide (k ≤ (T.length : Int) - 1)) = false := by
        rw [Bool.and_eq_false_iff, decide_eq_false_iff_not, decide_eq_false_iff_not]; omega
      have e2 : (decide (0 ≤ k) && decide (k < (T.length : Int))) = false := by
        rw [Bool.and_eq_false_iff, decide_eq_false_iff_not, decide_eq_false_iff_not]; omega
      rw [e1]
      rw [entB_int]
      rw [e2]; rfl
  · have hk : ∀ k, e ≠ .int k := fun k h => hk ⟨k, h⟩
    rw [(other hk).1, (other hk).2]; rfl
def rowB (m : Nat) : D → Bool
  | .tup ls => decide (ls.length = m)
  | _ => false
theorem isrow_ok {v : D} {m : Nat} (h : good v) : F_is_row v (.int (m : Int)) = some (.bl (rowB m v)) := by
  unfold F_is_row
  rw [isi_pl h]
  cases v with
  | tup ls =>
    rw [show isi "tuple" (.tup ls) = true from rfl]
    simp only [Option.bind_some, dTru_b, if_true, dLen_t, cEq_ii, rowB]
    congr 2
    exact decide_eq_decide.mpr ⟨fun h => by omega, fun h => by omega⟩
  | bl b => rfl
  | int b => rfl
  | non => rfl
  | str z => rfl
  | lst l => rfl
  | dct l => exact h.elim
  | adr a => exact h.elim
  | ty a => exact h.elim
  | scr a => exact h.elim
  | ins a b => exact h.elim
  | stup a => exact h.elim
  | exn a b => exact h.elim
  | tbl a => exact h.elim
/-- a loop that is left with one answer at the first that is not as it should be -/
theorem loopC_all {α R : Type} {f : Unit → D → Option (Ctl Unit R)} {e : α → D} {b : α → Bool} {x : R} : ∀ {l : List α}, (∀ a ∈ l, f () (e a) = some (if b a = true then .go () else .ret x)) → loopC f () (l.map e) = some (if l.all b = true then .go () else .ret x)
  | [], _ => rfl
  | a :: l, h => by
    rw [List.map_cons, loopC, h a List.mem_cons_self, Option.bind_some, List.all_cons]
    cases b a with
    | true =>
      rw [Bool.true_and]
      exact loopC_all fun c hc => h c (List.mem_cons_of_mem _ hc)
    | false => rfl
theorem zipD_of {f : Op → D} : ∀ {ops : List Op} {es : List D}, zipD (ops.map f) es = (ops.zip es).map fun q => D.tup [f q.1, q.2]
  | [], es => rfl
  | a :: ops, [] => rfl
  | a :: ops, e :: es => by rw [List.map_cons, zipD, zipD_of, List.zip_cons_cons, List.map_cons]
theorem goods_mem : ∀ {l : List D} {d : D}, goods l → d ∈ l → good d
  | x :: l, d, h, m => by
    rcases List.mem_cons.mp m with rfl | m
    · exact h.1
    · exact goods_mem h.2 m
theorem goods_getD {l : List D} {p : Nat} (h : goods l) : good (l.getD p .non) := by
  rw [List.getD_eq_getElem?_getD]
  by_cases q : p < l.length
  · rw [List.getElem?_eq_getElem q]; exact goods_mem h (List.getElem_mem q)
  · rw [List.getElem?_eq_none (by omega)]; trivial
theorem atI_getD {l : List D} {p : Nat} (h : p < l.length) : atI l ((p : Nat) : Int) = some (l.getD p .non) := atI_of_get (by omega) (by
  rw [Int.toNat_natCast, List.getElem?_eq_getElem h, List.getD_eq_getElem?_getD, List.getElem?_eq_getElem h]; rfl)
theorem htable_ok {T : List (List Nat)} {L v : D} {n o : Int} {r st : Bool} (hL : Trs L T) (hT : TOk n T) (hn : 1 ≤ n ∧ n ≤ 900) (ho : 0 ≤ o ∧ o ≤ n) (hv : good v) :
    F_holds_table (.int n) L v (.int o) (.bl r) (.bl st) = some (.bl (tableB T n o r st v)) := by
  unfold F_holds_table
  rw [due_ok (by omega) ho, Option.bind_some, options_of_ok hn ho, Option.bind_some, dLen_l]
  unfold optsOf
  rw [List.map_map, List.length_map, List.length_range, Option.bind_some, isrow_ok hv, Option.bind_some, dTru_b, Option.bind_some]
  by_cases hk : ∃ ls, v = .tup ls ∧ ls.length = manyP n o r st
  · obtain ⟨ls, rfl, hl⟩ := hk
    rw [show rowB (manyP n o r st) (.tup ls) = true from decide_eq_true hl]
    simp only [Bool.not_true, Bool.false_eq_true, if_false, dEnum_l, Option.bind_some]
    rw [enum_range, loopC_all (b := fun p => lineB (entB T o (dueP n o r) p) (optsAt n r st (dueP n o r) p) (ls.getD p .non)) (x := D.bl false) fun p hp => ?_]
    · show _ = some (D.bl (decide (ls.length = manyP n o r st) && _))
      rw [decide_eq_true hl, Bool.true_and, Option.bind_some]
      cases ((List.range (manyP n o r st)).all fun p => lineB (entB T o (dueP n o r) p) (optsAt n r st (dueP n o r) p) (ls.getD p .non)) <;> rfl
    · have hp := List.mem_range.mp hp
      have hg : good (ls.getD p .non) := goods_getD hv
      simp only [un2_t, Option.bind_some, dIx_ti, Function.comp, opsD]
      rw [atI_getD (by omega), Option.bind_some, dLen_l, List.length_map, Option.bind_some, isrow_ok hg, Option.bind_some, dTru_b, Option.bind_some]
      generalize hx : ls.getD p .non = x at *
      by_cases hq : ∃ es, x = .tup es ∧ es.length = (optsAt n r st (dueP n o r) p).length
      · obtain ⟨es, rfl, hle⟩ := hq
        rw [show rowB (optsAt n r st (dueP n o r) p).length (.tup es) = true from decide_eq_true hle]
        simp only [Bool.not_true, Bool.false_eq_true, if_false, dZip_lt, Option.bind_some]
        rw [zipD_of, loopC_all (b := fun q : Op × D => entB T o (dueP n o r) p q.1 q.2) (x := D.bl false) fun q hq => ?_]
        · show _ = some (if (decide (es.length = _) && _) = true then _ else _)
          rw [decide_eq_true hle, Bool.true_and, Option.bind_some]
          cases ((optsAt n r st (dueP n o r) p).zip es).all fun q => entB T o (dueP n o r) p q.1 q.2 <;> rfl
        · have hm := List.of_mem_zip hq
          simp only [un2_t, Option.bind_some]
          rw [index_ok hL hT hn ho (fun z hz => by have := optsAt_in hm.1 hz; omega) (goods_mem hg hm.2), Option.bind_some, dTru_b, Option.bind_some]
          cases entB T o (dueP n o r) p q.1 q.2 <;> rfl
      · have e1 : rowB (optsAt n r st (dueP n o r) p).length x = false := by
          cases x <;> first | rfl | exact decide_eq_false fun h => hq ⟨_, rfl, h⟩
        have e2 : lineB (entB T o (dueP n o r) p) (optsAt n r st (dueP n o r) p) x = false := by
          cases x <;> first | rfl | (show (decide _ && _) = false; rw [decide_eq_false fun h => hq ⟨_, rfl, h⟩]; rfl)
        rw [e1, e2]; rfl
  · have e1 : rowB (manyP n o r st) v = false := by
      cases v <;> first | rfl | exact decide_eq_false fun h => hk ⟨_, rfl, h⟩
    have e2 : tableB T n o r st v = false := by
      cases v <;> first | rfl | (show (decide _ && _) = false; rw [decide_eq_false fun h => hk ⟨_, rfl, h⟩]; rfl)
    rw [e1, e2]; rfl
/-! ### the law's own check of tables, and the program's -/
theorem zip_all {α β : Type} {f : α → β → Bool} : ∀ {a : List α} {b : List β}, (a.zip b).all (fun q => f q.1 q.2) = (b.zip a).all fun q => f q.2 q.1
  | [], [] => rfl
  | [], _ :: _ => rfl
  | _ :: _, [] => rfl
  | x :: a, y :: b => by
    rw [List.zip_cons_cons, List.zip_cons_cons, List.all_cons, List.all_cons, zip_all (a := a) (b := b)]
theorem zipD_gen {α : Type} {f : α → D} : ∀ {l : List α} {es : List D}, zipD (l.map f) es = (l.zip es).map fun q => D.tup [f q.1, q.2]
  | [], es => rfl
  | a :: l, [] => rfl
  | a :: l, e :: es => by rw [List.map_cons, zipD, zipD_gen, List.zip_cons_cons, List.map_cons]
theorem zipD_gen2 {α : Type} {f : α → D} : ∀ {es : List D} {l : List α}, zipD es (l.map f) = (es.zip l).map fun q => D.tup [q.1, f q.2]
  | [], l => rfl
  | e :: es, [] => rfl
  | e :: es, a :: l => by rw [List.map_cons, zipD, zipD_gen2, List.zip_cons_cons, List.map_cons]
theorem enumD_from : ∀ (ls : List D) (k : Nat), enumD k ls = (List.range ls.length).map fun p => D.tup [.int ((k + p : Nat) : Int), ls.getD p .non]
  | [], k => rfl
  | x :: ls, k => by
    rw [enumD, enumD_from ls (k + 1), List.length_cons, List.range_succ_eq_map, List.map_cons, List.map_map]
    congr 1
    refine List.map_congr_left fun p _ => ?_
    show D.tup [.int ((k + 1 + p : Nat) : Int), ls.getD p .non] = D.tup [.int ((k + (p + 1) : Nat) : Int), (x :: ls).getD (p + 1) .non]
    rw [show k + 1 + p = k + (p + 1) by omega]; rfl
theorem enumD_0 {ls : List D} : enumD 0 ls = (List.range ls.length).map fun p => D.tup [.int ((p : Nat) : Int), ls.getD p .non] := by
  rw [enumD_from]
  refine List.map_congr_left fun p _ => ?_
  rw [Nat.zero_add]
theorem allB_map {α : Type} {b : α → Bool} {l : List α} : (dAll (.lst (l.map fun a => D.bl (b a)))) = some (.bl (l.all b)) := by
  have e : (l.map fun a => D.bl (b a)) = (l.map b).map D.bl := by rw [List.map_map]; rfl
  rw [e, dAll_b, List.all_map]; rfl
theorem check_ok {T : List (List Nat)} {L v : D} {n : Int} {a : Option (List Int)} {r st : Bool} (hL : Trs L T) (hT : TOk n T) (hn : 1 ≤ n ∧ n ≤ 900) (hO : ∀ o ∈ askO n r a, 0 ≤ o ∧ o ≤ n) (hOl : (askO n r a).length ≤ 1000) (hv : good v) (hd : dep v ≤ 30) :
    F_check_judgement (.int n) L (.tup [.str "enough", v]) (askD a) (.bl r) (.bl st) = some (.bl (valB T n (askO n r a) r st v)) := by
  unfold F_check_judgement
  have ge : goods [D.str "enough", v] := ⟨ok_enough, hv, trivial⟩
  rw [isi_tup, Option.bind_some, dTru_b, Option.bind_some]
  simp only [Bool.not_true, Bool.false_eq_true, if_false]
  rw [cEq_nilt ge (by simp [deps, dep]; omega), Option.bind_some]
  simp only [List.isEmpty_cons, Bool.false_eq_true, if_false]
  rw [show dIx (.tup [D.str "enough", v]) (.int 0) = some (.str "enough") from rfl, Option.bind_some, isi_str, Option.bind_some, dTru_b, Option.bind_some, Option.bind_some]
  simp only [Bool.not_true, Bool.false_eq_true, if_false]
  rw [asked_ok (by omega), Option.bind_some, Option.bind_some, show cEq (.str "enough") (.str "short") = some false from rfl, Option.bind_some]
  simp only [Bool.false_eq_true, if_false]
  rw [Option.bind_some, show cNe (.str "enough") (.str "enough") = some false from rfl, Option.bind_some]
  simp only [Bool.false_eq_true, if_false]
  rw [show dLen (.tup [D.str "enough", v]) = some (.int 2) from rfl, Option.bind_some, show cNe (.int 2) (.int 2) = some false from rfl, Option.bind_some]
  simp only [Bool.false_eq_true, if_false]
  rw [show dIx (.tup [D.str "enough", v]) (.int 1) = some v from rfl, Option.bind_some, dLen_t, List.length_map, Option.bind_some, isrow_ok hv, Option.bind_some, dTru_b, Option.bind_some, Option.bind_some]
  by_cases hk : ∃ ts, v = .tup ts ∧ ts.length = (askO n r a).length
  · obtain ⟨ts, rfl, hl⟩ := hk
    rw [show rowB (askO n r a).length (.tup ts) = true from decide_eq_true hl]
    simp only [Bool.not_true, Bool.false_eq_true, if_false, Option.bind_some, dZip_t]
    rw [zipD_gen2, chk_pos (by rw [List.length_map, List.length_zip]; omega), Option.bind_some]
    rw [mapO_of (g := fun q : D × Int => D.bl (tableB T n q.2 r st q.1)) fun q hq => by
      have hm := List.of_mem_zip hq
      simp only [un2_t, Option.bind_some]
      rw [htable_ok hL hT hn (hO _ hm.2) (goods_mem hv hm.1)]; rfl]
    rw [Option.bind_some, allB_map, Option.bind_some]
    show _ = some (D.bl (decide (ts.length = _) && _))
    rw [decide_eq_true hl, Bool.true_and]
    congr 2
    exact zip_all (f := fun d o => tableB T n o r st d)
  · have e1 : rowB (askO n r a).length v = false := by
      cases v <;> first | rfl | exact decide_eq_false fun h => hk ⟨_, rfl, h⟩
    have e2 : valB T n (askO n r a) r st v = false := by
      cases v <;> first | rfl | (show (decide _ && _) = false; rw [decide_eq_false fun h => hk ⟨_, rfl, h⟩]; rfl)
    rw [e1, e2]; rfl
theorem len_neg {a b : Nat} : cNe (.int (a : Int)) (.int (b : Int)) = some (!decide (a = b)) := by
  rw [cNe_of, cEq_ii]
  show some (!decide ((a : Int) = (b : Int))) = _
  congr 2
  exact decide_eq_decide.mpr ⟨fun h => by omega, fun h => by omega⟩
theorem holds_ok {T : List (List Nat)} {v : D} {n : Int} {O : List Int} {r st : Bool} (hT : TOk n T) (hR : ∀ t ∈ T, isRing t = r) (hn : 1 ≤ n ∧ n ≤ 900) (hO : ∀ o ∈ O, 0 ≤ o ∧ o ≤ n) (hO3 : ∀ o ∈ O, r = true → 1 ≤ o) (hOl : O.length ≤ 1000) (hv : good v) :
    F_Lholds (.tup [.str "enough", v]) (.lst (txD T)) (.int n) (.lst (O.map D.int)) (.bl r) (.bl st) = some (.bl (valB T n O r st v)) := by
  unfold F_Lholds
  have he : dRepr (.str "enough") = some (.str (txt (.str "enough"))) := dRepr_ok ok_enough (by simp [wt]; decide) (by simp [dep])
  rw [isi_tup, Option.bind_some, dTru_b, Option.bind_some]
  simp only [Bool.not_true, Bool.false_eq_true, if_false]
  rw [show dLen (.tup [D.str "enough", v]) = some (.int 2) from rfl, Option.bind_some, show cNe (.int 2) (.int 2) = some false from rfl, Option.bind_some]
  simp only [Bool.false_eq_true, if_false]
  rw [show dIx (.tup [D.str "enough", v]) (.int 0) = some (.str "enough") from rfl, Option.bind_some, he, Option.bind_some, Option.bind_some, cNe_of, cEq_ss, show decide (txt (.str "enough") = txt (.str "enough")) = true from decide_eq_true rfl, Option.map_some, Option.bind_some, Option.bind_some]
  simp only [Bool.not_true, Bool.false_eq_true, if_false]
  rw [show dIx (.tup [D.str "enough", v]) (.int 1) = some v from rfl, Option.bind_some, isi_pl hv, Option.bind_some, dTru_b, Option.bind_some, Option.bind_some, Option.bind_some, Option.bind_some]
  by_cases hk : ∃ ts, v = .tup ts
  · obtain ⟨ts, rfl⟩ := hk
    rw [show isi "tuple" (.tup ts) = true from rfl]
    simp only [Bool.not_true, Bool.false_eq_true, if_false, dLen_t, dLen_l, List.length_map, Option.bind_some, dZip_lt, len_neg]
    by_cases hl : ts.length = O.length
    · rw [decide_eq_true hl]
      simp only [Bool.not_true, Bool.false_eq_true, if_false]
      rw [zipD_gen, loopC_all (b := fun q : Int × D => tableB T n q.1 r st q.2) (x := D.bl false) fun q hq => ?_]
      · show _ = some (D.bl (decide (ts.length = _) && _))
        rw [decide_eq_true hl, Bool.true_and, Option.bind_some]
        cases (O.zip ts).all fun q => tableB T n q.1 r st q.2 <;> rfl
      · have hm := List.of_mem_zip hq
        obtain ⟨o, g⟩ := q
        have ho := hO o hm.1
        have hg : good g := goods_mem hv hm.2
        simp only [un2_t, Option.bind_some]
        rw [Ldue_ok (by omega) ho (hO3 o hm.1), Option.bind_some, isi_pl hg, Option.bind_some, dTru_b, Option.bind_some]
        have many : ((dTru (.bl r)).bind fun t40 => if t40 = true then some (D.bl st) else some (D.bl r)).bind (fun v41 => (dInt v41).bind fun v42 => (dAdd (.int ((dueP n o r).length : Int)) v42)) = some (.int ((manyP n o r st : Nat) : Int)) := by
          unfold manyP
          cases r <;> cases st <;> rfl
        by_cases hq : ∃ ls, g = .tup ls
        · obtain ⟨ls, rfl⟩ := hq
          rw [show isi "tuple" (.tup ls) = true from rfl]
          simp only [Bool.not_true, Bool.false_eq_true, if_false, dLen_t, List.length_map, Option.bind_some]
          have m2 : (((dTru (.bl r)).bind fun t40 => if t40 = true then some (D.bl st) else some (D.bl r)).bind fun v41 => (dInt v41).bind fun v42 => (dAdd (.int ((dueP n o r).length : Int)) v42).bind fun v43 => (cNe (.int (ls.length : Int)) v43).bind fun t44 => some t44) = some (!decide (ls.length = manyP n o r st)) := by
            unfold manyP
            cases r <;> cases st <;> exact (Option.bind_some .. ▸ len_neg)
          rw [m2, Option.bind_some]
          by_cases hll : ls.length = manyP n o r st
          · rw [decide_eq_true hll]
            simp only [Bool.not_true, Bool.false_eq_true, if_false, dEnum_t, Option.bind_some]
            rw [enumD_0, loopC_all (b := fun p => lineB (entB T o (dueP n o r) p) (optsAt n r st (dueP n o r) p) (ls.getD p .non)) (x := D.bl false) fun p hp => ?_]
            · show _ = some (if (decide (ls.length = _) && _) = true then _ else _)
              rw [decide_eq_true hll, Bool.true_and, Option.bind_some, hll]
              cases ((List.range (manyP n o r st)).all fun p => lineB (entB T o (dueP n o r) p) (optsAt n r st (dueP n o r) p) (ls.getD p .non)) <;> rfl
            · have hp := List.mem_range.mp hp
              have hg2 : good (ls.getD p .non) := goods_getD hg
              have hpl : p ≤ (dueP n o r).length := by
                rw [hll] at hp
                unfold manyP at hp
                split at hp <;> omega
              simp only [un2_t, Option.bind_some]
              rw [Loptions_ok hn ho (hO3 o hm.1) hpl, Option.bind_some, isi_pl hg2, Option.bind_some, dTru_b, Option.bind_some]
              generalize hx : ls.getD p .non = x at *
              by_cases hz : ∃ es, x = .tup es
              · obtain ⟨es, rfl⟩ := hz
                rw [show isi "tuple" (.tup es) = true from rfl]
                simp only [Bool.not_true, Bool.false_eq_true, if_false, dLen_t, opsD, dLen_l, List.length_map, Option.bind_some, len_neg]
                by_cases hle : es.length = (optsAt n r st (dueP n o r) p).length
                · rw [decide_eq_true hle]
                  simp only [Bool.not_true, Bool.false_eq_true, if_false, dZip_lt, Option.bind_some]
                  rw [zipD_gen, loopC_all (b := fun q : Op × D => entB T o (dueP n o r) p q.1 q.2) (x := D.bl false) fun q hq => ?_]
                  · show _ = some (if (decide (es.length = _) && _) = true then _ else _)
                    rw [decide_eq_true hle, Bool.true_and, Option.bind_some]
                    cases ((optsAt n r st (dueP n o r) p).zip es).all fun q => entB T o (dueP n o r) p q.1 q.2 <;> rfl
                  · obtain ⟨op, e⟩ := q
                    have hme := List.of_mem_zip hq
                    have hge : good e := goods_mem hg2 hme.2
                    simp only [un2_t, Option.bind_some]
                    rw [isi_pl hge, isi_pl hge, Option.bind_some, dTru_b, Option.bind_some]
                    by_cases hi : ∃ k, e = .int k
                    · obtain ⟨k, rfl⟩ := hi
                      rw [show isi "int" (.int k) = true from rfl, show isi "bool" (.int k) = false from rfl]
                      simp only [Bool.not_true, Bool.false_eq_true, if_false, Option.bind_some, dTru_b, cLe_ii, dLen_l, txD_len, cLt_ii]
                      by_cases k0 : 0 ≤ k
                      · rw [decide_eq_true k0]
                        simp only [if_true, Option.bind_some]
                        by_cases k1 : k < (T.length : Int)
                        · rw [decide_eq_true k1]
                          simp only [Bool.not_true, Bool.false_eq_true, if_false]
                          have hat := Trs.at_ (L := .lst (txD T)) (T := T) (Or.inl rfl) ⟨k0, k1⟩
                          have hmt := getD_mem (d := []) (⟨k0, k1⟩ : 0 ≤ k ∧ k < (T.length : Int))
                          have hlt := hT.len _ hmt
                          have hrt := hR _ hmt
                          rw [hat, Option.bind_some, Lseen_ok (fun x hx => by have := dueP_mem ho hx; omega) (by omega), Option.bind_some, Option.bind_some, Llead_ok (fun x hx => by have := dueP_mem ho hx; omega) (by omega) (by have := dueP_len (r := r) ho; omega), Option.bind_some, cLt_ii, Option.bind_some]
                          rw [entB_int]
                          rw [decide_eq_true k0, decide_eq_true k1, true_of_ring (T := T) hlt hrt]
                          generalize T.getD k.toNat [] = t at *
                          by_cases hpn : p ≤ leadN t (dueP n o r)
                          · rw [decide_eq_false (show ¬ ((leadN t (dueP n o r) : Nat) : Int) < (p : Int) by omega), decide_eq_true hpn]
                            simp only [Bool.false_eq_true, if_false, Option.bind_some]
                            rw [Lagainst_ok (fun z hz => by have := optsAt_in hme.1 hz; omega) (by omega), Option.bind_some, dTru_b, Option.bind_some, Option.bind_some]
                            cases refB t op (carryS (firstS t (dueP n o r))) <;> rfl
                          · rw [decide_eq_true (show ((leadN t (dueP n o r) : Nat) : Int) < (p : Int) by omega), decide_eq_false hpn]; rfl
                        · rw [decide_eq_false k1]
                          rw [entB_int]
                          rw [decide_eq_false k1, Bool.and_false, Bool.false_and]; rfl
                      · rw [decide_eq_false k0]
                        rw [entB_int]
                        rw [decide_eq_false k0, Bool.false_and, Bool.false_and]; rfl
                    · cases e with
                      | int k => exact absurd ⟨k, rfl⟩ hi
                      | bl b => rfl
                      | non => rfl
                      | str z => rfl
                      | tup l => rfl
                      | lst l => rfl
                      | dct l => exact hge.elim
                      | adr a => exact hge.elim
                      | ty a => exact hge.elim
                      | scr a => exact hge.elim
                      | ins a b => exact hge.elim
                      | stup a => exact hge.elim
                      | exn a b => exact hge.elim
                      | tbl a => exact hge.elim
                · rw [decide_eq_false hle]
                  show _ = some (if (decide (es.length = _) && _) = true then _ else _)
                  rw [decide_eq_false hle]; rfl
              · have e1 : isi "tuple" x = false := by
                  cases x <;> first | rfl | exact absurd ⟨_, rfl⟩ hz | exact hg2.elim
                have e2 : lineB (entB T o (dueP n o r) p) (optsAt n r st (dueP n o r) p) x = false := by
                  cases x <;> first | rfl | exact absurd ⟨_, rfl⟩ hz
                rw [e1, e2]; rfl
          · rw [decide_eq_false hll]
            show _ = some (if (decide (ls.length = _) && _) = true then _ else _)
            rw [decide_eq_false hll]; rfl
        · have e1 : isi "tuple" g = false := by
            cases g <;> first | rfl | exact absurd ⟨_, rfl⟩ hq | exact hg.elim
          have e2 : tableB T n o r st g = false := by
            cases g <;> first | rfl | exact absurd ⟨_, rfl⟩ hq
          rw [e1, e2]; rfl
    · rw [decide_eq_false hl]
      show _ = some (D.bl (decide (ts.length = _) && _))
      rw [decide_eq_false hl]; rfl
  · have e1 : isi "tuple" v = false := by
      cases v <;> first | rfl | exact absurd ⟨_, rfl⟩ hk | exact hv.elim
    have e2 : valB T n O r st v = false := by
      cases v <;> first | rfl | exact absurd ⟨_, rfl⟩ hk
    rw [e1, e2]; rfl
/-! ### data within bounds -/
structure Fi (k w : Nat) (x : D) : Prop where
  g : good x
  d : dep x ≤ k
  w : wt x ≤ w
theorem Fi.mono {k w k2 w2 : Nat} {x : D} (h : Fi k w x) (hk : k ≤ k2) (hw : w ≤ w2) : Fi k2 w2 x := ⟨h.g, Nat.le_trans h.d hk, Nat.le_trans h.w hw⟩
def AFi (k w N : Nat) (l : List D) : Prop := (∀ x ∈ l, Fi k w x) ∧ l.length ≤ N
theorem afi_goods {k w N : Nat} {l : List D} (h : AFi k w N l) : goods l ∧ deps l ≤ k ∧ wts l ≤ N * (w + 2) := by
  have g := goods_map (f := id) (l := l) fun x hx => (h.1 x hx).g
  have d := deps_map (f := id) (k := k) (l := l) fun x hx => (h.1 x hx).d
  have w' := wts_map (f := id) (k := w) (l := l) fun x hx => (h.1 x hx).w
  rw [List.map_id] at g d w'
  exact ⟨g, d, Nat.le_trans w' (Nat.mul_le_mul_right _ h.2)⟩
theorem AFi.tup {k w N : Nat} {l : List D} (h : AFi k w N l) : Fi (k + 1) (N * (w + 2) + 3) (.tup l) := by
  obtain ⟨g, d, w⟩ := afi_goods h
  exact ⟨g, by rw [dep]; omega, by rw [wt]; omega⟩
theorem AFi.lst {k w N : Nat} {l : List D} (h : AFi k w N l) : Fi (k + 1) (N * (w + 2) + 3) (.lst l) := by
  obtain ⟨g, d, w⟩ := afi_goods h
  exact ⟨g, by rw [dep]; omega, by rw [wt]; omega⟩
theorem AFi.cut {k w N : Nat} {l : List D} {a b : Option Int} (h : AFi k w N l) : AFi k w N (cutD l a b) := by
  unfold cutD
  refine ⟨fun x hx => h.1 x (List.mem_of_mem_drop (List.mem_of_mem_take hx)), ?_⟩
  rw [List.length_take, List.length_drop]
  have := h.2
  omega
theorem AFi.app {k w N M : Nat} {l m : List D} (h : AFi k w N l) (g : AFi k w M m) : AFi k w (N + M) (l ++ m) :=
  ⟨fun x hx => (List.mem_append.mp hx).elim (h.1 x) (g.1 x), by rw [List.length_append]; have := h.2; have := g.2; omega⟩
theorem AFi.one {k w : Nat} {x : D} (h : Fi k w x) : AFi k w 1 [x] := ⟨fun y hy => by rw [List.mem_singleton] at hy; rw [hy]; exact h, Nat.le_refl _⟩
theorem AFi.rev {k w N : Nat} {l : List D} (h : AFi k w N l) : AFi k w N l.reverse := ⟨fun x hx => h.1 x (List.mem_reverse.mp hx), by rw [List.length_reverse]; exact h.2⟩
theorem AFi.set {k w N i : Nat} {l : List D} {x : D} (h : AFi k w N l) (hx : Fi k w x) : AFi k w N (l.set i x) :=
  ⟨fun y hy => (List.mem_or_eq_of_mem_set hy).elim (h.1 y) fun e => e ▸ hx, by rw [List.length_set]; exact h.2⟩
theorem AFi.mono {k w N k2 w2 N2 : Nat} {l : List D} (h : AFi k w N l) (hk : k ≤ k2) (hw : w ≤ w2) (hN : N ≤ N2) : AFi k2 w2 N2 l := ⟨fun x hx => (h.1 x hx).mono hk hw, Nat.le_trans h.2 hN⟩
theorem ix_some {l : List D} {j : Int} (h : 0 ≤ j ∧ j < (l.length : Int)) : ∃ d ∈ l, dIx (.lst l) (.int j) = some d := by
  have hj : j.toNat < l.length := by omega
  exact ⟨l[j.toNat], List.getElem_mem hj, by rw [dIx_li]; exact atI_of_get h.1 (List.getElem?_eq_getElem hj)⟩
/-! ### tables of numbers -/
def tb1 (L : List Int) : D := .tup (L.map D.int)
def tb2 (X : List (List Int)) : D := .tup (X.map tb1)
structure TbOk (m : Nat) (X : List (List (List Int))) : Prop where
  len : X.length ≤ 9
  ne : ∀ t ∈ X, 1 ≤ t.length ∧ t.length ≤ 10
  row : ∀ t ∈ X, ∀ L ∈ t, L.length ≤ 12 ∧ ∀ x ∈ L, 0 ≤ x ∧ x ≤ 1000
theorem fi_int {i : Int} (h : -(2 ^ 200) ≤ i ∧ i ≤ 2 ^ 200) : Fi 0 2000 (.int i) := ⟨h, by simp [dep], by simp [wt]⟩
theorem row_fi {L : List Int} (h : L.length ≤ 12 ∧ ∀ x ∈ L, 0 ≤ x ∧ x ≤ 1000) : AFi 0 2000 12 (L.map D.int) :=
  ⟨fun x hx => by
    obtain ⟨i, hi, rfl⟩ := List.mem_map.mp hx
    have := h.2 i hi
    exact fi_int ⟨by omega, by omega⟩, by rw [List.length_map]; exact h.1⟩
theorem rows_fi {t : List (List Int)} (hl : t.length ≤ 10) (h : ∀ L ∈ t, L.length ≤ 12 ∧ ∀ x ∈ L, 0 ≤ x ∧ x ≤ 1000) : AFi 1 24027 10 (t.map tb1) :=
  ⟨fun x hx => by
    obtain ⟨L, hL, rfl⟩ := List.mem_map.mp hx
    exact (row_fi (h L hL)).tup, by rw [List.length_map]; exact hl⟩
theorem tab_fi {m : Nat} {X : List (List (List Int))} (h : TbOk m X) : AFi 2 240293 9 (X.map tb2) :=
  ⟨fun x hx => by
    obtain ⟨t, ht, rfl⟩ := List.mem_map.mp hx
    exact (rows_fi (h.ne t ht).2 (h.row t ht)).tup, by rw [List.length_map]; exact h.len⟩
theorem bent_ok {s : Hs} {m : Int} {X : List (List (List Int))} {k c : Nat} (hs : HOk s m) (hm : m ≤ 500000) (hX : TbOk c X) (hk : k ≤ 300) : Gives (F_Lbent (penL s) (.lst (X.map tb2)) (.int (k : Int))) fun q => ∃ v s', q = (v, penL s') ∧ Fi 5 6000000 v ∧ HOk s' (m + 8) := by
  have hF := tab_fi hX
  have hlen := hX.len
  unfold F_Lbent
  rw [cEq_nil (afi_goods hF).1 (by have := (afi_goods hF).2.1; omega), Option.bind_some]
  have first : Gives (if (X.map tb2).isEmpty = true then some (true, penL s) else (F_Ldraw (penL s) (.int 6)).bind fun v4 => (cEq v4.1 (.int 0)).bind fun t5 => some (t5, v4.2)) fun q => ∃ s', q.2 = penL s' ∧ HOk s' (m + 1) ∧ (q.1 = false → X ≠ []) := by
    by_cases h : X = []
    · subst h
      exact .mk ⟨s, rfl, hs.mono (by omega), fun h => by cases h⟩
    · rw [if_neg (by simpa using h)]
      refine .bind ((draw_ok hs (by omega) (by decide)).imp fun q hq => ?_)
      obtain ⟨a, s1, rfl, _, _, h1⟩ := hq
      exact .mk ⟨s1, rfl, h1, fun _ => h⟩
  refine .bind (first.imp fun q hq => ?_)
  obtain ⟨t6, pen⟩ := q
  obtain ⟨s1, rfl, h1, hne⟩ := hq
  simp only
  by_cases ht : t6 = true
  · rw [if_pos ht]
    simp only [lList_l, Option.bind_some, dAdd_tt]
    rw [chk_pos (by rw [List.length_map]; simp; omega), Option.bind_some]
    simp only [dEnd_i, Option.bind_some, dCut_l, lList_l, show dRev (.lst (X.map tb2)) = some (.lst (X.map tb2).reverse) from rfl]
    refine .bind ((draw_ok h1 (by omega) (by decide)).imp fun q hq => ?_)
    obtain ⟨j, s2, rfl, j0, j1, h2⟩ := hq
    simp only
    obtain ⟨d, hd, e⟩ := ix_some (l := [.tup (X.map tb2 ++ [.tup []]), .tup (cutD (X.map tb2) (some 1) none), .lst (X.map tb2), .non, .tup (X.map tb2).reverse]) (j := j) ⟨j0, by simpa using j1⟩
    rw [e, Option.bind_some]
    refine .mk ⟨d, s2, rfl, ?_, h2.mono (by omega)⟩
    have z : Fi 2 240293 (.tup []) := ⟨trivial, by simp [dep, deps], by simp [wt, wts]⟩
    simp only [List.mem_cons, List.not_mem_nil, or_false] at hd
    rcases hd with rfl | rfl | rfl | rfl | rfl
    · exact (hF.app (.one z)).tup.mono (by decide) (by decide)
    · exact hF.cut.tup.mono (by decide) (by decide)
    · exact hF.lst.mono (by decide) (by decide)
    · exact ⟨trivial, by simp [dep], by simp [wt]⟩
    · exact hF.rev.tup.mono (by decide) (by decide)
  · rw [if_neg ht]
    have hX0 := hne (by simpa using ht)
    have hpos : 0 < X.length := List.length_pos_iff.mpr hX0
    simp only [dLen_l, List.length_map, Option.bind_some]
    refine .bind ((draw_ok h1 (by omega) (by omega)).imp fun q hq => ?_)
    obtain ⟨at_, s2, rfl, a0, a1, h2⟩ := hq
    simp only
    have ex : dIx (.lst (X.map tb2)) (.int at_) = some (tb2 (X.getD at_.toNat [])) := by
      rw [dIx_li]
      refine atI_of_get a0 ?_
      rw [List.getElem?_map, List.getElem?_eq_getElem (by omega), List.getD_eq_getElem?_getD, List.getElem?_eq_getElem (by omega)]; rfl
    have hmem := getD_mem (l := X) (d := []) ⟨a0, a1⟩
    have hrow := hX.row _ hmem
    have hn := hX.ne _ hmem
    rw [ex]
    generalize X.getD at_.toNat [] = t at *
    simp only [Option.bind_some, tb2, lListM_t, dLen_l, List.length_map]
    refine .bind ((draw_ok h2 (by omega) (by omega)).imp fun q hq => ?_)
    obtain ⟨sp, s3, rfl, p0, p1, h3⟩ := hq
    simp only
    have ex2 : dIx (.lst (t.map tb1)) (.int sp) = some (tb1 (t.getD sp.toNat [])) := by
      rw [dIx_li]
      refine atI_of_get p0 ?_
      rw [List.getElem?_map, List.getElem?_eq_getElem (by omega), List.getD_eq_getElem?_getD, List.getElem?_eq_getElem (by omega)]; rfl
    have hL := hrow _ (getD_mem (l := t) (d := []) ⟨p0, p1⟩)
    rw [ex2]
    generalize t.getD sp.toNat [] = L at *
    simp only [Option.bind_some, tb1, lList_t, dLen_l, List.length_map, dAdd_ii]
    refine .bind ((draw_ok h3 (by omega) (by omega)).imp fun q hq => ?_)
    obtain ⟨at2, s4, rfl, b0, b1, h4⟩ := hq
    simp only [dMax2_ii, Option.bind_some]
    refine .bind ((draw_ok h4 (by omega) (by split <;> omega)).imp fun q hq => ?_)
    obtain ⟨kk, s5, rfl, c0, c1, h5⟩ := hq
    have hkk : kk ≤ 300 := by
      have : (if (k : Int) > 1 then (k : Int) else 1) ≤ 301 := by split <;> omega
      omega
    have hrF := row_fi hL
    have hrF1 : AFi 1 2007 12 (L.map D.int) := hrF.mono (by decide) (by decide) (by decide)
    have e1 : cNe (.lst (L.map D.int)) (.lst []) = some (!L.isEmpty) := cNe_nil
    have head : ∃ hd : D, Fi 1 2007 hd ∧ ((cNe (D.lst (L.map D.int)) (D.lst [])).bind fun t31 => if t31 = true then (dIx (D.lst (L.map D.int)) (D.int 0)).bind fun v32 => some v32 else some (D.int 0)) = some hd := by
      rw [e1]
      cases hh : L with
      | nil => exact ⟨.int 0, (fi_int (by decide)).mono (by decide) (by decide), rfl⟩
      | cons x L' =>
        have := hL.2 x (by rw [hh]; exact List.mem_cons_self)
        refine ⟨.int x, (fi_int ⟨by omega, by omega⟩).mono (by decide) (by decide), ?_⟩
        rw [List.map_cons, at_head]; rfl
    obtain ⟨hd, fhd, ehd⟩ := head
    simp only
    rw [ehd, Option.bind_some]
    simp only [dEnd_i, Option.bind_some, dCut_l]
    refine .bind ((draw_ok h5 (by omega) (by decide)).imp fun q hq => ?_)
    obtain ⟨o8, s6, rfl, d0, d1, h6⟩ := hq
    simp only
    obtain ⟨od, hod, eod⟩ := ix_some (l := [.int kk, .int (k : Int), .int (-1), .bl true, .non, .str "0", .tup [.int 0], hd]) (j := o8) ⟨d0, by simpa using d1⟩
    have fod : Fi 1 2007 od := by
      simp only [List.mem_cons, List.not_mem_nil, or_false] at hod
      rcases hod with rfl | rfl | rfl | rfl | rfl | rfl | rfl | rfl
      · exact (fi_int ⟨by omega, by omega⟩).mono (by decide) (by decide)
      · exact (fi_int ⟨by omega, by omega⟩).mono (by decide) (by decide)
      · exact (fi_int (by decide)).mono (by decide) (by decide)
      · exact ⟨trivial, by simp [dep], by simp [wt]⟩
      · exact ⟨trivial, by simp [dep], by simp [wt]⟩
      · exact ⟨by show PyData.strOk _ = true; decide +kernel, by simp [dep], by simp [wt]; decide⟩
      · exact (AFi.one (fi_int (i := 0) (by decide))).tup.mono (by decide) (by decide)
      · exact fhd
    rw [eod, Option.bind_some]
    have fz : Fi 1 2007 (.int 0) := (fi_int (by decide)).mono (by decide) (by decide)
    have fcut : ∀ a b, AFi 1 2007 12 (cutD (L.map D.int) a b) := fun a b => hrF1.cut
    have lc : ∀ a b, (cutD (L.map D.int) a b).length ≤ 12 := fun a b => (fcut a b).2
    simp only [dAdd_ll]
    rw [chk_pos (by have := lc none (some at2); simp; omega)]
    simp only [Option.bind_some, dAdd_ii, dEnd_i, dCut_l, dAdd_ll]
    rw [chk_pos (by have := lc none (some at2); have := lc (some (at2 + 1)) none; simp; omega)]
    simp only [Option.bind_some]
    rw [chk_pos (by have := lc none (some at2); have := lc (some (at2 + 1)) none; omega)]
    simp only [Option.bind_some, show dRev (.lst (L.map D.int)) = some (.lst (L.map D.int).reverse) from rfl]
    rw [chk_pos (by have := hL.1; simp; omega)]
    simp only [Option.bind_some]
    refine .bind ((draw_ok h6 (by omega) (by decide)).imp fun q hq => ?_)
    obtain ⟨w5, s7, rfl, w0, w1, h7⟩ := hq
    simp only
    obtain ⟨nw, hnw, enw⟩ := ix_some (l := [.lst (cutD (L.map D.int) none (some at2) ++ [od] ++ cutD (L.map D.int) (some (at2 + 1)) none), .lst (cutD (L.map D.int) none (some at2) ++ cutD (L.map D.int) (some (at2 + 1)) none), .lst (L.map D.int).reverse, .lst (L.map D.int ++ [.int 0]), .non]) (j := w5) ⟨w0, by simpa using w1⟩
    rw [enw, Option.bind_some]
    have line : ∃ ln : D, Fi 2 50228 ln ∧ ((cIs nw D.non).bind fun t54 => if t54 = true then some nw else (lList nw).bind fun l55 => some (D.tup l55)) = some ln := by
      simp only [List.mem_cons, List.not_mem_nil, or_false] at hnw
      rcases hnw with rfl | rfl | rfl | rfl | rfl
      · exact ⟨_, (((fcut none (some at2)).app (.one fod)).app (fcut (some (at2 + 1)) none)).tup, rfl⟩
      · exact ⟨_, (((fcut none (some at2)).app (fcut (some (at2 + 1)) none)).tup).mono (by decide) (by decide), rfl⟩
      · exact ⟨_, hrF1.rev.tup.mono (by decide) (by decide), rfl⟩
      · exact ⟨_, (hrF1.app (.one fz)).tup.mono (by decide) (by decide), rfl⟩
      · exact ⟨.non, ⟨trivial, by simp [dep], by simp [wt]⟩, rfl⟩
    obtain ⟨ln, fln, eln⟩ := line
    rw [eln, Option.bind_some]
    have hrows : AFi 2 50228 10 (t.map tb1) := (rows_fi hn.2 hrow).mono (by decide) (by decide) (by decide)
    rw [lSet_i, List.length_map, ixN_of p0 p1, Option.map_some, Option.bind_some]
    have hset : AFi 2 50228 10 ((t.map tb1).set sp.toNat ln) := hrows.set fln
    generalize (t.map tb1).set sp.toNat ln = R at *
    have fR : ∀ a b, AFi 2 50228 10 (cutD R a b) := fun a b => hset.cut
    have lR : ∀ a b, (cutD R a b).length ≤ 10 := fun a b => (fR a b).2
    have lR0 := hset.2
    simp only [lList_l, Option.bind_some, dEnd_i, dCut_l, dAdd_ii, dAdd_ll]
    rw [chk_pos (by have := lR none (some sp); have := lR (some (sp + 1)) none; omega)]
    simp only [Option.bind_some, lList_l]
    rw [chk_pos (by simp; omega)]
    simp only [Option.bind_some, lList_l]
    refine .bind ((draw_ok h7 (by omega) (by decide)).imp fun q hq => ?_)
    obtain ⟨w6, s8, rfl, x0, x1, h8⟩ := hq
    simp only
    obtain ⟨gr, hgr, egr⟩ := ix_some (l := [.tup R, .tup R, .tup R, .tup (cutD R none (some sp) ++ cutD R (some (sp + 1)) none), .lst R, .tup (R ++ [.tup []])]) (j := w6) ⟨x0, by simpa using x1⟩
    rw [egr, Option.bind_some]
    have fgr : Fi 3 1004603 gr := by
      have z : Fi 2 50228 (.tup []) := ⟨trivial, by simp [dep, deps], by simp [wt, wts]⟩
      simp only [List.mem_cons, List.not_mem_nil, or_false] at hgr
      rcases hgr with rfl | rfl | rfl | rfl | rfl | rfl
      · exact hset.tup.mono (by decide) (by decide)
      · exact hset.tup.mono (by decide) (by decide)
      · exact hset.tup.mono (by decide) (by decide)
      · exact ((fR none (some sp)).app (fR (some (sp + 1)) none)).tup
      · exact hset.lst.mono (by decide) (by decide)
      · exact (hset.app (.one z)).tup.mono (by decide) (by decide)
    have fT : ∀ a b, AFi 2 240293 9 (cutD (X.map tb2) a b) := fun a b => hF.cut
    have lT : ∀ a b, (cutD (X.map tb2) a b).length ≤ 9 := fun a b => (fT a b).2
    rw [chk_pos (by have := lT none (some at_); simp; omega)]
    simp only [Option.bind_some, dEnd_i, dCut_l, dAdd_ll]
    rw [chk_pos (by have := lT none (some at_); have := lT (some (at_ + 1)) none; simp; omega)]
    simp only [Option.bind_some, lList_l]
    refine .mk ⟨_, s8, rfl, ?_, h8.mono (by omega)⟩
    have gT : ∀ a b, goods (cutD (X.map tb2) a b) ∧ deps (cutD (X.map tb2) a b) ≤ 2 ∧ wts (cutD (X.map tb2) a b) ≤ 9 * (240293 + 2) := fun a b => afi_goods (fT a b)
    have ga := gT none (some at_)
    have gb := gT (some (at_ + 1)) none
    have g1 := afi_goods (AFi.one fgr)
    have wa : ∀ a b : List D, wts (a ++ b) = wts a + wts b := by
      intro a b
      induction a with
      | nil => simp [wts]
      | cons x a ih => rw [List.cons_append, wts, wts, ih]; omega
    refine ⟨goods_app (goods_app ga.1 g1.1) gb.1, ?_, ?_⟩
    · rw [dep]
      have := deps_app (k := 3) (deps_app (k := 3) (Nat.le_trans ga.2.1 (by decide)) g1.2.1) (Nat.le_trans gb.2.1 (by decide))
      omega
    · rw [wt, wa, wa]
      omega
theorem fi_tup0 {k w : Nat} : Fi (k + 1) (w + 3) (.tup []) := ⟨trivial, by simp [dep, deps], by simp [wt, wts]⟩
theorem tables_ok {s : Hs} {m n : Int} {T : List (List Nat)} {O : List Int} {r st : Bool} (hs : HOk s m) (hm : m ≤ 100000) (hT : TOk n T) (hn : 1 ≤ n ∧ n ≤ 8) (hO : ∀ o ∈ O, 0 ≤ o ∧ o ≤ n) (hO3 : ∀ o ∈ O, r = true → 1 ≤ o) (hOl : O.length ≤ 9) :
    Gives (F_Ltables (penL s) (.lst (txD T)) (.int n) (.lst (O.map D.int)) (.bl r) (.bl st)) fun q => ∃ X s', q = (.lst (X.map tb2), penL s') ∧ TbOk 0 X ∧ HOk s' (m + 1200) := by
  have hTf := hT.few
  unfold F_Ltables
  rw [dIter_l, Option.bind_some]
  refine .bind ((gives_fold (fun i q => i ≤ O.length → ∃ X s', q = (penL s', X.map tb2) ∧ X.length = i ∧ (∀ t ∈ X, 1 ≤ t.length ∧ t.length ≤ 10) ∧ (∀ t ∈ X, ∀ L ∈ t, L.length ≤ 12 ∧ ∀ x ∈ L, 0 ≤ x ∧ x ≤ 1000) ∧ HOk s' (m + 120 * i)) (fun _ => ⟨[], s, rfl, rfl, fun t ht => absurd ht List.not_mem_nil, fun t ht => absurd ht List.not_mem_nil, by simpa using hs⟩) fun i x q hx hI => ?_).imp fun q hq => ?_)
  · have hi : i < O.length := by
      have := len_at hx
      rwa [List.length_map] at this
    rw [List.getElem?_map, List.getElem?_eq_getElem hi] at hx
    cases hx
    have hmem : O[i] ∈ O := List.getElem_mem hi
    generalize O[i] = o at *
    have ho := hO o hmem
    have ho3 := hO3 o hmem
    obtain ⟨X, s1, rfl, hXl, hX1, hX2, h1⟩ := hI (by omega)
    have hmp := manyP_le (n := n) (o := o) (r := r) (st := st) ho
    have hmp1 : 1 ≤ manyP n o r st := by
      unfold manyP dueP
      cases r
      · simp [down_len]; omega
      · simp [down_len]; omega
    have hdl := dueP_len (r := r) ho
    rw [Ldue_ok (by omega) ho ho3, Option.bind_some]
    have many : ((dLen (.tup ((dueP n o r).map D.int))).bind fun v10 => ((dTru (.bl r)).bind fun t12 => if t12 = true then some (D.bl st) else some (D.bl r)).bind fun v13 => (dInt v13).bind fun v14 => (dAdd v10 v14).bind fun v15 => some v15) = some (.int ((manyP n o r st : Nat) : Int)) := by
      rw [dLen_t, List.length_map]
      unfold manyP
      cases r <;> cases st <;> rfl
    rw [many, Option.bind_some, dRange_1, chk_pos (by omega), Option.bind_some, Int.toNat_natCast]
    refine .bind ((gives_fold (fun p q => p ≤ manyP n o r st → ∃ t s', q = (penL s', t.map tb1) ∧ t.length = p ∧ (∀ L ∈ t, L.length ≤ 12 ∧ ∀ x ∈ L, 0 ≤ x ∧ x ≤ 1000) ∧ HOk s' (m + 120 * i + 12 * p)) (fun _ => ⟨[], s1, rfl, rfl, fun L hL => absurd hL List.not_mem_nil, by simpa using h1⟩) fun p x q hx hI => ?_).imp fun q hq => ?_)
    · have hp : p < manyP n o r st := by
        have := len_at hx
        rwa [rngD_len] at this
      obtain ⟨_, rfl⟩ := rngD_at hx
      obtain ⟨t, s2, rfl, htl, ht, h2⟩ := hI (by omega)
      have hpl : p ≤ (dueP n o r).length := by
        unfold manyP at hp
        split at hp <;> omega
      rw [show (0 : Int) + (p : Int) = (p : Int) by omega]
      simp only
      rw [Loptions_ok (by omega) ho ho3 hpl, Option.bind_some, Option.bind_some, show dIter (opsD (optsAt n r st (dueP n o r) p)) = some ((optsAt n r st (dueP n o r) p).map opD) from rfl, Option.bind_some]
      have hol : (optsAt n r st (dueP n o r) p).length ≤ 12 := by
        unfold optsAt
        split
        · simp
        · have := beh_len (n := n) (r := r) (L := (dueP n o r).take (p + 1))
          have h0 := e0_in r
          rw [List.length_append, List.length_append, List.length_map]
          have a : (if 0 < p ∨ st = true then [Op.fin] else []).length ≤ 1 := by split <;> simp
          have b : (if st = true then [Op.gen] else []).length ≤ 1 := by split <;> simp
          omega
      refine .bind ((gives_fold (fun j q => j ≤ (optsAt n r st (dueP n o r) p).length → ∃ L s', q = (L.map D.int, penL s') ∧ L.length = j ∧ (∀ x ∈ L, 0 ≤ x ∧ x ≤ 1000) ∧ HOk s' (m + 120 * i + 12 * p + j)) (fun _ => ⟨[], s2, rfl, rfl, fun x hx => absurd hx List.not_mem_nil, by simpa using h2⟩) fun j x q hx hI => ?_).imp fun q hq => ?_)
      · have hj : j < (optsAt n r st (dueP n o r) p).length := by
          have := len_at hx
          rwa [List.length_map] at this
        rw [List.getElem?_map, List.getElem?_eq_getElem hj] at hx
        cases hx
        have hop := List.getElem_mem hj
        generalize (optsAt n r st (dueP n o r) p)[j] = op at *
        obtain ⟨L, s3, rfl, hL, hLb, h3⟩ := hI (by omega)
        simp only
        rw [dEnum_l, Option.bind_some, enumD_0, txD_len, chk_pos (by rw [List.length_map, List.length_range]; omega), Option.bind_some]
        have hget : ∀ k ∈ List.range T.length, (txD T).getD k .non = .str (S (T.getD k [])) ∧ T.getD k [] ∈ T := fun k hk => by
          have hk := List.mem_range.mp hk
          refine ⟨?_, getD_mem (l := T) (k := (k : Int)) (d := []) ⟨by omega, by omega⟩⟩
          unfold txD
          rw [List.getD_eq_getElem?_getD, List.getElem?_map, List.getElem?_eq_getElem hk, List.getD_eq_getElem?_getD, List.getElem?_eq_getElem hk]; rfl
        rw [filtO_of (t := fun k => decide (p ≤ leadN (T.getD k []) (dueP n o r))) (g := fun k : Nat => D.int (k : Int)) fun k hk => by
          obtain ⟨e1, e2⟩ := hget k hk
          have hlt := hT.len _ e2
          simp only [un2_t, Option.bind_some]
          rw [e1, Llead_ok (fun x hx => by have := dueP_mem ho hx; omega) (by omega) (by omega), Option.bind_some]
          by_cases q : p ≤ leadN (T.getD k []) (dueP n o r)
          · rw [show cGe (.int ((leadN (T.getD k []) (dueP n o r) : Nat) : Int)) (.int (p : Int)) = some (decide (((leadN (T.getD k []) (dueP n o r) : Nat) : Int) ≥ (p : Int))) from rfl, decide_eq_true (by omega), decide_eq_true q]; rfl
          · rw [show cGe (.int ((leadN (T.getD k []) (dueP n o r) : Nat) : Int)) (.int (p : Int)) = some (decide (((leadN (T.getD k []) (dueP n o r) : Nat) : Int) ≥ (p : Int))) from rfl, decide_eq_false (by omega), decide_eq_false q]; rfl]
        have hsub : ∀ k ∈ (List.range T.length).filter (fun k => decide (p ≤ leadN (T.getD k []) (dueP n o r))), k ∈ List.range T.length := fun k hk => (List.mem_filter.mp hk).1
        have hfl := List.length_filter_le (fun k => decide (p ≤ leadN (T.getD k []) (dueP n o r))) (List.range T.length)
        rw [List.length_range] at hfl
        generalize (List.range T.length).filter (fun k => decide (p ≤ leadN (T.getD k []) (dueP n o r))) = N at *
        rw [Option.bind_some, dIter_l, Option.bind_some, chk_pos (by rw [List.length_map]; omega), Option.bind_some]
        rw [filtO_of (t := fun k => refB (T.getD k []) op (carryS (firstS (T.getD k []) (dueP n o r)))) (g := fun k : Nat => D.int (k : Int)) fun k hk => by
          have hk2 := List.mem_range.mp (hsub k hk)
          obtain ⟨e1, e2⟩ := hget k (hsub k hk)
          have hlt := hT.len _ e2
          have hat := Trs.at_ (L := .lst (txD T)) (T := T) (Or.inl rfl) (k := (k : Int)) ⟨by omega, by omega⟩
          rw [Int.toNat_natCast] at hat
          rw [hat, Option.bind_some, Option.bind_some, Lseen_ok (fun x hx => by have := dueP_mem ho hx; omega) (by omega), Option.bind_some, Lagainst_ok (fun z hz => by have := optsAt_in hop hz; omega) (by omega), Option.bind_some, dTru_b, Option.bind_some]
          cases refB (T.getD k []) op (carryS (firstS (T.getD k []) (dueP n o r))) <;> rfl]
        have hfl2 : (N.filter (fun k => refB (T.getD k []) op (carryS (firstS (T.getD k []) (dueP n o r))))).length ≤ 200 := Nat.le_trans (List.length_filter_le ..) (by omega)
        have hsub2 : ∀ k ∈ N.filter (fun k => refB (T.getD k []) op (carryS (firstS (T.getD k []) (dueP n o r)))), k < 1000 := fun k hk => by
          have := List.mem_range.mp (hsub k (List.mem_filter.mp hk).1)
          omega
        generalize N.filter (fun k => refB (T.getD k []) op (carryS (firstS (T.getD k []) (dueP n o r)))) = N2 at *
        have hor : ∃ M : List Nat, 0 < M.length ∧ M.length ≤ 1000000 ∧ (∀ k ∈ M, k < 1000) ∧ ((dTru (D.lst (N2.map fun k : Nat => D.int (k : Int)))).bind fun t57 => if t57 = true then some (D.lst (N2.map fun k : Nat => D.int (k : Int))) else some (D.lst [(D.int 0)])) = some (.lst (M.map fun k : Nat => D.int (k : Int))) := by
          cases hN2 : N2 with
          | nil => exact ⟨[0], by decide, by decide, by decide, rfl⟩
          | cons a l => exact ⟨a :: l, by simp, by rw [hN2] at hfl2; omega, fun k hk => hsub2 k (by rw [hN2]; exact hk), rfl⟩
        obtain ⟨M, hM0, hM1, hM2, eM⟩ := hor
        rw [Option.bind_some, eM, Option.bind_some, Option.bind_some, dLen_l, List.length_map, Option.bind_some]
        refine .bind ((draw_ok h3 (by omega) (by omega)).imp fun q hq => ?_)
        obtain ⟨w, s4, rfl, w0, w1, h4⟩ := hq
        simp only
        have ew : dIx (.lst (M.map fun k : Nat => D.int (k : Int))) (.int w) = some (.int ((M.getD w.toNat 0 : Nat) : Int)) := by
          rw [dIx_li]
          refine atI_of_get w0 ?_
          rw [List.getElem?_map, List.getElem?_eq_getElem (by omega), List.getD_eq_getElem?_getD, List.getElem?_eq_getElem (by omega)]; rfl
        have hw := hM2 _ (getD_mem (l := M) (d := 0) ⟨w0, w1⟩)
        rw [ew, Option.bind_some, chk_pos (by rw [List.length_map]; omega), Option.bind_some]
        refine .mk fun _ => ⟨L ++ [((M.getD w.toNat 0 : Nat) : Int)], s4, by rw [List.map_append]; rfl, by rw [List.length_append, hL]; rfl, fun x hx => ?_, h4.mono (by omega)⟩
        rcases List.mem_append.mp hx with hx | hx
        · exact hLb x hx
        · rw [List.mem_singleton] at hx; rw [hx]; omega
      · rw [List.length_map] at hq
        obtain ⟨L, s3, rfl, hL, hLb, h3⟩ := hq (Nat.le_refl _)
        simp only [lList_l, Option.bind_some]
        rw [chk_pos (by rw [List.length_map]; omega), Option.bind_some]
        refine .mk fun _ => ⟨t ++ [L], s3, by rw [List.map_append]; rfl, by rw [List.length_append, htl]; rfl, fun Y hY => ?_, h3.mono (by omega)⟩
        rcases List.mem_append.mp hY with hY | hY
        · exact ht Y hY
        · rw [List.mem_singleton] at hY; rw [hY]; exact ⟨by omega, hLb⟩
    · rw [rngD_len] at hq
      obtain ⟨t, s2, rfl, htl, ht, h2⟩ := hq (Nat.le_refl _)
      simp only [lList_l, Option.bind_some]
      rw [chk_pos (by rw [List.length_map]; omega), Option.bind_some]
      refine .mk fun _ => ⟨X ++ [t], s2, by rw [List.map_append]; rfl, by rw [List.length_append, hXl]; rfl, fun Y hY => ?_, fun Y hY => ?_, h2.mono (by omega)⟩
      · rcases List.mem_append.mp hY with hY | hY
        · exact hX1 Y hY
        · rw [List.mem_singleton] at hY; rw [hY]; exact ⟨by omega, by omega⟩
      · rcases List.mem_append.mp hY with hY | hY
        · exact hX2 Y hY
        · rw [List.mem_singleton] at hY; rw [hY]; exact ht
  · rw [List.length_map] at hq
    obtain ⟨X, s1, rfl, hXl, hX1, hX2, h1⟩ := hq (Nat.le_refl _)
    exact .mk ⟨X, s1, rfl, ⟨by omega, hX1, hX2⟩, h1.mono (by omega)⟩
/-! ### the law -/
theorem tr_tok {n : Int} {r : Bool} {U T : List (List Nat)} (h : TR n r T) (hU : ∀ t ∈ U, t ∈ T) (hl : U.length ≤ 200) : TOk n U ∧ (∀ t ∈ U, isRing t = r) ∧ (∀ t ∈ U, ∀ c ∈ t, isS c) ∧ ∀ t ∈ U, (t.length : Int) = n + 1 :=
  ⟨⟨fun t ht => (h t (hU t ht)).len, hl⟩, fun t ht => (h t (hU t ht)).rng, fun t ht => (h t (hU t ht)).sts, fun t ht => (h t (hU t ht)).len⟩
/-- both checks say b of a value -/
def Both (n : Int) (T : List (List Nat)) (O : List Int) (a : Option (List Int)) (r st : Bool) (v : D) : Prop :=
  ∃ b : Bool, F_Lholds v (.lst (txD T)) (.int n) (.lst (O.map D.int)) (.bl r) (.bl st) = some (.bl b) ∧ ∀ L, Trs L T → F_check_judgement (.int n) L v (askD a) (.bl r) (.bl st) = some (.bl b)
theorem both_val {T : List (List Nat)} {v : D} {n : Int} {a : Option (List Int)} {r st : Bool} (hT : TOk n T) (hR : ∀ t ∈ T, isRing t = r) (hn : 1 ≤ n ∧ n ≤ 900) (hO : ∀ o ∈ askO n r a, 0 ≤ o ∧ o ≤ n) (hO3 : ∀ o ∈ askO n r a, r = true → 1 ≤ o) (hOl : (askO n r a).length ≤ 1000) (hv : Fi 5 6000000 v) : Both n T (askO n r a) a r st (.tup [.str "enough", v]) :=
  ⟨_, holds_ok hT hR hn hO hO3 hOl hv.g, fun L hL => check_ok hL hT hn hO hOl hv.g (Nat.le_trans hv.d (by decide))⟩
theorem at_headT {x : D} {l : List D} : dIx (.tup (x :: l)) (.int 0) = some x := by
  have h := at_head (x := x) (l := l)
  rw [dIx_li] at h
  rw [dIx_ti]; exact h
theorem both_not {T : List (List Nat)} {d : D} {n : Int} {O : List Int} {a : Option (List Int)} {r st : Bool} (hd : good d) (h : isi "tuple" d = false) : Both n T O a r st d :=
  ⟨false, by unfold F_Lholds; rw [isi_pl hd, h]; rfl, fun L _ => by unfold F_check_judgement; rw [isi_pl hd, h]; rfl⟩
theorem holds_len {ds : List D} {x1 x2 x3 x4 x5 : D} (h : ds.length ≠ 2) : F_Lholds (.tup ds) x1 x2 x3 x4 x5 = some (.bl false) := by
  unfold F_Lholds
  rw [isi_tup, Option.bind_some, dTru_b, Option.bind_some]
  simp only [Bool.not_true, Bool.false_eq_true, if_false]
  rw [dLen_t, Option.bind_some, show (.int 2 : D) = .int ((2 : Nat) : Int) from rfl, len_neg, decide_eq_false h]
  rfl
theorem holds_head {x v x1 x2 x3 x4 x5 : D} {z : Str} (hx : dRepr x = some (.str z)) (hz : z ≠ txt (.str "enough")) : F_Lholds (.tup [x, v]) x1 x2 x3 x4 x5 = some (.bl false) := by
  have he : dRepr (.str "enough") = some (.str (txt (.str "enough"))) := dRepr_ok ok_enough (by simp [wt]; decide) (by simp [dep])
  unfold F_Lholds
  rw [isi_tup, Option.bind_some, dTru_b, Option.bind_some]
  simp only [Bool.not_true, Bool.false_eq_true, if_false]
  rw [show dLen (.tup [x, v]) = some (.int 2) from rfl, Option.bind_some, show cNe (.int 2) (.int 2) = some false from rfl, Option.bind_some]
  simp only [Bool.false_eq_true, if_false]
  rw [at_headT, Option.bind_some, hx, Option.bind_some, he, Option.bind_some, cNe_of, cEq_ss, decide_eq_false hz]
  rfl
theorem check_bad {L : D} {n : Int} {a : Option (List Int)} {r st : Bool} {z : Str} {rest : List D} (hn : 1 ≤ n ∧ n ≤ 900) (hg : goods (.str z :: rest)) (hd : deps (.str z :: rest) ≤ 40) (hb : (z = "short" ∧ rest.length ≠ 3) ∨ (z ≠ "short" ∧ (z ≠ "enough" ∨ rest.length ≠ 1))) :
    F_check_judgement (.int n) L (.tup (.str z :: rest)) (askD a) (.bl r) (.bl st) = some (.bl false) := by
  unfold F_check_judgement
  rw [isi_tup, Option.bind_some, dTru_b, Option.bind_some]
  simp only [Bool.not_true, Bool.false_eq_true, if_false]
  rw [cEq_nilt hg hd, Option.bind_some]
  simp only [List.isEmpty_cons, Bool.false_eq_true, if_false]
  rw [at_headT, Option.bind_some, isi_str, Option.bind_some, dTru_b, Option.bind_some, Option.bind_some]
  simp only [Bool.not_true, Bool.false_eq_true, if_false]
  rw [asked_ok (by omega), Option.bind_some, Option.bind_some, cEq_ss, Option.bind_some]
  rcases hb with ⟨h1, h2⟩ | ⟨h1, h2⟩
  · rw [decide_eq_true h1, if_pos rfl, dLen_t, Option.bind_some, cEq_ii, decide_eq_false (by rw [List.length_cons]; omega)]
    rfl
  · rw [decide_eq_false h1, if_neg (by decide), Option.bind_some, cNe_of, cEq_ss, Option.map_some, Option.bind_some]
    by_cases h3 : z = "enough"
    · rw [decide_eq_true h3]
      simp only [Bool.not_true, Bool.false_eq_true, if_false]
      have h4 : rest.length ≠ 1 := h2.resolve_left fun h => h h3
      rw [dLen_t, Option.bind_some, show (.int 2 : D) = .int ((2 : Nat) : Int) from rfl, len_neg, decide_eq_false (by rw [List.length_cons]; omega)]
      rfl
    · rw [decide_eq_false h3]; rfl
theorem loopC_go {α S R : Type} {f : S → D → Option (Ctl S R)} {s : S} {e : α → D} : ∀ {l : List α}, (∀ a ∈ l, f s (e a) = some (.go s)) → loopC f s (l.map e) = some (.go s)
  | [], _ => rfl
  | a :: l, h => by
    rw [List.map_cons, loopC, h a List.mem_cons_self, Option.bind_some]
    exact loopC_go fun b hb => h b (List.mem_cons_of_mem _ hb)
theorem right_ok {s : Hs} {m n : Int} {r st : Bool} (hs : HOk s m) (hm : m ≤ 90000) (hn : 2 ≤ n ∧ n ≤ 8) : Gives (F_Lright (penL s) (.int n) (.bl r) (.bl st)) fun q => ∃ s' : Hs, q = (.bl true, penL s') ∧ HOk s' (m + 5600) := by
  unfold F_Lright
  refine .bind ((trials_ok hs (by omega) (by omega)).imp fun q hq => ?_)
  obtain ⟨T, s1, rfl, hT, hTl, h1⟩ := hq
  simp only
  obtain ⟨tok, hring, hsts, hlen⟩ := tr_tok hT (fun t ht => ht) (by omega)
  refine .bind ((asked_gives h1 (by omega) (by omega) (fun _ => hn.1)).imp fun q hq => ?_)
  obtain ⟨a, s2, rfl, hO, hOl, h2⟩ := hq
  simp only
  have he := e0_in r
  have hO2 : ∀ o ∈ askO n r a, 0 ≤ o ∧ o ≤ n := fun o ho => by have := hO o ho; omega
  have hO3 : ∀ o ∈ askO n r a, r = true → 1 ≤ o := fun o ho hr => by have := (hO o ho).1; rw [hr] at this; exact this
  have hw : ((cIs (askD a) D.non).bind fun t4 => if t4 = true then (F_Lends (.int n) (.bl r)).bind fun v5 => some v5 else (lList (askD a)).bind fun l5 => some (D.lst l5)) = some (.lst ((askO n r a).map D.int)) := by
    cases a with
    | none => rw [Lends_ok (by omega)]; rfl
    | some O => rfl
  rw [hw, Option.bind_some]
  refine .bind ((tables_ok h2 (by omega) tok (by omega) hO2 hO3 (by omega)).imp fun q hq => ?_)
  obtain ⟨X, s3, rfl, hX, h3⟩ := hq
  simp only [lList_l, Option.bind_some, dAdd_ll]
  rw [chk_pos (by simp), Option.bind_some, dRange_1, chk_pos (by decide), Option.bind_some, chk_pos (by rw [rngD_len]; decide), Option.bind_some]
  have fX := tab_fi hX
  refine .bind ((gives_mapS (fun i acc s' => i ≤ 12 → ∃ s'', s' = penL s'' ∧ acc.length = i ∧ (∀ d ∈ acc, ∃ v, d = .tup [.str "enough", v] ∧ Fi 5 6000000 v) ∧ HOk s'' (m + 5310 + 8 * i)) (fun _ => ⟨s3, rfl, rfl, fun d hd => absurd hd List.not_mem_nil, h3.mono (by omega)⟩) fun i x acc s' hx hI => ?_).imp fun q hq => ?_)
  · have hi : i < 12 := by
      have := len_at hx
      rwa [rngD_len] at this
    obtain ⟨s4, rfl, hl, hacc, h4⟩ := hI (by omega)
    rw [dLen_l, txD_len, Option.bind_some]
    refine .bind ((bent_ok h4 (by omega) hX (by omega)).imp fun q hq => ?_)
    obtain ⟨v, s5, rfl, hv, h5⟩ := hq
    refine .mk fun _ => ⟨s5, rfl, by rw [List.length_append, hl]; rfl, fun d hd => ?_, h5.mono (by omega)⟩
    rcases List.mem_append.mp hd with hd | hd
    · exact hacc d hd
    · rw [List.mem_singleton] at hd; exact ⟨v, hd, hv⟩
  · rw [rngD_len] at hq
    obtain ⟨s4, e1, hl, hacc, h4⟩ := hq (by decide)
    rw [e1]
    generalize q.1 = bents at *
    rw [dAdd_ll, chk_pos (by rw [hl]; simp)]
    simp only [Option.bind_some, dIter_l]
    have fv : Fi 5 6000000 (.tup (X.map tb2)) := fX.tup.mono (by decide) (by decide)
    have okE : PyData.strOk (Str.ofString "Enough") = true := by decide +kernel
    have okS : PyData.strOk (Str.ofString "short") = true := by decide +kernel
    have fs : ∀ z : Str, PyData.strOk z = true → z.length ≤ 100 → Fi 5 6000000 (.str z) := fun z h h2 => ⟨h, by simp [dep], by simp only [wt]; omega⟩
    have hall : ∀ d ∈ ([(D.tup [(D.str "enough"), (D.tup (X.map tb2))]), (D.lst [(D.str "enough"), (D.tup (X.map tb2))]), (D.tup [(D.str "enough")]), (D.tup [(D.str "enough"), (D.tup (X.map tb2)), (D.int 0)]), (D.str "enough")] ++ [(D.tup [(D.str "Enough"), (D.tup (X.map tb2))]), D.non, (D.tup []), (D.tup [(D.str "short"), (D.tup (X.map tb2))]), (D.tup [(D.bl true), (D.tup (X.map tb2))])] ++ bents), Both n T (askO n r a) a r st d ∧ Fi 7 7000000 d := by
      have one : ∀ x : D, Fi 5 6000000 x → Fi 7 7000000 x := fun x h => h.mono (by decide) (by decide)
      have pair : ∀ x y : D, Fi 5 900000 x → Fi 5 6000000 y → AFi 5 6000000 2 [x, y] := fun x y hx hy => ⟨fun w hw => by
        simp only [List.mem_cons, List.not_mem_nil, or_false] at hw
        rcases hw with rfl | rfl
        · exact hx.mono (by decide) (by decide)
        · exact hy, by simp⟩
      have gX := fv.g
      have dX := fv.d
      have fpair : ∀ x y : D, Fi 5 900000 x → Fi 5 6000000 y → Fi 7 7000000 (.tup [x, y]) ∧ Fi 7 7000000 (.lst [x, y]) := fun x y hx hy => by
        have a1 := hx.w
        have a2 := hy.w
        have a3 := hx.d
        have a4 := hy.d
        exact ⟨⟨⟨hx.g, hy.g, trivial⟩, by simp only [dep, deps]; omega, by simp only [wt, wts]; omega⟩, ⟨⟨hx.g, hy.g, trivial⟩, by simp only [dep, deps]; omega, by simp only [wt, wts]; omega⟩⟩
      have fst : ∀ z : Str, PyData.strOk z = true → z.length ≤ 100 → Fi 5 900000 (.str z) := fun z h h2 => ⟨h, by simp [dep], by simp only [wt]; omega⟩
      have lE : ("enough" : Str).length ≤ 100 := by decide
      have lE2 : ("Enough" : Str).length ≤ 100 := by decide
      have lS : ("short" : Str).length ≤ 100 := by decide
      have fB : Fi 5 900000 (.bl true) := ⟨trivial, by simp [dep], by simp [wt]⟩
      have dX' : deps [D.tup (X.map tb2)] ≤ 40 := by simp only [deps]; omega
      have rE2 : dRepr (.str "Enough") = some (.str (txt (.str "Enough"))) := dRepr_ok okE (by simp only [wt]; omega) (by simp [dep])
      have rS : dRepr (.str "short") = some (.str (txt (.str "short"))) := dRepr_ok okS (by simp only [wt]; omega) (by simp [dep])
      intro d hd
      rcases List.mem_append.mp hd with hd | hd
      · rcases List.mem_append.mp hd with hd | hd
        · simp only [List.mem_cons, List.not_mem_nil, or_false] at hd
          rcases hd with rfl | rfl | rfl | rfl | rfl
          · exact ⟨both_val tok hring (by omega) hO2 hO3 (by omega) fv, (fpair _ _ (fst _ ok_enough lE) fv).1⟩
          · exact ⟨both_not ⟨ok_enough, gX, trivial⟩ rfl, (fpair _ _ (fst _ ok_enough lE) fv).2⟩
          · refine ⟨⟨false, holds_len (by decide), fun L _ => check_bad (by omega) ⟨ok_enough, trivial⟩ (by simp [deps, dep]) (.inr ⟨by decide, .inr (by decide)⟩)⟩, ⟨ok_enough, trivial⟩, by simp [dep, deps], by simp only [wt, wts]; omega⟩
          · refine ⟨⟨false, holds_len (by simp), fun L _ => check_bad (by omega) ⟨ok_enough, gX, ⟨by decide, by decide⟩, trivial⟩ (by simp only [deps, dep]; simp only [dep] at dX; omega) (.inr ⟨by decide, .inr (by simp)⟩)⟩, ⟨ok_enough, gX, ⟨by decide, by decide⟩, trivial⟩, by simp only [dep, deps]; simp only [dep] at dX; omega, by have := fv.w; simp only [wt, wts] at *; omega⟩
          · exact ⟨both_not ok_enough rfl, one _ (fs _ ok_enough lE)⟩
        · simp only [List.mem_cons, List.not_mem_nil, or_false] at hd
          rcases hd with rfl | rfl | rfl | rfl | rfl
          · exact ⟨⟨false, holds_head rE2 (by decide +kernel), fun L _ => check_bad (by omega) ⟨okE, gX, trivial⟩ (by simp only [deps, dep]; simp only [dep] at dX; omega) (.inr ⟨by decide, .inl (by decide)⟩)⟩, (fpair _ _ (fst _ okE lE2) fv).1⟩
          · exact ⟨both_not trivial rfl, trivial, by simp [dep], by simp [wt]⟩
          · refine ⟨⟨false, holds_len (by decide), fun L _ => ?_⟩, trivial, by simp [dep, deps], by simp [wt, wts]⟩
            unfold F_check_judgement
            rw [isi_tup, Option.bind_some, dTru_b, Option.bind_some, cEq_nilt (ds := []) trivial (by simp [deps])]
            rfl
          · exact ⟨⟨false, holds_head rS (by decide +kernel), fun L _ => check_bad (by omega) ⟨okS, gX, trivial⟩ (by simp only [deps, dep]; simp only [dep] at dX; omega) (.inl ⟨rfl, by simp⟩)⟩, (fpair _ _ (fst _ okS lS) fv).1⟩
          · refine ⟨⟨false, holds_head dRepr_b (by decide +kernel), fun L _ => ?_⟩, (fpair _ _ fB fv).1⟩
            unfold F_check_judgement
            rw [isi_tup, Option.bind_some, dTru_b, Option.bind_some]
            simp only [Bool.not_true, Bool.false_eq_true, if_false]
            rw [cEq_nilt (ds := [D.bl true, .tup (X.map tb2)]) ⟨trivial, gX, trivial⟩ (by simp only [deps, dep]; simp only [dep] at dX; omega), Option.bind_some]
            simp only [List.isEmpty_cons, Bool.false_eq_true, if_false]
            rw [at_headT, Option.bind_some, isi_pl (show good (.bl true) from trivial)]
            rfl
      · obtain ⟨v, rfl, hv⟩ := hacc d hd
        exact ⟨both_val tok hring (by omega) hO2 hO3 (by omega) hv, (fpair _ _ (fst _ ok_enough lE) hv).1⟩
    generalize ([(D.tup [(D.str "enough"), (D.tup (X.map tb2))]), (D.lst [(D.str "enough"), (D.tup (X.map tb2))]), (D.tup [(D.str "enough")]), (D.tup [(D.str "enough"), (D.tup (X.map tb2)), (D.int 0)]), (D.str "enough")] ++ [(D.tup [(D.str "Enough"), (D.tup (X.map tb2))]), D.non, (D.tup []), (D.tup [(D.str "short"), (D.tup (X.map tb2))]), (D.tup [(D.bl true), (D.tup (X.map tb2))])] ++ bents) = vals at *
    have fT : Fi 1 100000 (.lst (txD T)) := by
      have : AFi 0 92 46 (txD T) := ⟨fun x hx => by
        obtain ⟨t, ht, rfl⟩ := List.mem_map.mp hx
        have hl := hlen t ht
        have g := good_S (hsts t ht) (by omega)
        exact ⟨g.1, by simp [dep], by simp only [wt]; rw [S_len]; omega⟩, by rw [txD_len]; omega⟩
      exact this.lst.mono (by decide) (by decide)
    rw [show vals = vals.map id from (List.map_id _).symm, loopC_go fun d hd => ?_]
    · exact .mk ⟨s4, rfl, h4.mono (by omega)⟩
    · obtain ⟨⟨b, e1, e2⟩, fd⟩ := hall d hd
      simp only [id]
      have gp : dRepr (.tup [d, .lst (txD T)]) = some (.str (txt (.tup [d, .lst (txD T)]))) := dRepr_ok ⟨fd.g, fT.g, trivial⟩ (by have := fd.w; have := fT.w; simp only [wt, wts] at *; omega) (by have := fd.d; have := fT.d; simp only [dep, deps] at *; omega)
      have g2 : dRepr (.lst [.bl b, .bl b]) = some (.str (txt (.lst [.bl b, .bl b]))) := dRepr_ok ⟨trivial, trivial, trivial⟩ (by simp [wt, wts]) (by simp [dep, deps])
      rw [gp, Option.bind_some, e1, Option.bind_some, e2 _ (.inl rfl), Option.bind_some, Option.bind_some, e2 _ (.inr rfl), Option.bind_some, chk_pos (by simp), Option.bind_some]
      simp only [List.cons_append, List.nil_append, g2, Option.bind_some, cNe_of, cEq_ss, decide_true, Option.map_some, Bool.not_true, Bool.false_eq_true, if_false]
theorem law_true (ns : List Int) : F_law (.scr ns) = some (.bl true) := by
  have g : Gives (F_law (.scr ns)) fun d => d = .bl true := by
    unfold F_law
    rw [pen_ok, Option.bind_some, dRange_1, chk_pos (by decide), Option.bind_some]
    refine .bind ((gives_loop (fun i s => ∃ p, s = penL p ∧ HOk p (6000 * (i : Int))) ⟨_, rfl, pen_hok ns⟩ fun i x s hx hI => ?_).imp fun c hc => ?_)
    · have hi : i < 5 := by
        have := len_at hx
        rwa [rngD_len] at this
      obtain ⟨p, rfl, hp⟩ := hI
      refine .bind ((mode_ok hp (by omega)).imp fun q hq => ?_)
      obtain ⟨r, st, s1, rfl, h1⟩ := hq
      rw [show un2 (.tup [.bl r, .bl st]) = some (.bl r, .bl st) from rfl, Option.bind_some]
      simp only
      refine .bind ((draw_ok h1 (by omega) (by decide)).imp fun q hq => ?_)
      obtain ⟨k, s2, rfl, k0, k1, h2⟩ := hq
      simp only [dAdd_ii, Option.bind_some]
      refine .bind ((draw_ok h2 (by omega) (by decide)).imp fun q hq => ?_)
      obtain ⟨j, s3, rfl, j0, j1, h3⟩ := hq
      obtain ⟨n, en, hn⟩ : ∃ n : Int, dIx (.lst [.int 2, .int 3, .int 8, .int (2 + k)]) (.int j) = some (.int n) ∧ 2 ≤ n ∧ n ≤ 8 := by
        have : j = 0 ∨ j = 1 ∨ j = 2 ∨ j = 3 := by omega
        rcases this with rfl | rfl | rfl | rfl
        · exact ⟨2, rfl, by decide, by decide⟩
        · exact ⟨3, rfl, by decide, by decide⟩
        · exact ⟨8, rfl, by decide, by decide⟩
        · exact ⟨2 + k, rfl, by omega, by omega⟩
      simp only
      rw [en, Option.bind_some]
      refine .bind ((right_ok h3 (by omega) hn).imp fun q hq => ?_)
      obtain ⟨s4, rfl, h4⟩ := hq
      exact .mk ⟨_, rfl, s4, rfl, h4.mono (by omega)⟩
    · obtain ⟨s', rfl, p, rfl, hp⟩ := hc
      have c1 := check_ok (T := [[80, 71], [71, 75]]) (L := .tup [.str "PG", .str "GK"]) (v := .tup [.tup [.tup [.int 1]]]) (n := 1) (a := some [0]) (r := false) (st := false) (.inr rfl) ⟨by decide, by decide⟩ (by decide) (by decide) (by decide) (by simp [good, goods]) (by simp [dep, deps])
      have c2 : F_check_judgement (D.int 1) (D.tup [(D.str "PG"), (D.str "GK")]) (D.tup [(D.str "enough"), (D.tup [(D.tup [(D.tup [(D.int 1)])])])]) (D.tup [(D.int 0)]) (D.bl false) (D.bl false) = some (.bl true) := c1
      rw [ctl_g, c2]
      exact .mk rfl
  obtain ⟨y, h, rfl⟩ := g
  exact h
end My
namespace My
open PySem PySem.Spec L2 DX SX
theorem sc_Lpen : FnScope ["_law_script"] ["_law_script"] (defScope s_Lpen) := ⟨rfl, rfl, rfl, by decide +kernel, rfl, by decide +kernel, by decide +kernel⟩
theorem sc_Ldraw : FnScope ["_law_pen_here", "_law_bound", "_law_digit", "_law_at", "_law_cell", "_law_great", "_law_mixed"] ["_law_pen_here", "_law_bound"] (defScope s_Ldraw) := ⟨rfl, rfl, rfl, by decide +kernel, rfl, by decide +kernel, by decide +kernel⟩
theorem sc_Lmode : FnScope ["_law_pen_here"] ["_law_pen_here"] (defScope s_Lmode) := ⟨rfl, rfl, rfl, by decide +kernel, rfl, by decide +kernel, by decide +kernel⟩
theorem sc_output_positions : FnScope ["n", "ring"] ["n", "ring"] (defScope s_output_positions) := ⟨rfl, rfl, rfl, by decide +kernel, rfl, by decide +kernel, by decide +kernel⟩
theorem sc_outputs_asked : FnScope ["n", "outputs", "ring"] ["n", "outputs", "ring"] (defScope s_outputs_asked) := ⟨rfl, rfl, rfl, by decide +kernel, rfl, by decide +kernel, by decide +kernel⟩
theorem sc_is_letter : FnScope ["thing"] ["thing"] (defScope s_is_letter) := ⟨rfl, rfl, rfl, by decide +kernel, rfl, by decide +kernel, by decide +kernel⟩
theorem sc_state_at : FnScope ["trial", "position"] ["trial", "position"] (defScope s_state_at) := ⟨rfl, rfl, rfl, by decide +kernel, rfl, by decide +kernel, by decide +kernel⟩
theorem sc_carry_of : FnScope ["state"] ["state"] (defScope s_carry_of) := ⟨rfl, rfl, rfl, by decide +kernel, rfl, by decide +kernel, by decide +kernel⟩
theorem sc_row_carry : FnScope ["row", "trial", "entry", "state"] ["row", "trial"] (defScope s_row_carry) := ⟨rfl, rfl, rfl, by decide +kernel, rfl, by decide +kernel, by decide +kernel⟩
theorem sc_first_state : FnScope ["trial", "positions", "position"] ["trial", "positions"] (defScope s_first_state) := ⟨rfl, rfl, rfl, by decide +kernel, rfl, by decide +kernel, by decide +kernel⟩
theorem sc_due_positions : FnScope ["n", "output", "ring"] ["n", "output", "ring"] (defScope s_due_positions) := ⟨rfl, rfl, rfl, by decide +kernel, rfl, by decide +kernel, by decide +kernel⟩
theorem sc_true_carry : FnScope ["trial", "output", "ring"] ["trial", "output"] (defScope s_true_carry) := ⟨rfl, rfl, rfl, by decide +kernel, rfl, by decide +kernel, by decide +kernel⟩
theorem sc_is_between : FnScope ["value", "least", "most"] ["value", "least", "most"] (defScope s_is_between) := ⟨rfl, rfl, rfl, by decide +kernel, rfl, by decide +kernel, by decide +kernel⟩
theorem sc_is_row_of : FnScope ["n", "thing", "ring", "stuck", "places", "entry"] ["n", "thing", "ring", "stuck"] (defScope s_is_row_of) := ⟨rfl, rfl, rfl, by decide +kernel, rfl, by decide +kernel, by decide +kernel⟩
theorem sc_has_states : FnScope ["value", "n", "letter"] ["value", "n"] (defScope s_has_states) := ⟨rfl, rfl, rfl, by decide +kernel, rfl, by decide +kernel, by decide +kernel⟩
theorem sc_is_ring_trial : FnScope ["value", "n"] ["value", "n"] (defScope s_is_ring_trial) := ⟨rfl, rfl, rfl, by decide +kernel, rfl, by decide +kernel, by decide +kernel⟩
theorem sc_is_trial : FnScope ["value", "n"] ["value", "n"] (defScope s_is_trial) := ⟨rfl, rfl, rfl, by decide +kernel, rfl, by decide +kernel, by decide +kernel⟩
theorem sc_holds_short : FnScope ["n", "trials", "thing", "asked", "ring", "stuck", "word", "output", "row", "other", "trial"] ["n", "trials", "thing", "asked", "ring", "stuck"] (defScope s_holds_short) := ⟨rfl, rfl, rfl, by decide +kernel, rfl, by decide +kernel, by decide +kernel⟩
theorem sc_is_row : FnScope ["value", "length"] ["value", "length"] (defScope s_is_row) := ⟨rfl, rfl, rfl, by decide +kernel, rfl, by decide +kernel, by decide +kernel⟩
theorem sc_options_at : FnScope ["n", "due", "place", "ring", "stuck", "found", "position"] ["n", "due", "place", "ring", "stuck"] (defScope s_options_at) := ⟨rfl, rfl, rfl, by decide +kernel, rfl, by decide +kernel, by decide +kernel⟩
theorem sc_options_of : FnScope ["n", "output", "ring", "stuck", "due", "place"] ["n", "output", "ring", "stuck"] (defScope s_options_of) := ⟨rfl, rfl, rfl, by decide +kernel, rfl, by decide +kernel, by decide +kernel⟩
theorem sc_is_refuted : FnScope ["trial", "option", "carry", "state"] ["trial", "option", "carry"] (defScope s_is_refuted) := ⟨rfl, rfl, rfl, by decide +kernel, rfl, by decide +kernel, by decide +kernel⟩
theorem sc_leading_passes : FnScope ["trial", "due", "place", "position"] ["trial", "due"] (defScope s_leading_passes) := ⟨rfl, rfl, rfl, by decide +kernel, rfl, by decide +kernel, by decide +kernel⟩
theorem sc_holds_index : FnScope ["trials", "thing", "output", "due", "place", "option"] ["trials", "thing", "output", "due", "place", "option"] (defScope s_holds_index) := ⟨rfl, rfl, rfl, by decide +kernel, rfl, by decide +kernel, by decide +kernel⟩
theorem sc_holds_table : FnScope ["n", "trials", "thing", "output", "ring", "stuck", "due", "places", "place", "options", "option", "index"] ["n", "trials", "thing", "output", "ring", "stuck"] (defScope s_holds_table) := ⟨rfl, rfl, rfl, by decide +kernel, rfl, by decide +kernel, by decide +kernel⟩
theorem sc_check_judgement : FnScope ["n", "trials", "thing", "outputs", "ring", "stuck", "asked", "table", "output"] ["n", "trials", "thing", "outputs", "ring", "stuck"] (defScope s_check_judgement) := ⟨rfl, rfl, rfl, by decide +kernel, rfl, by decide +kernel, by decide +kernel⟩
theorem sc_Lput : FnScope ["_law_size", "_law_marks", "_law_last", "_law_signs", "_law_spot", "_law_sign_here"] ["_law_size", "_law_marks", "_law_last"] (defScope s_Lput) := ⟨rfl, rfl, rfl, by decide +kernel, rfl, by decide +kernel, by decide +kernel⟩
theorem sc_Lstandard : FnScope ["_law_size", "_law_is_ring", "_law_is_stuck", "_law_found", "_law_spot"] ["_law_size", "_law_is_ring", "_law_is_stuck"] (defScope s_Lstandard) := ⟨rfl, rfl, rfl, by decide +kernel, rfl, by decide +kernel, by decide +kernel⟩
theorem sc_Ltrial : FnScope ["_law_pen_here", "_law_size", "_law_is_ring", "_law_way", "_law_some", "_law_signs", "_law_last", "_law_k"] ["_law_pen_here", "_law_size", "_law_is_ring"] (defScope s_Ltrial) := ⟨rfl, rfl, rfl, by decide +kernel, rfl, by decide +kernel, by decide +kernel⟩
theorem sc_Ltrials : FnScope ["_law_pen_here", "_law_size", "_law_is_ring", "_law_is_stuck", "_law_some", "_law_way", "_law_k"] ["_law_pen_here", "_law_size", "_law_is_ring", "_law_is_stuck"] (defScope s_Ltrials) := ⟨rfl, rfl, rfl, by decide +kernel, rfl, by decide +kernel, by decide +kernel⟩
theorem sc_Lends : FnScope ["_law_size", "_law_is_ring"] ["_law_size", "_law_is_ring"] (defScope s_Lends) := ⟨rfl, rfl, rfl, by decide +kernel, rfl, by decide +kernel, by decide +kernel⟩
theorem sc_Lasked : FnScope ["_law_pen_here", "_law_size", "_law_is_ring", "_law_ends_here", "_law_end"] ["_law_pen_here", "_law_size", "_law_is_ring"] (defScope s_Lasked) := ⟨rfl, rfl, rfl, by decide +kernel, rfl, by decide +kernel, by decide +kernel⟩
theorem sc_Ldue : FnScope ["_law_size", "_law_end", "_law_is_ring", "_law_k"] ["_law_size", "_law_end", "_law_is_ring"] (defScope s_Ldue) := ⟨rfl, rfl, rfl, by decide +kernel, rfl, by decide +kernel, by decide +kernel⟩
theorem sc_Loptions : FnScope ["_law_size", "_law_end", "_law_spot", "_law_is_ring", "_law_is_stuck", "_law_due_here", "_law_found", "_law_entry"] ["_law_size", "_law_end", "_law_spot", "_law_is_ring", "_law_is_stuck"] (defScope s_Loptions) := ⟨rfl, rfl, rfl, by decide +kernel, rfl, by decide +kernel, by decide +kernel⟩
theorem sc_Lsign : FnScope ["_law_trial_here", "_law_spot"] ["_law_trial_here", "_law_spot"] (defScope s_Lsign) := ⟨rfl, rfl, rfl, by decide +kernel, rfl, by decide +kernel, by decide +kernel⟩
theorem sc_Lagainst : FnScope ["_law_trial_here", "_law_option", "_law_right_here", "_law_sign_here"] ["_law_trial_here", "_law_option", "_law_right_here"] (defScope s_Lagainst) := ⟨rfl, rfl, rfl, by decide +kernel, rfl, by decide +kernel, by decide +kernel⟩
theorem sc_Llead : FnScope ["_law_trial_here", "_law_due_here", "_law_signs", "_law_entry"] ["_law_trial_here", "_law_due_here"] (defScope s_Llead) := ⟨rfl, rfl, rfl, by decide +kernel, rfl, by decide +kernel, by decide +kernel⟩
theorem sc_Lseen : FnScope ["_law_row", "_law_trial_here", "_law_entry", "_law_sign_here"] ["_law_row", "_law_trial_here"] (defScope s_Lseen) := ⟨rfl, rfl, rfl, by decide +kernel, rfl, by decide +kernel, by decide +kernel⟩
theorem sc_Ltables : FnScope ["_law_pen_here", "_law_some", "_law_size", "_law_ends_here", "_law_is_ring", "_law_is_stuck", "_law_found", "_law_end", "_law_due_here", "_law_rows", "_law_spot", "_law_line", "_law_option", "_law_near", "_law_good", "_law_k", "_law_trial_here"] ["_law_pen_here", "_law_some", "_law_size", "_law_ends_here", "_law_is_ring", "_law_is_stuck"] (defScope s_Ltables) := ⟨rfl, rfl, rfl, by decide +kernel, rfl, by decide +kernel, by decide +kernel⟩
theorem sc_Lholds : FnScope ["_law_value", "_law_some", "_law_size", "_law_ends_here", "_law_is_ring", "_law_is_stuck", "_law_end", "_law_grid", "_law_due_here", "_law_spot", "_law_line", "_law_options_here", "_law_option", "_law_k", "_law_right_here"] ["_law_value", "_law_some", "_law_size", "_law_ends_here", "_law_is_ring", "_law_is_stuck"] (defScope s_Lholds) := ⟨rfl, rfl, rfl, by decide +kernel, rfl, by decide +kernel, by decide +kernel⟩
theorem sc_Lbent : FnScope ["_law_pen_here", "_law_tables_here", "_law_many", "_law_at", "_law_rows", "_law_spot", "_law_line", "_law_k", "_law_odd", "_law_ways", "_law_new", "_law_some"] ["_law_pen_here", "_law_tables_here", "_law_many"] (defScope s_Lbent) := ⟨rfl, rfl, rfl, by decide +kernel, rfl, by decide +kernel, by decide +kernel⟩
theorem sc_Lright : FnScope ["_law_pen_here", "_law_size", "_law_is_ring", "_law_is_stuck", "_law_some", "_law_asked_here", "_law_ends_here", "_law_tables_here", "_law_values", "_law_value", "_law_shown", "_law_due_here", "_law_told", "_law_given", "_law_k"] ["_law_pen_here", "_law_size", "_law_is_ring", "_law_is_stuck"] (defScope s_Lright) := ⟨rfl, rfl, rfl, by decide +kernel, rfl, by decide +kernel, by decide +kernel⟩
theorem sc_law : FnScope ["_law_script", "_law_pen_here", "_law_turn", "_law_is_ring", "_law_is_stuck"] ["_law_script"] (defScope s_law) := ⟨rfl, rfl, rfl, by decide +kernel, rfl, by decide +kernel, by decide +kernel⟩
structure Txt (K : PySem.W.Frag) (mg : Str → Option Value) : Prop where
  d_Lpen : ∃ fd, FunD K "_law_pen" "_law_pen" (defArgs s_Lpen) (defBody s_Lpen) (defScope s_Lpen) [] [] (He.fAd K ("_law_pen", none)) fd
  m_Lpen : mg "_law_pen" = some (.ref (He.fAd K ("_law_pen", none)))
  d_Ldraw : ∃ fd, FunD K "_law_draw" "_law_draw" (defArgs s_Ldraw) (defBody s_Ldraw) (defScope s_Ldraw) [] [] (He.fAd K ("_law_draw", none)) fd
  m_Ldraw : mg "_law_draw" = some (.ref (He.fAd K ("_law_draw", none)))
  d_Lmode : ∃ fd, FunD K "_law_mode" "_law_mode" (defArgs s_Lmode) (defBody s_Lmode) (defScope s_Lmode) [] [] (He.fAd K ("_law_mode", none)) fd
  m_Lmode : mg "_law_mode" = some (.ref (He.fAd K ("_law_mode", none)))
  d_output_positions : ∃ fd, FunD K "output_positions" "output_positions" (defArgs s_output_positions) (defBody s_output_positions) (defScope s_output_positions) [] [] (He.fAd K ("output_positions", none)) fd
  m_output_positions : mg "output_positions" = some (.ref (He.fAd K ("output_positions", none)))
  d_outputs_asked : ∃ fd, FunD K "outputs_asked" "outputs_asked" (defArgs s_outputs_asked) (defBody s_outputs_asked) (defScope s_outputs_asked) [] [] (He.fAd K ("outputs_asked", none)) fd
  m_outputs_asked : mg "outputs_asked" = some (.ref (He.fAd K ("outputs_asked", none)))
  d_is_letter : ∃ fd, FunD K "is_letter" "is_letter" (defArgs s_is_letter) (defBody s_is_letter) (defScope s_is_letter) [] [] (He.fAd K ("is_letter", none)) fd
  m_is_letter : mg "is_letter" = some (.ref (He.fAd K ("is_letter", none)))
  d_state_at : ∃ fd, FunD K "state_at" "state_at" (defArgs s_state_at) (defBody s_state_at) (defScope s_state_at) [] [] (He.fAd K ("state_at", none)) fd
  m_state_at : mg "state_at" = some (.ref (He.fAd K ("state_at", none)))
  d_carry_of : ∃ fd, FunD K "carry_of" "carry_of" (defArgs s_carry_of) (defBody s_carry_of) (defScope s_carry_of) [] [] (He.fAd K ("carry_of", none)) fd
  m_carry_of : mg "carry_of" = some (.ref (He.fAd K ("carry_of", none)))
  d_row_carry : ∃ fd, FunD K "row_carry" "row_carry" (defArgs s_row_carry) (defBody s_row_carry) (defScope s_row_carry) [] [] (He.fAd K ("row_carry", none)) fd
  m_row_carry : mg "row_carry" = some (.ref (He.fAd K ("row_carry", none)))
  d_first_state : ∃ fd, FunD K "first_state" "first_state" (defArgs s_first_state) (defBody s_first_state) (defScope s_first_state) [] [] (He.fAd K ("first_state", none)) fd
  m_first_state : mg "first_state" = some (.ref (He.fAd K ("first_state", none)))
  d_due_positions : ∃ fd, FunD K "due_positions" "due_positions" (defArgs s_due_positions) (defBody s_due_positions) (defScope s_due_positions) [] [] (He.fAd K ("due_positions", none)) fd
  m_due_positions : mg "due_positions" = some (.ref (He.fAd K ("due_positions", none)))
  d_true_carry : ∃ fd, FunD K "true_carry" "true_carry" (defArgs s_true_carry) (defBody s_true_carry) (defScope s_true_carry) [] [] (He.fAd K ("true_carry", none)) fd
  m_true_carry : mg "true_carry" = some (.ref (He.fAd K ("true_carry", none)))
  d_is_between : ∃ fd, FunD K "is_between" "is_between" (defArgs s_is_between) (defBody s_is_between) (defScope s_is_between) [] [] (He.fAd K ("is_between", none)) fd
  m_is_between : mg "is_between" = some (.ref (He.fAd K ("is_between", none)))
  d_is_row_of : ∃ fd, FunD K "is_row_of" "is_row_of" (defArgs s_is_row_of) (defBody s_is_row_of) (defScope s_is_row_of) [] [] (He.fAd K ("is_row_of", none)) fd
  m_is_row_of : mg "is_row_of" = some (.ref (He.fAd K ("is_row_of", none)))
  d_has_states : ∃ fd, FunD K "has_states" "has_states" (defArgs s_has_states) (defBody s_has_states) (defScope s_has_states) [] [] (He.fAd K ("has_states", none)) fd
  m_has_states : mg "has_states" = some (.ref (He.fAd K ("has_states", none)))
  d_is_ring_trial : ∃ fd, FunD K "is_ring_trial" "is_ring_trial" (defArgs s_is_ring_trial) (defBody s_is_ring_trial) (defScope s_is_ring_trial) [] [] (He.fAd K ("is_ring_trial", none)) fd
  m_is_ring_trial : mg "is_ring_trial" = some (.ref (He.fAd K ("is_ring_trial", none)))
  d_is_trial : ∃ fd, FunD K "is_trial" "is_trial" (defArgs s_is_trial) (defBody s_is_trial) (defScope s_is_trial) [] [] (He.fAd K ("is_trial", none)) fd
  m_is_trial : mg "is_trial" = some (.ref (He.fAd K ("is_trial", none)))
  d_holds_short : ∃ fd, FunD K "holds_short" "holds_short" (defArgs s_holds_short) (defBody s_holds_short) (defScope s_holds_short) [] [] (He.fAd K ("holds_short", none)) fd
  m_holds_short : mg "holds_short" = some (.ref (He.fAd K ("holds_short", none)))
  d_is_row : ∃ fd, FunD K "is_row" "is_row" (defArgs s_is_row) (defBody s_is_row) (defScope s_is_row) [] [] (He.fAd K ("is_row", none)) fd
  m_is_row : mg "is_row" = some (.ref (He.fAd K ("is_row", none)))
  d_options_at : ∃ fd, FunD K "options_at" "options_at" (defArgs s_options_at) (defBody s_options_at) (defScope s_options_at) [] [] (He.fAd K ("options_at", none)) fd
  m_options_at : mg "options_at" = some (.ref (He.fAd K ("options_at", none)))
  d_options_of : ∃ fd, FunD K "options_of" "options_of" (defArgs s_options_of) (defBody s_options_of) (defScope s_options_of) [] [] (He.fAd K ("options_of", none)) fd
  m_options_of : mg "options_of" = some (.ref (He.fAd K ("options_of", none)))
  d_is_refuted : ∃ fd, FunD K "is_refuted" "is_refuted" (defArgs s_is_refuted) (defBody s_is_refuted) (defScope s_is_refuted) [] [] (He.fAd K ("is_refuted", none)) fd
  m_is_refuted : mg "is_refuted" = some (.ref (He.fAd K ("is_refuted", none)))
  d_leading_passes : ∃ fd, FunD K "leading_passes" "leading_passes" (defArgs s_leading_passes) (defBody s_leading_passes) (defScope s_leading_passes) [] [] (He.fAd K ("leading_passes", none)) fd
  m_leading_passes : mg "leading_passes" = some (.ref (He.fAd K ("leading_passes", none)))
  d_holds_index : ∃ fd, FunD K "holds_index" "holds_index" (defArgs s_holds_index) (defBody s_holds_index) (defScope s_holds_index) [] [] (He.fAd K ("holds_index", none)) fd
  m_holds_index : mg "holds_index" = some (.ref (He.fAd K ("holds_index", none)))
  d_holds_table : ∃ fd, FunD K "holds_table" "holds_table" (defArgs s_holds_table) (defBody s_holds_table) (defScope s_holds_table) [] [] (He.fAd K ("holds_table", none)) fd
  m_holds_table : mg "holds_table" = some (.ref (He.fAd K ("holds_table", none)))
  d_check_judgement : ∃ fd, FunD K "check_judgement" "check_judgement" (defArgs s_check_judgement) (defBody s_check_judgement) (defScope s_check_judgement) [] [("outputs", .non), ("ring", .bl false), ("stuck", .bl false)] (He.fAd K ("check_judgement", none)) fd
  m_check_judgement : mg "check_judgement" = some (.ref (He.fAd K ("check_judgement", none)))
  d_Lput : ∃ fd, FunD K "_law_put" "_law_put" (defArgs s_Lput) (defBody s_Lput) (defScope s_Lput) [] [] (He.fAd K ("_law_put", none)) fd
  m_Lput : mg "_law_put" = some (.ref (He.fAd K ("_law_put", none)))
  d_Lstandard : ∃ fd, FunD K "_law_standard" "_law_standard" (defArgs s_Lstandard) (defBody s_Lstandard) (defScope s_Lstandard) [] [] (He.fAd K ("_law_standard", none)) fd
  m_Lstandard : mg "_law_standard" = some (.ref (He.fAd K ("_law_standard", none)))
  d_Ltrial : ∃ fd, FunD K "_law_trial" "_law_trial" (defArgs s_Ltrial) (defBody s_Ltrial) (defScope s_Ltrial) [] [] (He.fAd K ("_law_trial", none)) fd
  m_Ltrial : mg "_law_trial" = some (.ref (He.fAd K ("_law_trial", none)))
  d_Ltrials : ∃ fd, FunD K "_law_trials" "_law_trials" (defArgs s_Ltrials) (defBody s_Ltrials) (defScope s_Ltrials) [] [] (He.fAd K ("_law_trials", none)) fd
  m_Ltrials : mg "_law_trials" = some (.ref (He.fAd K ("_law_trials", none)))
  d_Lends : ∃ fd, FunD K "_law_ends" "_law_ends" (defArgs s_Lends) (defBody s_Lends) (defScope s_Lends) [] [] (He.fAd K ("_law_ends", none)) fd
  m_Lends : mg "_law_ends" = some (.ref (He.fAd K ("_law_ends", none)))
  d_Lasked : ∃ fd, FunD K "_law_asked" "_law_asked" (defArgs s_Lasked) (defBody s_Lasked) (defScope s_Lasked) [] [] (He.fAd K ("_law_asked", none)) fd
  m_Lasked : mg "_law_asked" = some (.ref (He.fAd K ("_law_asked", none)))
  d_Ldue : ∃ fd, FunD K "_law_due" "_law_due" (defArgs s_Ldue) (defBody s_Ldue) (defScope s_Ldue) [] [] (He.fAd K ("_law_due", none)) fd
  m_Ldue : mg "_law_due" = some (.ref (He.fAd K ("_law_due", none)))
  d_Loptions : ∃ fd, FunD K "_law_options" "_law_options" (defArgs s_Loptions) (defBody s_Loptions) (defScope s_Loptions) [] [] (He.fAd K ("_law_options", none)) fd
  m_Loptions : mg "_law_options" = some (.ref (He.fAd K ("_law_options", none)))
  d_Lsign : ∃ fd, FunD K "_law_sign" "_law_sign" (defArgs s_Lsign) (defBody s_Lsign) (defScope s_Lsign) [] [] (He.fAd K ("_law_sign", none)) fd
  m_Lsign : mg "_law_sign" = some (.ref (He.fAd K ("_law_sign", none)))
  d_Lagainst : ∃ fd, FunD K "_law_against" "_law_against" (defArgs s_Lagainst) (defBody s_Lagainst) (defScope s_Lagainst) [] [] (He.fAd K ("_law_against", none)) fd
  m_Lagainst : mg "_law_against" = some (.ref (He.fAd K ("_law_against", none)))
  d_Llead : ∃ fd, FunD K "_law_lead" "_law_lead" (defArgs s_Llead) (defBody s_Llead) (defScope s_Llead) [] [] (He.fAd K ("_law_lead", none)) fd
  m_Llead : mg "_law_lead" = some (.ref (He.fAd K ("_law_lead", none)))
  d_Lseen : ∃ fd, FunD K "_law_seen" "_law_seen" (defArgs s_Lseen) (defBody s_Lseen) (defScope s_Lseen) [] [] (He.fAd K ("_law_seen", none)) fd
  m_Lseen : mg "_law_seen" = some (.ref (He.fAd K ("_law_seen", none)))
  d_Ltables : ∃ fd, FunD K "_law_tables" "_law_tables" (defArgs s_Ltables) (defBody s_Ltables) (defScope s_Ltables) [] [] (He.fAd K ("_law_tables", none)) fd
  m_Ltables : mg "_law_tables" = some (.ref (He.fAd K ("_law_tables", none)))
  d_Lholds : ∃ fd, FunD K "_law_holds" "_law_holds" (defArgs s_Lholds) (defBody s_Lholds) (defScope s_Lholds) [] [] (He.fAd K ("_law_holds", none)) fd
  m_Lholds : mg "_law_holds" = some (.ref (He.fAd K ("_law_holds", none)))
  d_Lbent : ∃ fd, FunD K "_law_bent" "_law_bent" (defArgs s_Lbent) (defBody s_Lbent) (defScope s_Lbent) [] [] (He.fAd K ("_law_bent", none)) fd
  m_Lbent : mg "_law_bent" = some (.ref (He.fAd K ("_law_bent", none)))
  d_Lright : ∃ fd, FunD K "_law_right" "_law_right" (defArgs s_Lright) (defBody s_Lright) (defScope s_Lright) [] [] (He.fAd K ("_law_right", none)) fd
  m_Lright : mg "_law_right" = some (.ref (He.fAd K ("_law_right", none)))
  d_law : ∃ fd, FunD K "law" "law" (defArgs s_law) (defBody s_law) (defScope s_law) [] [] (He.fAd K ("law", none)) fd
  m_law : mg "law" = some (.ref (He.fAd K ("law", none)))
  b_abs : mg "abs" = none
  b_all : mg "all" = none
  b_bool : mg "bool" = none
  b_enumerate : mg "enumerate" = none
  b_int : mg "int" = none
  b_isinstance : mg "isinstance" = none
  b_len : mg "len" = none
  b_list : mg "list" = none
  b_max : mg "max" = none
  b_range : mg "range" = none
  b_repr : mg "repr" = none
  b_set : mg "set" = none
  b_str : mg "str" = none
  b_tuple : mg "tuple" = none
  b_zip : mg "zip" = none
  g_END : ∃ t, mg "END" = some (.str "end" t)
  g_ENOUGH : ∃ t, mg "ENOUGH" = some (.str "enough" t)
  g_GENERATE : ∃ t, mg "GENERATE" = some (.str "G" t)
  g_KILL : ∃ t, mg "KILL" = some (.str "K" t)
  g_PASS : ∃ t, mg "PASS" = some (.str "P" t)
  g_SHORT : ∃ t, mg "SHORT" = some (.str "short" t)
  g_STATES : ∃ a, mg "STATES" = some (.ref a) ∧ ∀ F : Hp, SqT K F a [V.str "G", V.str "K", V.str "P"]
def tr_Lpen : Tr := fun ds M P => ∃ x0 : D, ∃ r : List D, ds = [x0] ∧ F_Lpen x0 = some r ∧ (∀ q, M q = none → P (.adr q) (up M q (.lst r)))
theorem len_Lpen {ds M P} (t : tr_Lpen ds M P) : ds.length = 1 := by obtain ⟨_, _, rfl, _⟩ := t; rfl
set_option maxHeartbeats 0 in
theorem ok_Lpen {pg : Program} {w : World} {K : PySem.W.Frag} {mg : Str → Option Value} {base : Heap} (T : Txt K mg) : FnOk pg w K mg base CX0 1 (He.fAd K ("_law_pen", none)) T.d_Lpen.choose ["_law_script"] (SpD K tr_Lpen) :=
  fn_okD T.d_Lpen.choose_spec sc_Lpen (fun ds M P t => len_Lpen t) fun cdv A outer s H ds M P hr t => by
  obtain ⟨x0, r, rfl, hF, hk⟩ := t
  unfold F_Lpen at hF
  exact gx_seq (g1_ret (ex_less (ex_lstM (ax_cons (ex_ty T.b_list bb_list (ax_cons (ex_slice (ex_var 0 rfl (ox_none (ox_d (ex_int (bi hF fun i1 hi1 hF => ⟨_, _, .id, hi1, bi hF fun v2 hv2 hF => sd_dCut .id hv2 (ax_nil (bi hF fun l3 hl3 hF => cd_lList rfl .id hl3 (ax_cons (ex_int (ax_cons (ex_int (ax_nil (⟨le_b rfl, fun a4 ha4 => have fb_a4 := ha4; ⟨_, (sub_keep sub_refl), (by have e := so hF; cases e; exact hk a4 fb_a4)⟩⟩))))))))⟩))))))))))))
theorem ca_Lpen {X : Cx} {J : Gh} {e : Expr} {es : List Expr} {ρ : DEnv} {M : Mem} {P : D → Mem → Prop} {pos p : Pos} (T : Txt X.K X.mg) (hr : Room 1 X.A) (h : AX X J (e :: es) ρ M fun ds M1 => tr_Lpen (ds ++ []) M1 P) (hg : Gl X "_law_pen" := by rfl)
    (he : starEach (e :: es) X.env = (false, eval e X.env) :: starEach es X.env := by rfl) (hpl : (backTo pos (starEach es X.env)).any (·.1) = false := by rfl) : EX X J (.Call (.Name "_law_pen" p) (e :: es) [] pos) ρ M P :=
  ex_call (ok_Lpen T) hr T.m_Lpen T.d_Lpen.choose_spec.kp (T.d_Lpen.choose_spec.bindsN fun _ _ _ _ _ _ us hl => match us, hl with | [_], _ => rfl) .nil (fun _ => .nil) h hg (by decide) he hpl
def tr_Ldraw : Tr := fun ds M P => ∃ (p_0 : Addr) (x0 : List D), ∃ x1 : D, ∃ r : D × List D, ∃ W : D → Mem, ds = [.adr p_0, x1] ∧ M = W (.lst x0) ∧ (∀ z0, At (W z0) p_0 z0 (fun z => W z)) ∧ F_Ldraw x0 x1 = some r ∧ P r.1 (W (.lst r.2))
theorem len_Ldraw {ds M P} (t : tr_Ldraw ds M P) : ds.length = 2 := by obtain ⟨_, _, _, _, _, rfl, _⟩ := t; rfl
set_option maxHeartbeats 0 in
theorem ok_Ldraw {pg : Program} {w : World} {K : PySem.W.Frag} {mg : Str → Option Value} {base : Heap} (T : Txt K mg) : FnOk pg w K mg base CX0 1 (He.fAd K ("_law_draw", none)) T.d_Ldraw.choose ["_law_pen_here", "_law_bound"] (SpD K tr_Ldraw) :=
  fn_okD T.d_Ldraw.choose_spec sc_Ldraw (fun ds M P t => len_Ldraw t) fun cdv A outer s H ds M P hr t => by
  obtain ⟨p_0, x0, x1, r, W, rfl, rfl, hW0, hF, hk⟩ := t
  unfold F_Ldraw at hF
  refine gx_seq (g1_if (tx_cmp (ex_ix (ex_var 0 rfl (ex_int (bi hF fun v2 hv2 hF => id_dIx (.ad (hW0 _).get rfl) .id hv2 (ex_int (bi hF fun t3 ht3 hF => od_cGt .id .id ht3 (⟨_, rfl, ⟨fun q1 => ?_, fun q1 => ?_⟩⟩)))))))))
  · have hF := iT q1 hF
    refine gx_seq (g1_asg (ex_bin (ex_ix (ex_var 0 rfl (ex_int (bi hF fun v4 hv4 hF => id_dIx (.ad (hW0 _).get rfl) .id hv4 (ex_var 1 rfl (bi hF fun v5 hv5 hF => od_dMod .id .id hv5 (as_name 2 (?_) sc_Ldraw.nd)))))))))
    refine gx_seq (g1_setIxF (ex_bin (ex_ix (ex_var 0 rfl (ex_int (bi hF fun v6 hv6 hF => id_dIx (.ad (hW0 _).get rfl) .id hv6 (ex_var 1 rfl (bi hF fun v7 hv7 hF => od_dFdiv .id .id hv7 (ex_var 0 rfl (ex_int (bi hF fun l8 hl8 hF => ⟨_, _, _, l8, rfl, (hW0 _), hl8, ?_⟩)))))))))))
    exact gx_seq (g1_ret (ex_less (ex_var 2 rfl (⟨_, sub_refl, ret1 (W := W) (so hF) hk⟩))))
  · have hF := iF q1 hF
    refine gx_nil ?_
    show GX _ _ _ _ _ _
    refine gx_seq (g1_asg (ex_ix (ex_var 0 rfl (ex_int (bi hF fun v9 hv9 hF => id_dIx (.ad (hW0 _).get rfl) .id hv9 (as_name 3 (?_) sc_Ldraw.nd))))))
    refine gx_seq (g1_setIxF (ex_bin (ex_var 3 rfl (ex_int (bi hF fun v10 hv10 hF => od_dAdd .id .id hv10 (ex_var 0 rfl (ex_int (bi hF fun l11 hl11 hF => ⟨_, _, _, l11, rfl, (hW0 _), hl11, ?_⟩))))))))
    refine gx_seq (g1_asg (ex_bin (ex_bin (ex_int (ex_var 3 rfl (bi hF fun v12 hv12 hF => od_dMul .id .id hv12 (ex_int (bi hF fun v13 hv13 hF => od_dAdd .id .id hv13 (as_name 4 (?_) sc_Ldraw.nd)))))))))
    refine gx_seq (bi hF fun r15 hF hRr15 => g1_mid (fun ρ' M' => ∃ j0 : Option D, ∃ j1 : Option D, ∃ j2 : Option D, ρ' = [some (.adr p_0), some x1, j0, some v9, some r15, j1, j2] ∧ M' = (W (.lst l11))) (g1_if (tx_cmp (ex_ix (ex_var 0 rfl (ex_int (bi hF fun v16 hv16 hF => id_dIx (.ad (hW0 _).get rfl) .id hv16 (ex_lst (ax_nil (⟨le_b rfl, bi hF fun t17 ht17 hF => od_cNe hr.units .id .id ht17 (⟨_, rfl, ⟨fun q14 => ?_, fun q14 => ?_⟩⟩)⟩))))))))) ?_)
    · have hF := iT q14 hF
      refine gx_seq (g1_asg (ex_ix (ex_ix (ex_var 0 rfl (ex_int (bi hF fun v18 hv18 hF => id_dIx (.ad (hW0 _).get rfl) .id hv18 (ex_bin (ex_var 3 rfl (ex_blt T.b_len bb_len (ax_cons (ex_ix (ex_var 0 rfl (ex_int (bi hF fun v19 hv19 hF => id_dIx (.ad (hW0 _).get rfl) .id hv19 (ax_nil (bi hF fun v20 hv20 hF => cd_dLen .id hv20 (bi hF fun v21 hv21 hF => od_dMod .id .id hv21 (bi hF fun v22 hv22 hF => id_dIx .id .id hv22 (as_name 4 (?_) sc_Ldraw.nd)))))))))))))))))))
      cases hF
      exact gx_nil ⟨_, _, _, rfl, rfl⟩
    · have hF := iF q14 hF
      cases hF
      exact gx_nil ⟨_, _, _, rfl, rfl⟩
    · rintro _ _ ⟨_, _, _, rfl, rfl⟩
      have hF := hRr15
      try dsimp only at hF
      show GX _ _ _ _ _ _
      refine gx_seq (g1_if (bi hF fun t31 ht31 hF => tx_fix t31 (W (.lst l11)) (have hF := ht31; tx_pw (wx_and (tx_cmp (ex_var 3 rfl (ex_blt T.b_len bb_len (ax_cons (ex_ix (ex_var 0 rfl (ex_int (bi hF fun v25 hv25 hF => id_dIx (.ad (hW0 _).get rfl) .id hv25 (ax_nil (bi hF fun v26 hv26 hF => cd_dLen .id hv26 (bi hF fun t27 ht27 hF => od_cLt .id .id ht27 (⟨_, rfl, ⟨fun q24 => have hF := iT q24 hF; wx_and1 (tx_cmp (ex_blt T.b_abs bb_abs (ax_cons (ex_var 4 rfl (ax_nil (bi hF fun v28 hv28 hF => cd_dAbs .id hv28 (ex_bin (ex_int (ex_int (bi hF fun v29 hv29 hF => od_dPow .id .id hv29 (bi hF fun t30 ht30 hF => od_cGe .id .id ht30 (⟨_, rfl, ⟨so hF, rfl⟩⟩)))))))))))), fun q24 => ⟨so (iF q24 hF), rfl⟩⟩⟩)))))))))))))) (⟨fun q23 => ?_, fun q23 => ?_⟩)))
      · have hF := iT q23 hF
        refine gx_seq (g1_asg (ex_bin (ex_bin (ex_int (ex_blt T.b_abs bb_abs (ax_cons (ex_var 4 rfl (ax_nil (bi hF fun v32 hv32 hF => cd_dAbs .id hv32 (bi hF fun v33 hv33 hF => od_dMul .id .id hv33 (ex_ty T.b_int bb_int (ax_cons (ex_cmp (ex_var 4 rfl (ex_int (bi hF fun t34 ht34 hF => od_cLt .id .id ht34 (ax_nil (bi hF fun v35 hv35 hF => cd_dInt .id hv35 (bi hF fun v36 hv36 hF => od_dAdd .id .id hv36 (as_name 5 (?_) sc_Ldraw.nd))))))))))))))))))))
        refine gx_seq (g1_setIxF (ex_bin (ex_var 5 rfl (ex_var 1 rfl (bi hF fun v37 hv37 hF => od_dFdiv .id .id hv37 (ex_var 0 rfl (ex_int (bi hF fun l38 hl38 hF => ⟨_, _, _, l38, rfl, (hW0 _), hl38, ?_⟩))))))))
        exact gx_seq (g1_ret (ex_less (ex_bin (ex_var 5 rfl (ex_var 1 rfl (bi hF fun v39 hv39 hF => od_dMod .id .id hv39 (⟨_, sub_refl, ret1 (W := W) (so hF) hk⟩)))))))
      · have hF := iF q23 hF
        refine gx_nil ?_
        show GX _ _ _ _ _ _
        refine gx_seq (g1_asg (ex_bin (ex_bin (ex_bin (ex_bin (ex_bin (ex_var 4 rfl (ex_int (bi hF fun v40 hv40 hF => od_dMod .id .id hv40 (ex_bin (ex_int (ex_var 3 rfl (bi hF fun v41 hv41 hF => od_dMul .id .id hv41 (bi hF fun v42 hv42 hF => od_dAdd .id .id hv42 (ex_int (bi hF fun v43 hv43 hF => od_dAdd .id .id hv43 (ex_int (bi hF fun v44 hv44 hF => od_dPow .id .id hv44 (ex_int (bi hF fun v45 hv45 hF => od_dMod .id .id hv45 (as_name 6 (?_) sc_Ldraw.nd)))))))))))))))))))))
        refine gx_seq (g1_asg (ex_bin (ex_bin (ex_bin (ex_bin (ex_bin (ex_var 6 rfl (ex_bin (ex_var 3 rfl (ex_int (bi hF fun v46 hv46 hF => od_dAdd .id .id hv46 (bi hF fun v47 hv47 hF => od_dMul .id .id hv47 (ex_bin (ex_bin (ex_int (ex_var 3 rfl (bi hF fun v48 hv48 hF => od_dMul .id .id hv48 (ex_var 3 rfl (bi hF fun v49 hv49 hF => od_dMul .id .id hv49 (bi hF fun v50 hv50 hF => od_dAdd .id .id hv50 (ex_int (bi hF fun v51 hv51 hF => od_dAdd .id .id hv51 (ex_int (bi hF fun v52 hv52 hF => od_dPow .id .id hv52 (ex_int (bi hF fun v53 hv53 hF => od_dMod .id .id hv53 (as_name 6 (?_) sc_Ldraw.nd)))))))))))))))))))))))))))
        exact gx_seq (g1_ret (ex_less (ex_bin (ex_bin (ex_var 6 rfl (ex_int (bi hF fun v54 hv54 hF => od_dFdiv .id .id hv54 (ex_var 1 rfl (bi hF fun v55 hv55 hF => od_dMod .id .id hv55 (⟨_, sub_refl, ret1 (W := W) (so hF) hk⟩))))))))))
theorem ca_Ldraw {X : Cx} {J : Gh} {e : Expr} {es : List Expr} {ρ : DEnv} {M : Mem} {P : D → Mem → Prop} {pos p : Pos} (T : Txt X.K X.mg) (hr : Room 1 X.A) (h : AX X J (e :: es) ρ M fun ds M1 => tr_Ldraw (ds ++ []) M1 P) (hg : Gl X "_law_draw" := by rfl)
    (he : starEach (e :: es) X.env = (false, eval e X.env) :: starEach es X.env := by rfl) (hpl : (backTo pos (starEach es X.env)).any (·.1) = false := by rfl) : EX X J (.Call (.Name "_law_draw" p) (e :: es) [] pos) ρ M P :=
  ex_call (ok_Ldraw T) hr T.m_Ldraw T.d_Ldraw.choose_spec.kp (T.d_Ldraw.choose_spec.bindsN fun _ _ _ _ _ _ us hl => match us, hl with | [_, _], _ => rfl) .nil (fun _ => .nil) h hg (by decide) he hpl
def tr_Lmode : Tr := fun ds M P => ∃ (p_0 : Addr) (x0 : List D), ∃ r : D × List D, ∃ W : D → Mem, ds = [.adr p_0] ∧ M = W (.lst x0) ∧ (∀ z0, At (W z0) p_0 z0 (fun z => W z)) ∧ F_Lmode x0 = some r ∧ P r.1 (W (.lst r.2))
theorem len_Lmode {ds M P} (t : tr_Lmode ds M P) : ds.length = 1 := by obtain ⟨_, _, _, _, rfl, _⟩ := t; rfl
set_option maxHeartbeats 0 in
theorem ok_Lmode {pg : Program} {w : World} {K : PySem.W.Frag} {mg : Str → Option Value} {base : Heap} (T : Txt K mg) : FnOk pg w K mg base CX0 2 (He.fAd K ("_law_mode", none)) T.d_Lmode.choose ["_law_pen_here"] (SpD K tr_Lmode) :=
  fn_okD T.d_Lmode.choose_spec sc_Lmode (fun ds M P t => len_Lmode t) fun cdv A outer s H ds M P hr t => by
  obtain ⟨p_0, x0, r, W, rfl, rfl, hW0, hF, hk⟩ := t
  unfold F_Lmode at hF
  exact gx_seq (g1_ret (ex_less (ex_tup (ax_cons (ex_cmp (ca_Ldraw T (hr.mono (by decide)) (ax_cons (ex_var 0 rfl (ax_cons (ex_int (ax_nil (bi hF fun v1 hv1 hF => ⟨p_0, x0, _, v1, (fun w0 => (W w0)), rfl, rfl, fun _ => (hW0 _), hv1, ex_int (bi hF fun t2 ht2 hF => od_cEq hr.units .id .id ht2 (ax_cons (ex_cmp (ca_Ldraw T (hr.mono (by decide)) (ax_cons (ex_var 0 rfl (ax_cons (ex_int (ax_nil (bi hF fun v3 hv3 hF => ⟨p_0, v1.2, _, v3, (fun w0 => (W w0)), rfl, rfl, fun _ => (hW0 _), hv3, ex_int (bi hF fun t4 ht4 hF => od_cEq hr.units .id .id ht4 (ax_nil (⟨le_b rfl, ⟨_, sub_refl, ret1 (W := W) (so hF) hk⟩⟩)))⟩))))))))))⟩))))))))))))
theorem ca_Lmode {X : Cx} {J : Gh} {e : Expr} {es : List Expr} {ρ : DEnv} {M : Mem} {P : D → Mem → Prop} {pos p : Pos} (T : Txt X.K X.mg) (hr : Room 2 X.A) (h : AX X J (e :: es) ρ M fun ds M1 => tr_Lmode (ds ++ []) M1 P) (hg : Gl X "_law_mode" := by rfl)
    (he : starEach (e :: es) X.env = (false, eval e X.env) :: starEach es X.env := by rfl) (hpl : (backTo pos (starEach es X.env)).any (·.1) = false := by rfl) : EX X J (.Call (.Name "_law_mode" p) (e :: es) [] pos) ρ M P :=
  ex_call (ok_Lmode T) hr T.m_Lmode T.d_Lmode.choose_spec.kp (T.d_Lmode.choose_spec.bindsN fun _ _ _ _ _ _ us hl => match us, hl with | [_], _ => rfl) .nil (fun _ => .nil) h hg (by decide) he hpl
def tr_output_positions : Tr := fun ds M P => ∃ x0 : D, ∃ x1 : D, ∃ r : D, ds = [x0, x1] ∧ F_output_positions x0 x1 = some r ∧ P r M
theorem len_output_positions {ds M P} (t : tr_output_positions ds M P) : ds.length = 2 := by obtain ⟨_, _, _, rfl, _⟩ := t; rfl
set_option maxHeartbeats 0 in
theorem ok_output_positions {pg : Program} {w : World} {K : PySem.W.Frag} {mg : Str → Option Value} {base : Heap} (T : Txt K mg) : FnOk pg w K mg base CX0 1 (He.fAd K ("output_positions", none)) T.d_output_positions.choose ["n", "ring"] (SpD K tr_output_positions) :=
  fn_okD T.d_output_positions.choose_spec sc_output_positions (fun ds M P t => len_output_positions t) fun cdv A outer s H ds M P hr t => by
  obtain ⟨x0, x1, r, rfl, hF, hk⟩ := t
  unfold F_output_positions at hF
  exact gx_seq (g1_ret (ex_less (ex_tupRF rfl T.b_tuple T.b_range (ax_cons (ex_ty T.b_int bb_int (ax_cons (ex_var 1 rfl (ax_nil (bi hF fun v1 hv1 hF => cd_dInt .id hv1 (ax_cons (ex_bin (ex_var 0 rfl (ex_int (bi hF fun v2 hv2 hF => od_dAdd .id .id hv2 (ax_nil (bi hF fun l3 hl3 hF => ⟨l3, hl3, (by intro i j c e; first | (cases e; rfl) | (cases e; done)), ⟨_, sub_refl, ret0 (so hF) hk⟩⟩))))))))))))))))
theorem ca_output_positions {X : Cx} {J : Gh} {e : Expr} {es : List Expr} {ρ : DEnv} {M : Mem} {P : D → Mem → Prop} {pos p : Pos} (T : Txt X.K X.mg) (hr : Room 1 X.A) (h : AX X J (e :: es) ρ M fun ds M1 => tr_output_positions (ds ++ []) M1 P) (hg : Gl X "output_positions" := by rfl)
    (he : starEach (e :: es) X.env = (false, eval e X.env) :: starEach es X.env := by rfl) (hpl : (backTo pos (starEach es X.env)).any (·.1) = false := by rfl) : EX X J (.Call (.Name "output_positions" p) (e :: es) [] pos) ρ M P :=
  ex_call (ok_output_positions T) hr T.m_output_positions T.d_output_positions.choose_spec.kp (T.d_output_positions.choose_spec.bindsN fun _ _ _ _ _ _ us hl => match us, hl with | [_, _], _ => rfl) .nil (fun _ => .nil) h hg (by decide) he hpl
def tr_outputs_asked : Tr := fun ds M P => ∃ x0 : D, ∃ x1 : D, ∃ x2 : D, ∃ r : D, ds = [x0, x1, x2] ∧ F_outputs_asked x0 x1 x2 = some r ∧ P r M
theorem len_outputs_asked {ds M P} (t : tr_outputs_asked ds M P) : ds.length = 3 := by obtain ⟨_, _, _, _, rfl, _⟩ := t; rfl
set_option maxHeartbeats 0 in
theorem ok_outputs_asked {pg : Program} {w : World} {K : PySem.W.Frag} {mg : Str → Option Value} {base : Heap} (T : Txt K mg) : FnOk pg w K mg base CX0 2 (He.fAd K ("outputs_asked", none)) T.d_outputs_asked.choose ["n", "outputs", "ring"] (SpD K tr_outputs_asked) :=
  fn_okD T.d_outputs_asked.choose_spec sc_outputs_asked (fun ds M P t => len_outputs_asked t) fun cdv A outer s H ds M P hr t => by
  obtain ⟨x0, x1, x2, r, rfl, hF, hk⟩ := t
  unfold F_outputs_asked at hF
  exact gx_seq (g1_ret (ex_less (bi hF fun v5 hv5 hF => ex_fix v5 M (have hF := hv5; ex_if (tx_cmp (ex_var 1 rfl (ex_non (bi hF fun t1 ht1 hF => od_cIs .id .id ht1 (⟨_, rfl, ⟨fun q4 => have hF := iT q4 hF; ca_output_positions T (hr.mono (by decide)) (ax_cons (ex_var 0 rfl (ax_cons (ex_var 2 rfl (ax_nil (bi hF fun v2 hv2 hF => ⟨_, _, v2, rfl, hv2, ⟨so hF, rfl⟩⟩)))))), fun q4 => have hF := iF q4 hF; ex_ty T.b_tuple bb_tuple (ax_cons (ex_var 1 rfl (ax_nil (bi hF fun l3 hl3 hF => cd_lTuple rfl .id hl3 (⟨so hF, rfl⟩)))))⟩⟩)))))) (⟨_, sub_refl, ret0 (so hF) hk⟩))))
theorem ca_outputs_asked {X : Cx} {J : Gh} {e : Expr} {es : List Expr} {ρ : DEnv} {M : Mem} {P : D → Mem → Prop} {pos p : Pos} (T : Txt X.K X.mg) (hr : Room 2 X.A) (h : AX X J (e :: es) ρ M fun ds M1 => tr_outputs_asked (ds ++ []) M1 P) (hg : Gl X "outputs_asked" := by rfl)
    (he : starEach (e :: es) X.env = (false, eval e X.env) :: starEach es X.env := by rfl) (hpl : (backTo pos (starEach es X.env)).any (·.1) = false := by rfl) : EX X J (.Call (.Name "outputs_asked" p) (e :: es) [] pos) ρ M P :=
  ex_call (ok_outputs_asked T) hr T.m_outputs_asked T.d_outputs_asked.choose_spec.kp (T.d_outputs_asked.choose_spec.bindsN fun _ _ _ _ _ _ us hl => match us, hl with | [_, _, _], _ => rfl) .nil (fun _ => .nil) h hg (by decide) he hpl
def tr_is_letter : Tr := fun ds M P => ∃ x0 : D, ∃ r : D, ds = [x0] ∧ F_is_letter x0 = some r ∧ P r M
theorem len_is_letter {ds M P} (t : tr_is_letter ds M P) : ds.length = 1 := by obtain ⟨_, _, rfl, _⟩ := t; rfl
set_option maxHeartbeats 0 in
theorem ok_is_letter {pg : Program} {w : World} {K : PySem.W.Frag} {mg : Str → Option Value} {base : Heap} (T : Txt K mg) : FnOk pg w K mg base CX0 1 (He.fAd K ("is_letter", none)) T.d_is_letter.choose ["thing"] (SpD K tr_is_letter) :=
  fn_okD T.d_is_letter.choose_spec sc_is_letter (fun ds M P t => len_is_letter t) fun cdv A outer s H ds M P hr t => by
  obtain ⟨x0, r, rfl, hF, hk⟩ := t
  unfold F_is_letter at hF
  exact gx_seq (g1_ret (ex_less (bi hF fun v5 hv5 hF => ex_fix v5 M (have hF := hv5; ex_andT (ex_blt T.b_isinstance bb_isi (ax_cons (ex_var 0 rfl (ax_cons (ex_tyn T.b_str bb_str (ax_nil (bi hF fun t2 ht2 hF => cd_dIsi (by decide) .id rfl ht2 (bi hF fun t3 ht3 hF => ⟨_, _, .id, ht3, fun q1 => have hF := iT q1 hF; ex_one (ex_cmp (ex_var 0 rfl (ex_tup (ax_cons (ex_gstr T.g_GENERATE (ax_cons (ex_gstr T.g_KILL (ax_nil (⟨le_b rfl, bi hF fun t4 ht4 hF => od_cIn .id .id ht4 (⟨so hF, rfl⟩)⟩))))))))), fun q1 => ⟨so (iF q1 hF), rfl⟩⟩))))))))) (⟨_, sub_refl, ret0 (so hF) hk⟩))))
theorem ca_is_letter {X : Cx} {J : Gh} {e : Expr} {es : List Expr} {ρ : DEnv} {M : Mem} {P : D → Mem → Prop} {pos p : Pos} (T : Txt X.K X.mg) (hr : Room 1 X.A) (h : AX X J (e :: es) ρ M fun ds M1 => tr_is_letter (ds ++ []) M1 P) (hg : Gl X "is_letter" := by rfl)
    (he : starEach (e :: es) X.env = (false, eval e X.env) :: starEach es X.env := by rfl) (hpl : (backTo pos (starEach es X.env)).any (·.1) = false := by rfl) : EX X J (.Call (.Name "is_letter" p) (e :: es) [] pos) ρ M P :=
  ex_call (ok_is_letter T) hr T.m_is_letter T.d_is_letter.choose_spec.kp (T.d_is_letter.choose_spec.bindsN fun _ _ _ _ _ _ us hl => match us, hl with | [_], _ => rfl) .nil (fun _ => .nil) h hg (by decide) he hpl
def tr_state_at : Tr := fun ds M P => ∃ x0 : D, ∃ x1 : D, ∃ r : D, ds = [x0, x1] ∧ F_state_at x0 x1 = some r ∧ P r M
theorem len_state_at {ds M P} (t : tr_state_at ds M P) : ds.length = 2 := by obtain ⟨_, _, _, rfl, _⟩ := t; rfl
set_option maxHeartbeats 0 in
theorem ok_state_at {pg : Program} {w : World} {K : PySem.W.Frag} {mg : Str → Option Value} {base : Heap} (T : Txt K mg) : FnOk pg w K mg base CX0 1 (He.fAd K ("state_at", none)) T.d_state_at.choose ["trial", "position"] (SpD K tr_state_at) :=
  fn_okD T.d_state_at.choose_spec sc_state_at (fun ds M P t => len_state_at t) fun cdv A outer s H ds M P hr t => by
  obtain ⟨x0, x1, r, rfl, hF, hk⟩ := t
  unfold F_state_at at hF
  exact gx_seq (g1_ret (ex_less (ex_ix (ex_var 0 rfl (ex_bin (ex_bin (ex_blt T.b_len bb_len (ax_cons (ex_var 0 rfl (ax_nil (bi hF fun v1 hv1 hF => cd_dLen .id hv1 (ex_int (bi hF fun v2 hv2 hF => od_dSub .id .id hv2 (ex_var 1 rfl (bi hF fun v3 hv3 hF => od_dSub .id .id hv3 (bi hF fun v4 hv4 hF => id_dIx .id .id hv4 (⟨_, sub_refl, ret0 (so hF) hk⟩)))))))))))))))))
theorem ca_state_at {X : Cx} {J : Gh} {e : Expr} {es : List Expr} {ρ : DEnv} {M : Mem} {P : D → Mem → Prop} {pos p : Pos} (T : Txt X.K X.mg) (hr : Room 1 X.A) (h : AX X J (e :: es) ρ M fun ds M1 => tr_state_at (ds ++ []) M1 P) (hg : Gl X "state_at" := by rfl)
    (he : starEach (e :: es) X.env = (false, eval e X.env) :: starEach es X.env := by rfl) (hpl : (backTo pos (starEach es X.env)).any (·.1) = false := by rfl) : EX X J (.Call (.Name "state_at" p) (e :: es) [] pos) ρ M P :=
  ex_call (ok_state_at T) hr T.m_state_at T.d_state_at.choose_spec.kp (T.d_state_at.choose_spec.bindsN fun _ _ _ _ _ _ us hl => match us, hl with | [_, _], _ => rfl) .nil (fun _ => .nil) h hg (by decide) he hpl
def tr_carry_of : Tr := fun ds M P => ∃ x0 : D, ∃ r : D, ds = [x0] ∧ F_carry_of x0 = some r ∧ P r M
theorem len_carry_of {ds M P} (t : tr_carry_of ds M P) : ds.length = 1 := by obtain ⟨_, _, rfl, _⟩ := t; rfl
set_option maxHeartbeats 0 in
theorem ok_carry_of {pg : Program} {w : World} {K : PySem.W.Frag} {mg : Str → Option Value} {base : Heap} (T : Txt K mg) : FnOk pg w K mg base CX0 1 (He.fAd K ("carry_of", none)) T.d_carry_of.choose ["state"] (SpD K tr_carry_of) :=
  fn_okD T.d_carry_of.choose_spec sc_carry_of (fun ds M P t => len_carry_of t) fun cdv A outer s H ds M P hr t => by
  obtain ⟨x0, r, rfl, hF, hk⟩ := t
  unfold F_carry_of at hF
  exact gx_seq (g1_ret (ex_less (ex_ty T.b_int bb_int (ax_cons (ex_cmp (ex_var 0 rfl (ex_gstr T.g_GENERATE (bi hF fun t1 ht1 hF => od_cEq hr.units .id .id ht1 (ax_nil (bi hF fun v2 hv2 hF => cd_dInt .id hv2 (⟨_, sub_refl, ret0 (so hF) hk⟩)))))))))))
theorem ca_carry_of {X : Cx} {J : Gh} {e : Expr} {es : List Expr} {ρ : DEnv} {M : Mem} {P : D → Mem → Prop} {pos p : Pos} (T : Txt X.K X.mg) (hr : Room 1 X.A) (h : AX X J (e :: es) ρ M fun ds M1 => tr_carry_of (ds ++ []) M1 P) (hg : Gl X "carry_of" := by rfl)
    (he : starEach (e :: es) X.env = (false, eval e X.env) :: starEach es X.env := by rfl) (hpl : (backTo pos (starEach es X.env)).any (·.1) = false := by rfl) : EX X J (.Call (.Name "carry_of" p) (e :: es) [] pos) ρ M P :=
  ex_call (ok_carry_of T) hr T.m_carry_of T.d_carry_of.choose_spec.kp (T.d_carry_of.choose_spec.bindsN fun _ _ _ _ _ _ us hl => match us, hl with | [_], _ => rfl) .nil (fun _ => .nil) h hg (by decide) he hpl
def tr_row_carry : Tr := fun ds M P => ∃ x0 : D, ∃ x1 : D, ∃ r : D, ds = [x0, x1] ∧ F_row_carry x0 x1 = some r ∧ P r M
theorem len_row_carry {ds M P} (t : tr_row_carry ds M P) : ds.length = 2 := by obtain ⟨_, _, _, rfl, _⟩ := t; rfl
set_option maxHeartbeats 0 in
theorem ok_row_carry {pg : Program} {w : World} {K : PySem.W.Frag} {mg : Str → Option Value} {base : Heap} (T : Txt K mg) : FnOk pg w K mg base CX0 2 (He.fAd K ("row_carry", none)) T.d_row_carry.choose ["row", "trial"] (SpD K tr_row_carry) :=
  fn_okD T.d_row_carry.choose_spec sc_row_carry (fun ds M P t => len_row_carry t) fun cdv A outer s H ds M P hr t => by
  obtain ⟨x0, x1, r, rfl, hF, hk⟩ := t
  unfold F_row_carry at hF
  refine gx_seq (g1_for PassesOwn.never rfl (bi hF fun l1 hl1 hF => ix_seqU (M2 := M) (ex_var 0 rfl (⟨rfl, rfl⟩)) hl1 (bi hF fun c5 hlc5 hOc5 => forC hlc5 (fun s2 ρ' M' => ∃ j0 : Option D, ∃ j1 : Option D, ρ' = [some x0, some x1, j0, j1] ∧ M' = M) ⟨_, _, rfl, rfl⟩ ?_ ?_)))
  · rintro x4 s2 b6 hF hbb6 _ M ⟨_, _, rfl, rfl⟩
    try dsimp only at hF
    refine as_name 2 (?_) sc_row_carry.nd
    refine gx_seq (g1_asg (bi hF fun v11 hv11 hF => ex_fix v11 M (have hF := hv11; ex_if (tx_tru (ca_is_letter T (hr.mono (by decide)) (ax_cons (ex_var 2 rfl (ax_nil (bi hF fun v7 hv7 hF => ⟨_, v7, rfl, hv7, bi hF fun t8 ht8 hF => ⟨_, _, .id, ht8, ⟨fun q10 => have hF := iT q10 hF; ex_var 2 rfl (⟨so hF, rfl⟩), fun q10 => have hF := iF q10 hF; ca_state_at T (hr.mono (by decide)) (ax_cons (ex_var 1 rfl (ax_cons (ex_var 2 rfl (ax_nil (bi hF fun v9 hv9 hF => ⟨_, _, v9, rfl, hv9, ⟨so hF, rfl⟩⟩))))))⟩⟩⟩))))))) (as_name 3 (?_) sc_row_carry.nd)))
    refine gx_seq (g1_if (tx_cmp (ex_var 3 rfl (ex_gstr T.g_PASS (bi hF fun t13 ht13 hF => od_cNe hr.units .id .id ht13 (⟨_, rfl, ⟨fun q12 => ?_, fun q12 => ?_⟩⟩))))))
    · have hF := iT q12 hF
      exact gx_seq (g1_ret (ex_less (ca_carry_of T (hr.mono (by decide)) (ax_cons (ex_var 3 rfl (ax_nil (bi hF fun v14 hv14 hF => ⟨_, v14, rfl, hv14, ⟨_, sub_refl, ret0 (so (ctl_retS hOc5 (hbb6 _ (so hF).symm))) hk⟩⟩)))))))
    · have hF := iF q12 hF
      refine gx_nil ?_
      show GX _ _ _ _ _ _
      exact gx_nil ⟨_, (so hF).symm, ⟨_, _, rfl, rfl⟩⟩
  · rintro r3 hg _ M ⟨_, _, rfl, rfl⟩
    have hF := ctl_go hOc5 hg
    try dsimp only at hF
    show GX _ _ _ _ _ _
    exact gx_seq (g1_ret (ex_less (ex_int (⟨_, sub_refl, ret0 (so hF) hk⟩))))
theorem ca_row_carry {X : Cx} {J : Gh} {e : Expr} {es : List Expr} {ρ : DEnv} {M : Mem} {P : D → Mem → Prop} {pos p : Pos} (T : Txt X.K X.mg) (hr : Room 2 X.A) (h : AX X J (e :: es) ρ M fun ds M1 => tr_row_carry (ds ++ []) M1 P) (hg : Gl X "row_carry" := by rfl)
    (he : starEach (e :: es) X.env = (false, eval e X.env) :: starEach es X.env := by rfl) (hpl : (backTo pos (starEach es X.env)).any (·.1) = false := by rfl) : EX X J (.Call (.Name "row_carry" p) (e :: es) [] pos) ρ M P :=
  ex_call (ok_row_carry T) hr T.m_row_carry T.d_row_carry.choose_spec.kp (T.d_row_carry.choose_spec.bindsN fun _ _ _ _ _ _ us hl => match us, hl with | [_, _], _ => rfl) .nil (fun _ => .nil) h hg (by decide) he hpl
def tr_first_state : Tr := fun ds M P => ∃ x0 : D, ∃ x1 : D, ∃ r : D, ds = [x0, x1] ∧ F_first_state x0 x1 = some r ∧ P r M
theorem len_first_state {ds M P} (t : tr_first_state ds M P) : ds.length = 2 := by obtain ⟨_, _, _, rfl, _⟩ := t; rfl
set_option maxHeartbeats 0 in
theorem ok_first_state {pg : Program} {w : World} {K : PySem.W.Frag} {mg : Str → Option Value} {base : Heap} (T : Txt K mg) : FnOk pg w K mg base CX0 2 (He.fAd K ("first_state", none)) T.d_first_state.choose ["trial", "positions"] (SpD K tr_first_state) :=
  fn_okD T.d_first_state.choose_spec sc_first_state (fun ds M P t => len_first_state t) fun cdv A outer s H ds M P hr t => by
  obtain ⟨x0, x1, r, rfl, hF, hk⟩ := t
  unfold F_first_state at hF
  refine gx_seq (g1_for PassesOwn.never rfl (bi hF fun l1 hl1 hF => ix_seqU (M2 := M) (ex_var 1 rfl (⟨rfl, rfl⟩)) hl1 (bi hF fun c5 hlc5 hOc5 => forC hlc5 (fun s2 ρ' M' => ∃ j0 : Option D, ρ' = [some x0, some x1, j0] ∧ M' = M) ⟨_, rfl, rfl⟩ ?_ ?_)))
  · rintro x4 s2 b6 hF hbb6 _ M ⟨_, rfl, rfl⟩
    try dsimp only at hF
    refine as_name 2 (?_) sc_first_state.nd
    refine gx_seq (g1_if (tx_cmp (ca_state_at T (hr.mono (by decide)) (ax_cons (ex_var 0 rfl (ax_cons (ex_var 2 rfl (ax_nil (bi hF fun v8 hv8 hF => ⟨_, _, v8, rfl, hv8, ex_gstr T.g_PASS (bi hF fun t9 ht9 hF => od_cNe hr.units .id .id ht9 (⟨_, rfl, ⟨fun q7 => ?_, fun q7 => ?_⟩⟩))⟩)))))))))
    · have hF := iT q7 hF
      exact gx_seq (g1_ret (ex_less (ca_state_at T (hr.mono (by decide)) (ax_cons (ex_var 0 rfl (ax_cons (ex_var 2 rfl (ax_nil (bi hF fun v10 hv10 hF => ⟨_, _, v10, rfl, hv10, ⟨_, sub_refl, ret0 (so (ctl_retS hOc5 (hbb6 _ (so hF).symm))) hk⟩⟩)))))))))
    · have hF := iF q7 hF
      refine gx_nil ?_
      show GX _ _ _ _ _ _
      exact gx_nil ⟨_, (so hF).symm, ⟨_, rfl, rfl⟩⟩
  · rintro r3 hg _ M ⟨_, rfl, rfl⟩
    have hF := ctl_go hOc5 hg
    try dsimp only at hF
    show GX _ _ _ _ _ _
    exact gx_seq (g1_ret (ex_less (ex_gstr T.g_PASS (⟨_, sub_refl, ret0 (so hF) hk⟩))))
theorem ca_first_state {X : Cx} {J : Gh} {e : Expr} {es : List Expr} {ρ : DEnv} {M : Mem} {P : D → Mem → Prop} {pos p : Pos} (T : Txt X.K X.mg) (hr : Room 2 X.A) (h : AX X J (e :: es) ρ M fun ds M1 => tr_first_state (ds ++ []) M1 P) (hg : Gl X "first_state" := by rfl)
    (he : starEach (e :: es) X.env = (false, eval e X.env) :: starEach es X.env := by rfl) (hpl : (backTo pos (starEach es X.env)).any (·.1) = false := by rfl) : EX X J (.Call (.Name "first_state" p) (e :: es) [] pos) ρ M P :=
  ex_call (ok_first_state T) hr T.m_first_state T.d_first_state.choose_spec.kp (T.d_first_state.choose_spec.bindsN fun _ _ _ _ _ _ us hl => match us, hl with | [_, _], _ => rfl) .nil (fun _ => .nil) h hg (by decide) he hpl
def tr_due_positions : Tr := fun ds M P => ∃ x0 : D, ∃ x1 : D, ∃ x2 : D, ∃ r : D, ds = [x0, x1, x2] ∧ F_due_positions x0 x1 x2 = some r ∧ P r M
theorem len_due_positions {ds M P} (t : tr_due_positions ds M P) : ds.length = 3 := by obtain ⟨_, _, _, _, rfl, _⟩ := t; rfl
set_option maxHeartbeats 0 in
theorem ok_due_positions {pg : Program} {w : World} {K : PySem.W.Frag} {mg : Str → Option Value} {base : Heap} (T : Txt K mg) : FnOk pg w K mg base CX0 1 (He.fAd K ("due_positions", none)) T.d_due_positions.choose ["n", "output", "ring"] (SpD K tr_due_positions) :=
  fn_okD T.d_due_positions.choose_spec sc_due_positions (fun ds M P t => len_due_positions t) fun cdv A outer s H ds M P hr t => by
  obtain ⟨x0, x1, x2, r, rfl, hF, hk⟩ := t
  unfold F_due_positions at hF
  refine gx_seq (g1_if (tx_not (tx_tru (ex_var 2 rfl (bi hF fun t2 ht2 hF => ⟨_, _, .id, ht2, ⟨fun q1 => ?_, fun q1 => ?_⟩⟩)))))
  · have hF := iT q1 hF
    exact gx_seq (g1_ret (ex_less (ex_tupRF rfl T.b_tuple T.b_range (ax_cons (ex_var 1 rfl (ax_cons (ex_dNeg (ex_int ⟨_, _, .id, rfl, ax_cons (ex_dNeg (ex_int ⟨_, _, .id, rfl, ax_nil (bi hF fun l3 hl3 hF => ⟨l3, hl3, (by intro i j c e; first | (cases e; rfl) | (cases e; done)), ⟨_, sub_refl, ret0 (so hF) hk⟩⟩)⟩))⟩))))))))
  · have hF := iF q1 hF
    refine gx_nil ?_
    show GX _ _ _ _ _ _
    exact gx_seq (g1_ret (ex_less (ex_ty T.b_tuple bb_tuple (ax_cons (ex_bin (ex_lstRF rfl T.b_list T.b_range (ax_cons (ex_var 1 rfl (ax_cons (ex_int (ax_cons (ex_dNeg (ex_int ⟨_, _, .id, rfl, ax_nil (bi hF fun l4 hl4 hF => ⟨l4, hl4, (by intro i j c e; first | (cases e; rfl) | (cases e; done)), ex_lstRF rfl T.b_list T.b_range (ax_cons (ex_var 0 rfl (ax_cons (ex_var 1 rfl (ax_cons (ex_dNeg (ex_int ⟨_, _, .id, rfl, ax_nil (bi hF fun l5 hl5 hF => ⟨l5, hl5, (by intro i j c e; first | (cases e; rfl) | (cases e; done)), bi hF fun v6 hv6 hF => od_dAdd .id .id hv6 (ax_nil (bi hF fun l7 hl7 hF => cd_lTuple rfl .id hl7 (⟨_, sub_refl, ret0 (so hF) hk⟩)))⟩)⟩)))))))⟩)⟩)))))))))))))
theorem ca_due_positions {X : Cx} {J : Gh} {e : Expr} {es : List Expr} {ρ : DEnv} {M : Mem} {P : D → Mem → Prop} {pos p : Pos} (T : Txt X.K X.mg) (hr : Room 1 X.A) (h : AX X J (e :: es) ρ M fun ds M1 => tr_due_positions (ds ++ []) M1 P) (hg : Gl X "due_positions" := by rfl)
    (he : starEach (e :: es) X.env = (false, eval e X.env) :: starEach es X.env := by rfl) (hpl : (backTo pos (starEach es X.env)).any (·.1) = false := by rfl) : EX X J (.Call (.Name "due_positions" p) (e :: es) [] pos) ρ M P :=
  ex_call (ok_due_positions T) hr T.m_due_positions T.d_due_positions.choose_spec.kp (T.d_due_positions.choose_spec.bindsN fun _ _ _ _ _ _ us hl => match us, hl with | [_, _, _], _ => rfl) .nil (fun _ => .nil) h hg (by decide) he hpl
def tr_true_carry : Tr := fun ds M P => ∃ x0 : D, ∃ x1 : D, ∃ r : D, ds = [x0, x1] ∧ F_true_carry x0 x1 = some r ∧ P r M
theorem len_true_carry {ds M P} (t : tr_true_carry ds M P) : ds.length = 2 := by obtain ⟨_, _, _, rfl, _⟩ := t; rfl
set_option maxHeartbeats 0 in
theorem ok_true_carry {pg : Program} {w : World} {K : PySem.W.Frag} {mg : Str → Option Value} {base : Heap} (T : Txt K mg) : FnOk pg w K mg base CX0 3 (He.fAd K ("true_carry", none)) T.d_true_carry.choose ["trial", "output"] (SpD K tr_true_carry) :=
  fn_okD T.d_true_carry.choose_spec sc_true_carry (fun ds M P t => len_true_carry t) fun cdv A outer s H ds M P hr t => by
  obtain ⟨x0, x1, r, rfl, hF, hk⟩ := t
  unfold F_true_carry at hF
  refine gx_seq (g1_asg (ex_cmp (ca_state_at T (hr.mono (by decide)) (ax_cons (ex_var 0 rfl (ax_cons (ex_int (ax_nil (bi hF fun v1 hv1 hF => ⟨_, _, v1, rfl, hv1, ex_gstr T.g_PASS (bi hF fun t2 ht2 hF => od_cEq hr.units .id .id ht2 (as_name 2 (?_) sc_true_carry.nd))⟩)))))))))
  exact gx_seq (g1_ret (ex_less (ca_carry_of T (hr.mono (by decide)) (ax_cons (ca_first_state T (hr.mono (by decide)) (ax_cons (ex_var 0 rfl (ax_cons (ca_due_positions T (hr.mono (by decide)) (ax_cons (ex_bin (ex_blt T.b_len bb_len (ax_cons (ex_var 0 rfl (ax_nil (bi hF fun v3 hv3 hF => cd_dLen .id hv3 (ex_int (bi hF fun v4 hv4 hF => od_dSub .id .id hv4 (ax_cons (ex_var 1 rfl (ax_cons (ex_var 2 rfl (ax_nil (bi hF fun v5 hv5 hF => ⟨_, _, _, v5, rfl, hv5, ax_nil (bi hF fun v6 hv6 hF => ⟨_, _, v6, rfl, hv6, ax_nil (bi hF fun v7 hv7 hF => ⟨_, v7, rfl, hv7, ⟨_, sub_refl, ret0 (so hF) hk⟩⟩)⟩)⟩))))))))))))))))))))))))
theorem ca_true_carry {X : Cx} {J : Gh} {e : Expr} {es : List Expr} {ρ : DEnv} {M : Mem} {P : D → Mem → Prop} {pos p : Pos} (T : Txt X.K X.mg) (hr : Room 3 X.A) (h : AX X J (e :: es) ρ M fun ds M1 => tr_true_carry (ds ++ []) M1 P) (hg : Gl X "true_carry" := by rfl)
    (he : starEach (e :: es) X.env = (false, eval e X.env) :: starEach es X.env := by rfl) (hpl : (backTo pos (starEach es X.env)).any (·.1) = false := by rfl) : EX X J (.Call (.Name "true_carry" p) (e :: es) [] pos) ρ M P :=
  ex_call (ok_true_carry T) hr T.m_true_carry T.d_true_carry.choose_spec.kp (T.d_true_carry.choose_spec.bindsN fun _ _ _ _ _ _ us hl => match us, hl with | [_, _], _ => rfl) .nil (fun _ => .nil) h hg (by decide) he hpl
def tr_is_between : Tr := fun ds M P => ∃ x0 : D, ∃ x1 : D, ∃ x2 : D, ∃ r : D, ds = [x0, x1, x2] ∧ F_is_between x0 x1 x2 = some r ∧ P r M
theorem len_is_between {ds M P} (t : tr_is_between ds M P) : ds.length = 3 := by obtain ⟨_, _, _, _, rfl, _⟩ := t; rfl
set_option maxHeartbeats 0 in
theorem ok_is_between {pg : Program} {w : World} {K : PySem.W.Frag} {mg : Str → Option Value} {base : Heap} (T : Txt K mg) : FnOk pg w K mg base CX0 1 (He.fAd K ("is_between", none)) T.d_is_between.choose ["value", "least", "most"] (SpD K tr_is_between) :=
  fn_okD T.d_is_between.choose_spec sc_is_between (fun ds M P t => len_is_between t) fun cdv A outer s H ds M P hr t => by
  obtain ⟨x0, x1, x2, r, rfl, hF, hk⟩ := t
  unfold F_is_between at hF
  exact gx_seq (g1_ret (ex_less (bi hF fun v11 hv11 hF => ex_fix v11 M (have hF := hv11; ex_andT (ex_blt T.b_isinstance bb_isi (ax_cons (ex_var 0 rfl (ax_cons (ex_tyn T.b_int bb_int (ax_nil (bi hF fun t2 ht2 hF => cd_dIsi (by decide) .id rfl ht2 (bi hF fun t3 ht3 hF => ⟨_, _, .id, ht3, fun q1 => have hF := iT q1 hF; ex_andT (ex_notT (ex_blt T.b_isinstance bb_isi (ax_cons (ex_var 0 rfl (ax_cons (ex_tyn T.b_bool bb_bool (ax_nil (bi hF fun t5 ht5 hF => cd_dIsi (by decide) .id rfl ht5 (bi hF fun t6 ht6 hF => ⟨_, _, .id, ht6, bi hF fun t7 ht7 hF => ⟨_, _, .id, ht7, fun q4 => have hF := iT q4 hF; ex_one (ex_chain (ex_var 1 rfl (ex_var 0 rfl (bi hF fun t9 ht9 hF => od_cLe .id .id ht9 ⟨_, rfl, fun q8 => have hF := iT q8 hF; ex_var 2 rfl (bi hF fun t10 ht10 hF => od_cLe .id .id ht10 ⟨so hF, rfl⟩), fun q8 => ⟨so (iF q8 hF), rfl⟩⟩)))), fun q4 => ⟨so (iF q4 hF), rfl⟩⟩⟩))))))))), fun q1 => ⟨so (iF q1 hF), rfl⟩⟩))))))))) (⟨_, sub_refl, ret0 (so hF) hk⟩))))
theorem ca_is_between {X : Cx} {J : Gh} {e : Expr} {es : List Expr} {ρ : DEnv} {M : Mem} {P : D → Mem → Prop} {pos p : Pos} (T : Txt X.K X.mg) (hr : Room 1 X.A) (h : AX X J (e :: es) ρ M fun ds M1 => tr_is_between (ds ++ []) M1 P) (hg : Gl X "is_between" := by rfl)
    (he : starEach (e :: es) X.env = (false, eval e X.env) :: starEach es X.env := by rfl) (hpl : (backTo pos (starEach es X.env)).any (·.1) = false := by rfl) : EX X J (.Call (.Name "is_between" p) (e :: es) [] pos) ρ M P :=
  ex_call (ok_is_between T) hr T.m_is_between T.d_is_between.choose_spec.kp (T.d_is_between.choose_spec.bindsN fun _ _ _ _ _ _ us hl => match us, hl with | [_, _, _], _ => rfl) .nil (fun _ => .nil) h hg (by decide) he hpl
def tr_is_row_of : Tr := fun ds M P => ∃ x0 : D, ∃ x1 : D, ∃ x2 : D, ∃ x3 : D, ∃ r : D, ds = [x0, x1, x2, x3] ∧ F_is_row_of x0 x1 x2 x3 = some r ∧ P r M
theorem len_is_row_of {ds M P} (t : tr_is_row_of ds M P) : ds.length = 4 := by obtain ⟨_, _, _, _, _, rfl, _⟩ := t; rfl
set_option maxHeartbeats 0 in
theorem ok_is_row_of {pg : Program} {w : World} {K : PySem.W.Frag} {mg : Str → Option Value} {base : Heap} (T : Txt K mg) : FnOk pg w K mg base CX0 2 (He.fAd K ("is_row_of", none)) T.d_is_row_of.choose ["n", "thing", "ring", "stuck"] (SpD K tr_is_row_of) :=
  fn_okD T.d_is_row_of.choose_spec sc_is_row_of (fun ds M P t => len_is_row_of t) fun cdv A outer s H ds M P hr t => by
  obtain ⟨x0, x1, x2, x3, r, rfl, hF, hk⟩ := t
  unfold F_is_row_of at hF
  refine gx_seq (g1_if (bi hF fun t6 ht6 hF => tx_fix t6 M (have hF := ht6; tx_pw (wx_or (tx_not (tx_tru (ex_blt T.b_isinstance bb_isi (ax_cons (ex_var 1 rfl (ax_cons (ex_tyn T.b_tuple bb_tuple (ax_nil (bi hF fun t3 ht3 hF => cd_dIsi (by decide) .id rfl ht3 (bi hF fun t4 ht4 hF => ⟨_, _, .id, ht4, ⟨fun q2 => have hF := iF q2 hF; wx_or1 (tx_cmp (ex_var 1 rfl (ex_tup (ax_nil (⟨le_b rfl, bi hF fun t5 ht5 hF => od_cEq hr.units .id .id ht5 (⟨_, rfl, ⟨so hF, rfl⟩⟩)⟩))))), fun q2 => ⟨so (iT q2 hF), rfl⟩⟩⟩)))))))))))) (⟨fun q1 => ?_, fun q1 => ?_⟩)))
  · have hF := iT q1 hF
    exact gx_seq (g1_ret (ex_less (ex_bl (⟨_, sub_refl, ret0 (so hF) hk⟩))))
  · have hF := iF q1 hF
    refine gx_nil ?_
    show GX _ _ _ _ _ _
    refine gx_seq (g1_asg (bi hF fun v16 hv16 hF => ex_fix v16 M (have hF := hv16; ex_if (bi hF fun t12 ht12 hF => tx_fix t12 M (have hF := ht12; tx_pw (wx_and (tx_tru (ex_var 3 rfl (bi hF fun t8 ht8 hF => ⟨_, _, .id, ht8, ⟨fun q7 => have hF := iT q7 hF; wx_and1 (tx_tru (ca_is_letter T (hr.mono (by decide)) (ax_cons (ex_ix (ex_var 1 rfl (ex_dNeg (ex_int ⟨_, _, .id, rfl, bi hF fun v9 hv9 hF => id_dIx .id .id hv9 (ax_nil (bi hF fun v10 hv10 hF => ⟨_, v10, rfl, hv10, bi hF fun t11 ht11 hF => ⟨_, _, .id, ht11, ⟨so hF, rfl⟩⟩⟩))⟩))))))), fun q7 => ⟨so (iF q7 hF), rfl⟩⟩⟩))))) (⟨fun q15 => have hF := iT q15 hF; ex_slice (ex_var 1 rfl (ox_none (ox_d (ex_dNeg (ex_int ⟨_, _, .id, rfl, bi hF fun i13 hi13 hF => ⟨_, _, .id, hi13, bi hF fun v14 hv14 hF => sd_dCut .id hv14 (⟨so hF, rfl⟩)⟩⟩))))), fun q15 => have hF := iF q15 hF; ex_var 1 rfl (⟨so hF, rfl⟩)⟩))) (as_name 4 (?_) sc_is_row_of.nd)))
    refine gx_seq (g1_if (bi hF fun t33 ht33 hF => tx_fix t33 M (have hF := ht33; tx_pw (wx_or (tx_not (tx_tru (ex_blt T.b_all bb_all (ax_cons (ex_lc (own := [("entry", 5)]) (hN := sc_is_row_of.nd) rfl (bi hF fun l19 hl19 hF => ix_seqU (M2 := M) (ex_var 4 rfl (⟨rfl, rfl⟩)) hl19 (bi hF fun _ hz24 hF => bi hF fun y22 hy22 hF => lcF hy22 (chk_inv hz24).1 (fun x21 _ acc d23 hF hd23 => have fb_d23 := hd23; asb_name 5 (fun _ _ _ _ _ => ca_is_between T (hr.mono (by decide)) (ax_cons (ex_var 5 rfl (ax_cons (ex_ty T.b_int bb_int (ax_cons (ex_var 2 rfl (ax_nil (bi hF fun v26 hv26 hF => cd_dInt .id hv26 (ax_cons (ex_var 0 rfl (ax_nil (bi hF fun v27 hv27 hF => ⟨_, _, _, v27, rfl, hv27, ⟨so hF, rfl⟩⟩))))))))))))) (hN := sc_is_row_of.nd)) (ax_nil (bi hF fun v28 hv28 hF => cd_dAll rfl .id hv28 (bi hF fun t29 ht29 hF => ⟨_, _, .id, ht29, ⟨fun q18 => have hF := iF q18 hF; wx_or1 (tx_cmp (ex_lenSetF rfl T.b_len T.b_set (ex_var 4 rfl (bi hF fun v30 hv30 hF => ⟨_, v30, .id, hv30, ex_blt T.b_len bb_len (ax_cons (ex_var 4 rfl (ax_nil (bi hF fun v31 hv31 hF => cd_dLen .id hv31 (bi hF fun t32 ht32 hF => od_cNe hr.units .id .id ht32 (⟨_, rfl, ⟨so hF, rfl⟩⟩))))))⟩)))), fun q18 => ⟨so (iT q18 hF), rfl⟩⟩⟩)))))))))))) (⟨fun q17 => ?_, fun q17 => ?_⟩)))
    · have hF := iT q17 hF
      exact gx_seq (g1_ret (ex_less (ex_bl (⟨_, sub_refl, ret0 (so hF) hk⟩))))
    · have hF := iF q17 hF
      refine gx_nil ?_
      show GX _ _ _ _ _ _
      exact gx_seq (g1_ret (ex_less (ex_cmp (ex_int (ex_slice (ex_var 1 rfl (ox_none (ox_d (ex_dNeg (ex_int ⟨_, _, .id, rfl, bi hF fun i34 hi34 hF => ⟨_, _, .id, hi34, bi hF fun v35 hv35 hF => sd_dCut .id hv35 (bi hF fun t36 ht36 hF => od_cNin .id .id ht36 (⟨_, sub_refl, ret0 (so hF) hk⟩))⟩⟩))))))))))
theorem ca_is_row_of {X : Cx} {J : Gh} {e : Expr} {es : List Expr} {ρ : DEnv} {M : Mem} {P : D → Mem → Prop} {pos p : Pos} (T : Txt X.K X.mg) (hr : Room 2 X.A) (h : AX X J (e :: es) ρ M fun ds M1 => tr_is_row_of (ds ++ []) M1 P) (hg : Gl X "is_row_of" := by rfl)
    (he : starEach (e :: es) X.env = (false, eval e X.env) :: starEach es X.env := by rfl) (hpl : (backTo pos (starEach es X.env)).any (·.1) = false := by rfl) : EX X J (.Call (.Name "is_row_of" p) (e :: es) [] pos) ρ M P :=
  ex_call (ok_is_row_of T) hr T.m_is_row_of T.d_is_row_of.choose_spec.kp (T.d_is_row_of.choose_spec.bindsN fun _ _ _ _ _ _ us hl => match us, hl with | [_, _, _, _], _ => rfl) .nil (fun _ => .nil) h hg (by decide) he hpl
def tr_has_states : Tr := fun ds M P => ∃ x0 : D, ∃ x1 : D, ∃ r : D, ds = [x0, x1] ∧ F_has_states x0 x1 = some r ∧ P r M
theorem len_has_states {ds M P} (t : tr_has_states ds M P) : ds.length = 2 := by obtain ⟨_, _, _, rfl, _⟩ := t; rfl
set_option maxHeartbeats 0 in
theorem ok_has_states {pg : Program} {w : World} {K : PySem.W.Frag} {mg : Str → Option Value} {base : Heap} (T : Txt K mg) : FnOk pg w K mg base CX0 1 (He.fAd K ("has_states", none)) T.d_has_states.choose ["value", "n"] (SpD K tr_has_states) :=
  fn_okD T.d_has_states.choose_spec sc_has_states (fun ds M P t => len_has_states t) fun cdv A outer s H ds M P hr t => by
  obtain ⟨x0, x1, r, rfl, hF, hk⟩ := t
  unfold F_has_states at hF
  refine gx_seq (g1_if (bi hF fun t8 ht8 hF => tx_fix t8 M (have hF := ht8; tx_pw (wx_or (tx_not (tx_tru (ex_blt T.b_isinstance bb_isi (ax_cons (ex_var 0 rfl (ax_cons (ex_tyn T.b_str bb_str (ax_nil (bi hF fun t3 ht3 hF => cd_dIsi (by decide) .id rfl ht3 (bi hF fun t4 ht4 hF => ⟨_, _, .id, ht4, ⟨fun q2 => have hF := iF q2 hF; wx_or1 (tx_cmp (ex_blt T.b_len bb_len (ax_cons (ex_var 0 rfl (ax_nil (bi hF fun v5 hv5 hF => cd_dLen .id hv5 (ex_bin (ex_var 1 rfl (ex_int (bi hF fun v6 hv6 hF => od_dAdd .id .id hv6 (bi hF fun t7 ht7 hF => od_cNe hr.units .id .id ht7 (⟨_, rfl, ⟨so hF, rfl⟩⟩)))))))))))), fun q2 => ⟨so (iT q2 hF), rfl⟩⟩⟩)))))))))))) (⟨fun q1 => ?_, fun q1 => ?_⟩)))
  · have hF := iT q1 hF
    exact gx_seq (g1_ret (ex_less (ex_bl (⟨_, sub_refl, ret0 (so hF) hk⟩))))
  · have hF := iF q1 hF
    refine gx_nil ?_
    show GX _ _ _ _ _ _
    exact gx_seq (g1_ret (ex_less (ex_cmp (ex_lc (own := [("letter", 2)]) (hN := sc_has_states.nd) rfl (bi hF fun l9 hl9 hF => ix_seqU (M2 := M) (ex_var 0 rfl (⟨rfl, rfl⟩)) hl9 (bi hF fun _ hz14 hF => bi hF fun y12 hy12 hF => filtF hy12 (chk_inv hz14).1 (fun x11 _ acc d13 hF hd13 => have fb_d13 := hd13; asb_name 2 (txb_one fun _ _ _ _ _ => tx_cmp (ex_var 2 rfl (ex_gtup T.g_STATES.choose_spec.1 T.g_STATES.choose_spec.2 (fun F => .cons (.str _) (.cons (.str _) (.cons (.str _) (.nil)))) (bi hF fun t16 ht16 hF => od_cNin .id .id ht16 (⟨_, rfl, ⟨fun q17 => have hF := iT q17 hF; fun _ _ _ _ _ => ex_var 2 rfl (⟨(so hF).symm, rfl⟩), fun q17 => ⟨(so (iF q17 hF)).symm, rfl⟩⟩⟩))))) (hN := sc_has_states.nd)) (ex_lst (ax_nil (⟨le_b rfl, bi hF fun t18 ht18 hF => od_cEq hr.units .id .id ht18 (⟨_, sub_refl, ret0 (so hF) hk⟩)⟩)))))))))
theorem ca_has_states {X : Cx} {J : Gh} {e : Expr} {es : List Expr} {ρ : DEnv} {M : Mem} {P : D → Mem → Prop} {pos p : Pos} (T : Txt X.K X.mg) (hr : Room 1 X.A) (h : AX X J (e :: es) ρ M fun ds M1 => tr_has_states (ds ++ []) M1 P) (hg : Gl X "has_states" := by rfl)
    (he : starEach (e :: es) X.env = (false, eval e X.env) :: starEach es X.env := by rfl) (hpl : (backTo pos (starEach es X.env)).any (·.1) = false := by rfl) : EX X J (.Call (.Name "has_states" p) (e :: es) [] pos) ρ M P :=
  ex_call (ok_has_states T) hr T.m_has_states T.d_has_states.choose_spec.kp (T.d_has_states.choose_spec.bindsN fun _ _ _ _ _ _ us hl => match us, hl with | [_, _], _ => rfl) .nil (fun _ => .nil) h hg (by decide) he hpl
def tr_is_ring_trial : Tr := fun ds M P => ∃ x0 : D, ∃ x1 : D, ∃ r : D, ds = [x0, x1] ∧ F_is_ring_trial x0 x1 = some r ∧ P r M
theorem len_is_ring_trial {ds M P} (t : tr_is_ring_trial ds M P) : ds.length = 2 := by obtain ⟨_, _, _, rfl, _⟩ := t; rfl
set_option maxHeartbeats 0 in
theorem ok_is_ring_trial {pg : Program} {w : World} {K : PySem.W.Frag} {mg : Str → Option Value} {base : Heap} (T : Txt K mg) : FnOk pg w K mg base CX0 2 (He.fAd K ("is_ring_trial", none)) T.d_is_ring_trial.choose ["value", "n"] (SpD K tr_is_ring_trial) :=
  fn_okD T.d_is_ring_trial.choose_spec sc_is_ring_trial (fun ds M P t => len_is_ring_trial t) fun cdv A outer s H ds M P hr t => by
  obtain ⟨x0, x1, r, rfl, hF, hk⟩ := t
  unfold F_is_ring_trial at hF
  exact gx_seq (g1_ret (ex_less (bi hF fun v6 hv6 hF => ex_fix v6 M (have hF := hv6; ex_andT (ca_has_states T (hr.mono (by decide)) (ax_cons (ex_var 0 rfl (ax_cons (ex_var 1 rfl (ax_nil (bi hF fun v2 hv2 hF => ⟨_, _, v2, rfl, hv2, bi hF fun t3 ht3 hF => ⟨_, _, .id, ht3, fun q1 => have hF := iT q1 hF; ex_one (ex_cmp (ex_ix (ex_var 0 rfl (ex_var 1 rfl (bi hF fun v4 hv4 hF => id_dIx .id .id hv4 (ex_gstr T.g_PASS (bi hF fun t5 ht5 hF => od_cEq hr.units .id .id ht5 (⟨so hF, rfl⟩)))))))), fun q1 => ⟨so (iF q1 hF), rfl⟩⟩⟩)))))))) (⟨_, sub_refl, ret0 (so hF) hk⟩))))
theorem ca_is_ring_trial {X : Cx} {J : Gh} {e : Expr} {es : List Expr} {ρ : DEnv} {M : Mem} {P : D → Mem → Prop} {pos p : Pos} (T : Txt X.K X.mg) (hr : Room 2 X.A) (h : AX X J (e :: es) ρ M fun ds M1 => tr_is_ring_trial (ds ++ []) M1 P) (hg : Gl X "is_ring_trial" := by rfl)
    (he : starEach (e :: es) X.env = (false, eval e X.env) :: starEach es X.env := by rfl) (hpl : (backTo pos (starEach es X.env)).any (·.1) = false := by rfl) : EX X J (.Call (.Name "is_ring_trial" p) (e :: es) [] pos) ρ M P :=
  ex_call (ok_is_ring_trial T) hr T.m_is_ring_trial T.d_is_ring_trial.choose_spec.kp (T.d_is_ring_trial.choose_spec.bindsN fun _ _ _ _ _ _ us hl => match us, hl with | [_, _], _ => rfl) .nil (fun _ => .nil) h hg (by decide) he hpl
def tr_is_trial : Tr := fun ds M P => ∃ x0 : D, ∃ x1 : D, ∃ r : D, ds = [x0, x1] ∧ F_is_trial x0 x1 = some r ∧ P r M
theorem len_is_trial {ds M P} (t : tr_is_trial ds M P) : ds.length = 2 := by obtain ⟨_, _, _, rfl, _⟩ := t; rfl
set_option maxHeartbeats 0 in
theorem ok_is_trial {pg : Program} {w : World} {K : PySem.W.Frag} {mg : Str → Option Value} {base : Heap} (T : Txt K mg) : FnOk pg w K mg base CX0 2 (He.fAd K ("is_trial", none)) T.d_is_trial.choose ["value", "n"] (SpD K tr_is_trial) :=
  fn_okD T.d_is_trial.choose_spec sc_is_trial (fun ds M P t => len_is_trial t) fun cdv A outer s H ds M P hr t => by
  obtain ⟨x0, x1, r, rfl, hF, hk⟩ := t
  unfold F_is_trial at hF
  exact gx_seq (g1_ret (ex_less (bi hF fun v6 hv6 hF => ex_fix v6 M (have hF := hv6; ex_andT (ca_has_states T (hr.mono (by decide)) (ax_cons (ex_var 0 rfl (ax_cons (ex_var 1 rfl (ax_nil (bi hF fun v2 hv2 hF => ⟨_, _, v2, rfl, hv2, bi hF fun t3 ht3 hF => ⟨_, _, .id, ht3, fun q1 => have hF := iT q1 hF; ex_one (ex_cmp (ex_ix (ex_var 0 rfl (ex_var 1 rfl (bi hF fun v4 hv4 hF => id_dIx .id .id hv4 (ex_gstr T.g_PASS (bi hF fun t5 ht5 hF => od_cNe hr.units .id .id ht5 (⟨so hF, rfl⟩)))))))), fun q1 => ⟨so (iF q1 hF), rfl⟩⟩⟩)))))))) (⟨_, sub_refl, ret0 (so hF) hk⟩))))
theorem ca_is_trial {X : Cx} {J : Gh} {e : Expr} {es : List Expr} {ρ : DEnv} {M : Mem} {P : D → Mem → Prop} {pos p : Pos} (T : Txt X.K X.mg) (hr : Room 2 X.A) (h : AX X J (e :: es) ρ M fun ds M1 => tr_is_trial (ds ++ []) M1 P) (hg : Gl X "is_trial" := by rfl)
    (he : starEach (e :: es) X.env = (false, eval e X.env) :: starEach es X.env := by rfl) (hpl : (backTo pos (starEach es X.env)).any (·.1) = false := by rfl) : EX X J (.Call (.Name "is_trial" p) (e :: es) [] pos) ρ M P :=
  ex_call (ok_is_trial T) hr T.m_is_trial T.d_is_trial.choose_spec.kp (T.d_is_trial.choose_spec.bindsN fun _ _ _ _ _ _ us hl => match us, hl with | [_, _], _ => rfl) .nil (fun _ => .nil) h hg (by decide) he hpl
def tr_holds_short : Tr := fun ds M P => ∃ x0 : D, ∃ x1 : D, ∃ x2 : D, ∃ x3 : D, ∃ x4 : D, ∃ x5 : D, ∃ r : D, ds = [x0, x1, x2, x3, x4, x5] ∧ F_holds_short x0 x1 x2 x3 x4 x5 = some r ∧ P r M
theorem len_holds_short {ds M P} (t : tr_holds_short ds M P) : ds.length = 6 := by obtain ⟨_, _, _, _, _, _, _, rfl, _⟩ := t; rfl
set_option maxHeartbeats 0 in
theorem ok_holds_short {pg : Program} {w : World} {K : PySem.W.Frag} {mg : Str → Option Value} {base : Heap} (T : Txt K mg) : FnOk pg w K mg base CX0 4 (He.fAd K ("holds_short", none)) T.d_holds_short.choose ["n", "trials", "thing", "asked", "ring", "stuck"] (SpD K tr_holds_short) :=
  fn_okD T.d_holds_short.choose_spec sc_holds_short (fun ds M P t => len_holds_short t) fun cdv A outer s H ds M P hr t => by
  obtain ⟨x0, x1, x2, x3, x4, x5, r, rfl, hF, hk⟩ := t
  unfold F_holds_short at hF
  refine gx_seq (g1_asg (ex_var 2 rfl (bi hF fun p1 hp1 hF => as_eq (un4_eq hp1) (as_tup rfl rfl (asd_cons (as_name 6 (asd_cons (as_name 7 (asd_cons (as_name 8 (asd_cons (as_name 9 (asd_nil (?_)) sc_holds_short.nd)) sc_holds_short.nd)) sc_holds_short.nd)) sc_holds_short.nd))))))
  refine gx_seq (g1_if (bi hF fun t10 ht10 hF => tx_fix t10 M (have hF := ht10; tx_pw (wx_or (tx_not (tx_tru (ca_is_between T (hr.mono (by decide)) (ax_cons (ex_var 7 rfl (ax_cons (ex_int (ax_cons (ex_var 0 rfl (ax_nil (bi hF fun v4 hv4 hF => ⟨_, _, _, v4, rfl, hv4, bi hF fun t5 ht5 hF => ⟨_, _, .id, ht5, ⟨fun q3 => have hF := iF q3 hF; wx_or (tx_cmp (ex_var 7 rfl (ex_var 3 rfl (bi hF fun t7 ht7 hF => od_cNin .id .id ht7 (⟨_, rfl, ⟨fun q6 => have hF := iF q6 hF; wx_or1 (tx_not (tx_tru (ca_is_row_of T (hr.mono (by decide)) (ax_cons (ex_var 0 rfl (ax_cons (ex_var 8 rfl (ax_cons (ex_var 4 rfl (ax_cons (ex_var 5 rfl (ax_nil (bi hF fun v8 hv8 hF => ⟨_, _, _, _, v8, rfl, hv8, bi hF fun t9 ht9 hF => ⟨_, _, .id, ht9, ⟨so hF, rfl⟩⟩⟩))))))))))))), fun q6 => ⟨so (iT q6 hF), rfl⟩⟩⟩))))), fun q3 => ⟨so (iT q3 hF), rfl⟩⟩⟩⟩))))))))))))) (⟨fun q2 => ?_, fun q2 => ?_⟩)))
  · have hF := iT q2 hF
    exact gx_seq (g1_ret (ex_less (ex_bl (⟨_, sub_refl, ret0 (so hF) hk⟩))))
  · have hF := iF q2 hF
    refine gx_nil ?_
    show GX _ _ _ _ _ _
    refine gx_seq (g1_if (tx_not (bi hF fun t18 ht18 hF => tx_fix t18 M (have hF := ht18; tx_if (tx_tru (ex_var 4 rfl (bi hF fun t12 ht12 hF => ⟨_, _, .id, ht12, ⟨fun q17 => have hF := iT q17 hF; tx_tru (ca_is_ring_trial T (hr.mono (by decide)) (ax_cons (ex_var 9 rfl (ax_cons (ex_var 0 rfl (ax_nil (bi hF fun v13 hv13 hF => ⟨_, _, v13, rfl, hv13, bi hF fun t14 ht14 hF => ⟨_, _, .id, ht14, ⟨so hF, rfl⟩⟩⟩))))))), fun q17 => have hF := iF q17 hF; tx_tru (ca_is_trial T (hr.mono (by decide)) (ax_cons (ex_var 9 rfl (ax_cons (ex_var 0 rfl (ax_nil (bi hF fun v15 hv15 hF => ⟨_, _, v15, rfl, hv15, bi hF fun t16 ht16 hF => ⟨_, _, .id, ht16, ⟨so hF, rfl⟩⟩⟩)))))))⟩⟩)))) (⟨fun q11 => ?_, fun q11 => ?_⟩))))
    · have hF := iT q11 hF
      exact gx_seq (g1_ret (ex_less (ex_bl (⟨_, sub_refl, ret0 (so hF) hk⟩))))
    · have hF := iF q11 hF
      refine gx_nil ?_
      show GX _ _ _ _ _ _
      refine gx_seq (g1_if (tx_cmp (ex_lc (own := [("trial", 10)]) (hN := sc_holds_short.nd) rfl (bi hF fun l20 hl20 hF => ix_seqU (M2 := M) (ex_var 1 rfl (⟨rfl, rfl⟩)) hl20 (bi hF fun _ hz25 hF => bi hF fun y23 hy23 hF => filtF hy23 (chk_inv hz25).1 (fun x22 _ acc d24 hF hd24 => have fb_d24 := hd24; asb_name 10 (txb_one fun _ _ _ _ _ => tx_cmp (ca_row_carry T (hr.mono (by decide)) (ax_cons (ex_var 8 rfl (ax_cons (ex_var 10 rfl (ax_nil (bi hF fun v27 hv27 hF => ⟨_, _, v27, rfl, hv27, ca_true_carry T (hr.mono (by decide)) (ax_cons (ex_var 10 rfl (ax_cons (ex_var 7 rfl (ax_nil (bi hF fun v28 hv28 hF => ⟨_, _, v28, rfl, hv28, bi hF fun t29 ht29 hF => od_cNe hr.units .id .id ht29 (⟨_, rfl, ⟨fun q30 => have hF := iT q30 hF; fun _ _ _ _ _ => ex_var 10 rfl (⟨(so hF).symm, rfl⟩), fun q30 => ⟨(so (iF q30 hF)).symm, rfl⟩⟩⟩)⟩))))))⟩)))))))) (hN := sc_holds_short.nd)) (ex_lst (ax_nil (⟨le_b rfl, bi hF fun t31 ht31 hF => od_cNe hr.units .id .id ht31 (⟨_, rfl, ⟨fun q19 => ?_, fun q19 => ?_⟩⟩)⟩))))))))
      · have hF := iT q19 hF
        exact gx_seq (g1_ret (ex_less (ex_bl (⟨_, sub_refl, ret0 (so hF) hk⟩))))
      · have hF := iF q19 hF
        refine gx_nil ?_
        show GX _ _ _ _ _ _
        exact gx_seq (g1_ret (ex_less (ex_cmp (ca_row_carry T (hr.mono (by decide)) (ax_cons (ex_var 8 rfl (ax_cons (ex_var 9 rfl (ax_nil (bi hF fun v32 hv32 hF => ⟨_, _, v32, rfl, hv32, ca_true_carry T (hr.mono (by decide)) (ax_cons (ex_var 9 rfl (ax_cons (ex_var 7 rfl (ax_nil (bi hF fun v33 hv33 hF => ⟨_, _, v33, rfl, hv33, bi hF fun t34 ht34 hF => od_cNe hr.units .id .id ht34 (⟨_, sub_refl, ret0 (so hF) hk⟩)⟩))))))⟩))))))))))
theorem ca_holds_short {X : Cx} {J : Gh} {e : Expr} {es : List Expr} {ρ : DEnv} {M : Mem} {P : D → Mem → Prop} {pos p : Pos} (T : Txt X.K X.mg) (hr : Room 4 X.A) (h : AX X J (e :: es) ρ M fun ds M1 => tr_holds_short (ds ++ []) M1 P) (hg : Gl X "holds_short" := by rfl)
    (he : starEach (e :: es) X.env = (false, eval e X.env) :: starEach es X.env := by rfl) (hpl : (backTo pos (starEach es X.env)).any (·.1) = false := by rfl) : EX X J (.Call (.Name "holds_short" p) (e :: es) [] pos) ρ M P :=
  ex_call (ok_holds_short T) hr T.m_holds_short T.d_holds_short.choose_spec.kp (T.d_holds_short.choose_spec.bindsN fun _ _ _ _ _ _ us hl => match us, hl with | [_, _, _, _, _, _], _ => rfl) .nil (fun _ => .nil) h hg (by decide) he hpl
def tr_is_row : Tr := fun ds M P => ∃ x0 : D, ∃ x1 : D, ∃ r : D, ds = [x0, x1] ∧ F_is_row x0 x1 = some r ∧ P r M
theorem len_is_row {ds M P} (t : tr_is_row ds M P) : ds.length = 2 := by obtain ⟨_, _, _, rfl, _⟩ := t; rfl
set_option maxHeartbeats 0 in
theorem ok_is_row {pg : Program} {w : World} {K : PySem.W.Frag} {mg : Str → Option Value} {base : Heap} (T : Txt K mg) : FnOk pg w K mg base CX0 1 (He.fAd K ("is_row", none)) T.d_is_row.choose ["value", "length"] (SpD K tr_is_row) :=
  fn_okD T.d_is_row.choose_spec sc_is_row (fun ds M P t => len_is_row t) fun cdv A outer s H ds M P hr t => by
  obtain ⟨x0, x1, r, rfl, hF, hk⟩ := t
  unfold F_is_row at hF
  exact gx_seq (g1_ret (ex_less (bi hF fun v6 hv6 hF => ex_fix v6 M (have hF := hv6; ex_andT (ex_blt T.b_isinstance bb_isi (ax_cons (ex_var 0 rfl (ax_cons (ex_tyn T.b_tuple bb_tuple (ax_nil (bi hF fun t2 ht2 hF => cd_dIsi (by decide) .id rfl ht2 (bi hF fun t3 ht3 hF => ⟨_, _, .id, ht3, fun q1 => have hF := iT q1 hF; ex_one (ex_cmp (ex_blt T.b_len bb_len (ax_cons (ex_var 0 rfl (ax_nil (bi hF fun v4 hv4 hF => cd_dLen .id hv4 (ex_var 1 rfl (bi hF fun t5 ht5 hF => od_cEq hr.units .id .id ht5 (⟨so hF, rfl⟩))))))))), fun q1 => ⟨so (iF q1 hF), rfl⟩⟩))))))))) (⟨_, sub_refl, ret0 (so hF) hk⟩))))
theorem ca_is_row {X : Cx} {J : Gh} {e : Expr} {es : List Expr} {ρ : DEnv} {M : Mem} {P : D → Mem → Prop} {pos p : Pos} (T : Txt X.K X.mg) (hr : Room 1 X.A) (h : AX X J (e :: es) ρ M fun ds M1 => tr_is_row (ds ++ []) M1 P) (hg : Gl X "is_row" := by rfl)
    (he : starEach (e :: es) X.env = (false, eval e X.env) :: starEach es X.env := by rfl) (hpl : (backTo pos (starEach es X.env)).any (·.1) = false := by rfl) : EX X J (.Call (.Name "is_row" p) (e :: es) [] pos) ρ M P :=
  ex_call (ok_is_row T) hr T.m_is_row T.d_is_row.choose_spec.kp (T.d_is_row.choose_spec.bindsN fun _ _ _ _ _ _ us hl => match us, hl with | [_, _], _ => rfl) .nil (fun _ => .nil) h hg (by decide) he hpl
def tr_options_at : Tr := fun ds M P => ∃ x0 : D, ∃ x1 : D, ∃ x2 : D, ∃ x3 : D, ∃ x4 : D, ∃ r : D, ds = [x0, x1, x2, x3, x4] ∧ F_options_at x0 x1 x2 x3 x4 = some r ∧ P r M
theorem len_options_at {ds M P} (t : tr_options_at ds M P) : ds.length = 5 := by obtain ⟨_, _, _, _, _, _, rfl, _⟩ := t; rfl
set_option maxHeartbeats 0 in
theorem ok_options_at {pg : Program} {w : World} {K : PySem.W.Frag} {mg : Str → Option Value} {base : Heap} (T : Txt K mg) : FnOk pg w K mg base CX0 1 (He.fAd K ("options_at", none)) T.d_options_at.choose ["n", "due", "place", "ring", "stuck"] (SpD K tr_options_at) :=
  fn_okD T.d_options_at.choose_spec sc_options_at (fun ds M P t => len_options_at t) fun cdv A outer s H ds M P hr t => by
  obtain ⟨x0, x1, x2, x3, x4, r, rfl, hF, hk⟩ := t
  unfold F_options_at at hF
  refine gx_seq (g1_if (tx_cmp (ex_var 2 rfl (ex_blt T.b_len bb_len (ax_cons (ex_var 1 rfl (ax_nil (bi hF fun v2 hv2 hF => cd_dLen .id hv2 (bi hF fun t3 ht3 hF => od_cEq hr.units .id .id ht3 (⟨_, rfl, ⟨fun q1 => ?_, fun q1 => ?_⟩⟩))))))))))
  · have hF := iT q1 hF
    exact gx_seq (g1_ret (ex_less (ex_lst (ax_cons (ex_gstr T.g_GENERATE (ax_nil (⟨le_b rfl, ⟨_, sub_refl, ret0 (so hF) hk⟩⟩)))))))
  · have hF := iF q1 hF
    refine gx_nil ?_
    show GX _ _ _ _ _ _
    refine gx_seq (g1_lc (own := [("position", 6)]) (hN := sc_options_at.nd) 5 rfl (bi hF fun v6 hv6 hF => bi hF fun l7 hl7 hF => ix_range2U (M2 := M) T.b_range ((have hF := hv6; ax_cons (ex_ty T.b_int bb_int (ax_cons (ex_var 3 rfl (ax_nil (bi hF fun v4 hv4 hF => cd_dInt .id hv4 (ax_cons (ex_bin (ex_var 0 rfl (ex_int (bi hF fun v5 hv5 hF => od_dAdd .id .id hv5 (ax_nil ((by cases hF; exact ⟨rfl, rfl⟩))))))))))))))) hl7 (bi hF fun _ hz12 hF => bi hF fun y10 hy10 hF => filtF hy10 (chk_inv hz12).1 (fun x9 _ acc d11 hF hd11 => have fb_d11 := hd11; asb_name 6 (txb_one fun _ _ _ _ _ => tx_cmp (ex_var 6 rfl (ex_slice (ex_var 1 rfl (ox_none (ox_d (ex_bin (ex_var 2 rfl (ex_int (bi hF fun v14 hv14 hF => od_dAdd .id .id hv14 (bi hF fun i15 hi15 hF => ⟨_, _, .id, hi15, bi hF fun v16 hv16 hF => sd_dCut .id hv16 (bi hF fun t17 ht17 hF => od_cNin .id .id ht17 (⟨_, rfl, ⟨fun q18 => have hF := iT q18 hF; fun _ _ _ _ _ => ex_var 6 rfl (⟨(so hF).symm, rfl⟩), fun q18 => ⟨(so (iF q18 hF)).symm, rfl⟩⟩⟩))⟩))))))))))) (hN := sc_options_at.nd)) (?_))))
    exact gx_seq (g1_ret (ex_less (ex_bin (ex_bin (ex_var 5 rfl (ex_bin (ex_lst (ax_cons (ex_gstr T.g_END (ax_nil (⟨le_b rfl, ex_ty T.b_int bb_int (ax_cons (bi hF fun v22 hv22 hF => ex_fix v22 M (have hF := hv22; ex_orT (ex_cmp (ex_var 2 rfl (ex_int (bi hF fun t20 ht20 hF => od_cGt .id .id ht20 (bi hF fun t21 ht21 hF => ⟨_, _, .id, ht21, fun q19 => have hF := iF q19 hF; ex_one (ex_var 4 rfl (⟨so hF, rfl⟩)), fun q19 => ⟨so (iT q19 hF), rfl⟩⟩)))))) (ax_nil (bi hF fun v23 hv23 hF => cd_dInt .id hv23 (bi hF fun v24 hv24 hF => od_dMul .id .id hv24 (bi hF fun v25 hv25 hF => od_dAdd .id .id hv25 (ex_bin (ex_lst (ax_cons (ex_gstr T.g_GENERATE (ax_nil (⟨le_b rfl, ex_ty T.b_int bb_int (ax_cons (ex_var 4 rfl (ax_nil (bi hF fun v26 hv26 hF => cd_dInt .id hv26 (bi hF fun v27 hv27 hF => od_dMul .id .id hv27 (bi hF fun v28 hv28 hF => od_dAdd .id .id hv28 (⟨_, sub_refl, ret0 (so hF) hk⟩)))))))⟩))))))))))))⟩)))))))))))
theorem ca_options_at {X : Cx} {J : Gh} {e : Expr} {es : List Expr} {ρ : DEnv} {M : Mem} {P : D → Mem → Prop} {pos p : Pos} (T : Txt X.K X.mg) (hr : Room 1 X.A) (h : AX X J (e :: es) ρ M fun ds M1 => tr_options_at (ds ++ []) M1 P) (hg : Gl X "options_at" := by rfl)
    (he : starEach (e :: es) X.env = (false, eval e X.env) :: starEach es X.env := by rfl) (hpl : (backTo pos (starEach es X.env)).any (·.1) = false := by rfl) : EX X J (.Call (.Name "options_at" p) (e :: es) [] pos) ρ M P :=
  ex_call (ok_options_at T) hr T.m_options_at T.d_options_at.choose_spec.kp (T.d_options_at.choose_spec.bindsN fun _ _ _ _ _ _ us hl => match us, hl with | [_, _, _, _, _], _ => rfl) .nil (fun _ => .nil) h hg (by decide) he hpl
def tr_options_of : Tr := fun ds M P => ∃ x0 : D, ∃ x1 : D, ∃ x2 : D, ∃ x3 : D, ∃ r : D, ds = [x0, x1, x2, x3] ∧ F_options_of x0 x1 x2 x3 = some r ∧ P r M
theorem len_options_of {ds M P} (t : tr_options_of ds M P) : ds.length = 4 := by obtain ⟨_, _, _, _, _, rfl, _⟩ := t; rfl
set_option maxHeartbeats 0 in
theorem ok_options_of {pg : Program} {w : World} {K : PySem.W.Frag} {mg : Str → Option Value} {base : Heap} (T : Txt K mg) : FnOk pg w K mg base CX0 2 (He.fAd K ("options_of", none)) T.d_options_of.choose ["n", "output", "ring", "stuck"] (SpD K tr_options_of) :=
  fn_okD T.d_options_of.choose_spec sc_options_of (fun ds M P t => len_options_of t) fun cdv A outer s H ds M P hr t => by
  obtain ⟨x0, x1, x2, x3, r, rfl, hF, hk⟩ := t
  unfold F_options_of at hF
  refine gx_seq (g1_asg (ca_due_positions T (hr.mono (by decide)) (ax_cons (ex_var 0 rfl (ax_cons (ex_var 1 rfl (ax_cons (ex_var 2 rfl (ax_nil (bi hF fun v1 hv1 hF => ⟨_, _, _, v1, rfl, hv1, as_name 4 (?_) sc_options_of.nd⟩))))))))))
  exact gx_seq (g1_ret (ex_less (ex_lc (own := [("place", 5)]) (hN := sc_options_of.nd) rfl (bi hF fun v8 hv8 hF => bi hF fun l9 hl9 hF => ix_range1U (M2 := M) T.b_range ((have hF := hv8; ax_cons (ex_bin (ex_blt T.b_len bb_len (ax_cons (ex_var 4 rfl (ax_nil (bi hF fun v2 hv2 hF => cd_dLen .id hv2 (ex_ty T.b_int bb_int (ax_cons (bi hF fun v5 hv5 hF => ex_fix v5 M (have hF := hv5; ex_andT (ex_var 2 rfl (bi hF fun t4 ht4 hF => ⟨_, _, .id, ht4, fun q3 => have hF := iT q3 hF; ex_one (ex_var 3 rfl (⟨so hF, rfl⟩)), fun q3 => ⟨so (iF q3 hF), rfl⟩⟩))) (ax_nil (bi hF fun v6 hv6 hF => cd_dInt .id hv6 (bi hF fun v7 hv7 hF => od_dAdd .id .id hv7 (ax_nil (⟨by rw [so hF], rfl⟩)))))))))))))))) hl9 (bi hF fun _ hz14 hF => bi hF fun y12 hy12 hF => lcF hy12 (chk_inv hz14).1 (fun x11 _ acc d13 hF hd13 => have fb_d13 := hd13; asb_name 5 (fun _ _ _ _ _ => ca_options_at T (hr.mono (by decide)) (ax_cons (ex_var 0 rfl (ax_cons (ex_var 4 rfl (ax_cons (ex_var 5 rfl (ax_cons (ex_var 2 rfl (ax_cons (ex_var 3 rfl (ax_nil (bi hF fun v16 hv16 hF => ⟨_, _, _, _, _, v16, rfl, hv16, ⟨so hF, rfl⟩⟩))))))))))))) (hN := sc_options_of.nd)) (⟨_, sub_refl, ret0 (so hF) hk⟩))))))
theorem ca_options_of {X : Cx} {J : Gh} {e : Expr} {es : List Expr} {ρ : DEnv} {M : Mem} {P : D → Mem → Prop} {pos p : Pos} (T : Txt X.K X.mg) (hr : Room 2 X.A) (h : AX X J (e :: es) ρ M fun ds M1 => tr_options_of (ds ++ []) M1 P) (hg : Gl X "options_of" := by rfl)
    (he : starEach (e :: es) X.env = (false, eval e X.env) :: starEach es X.env := by rfl) (hpl : (backTo pos (starEach es X.env)).any (·.1) = false := by rfl) : EX X J (.Call (.Name "options_of" p) (e :: es) [] pos) ρ M P :=
  ex_call (ok_options_of T) hr T.m_options_of T.d_options_of.choose_spec.kp (T.d_options_of.choose_spec.bindsN fun _ _ _ _ _ _ us hl => match us, hl with | [_, _, _, _], _ => rfl) .nil (fun _ => .nil) h hg (by decide) he hpl
def tr_is_refuted : Tr := fun ds M P => ∃ x0 : D, ∃ x1 : D, ∃ x2 : D, ∃ r : D, ds = [x0, x1, x2] ∧ F_is_refuted x0 x1 x2 = some r ∧ P r M
theorem len_is_refuted {ds M P} (t : tr_is_refuted ds M P) : ds.length = 3 := by obtain ⟨_, _, _, _, rfl, _⟩ := t; rfl
set_option maxHeartbeats 0 in
theorem ok_is_refuted {pg : Program} {w : World} {K : PySem.W.Frag} {mg : Str → Option Value} {base : Heap} (T : Txt K mg) : FnOk pg w K mg base CX0 2 (He.fAd K ("is_refuted", none)) T.d_is_refuted.choose ["trial", "option", "carry"] (SpD K tr_is_refuted) :=
  fn_okD T.d_is_refuted.choose_spec sc_is_refuted (fun ds M P t => len_is_refuted t) fun cdv A outer s H ds M P hr t => by
  obtain ⟨x0, x1, x2, r, rfl, hF, hk⟩ := t
  unfold F_is_refuted at hF
  refine gx_seq (g1_if (tx_cmp (ex_var 1 rfl (ex_gstr T.g_END (bi hF fun t2 ht2 hF => od_cEq hr.units .id .id ht2 (⟨_, rfl, ⟨fun q1 => ?_, fun q1 => ?_⟩⟩))))))
  · have hF := iT q1 hF
    exact gx_seq (g1_ret (ex_less (ex_cmp (ex_var 2 rfl (ex_int (bi hF fun t3 ht3 hF => od_cEq hr.units .id .id ht3 (⟨_, sub_refl, ret0 (so hF) hk⟩)))))))
  · have hF := iF q1 hF
    refine gx_nil ?_
    show GX _ _ _ _ _ _
    refine gx_seq (g1_asg (bi hF fun v7 hv7 hF => ex_fix v7 M (have hF := hv7; ex_if (tx_cmp (ex_var 1 rfl (ex_gstr T.g_GENERATE (bi hF fun t4 ht4 hF => od_cEq hr.units .id .id ht4 (⟨_, rfl, ⟨fun q6 => have hF := iT q6 hF; ex_var 1 rfl (⟨so hF, rfl⟩), fun q6 => have hF := iF q6 hF; ca_state_at T (hr.mono (by decide)) (ax_cons (ex_var 0 rfl (ax_cons (ex_var 1 rfl (ax_nil (bi hF fun v5 hv5 hF => ⟨_, _, v5, rfl, hv5, ⟨so hF, rfl⟩⟩))))))⟩⟩)))))) (as_name 3 (?_) sc_is_refuted.nd)))
    exact gx_seq (g1_ret (ex_less (bi hF fun v13 hv13 hF => ex_fix v13 M (have hF := hv13; ex_andT (ex_cmp (ex_var 3 rfl (ex_gstr T.g_PASS (bi hF fun t9 ht9 hF => od_cNe hr.units .id .id ht9 (bi hF fun t10 ht10 hF => ⟨_, _, .id, ht10, fun q8 => have hF := iT q8 hF; ex_one (ex_cmp (ca_carry_of T (hr.mono (by decide)) (ax_cons (ex_var 3 rfl (ax_nil (bi hF fun v11 hv11 hF => ⟨_, v11, rfl, hv11, ex_var 2 rfl (bi hF fun t12 ht12 hF => od_cNe hr.units .id .id ht12 (⟨so hF, rfl⟩))⟩)))))), fun q8 => ⟨so (iF q8 hF), rfl⟩⟩)))))) (⟨_, sub_refl, ret0 (so hF) hk⟩))))
theorem ca_is_refuted {X : Cx} {J : Gh} {e : Expr} {es : List Expr} {ρ : DEnv} {M : Mem} {P : D → Mem → Prop} {pos p : Pos} (T : Txt X.K X.mg) (hr : Room 2 X.A) (h : AX X J (e :: es) ρ M fun ds M1 => tr_is_refuted (ds ++ []) M1 P) (hg : Gl X "is_refuted" := by rfl)
    (he : starEach (e :: es) X.env = (false, eval e X.env) :: starEach es X.env := by rfl) (hpl : (backTo pos (starEach es X.env)).any (·.1) = false := by rfl) : EX X J (.Call (.Name "is_refuted" p) (e :: es) [] pos) ρ M P :=
  ex_call (ok_is_refuted T) hr T.m_is_refuted T.d_is_refuted.choose_spec.kp (T.d_is_refuted.choose_spec.bindsN fun _ _ _ _ _ _ us hl => match us, hl with | [_, _, _], _ => rfl) .nil (fun _ => .nil) h hg (by decide) he hpl
def tr_leading_passes : Tr := fun ds M P => ∃ x0 : D, ∃ x1 : D, ∃ r : D, ds = [x0, x1] ∧ F_leading_passes x0 x1 = some r ∧ P r M
theorem len_leading_passes {ds M P} (t : tr_leading_passes ds M P) : ds.length = 2 := by obtain ⟨_, _, _, rfl, _⟩ := t; rfl
set_option maxHeartbeats 0 in
theorem ok_leading_passes {pg : Program} {w : World} {K : PySem.W.Frag} {mg : Str → Option Value} {base : Heap} (T : Txt K mg) : FnOk pg w K mg base CX0 2 (He.fAd K ("leading_passes", none)) T.d_leading_passes.choose ["trial", "due"] (SpD K tr_leading_passes) :=
  fn_okD T.d_leading_passes.choose_spec sc_leading_passes (fun ds M P t => len_leading_passes t) fun cdv A outer s H ds M P hr t => by
  obtain ⟨x0, x1, r, rfl, hF, hk⟩ := t
  unfold F_leading_passes at hF
  refine gx_seq (g1_for PassesOwn.never rfl (bi hF fun l1 hl1 hF => ix_enumU (M2 := M) T.b_enumerate (ax_cons (ex_var 1 rfl (ax_nil (⟨rfl, rfl⟩)))) hl1 (bi hF fun c5 hlc5 hOc5 => forC hlc5 (fun s2 ρ' M' => ∃ j0 : Option D, ∃ j1 : Option D, ρ' = [some x0, some x1, j0, j1] ∧ M' = M) ⟨_, _, rfl, rfl⟩ ?_ ?_)))
  · rintro x4 s2 b6 hF hbb6 _ M ⟨_, _, rfl, rfl⟩
    try dsimp only at hF
    refine bi hF fun p7 hp7 hF => as_eq (un2_eq hp7) (as_tup rfl rfl (asd_cons (as_name 2 (asd_cons (as_name 3 (asd_nil (?_)) sc_leading_passes.nd)) sc_leading_passes.nd)))
    refine gx_seq (g1_if (tx_cmp (ca_state_at T (hr.mono (by decide)) (ax_cons (ex_var 0 rfl (ax_cons (ex_var 3 rfl (ax_nil (bi hF fun v9 hv9 hF => ⟨_, _, v9, rfl, hv9, ex_gstr T.g_PASS (bi hF fun t10 ht10 hF => od_cNe hr.units .id .id ht10 (⟨_, rfl, ⟨fun q8 => ?_, fun q8 => ?_⟩⟩))⟩)))))))))
    · have hF := iT q8 hF
      exact gx_seq (g1_ret (ex_less (ex_var 2 rfl (⟨_, sub_refl, ret0 (so (ctl_retS hOc5 (hbb6 _ (so hF).symm))) hk⟩))))
    · have hF := iF q8 hF
      refine gx_nil ?_
      show GX _ _ _ _ _ _
      exact gx_nil ⟨_, (so hF).symm, ⟨_, _, rfl, rfl⟩⟩
  · rintro r3 hg _ M ⟨_, _, rfl, rfl⟩
    have hF := ctl_go hOc5 hg
    try dsimp only at hF
    show GX _ _ _ _ _ _
    exact gx_seq (g1_ret (ex_less (ex_blt T.b_len bb_len (ax_cons (ex_var 1 rfl (ax_nil (bi hF fun v11 hv11 hF => cd_dLen .id hv11 (⟨_, sub_refl, ret0 (so hF) hk⟩))))))))
theorem ca_leading_passes {X : Cx} {J : Gh} {e : Expr} {es : List Expr} {ρ : DEnv} {M : Mem} {P : D → Mem → Prop} {pos p : Pos} (T : Txt X.K X.mg) (hr : Room 2 X.A) (h : AX X J (e :: es) ρ M fun ds M1 => tr_leading_passes (ds ++ []) M1 P) (hg : Gl X "leading_passes" := by rfl)
    (he : starEach (e :: es) X.env = (false, eval e X.env) :: starEach es X.env := by rfl) (hpl : (backTo pos (starEach es X.env)).any (·.1) = false := by rfl) : EX X J (.Call (.Name "leading_passes" p) (e :: es) [] pos) ρ M P :=
  ex_call (ok_leading_passes T) hr T.m_leading_passes T.d_leading_passes.choose_spec.kp (T.d_leading_passes.choose_spec.bindsN fun _ _ _ _ _ _ us hl => match us, hl with | [_, _], _ => rfl) .nil (fun _ => .nil) h hg (by decide) he hpl
def tr_holds_index : Tr := fun ds M P => ∃ x0 : D, ∃ x1 : D, ∃ x2 : D, ∃ x3 : D, ∃ x4 : D, ∃ x5 : D, ∃ r : D, ds = [x0, x1, x2, x3, x4, x5] ∧ F_holds_index x0 x1 x2 x3 x4 x5 = some r ∧ P r M
theorem len_holds_index {ds M P} (t : tr_holds_index ds M P) : ds.length = 6 := by obtain ⟨_, _, _, _, _, _, _, rfl, _⟩ := t; rfl
set_option maxHeartbeats 0 in
theorem ok_holds_index {pg : Program} {w : World} {K : PySem.W.Frag} {mg : Str → Option Value} {base : Heap} (T : Txt K mg) : FnOk pg w K mg base CX0 4 (He.fAd K ("holds_index", none)) T.d_holds_index.choose ["trials", "thing", "output", "due", "place", "option"] (SpD K tr_holds_index) :=
  fn_okD T.d_holds_index.choose_spec sc_holds_index (fun ds M P t => len_holds_index t) fun cdv A outer s H ds M P hr t => by
  obtain ⟨x0, x1, x2, x3, x4, x5, r, rfl, hF, hk⟩ := t
  unfold F_holds_index at hF
  refine gx_seq (g1_if (bi hF fun t10 ht10 hF => tx_fix t10 M (have hF := ht10; tx_pw (wx_or (tx_not (tx_tru (ca_is_between T (hr.mono (by decide)) (ax_cons (ex_var 1 rfl (ax_cons (ex_int (ax_cons (ex_bin (ex_blt T.b_len bb_len (ax_cons (ex_var 0 rfl (ax_nil (bi hF fun v3 hv3 hF => cd_dLen .id hv3 (ex_int (bi hF fun v4 hv4 hF => od_dSub .id .id hv4 (ax_nil (bi hF fun v5 hv5 hF => ⟨_, _, _, v5, rfl, hv5, bi hF fun t6 ht6 hF => ⟨_, _, .id, ht6, ⟨fun q2 => have hF := iF q2 hF; wx_or1 (tx_cmp (ca_leading_passes T (hr.mono (by decide)) (ax_cons (ex_ix (ex_var 0 rfl (ex_var 1 rfl (bi hF fun v7 hv7 hF => id_dIx .id .id hv7 (ax_cons (ex_var 3 rfl (ax_nil (bi hF fun v8 hv8 hF => ⟨_, _, v8, rfl, hv8, ex_var 4 rfl (bi hF fun t9 ht9 hF => od_cLt .id .id ht9 (⟨_, rfl, ⟨so hF, rfl⟩⟩))⟩))))))))))), fun q2 => ⟨so (iT q2 hF), rfl⟩⟩⟩⟩)))))))))))))))))))) (⟨fun q1 => ?_, fun q1 => ?_⟩)))
  · have hF := iT q1 hF
    exact gx_seq (g1_ret (ex_less (ex_bl (⟨_, sub_refl, ret0 (so hF) hk⟩))))
  · have hF := iF q1 hF
    refine gx_nil ?_
    show GX _ _ _ _ _ _
    exact gx_seq (g1_ret (ex_less (ca_is_refuted T (hr.mono (by decide)) (ax_cons (ex_ix (ex_var 0 rfl (ex_var 1 rfl (bi hF fun v11 hv11 hF => id_dIx .id .id hv11 (ax_cons (ex_var 5 rfl (ax_cons (ca_true_carry T (hr.mono (by decide)) (ax_cons (ex_ix (ex_var 0 rfl (ex_var 1 rfl (bi hF fun v12 hv12 hF => id_dIx .id .id hv12 (ax_cons (ex_var 2 rfl (ax_nil (bi hF fun v13 hv13 hF => ⟨_, _, v13, rfl, hv13, ax_nil (bi hF fun v14 hv14 hF => ⟨_, _, _, v14, rfl, hv14, ⟨_, sub_refl, ret0 (so hF) hk⟩⟩)⟩)))))))))))))))))))))
theorem ca_holds_index {X : Cx} {J : Gh} {e : Expr} {es : List Expr} {ρ : DEnv} {M : Mem} {P : D → Mem → Prop} {pos p : Pos} (T : Txt X.K X.mg) (hr : Room 4 X.A) (h : AX X J (e :: es) ρ M fun ds M1 => tr_holds_index (ds ++ []) M1 P) (hg : Gl X "holds_index" := by rfl)
    (he : starEach (e :: es) X.env = (false, eval e X.env) :: starEach es X.env := by rfl) (hpl : (backTo pos (starEach es X.env)).any (·.1) = false := by rfl) : EX X J (.Call (.Name "holds_index" p) (e :: es) [] pos) ρ M P :=
  ex_call (ok_holds_index T) hr T.m_holds_index T.d_holds_index.choose_spec.kp (T.d_holds_index.choose_spec.bindsN fun _ _ _ _ _ _ us hl => match us, hl with | [_, _, _, _, _, _], _ => rfl) .nil (fun _ => .nil) h hg (by decide) he hpl
def tr_holds_table : Tr := fun ds M P => ∃ x0 : D, ∃ x1 : D, ∃ x2 : D, ∃ x3 : D, ∃ x4 : D, ∃ x5 : D, ∃ r : D, ds = [x0, x1, x2, x3, x4, x5] ∧ F_holds_table x0 x1 x2 x3 x4 x5 = some r ∧ P r M
theorem len_holds_table {ds M P} (t : tr_holds_table ds M P) : ds.length = 6 := by obtain ⟨_, _, _, _, _, _, _, rfl, _⟩ := t; rfl
set_option maxHeartbeats 0 in
theorem ok_holds_table {pg : Program} {w : World} {K : PySem.W.Frag} {mg : Str → Option Value} {base : Heap} (T : Txt K mg) : FnOk pg w K mg base CX0 5 (He.fAd K ("holds_table", none)) T.d_holds_table.choose ["n", "trials", "thing", "output", "ring", "stuck"] (SpD K tr_holds_table) :=
  fn_okD T.d_holds_table.choose_spec sc_holds_table (fun ds M P t => len_holds_table t) fun cdv A outer s H ds M P hr t => by
  obtain ⟨x0, x1, x2, x3, x4, x5, r, rfl, hF, hk⟩ := t
  unfold F_holds_table at hF
  refine gx_seq (g1_asg (ca_due_positions T (hr.mono (by decide)) (ax_cons (ex_var 0 rfl (ax_cons (ex_var 3 rfl (ax_cons (ex_var 4 rfl (ax_nil (bi hF fun v1 hv1 hF => ⟨_, _, _, v1, rfl, hv1, as_name 6 (?_) sc_holds_table.nd⟩))))))))))
  refine gx_seq (g1_asg (ca_options_of T (hr.mono (by decide)) (ax_cons (ex_var 0 rfl (ax_cons (ex_var 3 rfl (ax_cons (ex_var 4 rfl (ax_cons (ex_var 5 rfl (ax_nil (bi hF fun v2 hv2 hF => ⟨_, _, _, _, v2, rfl, hv2, as_name 7 (?_) sc_holds_table.nd⟩))))))))))))
  refine gx_seq (g1_if (tx_not (tx_tru (ca_is_row T (hr.mono (by decide)) (ax_cons (ex_var 2 rfl (ax_cons (ex_blt T.b_len bb_len (ax_cons (ex_var 7 rfl (ax_nil (bi hF fun v4 hv4 hF => cd_dLen .id hv4 (ax_nil (bi hF fun v5 hv5 hF => ⟨_, _, v5, rfl, hv5, bi hF fun t6 ht6 hF => ⟨_, _, .id, ht6, ⟨fun q3 => ?_, fun q3 => ?_⟩⟩⟩))))))))))))))
  · have hF := iT q3 hF
    exact gx_seq (g1_ret (ex_less (ex_bl (⟨_, sub_refl, ret0 (so hF) hk⟩))))
  · have hF := iF q3 hF
    refine gx_nil ?_
    show GX _ _ _ _ _ _
    refine gx_seq (g1_for PassesOwn.never rfl (bi hF fun l7 hl7 hF => ix_enumU (M2 := M) T.b_enumerate (ax_cons (ex_var 7 rfl (ax_nil (⟨rfl, rfl⟩)))) hl7 (bi hF fun c11 hlc11 hOc11 => forC hlc11 (fun s8 ρ' M' => ∃ j0 : Option D, ∃ j1 : Option D, ∃ j2 : Option D, ∃ j3 : Option D, ρ' = [some x0, some x1, some x2, some x3, some x4, some x5, some v1, some v2, j0, j1, j2, j3] ∧ M' = M) ⟨_, _, _, _, rfl, rfl⟩ ?_ ?_)))
    · rintro x10 s8 b12 hF hbb12 _ M ⟨_, _, _, _, rfl, rfl⟩
      try dsimp only at hF
      refine bi hF fun p13 hp13 hF => as_eq (un2_eq hp13) (as_tup rfl rfl (asd_cons (as_name 8 (asd_cons (as_name 9 (asd_nil (?_)) sc_holds_table.nd)) sc_holds_table.nd)))
      refine gx_seq (g1_if (tx_not (tx_tru (ca_is_row T (hr.mono (by decide)) (ax_cons (ex_ix (ex_var 2 rfl (ex_var 8 rfl (bi hF fun v15 hv15 hF => id_dIx .id .id hv15 (ax_cons (ex_blt T.b_len bb_len (ax_cons (ex_var 9 rfl (ax_nil (bi hF fun v16 hv16 hF => cd_dLen .id hv16 (ax_nil (bi hF fun v17 hv17 hF => ⟨_, _, v17, rfl, hv17, bi hF fun t18 ht18 hF => ⟨_, _, .id, ht18, ⟨fun q14 => ?_, fun q14 => ?_⟩⟩⟩)))))))))))))))))
      · have hF := iT q14 hF
        exact gx_seq (g1_ret (ex_less (ex_bl (⟨_, sub_refl, ret0 (so (ctl_retS hOc11 (hbb12 _ (so hF).symm))) hk⟩))))
      · have hF := iF q14 hF
        refine gx_nil ?_
        show GX _ _ _ _ _ _
        refine gx_seq (g1_for PassesOwn.never rfl (bi hF fun v20 hv20 hF => bi hF fun l21 hl21 hF => ix_zipU (M2 := M) T.b_zip ((have hF := hv20; ax_cons (ex_var 9 rfl (ax_cons (ex_ix (ex_var 2 rfl (ex_var 8 rfl (bi hF fun v19 hv19 hF => id_dIx .id .id hv19 (ax_nil ((by cases hF; exact ⟨rfl, rfl⟩))))))))))) hl21 (bi hF fun c25 hlc25 hOc25 => forC hlc25 (fun s22 ρ' M' => ∃ j0 : Option D, ∃ j1 : Option D, ρ' = [some x0, some x1, some x2, some x3, some x4, some x5, some v1, some v2, some p13.1, some p13.2, j0, j1] ∧ M' = M) ⟨_, _, rfl, rfl⟩ ?_ ?_)))
        · rintro x24 s22 b26 hF hbb26 _ M ⟨_, _, rfl, rfl⟩
          try dsimp only at hF
          refine bi hF fun p27 hp27 hF => as_eq (un2_eq hp27) (as_tup rfl rfl (asd_cons (as_name 10 (asd_cons (as_name 11 (asd_nil (?_)) sc_holds_table.nd)) sc_holds_table.nd)))
          refine gx_seq (g1_if (tx_not (tx_tru (ca_holds_index T (hr.mono (by decide)) (ax_cons (ex_var 1 rfl (ax_cons (ex_var 11 rfl (ax_cons (ex_var 3 rfl (ax_cons (ex_var 6 rfl (ax_cons (ex_var 8 rfl (ax_cons (ex_var 10 rfl (ax_nil (bi hF fun v29 hv29 hF => ⟨_, _, _, _, _, _, v29, rfl, hv29, bi hF fun t30 ht30 hF => ⟨_, _, .id, ht30, ⟨fun q28 => ?_, fun q28 => ?_⟩⟩⟩))))))))))))))))))
          · have hF := iT q28 hF
            exact gx_seq (g1_ret (ex_less (ex_bl (⟨_, sub_refl, ret0 (so (ctl_retS hOc11 (hbb12 _ (so (ctl_retR hOc25 (hbb26 _ (so hF).symm))).symm))) hk⟩))))
          · have hF := iF q28 hF
            refine gx_nil ?_
            show GX _ _ _ _ _ _
            exact gx_nil ⟨_, (so hF).symm, ⟨_, _, rfl, rfl⟩⟩
        · rintro r23 hg _ M ⟨_, _, rfl, rfl⟩
          have hF := ctl_go hOc25 hg
          try dsimp only at hF
          show GX _ _ _ _ _ _
          exact gx_nil ⟨_, (so hF).symm, ⟨_, _, _, _, rfl, rfl⟩⟩
    · rintro r9 hg _ M ⟨_, _, _, _, rfl, rfl⟩
      have hF := ctl_go hOc11 hg
      try dsimp only at hF
      show GX _ _ _ _ _ _
      exact gx_seq (g1_ret (ex_less (ex_bl (⟨_, sub_refl, ret0 (so hF) hk⟩))))
theorem ca_holds_table {X : Cx} {J : Gh} {e : Expr} {es : List Expr} {ρ : DEnv} {M : Mem} {P : D → Mem → Prop} {pos p : Pos} (T : Txt X.K X.mg) (hr : Room 5 X.A) (h : AX X J (e :: es) ρ M fun ds M1 => tr_holds_table (ds ++ []) M1 P) (hg : Gl X "holds_table" := by rfl)
    (he : starEach (e :: es) X.env = (false, eval e X.env) :: starEach es X.env := by rfl) (hpl : (backTo pos (starEach es X.env)).any (·.1) = false := by rfl) : EX X J (.Call (.Name "holds_table" p) (e :: es) [] pos) ρ M P :=
  ex_call (ok_holds_table T) hr T.m_holds_table T.d_holds_table.choose_spec.kp (T.d_holds_table.choose_spec.bindsN fun _ _ _ _ _ _ us hl => match us, hl with | [_, _, _, _, _, _], _ => rfl) .nil (fun _ => .nil) h hg (by decide) he hpl
def tr_check_judgement : Tr := fun ds M P => ∃ x0 : D, ∃ x1 : D, ∃ x2 : D, ∃ x3 : D, ∃ x4 : D, ∃ x5 : D, ∃ r : D, ds = [x0, x1, x2, x3, x4, x5] ∧ F_check_judgement x0 x1 x2 x3 x4 x5 = some r ∧ P r M
theorem len_check_judgement {ds M P} (t : tr_check_judgement ds M P) : ds.length = 6 := by obtain ⟨_, _, _, _, _, _, _, rfl, _⟩ := t; rfl
set_option maxHeartbeats 0 in
theorem ok_check_judgement {pg : Program} {w : World} {K : PySem.W.Frag} {mg : Str → Option Value} {base : Heap} (T : Txt K mg) : BodyOk pg w K mg base false 5 (He.fAd K ("check_judgement", none)) "check_judgement" (defBody s_check_judgement) (defScope s_check_judgement) ["n", "trials", "thing", "outputs", "ring", "stuck", "asked", "table", "output"] ["n", "trials", "thing", "outputs", "ring", "stuck"] tr_check_judgement := fun cdv A outer s H ds M P hgd0 hr t => by
  obtain ⟨x0, x1, x2, x3, x4, x5, r, rfl, hF, hk⟩ := t
  unfold F_check_judgement at hF
  refine gx_seq (g1_if (bi hF fun t10 ht10 hF => tx_fix t10 M (have hF := ht10; tx_pw (wx_or (tx_not (tx_tru (ex_blt T.b_isinstance bb_isi (ax_cons (ex_var 2 rfl (ax_cons (ex_tyn T.b_tuple bb_tuple (ax_nil (bi hF fun t3 ht3 hF => cd_dIsi (by decide) .id rfl ht3 (bi hF fun t4 ht4 hF => ⟨_, _, .id, ht4, ⟨fun q2 => have hF := iF q2 hF; wx_or (tx_cmp (ex_var 2 rfl (ex_tup (ax_nil (⟨le_b rfl, bi hF fun t6 ht6 hF => od_cEq hr.units .id .id ht6 (⟨_, rfl, ⟨fun q5 => have hF := iF q5 hF; wx_or1 (tx_not (tx_tru (ex_blt T.b_isinstance bb_isi (ax_cons (ex_ix (ex_var 2 rfl (ex_int (bi hF fun v7 hv7 hF => id_dIx .id .id hv7 (ax_cons (ex_tyn T.b_str bb_str (ax_nil (bi hF fun t8 ht8 hF => cd_dIsi (by decide) .id rfl ht8 (bi hF fun t9 ht9 hF => ⟨_, _, .id, ht9, ⟨so hF, rfl⟩⟩))))))))))))), fun q5 => ⟨so (iT q5 hF), rfl⟩⟩⟩)⟩))))), fun q2 => ⟨so (iT q2 hF), rfl⟩⟩⟩)))))))))))) (⟨fun q1 => ?_, fun q1 => ?_⟩)))
  · have hF := iT q1 hF
    exact gx_seq (g1_ret (ex_less (ex_bl (⟨_, sub_refl, ret0 (so hF) hk⟩))))
  · have hF := iF q1 hF
    refine gx_nil ?_
    show GX _ _ _ _ _ _
    refine gx_seq (g1_asg (ca_outputs_asked T (hr.mono (by decide)) (ax_cons (ex_var 0 rfl (ax_cons (ex_var 3 rfl (ax_cons (ex_var 4 rfl (ax_nil (bi hF fun v11 hv11 hF => ⟨_, _, _, v11, rfl, hv11, as_name 6 (?_) sc_check_judgement.nd⟩))))))))))
    refine gx_seq (g1_if (tx_cmp (ex_ix (ex_var 2 rfl (ex_int (bi hF fun v13 hv13 hF => id_dIx .id .id hv13 (ex_gstr T.g_SHORT (bi hF fun t14 ht14 hF => od_cEq hr.units .id .id ht14 (⟨_, rfl, ⟨fun q12 => ?_, fun q12 => ?_⟩⟩)))))))))
    · have hF := iT q12 hF
      exact gx_seq (g1_ret (ex_less (bi hF fun v20 hv20 hF => ex_fix v20 M (have hF := hv20; ex_andT (ex_cmp (ex_blt T.b_len bb_len (ax_cons (ex_var 2 rfl (ax_nil (bi hF fun v16 hv16 hF => cd_dLen .id hv16 (ex_int (bi hF fun t17 ht17 hF => od_cEq hr.units .id .id ht17 (bi hF fun t18 ht18 hF => ⟨_, _, .id, ht18, fun q15 => have hF := iT q15 hF; ex_one (ca_holds_short T (hr.mono (by decide)) (ax_cons (ex_var 0 rfl (ax_cons (ex_var 1 rfl (ax_cons (ex_var 2 rfl (ax_cons (ex_var 6 rfl (ax_cons (ex_var 4 rfl (ax_cons (ex_var 5 rfl (ax_nil (bi hF fun v19 hv19 hF => ⟨_, _, _, _, _, _, v19, rfl, hv19, ⟨so hF, rfl⟩⟩))))))))))))))), fun q15 => ⟨so (iF q15 hF), rfl⟩⟩)))))))))) (⟨_, sub_refl, ret0 (so hF) hk⟩))))
    · have hF := iF q12 hF
      refine gx_nil ?_
      show GX _ _ _ _ _ _
      refine gx_seq (g1_if (bi hF fun t32 ht32 hF => tx_fix t32 M (have hF := ht32; tx_pw (wx_or (tx_cmp (ex_ix (ex_var 2 rfl (ex_int (bi hF fun v23 hv23 hF => id_dIx .id .id hv23 (ex_gstr T.g_ENOUGH (bi hF fun t24 ht24 hF => od_cNe hr.units .id .id ht24 (⟨_, rfl, ⟨fun q22 => have hF := iF q22 hF; wx_or (tx_cmp (ex_blt T.b_len bb_len (ax_cons (ex_var 2 rfl (ax_nil (bi hF fun v26 hv26 hF => cd_dLen .id hv26 (ex_int (bi hF fun t27 ht27 hF => od_cNe hr.units .id .id ht27 (⟨_, rfl, ⟨fun q25 => have hF := iF q25 hF; wx_or1 (tx_not (tx_tru (ca_is_row T (hr.mono (by decide)) (ax_cons (ex_ix (ex_var 2 rfl (ex_int (bi hF fun v28 hv28 hF => id_dIx .id .id hv28 (ax_cons (ex_blt T.b_len bb_len (ax_cons (ex_var 6 rfl (ax_nil (bi hF fun v29 hv29 hF => cd_dLen .id hv29 (ax_nil (bi hF fun v30 hv30 hF => ⟨_, _, v30, rfl, hv30, bi hF fun t31 ht31 hF => ⟨_, _, .id, ht31, ⟨so hF, rfl⟩⟩⟩)))))))))))))))), fun q25 => ⟨so (iT q25 hF), rfl⟩⟩⟩))))))))), fun q22 => ⟨so (iT q22 hF), rfl⟩⟩⟩)))))))))) (⟨fun q21 => ?_, fun q21 => ?_⟩)))
      · have hF := iT q21 hF
        exact gx_seq (g1_ret (ex_less (ex_bl (⟨_, sub_refl, ret0 (so hF) hk⟩))))
      · have hF := iF q21 hF
        refine gx_nil ?_
        show GX _ _ _ _ _ _
        exact gx_seq (g1_ret (ex_less (ex_blt T.b_all bb_all (ax_cons (ex_lc (own := [("table", 7), ("output", 8)]) (hN := sc_check_judgement.nd) rfl (bi hF fun v34 hv34 hF => bi hF fun l35 hl35 hF => ix_zipU (M2 := M) T.b_zip ((have hF := hv34; ax_cons (ex_ix (ex_var 2 rfl (ex_int (bi hF fun v33 hv33 hF => id_dIx .id .id hv33 (ax_cons (ex_var 6 rfl (ax_nil ((by cases hF; exact ⟨rfl, rfl⟩))))))))))) hl35 (bi hF fun _ hz40 hF => bi hF fun y38 hy38 hF => lcF hy38 (chk_inv hz40).1 (fun x37 _ acc d39 hF hd39 => have fb_d39 := hd39; bi hF fun p42 hp42 hF => asb_eq (un2_eq hp42) (asb_tup rfl (asb_cons (asb_name 7 (asb_cons (asb_name 8 (asb_nil (fun _ _ _ _ _ => ca_holds_table T (hr.mono (by decide)) (ax_cons (ex_var 0 rfl (ax_cons (ex_var 1 rfl (ax_cons (ex_var 7 rfl (ax_cons (ex_var 8 rfl (ax_cons (ex_var 4 rfl (ax_cons (ex_var 5 rfl (ax_nil (bi hF fun v43 hv43 hF => ⟨_, _, _, _, _, _, v43, rfl, hv43, ⟨so hF, rfl⟩⟩)))))))))))))))) (hN := sc_check_judgement.nd))) (hN := sc_check_judgement.nd))))) (ax_nil (bi hF fun v44 hv44 hF => cd_dAll rfl .id hv44 (⟨_, sub_refl, ret0 (so hF) hk⟩))))))))))
theorem cv_check_judgement_0_thing_trials_n_stuck_ring_outputs {X : Cx} {J : Gh} {e0 : Expr} {p0 : Pos} {e1 : Expr} {p1 : Pos} {e2 : Expr} {p2 : Pos} {e3 : Expr} {p3 : Pos} {e4 : Expr} {p4 : Pos} {e5 : Expr} {p5 : Pos} {ρ : DEnv} {M : Mem} {P : D → Mem → Prop} {pos p : Pos} (T : Txt X.K X.mg) (hr : Room 6 X.A) (h : KX X J [⟨some "thing", e0, p0⟩, ⟨some "trials", e1, p1⟩, ⟨some "n", e2, p2⟩, ⟨some "stuck", e3, p3⟩, ⟨some "ring", e4, p4⟩, ⟨some "outputs", e5, p5⟩] ρ M fun zs M2 => zs.length = (["thing", "trials", "n", "stuck", "ring", "outputs"] : List PySem.Str).length ∧ (([] : List D).length = 0 ∧ zs.length = (["thing", "trials", "n", "stuck", "ring", "outputs"] : List PySem.Str).length ∧ tr_check_judgement (pick ([] ++ ([] ++ zs)) [2, 1, 0, 5, 4, 3]) M2 P)) (hg : Gl X "check_judgement" := by rfl)
    (hall : (backToKw pos (keywordEach [⟨some "thing", e0, p0⟩, ⟨some "trials", e1, p1⟩, ⟨some "n", e2, p2⟩, ⟨some "stuck", e3, p3⟩, ⟨some "ring", e4, p4⟩, ⟨some "outputs", e5, p5⟩] X.env)).all (·.1.isSome) = true := by rfl) (hks : (backToKw pos (keywordEach [⟨some "thing", e0, p0⟩, ⟨some "trials", e1, p1⟩, ⟨some "n", e2, p2⟩, ⟨some "stuck", e3, p3⟩, ⟨some "ring", e4, p4⟩, ⟨some "outputs", e5, p5⟩] X.env)).filterMap (·.1) = (["thing", "trials", "n", "stuck", "ring", "outputs"] : List PySem.Str) := by rfl) (hpl : ((backTo pos (starEach [] X.env)).any (·.1) || (backToKw pos (keywordEach [⟨some "thing", e0, p0⟩, ⟨some "trials", e1, p1⟩, ⟨some "n", e2, p2⟩, ⟨some "stuck", e3, p3⟩, ⟨some "ring", e4, p4⟩, ⟨some "outputs", e5, p5⟩] X.env)).any (·.1.isNone)) = false := by rfl) :
    EX X J (.Call (.Name "check_judgement" p) [] [⟨some "thing", e0, p0⟩, ⟨some "trials", e1, p1⟩, ⟨some "n", e2, p2⟩, ⟨some "stuck", e3, p3⟩, ⟨some "ring", e4, p4⟩, ⟨some "outputs", e5, p5⟩] pos) ρ M P :=
  ex_callV0 (fn_kwV T.d_check_judgement.choose_spec sc_check_judgement (ok_check_judgement T) 0 (["thing", "trials", "n", "stuck", "ring", "outputs"] : List PySem.Str) [] [] [2, 1, 0, 5, 4, 3] (by simp) (fun _ => .nil) (fun kV D doc pm an cdv ct us mv ws e h1 h2 h3 => match us, mv, ws, h1, h2, h3 with | [], [], [_, _, _, _, _, _], _, _, _ => rfl) (fun us mv ws h1 h2 h3 => match us, mv, ws, h1, h2, h3 with | [], [], [_, _, _, _, _, _], _, _, _ => rfl)) (fun h => nomatch h) hr T.m_check_judgement T.d_check_judgement.choose_spec.kp h hg hall hks (by decide) hpl
theorem cv_check_judgement_3_outputs {X : Cx} {J : Gh} {e : Expr} {es : List Expr} {e0 : Expr} {p0 : Pos} {ρ : DEnv} {M : Mem} {P : D → Mem → Prop} {pos p : Pos} (T : Txt X.K X.mg) (hr : Room 6 X.A) (h : AX X J (e :: es) ρ M fun ds M1 => KX X J [⟨some "outputs", e0, p0⟩] ρ M1 fun zs M2 => zs.length = (["outputs"] : List PySem.Str).length ∧ (ds.length = 3 ∧ zs.length = (["outputs"] : List PySem.Str).length ∧ tr_check_judgement (pick (ds ++ ([D.bl false, D.bl false] ++ zs)) [0, 1, 2, 5, 3, 4]) M2 P)) (hg : Gl X "check_judgement" := by rfl)
    (hall : (backToKw pos (keywordEach [⟨some "outputs", e0, p0⟩] X.env)).all (·.1.isSome) = true := by rfl) (hks : (backToKw pos (keywordEach [⟨some "outputs", e0, p0⟩] X.env)).filterMap (·.1) = (["outputs"] : List PySem.Str) := by rfl) (he : starEach (e :: es) X.env = (false, eval e X.env) :: starEach es X.env := by rfl) (hpl : ((backTo pos (starEach (e :: es) X.env)).any (·.1) || (backToKw pos (keywordEach [⟨some "outputs", e0, p0⟩] X.env)).any (·.1.isNone)) = false := by rfl) :
    EX X J (.Call (.Name "check_judgement" p) (e :: es) [⟨some "outputs", e0, p0⟩] pos) ρ M P :=
  ex_callV (fn_kwV T.d_check_judgement.choose_spec sc_check_judgement (ok_check_judgement T) 3 (["outputs"] : List PySem.Str) [("ring", .bl false), ("stuck", .bl false)] [D.bl false, D.bl false] [0, 1, 2, 5, 3, 4] (by simp) (fun _ => .cons (.bl _) (.cons (.bl _) (.nil))) (fun kV D doc pm an cdv ct us mv ws e h1 h2 h3 => by have e2 := e (by simp); subst e2; exact match us, mv, ws, h1, h2, h3 with | [_, _, _], [_, _], [_], _, _, _ => ⟨_, _, _, _, _, _, rfl, rfl, ⟨_, _, _, _, _, _, rfl, rfl, rfl⟩⟩) (fun us mv ws h1 h2 h3 => match us, mv, ws, h1, h2, h3 with | [_, _, _], [_, _], [_], _, _, _ => rfl)) (fun h => nomatch h) hr T.m_check_judgement T.d_check_judgement.choose_spec.kp h hg hall hks (by decide) he hpl
theorem cv_check_judgement_3_outputs_ring_stuck {X : Cx} {J : Gh} {e : Expr} {es : List Expr} {e0 : Expr} {p0 : Pos} {e1 : Expr} {p1 : Pos} {e2 : Expr} {p2 : Pos} {ρ : DEnv} {M : Mem} {P : D → Mem → Prop} {pos p : Pos} (T : Txt X.K X.mg) (hr : Room 6 X.A) (h : AX X J (e :: es) ρ M fun ds M1 => KX X J [⟨some "outputs", e0, p0⟩, ⟨some "ring", e1, p1⟩, ⟨some "stuck", e2, p2⟩] ρ M1 fun zs M2 => zs.length = (["outputs", "ring", "stuck"] : List PySem.Str).length ∧ (ds.length = 3 ∧ zs.length = (["outputs", "ring", "stuck"] : List PySem.Str).length ∧ tr_check_judgement (pick (ds ++ ([] ++ zs)) [0, 1, 2, 3, 4, 5]) M2 P)) (hg : Gl X "check_judgement" := by rfl)
    (hall : (backToKw pos (keywordEach [⟨some "outputs", e0, p0⟩, ⟨some "ring", e1, p1⟩, ⟨some "stuck", e2, p2⟩] X.env)).all (·.1.isSome) = true := by rfl) (hks : (backToKw pos (keywordEach [⟨some "outputs", e0, p0⟩, ⟨some "ring", e1, p1⟩, ⟨some "stuck", e2, p2⟩] X.env)).filterMap (·.1) = (["outputs", "ring", "stuck"] : List PySem.Str) := by rfl) (he : starEach (e :: es) X.env = (false, eval e X.env) :: starEach es X.env := by rfl) (hpl : ((backTo pos (starEach (e :: es) X.env)).any (·.1) || (backToKw pos (keywordEach [⟨some "outputs", e0, p0⟩, ⟨some "ring", e1, p1⟩, ⟨some "stuck", e2, p2⟩] X.env)).any (·.1.isNone)) = false := by rfl) :
    EX X J (.Call (.Name "check_judgement" p) (e :: es) [⟨some "outputs", e0, p0⟩, ⟨some "ring", e1, p1⟩, ⟨some "stuck", e2, p2⟩] pos) ρ M P :=
  ex_callV (fn_kwV T.d_check_judgement.choose_spec sc_check_judgement (ok_check_judgement T) 3 (["outputs", "ring", "stuck"] : List PySem.Str) [] [] [0, 1, 2, 3, 4, 5] (by simp) (fun _ => .nil) (fun kV D doc pm an cdv ct us mv ws e h1 h2 h3 => match us, mv, ws, h1, h2, h3 with | [_, _, _], [], [_, _, _], _, _, _ => rfl) (fun us mv ws h1 h2 h3 => match us, mv, ws, h1, h2, h3 with | [_, _, _], [], [_, _, _], _, _, _ => rfl)) (fun h => nomatch h) hr T.m_check_judgement T.d_check_judgement.choose_spec.kp h hg hall hks (by decide) he hpl
def tr_Lput : Tr := fun ds M P => ∃ x0 : D, ∃ x1 : D, ∃ x2 : D, ∃ r : D, ds = [x0, x1, x2] ∧ F_Lput x0 x1 x2 = some r ∧ P r M
theorem len_Lput {ds M P} (t : tr_Lput ds M P) : ds.length = 3 := by obtain ⟨_, _, _, _, rfl, _⟩ := t; rfl
set_option maxHeartbeats 0 in
theorem ok_Lput {pg : Program} {w : World} {K : PySem.W.Frag} {mg : Str → Option Value} {base : Heap} (T : Txt K mg) : FnOk pg w K mg base CX0 1 (He.fAd K ("_law_put", none)) T.d_Lput.choose ["_law_size", "_law_marks", "_law_last"] (SpD K tr_Lput) :=
  fn_okD T.d_Lput.choose_spec sc_Lput (fun ds M P t => len_Lput t) fun cdv A outer s H ds M P hr t => by
  obtain ⟨x0, x1, x2, r, rfl, hF, hk⟩ := t
  unfold F_Lput at hF
  refine gx_seq (g1_asg (ex_bin (ex_bin (ex_lst (ax_cons (ex_str (ax_nil (⟨le_b rfl, ex_var 0 rfl (bi hF fun v1 hv1 hF => od_dMul .id .id hv1 (ex_lst (ax_cons (ex_var 2 rfl (ax_nil (⟨le_b rfl, bi hF fun l2 hl2 hF => od_lAdd .id .id hl2 (fun a3 ha3 => have fb_a3 := ha3; as_name 3 (?_) sc_Lput.nd)⟩))))))⟩))))))))
  refine gx_seq (g1_for PassesOwn.never rfl (bi hF fun l4 hl4 hF => ix_seqU (M2 := (up M a3 (.lst l2))) (ex_var 1 rfl (⟨rfl, rfl⟩)) hl4 (bi hF fun r6 hlr6 hF => forF hlr6 (fun s5 ρ' M' => ∃ j0 : Option D, ∃ j1 : Option D, ρ' = [some x0, some x1, some x2, some (.adr a3), j0, j1] ∧ M' = (up M a3 (.lst s5))) ⟨_, _, rfl, rfl⟩ ?_ ?_)))
  · rintro x7 s5 _ hF _ _ ⟨_, _, rfl, rfl⟩
    try dsimp only at hF
    refine bi hF fun p10 hp10 hF => as_eq (un2_eq hp10) (as_tup rfl rfl (asd_cons (as_name 4 (asd_cons (as_name 5 (asd_nil (?_)) sc_Lput.nd)) sc_Lput.nd)))
    refine gx_seq (g1_setIxF (ex_var 5 rfl (ex_var 3 rfl (ex_bin (ex_var 0 rfl (ex_var 4 rfl (bi hF fun v11 hv11 hF => od_dSub .id .id hv11 (bi hF fun l12 hl12 hF => ⟨_, _, _, l12, rfl, at0, hl12, ?_⟩))))))))
    cases hF
    exact gx_nil ⟨_, _, rfl, rfl⟩
  · rintro _ _ ⟨_, _, rfl, rfl⟩
    try dsimp only at hF
    show GX _ _ _ _ _ _
    exact gx_seq (g1_ret (ex_less (ex_joinF (ex_str (bi hF fun s13 hs13 hF => ⟨s13, strD_eq hs13, ex_var 3 rfl (bi hF fun v14 hv14 hF => ⟨_, v14, (.ad at0.get rfl), hv14, ⟨_, (sub_drop sub_refl fb_a3), ret0 (so hF) hk⟩⟩)⟩)))))
theorem ca_Lput {X : Cx} {J : Gh} {e : Expr} {es : List Expr} {ρ : DEnv} {M : Mem} {P : D → Mem → Prop} {pos p : Pos} (T : Txt X.K X.mg) (hr : Room 1 X.A) (h : AX X J (e :: es) ρ M fun ds M1 => tr_Lput (ds ++ []) M1 P) (hg : Gl X "_law_put" := by rfl)
    (he : starEach (e :: es) X.env = (false, eval e X.env) :: starEach es X.env := by rfl) (hpl : (backTo pos (starEach es X.env)).any (·.1) = false := by rfl) : EX X J (.Call (.Name "_law_put" p) (e :: es) [] pos) ρ M P :=
  ex_call (ok_Lput T) hr T.m_Lput T.d_Lput.choose_spec.kp (T.d_Lput.choose_spec.bindsN fun _ _ _ _ _ _ us hl => match us, hl with | [_, _, _], _ => rfl) .nil (fun _ => .nil) h hg (by decide) he hpl
def tr_Lstandard : Tr := fun ds M P => ∃ x0 : D, ∃ x1 : D, ∃ x2 : D, ∃ r : List D, ds = [x0, x1, x2] ∧ F_Lstandard x0 x1 x2 = some r ∧ (∀ q, M q = none → P (.adr q) (up M q (.lst r)))
theorem len_Lstandard {ds M P} (t : tr_Lstandard ds M P) : ds.length = 3 := by obtain ⟨_, _, _, _, rfl, _⟩ := t; rfl
set_option maxHeartbeats 0 in
theorem ok_Lstandard {pg : Program} {w : World} {K : PySem.W.Frag} {mg : Str → Option Value} {base : Heap} (T : Txt K mg) : FnOk pg w K mg base CX0 2 (He.fAd K ("_law_standard", none)) T.d_Lstandard.choose ["_law_size", "_law_is_ring", "_law_is_stuck"] (SpD K tr_Lstandard) :=
  fn_okD T.d_Lstandard.choose_spec sc_Lstandard (fun ds M P t => len_Lstandard t) fun cdv A outer s H ds M P hr t => by
  obtain ⟨x0, x1, x2, r, rfl, hF, hk⟩ := t
  unfold F_Lstandard at hF
  refine gx_seq (g1_asg (ex_lstM (ax_nil (⟨le_b rfl, fun a1 ha1 => have fb_a1 := ha1; as_name 3 (?_) sc_Lstandard.nd⟩))))
  refine gx_seq (bi hF fun r3 hF hRr3 => g1_mid (fun ρ' M' => ∃ j0 : Option D, ρ' = [some x0, some x1, some x2, some r3, j0] ∧ M' = M) (g1_if (tx_tru (ex_var 1 rfl (bi hF fun t4 ht4 hF => ⟨_, _, .id, ht4, ⟨fun q2 => ?_, fun q2 => ?_⟩⟩)))) ?_)
  · have hF := iT q2 hF
    refine gx_seq (g1_for PassesOwn.never rfl (bi hF fun v6 hv6 hF => bi hF fun l7 hl7 hF => ix_range2U (M2 := (up M a1 (.lst []))) T.b_range ((have hF := hv6; ax_cons (ex_int (ax_cons (ex_bin (ex_var 0 rfl (ex_int (bi hF fun v5 hv5 hF => od_dAdd .id .id hv5 (ax_nil ((by cases hF; exact ⟨rfl, rfl⟩))))))))))) hl7 (bi hF fun r9 hlr9 hF => forF hlr9 (fun s8 ρ' M' => ∃ j0 : Option D, ρ' = [some x0, some x1, some x2, some (.adr a1), j0] ∧ M' = (up M a1 (.lst s8))) ⟨_, rfl, rfl⟩ ?_ ?_)))
    · rintro x10 s8 _ hF _ _ ⟨_, rfl, rfl⟩
      try dsimp only at hF
      refine as_name 4 (?_) sc_Lstandard.nd
      refine gx_seq (g1_expr (ex_append (ex_var 3 rfl (⟨_, _, rfl, at0.get, ax_cons (ca_Lput T (hr.mono (by decide)) (ax_cons (ex_var 0 rfl (ax_cons (ex_lst (ax_cons (ex_tup (ax_cons (ex_var 4 rfl (ax_cons (ex_str (ax_nil (⟨le_b rfl, ax_nil (⟨le_b rfl, ax_cons (ex_str (ax_nil (bi hF fun v13 hv13 hF => ⟨_, _, _, v13, rfl, hv13, ax_nil (bi hF fun _ h14 hF => ⟨_, _, _, rfl, at0, (chk_inv h14).1, ?_⟩)⟩)))⟩)⟩)))))))))))))⟩))))
      cases hF
      exact gx_nil ⟨_, rfl, rfl⟩
    · rintro _ _ ⟨_, rfl, rfl⟩
      try dsimp only at hF
      show GX _ _ _ _ _ _
      refine gx_seq (g1_for PassesOwn.never rfl (bi hF fun v16 hv16 hF => bi hF fun l17 hl17 hF => ix_range2U (M2 := (up M a1 (.lst r9))) T.b_range ((have hF := hv16; ax_cons (ex_int (ax_cons (ex_bin (ex_var 0 rfl (ex_int (bi hF fun v15 hv15 hF => od_dAdd .id .id hv15 (ax_nil ((by cases hF; exact ⟨rfl, rfl⟩))))))))))) hl17 (bi hF fun r19 hlr19 hF => forF hlr19 (fun s18 ρ' M' => ∃ j0 : Option D, ρ' = [some x0, some x1, some x2, some (.adr a1), j0] ∧ M' = (up M a1 (.lst s18))) ⟨_, rfl, rfl⟩ ?_ ?_)))
      · rintro x20 s18 _ hF _ _ ⟨_, rfl, rfl⟩
        try dsimp only at hF
        refine as_name 4 (?_) sc_Lstandard.nd
        refine gx_seq (g1_expr (ex_append (ex_var 3 rfl (⟨_, _, rfl, at0.get, ax_cons (ca_Lput T (hr.mono (by decide)) (ax_cons (ex_var 0 rfl (ax_cons (ex_lst (ax_cons (ex_tup (ax_cons (ex_var 4 rfl (ax_cons (ex_str (ax_nil (⟨le_b rfl, ax_cons (ex_tup (ax_cons (bi hF fun v26 hv26 hF => ex_fix v26 (up M a1 (.lst s18)) (have hF := hv26; ex_if (tx_cmp (ex_var 4 rfl (ex_int (bi hF fun t23 ht23 hF => od_cGt .id .id ht23 (⟨_, rfl, ⟨fun q25 => have hF := iT q25 hF; ex_bin (ex_var 4 rfl (ex_int (bi hF fun v24 hv24 hF => od_dSub .id .id hv24 (⟨so hF, rfl⟩)))), fun q25 => have hF := iF q25 hF; ex_var 0 rfl (⟨so hF, rfl⟩)⟩⟩)))))) (ax_cons (ex_str (ax_nil (⟨le_b rfl, ax_nil (⟨le_b rfl, ax_cons (ex_str (ax_nil (bi hF fun v27 hv27 hF => ⟨_, _, _, v27, rfl, hv27, ax_nil (bi hF fun _ h28 hF => ⟨_, _, _, rfl, at0, (chk_inv h28).1, ?_⟩)⟩)))⟩)⟩)))))))⟩)))))))))))))⟩))))
        cases hF
        exact gx_nil ⟨_, rfl, rfl⟩
      · rintro _ _ ⟨_, rfl, rfl⟩
        try dsimp only at hF
        show GX _ _ _ _ _ _
        refine gx_frzA 3 rfl at0.get (subx_here fb_a1) ?_
        show GX _ _ _ _ _ _
        cases hF
        exact gx_nil ⟨_, rfl, rfl⟩
  · have hF := iF q2 hF
    refine gx_seq (g1_asg (ex_lstM (ax_cons (ca_Lput T (hr.mono (by decide)) (ax_cons (ex_var 0 rfl (ax_cons (ex_lst (ax_nil (⟨le_b rfl, ax_cons (ex_str (ax_nil (bi hF fun v29 hv29 hF => ⟨_, _, _, v29, rfl, hv29, ax_cons (ca_Lput T (hr.mono (by decide)) (ax_cons (ex_var 0 rfl (ax_cons (ex_lst (ax_cons (ex_tup (ax_cons (ex_int (ax_cons (ex_str (ax_nil (⟨le_b rfl, ax_nil (⟨le_b rfl, ax_cons (ex_str (ax_nil (bi hF fun v30 hv30 hF => ⟨_, _, _, v30, rfl, hv30, ax_nil (⟨le_b rfl, fun a31 ha31 => have ne_a1_a31 := (up_none ha31).1; have fb_a31 := (up_none ha31).2; as_name 3 (?_) sc_Lstandard.nd⟩)⟩)))⟩)⟩)))))))))))))⟩)))⟩))))))))))
    refine gx_seq (g1_for PassesOwn.never rfl (bi hF fun v33 hv33 hF => bi hF fun l34 hl34 hF => ix_range2U (M2 := (up (up M a1 (.lst [])) a31 (.lst [v29, v30]))) T.b_range ((have hF := hv33; ax_cons (ex_int (ax_cons (ex_bin (ex_var 0 rfl (ex_int (bi hF fun v32 hv32 hF => od_dAdd .id .id hv32 (ax_nil ((by cases hF; exact ⟨rfl, rfl⟩))))))))))) hl34 (bi hF fun r36 hlr36 hF => forF hlr36 (fun s35 ρ' M' => ∃ j0 : Option D, ρ' = [some x0, some x1, some x2, some (.adr a31), j0] ∧ M' = (up (up M a1 (.lst [])) a31 (.lst s35))) ⟨_, rfl, rfl⟩ ?_ ?_)))
    · rintro x37 s35 _ hF _ _ ⟨_, rfl, rfl⟩
      try dsimp only at hF
      refine as_name 4 (?_) sc_Lstandard.nd
      refine gx_seq (g1_expr (ex_append (ex_var 3 rfl (⟨_, _, rfl, at0.get, ax_cons (ca_Lput T (hr.mono (by decide)) (ax_cons (ex_var 0 rfl (ax_cons (ex_lst (ax_cons (ex_tup (ax_cons (ex_var 4 rfl (ax_cons (ex_str (ax_nil (⟨le_b rfl, ax_cons (ex_tup (ax_cons (ex_bin (ex_var 4 rfl (ex_int (bi hF fun v40 hv40 hF => od_dSub .id .id hv40 (ax_cons (ex_str (ax_nil (⟨le_b rfl, ax_nil (⟨le_b rfl, ax_cons (ex_str (ax_nil (bi hF fun v41 hv41 hF => ⟨_, _, _, v41, rfl, hv41, ax_nil (bi hF fun _ h42 hF => ⟨_, _, _, rfl, at0, (chk_inv h42).1, ?_⟩)⟩)))⟩)⟩))))))))))⟩)))))))))))))⟩))))
      cases hF
      exact gx_nil ⟨_, rfl, rfl⟩
    · rintro _ _ ⟨_, rfl, rfl⟩
      try dsimp only at hF
      show GX _ _ _ _ _ _
      refine gx_seq (g1_expr (ex_append (ex_var 3 rfl (⟨_, _, rfl, at0.get, ax_cons (ca_Lput T (hr.mono (by decide)) (ax_cons (ex_var 0 rfl (ax_cons (ex_lst (ax_cons (ex_tup (ax_cons (ex_var 0 rfl (ax_cons (ex_str (ax_nil (⟨le_b rfl, ax_nil (⟨le_b rfl, ax_cons (ex_str (ax_nil (bi hF fun v43 hv43 hF => ⟨_, _, _, v43, rfl, hv43, ax_nil (bi hF fun _ h44 hF => ⟨_, _, _, rfl, at0, (chk_inv h44).1, ?_⟩)⟩)))⟩)⟩)))))))))))))⟩))))
      refine gx_frzA 3 rfl at0.get (subx_here (nn ne_a1_a31 fb_a31)) ?_
      show GX _ _ _ _ _ _
      refine gx_less (sub_drop sub_refl fb_a1) ?_
      cases hF
      exact gx_nil ⟨_, rfl, rfl⟩
  · rintro _ M ⟨_, rfl, rfl⟩
    have hF := hRr3
    try dsimp only at hF
    show GX _ _ _ _ _ _
    exact gx_seq (g1_ret (ex_less (ex_bin (ex_var 3 rfl (ex_bin (ex_lst (ax_cons (ca_Lput T (hr.mono (by decide)) (ax_cons (ex_var 0 rfl (ax_cons (ex_lst (ax_nil (⟨le_b rfl, ax_cons (bi hF fun v47 hv47 hF => ex_fix v47 M (have hF := hv47; ex_if (tx_tru (ex_var 1 rfl (bi hF fun t45 ht45 hF => ⟨_, _, .id, ht45, ⟨fun q46 => have hF := iT q46 hF; ex_str (⟨so hF, rfl⟩), fun q46 => have hF := iF q46 hF; ex_str (⟨so hF, rfl⟩)⟩⟩)))) (ax_nil (bi hF fun v48 hv48 hF => ⟨_, _, _, v48, rfl, hv48, ax_nil (⟨le_b rfl, ex_ty T.b_int bb_int (ax_cons (ex_var 2 rfl (ax_nil (bi hF fun v49 hv49 hF => cd_dInt .id hv49 (bi hF fun v50 hv50 hF => od_dMul .id .id hv50 (bi hF fun l51 hl51 hF => od_lAdd .id .id hl51 (fun a52 ha52 => have fb_a52 := ha52; ⟨_, (sub_keep sub_refl), (by have e := so hF; cases e; exact hk a52 fb_a52)⟩)))))))⟩)⟩)))⟩))))))))))))))
theorem ca_Lstandard {X : Cx} {J : Gh} {e : Expr} {es : List Expr} {ρ : DEnv} {M : Mem} {P : D → Mem → Prop} {pos p : Pos} (T : Txt X.K X.mg) (hr : Room 2 X.A) (h : AX X J (e :: es) ρ M fun ds M1 => tr_Lstandard (ds ++ []) M1 P) (hg : Gl X "_law_standard" := by rfl)
    (he : starEach (e :: es) X.env = (false, eval e X.env) :: starEach es X.env := by rfl) (hpl : (backTo pos (starEach es X.env)).any (·.1) = false := by rfl) : EX X J (.Call (.Name "_law_standard" p) (e :: es) [] pos) ρ M P :=
  ex_call (ok_Lstandard T) hr T.m_Lstandard T.d_Lstandard.choose_spec.kp (T.d_Lstandard.choose_spec.bindsN fun _ _ _ _ _ _ us hl => match us, hl with | [_, _, _], _ => rfl) .nil (fun _ => .nil) h hg (by decide) he hpl
def tr_Ltrial : Tr := fun ds M P => ∃ (p_0 : Addr) (x0 : List D), ∃ x1 : D, ∃ x2 : D, ∃ r : D × List D, ∃ W : D → Mem, ds = [.adr p_0, x1, x2] ∧ M = W (.lst x0) ∧ (∀ z0, At (W z0) p_0 z0 (fun z => W z)) ∧ F_Ltrial x0 x1 x2 = some r ∧ P r.1 (W (.lst r.2))
theorem len_Ltrial {ds M P} (t : tr_Ltrial ds M P) : ds.length = 3 := by obtain ⟨_, _, _, _, _, _, rfl, _⟩ := t; rfl
set_option maxHeartbeats 0 in
theorem ok_Ltrial {pg : Program} {w : World} {K : PySem.W.Frag} {mg : Str → Option Value} {base : Heap} (T : Txt K mg) : FnOk pg w K mg base CX0 3 (He.fAd K ("_law_trial", none)) T.d_Ltrial.choose ["_law_pen_here", "_law_size", "_law_is_ring"] (SpD K tr_Ltrial) :=
  fn_okD T.d_Ltrial.choose_spec sc_Ltrial (fun ds M P t => len_Ltrial t) fun cdv A outer s H ds M P hr t => by
  obtain ⟨p_0, x0, x1, x2, r, W, rfl, rfl, hW0, hF, hk⟩ := t
  unfold F_Ltrial at hF
  refine gx_seq (g1_asg (ca_Ldraw T (hr.mono (by decide)) (ax_cons (ex_var 0 rfl (ax_cons (ex_int (ax_nil (bi hF fun v1 hv1 hF => ⟨p_0, x0, _, v1, (fun w0 => (W w0)), rfl, rfl, fun _ => (hW0 _), hv1, as_name 3 (?_) sc_Ltrial.nd⟩))))))))
  refine gx_seq (g1_asg (ex_frzA (ca_Lstandard T (hr.mono (by decide)) (ax_cons (ex_var 1 rfl (ax_cons (ex_var 2 rfl (ax_cons (ex_bl (ax_nil (bi hF fun v2 hv2 hF => ⟨_, _, _, v2, rfl, hv2, fun q hq => ⟨_, _, _, rfl, up_same, subx_here hq, as_name 4 (?_) sc_Ltrial.nd⟩⟩)))))))))))
  refine gx_seq (g1_if (tx_cmp (ex_var 3 rfl (ex_int (bi hF fun t4 ht4 hF => od_cEq hr.units .id .id ht4 (⟨_, rfl, ⟨fun q3 => ?_, fun q3 => ?_⟩⟩))))))
  · have hF := iT q3 hF
    exact gx_seq (g1_ret (ex_less (ex_ix (ex_var 4 rfl (ca_Ldraw T (hr.mono (by decide)) (ax_cons (ex_var 0 rfl (ax_cons (ex_blt T.b_len bb_len (ax_cons (ex_var 4 rfl (ax_nil (bi hF fun v5 hv5 hF => cd_dLen .id hv5 (ax_nil (bi hF fun v6 hv6 hF => ⟨p_0, v1.2, _, v6, (fun w0 => (W w0)), rfl, rfl, fun _ => (hW0 _), hv6, bi hF fun v7 hv7 hF => id_dIx .id .id hv7 (⟨_, sub_refl, ret1 (W := W) (so hF) hk⟩)⟩)))))))))))))))
  · have hF := iF q3 hF
    refine gx_nil ?_
    show GX _ _ _ _ _ _
    refine gx_seq (g1_asg (ex_ix (ex_lst (ax_cons (ex_str (ax_cons (ex_str (ax_cons (ex_str (ax_cons (ex_str (ax_cons (ex_str (ax_nil (⟨le_b rfl, ca_Ldraw T (hr.mono (by decide)) (ax_cons (ex_var 0 rfl (ax_cons (ex_ix (ex_lst (ax_cons (ex_int (ax_cons (ex_int (ax_nil (⟨le_b rfl, ex_bin (ex_var 3 rfl (ex_int (bi hF fun v8 hv8 hF => od_dSub .id .id hv8 (bi hF fun v9 hv9 hF => id_dIx .id .id hv9 (ax_nil (bi hF fun v10 hv10 hF => ⟨p_0, v1.2, _, v10, (fun w0 => (W w0)), rfl, rfl, fun _ => (hW0 _), hv10, bi hF fun v11 hv11 hF => id_dIx .id .id hv11 (as_name 5 (?_) sc_Ltrial.nd)⟩))))))⟩)))))))))))⟩)))))))))))))))
    refine gx_seq (g1_asg (bi hF fun v16 hv16 hF => ex_fix v16.1 (W (.lst v16.2)) (have hF := hv16; ex_if (tx_tru (ex_var 2 rfl (bi hF fun t12 ht12 hF => ⟨_, _, .id, ht12, ⟨fun q15 => have hF := iT q15 hF; ex_str ((by cases hF; exact ⟨rfl, rfl⟩)), fun q15 => have hF := iF q15 hF; ex_ix (ex_str (ca_Ldraw T (hr.mono (by decide)) (ax_cons (ex_var 0 rfl (ax_cons (ex_int (ax_nil (bi hF fun v13 hv13 hF => ⟨p_0, v10.2, _, v13, (fun w0 => (W w0)), rfl, rfl, fun _ => (hW0 _), hv13, bi hF fun v14 hv14 hF => id_dIx .id .id hv14 ((by cases hF; exact ⟨rfl, rfl⟩))⟩))))))))⟩⟩)))) (as_name 6 (?_) sc_Ltrial.nd)))
    exact gx_seq (g1_ret (ex_less (ex_bin (ex_joinF (ex_str (bi hF fun s17 hs17 hF => ⟨s17, strD_eq hs17, ex_lc (own := [("_law_k", 7)]) (hN := sc_Ltrial.nd) rfl (bi hF fun l18 hl18 hF => ix_range1U (M2 := (W (.lst v16.2))) T.b_range (ax_cons (ex_var 1 rfl (ax_nil (⟨rfl, rfl⟩)))) hl18 (bi hF fun _ hz23 hF => bi hF fun y21 hy21 hF => mapSF hy21 (chk_inv hz23).1 (fun s19 => (W (.lst s19))) rfl (fun x20 s19 _ acc d22 hF hd22 => have ne_p_0_d22 := At.ne (hW0 _) hd22; have fb_d22 := fresh1 hW0 hd22; asb_name 7 (fun _ _ _ _ _ => ex_ix (ex_var 5 rfl (ca_Ldraw T (hr.mono (by decide)) (ax_cons (ex_var 0 rfl (ax_cons (ex_blt T.b_len bb_len (ax_cons (ex_var 5 rfl (ax_nil (bi hF fun v25 hv25 hF => cd_dLen .id hv25 (ax_nil (bi hF fun v26 hv26 hF => ⟨p_0, s19, _, v26, (fun w0 => (up (W w0) d22 (.lst acc))), rfl, rfl, fun _ => (at1 ne_p_0_d22 (hW0 _)), hv26, bi hF fun v27 hv27 hF => id_dIx .id .id hv27 ((by cases hF; exact ⟨rfl, (fb_d22 _), rfl⟩))⟩))))))))))))) (hN := sc_Ltrial.nd)) (bi hF fun v28 hv28 hF => ⟨_, v28, .id, hv28, ex_var 6 rfl (bi hF fun v29 hv29 hF => od_dAdd .id .id hv29 (⟨_, sub_refl, ret1 (W := W) (so hF) hk⟩))⟩)))⟩))))))
theorem ca_Ltrial {X : Cx} {J : Gh} {e : Expr} {es : List Expr} {ρ : DEnv} {M : Mem} {P : D → Mem → Prop} {pos p : Pos} (T : Txt X.K X.mg) (hr : Room 3 X.A) (h : AX X J (e :: es) ρ M fun ds M1 => tr_Ltrial (ds ++ []) M1 P) (hg : Gl X "_law_trial" := by rfl)
    (he : starEach (e :: es) X.env = (false, eval e X.env) :: starEach es X.env := by rfl) (hpl : (backTo pos (starEach es X.env)).any (·.1) = false := by rfl) : EX X J (.Call (.Name "_law_trial" p) (e :: es) [] pos) ρ M P :=
  ex_call (ok_Ltrial T) hr T.m_Ltrial T.d_Ltrial.choose_spec.kp (T.d_Ltrial.choose_spec.bindsN fun _ _ _ _ _ _ us hl => match us, hl with | [_, _, _], _ => rfl) .nil (fun _ => .nil) h hg (by decide) he hpl
def tr_Ltrials : Tr := fun ds M P => ∃ (p_0 : Addr) (x0 : List D), ∃ x1 : D, ∃ x2 : D, ∃ x3 : D, ∃ r : D × List D, ∃ W : D → Mem, ds = [.adr p_0, x1, x2, x3] ∧ M = W (.lst x0) ∧ (∀ z0, At (W z0) p_0 z0 (fun z => W z)) ∧ F_Ltrials x0 x1 x2 x3 = some r ∧ P r.1 (W (.lst r.2))
theorem len_Ltrials {ds M P} (t : tr_Ltrials ds M P) : ds.length = 4 := by obtain ⟨_, _, _, _, _, _, _, rfl, _⟩ := t; rfl
set_option maxHeartbeats 0 in
theorem ok_Ltrials {pg : Program} {w : World} {K : PySem.W.Frag} {mg : Str → Option Value} {base : Heap} (T : Txt K mg) : FnOk pg w K mg base CX0 4 (He.fAd K ("_law_trials", none)) T.d_Ltrials.choose ["_law_pen_here", "_law_size", "_law_is_ring", "_law_is_stuck"] (SpD K tr_Ltrials) :=
  fn_okD T.d_Ltrials.choose_spec sc_Ltrials (fun ds M P t => len_Ltrials t) fun cdv A outer s H ds M P hr t => by
  obtain ⟨p_0, x0, x1, x2, x3, r, W, rfl, rfl, hW0, hF, hk⟩ := t
  unfold F_Ltrials at hF
  refine gx_seq (g1_asg (ca_Lstandard T (hr.mono (by decide)) (ax_cons (ex_var 1 rfl (ax_cons (ex_var 2 rfl (ax_cons (ex_var 3 rfl (ax_nil (bi hF fun v1 hv1 hF => ⟨_, _, _, v1, rfl, hv1, fun a2 ha2 => have ne_p_0_a2 := At.ne (hW0 _) ha2; have fb_a2 := fresh1 hW0 ha2; as_name 4 (?_) sc_Ltrials.nd⟩))))))))))
  refine gx_seq (g1_asg (ca_Ldraw T (hr.mono (by decide)) (ax_cons (ex_var 0 rfl (ax_cons (ex_int (ax_nil (bi hF fun v3 hv3 hF => ⟨p_0, x0, _, v3, (fun w0 => (up (W w0) a2 (.lst v1))), rfl, rfl, fun _ => (at1 ne_p_0_a2 (hW0 _)), hv3, as_name 5 (?_) sc_Ltrials.nd⟩))))))))
  refine gx_seq (g1_if (tx_cmp (ex_var 5 rfl (ex_int (bi hF fun t5 ht5 hF => od_cEq hr.units .id .id ht5 (⟨_, rfl, ⟨fun q4 => ?_, fun q4 => ?_⟩⟩))))))
  · have hF := iT q4 hF
    exact gx_seq (g1_ret (ex_less (ex_lc (own := [("_law_k", 6)]) (hN := sc_Ltrials.nd) rfl (bi hF fun v7 hv7 hF => bi hF fun l8 hl8 hF => ix_range1U (M2 := (up (W (.lst v7.2)) a2 (.lst v1))) T.b_range ((have hF := hv7; ax_cons (ca_Ldraw T (hr.mono (by decide)) (ax_cons (ex_var 0 rfl (ax_cons (ex_int (ax_nil (bi hF fun v6 hv6 hF => ⟨p_0, v3.2, _, v6, (fun w0 => (up (W w0) a2 (.lst v1))), rfl, rfl, fun _ => (at1 ne_p_0_a2 (hW0 _)), hv6, ax_nil ((by cases hF; exact ⟨rfl, rfl⟩))⟩))))))))) hl8 (bi hF fun _ hz13 hF => bi hF fun y11 hy11 hF => mapSF hy11 (chk_inv hz13).1 (fun s9 => (up (W (.lst s9)) a2 (.lst v1))) rfl (fun x10 s9 _ acc d12 hF hd12 => have ne_a2_d12 := (up_none hd12).1; have ne_p_0_d12 := At.ne (hW0 _) (up_none hd12).2; have fb_d12 := fresh1 hW0 (up_none hd12).2; asb_name 6 (fun _ _ _ _ _ => ca_Ltrial T (hr.mono (by decide)) (ax_cons (ex_var 0 rfl (ax_cons (ex_var 1 rfl (ax_cons (ex_var 2 rfl (ax_nil (bi hF fun v15 hv15 hF => ⟨p_0, s9, _, _, v15, (fun w0 => (up (up (W w0) a2 (.lst v1)) d12 (.lst acc))), rfl, rfl, fun _ => (at1 ne_p_0_d12 (at1 ne_p_0_a2 (hW0 _))), hv15, (by cases hF; exact ⟨rfl, (nn ne_a2_d12 (fb_d12 _)), rfl⟩)⟩))))))))) (hN := sc_Ltrials.nd)) (⟨_, (sub_drop sub_refl (fb_a2 _)), ret1 (W := W) (so hF) hk⟩))))))
  · have hF := iF q4 hF
    refine gx_nil ?_
    show GX _ _ _ _ _ _
    refine gx_seq (g1_for PassesOwn.never rfl (bi hF fun v18 hv18 hF => bi hF fun l19 hl19 hF => ix_range1U (M2 := (up (W (.lst v3.2)) a2 (.lst v1))) T.b_range ((have hF := hv18; ax_cons (ex_ix (ex_lst (ax_cons (ex_int (ax_cons (ex_int (ax_cons (ex_int (ax_nil (⟨le_b rfl, ex_bin (ex_var 5 rfl (ex_int (bi hF fun v16 hv16 hF => od_dSub .id .id hv16 (bi hF fun v17 hv17 hF => id_dIx .id .id hv17 (ax_nil (⟨by rw [so hF], rfl⟩))))))⟩)))))))))))) hl19 (bi hF fun r21 hlr21 hF => forF hlr21 (fun s20 ρ' M' => ∃ s20_0 : List D, ∃ s20_1 : List D, ∃ j0 : Option D, s20 = (s20_0, s20_1) ∧ ρ' = [some (.adr p_0), some x1, some x2, some x3, some (.adr a2), some v3.1, j0] ∧ M' = (up (W (.lst s20_1)) a2 (.lst s20_0))) ⟨_, _, _, rfl, rfl, rfl⟩ ?_ ?_)))
    · rintro x22 s20 _ hF _ _ ⟨s20_0, s20_1, _, rfl, rfl, rfl⟩
      try dsimp only at hF
      refine as_name 6 (?_) sc_Ltrials.nd
      refine gx_seq (g1_expr (ex_popF (ex_var 4 rfl (⟨_, _, rfl, at0.get, ca_Ldraw T (hr.mono (by decide)) (ax_cons (ex_var 0 rfl (ax_cons (ex_blt T.b_len bb_len (ax_cons (ex_var 4 rfl (ax_nil (bi hF fun v25 hv25 hF => cd_dLen (.ad at0.get rfl) hv25 (ax_nil (bi hF fun v26 hv26 hF => ⟨p_0, s20_1, _, v26, (fun w0 => (up (W w0) a2 (.lst s20_0))), rfl, rfl, fun _ => (at1 ne_p_0_a2 (hW0 _)), hv26, bi hF fun v27 hv27 hF => ⟨_, _, v27, at0, hv27, ?_⟩⟩))))))))))⟩))))
      exact gx_nil ⟨_, _, _, (so hF).symm, rfl, rfl⟩
    · rintro _ _ ⟨r21_0, r21_1, _, rfl, rfl, rfl⟩
      try dsimp only at hF
      show GX _ _ _ _ _ _
      refine gx_seq (g1_asg (ex_bin (ex_var 4 rfl (ex_lc (own := [("_law_k", 6)]) (hN := sc_Ltrials.nd) rfl (bi hF fun v29 hv29 hF => bi hF fun l30 hl30 hF => ix_range1U (M2 := (up (W (.lst v29.2)) a2 (.lst r21_0))) T.b_range ((have hF := hv29; ax_cons (ca_Ldraw T (hr.mono (by decide)) (ax_cons (ex_var 0 rfl (ax_cons (ex_int (ax_nil (bi hF fun v28 hv28 hF => ⟨p_0, r21_1, _, v28, (fun w0 => (up (W w0) a2 (.lst r21_0))), rfl, rfl, fun _ => (at1 ne_p_0_a2 (hW0 _)), hv28, ax_nil ((by cases hF; exact ⟨rfl, rfl⟩))⟩))))))))) hl30 (bi hF fun _ hz35 hF => bi hF fun y33 hy33 hF => mapSF hy33 (chk_inv hz35).1 (fun s31 => (up (W (.lst s31)) a2 (.lst r21_0))) rfl (fun x32 s31 _ acc d34 hF hd34 => have ne_a2_d34 := (up_none hd34).1; have ne_p_0_d34 := At.ne (hW0 _) (up_none hd34).2; have fb_d34 := fresh1 hW0 (up_none hd34).2; asb_name 6 (fun _ _ _ _ _ => ca_Ltrial T (hr.mono (by decide)) (ax_cons (ex_var 0 rfl (ax_cons (ex_var 1 rfl (ax_cons (ex_var 2 rfl (ax_nil (bi hF fun v37 hv37 hF => ⟨p_0, s31, _, _, v37, (fun w0 => (up (up (W w0) a2 (.lst r21_0)) d34 (.lst acc))), rfl, rfl, fun _ => (at1 ne_p_0_d34 (at1 ne_p_0_a2 (hW0 _))), hv37, (by cases hF; exact ⟨rfl, (nn ne_a2_d34 (fb_d34 _)), rfl⟩)⟩))))))))) (hN := sc_Ltrials.nd)) (bi hF fun l38 hl38 hF => od_lAdd (.ad at0.get rfl) .id hl38 (fun a39 ha39 => have ne_a2_a39 := (up_none ha39).1; have ne_p_0_a39 := At.ne (hW0 _) (up_none ha39).2; have fb_a39 := fresh1 hW0 (up_none ha39).2; as_name 4 (?_) sc_Ltrials.nd))))))))
      exact gx_seq (g1_ret (ex_less (ex_lc (own := [("_law_k", 6)]) (hN := sc_Ltrials.nd) rfl (bi hF fun v41 hv41 hF => bi hF fun l42 hl42 hF => ix_range1U (M2 := (up (up (W (.lst y33.2)) a2 (.lst r21_0)) a39 (.lst l38))) T.b_range ((have hF := hv41; ax_cons (ex_blt T.b_len bb_len (ax_cons (ex_var 4 rfl (ax_nil (bi hF fun v40 hv40 hF => cd_dLen (.ad at0.get rfl) hv40 (ax_nil (⟨by rw [so hF], rfl⟩))))))))) hl42 (bi hF fun _ hz47 hF => bi hF fun y45 hy45 hF => mapSF hy45 (chk_inv hz47).1 (fun s43 => (up (up (W (.lst s43.2)) a2 (.lst r21_0)) a39 (.lst s43.1))) rfl (fun x44 s43 _ acc d46 hF hd46 => have ne_a39_d46 := (up_none hd46).1; have ne_a2_d46 := (up_none (up_none hd46).2).1; have ne_p_0_d46 := At.ne (hW0 _) (up_none (up_none hd46).2).2; have fb_d46 := fresh1 hW0 (up_none (up_none hd46).2).2; asb_name 6 (fun _ _ _ _ _ => ex_popF (ex_var 4 rfl (⟨_, _, rfl, (at1 ne_a39_d46 at0).get, ca_Ldraw T (hr.mono (by decide)) (ax_cons (ex_var 0 rfl (ax_cons (ex_blt T.b_len bb_len (ax_cons (ex_var 4 rfl (ax_nil (bi hF fun v49 hv49 hF => cd_dLen (.ad (at1 ne_a39_d46 at0).get rfl) hv49 (ax_nil (bi hF fun v50 hv50 hF => ⟨p_0, s43.2, _, v50, (fun w0 => (up (up (up (W w0) a2 (.lst r21_0)) a39 (.lst s43.1)) d46 (.lst acc))), rfl, rfl, fun _ => (at1 ne_p_0_d46 (at1 ne_p_0_a39 (at1 ne_p_0_a2 (hW0 _)))), hv50, bi hF fun v51 hv51 hF => ⟨_, _, v51, (at1 ne_a39_d46 at0), hv51, (by cases hF; exact ⟨rfl, (nn ne_a39_d46 (nn ne_a2_d46 (fb_d46 _))), rfl⟩)⟩⟩))))))))))⟩))) (hN := sc_Ltrials.nd)) (⟨_, (sub_drop (sub_drop sub_refl (fb_a2 _)) (nn ne_a2_a39 (fb_a39 _))), ret1 (W := W) (so hF) hk⟩))))))
theorem ca_Ltrials {X : Cx} {J : Gh} {e : Expr} {es : List Expr} {ρ : DEnv} {M : Mem} {P : D → Mem → Prop} {pos p : Pos} (T : Txt X.K X.mg) (hr : Room 4 X.A) (h : AX X J (e :: es) ρ M fun ds M1 => tr_Ltrials (ds ++ []) M1 P) (hg : Gl X "_law_trials" := by rfl)
    (he : starEach (e :: es) X.env = (false, eval e X.env) :: starEach es X.env := by rfl) (hpl : (backTo pos (starEach es X.env)).any (·.1) = false := by rfl) : EX X J (.Call (.Name "_law_trials" p) (e :: es) [] pos) ρ M P :=
  ex_call (ok_Ltrials T) hr T.m_Ltrials T.d_Ltrials.choose_spec.kp (T.d_Ltrials.choose_spec.bindsN fun _ _ _ _ _ _ us hl => match us, hl with | [_, _, _, _], _ => rfl) .nil (fun _ => .nil) h hg (by decide) he hpl
def tr_Lends : Tr := fun ds M P => ∃ x0 : D, ∃ x1 : D, ∃ r : D, ds = [x0, x1] ∧ F_Lends x0 x1 = some r ∧ P r M
theorem len_Lends {ds M P} (t : tr_Lends ds M P) : ds.length = 2 := by obtain ⟨_, _, _, rfl, _⟩ := t; rfl
set_option maxHeartbeats 0 in
theorem ok_Lends {pg : Program} {w : World} {K : PySem.W.Frag} {mg : Str → Option Value} {base : Heap} (T : Txt K mg) : FnOk pg w K mg base CX0 1 (He.fAd K ("_law_ends", none)) T.d_Lends.choose ["_law_size", "_law_is_ring"] (SpD K tr_Lends) :=
  fn_okD T.d_Lends.choose_spec sc_Lends (fun ds M P t => len_Lends t) fun cdv A outer s H ds M P hr t => by
  obtain ⟨x0, x1, r, rfl, hF, hk⟩ := t
  unfold F_Lends at hF
  exact gx_seq (g1_ret (ex_less (ex_lstRF rfl T.b_list T.b_range (ax_cons (ex_ty T.b_int bb_int (ax_cons (ex_var 1 rfl (ax_nil (bi hF fun v1 hv1 hF => cd_dInt .id hv1 (ax_cons (ex_bin (ex_var 0 rfl (ex_int (bi hF fun v2 hv2 hF => od_dAdd .id .id hv2 (ax_nil (bi hF fun l3 hl3 hF => ⟨l3, hl3, (by intro i j c e; first | (cases e; rfl) | (cases e; done)), ⟨_, sub_refl, ret0 (so hF) hk⟩⟩))))))))))))))))
theorem ca_Lends {X : Cx} {J : Gh} {e : Expr} {es : List Expr} {ρ : DEnv} {M : Mem} {P : D → Mem → Prop} {pos p : Pos} (T : Txt X.K X.mg) (hr : Room 1 X.A) (h : AX X J (e :: es) ρ M fun ds M1 => tr_Lends (ds ++ []) M1 P) (hg : Gl X "_law_ends" := by rfl)
    (he : starEach (e :: es) X.env = (false, eval e X.env) :: starEach es X.env := by rfl) (hpl : (backTo pos (starEach es X.env)).any (·.1) = false := by rfl) : EX X J (.Call (.Name "_law_ends" p) (e :: es) [] pos) ρ M P :=
  ex_call (ok_Lends T) hr T.m_Lends T.d_Lends.choose_spec.kp (T.d_Lends.choose_spec.bindsN fun _ _ _ _ _ _ us hl => match us, hl with | [_, _], _ => rfl) .nil (fun _ => .nil) h hg (by decide) he hpl
def tr_Lasked : Tr := fun ds M P => ∃ (p_0 : Addr) (x0 : List D), ∃ x1 : D, ∃ x2 : D, ∃ r : D × List D, ∃ W : D → Mem, ds = [.adr p_0, x1, x2] ∧ M = W (.lst x0) ∧ (∀ z0, At (W z0) p_0 z0 (fun z => W z)) ∧ F_Lasked x0 x1 x2 = some r ∧ P r.1 (W (.lst r.2))
theorem len_Lasked {ds M P} (t : tr_Lasked ds M P) : ds.length = 3 := by obtain ⟨_, _, _, _, _, _, rfl, _⟩ := t; rfl
set_option maxHeartbeats 0 in
theorem ok_Lasked {pg : Program} {w : World} {K : PySem.W.Frag} {mg : Str → Option Value} {base : Heap} (T : Txt K mg) : FnOk pg w K mg base CX0 2 (He.fAd K ("_law_asked", none)) T.d_Lasked.choose ["_law_pen_here", "_law_size", "_law_is_ring"] (SpD K tr_Lasked) :=
  fn_okD T.d_Lasked.choose_spec sc_Lasked (fun ds M P t => len_Lasked t) fun cdv A outer s H ds M P hr t => by
  obtain ⟨p_0, x0, x1, x2, r, W, rfl, rfl, hW0, hF, hk⟩ := t
  unfold F_Lasked at hF
  refine gx_seq (g1_lc (own := [("_law_end", 4)]) (hN := sc_Lasked.nd) 3 rfl (bi hF fun v2 hv2 hF => bi hF fun l3 hl3 hF => ix_seqU (M2 := (W (.lst x0))) ((have hF := hv2; ca_Lends T (hr.mono (by decide)) (ax_cons (ex_var 1 rfl (ax_cons (ex_var 2 rfl (ax_nil (bi hF fun v1 hv1 hF => ⟨_, _, v1, rfl, hv1, ⟨so hF, rfl⟩⟩)))))))) hl3 (bi hF fun _ hz8 hF => bi hF fun y6 hy6 hF => filtSF hy6 (chk_inv hz8).1 (fun s4 => (W (.lst s4))) rfl (fun x5 s4 _ acc d7 hF hd7 => have ne_p_0_d7 := At.ne (hW0 _) hd7; have fb_d7 := fresh1 hW0 hd7; asb_name 4 (txb_one fun _ _ _ _ _ => tx_cmp (ca_Ldraw T (hr.mono (by decide)) (ax_cons (ex_var 0 rfl (ax_cons (ex_int (ax_nil (bi hF fun v10 hv10 hF => ⟨p_0, s4, _, v10, (fun w0 => (up (W w0) d7 (.lst acc))), rfl, rfl, fun _ => (at1 ne_p_0_d7 (hW0 _)), hv10, ex_int (bi hF fun t11 ht11 hF => od_cEq hr.units .id .id ht11 (⟨_, rfl, ⟨fun q12 => have hF := iT q12 hF; fun _ _ _ _ _ => ex_var 4 rfl ((by cases hF; exact ⟨rfl, (fb_d7 _), rfl⟩)), fun q12 => (by have hF := iF q12 hF; cases hF; exact ⟨rfl, (fb_d7 _), rfl⟩)⟩⟩))⟩)))))))) (hN := sc_Lasked.nd)) (?_))))
  exact gx_seq (g1_ret (ex_less (ex_ix (ex_lst (ax_cons (ex_non (ax_cons (ex_non (ax_cons (ex_ty T.b_tuple bb_tuple (ax_cons (ex_var 3 rfl (ax_nil (bi hF fun l13 hl13 hF => cd_lTuple rfl .id hl13 (ax_cons (ex_tup (ax_cons (ex_ix (ca_Lends T (hr.mono (by decide)) (ax_cons (ex_var 1 rfl (ax_cons (ex_var 2 rfl (ax_nil (bi hF fun v14 hv14 hF => ⟨_, _, v14, rfl, hv14, ex_dNeg (ex_int ⟨_, _, .id, rfl, bi hF fun v15 hv15 hF => id_dIx .id .id hv15 (ax_nil (⟨le_b rfl, ax_nil (⟨le_b rfl, ca_Ldraw T (hr.mono (by decide)) (ax_cons (ex_var 0 rfl (ax_cons (ex_int (ax_nil (bi hF fun v16 hv16 hF => ⟨p_0, y6.2, _, v16, (fun w0 => (W w0)), rfl, rfl, fun _ => (hW0 _), hv16, bi hF fun v17 hv17 hF => id_dIx .id .id hv17 (⟨_, sub_refl, ret1 (W := W) (so hF) hk⟩)⟩))))))⟩)⟩))⟩)⟩)))))))))))))))))))))))))
theorem ca_Lasked {X : Cx} {J : Gh} {e : Expr} {es : List Expr} {ρ : DEnv} {M : Mem} {P : D → Mem → Prop} {pos p : Pos} (T : Txt X.K X.mg) (hr : Room 2 X.A) (h : AX X J (e :: es) ρ M fun ds M1 => tr_Lasked (ds ++ []) M1 P) (hg : Gl X "_law_asked" := by rfl)
    (he : starEach (e :: es) X.env = (false, eval e X.env) :: starEach es X.env := by rfl) (hpl : (backTo pos (starEach es X.env)).any (·.1) = false := by rfl) : EX X J (.Call (.Name "_law_asked" p) (e :: es) [] pos) ρ M P :=
  ex_call (ok_Lasked T) hr T.m_Lasked T.d_Lasked.choose_spec.kp (T.d_Lasked.choose_spec.bindsN fun _ _ _ _ _ _ us hl => match us, hl with | [_, _, _], _ => rfl) .nil (fun _ => .nil) h hg (by decide) he hpl
def tr_Ldue : Tr := fun ds M P => ∃ x0 : D, ∃ x1 : D, ∃ x2 : D, ∃ r : D, ds = [x0, x1, x2] ∧ F_Ldue x0 x1 x2 = some r ∧ P r M
theorem len_Ldue {ds M P} (t : tr_Ldue ds M P) : ds.length = 3 := by obtain ⟨_, _, _, _, rfl, _⟩ := t; rfl
set_option maxHeartbeats 0 in
theorem ok_Ldue {pg : Program} {w : World} {K : PySem.W.Frag} {mg : Str → Option Value} {base : Heap} (T : Txt K mg) : FnOk pg w K mg base CX0 1 (He.fAd K ("_law_due", none)) T.d_Ldue.choose ["_law_size", "_law_end", "_law_is_ring"] (SpD K tr_Ldue) :=
  fn_okD T.d_Ldue.choose_spec sc_Ldue (fun ds M P t => len_Ldue t) fun cdv A outer s H ds M P hr t => by
  obtain ⟨x0, x1, x2, r, rfl, hF, hk⟩ := t
  unfold F_Ldue at hF
  refine gx_seq (g1_if (tx_not (tx_tru (ex_var 2 rfl (bi hF fun t2 ht2 hF => ⟨_, _, .id, ht2, ⟨fun q1 => ?_, fun q1 => ?_⟩⟩)))))
  · have hF := iT q1 hF
    exact gx_seq (g1_ret (ex_less (ex_ty T.b_tuple bb_tuple (ax_cons (ex_lc (own := [("_law_k", 3)]) (hN := sc_Ldue.nd) rfl (bi hF fun v4 hv4 hF => bi hF fun l5 hl5 hF => ix_range1U (M2 := M) T.b_range ((have hF := hv4; ax_cons (ex_bin (ex_var 1 rfl (ex_int (bi hF fun v3 hv3 hF => od_dAdd .id .id hv3 (ax_nil (⟨by rw [so hF], rfl⟩)))))))) hl5 (bi hF fun _ hz10 hF => bi hF fun y8 hy8 hF => lcF hy8 (chk_inv hz10).1 (fun x7 _ acc d9 hF hd9 => have fb_d9 := hd9; asb_name 3 (fun _ _ _ _ _ => ex_bin (ex_var 1 rfl (ex_var 3 rfl (bi hF fun v12 hv12 hF => od_dSub .id .id hv12 (⟨so hF, rfl⟩))))) (hN := sc_Ldue.nd)) (ax_nil (bi hF fun l13 hl13 hF => cd_lTuple rfl .id hl13 (⟨_, sub_refl, ret0 (so hF) hk⟩))))))))))
  · have hF := iF q1 hF
    refine gx_nil ?_
    show GX _ _ _ _ _ _
    exact gx_seq (g1_ret (ex_less (ex_ty T.b_tuple bb_tuple (ax_cons (ex_lc (own := [("_law_k", 3)]) (hN := sc_Ldue.nd) rfl (bi hF fun l14 hl14 hF => ix_range1U (M2 := M) T.b_range (ax_cons (ex_var 0 rfl (ax_nil (⟨rfl, rfl⟩)))) hl14 (bi hF fun _ hz19 hF => bi hF fun y17 hy17 hF => lcF hy17 (chk_inv hz19).1 (fun x16 _ acc d18 hF hd18 => have fb_d18 := hd18; asb_name 3 (fun _ _ _ _ _ => ex_bin (ex_bin (ex_bin (ex_bin (ex_var 1 rfl (ex_int (bi hF fun v21 hv21 hF => od_dSub .id .id hv21 (ex_var 3 rfl (bi hF fun v22 hv22 hF => od_dSub .id .id hv22 (ex_var 0 rfl (bi hF fun v23 hv23 hF => od_dMod .id .id hv23 (ex_int (bi hF fun v24 hv24 hF => od_dAdd .id .id hv24 (⟨so hF, rfl⟩)))))))))))))) (hN := sc_Ldue.nd)) (ax_nil (bi hF fun l25 hl25 hF => cd_lTuple rfl .id hl25 (⟨_, sub_refl, ret0 (so hF) hk⟩))))))))))
theorem ca_Ldue {X : Cx} {J : Gh} {e : Expr} {es : List Expr} {ρ : DEnv} {M : Mem} {P : D → Mem → Prop} {pos p : Pos} (T : Txt X.K X.mg) (hr : Room 1 X.A) (h : AX X J (e :: es) ρ M fun ds M1 => tr_Ldue (ds ++ []) M1 P) (hg : Gl X "_law_due" := by rfl)
    (he : starEach (e :: es) X.env = (false, eval e X.env) :: starEach es X.env := by rfl) (hpl : (backTo pos (starEach es X.env)).any (·.1) = false := by rfl) : EX X J (.Call (.Name "_law_due" p) (e :: es) [] pos) ρ M P :=
  ex_call (ok_Ldue T) hr T.m_Ldue T.d_Ldue.choose_spec.kp (T.d_Ldue.choose_spec.bindsN fun _ _ _ _ _ _ us hl => match us, hl with | [_, _, _], _ => rfl) .nil (fun _ => .nil) h hg (by decide) he hpl
def tr_Loptions : Tr := fun ds M P => ∃ x0 : D, ∃ x1 : D, ∃ x2 : D, ∃ x3 : D, ∃ x4 : D, ∃ r : D, ds = [x0, x1, x2, x3, x4] ∧ F_Loptions x0 x1 x2 x3 x4 = some r ∧ P r M
theorem len_Loptions {ds M P} (t : tr_Loptions ds M P) : ds.length = 5 := by obtain ⟨_, _, _, _, _, _, rfl, _⟩ := t; rfl
set_option maxHeartbeats 0 in
theorem ok_Loptions {pg : Program} {w : World} {K : PySem.W.Frag} {mg : Str → Option Value} {base : Heap} (T : Txt K mg) : FnOk pg w K mg base CX0 2 (He.fAd K ("_law_options", none)) T.d_Loptions.choose ["_law_size", "_law_end", "_law_spot", "_law_is_ring", "_law_is_stuck"] (SpD K tr_Loptions) :=
  fn_okD T.d_Loptions.choose_spec sc_Loptions (fun ds M P t => len_Loptions t) fun cdv A outer s H ds M P hr t => by
  obtain ⟨x0, x1, x2, x3, x4, r, rfl, hF, hk⟩ := t
  unfold F_Loptions at hF
  refine gx_seq (g1_asg (ca_Ldue T (hr.mono (by decide)) (ax_cons (ex_var 0 rfl (ax_cons (ex_var 1 rfl (ax_cons (ex_var 3 rfl (ax_nil (bi hF fun v1 hv1 hF => ⟨_, _, _, v1, rfl, hv1, as_name 5 (?_) sc_Loptions.nd⟩))))))))))
  refine gx_seq (g1_if (tx_cmp (ex_var 2 rfl (ex_blt T.b_len bb_len (ax_cons (ex_var 5 rfl (ax_nil (bi hF fun v3 hv3 hF => cd_dLen .id hv3 (bi hF fun t4 ht4 hF => od_cEq hr.units .id .id ht4 (⟨_, rfl, ⟨fun q2 => ?_, fun q2 => ?_⟩⟩))))))))))
  · have hF := iT q2 hF
    exact gx_seq (g1_ret (ex_less (ex_lst (ax_cons (ex_str (ax_nil (⟨le_b rfl, ⟨_, sub_refl, ret0 (so hF) hk⟩⟩)))))))
  · have hF := iF q2 hF
    refine gx_nil ?_
    show GX _ _ _ _ _ _
    refine gx_seq (g1_lc (own := [("_law_entry", 7)]) (hN := sc_Loptions.nd) 6 rfl (bi hF fun v6 hv6 hF => bi hF fun l7 hl7 hF => ix_seqU (M2 := M) ((have hF := hv6; ca_Lends T (hr.mono (by decide)) (ax_cons (ex_var 0 rfl (ax_cons (ex_var 3 rfl (ax_nil (bi hF fun v5 hv5 hF => ⟨_, _, v5, rfl, hv5, ⟨so hF, rfl⟩⟩)))))))) hl7 (bi hF fun _ hz12 hF => bi hF fun y10 hy10 hF => filtF hy10 (chk_inv hz12).1 (fun x9 _ acc d11 hF hd11 => have fb_d11 := hd11; asb_name 7 (txb_one fun _ _ _ _ _ => tx_cmp (ex_var 7 rfl (ex_slice (ex_var 5 rfl (ox_none (ox_d (ex_bin (ex_var 2 rfl (ex_int (bi hF fun v14 hv14 hF => od_dAdd .id .id hv14 (bi hF fun i15 hi15 hF => ⟨_, _, .id, hi15, bi hF fun v16 hv16 hF => sd_dCut .id hv16 (bi hF fun t17 ht17 hF => od_cNin .id .id ht17 (⟨_, rfl, ⟨fun q18 => have hF := iT q18 hF; fun _ _ _ _ _ => ex_var 7 rfl (⟨(so hF).symm, rfl⟩), fun q18 => ⟨(so (iF q18 hF)).symm, rfl⟩⟩⟩))⟩))))))))))) (hN := sc_Loptions.nd)) (?_))))
    exact gx_seq (g1_ret (ex_less (ex_bin (ex_bin (ex_var 6 rfl (ex_bin (ex_lst (ax_cons (ex_str (ax_nil (⟨le_b rfl, ex_ty T.b_int bb_int (ax_cons (bi hF fun v22 hv22 hF => ex_fix v22 M (have hF := hv22; ex_orT (ex_cmp (ex_var 2 rfl (ex_int (bi hF fun t20 ht20 hF => od_cGt .id .id ht20 (bi hF fun t21 ht21 hF => ⟨_, _, .id, ht21, fun q19 => have hF := iF q19 hF; ex_one (ex_var 4 rfl (⟨so hF, rfl⟩)), fun q19 => ⟨so (iT q19 hF), rfl⟩⟩)))))) (ax_nil (bi hF fun v23 hv23 hF => cd_dInt .id hv23 (bi hF fun v24 hv24 hF => od_dMul .id .id hv24 (bi hF fun v25 hv25 hF => od_dAdd .id .id hv25 (ex_bin (ex_lst (ax_cons (ex_str (ax_nil (⟨le_b rfl, ex_ty T.b_int bb_int (ax_cons (ex_var 4 rfl (ax_nil (bi hF fun v26 hv26 hF => cd_dInt .id hv26 (bi hF fun v27 hv27 hF => od_dMul .id .id hv27 (bi hF fun v28 hv28 hF => od_dAdd .id .id hv28 (⟨_, sub_refl, ret0 (so hF) hk⟩)))))))⟩))))))))))))⟩)))))))))))
theorem ca_Loptions {X : Cx} {J : Gh} {e : Expr} {es : List Expr} {ρ : DEnv} {M : Mem} {P : D → Mem → Prop} {pos p : Pos} (T : Txt X.K X.mg) (hr : Room 2 X.A) (h : AX X J (e :: es) ρ M fun ds M1 => tr_Loptions (ds ++ []) M1 P) (hg : Gl X "_law_options" := by rfl)
    (he : starEach (e :: es) X.env = (false, eval e X.env) :: starEach es X.env := by rfl) (hpl : (backTo pos (starEach es X.env)).any (·.1) = false := by rfl) : EX X J (.Call (.Name "_law_options" p) (e :: es) [] pos) ρ M P :=
  ex_call (ok_Loptions T) hr T.m_Loptions T.d_Loptions.choose_spec.kp (T.d_Loptions.choose_spec.bindsN fun _ _ _ _ _ _ us hl => match us, hl with | [_, _, _, _, _], _ => rfl) .nil (fun _ => .nil) h hg (by decide) he hpl
def tr_Lsign : Tr := fun ds M P => ∃ x0 : D, ∃ x1 : D, ∃ r : D, ds = [x0, x1] ∧ F_Lsign x0 x1 = some r ∧ P r M
theorem len_Lsign {ds M P} (t : tr_Lsign ds M P) : ds.length = 2 := by obtain ⟨_, _, _, rfl, _⟩ := t; rfl
set_option maxHeartbeats 0 in
theorem ok_Lsign {pg : Program} {w : World} {K : PySem.W.Frag} {mg : Str → Option Value} {base : Heap} (T : Txt K mg) : FnOk pg w K mg base CX0 1 (He.fAd K ("_law_sign", none)) T.d_Lsign.choose ["_law_trial_here", "_law_spot"] (SpD K tr_Lsign) :=
  fn_okD T.d_Lsign.choose_spec sc_Lsign (fun ds M P t => len_Lsign t) fun cdv A outer s H ds M P hr t => by
  obtain ⟨x0, x1, r, rfl, hF, hk⟩ := t
  unfold F_Lsign at hF
  exact gx_seq (g1_ret (ex_less (ex_ix (ex_var 0 rfl (ex_bin (ex_bin (ex_blt T.b_len bb_len (ax_cons (ex_var 0 rfl (ax_nil (bi hF fun v1 hv1 hF => cd_dLen .id hv1 (ex_int (bi hF fun v2 hv2 hF => od_dSub .id .id hv2 (ex_var 1 rfl (bi hF fun v3 hv3 hF => od_dSub .id .id hv3 (bi hF fun v4 hv4 hF => id_dIx .id .id hv4 (⟨_, sub_refl, ret0 (so hF) hk⟩)))))))))))))))))
theorem ca_Lsign {X : Cx} {J : Gh} {e : Expr} {es : List Expr} {ρ : DEnv} {M : Mem} {P : D → Mem → Prop} {pos p : Pos} (T : Txt X.K X.mg) (hr : Room 1 X.A) (h : AX X J (e :: es) ρ M fun ds M1 => tr_Lsign (ds ++ []) M1 P) (hg : Gl X "_law_sign" := by rfl)
    (he : starEach (e :: es) X.env = (false, eval e X.env) :: starEach es X.env := by rfl) (hpl : (backTo pos (starEach es X.env)).any (·.1) = false := by rfl) : EX X J (.Call (.Name "_law_sign" p) (e :: es) [] pos) ρ M P :=
  ex_call (ok_Lsign T) hr T.m_Lsign T.d_Lsign.choose_spec.kp (T.d_Lsign.choose_spec.bindsN fun _ _ _ _ _ _ us hl => match us, hl with | [_, _], _ => rfl) .nil (fun _ => .nil) h hg (by decide) he hpl
def tr_Lagainst : Tr := fun ds M P => ∃ x0 : D, ∃ x1 : D, ∃ x2 : D, ∃ r : D, ds = [x0, x1, x2] ∧ F_Lagainst x0 x1 x2 = some r ∧ P r M
theorem len_Lagainst {ds M P} (t : tr_Lagainst ds M P) : ds.length = 3 := by obtain ⟨_, _, _, _, rfl, _⟩ := t; rfl
set_option maxHeartbeats 0 in
theorem ok_Lagainst {pg : Program} {w : World} {K : PySem.W.Frag} {mg : Str → Option Value} {base : Heap} (T : Txt K mg) : FnOk pg w K mg base CX0 2 (He.fAd K ("_law_against", none)) T.d_Lagainst.choose ["_law_trial_here", "_law_option", "_law_right_here"] (SpD K tr_Lagainst) :=
  fn_okD T.d_Lagainst.choose_spec sc_Lagainst (fun ds M P t => len_Lagainst t) fun cdv A outer s H ds M P hr t => by
  obtain ⟨x0, x1, x2, r, rfl, hF, hk⟩ := t
  unfold F_Lagainst at hF
  refine gx_seq (g1_if (tx_cmp (ex_var 1 rfl (ex_str (bi hF fun t2 ht2 hF => od_cEq hr.units .id .id ht2 (⟨_, rfl, ⟨fun q1 => ?_, fun q1 => ?_⟩⟩))))))
  · have hF := iT q1 hF
    exact gx_seq (g1_ret (ex_less (ex_cmp (ex_var 2 rfl (ex_int (bi hF fun t3 ht3 hF => od_cEq hr.units .id .id ht3 (⟨_, sub_refl, ret0 (so hF) hk⟩)))))))
  · have hF := iF q1 hF
    refine gx_nil ?_
    show GX _ _ _ _ _ _
    refine gx_seq (g1_asg (bi hF fun v7 hv7 hF => ex_fix v7 M (have hF := hv7; ex_if (tx_cmp (ex_var 1 rfl (ex_str (bi hF fun t4 ht4 hF => od_cEq hr.units .id .id ht4 (⟨_, rfl, ⟨fun q6 => have hF := iT q6 hF; ex_var 1 rfl (⟨so hF, rfl⟩), fun q6 => have hF := iF q6 hF; ca_Lsign T (hr.mono (by decide)) (ax_cons (ex_var 0 rfl (ax_cons (ex_var 1 rfl (ax_nil (bi hF fun v5 hv5 hF => ⟨_, _, v5, rfl, hv5, ⟨so hF, rfl⟩⟩))))))⟩⟩)))))) (as_name 3 (?_) sc_Lagainst.nd)))
    exact gx_seq (g1_ret (ex_less (bi hF fun v14 hv14 hF => ex_fix v14 M (have hF := hv14; ex_andT (ex_cmp (ex_var 3 rfl (ex_str (bi hF fun t9 ht9 hF => od_cNe hr.units .id .id ht9 (bi hF fun t10 ht10 hF => ⟨_, _, .id, ht10, fun q8 => have hF := iT q8 hF; ex_one (ex_cmp (ex_ty T.b_int bb_int (ax_cons (ex_cmp (ex_var 3 rfl (ex_str (bi hF fun t11 ht11 hF => od_cEq hr.units .id .id ht11 (ax_nil (bi hF fun v12 hv12 hF => cd_dInt .id hv12 (ex_var 2 rfl (bi hF fun t13 ht13 hF => od_cNe hr.units .id .id ht13 (⟨so hF, rfl⟩)))))))))))), fun q8 => ⟨so (iF q8 hF), rfl⟩⟩)))))) (⟨_, sub_refl, ret0 (so hF) hk⟩))))
theorem ca_Lagainst {X : Cx} {J : Gh} {e : Expr} {es : List Expr} {ρ : DEnv} {M : Mem} {P : D → Mem → Prop} {pos p : Pos} (T : Txt X.K X.mg) (hr : Room 2 X.A) (h : AX X J (e :: es) ρ M fun ds M1 => tr_Lagainst (ds ++ []) M1 P) (hg : Gl X "_law_against" := by rfl)
    (he : starEach (e :: es) X.env = (false, eval e X.env) :: starEach es X.env := by rfl) (hpl : (backTo pos (starEach es X.env)).any (·.1) = false := by rfl) : EX X J (.Call (.Name "_law_against" p) (e :: es) [] pos) ρ M P :=
  ex_call (ok_Lagainst T) hr T.m_Lagainst T.d_Lagainst.choose_spec.kp (T.d_Lagainst.choose_spec.bindsN fun _ _ _ _ _ _ us hl => match us, hl with | [_, _, _], _ => rfl) .nil (fun _ => .nil) h hg (by decide) he hpl
def tr_Llead : Tr := fun ds M P => ∃ x0 : D, ∃ x1 : D, ∃ r : D, ds = [x0, x1] ∧ F_Llead x0 x1 = some r ∧ P r M
theorem len_Llead {ds M P} (t : tr_Llead ds M P) : ds.length = 2 := by obtain ⟨_, _, _, rfl, _⟩ := t; rfl
set_option maxHeartbeats 0 in
theorem ok_Llead {pg : Program} {w : World} {K : PySem.W.Frag} {mg : Str → Option Value} {base : Heap} (T : Txt K mg) : FnOk pg w K mg base CX0 2 (He.fAd K ("_law_lead", none)) T.d_Llead.choose ["_law_trial_here", "_law_due_here"] (SpD K tr_Llead) :=
  fn_okD T.d_Llead.choose_spec sc_Llead (fun ds M P t => len_Llead t) fun cdv A outer s H ds M P hr t => by
  obtain ⟨x0, x1, r, rfl, hF, hk⟩ := t
  unfold F_Llead at hF
  refine gx_seq (g1_asg (ex_joinF (ex_str (bi hF fun s1 hs1 hF => ⟨s1, strD_eq hs1, ex_lc (own := [("_law_entry", 3)]) (hN := sc_Llead.nd) rfl (bi hF fun l2 hl2 hF => ix_seqU (M2 := M) (ex_var 1 rfl (⟨rfl, rfl⟩)) hl2 (bi hF fun _ hz7 hF => bi hF fun y5 hy5 hF => lcF hy5 (chk_inv hz7).1 (fun x4 _ acc d6 hF hd6 => have fb_d6 := hd6; asb_name 3 (fun _ _ _ _ _ => ca_Lsign T (hr.mono (by decide)) (ax_cons (ex_var 0 rfl (ax_cons (ex_var 3 rfl (ax_nil (bi hF fun v9 hv9 hF => ⟨_, _, v9, rfl, hv9, ⟨so hF, rfl⟩⟩))))))) (hN := sc_Llead.nd)) (bi hF fun v10 hv10 hF => ⟨_, v10, .id, hv10, as_name 2 (?_) sc_Llead.nd⟩)))⟩))))
  exact gx_seq (g1_ret (ex_less (ex_bin (ex_blt T.b_len bb_len (ax_cons (ex_var 2 rfl (ax_nil (bi hF fun v11 hv11 hF => cd_dLen .id hv11 (ex_blt T.b_len bb_len (ax_cons (ex_lstripF (ex_var 2 rfl (bi hF fun s12 hs12 hF => ⟨s12, strD_eq hs12, ex_str (bi hF fun v13 hv13 hF => ⟨_, v13, .id, hv13, ax_nil (bi hF fun v14 hv14 hF => cd_dLen .id hv14 (bi hF fun v15 hv15 hF => od_dSub .id .id hv15 (⟨_, sub_refl, ret0 (so hF) hk⟩)))⟩)⟩)))))))))))))
theorem ca_Llead {X : Cx} {J : Gh} {e : Expr} {es : List Expr} {ρ : DEnv} {M : Mem} {P : D → Mem → Prop} {pos p : Pos} (T : Txt X.K X.mg) (hr : Room 2 X.A) (h : AX X J (e :: es) ρ M fun ds M1 => tr_Llead (ds ++ []) M1 P) (hg : Gl X "_law_lead" := by rfl)
    (he : starEach (e :: es) X.env = (false, eval e X.env) :: starEach es X.env := by rfl) (hpl : (backTo pos (starEach es X.env)).any (·.1) = false := by rfl) : EX X J (.Call (.Name "_law_lead" p) (e :: es) [] pos) ρ M P :=
  ex_call (ok_Llead T) hr T.m_Llead T.d_Llead.choose_spec.kp (T.d_Llead.choose_spec.bindsN fun _ _ _ _ _ _ us hl => match us, hl with | [_, _], _ => rfl) .nil (fun _ => .nil) h hg (by decide) he hpl
def tr_Lseen : Tr := fun ds M P => ∃ x0 : D, ∃ x1 : D, ∃ r : D, ds = [x0, x1] ∧ F_Lseen x0 x1 = some r ∧ P r M
theorem len_Lseen {ds M P} (t : tr_Lseen ds M P) : ds.length = 2 := by obtain ⟨_, _, _, rfl, _⟩ := t; rfl
set_option maxHeartbeats 0 in
theorem ok_Lseen {pg : Program} {w : World} {K : PySem.W.Frag} {mg : Str → Option Value} {base : Heap} (T : Txt K mg) : FnOk pg w K mg base CX0 2 (He.fAd K ("_law_seen", none)) T.d_Lseen.choose ["_law_row", "_law_trial_here"] (SpD K tr_Lseen) :=
  fn_okD T.d_Lseen.choose_spec sc_Lseen (fun ds M P t => len_Lseen t) fun cdv A outer s H ds M P hr t => by
  obtain ⟨x0, x1, r, rfl, hF, hk⟩ := t
  unfold F_Lseen at hF
  refine gx_seq (g1_for PassesOwn.never rfl (bi hF fun l1 hl1 hF => ix_seqU (M2 := M) (ex_var 0 rfl (⟨rfl, rfl⟩)) hl1 (bi hF fun c5 hlc5 hOc5 => forC hlc5 (fun s2 ρ' M' => ∃ j0 : Option D, ∃ j1 : Option D, ρ' = [some x0, some x1, j0, j1] ∧ M' = M) ⟨_, _, rfl, rfl⟩ ?_ ?_)))
  · rintro x4 s2 b6 hF hbb6 _ M ⟨_, _, rfl, rfl⟩
    try dsimp only at hF
    refine as_name 2 (?_) sc_Lseen.nd
    refine gx_seq (g1_asg (bi hF fun v11 hv11 hF => ex_fix v11 M (have hF := hv11; ex_if (tx_tru (ex_blt T.b_isinstance bb_isi (ax_cons (ex_var 2 rfl (ax_cons (ex_tyn T.b_str bb_str (ax_nil (bi hF fun t7 ht7 hF => cd_dIsi (by decide) .id rfl ht7 (bi hF fun t8 ht8 hF => ⟨_, _, .id, ht8, ⟨fun q10 => have hF := iT q10 hF; ex_var 2 rfl (⟨so hF, rfl⟩), fun q10 => have hF := iF q10 hF; ca_Lsign T (hr.mono (by decide)) (ax_cons (ex_var 1 rfl (ax_cons (ex_var 2 rfl (ax_nil (bi hF fun v9 hv9 hF => ⟨_, _, v9, rfl, hv9, ⟨so hF, rfl⟩⟩))))))⟩⟩)))))))))) (as_name 3 (?_) sc_Lseen.nd)))
    refine gx_seq (g1_if (tx_cmp (ex_var 3 rfl (ex_str (bi hF fun t13 ht13 hF => od_cNe hr.units .id .id ht13 (⟨_, rfl, ⟨fun q12 => ?_, fun q12 => ?_⟩⟩))))))
    · have hF := iT q12 hF
      exact gx_seq (g1_ret (ex_less (ex_ty T.b_int bb_int (ax_cons (ex_cmp (ex_var 3 rfl (ex_str (bi hF fun t14 ht14 hF => od_cEq hr.units .id .id ht14 (ax_nil (bi hF fun v15 hv15 hF => cd_dInt .id hv15 (⟨_, sub_refl, ret0 (so (ctl_retS hOc5 (hbb6 _ (so hF).symm))) hk⟩)))))))))))
    · have hF := iF q12 hF
      refine gx_nil ?_
      show GX _ _ _ _ _ _
      exact gx_nil ⟨_, (so hF).symm, ⟨_, _, rfl, rfl⟩⟩
  · rintro r3 hg _ M ⟨_, _, rfl, rfl⟩
    have hF := ctl_go hOc5 hg
    try dsimp only at hF
    show GX _ _ _ _ _ _
    exact gx_seq (g1_ret (ex_less (ex_int (⟨_, sub_refl, ret0 (so hF) hk⟩))))
theorem ca_Lseen {X : Cx} {J : Gh} {e : Expr} {es : List Expr} {ρ : DEnv} {M : Mem} {P : D → Mem → Prop} {pos p : Pos} (T : Txt X.K X.mg) (hr : Room 2 X.A) (h : AX X J (e :: es) ρ M fun ds M1 => tr_Lseen (ds ++ []) M1 P) (hg : Gl X "_law_seen" := by rfl)
    (he : starEach (e :: es) X.env = (false, eval e X.env) :: starEach es X.env := by rfl) (hpl : (backTo pos (starEach es X.env)).any (·.1) = false := by rfl) : EX X J (.Call (.Name "_law_seen" p) (e :: es) [] pos) ρ M P :=
  ex_call (ok_Lseen T) hr T.m_Lseen T.d_Lseen.choose_spec.kp (T.d_Lseen.choose_spec.bindsN fun _ _ _ _ _ _ us hl => match us, hl with | [_, _], _ => rfl) .nil (fun _ => .nil) h hg (by decide) he hpl
def tr_Ltables : Tr := fun ds M P => ∃ (p_0 : Addr) (x0 : List D), ∃ x1 : D, ∃ x2 : D, ∃ x3 : D, ∃ x4 : D, ∃ x5 : D, ∃ r : D × List D, ∃ W : D → Mem, ds = [.adr p_0, x1, x2, x3, x4, x5] ∧ M = W (.lst x0) ∧ (∀ z0, At (W z0) p_0 z0 (fun z => W z)) ∧ F_Ltables x0 x1 x2 x3 x4 x5 = some r ∧ P r.1 (W (.lst r.2))
theorem len_Ltables {ds M P} (t : tr_Ltables ds M P) : ds.length = 6 := by obtain ⟨_, _, _, _, _, _, _, _, _, rfl, _⟩ := t; rfl
set_option maxHeartbeats 0 in
theorem ok_Ltables {pg : Program} {w : World} {K : PySem.W.Frag} {mg : Str → Option Value} {base : Heap} (T : Txt K mg) : FnOk pg w K mg base CX0 3 (He.fAd K ("_law_tables", none)) T.d_Ltables.choose ["_law_pen_here", "_law_some", "_law_size", "_law_ends_here", "_law_is_ring", "_law_is_stuck"] (SpD K tr_Ltables) :=
  fn_okD T.d_Ltables.choose_spec sc_Ltables (fun ds M P t => len_Ltables t) fun cdv A outer s H ds M P hr t => by
  obtain ⟨p_0, x0, x1, x2, x3, x4, x5, r, W, rfl, rfl, hW0, hF, hk⟩ := t
  unfold F_Ltables at hF
  refine gx_seq (g1_asg (ex_lstM (ax_nil (⟨le_b rfl, fun a1 ha1 => have ne_p_0_a1 := At.ne (hW0 _) ha1; have fb_a1 := fresh1 hW0 ha1; as_name 6 (?_) sc_Ltables.nd⟩))))
  refine gx_seq (g1_for PassesOwn.never rfl (bi hF fun l2 hl2 hF => ix_seqU (M2 := (up (W (.lst x0)) a1 (.lst []))) (ex_var 3 rfl (⟨rfl, rfl⟩)) hl2 (bi hF fun r4 hlr4 hF => forF hlr4 (fun s3 ρ' M' => ∃ s3_0 : List D, ∃ s3_1 : List D, ∃ j0 : Option D, ∃ j1 : Option D, ∃ j2 : Option D, ∃ j3 : Option D, ∃ j4 : Option D, ∃ j5 : Option D, ∃ j6 : Option D, ∃ j7 : Option D, ∃ j8 : Option D, ∃ j9 : Option D, s3 = (s3_0, s3_1) ∧ ρ' = [some (.adr p_0), some x1, some x2, some x3, some x4, some x5, some (.adr a1), j0, j1, j2, j3, j4, j5, j6, j7, j8, j9] ∧ M' = (up (W (.lst s3_0)) a1 (.lst s3_1))) ⟨_, _, _, _, _, _, _, _, _, _, _, _, rfl, rfl, rfl⟩ ?_ ?_)))
  · rintro x7 s3 _ hF _ _ ⟨s3_0, s3_1, _, _, _, _, _, _, _, _, _, _, rfl, rfl, rfl⟩
    try dsimp only at hF
    refine as_name 7 (?_) sc_Ltables.nd
    refine gx_seq (g1_asg (ca_Ldue T (hr.mono (by decide)) (ax_cons (ex_var 2 rfl (ax_cons (ex_var 7 rfl (ax_cons (ex_var 4 rfl (ax_nil (bi hF fun v10 hv10 hF => ⟨_, _, _, v10, rfl, hv10, as_name 8 (?_) sc_Ltables.nd⟩))))))))))
    refine gx_seq (g1_asg (ex_lstM (ax_nil (⟨le_b rfl, fun a11 ha11 => have ne_a1_a11 := (up_none ha11).1; have ne_p_0_a11 := At.ne (hW0 _) (up_none ha11).2; have fb_a11 := fresh1 hW0 (up_none ha11).2; as_name 9 (?_) sc_Ltables.nd⟩))))
    refine gx_seq (g1_for PassesOwn.never rfl (bi hF fun v18 hv18 hF => bi hF fun l19 hl19 hF => ix_range1U (M2 := (up (up (W (.lst s3_0)) a1 (.lst s3_1)) a11 (.lst []))) T.b_range ((have hF := hv18; ax_cons (ex_bin (ex_blt T.b_len bb_len (ax_cons (ex_var 8 rfl (ax_nil (bi hF fun v12 hv12 hF => cd_dLen .id hv12 (ex_ty T.b_int bb_int (ax_cons (bi hF fun v15 hv15 hF => ex_fix v15 (up (up (W (.lst s3_0)) a1 (.lst s3_1)) a11 (.lst [])) (have hF := hv15; ex_andT (ex_var 4 rfl (bi hF fun t14 ht14 hF => ⟨_, _, .id, ht14, fun q13 => have hF := iT q13 hF; ex_one (ex_var 5 rfl (⟨so hF, rfl⟩)), fun q13 => ⟨so (iF q13 hF), rfl⟩⟩))) (ax_nil (bi hF fun v16 hv16 hF => cd_dInt .id hv16 (bi hF fun v17 hv17 hF => od_dAdd .id .id hv17 (ax_nil (⟨by rw [so hF], rfl⟩)))))))))))))))) hl19 (bi hF fun r21 hlr21 hF => forF hlr21 (fun s20 ρ' M' => ∃ s20_0 : List D, ∃ s20_1 : List D, ∃ j0 : Option D, ∃ j1 : Option D, ∃ j2 : Option D, ∃ j3 : Option D, ∃ j4 : Option D, ∃ j5 : Option D, ∃ j6 : Option D, s20 = (s20_0, s20_1) ∧ ρ' = [some (.adr p_0), some x1, some x2, some x3, some x4, some x5, some (.adr a1), some x7, some v10, some (.adr a11), j0, j1, j2, j3, j4, j5, j6] ∧ M' = (up (up (W (.lst s20_0)) a1 (.lst s3_1)) a11 (.lst s20_1))) ⟨_, _, _, _, _, _, _, _, _, rfl, rfl, rfl⟩ ?_ ?_)))
    · rintro x22 s20 _ hF _ _ ⟨s20_0, s20_1, _, _, _, _, _, _, _, rfl, rfl, rfl⟩
      try dsimp only at hF
      refine as_name 10 (?_) sc_Ltables.nd
      refine gx_seq (g1_asg (ex_lstM (ax_nil (⟨le_b rfl, fun a25 ha25 => have ne_a11_a25 := (up_none ha25).1; have ne_a1_a25 := (up_none (up_none ha25).2).1; have ne_p_0_a25 := At.ne (hW0 _) (up_none (up_none ha25).2).2; have fb_a25 := fresh1 hW0 (up_none (up_none ha25).2).2; as_name 11 (?_) sc_Ltables.nd⟩))))
      refine gx_seq (g1_for PassesOwn.never rfl (bi hF fun v27 hv27 hF => bi hF fun l28 hl28 hF => ix_seqU (M2 := (up (up (up (W (.lst s20_0)) a1 (.lst s3_1)) a11 (.lst s20_1)) a25 (.lst []))) ((have hF := hv27; ca_Loptions T (hr.mono (by decide)) (ax_cons (ex_var 2 rfl (ax_cons (ex_var 7 rfl (ax_cons (ex_var 10 rfl (ax_cons (ex_var 4 rfl (ax_cons (ex_var 5 rfl (ax_nil (bi hF fun v26 hv26 hF => ⟨_, _, _, _, _, v26, rfl, hv26, ⟨so hF, rfl⟩⟩)))))))))))))) hl28 (bi hF fun r30 hlr30 hF => forF hlr30 (fun s29 ρ' M' => ∃ s29_0 : List D, ∃ s29_1 : List D, ∃ j0 : Option D, ∃ j1 : Option D, ∃ j2 : Option D, ∃ j3 : Option D, ∃ j4 : Option D, s29 = (s29_0, s29_1) ∧ ρ' = [some (.adr p_0), some x1, some x2, some x3, some x4, some x5, some (.adr a1), some x7, some v10, some (.adr a11), some x22, some (.adr a25), j0, j1, j2, j3, j4] ∧ M' = (up (up (up (W (.lst s29_1)) a1 (.lst s3_1)) a11 (.lst s20_1)) a25 (.lst s29_0))) ⟨_, _, _, _, _, _, _, rfl, rfl, rfl⟩ ?_ ?_)))
      · rintro x31 s29 _ hF _ _ ⟨s29_0, s29_1, _, _, _, _, _, rfl, rfl, rfl⟩
        try dsimp only at hF
        refine as_name 12 (?_) sc_Ltables.nd
        refine gx_seq (g1_lc (own := [("_law_k", 15), ("_law_trial_here", 16)]) (hN := sc_Ltables.nd) 13 rfl (bi hF fun l34 hl34 hF => ix_enumU (M2 := (up (up (up (W (.lst s29_1)) a1 (.lst s3_1)) a11 (.lst s20_1)) a25 (.lst s29_0))) T.b_enumerate (ax_cons (ex_var 1 rfl (ax_nil (⟨rfl, rfl⟩)))) hl34 (bi hF fun _ hz39 hF => bi hF fun y37 hy37 hF => filtF hy37 (chk_inv hz39).1 (fun x36 _ acc d38 hF hd38 => have ne_a25_d38 := (up_none hd38).1; have ne_a11_d38 := (up_none (up_none hd38).2).1; have ne_a1_d38 := (up_none (up_none (up_none hd38).2).2).1; have ne_p_0_d38 := At.ne (hW0 _) (up_none (up_none (up_none hd38).2).2).2; have fb_d38 := fresh1 hW0 (up_none (up_none (up_none hd38).2).2).2; bi hF fun p41 hp41 hF => asb_eq (un2_eq hp41) (asb_tup rfl (asb_cons (asb_name 15 (asb_cons (asb_name 16 (asb_nil (txb_one fun _ _ _ _ _ => tx_cmp (ca_Llead T (hr.mono (by decide)) (ax_cons (ex_var 16 rfl (ax_cons (ex_var 8 rfl (ax_nil (bi hF fun v42 hv42 hF => ⟨_, _, v42, rfl, hv42, ex_var 10 rfl (bi hF fun t43 ht43 hF => od_cGe .id .id ht43 (⟨_, rfl, ⟨fun q44 => have hF := iT q44 hF; fun _ _ _ _ _ => ex_var 15 rfl (⟨(so hF).symm, rfl⟩), fun q44 => ⟨(so (iF q44 hF)).symm, rfl⟩⟩⟩))⟩))))))))) (hN := sc_Ltables.nd))) (hN := sc_Ltables.nd))))) (?_))))
        refine gx_seq (g1_lc (own := [("_law_k", 15)]) (hN := sc_Ltables.nd) 14 rfl (bi hF fun l45 hl45 hF => ix_seqU (M2 := (up (up (up (W (.lst s29_1)) a1 (.lst s3_1)) a11 (.lst s20_1)) a25 (.lst s29_0))) (ex_var 13 rfl (⟨rfl, rfl⟩)) hl45 (bi hF fun _ hz50 hF => bi hF fun y48 hy48 hF => filtF hy48 (chk_inv hz50).1 (fun x47 _ acc d49 hF hd49 => have ne_a25_d49 := (up_none hd49).1; have ne_a11_d49 := (up_none (up_none hd49).2).1; have ne_a1_d49 := (up_none (up_none (up_none hd49).2).2).1; have ne_p_0_d49 := At.ne (hW0 _) (up_none (up_none (up_none hd49).2).2).2; have fb_d49 := fresh1 hW0 (up_none (up_none (up_none hd49).2).2).2; asb_name 15 (txb_one fun _ _ _ _ _ => tx_tru (ca_Lagainst T (hr.mono (by decide)) (ax_cons (ex_ix (ex_var 1 rfl (ex_var 15 rfl (bi hF fun v52 hv52 hF => id_dIx .id .id hv52 (ax_cons (ex_var 12 rfl (ax_cons (ca_Lseen T (hr.mono (by decide)) (ax_cons (ex_var 8 rfl (ax_cons (ex_ix (ex_var 1 rfl (ex_var 15 rfl (bi hF fun v53 hv53 hF => id_dIx .id .id hv53 (ax_nil (bi hF fun v54 hv54 hF => ⟨_, _, v54, rfl, hv54, ax_nil (bi hF fun v55 hv55 hF => ⟨_, _, _, v55, rfl, hv55, bi hF fun t56 ht56 hF => ⟨_, _, .id, ht56, ⟨fun q57 => have hF := iT q57 hF; fun _ _ _ _ _ => ex_var 15 rfl (⟨(so hF).symm, rfl⟩), fun q57 => ⟨(so (iF q57 hF)).symm, rfl⟩⟩⟩⟩)⟩)))))))))))))))))))) (hN := sc_Ltables.nd)) (?_))))
        refine gx_seq (g1_expr (ex_append (ex_var 11 rfl (⟨_, _, rfl, at0.get, ax_cons (ex_ix (bi hF fun v60 hv60 hF => ex_fix v60 (up (up (up (W (.lst s29_1)) a1 (.lst s3_1)) a11 (.lst s20_1)) a25 (.lst s29_0)) (have hF := hv60; ex_orT (ex_var 14 rfl (bi hF fun t59 ht59 hF => ⟨_, _, .id, ht59, fun q58 => have hF := iF q58 hF; ex_one (ex_lst (ax_cons (ex_int (ax_nil (⟨le_b rfl, ⟨so hF, rfl⟩⟩))))), fun q58 => ⟨so (iT q58 hF), rfl⟩⟩))) (ca_Ldraw T (hr.mono (by decide)) (ax_cons (ex_var 0 rfl (ax_cons (ex_blt T.b_len bb_len (ax_cons (bi hF fun v63 hv63 hF => ex_fix v63 (up (up (up (W (.lst s29_1)) a1 (.lst s3_1)) a11 (.lst s20_1)) a25 (.lst s29_0)) (have hF := hv63; ex_orT (ex_var 14 rfl (bi hF fun t62 ht62 hF => ⟨_, _, .id, ht62, fun q61 => have hF := iF q61 hF; ex_one (ex_lst (ax_cons (ex_int (ax_nil (⟨le_b rfl, ⟨so hF, rfl⟩⟩))))), fun q61 => ⟨so (iT q61 hF), rfl⟩⟩))) (ax_nil (bi hF fun v64 hv64 hF => cd_dLen .id hv64 (ax_nil (bi hF fun v65 hv65 hF => ⟨p_0, s29_1, _, v65, (fun w0 => (up (up (up (W w0) a1 (.lst s3_1)) a11 (.lst s20_1)) a25 (.lst s29_0))), rfl, rfl, fun _ => (at1 ne_p_0_a25 (at1 ne_p_0_a11 (at1 ne_p_0_a1 (hW0 _)))), hv65, bi hF fun v66 hv66 hF => id_dIx .id .id hv66 (ax_nil (bi hF fun _ h67 hF => ⟨_, _, _, rfl, at0, (chk_inv h67).1, ?_⟩))⟩)))))))))))))⟩))))
        exact gx_nil ⟨_, _, _, _, _, _, _, (so hF).symm, rfl, rfl⟩
      · rintro _ _ ⟨r30_0, r30_1, _, _, _, _, _, rfl, rfl, rfl⟩
        try dsimp only at hF
        show GX _ _ _ _ _ _
        refine gx_seq (g1_expr (ex_append (ex_var 9 rfl (⟨_, _, rfl, (at1 ne_a11_a25 at0).get, ax_cons (ex_ty T.b_tuple bb_tuple (ax_cons (ex_var 11 rfl (ax_nil (bi hF fun l68 hl68 hF => cd_lTuple rfl (.ad at0.get rfl) hl68 (ax_nil (bi hF fun _ h69 hF => ⟨_, _, _, rfl, (at1 ne_a11_a25 at0), (chk_inv h69).1, ?_⟩)))))))⟩))))
        refine gx_less (sub_drop (sub_keep (sub_keep sub_refl)) (nn ne_a11_a25 (nn ne_a1_a25 (fb_a25 _)))) ?_
        exact gx_nil ⟨_, _, _, _, _, _, _, _, _, (so hF).symm, rfl, rfl⟩
    · rintro _ _ ⟨r21_0, r21_1, _, _, _, _, _, _, _, rfl, rfl, rfl⟩
      try dsimp only at hF
      show GX _ _ _ _ _ _
      refine gx_seq (g1_expr (ex_append (ex_var 6 rfl (⟨_, _, rfl, (at1 ne_a1_a11 at0).get, ax_cons (ex_ty T.b_tuple bb_tuple (ax_cons (ex_var 9 rfl (ax_nil (bi hF fun l70 hl70 hF => cd_lTuple rfl (.ad at0.get rfl) hl70 (ax_nil (bi hF fun _ h71 hF => ⟨_, _, _, rfl, (at1 ne_a1_a11 at0), (chk_inv h71).1, ?_⟩)))))))⟩))))
      refine gx_less (sub_drop (sub_keep sub_refl) (nn ne_a1_a11 (fb_a11 _))) ?_
      exact gx_nil ⟨_, _, _, _, _, _, _, _, _, _, _, _, (so hF).symm, rfl, rfl⟩
  · rintro _ _ ⟨r4_0, r4_1, _, _, _, _, _, _, _, _, _, _, rfl, rfl, rfl⟩
    try dsimp only at hF
    show GX _ _ _ _ _ _
    refine gx_frzA 6 rfl at0.get (subx_here (fb_a1 _)) ?_
    show GX _ _ _ _ _ _
    exact gx_seq (g1_ret (ex_less (ex_var 6 rfl (⟨_, sub_refl, ret1 (W := W) (so hF) hk⟩))))
theorem ca_Ltables {X : Cx} {J : Gh} {e : Expr} {es : List Expr} {ρ : DEnv} {M : Mem} {P : D → Mem → Prop} {pos p : Pos} (T : Txt X.K X.mg) (hr : Room 3 X.A) (h : AX X J (e :: es) ρ M fun ds M1 => tr_Ltables (ds ++ []) M1 P) (hg : Gl X "_law_tables" := by rfl)
    (he : starEach (e :: es) X.env = (false, eval e X.env) :: starEach es X.env := by rfl) (hpl : (backTo pos (starEach es X.env)).any (·.1) = false := by rfl) : EX X J (.Call (.Name "_law_tables" p) (e :: es) [] pos) ρ M P :=
  ex_call (ok_Ltables T) hr T.m_Ltables T.d_Ltables.choose_spec.kp (T.d_Ltables.choose_spec.bindsN fun _ _ _ _ _ _ us hl => match us, hl with | [_, _, _, _, _, _], _ => rfl) .nil (fun _ => .nil) h hg (by decide) he hpl
def tr_Lholds : Tr := fun ds M P => ∃ x0 : D, ∃ x1 : D, ∃ x2 : D, ∃ x3 : D, ∃ x4 : D, ∃ x5 : D, ∃ r : D, ds = [x0, x1, x2, x3, x4, x5] ∧ F_Lholds x0 x1 x2 x3 x4 x5 = some r ∧ P r M
theorem len_Lholds {ds M P} (t : tr_Lholds ds M P) : ds.length = 6 := by obtain ⟨_, _, _, _, _, _, _, rfl, _⟩ := t; rfl
set_option maxHeartbeats 0 in
theorem ok_Lholds {pg : Program} {w : World} {K : PySem.W.Frag} {mg : Str → Option Value} {base : Heap} (T : Txt K mg) : FnG pg w K mg base 3 (He.fAd K ("_law_holds", none)) T.d_Lholds.choose ["_law_value", "_law_some", "_law_size", "_law_ends_here", "_law_is_ring", "_law_is_stuck"] tr_Lholds :=
  fn_okG T.d_Lholds.choose_spec sc_Lholds (fun ds M P t => len_Lholds t) fun cdv A outer s H ds M P hgd hr t => by
  obtain ⟨x0, x1, x2, x3, x4, x5, r, rfl, hF, hk⟩ := t
  unfold F_Lholds at hF
  refine gx_seq (g1_if (bi hF fun t12 ht12 hF => tx_fix t12 M (have hF := ht12; tx_pw (wx_or (tx_not (tx_tru (ex_blt T.b_isinstance bb_isi (ax_cons (ex_var 0 rfl (ax_cons (ex_tyn T.b_tuple bb_tuple (ax_nil (bi hF fun t3 ht3 hF => cd_dIsi (by decide) .id rfl ht3 (bi hF fun t4 ht4 hF => ⟨_, _, .id, ht4, ⟨fun q2 => have hF := iF q2 hF; wx_or (tx_cmp (ex_blt T.b_len bb_len (ax_cons (ex_var 0 rfl (ax_nil (bi hF fun v6 hv6 hF => cd_dLen .id hv6 (ex_int (bi hF fun t7 ht7 hF => od_cNe hr.units .id .id ht7 (⟨_, rfl, ⟨fun q5 => have hF := iF q5 hF; wx_or1 (tx_cmp (ex_blt T.b_repr bb_repr (ax_cons (ex_ix (ex_var 0 rfl (ex_int (bi hF fun v8 hv8 hF => id_dIx .id .id hv8 (ax_nil (bi hF fun v9 hv9 hF => cd_dRepr hgd hr.units .id hv9 (ex_blt T.b_repr bb_repr (ax_cons (ex_str (ax_nil (bi hF fun v10 hv10 hF => cd_dRepr hgd hr.units .id hv10 (bi hF fun t11 ht11 hF => od_cNe hr.units .id .id ht11 (⟨_, rfl, ⟨so hF, rfl⟩⟩)))))))))))))))), fun q5 => ⟨so (iT q5 hF), rfl⟩⟩⟩))))))))), fun q2 => ⟨so (iT q2 hF), rfl⟩⟩⟩)))))))))))) (⟨fun q1 => ?_, fun q1 => ?_⟩)))
  · have hF := iT q1 hF
    exact gx_seq (g1_ret (ex_less (ex_bl (⟨_, sub_refl, ret0 (so hF) hk⟩))))
  · have hF := iF q1 hF
    refine gx_nil ?_
    show GX _ _ _ _ _ _
    refine gx_seq (g1_if (bi hF fun t22 ht22 hF => tx_fix t22 M (have hF := ht22; tx_pw (wx_or (tx_not (tx_tru (ex_blt T.b_isinstance bb_isi (ax_cons (ex_ix (ex_var 0 rfl (ex_int (bi hF fun v15 hv15 hF => id_dIx .id .id hv15 (ax_cons (ex_tyn T.b_tuple bb_tuple (ax_nil (bi hF fun t16 ht16 hF => cd_dIsi (by decide) .id rfl ht16 (bi hF fun t17 ht17 hF => ⟨_, _, .id, ht17, ⟨fun q14 => have hF := iF q14 hF; wx_or1 (tx_cmp (ex_blt T.b_len bb_len (ax_cons (ex_ix (ex_var 0 rfl (ex_int (bi hF fun v18 hv18 hF => id_dIx .id .id hv18 (ax_nil (bi hF fun v19 hv19 hF => cd_dLen .id hv19 (ex_blt T.b_len bb_len (ax_cons (ex_var 3 rfl (ax_nil (bi hF fun v20 hv20 hF => cd_dLen .id hv20 (bi hF fun t21 ht21 hF => od_cNe hr.units .id .id ht21 (⟨_, rfl, ⟨so hF, rfl⟩⟩)))))))))))))))), fun q14 => ⟨so (iT q14 hF), rfl⟩⟩⟩))))))))))))))) (⟨fun q13 => ?_, fun q13 => ?_⟩)))
    · have hF := iT q13 hF
      exact gx_seq (g1_ret (ex_less (ex_bl (⟨_, sub_refl, ret0 (so hF) hk⟩))))
    · have hF := iF q13 hF
      refine gx_nil ?_
      show GX _ _ _ _ _ _
      refine gx_seq (g1_for PassesOwn.never rfl (bi hF fun v24 hv24 hF => bi hF fun l25 hl25 hF => ix_zipU (M2 := M) T.b_zip ((have hF := hv24; ax_cons (ex_var 3 rfl (ax_cons (ex_ix (ex_var 0 rfl (ex_int (bi hF fun v23 hv23 hF => id_dIx .id .id hv23 (ax_nil ((by cases hF; exact ⟨rfl, rfl⟩))))))))))) hl25 (bi hF fun c29 hlc29 hOc29 => forC hlc29 (fun s26 ρ' M' => ∃ j0 : Option D, ∃ j1 : Option D, ∃ j2 : Option D, ∃ j3 : Option D, ∃ j4 : Option D, ∃ j5 : Option D, ∃ j6 : Option D, ∃ j7 : Option D, ∃ j8 : Option D, ρ' = [some x0, some x1, some x2, some x3, some x4, some x5, j0, j1, j2, j3, j4, j5, j6, j7, j8] ∧ M' = M) ⟨_, _, _, _, _, _, _, _, _, rfl, rfl⟩ ?_ ?_)))
      · rintro x28 s26 b30 hF hbb30 _ M ⟨_, _, _, _, _, _, _, _, _, rfl, rfl⟩
        try dsimp only at hF
        refine bi hF fun p31 hp31 hF => as_eq (un2_eq hp31) (as_tup rfl rfl (asd_cons (as_name 6 (asd_cons (as_name 7 (asd_nil (?_)) sc_Lholds.nd)) sc_Lholds.nd)))
        refine gx_seq (g1_asg (ca_Ldue T (hr.mono (by decide)) (ax_cons (ex_var 2 rfl (ax_cons (ex_var 6 rfl (ax_cons (ex_var 4 rfl (ax_nil (bi hF fun v32 hv32 hF => ⟨_, _, _, v32, rfl, hv32, as_name 8 (?_) sc_Lholds.nd⟩))))))))))
        refine gx_seq (g1_if (bi hF fun t45 ht45 hF => tx_fix t45 M (have hF := ht45; tx_pw (wx_or (tx_not (tx_tru (ex_blt T.b_isinstance bb_isi (ax_cons (ex_var 7 rfl (ax_cons (ex_tyn T.b_tuple bb_tuple (ax_nil (bi hF fun t35 ht35 hF => cd_dIsi (by decide) .id rfl ht35 (bi hF fun t36 ht36 hF => ⟨_, _, .id, ht36, ⟨fun q34 => have hF := iF q34 hF; wx_or1 (tx_cmp (ex_blt T.b_len bb_len (ax_cons (ex_var 7 rfl (ax_nil (bi hF fun v37 hv37 hF => cd_dLen .id hv37 (ex_bin (ex_blt T.b_len bb_len (ax_cons (ex_var 8 rfl (ax_nil (bi hF fun v38 hv38 hF => cd_dLen .id hv38 (ex_ty T.b_int bb_int (ax_cons (bi hF fun v41 hv41 hF => ex_fix v41 M (have hF := hv41; ex_andT (ex_var 4 rfl (bi hF fun t40 ht40 hF => ⟨_, _, .id, ht40, fun q39 => have hF := iT q39 hF; ex_one (ex_var 5 rfl (⟨so hF, rfl⟩)), fun q39 => ⟨so (iF q39 hF), rfl⟩⟩))) (ax_nil (bi hF fun v42 hv42 hF => cd_dInt .id hv42 (bi hF fun v43 hv43 hF => od_dAdd .id .id hv43 (bi hF fun t44 ht44 hF => od_cNe hr.units .id .id ht44 (⟨_, rfl, ⟨so hF, rfl⟩⟩)))))))))))))))))))), fun q34 => ⟨so (iT q34 hF), rfl⟩⟩⟩)))))))))))) (⟨fun q33 => ?_, fun q33 => ?_⟩)))
        · have hF := iT q33 hF
          exact gx_seq (g1_ret (ex_less (ex_bl (⟨_, sub_refl, ret0 (so (ctl_retS hOc29 (hbb30 _ (so hF).symm))) hk⟩))))
        · have hF := iF q33 hF
          refine gx_nil ?_
          show GX _ _ _ _ _ _
          refine gx_seq (g1_for PassesOwn.never rfl (bi hF fun l46 hl46 hF => ix_enumU (M2 := M) T.b_enumerate (ax_cons (ex_var 7 rfl (ax_nil (⟨rfl, rfl⟩)))) hl46 (bi hF fun c50 hlc50 hOc50 => forC hlc50 (fun s47 ρ' M' => ∃ j0 : Option D, ∃ j1 : Option D, ∃ j2 : Option D, ∃ j3 : Option D, ∃ j4 : Option D, ∃ j5 : Option D, ρ' = [some x0, some x1, some x2, some x3, some x4, some x5, some p31.1, some p31.2, some v32, j0, j1, j2, j3, j4, j5] ∧ M' = M) ⟨_, _, _, _, _, _, rfl, rfl⟩ ?_ ?_)))
          · rintro x49 s47 b51 hF hbb51 _ M ⟨_, _, _, _, _, _, rfl, rfl⟩
            try dsimp only at hF
            refine bi hF fun p52 hp52 hF => as_eq (un2_eq hp52) (as_tup rfl rfl (asd_cons (as_name 9 (asd_cons (as_name 10 (asd_nil (?_)) sc_Lholds.nd)) sc_Lholds.nd)))
            refine gx_seq (g1_asg (ca_Loptions T (hr.mono (by decide)) (ax_cons (ex_var 2 rfl (ax_cons (ex_var 6 rfl (ax_cons (ex_var 9 rfl (ax_cons (ex_var 4 rfl (ax_cons (ex_var 5 rfl (ax_nil (bi hF fun v53 hv53 hF => ⟨_, _, _, _, _, v53, rfl, hv53, as_name 11 (?_) sc_Lholds.nd⟩))))))))))))))
            refine gx_seq (g1_if (bi hF fun t61 ht61 hF => tx_fix t61 M (have hF := ht61; tx_pw (wx_or (tx_not (tx_tru (ex_blt T.b_isinstance bb_isi (ax_cons (ex_var 10 rfl (ax_cons (ex_tyn T.b_tuple bb_tuple (ax_nil (bi hF fun t56 ht56 hF => cd_dIsi (by decide) .id rfl ht56 (bi hF fun t57 ht57 hF => ⟨_, _, .id, ht57, ⟨fun q55 => have hF := iF q55 hF; wx_or1 (tx_cmp (ex_blt T.b_len bb_len (ax_cons (ex_var 10 rfl (ax_nil (bi hF fun v58 hv58 hF => cd_dLen .id hv58 (ex_blt T.b_len bb_len (ax_cons (ex_var 11 rfl (ax_nil (bi hF fun v59 hv59 hF => cd_dLen .id hv59 (bi hF fun t60 ht60 hF => od_cNe hr.units .id .id ht60 (⟨_, rfl, ⟨so hF, rfl⟩⟩))))))))))))), fun q55 => ⟨so (iT q55 hF), rfl⟩⟩⟩)))))))))))) (⟨fun q54 => ?_, fun q54 => ?_⟩)))
            · have hF := iT q54 hF
              exact gx_seq (g1_ret (ex_less (ex_bl (⟨_, sub_refl, ret0 (so (ctl_retS hOc29 (hbb30 _ (so (ctl_retR hOc50 (hbb51 _ (so hF).symm))).symm))) hk⟩))))
            · have hF := iF q54 hF
              refine gx_nil ?_
              show GX _ _ _ _ _ _
              refine gx_seq (g1_for PassesOwn.never rfl (bi hF fun l62 hl62 hF => ix_zipU (M2 := M) T.b_zip (ax_cons (ex_var 11 rfl (ax_cons (ex_var 10 rfl (ax_nil (⟨rfl, rfl⟩)))))) hl62 (bi hF fun c66 hlc66 hOc66 => forC hlc66 (fun s63 ρ' M' => ∃ j0 : Option D, ∃ j1 : Option D, ∃ j2 : Option D, ρ' = [some x0, some x1, some x2, some x3, some x4, some x5, some p31.1, some p31.2, some v32, some p52.1, some p52.2, some v53, j0, j1, j2] ∧ M' = M) ⟨_, _, _, rfl, rfl⟩ ?_ ?_)))
              · rintro x65 s63 b67 hF hbb67 _ M ⟨_, _, _, rfl, rfl⟩
                try dsimp only at hF
                refine bi hF fun p68 hp68 hF => as_eq (un2_eq hp68) (as_tup rfl rfl (asd_cons (as_name 12 (asd_cons (as_name 13 (asd_nil (?_)) sc_Lholds.nd)) sc_Lholds.nd)))
                refine gx_seq (g1_if (bi hF fun t81 ht81 hF => tx_fix t81 M (have hF := ht81; tx_pw (wx_or (tx_not (tx_tru (ex_blt T.b_isinstance bb_isi (ax_cons (ex_var 13 rfl (ax_cons (ex_tyn T.b_int bb_int (ax_nil (bi hF fun t71 ht71 hF => cd_dIsi (by decide) .id rfl ht71 (bi hF fun t72 ht72 hF => ⟨_, _, .id, ht72, ⟨fun q70 => have hF := iF q70 hF; wx_or (tx_tru (ex_blt T.b_isinstance bb_isi (ax_cons (ex_var 13 rfl (ax_cons (ex_tyn T.b_bool bb_bool (ax_nil (bi hF fun t74 ht74 hF => cd_dIsi (by decide) .id rfl ht74 (bi hF fun t75 ht75 hF => ⟨_, _, .id, ht75, ⟨fun q73 => have hF := iF q73 hF; wx_or1 (tx_not (bi hF fun t80 ht80 hF => tx_fix t80 M (have hF := ht80; tx_chain (ex_int (ex_var 13 rfl (bi hF fun t77 ht77 hF => od_cLe .id .id ht77 ⟨_, rfl, fun q76 => have hF := iT q76 hF; ex_blt T.b_len bb_len (ax_cons (ex_var 1 rfl (ax_nil (bi hF fun v78 hv78 hF => cd_dLen .id hv78 (bi hF fun t79 ht79 hF => od_cLt .id .id ht79 ⟨_, rfl, ⟨so hF, rfl⟩⟩))))), fun q76 => ⟨so (iF q76 hF), rfl⟩⟩)))) (⟨so hF, rfl⟩))), fun q73 => ⟨so (iT q73 hF), rfl⟩⟩⟩))))))))), fun q70 => ⟨so (iT q70 hF), rfl⟩⟩⟩)))))))))))) (⟨fun q69 => ?_, fun q69 => ?_⟩)))
                · have hF := iT q69 hF
                  exact gx_seq (g1_ret (ex_less (ex_bl (⟨_, sub_refl, ret0 (so (ctl_retS hOc29 (hbb30 _ (so (ctl_retR hOc50 (hbb51 _ (so (ctl_retR hOc66 (hbb67 _ (so hF).symm))).symm))).symm))) hk⟩))))
                · have hF := iF q69 hF
                  refine gx_nil ?_
                  show GX _ _ _ _ _ _
                  refine gx_seq (g1_asg (ca_Lseen T (hr.mono (by decide)) (ax_cons (ex_var 8 rfl (ax_cons (ex_ix (ex_var 1 rfl (ex_var 13 rfl (bi hF fun v82 hv82 hF => id_dIx .id .id hv82 (ax_nil (bi hF fun v83 hv83 hF => ⟨_, _, v83, rfl, hv83, as_name 14 (?_) sc_Lholds.nd⟩)))))))))))
                  refine gx_seq (g1_if (bi hF fun t92 ht92 hF => tx_fix t92 M (have hF := ht92; tx_pw (wx_or (tx_cmp (ca_Llead T (hr.mono (by decide)) (ax_cons (ex_ix (ex_var 1 rfl (ex_var 13 rfl (bi hF fun v86 hv86 hF => id_dIx .id .id hv86 (ax_cons (ex_var 8 rfl (ax_nil (bi hF fun v87 hv87 hF => ⟨_, _, v87, rfl, hv87, ex_var 9 rfl (bi hF fun t88 ht88 hF => od_cLt .id .id ht88 (⟨_, rfl, ⟨fun q85 => have hF := iF q85 hF; wx_or1 (tx_not (tx_tru (ca_Lagainst T (hr.mono (by decide)) (ax_cons (ex_ix (ex_var 1 rfl (ex_var 13 rfl (bi hF fun v89 hv89 hF => id_dIx .id .id hv89 (ax_cons (ex_var 12 rfl (ax_cons (ex_var 14 rfl (ax_nil (bi hF fun v90 hv90 hF => ⟨_, _, _, v90, rfl, hv90, bi hF fun t91 ht91 hF => ⟨_, _, .id, ht91, ⟨so hF, rfl⟩⟩⟩)))))))))))))), fun q85 => ⟨so (iT q85 hF), rfl⟩⟩⟩))⟩))))))))))))) (⟨fun q84 => ?_, fun q84 => ?_⟩)))
                  · have hF := iT q84 hF
                    exact gx_seq (g1_ret (ex_less (ex_bl (⟨_, sub_refl, ret0 (so (ctl_retS hOc29 (hbb30 _ (so (ctl_retR hOc50 (hbb51 _ (so (ctl_retR hOc66 (hbb67 _ (so hF).symm))).symm))).symm))) hk⟩))))
                  · have hF := iF q84 hF
                    refine gx_nil ?_
                    show GX _ _ _ _ _ _
                    exact gx_nil ⟨_, (so hF).symm, ⟨_, _, _, rfl, rfl⟩⟩
              · rintro r64 hg _ M ⟨_, _, _, rfl, rfl⟩
                have hF := ctl_go hOc66 hg
                try dsimp only at hF
                show GX _ _ _ _ _ _
                exact gx_nil ⟨_, (so hF).symm, ⟨_, _, _, _, _, _, rfl, rfl⟩⟩
          · rintro r48 hg _ M ⟨_, _, _, _, _, _, rfl, rfl⟩
            have hF := ctl_go hOc50 hg
            try dsimp only at hF
            show GX _ _ _ _ _ _
            exact gx_nil ⟨_, (so hF).symm, ⟨_, _, _, _, _, _, _, _, _, rfl, rfl⟩⟩
      · rintro r27 hg _ M ⟨_, _, _, _, _, _, _, _, _, rfl, rfl⟩
        have hF := ctl_go hOc29 hg
        try dsimp only at hF
        show GX _ _ _ _ _ _
        exact gx_seq (g1_ret (ex_less (ex_bl (⟨_, sub_refl, ret0 (so hF) hk⟩))))
theorem ca_Lholds {X : Cx} {J : Gh} {e : Expr} {es : List Expr} {ρ : DEnv} {M : Mem} {P : D → Mem → Prop} {pos p : Pos} (T : Txt X.K X.mg) (hgd : X.A.guards = some []) (hr : Room 3 X.A) (h : AX X J (e :: es) ρ M fun ds M1 => tr_Lholds (ds ++ []) M1 P) (hg : Gl X "_law_holds" := by rfl)
    (he : starEach (e :: es) X.env = (false, eval e X.env) :: starEach es X.env := by rfl) (hpl : (backTo pos (starEach es X.env)).any (·.1) = false := by rfl) : EX X J (.Call (.Name "_law_holds" p) (e :: es) [] pos) ρ M P :=
  ex_callG (ok_Lholds T) hgd hr T.m_Lholds T.d_Lholds.choose_spec.kp (T.d_Lholds.choose_spec.bindsN fun _ _ _ _ _ _ us hl => match us, hl with | [_, _, _, _, _, _], _ => rfl) .nil (fun _ => .nil) h hg (by decide) he hpl
def tr_Lbent : Tr := fun ds M P => ∃ (p_0 : Addr) (x0 : List D), ∃ x1 : D, ∃ x2 : D, ∃ r : D × List D, ∃ W : D → Mem, ds = [.adr p_0, x1, x2] ∧ M = W (.lst x0) ∧ (∀ z0, At (W z0) p_0 z0 (fun z => W z)) ∧ F_Lbent x0 x1 x2 = some r ∧ P r.1 (W (.lst r.2))
theorem len_Lbent {ds M P} (t : tr_Lbent ds M P) : ds.length = 3 := by obtain ⟨_, _, _, _, _, _, rfl, _⟩ := t; rfl
set_option maxHeartbeats 0 in
theorem ok_Lbent {pg : Program} {w : World} {K : PySem.W.Frag} {mg : Str → Option Value} {base : Heap} (T : Txt K mg) : FnOk pg w K mg base CX0 2 (He.fAd K ("_law_bent", none)) T.d_Lbent.choose ["_law_pen_here", "_law_tables_here", "_law_many"] (SpD K tr_Lbent) :=
  fn_okD T.d_Lbent.choose_spec sc_Lbent (fun ds M P t => len_Lbent t) fun cdv A outer s H ds M P hr t => by
  obtain ⟨p_0, x0, x1, x2, r, W, rfl, rfl, hW0, hF, hk⟩ := t
  unfold F_Lbent at hF
  refine gx_seq (g1_if (bi hF fun t6 ht6 hF => tx_fix t6.1 (W (.lst t6.2)) (have hF := ht6; tx_pw (wx_or (tx_cmp (ex_var 1 rfl (ex_lst (ax_nil (⟨le_b rfl, bi hF fun t3 ht3 hF => od_cEq hr.units .id .id ht3 (⟨_, rfl, ⟨fun q2 => have hF := iF q2 hF; wx_or1 (tx_cmp (ca_Ldraw T (hr.mono (by decide)) (ax_cons (ex_var 0 rfl (ax_cons (ex_int (ax_nil (bi hF fun v4 hv4 hF => ⟨p_0, x0, _, v4, (fun w0 => (W w0)), rfl, rfl, fun _ => (hW0 _), hv4, ex_int (bi hF fun t5 ht5 hF => od_cEq hr.units .id .id ht5 (⟨_, rfl, (by cases hF; exact ⟨rfl, rfl⟩)⟩))⟩)))))))), fun q2 => (by have hF := iT q2 hF; cases hF; exact ⟨rfl, rfl⟩)⟩⟩)⟩))))))) (⟨fun q1 => ?_, fun q1 => ?_⟩)))
  · have hF := iT q1 hF
    exact gx_seq (g1_ret (ex_less (ex_ix (ex_lst (ax_cons (ex_bin (ex_ty T.b_tuple bb_tuple (ax_cons (ex_var 1 rfl (ax_nil (bi hF fun l7 hl7 hF => cd_lTuple rfl .id hl7 (ex_tup (ax_cons (ex_tup (ax_nil (⟨le_b rfl, ax_nil (⟨le_b rfl, bi hF fun v8 hv8 hF => od_dAdd .id .id hv8 (ax_cons (ex_ty T.b_tuple bb_tuple (ax_cons (ex_slice (ex_var 1 rfl (ox_d (ex_int (bi hF fun i9 hi9 hF => ⟨_, _, .id, hi9, ox_none (bi hF fun v10 hv10 hF => sd_dCut .id hv10 (ax_nil (bi hF fun l11 hl11 hF => cd_lTuple rfl .id hl11 (ax_cons (ex_ty T.b_list bb_list (ax_cons (ex_var 1 rfl (ax_nil (bi hF fun l12 hl12 hF => cd_lList rfl .id hl12 (ax_cons (ex_non (ax_cons (ex_ty T.b_tuple bb_tuple (ax_cons (bi hF fun v13 hv13 hF => ex_revF (M2 := (W (.lst t6.2))) .id (ex_var 1 rfl (⟨rfl, rfl⟩)) hv13 (ax_nil (bi hF fun l14 hl14 hF => cd_lTuple rfl .id hl14 (ax_nil (⟨le_b rfl, ca_Ldraw T (hr.mono (by decide)) (ax_cons (ex_var 0 rfl (ax_cons (ex_int (ax_nil (bi hF fun v15 hv15 hF => ⟨p_0, t6.2, _, v15, (fun w0 => (W w0)), rfl, rfl, fun _ => (hW0 _), hv15, bi hF fun v16 hv16 hF => id_dIx .id .id hv16 (⟨_, sub_refl, ret1 (W := W) (so hF) hk⟩)⟩))))))⟩)))))))))))))))))))⟩))))))))⟩)⟩))))))))))))))))
  · have hF := iF q1 hF
    refine gx_nil ?_
    show GX _ _ _ _ _ _
    refine gx_seq (g1_asg (ca_Ldraw T (hr.mono (by decide)) (ax_cons (ex_var 0 rfl (ax_cons (ex_blt T.b_len bb_len (ax_cons (ex_var 1 rfl (ax_nil (bi hF fun v17 hv17 hF => cd_dLen .id hv17 (ax_nil (bi hF fun v18 hv18 hF => ⟨p_0, t6.2, _, v18, (fun w0 => (W w0)), rfl, rfl, fun _ => (hW0 _), hv18, as_name 3 (?_) sc_Lbent.nd⟩))))))))))))
    refine gx_seq (g1_asg (ex_ty T.b_list bb_list (ax_cons (ex_ix (ex_var 1 rfl (ex_var 3 rfl (bi hF fun v19 hv19 hF => id_dIx .id .id hv19 (ax_nil (bi hF fun l20 hl20 hF => cd_lListM .id hl20 (fun a21 ha21 => have ne_p_0_a21 := At.ne (hW0 _) ha21; have fb_a21 := fresh1 hW0 ha21; as_name 4 (?_) sc_Lbent.nd))))))))))
    refine gx_seq (g1_asg (ca_Ldraw T (hr.mono (by decide)) (ax_cons (ex_var 0 rfl (ax_cons (ex_blt T.b_len bb_len (ax_cons (ex_var 4 rfl (ax_nil (bi hF fun v22 hv22 hF => cd_dLen (.ad at0.get rfl) hv22 (ax_nil (bi hF fun v23 hv23 hF => ⟨p_0, v18.2, _, v23, (fun w0 => (up (W w0) a21 (.lst l20))), rfl, rfl, fun _ => (at1 ne_p_0_a21 (hW0 _)), hv23, as_name 5 (?_) sc_Lbent.nd⟩))))))))))))
    refine gx_seq (g1_asg (ex_ty T.b_list bb_list (ax_cons (ex_ix (ex_var 4 rfl (ex_var 5 rfl (bi hF fun v24 hv24 hF => id_dIx (.ad at0.get rfl) .id hv24 (ax_nil (bi hF fun l25 hl25 hF => cd_lList rfl .id hl25 (as_name 6 (?_) sc_Lbent.nd))))))))))
    refine gx_seq (g1_asg (ca_Ldraw T (hr.mono (by decide)) (ax_cons (ex_var 0 rfl (ax_cons (ex_bin (ex_blt T.b_len bb_len (ax_cons (ex_var 6 rfl (ax_nil (bi hF fun v26 hv26 hF => cd_dLen .id hv26 (ex_int (bi hF fun v27 hv27 hF => od_dAdd .id .id hv27 (ax_nil (bi hF fun v28 hv28 hF => ⟨p_0, v23.2, _, v28, (fun w0 => (up (W w0) a21 (.lst l20))), rfl, rfl, fun _ => (at1 ne_p_0_a21 (hW0 _)), hv28, as_name 7 (?_) sc_Lbent.nd⟩)))))))))))))))
    refine gx_seq (g1_asg (ex_lst (ax_cons (ca_Ldraw T (hr.mono (by decide)) (ax_cons (ex_var 0 rfl (ax_cons (ex_blt T.b_max bb_max (ax_cons (ex_int (ax_cons (ex_var 2 rfl (ax_nil (bi hF fun v29 hv29 hF => cd_dMax2 rfl .id .id hv29 (ax_nil (bi hF fun v30 hv30 hF => ⟨p_0, v28.2, _, v30, (fun w0 => (up (W w0) a21 (.lst l20))), rfl, rfl, fun _ => (at1 ne_p_0_a21 (hW0 _)), hv30, ax_cons (ex_var 2 rfl (ax_cons (ex_dNeg (ex_int ⟨_, _, .id, rfl, ax_cons (ex_bl (ax_cons (ex_non (ax_cons (ex_str (ax_cons (ex_tup (ax_cons (ex_int (ax_nil (⟨le_b rfl, ax_cons (bi hF fun v34 hv34 hF => ex_fix v34 (up (W (.lst v30.2)) a21 (.lst l20)) (have hF := hv34; ex_if (tx_cmp (ex_var 6 rfl (ex_lst (ax_nil (⟨le_b rfl, bi hF fun t31 ht31 hF => od_cNe hr.units .id .id ht31 (⟨_, rfl, ⟨fun q33 => have hF := iT q33 hF; ex_ix (ex_var 6 rfl (ex_int (bi hF fun v32 hv32 hF => id_dIx .id .id hv32 (⟨so hF, rfl⟩)))), fun q33 => have hF := iF q33 hF; ex_int (⟨so hF, rfl⟩)⟩⟩)⟩)))))) (ax_nil (⟨le_b rfl, as_name 8 (?_) sc_Lbent.nd⟩)))⟩)))))))))))⟩))))⟩))))))))))))))))
    refine gx_seq (g1_asg (ex_lst (ax_cons (ex_bin (ex_bin (ex_slice (ex_var 6 rfl (ox_none (ox_d (ex_var 7 rfl (bi hF fun i35 hi35 hF => ⟨_, _, .id, hi35, bi hF fun v36 hv36 hF => sd_dCut .id hv36 (ex_lst (ax_cons (ex_ix (ex_var 8 rfl (ca_Ldraw T (hr.mono (by decide)) (ax_cons (ex_var 0 rfl (ax_cons (ex_int (ax_nil (bi hF fun v37 hv37 hF => ⟨p_0, v30.2, _, v37, (fun w0 => (up (W w0) a21 (.lst l20))), rfl, rfl, fun _ => (at1 ne_p_0_a21 (hW0 _)), hv37, bi hF fun v38 hv38 hF => id_dIx .id .id hv38 (ax_nil (⟨le_b rfl, bi hF fun v39 hv39 hF => od_dAdd .id .id hv39 (ex_slice (ex_var 6 rfl (ox_d (ex_bin (ex_var 7 rfl (ex_int (bi hF fun v40 hv40 hF => od_dAdd .id .id hv40 (bi hF fun i41 hi41 hF => ⟨_, _, .id, hi41, ox_none (bi hF fun v42 hv42 hF => sd_dCut .id hv42 (bi hF fun v43 hv43 hF => od_dAdd .id .id hv43 (ax_cons (ex_bin (ex_slice (ex_var 6 rfl (ox_none (ox_d (ex_var 7 rfl (bi hF fun i44 hi44 hF => ⟨_, _, .id, hi44, bi hF fun v45 hv45 hF => sd_dCut .id hv45 (ex_slice (ex_var 6 rfl (ox_d (ex_bin (ex_var 7 rfl (ex_int (bi hF fun v46 hv46 hF => od_dAdd .id .id hv46 (bi hF fun i47 hi47 hF => ⟨_, _, .id, hi47, ox_none (bi hF fun v48 hv48 hF => sd_dCut .id hv48 (bi hF fun v49 hv49 hF => od_dAdd .id .id hv49 (ax_cons (bi hF fun v50 hv50 hF => ex_revF (M2 := (up (W (.lst v37.2)) a21 (.lst l20))) .id (ex_var 6 rfl (⟨rfl, rfl⟩)) hv50 (ax_cons (ex_bin (ex_var 6 rfl (ex_lst (ax_cons (ex_int (ax_nil (⟨le_b rfl, bi hF fun v51 hv51 hF => od_dAdd .id .id hv51 (ax_cons (ex_non (ax_nil (⟨le_b rfl, as_name 9 (?_) sc_Lbent.nd⟩))))⟩))))))))))))⟩))))))))⟩))))))))))⟩))))))))⟩))⟩)))))))))))⟩)))))))))))
    refine gx_seq (g1_asg (ex_ix (ex_var 9 rfl (ca_Ldraw T (hr.mono (by decide)) (ax_cons (ex_var 0 rfl (ax_cons (ex_int (ax_nil (bi hF fun v52 hv52 hF => ⟨p_0, v37.2, _, v52, (fun w0 => (up (W w0) a21 (.lst l20))), rfl, rfl, fun _ => (at1 ne_p_0_a21 (hW0 _)), hv52, bi hF fun v53 hv53 hF => id_dIx .id .id hv53 (as_name 10 (?_) sc_Lbent.nd)⟩))))))))))
    refine gx_seq (g1_setIxF (bi hF fun v57 hv57 hF => ex_fix v57 (up (W (.lst v52.2)) a21 (.lst l20)) (have hF := hv57; ex_if (tx_cmp (ex_var 10 rfl (ex_non (bi hF fun t54 ht54 hF => od_cIs .id .id ht54 (⟨_, rfl, ⟨fun q56 => have hF := iT q56 hF; ex_var 10 rfl (⟨so hF, rfl⟩), fun q56 => have hF := iF q56 hF; ex_ty T.b_tuple bb_tuple (ax_cons (ex_var 10 rfl (ax_nil (bi hF fun l55 hl55 hF => cd_lTuple rfl .id hl55 (⟨so hF, rfl⟩)))))⟩⟩)))))) (ex_var 4 rfl (ex_var 5 rfl (bi hF fun l58 hl58 hF => ⟨_, _, _, l58, rfl, at0, hl58, ?_⟩)))))
    refine gx_frzA 4 rfl at0.get (subx_here (fb_a21 _)) ?_
    show GX _ _ _ _ _ _
    refine gx_seq (g1_asg (ex_lst (ax_cons (ex_ty T.b_tuple bb_tuple (ax_cons (ex_var 4 rfl (ax_nil (bi hF fun l59 hl59 hF => cd_lTuple rfl .id hl59 (ax_cons (ex_ty T.b_tuple bb_tuple (ax_cons (ex_var 4 rfl (ax_nil (bi hF fun l60 hl60 hF => cd_lTuple rfl .id hl60 (ax_cons (ex_ty T.b_tuple bb_tuple (ax_cons (ex_var 4 rfl (ax_nil (bi hF fun l61 hl61 hF => cd_lTuple rfl .id hl61 (ax_cons (ex_ty T.b_tuple bb_tuple (ax_cons (ex_bin (ex_slice (ex_var 4 rfl (ox_none (ox_d (ex_var 5 rfl (bi hF fun i62 hi62 hF => ⟨_, _, .id, hi62, bi hF fun v63 hv63 hF => sd_dCut .id hv63 (ex_slice (ex_var 4 rfl (ox_d (ex_bin (ex_var 5 rfl (ex_int (bi hF fun v64 hv64 hF => od_dAdd .id .id hv64 (bi hF fun i65 hi65 hF => ⟨_, _, .id, hi65, ox_none (bi hF fun v66 hv66 hF => sd_dCut .id hv66 (bi hF fun v67 hv67 hF => od_dAdd .id .id hv67 (ax_nil (bi hF fun l68 hl68 hF => cd_lTuple rfl .id hl68 (ax_cons (ex_var 4 rfl (ax_cons (ex_ty T.b_tuple bb_tuple (ax_cons (ex_bin (ex_var 4 rfl (ex_lst (ax_cons (ex_tup (ax_nil (⟨le_b rfl, ax_nil (⟨le_b rfl, bi hF fun v69 hv69 hF => od_dAdd .id .id hv69 (ax_nil (bi hF fun l70 hl70 hF => cd_lTuple rfl .id hl70 (ax_nil (⟨le_b rfl, as_name 11 (?_) sc_Lbent.nd⟩))))⟩)⟩))))))))))))))))⟩))))))))⟩))))))))))))))))))))))))))))))
    exact gx_seq (g1_ret (ex_less (ex_ty T.b_tuple bb_tuple (ax_cons (ex_bin (ex_bin (ex_slice (ex_var 1 rfl (ox_none (ox_d (ex_var 3 rfl (bi hF fun i71 hi71 hF => ⟨_, _, .id, hi71, bi hF fun v72 hv72 hF => sd_dCut .id hv72 (ex_lst (ax_cons (ex_ix (ex_var 11 rfl (ca_Ldraw T (hr.mono (by decide)) (ax_cons (ex_var 0 rfl (ax_cons (ex_int (ax_nil (bi hF fun v73 hv73 hF => ⟨p_0, v52.2, _, v73, (fun w0 => (W w0)), rfl, rfl, fun _ => (hW0 _), hv73, bi hF fun v74 hv74 hF => id_dIx .id .id hv74 (ax_nil (⟨le_b rfl, bi hF fun v75 hv75 hF => od_dAdd .id .id hv75 (ex_slice (ex_var 1 rfl (ox_d (ex_bin (ex_var 3 rfl (ex_int (bi hF fun v76 hv76 hF => od_dAdd .id .id hv76 (bi hF fun i77 hi77 hF => ⟨_, _, .id, hi77, ox_none (bi hF fun v78 hv78 hF => sd_dCut .id hv78 (bi hF fun v79 hv79 hF => od_dAdd .id .id hv79 (ax_nil (bi hF fun l80 hl80 hF => cd_lTuple rfl .id hl80 (⟨_, sub_refl, ret1 (W := W) (so hF) hk⟩)))))⟩))))))))⟩))⟩)))))))))))⟩))))))))))))
theorem ca_Lbent {X : Cx} {J : Gh} {e : Expr} {es : List Expr} {ρ : DEnv} {M : Mem} {P : D → Mem → Prop} {pos p : Pos} (T : Txt X.K X.mg) (hr : Room 2 X.A) (h : AX X J (e :: es) ρ M fun ds M1 => tr_Lbent (ds ++ []) M1 P) (hg : Gl X "_law_bent" := by rfl)
    (he : starEach (e :: es) X.env = (false, eval e X.env) :: starEach es X.env := by rfl) (hpl : (backTo pos (starEach es X.env)).any (·.1) = false := by rfl) : EX X J (.Call (.Name "_law_bent" p) (e :: es) [] pos) ρ M P :=
  ex_call (ok_Lbent T) hr T.m_Lbent T.d_Lbent.choose_spec.kp (T.d_Lbent.choose_spec.bindsN fun _ _ _ _ _ _ us hl => match us, hl with | [_, _, _], _ => rfl) .nil (fun _ => .nil) h hg (by decide) he hpl
def tr_Lright : Tr := fun ds M P => ∃ (p_0 : Addr) (x0 : List D), ∃ x1 : D, ∃ x2 : D, ∃ x3 : D, ∃ r : D × List D, ∃ W : D → Mem, ds = [.adr p_0, x1, x2, x3] ∧ M = W (.lst x0) ∧ (∀ z0, At (W z0) p_0 z0 (fun z => W z)) ∧ F_Lright x0 x1 x2 x3 = some r ∧ P r.1 (W (.lst r.2))
theorem len_Lright {ds M P} (t : tr_Lright ds M P) : ds.length = 4 := by obtain ⟨_, _, _, _, _, _, _, rfl, _⟩ := t; rfl
set_option maxHeartbeats 0 in
theorem ok_Lright {pg : Program} {w : World} {K : PySem.W.Frag} {mg : Str → Option Value} {base : Heap} (T : Txt K mg) : FnG pg w K mg base 7 (He.fAd K ("_law_right", none)) T.d_Lright.choose ["_law_pen_here", "_law_size", "_law_is_ring", "_law_is_stuck"] tr_Lright :=
  fn_okG T.d_Lright.choose_spec sc_Lright (fun ds M P t => len_Lright t) fun cdv A outer s H ds M P hgd hr t => by
  obtain ⟨p_0, x0, x1, x2, x3, r, W, rfl, rfl, hW0, hF, hk⟩ := t
  unfold F_Lright at hF
  refine gx_seq (g1_asg (ca_Ltrials T (hr.mono (by decide)) (ax_cons (ex_var 0 rfl (ax_cons (ex_var 1 rfl (ax_cons (ex_var 2 rfl (ax_cons (ex_var 3 rfl (ax_nil (bi hF fun v1 hv1 hF => ⟨p_0, x0, _, _, _, v1, (fun w0 => (W w0)), rfl, rfl, fun _ => (hW0 _), hv1, as_name 4 (?_) sc_Lright.nd⟩))))))))))))
  refine gx_seq (g1_asg (ca_Lasked T (hr.mono (by decide)) (ax_cons (ex_var 0 rfl (ax_cons (ex_var 1 rfl (ax_cons (ex_var 2 rfl (ax_nil (bi hF fun v2 hv2 hF => ⟨p_0, v1.2, _, _, v2, (fun w0 => (W w0)), rfl, rfl, fun _ => (hW0 _), hv2, as_name 5 (?_) sc_Lright.nd⟩))))))))))
  refine gx_seq (g1_asg (bi hF fun v7 hv7 hF => ex_fix v7 (W (.lst v2.2)) (have hF := hv7; ex_if (tx_cmp (ex_var 5 rfl (ex_non (bi hF fun t3 ht3 hF => od_cIs .id .id ht3 (⟨_, rfl, ⟨fun q6 => have hF := iT q6 hF; ca_Lends T (hr.mono (by decide)) (ax_cons (ex_var 1 rfl (ax_cons (ex_var 2 rfl (ax_nil (bi hF fun v4 hv4 hF => ⟨_, _, v4, rfl, hv4, ⟨so hF, rfl⟩⟩)))))), fun q6 => have hF := iF q6 hF; ex_ty T.b_list bb_list (ax_cons (ex_var 5 rfl (ax_nil (bi hF fun l5 hl5 hF => cd_lList rfl .id hl5 (⟨so hF, rfl⟩)))))⟩⟩)))))) (as_name 6 (?_) sc_Lright.nd)))
  refine gx_seq (g1_asg (ca_Ltables T (hr.mono (by decide)) (ax_cons (ex_var 0 rfl (ax_cons (ex_var 4 rfl (ax_cons (ex_var 1 rfl (ax_cons (ex_var 6 rfl (ax_cons (ex_var 2 rfl (ax_cons (ex_var 3 rfl (ax_nil (bi hF fun v8 hv8 hF => ⟨p_0, v2.2, _, _, _, _, _, v8, (fun w0 => (W w0)), rfl, rfl, fun _ => (hW0 _), hv8, as_name 7 (?_) sc_Lright.nd⟩))))))))))))))))
  refine gx_seq (g1_asg (ex_lst (ax_cons (ex_tup (ax_cons (ex_str (ax_cons (ex_ty T.b_tuple bb_tuple (ax_cons (ex_var 7 rfl (ax_nil (bi hF fun l9 hl9 hF => cd_lTuple rfl .id hl9 (ax_nil (⟨le_b rfl, ax_cons (ex_lst (ax_cons (ex_str (ax_cons (ex_ty T.b_tuple bb_tuple (ax_cons (ex_var 7 rfl (ax_nil (bi hF fun l10 hl10 hF => cd_lTuple rfl .id hl10 (ax_nil (⟨le_b rfl, ax_cons (ex_tup (ax_cons (ex_str (ax_nil (⟨le_b rfl, ax_cons (ex_tup (ax_cons (ex_str (ax_cons (ex_ty T.b_tuple bb_tuple (ax_cons (ex_var 7 rfl (ax_nil (bi hF fun l11 hl11 hF => cd_lTuple rfl .id hl11 (ax_cons (ex_int (ax_nil (⟨le_b rfl, ax_cons (ex_str (ax_nil (⟨le_b rfl, as_name 8 (?_) sc_Lright.nd⟩)))⟩)))))))))))))⟩)))))⟩)))))))))))⟩))))))))))))))
  refine gx_seq (g1_asg (ex_bin (ex_var 8 rfl (ex_lst (ax_cons (ex_tup (ax_cons (ex_str (ax_cons (ex_ty T.b_tuple bb_tuple (ax_cons (ex_var 7 rfl (ax_nil (bi hF fun l12 hl12 hF => cd_lTuple rfl .id hl12 (ax_nil (⟨le_b rfl, ax_cons (ex_non (ax_cons (ex_tup (ax_nil (⟨le_b rfl, ax_cons (ex_tup (ax_cons (ex_str (ax_cons (ex_ty T.b_tuple bb_tuple (ax_cons (ex_var 7 rfl (ax_nil (bi hF fun l13 hl13 hF => cd_lTuple rfl .id hl13 (ax_nil (⟨le_b rfl, ax_cons (ex_tup (ax_cons (ex_bl (ax_cons (ex_ty T.b_tuple bb_tuple (ax_cons (ex_var 7 rfl (ax_nil (bi hF fun l14 hl14 hF => cd_lTuple rfl .id hl14 (ax_nil (⟨le_b rfl, ax_nil (⟨le_b rfl, bi hF fun v15 hv15 hF => od_dAdd .id .id hv15 (as_name 8 (?_) sc_Lright.nd)⟩)⟩)))))))))))⟩)))))))))))⟩)))))⟩))))))))))))))))
  refine gx_seq (g1_asg (ex_bin (ex_var 8 rfl (ex_lc (own := [("_law_k", 14)]) (hN := sc_Lright.nd) rfl (bi hF fun l16 hl16 hF => ix_range1U (M2 := (W (.lst v8.2))) T.b_range (ax_cons (ex_int (ax_nil (⟨rfl, rfl⟩)))) hl16 (bi hF fun _ hz21 hF => bi hF fun y19 hy19 hF => mapSF hy19 (chk_inv hz21).1 (fun s17 => (W (.lst s17))) rfl (fun x18 s17 _ acc d20 hF hd20 => have ne_p_0_d20 := At.ne (hW0 _) hd20; have fb_d20 := fresh1 hW0 hd20; asb_name 14 (fun _ _ _ _ _ => ex_tup (ax_cons (ex_str (ax_cons (ca_Lbent T (hr.mono (by decide)) (ax_cons (ex_var 0 rfl (ax_cons (ex_var 7 rfl (ax_cons (ex_blt T.b_len bb_len (ax_cons (ex_var 4 rfl (ax_nil (bi hF fun v23 hv23 hF => cd_dLen .id hv23 (ax_nil (bi hF fun v24 hv24 hF => ⟨p_0, s17, _, _, v24, (fun w0 => (up (W w0) d20 (.lst acc))), rfl, rfl, fun _ => (at1 ne_p_0_d20 (hW0 _)), hv24, ax_nil (⟨le_b rfl, (by cases hF; exact ⟨rfl, (fb_d20 _), rfl⟩)⟩)⟩))))))))))))))))) (hN := sc_Lright.nd)) (bi hF fun v25 hv25 hF => od_dAdd .id .id hv25 (as_name 8 (?_) sc_Lright.nd))))))))
  refine gx_seq (g1_for PassesOwn.never rfl (bi hF fun l26 hl26 hF => ix_seqU (M2 := (W (.lst y19.2))) (ex_var 8 rfl (⟨rfl, rfl⟩)) hl26 (bi hF fun c30 hlc30 hOc30 => forC hlc30 (fun s27 ρ' M' => ∃ j0 : Option D, ∃ j1 : Option D, ∃ j2 : Option D, ∃ j3 : Option D, ∃ j4 : Option D, ∃ j5 : Option D, ρ' = [some (.adr p_0), some x1, some x2, some x3, some v1.1, some v2.1, some v7, some v8.1, some v25, j0, j1, j2, j3, j4, j5] ∧ M' = (W (.lst y19.2))) ⟨_, _, _, _, _, _, rfl, rfl⟩ ?_ ?_)))
  · rintro x29 s27 b31 hF hbb31 _ _ ⟨_, _, _, _, _, _, rfl, rfl⟩
    try dsimp only at hF
    refine as_name 9 (?_) sc_Lright.nd
    refine gx_seq (g1_asg (ex_blt T.b_repr bb_repr (ax_cons (ex_tup (ax_cons (ex_var 9 rfl (ax_cons (ex_var 4 rfl (ax_nil (⟨le_b rfl, ax_nil (bi hF fun v32 hv32 hF => cd_dRepr hgd hr.units .id hv32 (as_name 10 (?_) sc_Lright.nd))⟩))))))))))
    refine gx_seq (g1_asg (ca_Lholds T hgd (hr.mono (by decide)) (ax_cons (ex_var 9 rfl (ax_cons (ex_var 4 rfl (ax_cons (ex_var 1 rfl (ax_cons (ex_var 6 rfl (ax_cons (ex_var 2 rfl (ax_cons (ex_var 3 rfl (ax_nil (bi hF fun v33 hv33 hF => ⟨_, _, _, _, _, _, v33, rfl, hv33, as_name 11 (?_) sc_Lright.nd⟩))))))))))))))))
    refine gx_seq (g1_asg (ex_lstM (ax_cons (cv_check_judgement_3_outputs_ring_stuck T (hr.mono (by decide)) (ax_cons (ex_var 1 rfl (ax_cons (ex_var 4 rfl (ax_cons (ex_var 9 rfl (ax_nil (kx_cons (ex_var 5 rfl (kx_cons (ex_var 2 rfl (kx_cons (ex_var 3 rfl (kx_nil (bi hF fun v34 hv34 hF => ⟨rfl, rfl, rfl, ⟨_, _, _, _, _, _, v34, rfl, hv34, ax_nil (⟨le_b rfl, fun a35 ha35 => have ne_p_0_a35 := At.ne (hW0 _) ha35; have fb_a35 := fresh1 hW0 ha35; as_name 12 (?_) sc_Lright.nd⟩)⟩⟩)))))))))))))))))))
    refine gx_seq (g1_asg (ex_ty T.b_tuple bb_tuple (ax_cons (ex_var 4 rfl (ax_nil (bi hF fun l36 hl36 hF => cd_lTuple rfl .id hl36 (as_name 13 (?_) sc_Lright.nd)))))))
    refine gx_seq (g1_expr (ex_append (ex_var 12 rfl (⟨_, _, rfl, at0.get, ax_cons (cv_check_judgement_0_thing_trials_n_stuck_ring_outputs T (hr.mono (by decide)) (kx_cons (ex_var 9 rfl (kx_cons (ex_var 13 rfl (kx_cons (ex_var 1 rfl (kx_cons (ex_var 3 rfl (kx_cons (ex_var 2 rfl (kx_cons (ex_var 5 rfl (kx_nil (bi hF fun v37 hv37 hF => ⟨rfl, rfl, rfl, ⟨_, _, _, _, _, _, v37, rfl, hv37, ax_nil (bi hF fun _ h38 hF => ⟨_, _, _, rfl, at0, (chk_inv h38).1, ?_⟩)⟩⟩)))))))))))))))⟩))))
    refine gx_seq (g1_if (bi hF fun t46 ht46 hF => tx_fix t46 (up (W (.lst y19.2)) a35 (.lst ([v34] ++ [v37]))) (have hF := ht46; tx_pw (wx_or (tx_cmp (ex_blt T.b_repr bb_repr (ax_cons (ex_var 12 rfl (ax_nil (bi hF fun v41 hv41 hF => cd_dRepr hgd hr.units (.ad at0.get rfl) hv41 (ex_blt T.b_repr bb_repr (ax_cons (ex_lst (ax_cons (ex_var 11 rfl (ax_cons (ex_var 11 rfl (ax_nil (⟨le_b rfl, ax_nil (bi hF fun v42 hv42 hF => cd_dRepr hgd hr.units .id hv42 (bi hF fun t43 ht43 hF => od_cNe hr.units .id .id ht43 (⟨_, rfl, ⟨fun q40 => have hF := iF q40 hF; wx_or1 (tx_cmp (ex_blt T.b_repr bb_repr (ax_cons (ex_tup (ax_cons (ex_var 9 rfl (ax_cons (ex_var 4 rfl (ax_nil (⟨le_b rfl, ax_nil (bi hF fun v44 hv44 hF => cd_dRepr hgd hr.units .id hv44 (ex_var 10 rfl (bi hF fun t45 ht45 hF => od_cNe hr.units .id .id ht45 (⟨_, rfl, ⟨so hF, rfl⟩⟩))))⟩)))))))))), fun q40 => ⟨so (iT q40 hF), rfl⟩⟩⟩)))⟩))))))))))))))))) (⟨fun q39 => ?_, fun q39 => ?_⟩)))
    · have hF := iT q39 hF
      exact gx_seq (g1_ret (ex_less (ex_bl (⟨_, (sub_drop sub_refl (fb_a35 _)), ret1 (W := W) (so (ctl_retS hOc30 (hbb31 _ (so hF).symm))) hk⟩))))
    · have hF := iF q39 hF
      refine gx_nil ?_
      show GX _ _ _ _ _ _
      refine gx_less (sub_drop sub_refl (fb_a35 _)) ?_
      exact gx_nil ⟨_, (so hF).symm, ⟨_, _, _, _, _, _, rfl, rfl⟩⟩
  · rintro r28 hg _ _ ⟨_, _, _, _, _, _, rfl, rfl⟩
    have hF := ctl_go hOc30 hg
    try dsimp only at hF
    show GX _ _ _ _ _ _
    exact gx_seq (g1_ret (ex_less (ex_bl (⟨_, sub_refl, ret1 (W := W) (so hF) hk⟩))))
theorem ca_Lright {X : Cx} {J : Gh} {e : Expr} {es : List Expr} {ρ : DEnv} {M : Mem} {P : D → Mem → Prop} {pos p : Pos} (T : Txt X.K X.mg) (hgd : X.A.guards = some []) (hr : Room 7 X.A) (h : AX X J (e :: es) ρ M fun ds M1 => tr_Lright (ds ++ []) M1 P) (hg : Gl X "_law_right" := by rfl)
    (he : starEach (e :: es) X.env = (false, eval e X.env) :: starEach es X.env := by rfl) (hpl : (backTo pos (starEach es X.env)).any (·.1) = false := by rfl) : EX X J (.Call (.Name "_law_right" p) (e :: es) [] pos) ρ M P :=
  ex_callG (ok_Lright T) hgd hr T.m_Lright T.d_Lright.choose_spec.kp (T.d_Lright.choose_spec.bindsN fun _ _ _ _ _ _ us hl => match us, hl with | [_, _, _, _], _ => rfl) .nil (fun _ => .nil) h hg (by decide) he hpl
def tr_law : Tr := fun ds M P => ∃ ns, ds = [.scr ns] ∧ F_law (.scr ns) = some (.bl true) ∧ ∀ M', P (.bl true) M'
theorem len_law {ds M P} (t : tr_law ds M P) : ds.length = 1 := by obtain ⟨_, rfl, _⟩ := t; rfl
set_option maxHeartbeats 0 in
theorem ok_law {pg : Program} {w : World} {K : PySem.W.Frag} {mg : Str → Option Value} {base : Heap} (T : Txt K mg) : FnG pg w K mg base 8 (He.fAd K ("law", none)) T.d_law.choose ["_law_script"] tr_law :=
  fn_okG T.d_law.choose_spec sc_law (fun ds M P t => len_law t) fun cdv A outer s H ds M P hgd hr t => by
  obtain ⟨ns, rfl, hF, hk0⟩ := t
  obtain ⟨x0, ex0⟩ : ∃ x0, x0 = D.scr ns := ⟨_, rfl⟩
  obtain ⟨r, er⟩ : ∃ r, r = D.bl true := ⟨_, rfl⟩
  rw [← ex0, ← er] at hF
  rw [← ex0]
  have hk : P r M := by rw [er]; exact hk0 M
  clear hk0
  unfold F_law at hF
  refine gx_seq (g1_asg (ca_Lpen T (hr.mono (by decide)) (ax_cons (ex_var 0 rfl (ax_nil (bi hF fun v1 hv1 hF => ⟨_, v1, rfl, hv1, fun a2 ha2 => have fb_a2 := ha2; as_name 1 (?_) sc_law.nd⟩))))))
  refine gx_seq (g1_for PassesOwn.never rfl (bi hF fun l3 hl3 hF => ix_range1U (M2 := (up M a2 (.lst v1))) T.b_range (ax_cons (ex_int (ax_nil (⟨rfl, rfl⟩)))) hl3 (bi hF fun c7 hlc7 hOc7 => forC hlc7 (fun s4 ρ' M' => ∃ j0 : Option D, ∃ j1 : Option D, ∃ j2 : Option D, ρ' = [some x0, some (.adr a2), j0, j1, j2] ∧ M' = (up M a2 (.lst s4))) ⟨_, _, _, rfl, rfl⟩ ?_ ?_)))
  · rintro x6 s4 b8 hF hbb8 _ _ ⟨_, _, _, rfl, rfl⟩
    try dsimp only at hF
    refine as_name 2 (?_) sc_law.nd
    refine gx_seq (g1_asg (ca_Lmode T (hr.mono (by decide)) (ax_cons (ex_var 1 rfl (ax_nil (bi hF fun v9 hv9 hF => ⟨a2, s4, v9, (fun w0 => (up M a2 w0)), rfl, rfl, fun _ => at0, hv9, bi hF fun p10 hp10 hF => as_eq (un2_eq hp10) (as_tup rfl rfl (asd_cons (as_name 3 (asd_cons (as_name 4 (asd_nil (?_)) sc_law.nd)) sc_law.nd)))⟩))))))
    refine gx_seq (g1_if (tx_not (tx_tru (ca_Lright T hgd (hr.mono (by decide)) (ax_cons (ex_var 1 rfl (ax_cons (ex_ix (ex_lst (ax_cons (ex_int (ax_cons (ex_int (ax_cons (ex_int (ax_cons (ex_bin (ex_int (ca_Ldraw T (hr.mono (by decide)) (ax_cons (ex_var 1 rfl (ax_cons (ex_int (ax_nil (bi hF fun v12 hv12 hF => ⟨a2, v9.2, _, v12, (fun w0 => (up M a2 w0)), rfl, rfl, fun _ => at0, hv12, bi hF fun v13 hv13 hF => od_dAdd .id .id hv13 (ax_nil (⟨le_b rfl, ca_Ldraw T (hr.mono (by decide)) (ax_cons (ex_var 1 rfl (ax_cons (ex_int (ax_nil (bi hF fun v14 hv14 hF => ⟨a2, v12.2, _, v14, (fun w0 => (up M a2 w0)), rfl, rfl, fun _ => at0, hv14, bi hF fun v15 hv15 hF => id_dIx .id .id hv15 (ax_cons (ex_var 3 rfl (ax_cons (ex_var 4 rfl (ax_nil (bi hF fun v16 hv16 hF => ⟨a2, v14.2, _, _, _, v16, (fun w0 => (up M a2 w0)), rfl, rfl, fun _ => at0, hv16, bi hF fun t17 ht17 hF => ⟨_, _, .id, ht17, ⟨fun q11 => ?_, fun q11 => ?_⟩⟩⟩))))))⟩))))))⟩))⟩)))))))))))))))))))))))))
    · have hF := iT q11 hF
      exact gx_seq (g1_ret (ex_less (ex_bl (⟨_, (sub_drop sub_refl fb_a2), ret0 (so (ctl_retS hOc7 (hbb8 _ (so hF).symm))) hk⟩))))
    · have hF := iF q11 hF
      refine gx_nil ?_
      show GX _ _ _ _ _ _
      exact gx_nil ⟨_, (so hF).symm, ⟨_, _, _, rfl, rfl⟩⟩
  · rintro r5 hg _ _ ⟨_, _, _, rfl, rfl⟩
    have hF := ctl_go hOc7 hg
    try dsimp only at hF
    show GX _ _ _ _ _ _
    exact gx_seq (g1_ret (ex_less (ex_cmp (cv_check_judgement_3_outputs T (hr.mono (by decide)) (ax_cons (ex_int (ax_cons (ex_tup (ax_cons (ex_str (ax_cons (ex_str (ax_nil (⟨le_b rfl, ax_cons (ex_tup (ax_cons (ex_str (ax_cons (ex_tup (ax_cons (ex_tup (ax_cons (ex_tup (ax_cons (ex_int (ax_nil (⟨le_b rfl, ax_nil (⟨le_b rfl, ax_nil (⟨le_b rfl, ax_nil (⟨le_b rfl, ax_nil (kx_cons (ex_tup (ax_cons (ex_int (ax_nil (⟨le_b rfl, kx_nil (bi hF fun v18 hv18 hF => ⟨rfl, rfl, rfl, ⟨_, _, _, _, _, _, v18, rfl, hv18, ex_bl (bi hF fun t19 ht19 hF => od_cIs .id .id ht19 (⟨_, (sub_drop sub_refl fb_a2), ret0 (so hF) hk⟩))⟩⟩)⟩))))))⟩)⟩)⟩)⟩)))))))))))))⟩))))))))))))))
theorem law_start {K : PySem.W.Frag} {H : Hp} {a : Addr} {ns : List Int} (hl : ns.length ≤ 63) (hS : SqL K H a (ns.map V.int)) : ∃ F M ds, Ok K F M H ∧ Rps K F [.ref a] ds ∧ tr_law ds M fun d _ => d = .bl true :=
  DX.law_start (fun ns M P k => ⟨ns, rfl, law_true ns, k⟩) hS
theorem txt {K : PySem.W.Frag} {h : Heap} {mg : Str → Option Value} (X : K.In h) (G : h.Ns mainGlobals mg) (c : He.SaysD fa fn K) (xq : exq K = true) : Txt K mg :=
  ⟨c.def_ 0 (d := dd_Lpen) rfl,
    He.glo_ok X G (c.fact 0 (f := .glo "_law_pen") rfl),
    c.def_ 1 (d := dd_Ldraw) rfl,
    He.glo_ok X G (c.fact 1 (f := .glo "_law_draw") rfl),
    c.def_ 2 (d := dd_Lmode) rfl,
    He.glo_ok X G (c.fact 2 (f := .glo "_law_mode") rfl),
    c.def_ 3 (d := dd_output_positions) rfl,
    He.glo_ok X G (c.fact 3 (f := .glo "output_positions") rfl),
    c.def_ 4 (d := dd_outputs_asked) rfl,
    He.glo_ok X G (c.fact 4 (f := .glo "outputs_asked") rfl),
    c.def_ 5 (d := dd_is_letter) rfl,
    He.glo_ok X G (c.fact 5 (f := .glo "is_letter") rfl),
    c.def_ 6 (d := dd_state_at) rfl,
    He.glo_ok X G (c.fact 6 (f := .glo "state_at") rfl),
    c.def_ 7 (d := dd_carry_of) rfl,
    He.glo_ok X G (c.fact 7 (f := .glo "carry_of") rfl),
    c.def_ 8 (d := dd_row_carry) rfl,
    He.glo_ok X G (c.fact 8 (f := .glo "row_carry") rfl),
    c.def_ 9 (d := dd_first_state) rfl,
    He.glo_ok X G (c.fact 9 (f := .glo "first_state") rfl),
    c.def_ 10 (d := dd_due_positions) rfl,
    He.glo_ok X G (c.fact 10 (f := .glo "due_positions") rfl),
    c.def_ 11 (d := dd_true_carry) rfl,
    He.glo_ok X G (c.fact 11 (f := .glo "true_carry") rfl),
    c.def_ 12 (d := dd_is_between) rfl,
    He.glo_ok X G (c.fact 12 (f := .glo "is_between") rfl),
    c.def_ 13 (d := dd_is_row_of) rfl,
    He.glo_ok X G (c.fact 13 (f := .glo "is_row_of") rfl),
    c.def_ 14 (d := dd_has_states) rfl,
    He.glo_ok X G (c.fact 14 (f := .glo "has_states") rfl),
    c.def_ 15 (d := dd_is_ring_trial) rfl,
    He.glo_ok X G (c.fact 15 (f := .glo "is_ring_trial") rfl),
    c.def_ 16 (d := dd_is_trial) rfl,
    He.glo_ok X G (c.fact 16 (f := .glo "is_trial") rfl),
    c.def_ 17 (d := dd_holds_short) rfl,
    He.glo_ok X G (c.fact 17 (f := .glo "holds_short") rfl),
    c.def_ 18 (d := dd_is_row) rfl,
    He.glo_ok X G (c.fact 18 (f := .glo "is_row") rfl),
    c.def_ 19 (d := dd_options_at) rfl,
    He.glo_ok X G (c.fact 19 (f := .glo "options_at") rfl),
    c.def_ 20 (d := dd_options_of) rfl,
    He.glo_ok X G (c.fact 20 (f := .glo "options_of") rfl),
    c.def_ 21 (d := dd_is_refuted) rfl,
    He.glo_ok X G (c.fact 21 (f := .glo "is_refuted") rfl),
    c.def_ 22 (d := dd_leading_passes) rfl,
    He.glo_ok X G (c.fact 22 (f := .glo "leading_passes") rfl),
    c.def_ 23 (d := dd_holds_index) rfl,
    He.glo_ok X G (c.fact 23 (f := .glo "holds_index") rfl),
    c.def_ 24 (d := dd_holds_table) rfl,
    He.glo_ok X G (c.fact 24 (f := .glo "holds_table") rfl),
    c.def_ 25 (d := dd_check_judgement) rfl,
    He.glo_ok X G (c.fact 25 (f := .glo "check_judgement") rfl),
    c.def_ 26 (d := dd_Lput) rfl,
    He.glo_ok X G (c.fact 26 (f := .glo "_law_put") rfl),
    c.def_ 27 (d := dd_Lstandard) rfl,
    He.glo_ok X G (c.fact 27 (f := .glo "_law_standard") rfl),
    c.def_ 28 (d := dd_Ltrial) rfl,
    He.glo_ok X G (c.fact 28 (f := .glo "_law_trial") rfl),
    c.def_ 29 (d := dd_Ltrials) rfl,
    He.glo_ok X G (c.fact 29 (f := .glo "_law_trials") rfl),
    c.def_ 30 (d := dd_Lends) rfl,
    He.glo_ok X G (c.fact 30 (f := .glo "_law_ends") rfl),
    c.def_ 31 (d := dd_Lasked) rfl,
    He.glo_ok X G (c.fact 31 (f := .glo "_law_asked") rfl),
    c.def_ 32 (d := dd_Ldue) rfl,
    He.glo_ok X G (c.fact 32 (f := .glo "_law_due") rfl),
    c.def_ 33 (d := dd_Loptions) rfl,
    He.glo_ok X G (c.fact 33 (f := .glo "_law_options") rfl),
    c.def_ 34 (d := dd_Lsign) rfl,
    He.glo_ok X G (c.fact 34 (f := .glo "_law_sign") rfl),
    c.def_ 35 (d := dd_Lagainst) rfl,
    He.glo_ok X G (c.fact 35 (f := .glo "_law_against") rfl),
    c.def_ 36 (d := dd_Llead) rfl,
    He.glo_ok X G (c.fact 36 (f := .glo "_law_lead") rfl),
    c.def_ 37 (d := dd_Lseen) rfl,
    He.glo_ok X G (c.fact 37 (f := .glo "_law_seen") rfl),
    c.def_ 38 (d := dd_Ltables) rfl,
    He.glo_ok X G (c.fact 38 (f := .glo "_law_tables") rfl),
    c.def_ 39 (d := dd_Lholds) rfl,
    He.glo_ok X G (c.fact 39 (f := .glo "_law_holds") rfl),
    c.def_ 40 (d := dd_Lbent) rfl,
    He.glo_ok X G (c.fact 40 (f := .glo "_law_bent") rfl),
    c.def_ 41 (d := dd_Lright) rfl,
    He.glo_ok X G (c.fact 41 (f := .glo "_law_right") rfl),
    c.def_ 42 (d := dd_law) rfl,
    He.glo_ok X G (c.fact 42 (f := .glo "law") rfl),
    He.free_ok X G (c.fact 43 (f := .free "abs") rfl),
    He.free_ok X G (c.fact 44 (f := .free "all") rfl),
    He.free_ok X G (c.fact 45 (f := .free "bool") rfl),
    He.free_ok X G (c.fact 46 (f := .free "enumerate") rfl),
    He.free_ok X G (c.fact 47 (f := .free "int") rfl),
    He.free_ok X G (c.fact 48 (f := .free "isinstance") rfl),
    He.free_ok X G (c.fact 49 (f := .free "len") rfl),
    He.free_ok X G (c.fact 50 (f := .free "list") rfl),
    He.free_ok X G (c.fact 51 (f := .free "max") rfl),
    He.free_ok X G (c.fact 52 (f := .free "range") rfl),
    He.free_ok X G (c.fact 53 (f := .free "repr") rfl),
    He.free_ok X G (c.fact 54 (f := .free "set") rfl),
    He.free_ok X G (c.fact 55 (f := .free "str") rfl),
    He.free_ok X G (c.fact 56 (f := .free "tuple") rfl),
    He.free_ok X G (c.fact 57 (f := .free "zip") rfl),
    He.str_ok X G (c.fact 58 (f := .str "END" "end") rfl),
    He.str_ok X G (c.fact 59 (f := .str "ENOUGH" "enough") rfl),
    He.str_ok X G (c.fact 60 (f := .str "GENERATE" "G") rfl),
    He.str_ok X G (c.fact 61 (f := .str "KILL" "K") rfl),
    He.str_ok X G (c.fact 62 (f := .str "PASS" "P") rfl),
    He.str_ok X G (c.fact 63 (f := .str "SHORT" "short") rfl),
    ⟨_, He.glo_ok X G (c.fact 64 (f := .glo "STATES") rfl), fun F => He.tupB_ok (xq) F⟩⟩
end My
open PySem PySem.W PySem.Calls PyProof.Rows
set_option maxRecDepth 100000 in
set_option maxHeartbeats 0 in
theorem PySem.Challenge.cw_carryprobe_k32_enough_checked_holds : PySem.Challenge.rw_carryprobe_k32_enough_checked.Holds := by
  w_on; o_law
  refine HandSHeadRun.head_any (r := OpenLaw.row PySem.Challenge.rw_carryprobe_k32_enough_checked) (q := view (OpenLaw.row PySem.Challenge.rw_carryprobe_k32_enough_checked).prog [55]) (H := My.hk) (ob := My.ob) (M := 6000) (loose := My.loose) (d := HandSHeadRun.topDef (OpenLaw.row PySem.Challenge.rw_carryprobe_k32_enough_checked).prog 55) (kwd := []) My.ob_eq
    (by kernel_rfl) (fun s => by kernel_rfl) My.run (by kernel_rfl) (by kernel_rfl) (by kernel_rfl) (by rfl) (by first | assumption | decide +kernel) (by decide +kernel) ⟨rfl, rfl, rfl, rfl, rfl, by decide +kernel⟩ ?hw ?hc
  case hw => w_witness2
  case hc =>
    refine DX.walk_ofG (l := PySem.Challenge.rw_carryprobe_k32_enough_checked) (k := 8) (x := "_law_script") rfl (by kernel_rfl) ⟨rfl, by decide, by decide⟩ ?G
    intro w mg fa h Y G hmg0
    obtain ⟨K, KX, c, xq⟩ := Y
    have hmg : mg ("law" : PySem.Str) = some (.ref fa) := by
      have e : (HandSHeadRun.topDef (OpenLaw.row PySem.Challenge.rw_carryprobe_k32_enough_checked).prog 55).name = ("law" : PySem.Str) := by kernel_rfl
      rw [← e]
      exact hmg0
    have T := My.txt KX G c xq
    have e := hmg.symm.trans T.m_law
    cases e
    exact ⟨K, T.d_law.choose, My.tr_law, KX, fun s u => T.d_law.choose_spec.bindsA (ps := ["_law_script"]) (fun _ _ _ _ _ _ us hl => match us, hl with | [_], _ => rfl) s [u] rfl, fun H a ns hl hS => My.law_start hl hS, fun base _ _ => My.ok_law T⟩
