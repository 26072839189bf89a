import PyProof.Rows.All
import Wide.All
import OpenK.AllK
import Wide.FinOn
import HandS.ForMost
import HandS.Walk
import HandS.Flow
import HandS.Defaults
import HandS.TupAny
import HandS.TupMul
import HandS.Zip
import HandS.Deep
import PyProof.ReprRoads
import PyProof.ReprLen
import HandS.WideBits
import HandS.IsInst
import HandS.Iter
import HandS.Style
import HandS.Conv
import HandS.Text
import HandS.Codes
import HandS.List
import HandS.HeadHook1
import HandS.HeadHook2
import HandS.Dict
import HandS.Star
import HandS.Replace
import HandS.StrMore
import KE.KDictPairs
import PyProof.ListStr
import PyProof.StrBlock2
import PyProof.Rows.StrMul
import PyProof.Rows.StrCase
import HandS.Property
import KE.KIndexOf
import KE.GoesEnum
import PyProof.TupleOfStr
import HandS.TupLe
import KE.KRevSl
import KE.KStateDown
import Lean
import HandS.Exc
import HandS.Head0
import HandS.Head1
import HandS.Head2
import HandS.HeadEnd
import PySem.Challenge.RW_carryprobe_k56_answers_at_greater_sizes
set_option Elab.async false
set_option linter.all false
set_option maxRecDepth 100000
set_option autoImplicit false
set_option maxHeartbeats 4000000
namespace DX
open PySem PySem.Spec L2

/-! ### data -/
inductive D where
  | non | bl (b : Bool) | int (i : Int) | str (x : Str) | adr (a : Addr) | ty (n : String)
  | tup (ds : List D) | lst (ds : List D) | scr (ns : List Int)
  | ins (C : Addr) (fs : List (Str × D))
  | dct (kvs : List (Key × D))
  | stup (ds : List D)

mutual
inductive Rp (K : PySem.W.Frag) (F : Hp) : V → D → Prop
  | non : Rp K F .non .non
  | bl (b : Bool) : Rp K F (.bl b) (.bl b)
  | int (i : Int) : Rp K F (.int i) (.int i)
  | str (x : Str) : Rp K F (.str x) (.str x)
  | adr (a : Addr) : Rp K F (.ref a) (.adr a)
  | ty (n : String) : Rp K F (.ty n) (.ty n)
  | tup {a : Addr} {xs : List V} {ds : List D} : SqT K F a xs → Rps K F xs ds → Rp K F (.ref a) (.tup ds)
  | lst {a : Addr} {xs : List V} {ds : List D} : F a = some (.lst xs) → Rps K F xs ds → Rp K F (.ref a) (.lst ds)
  | scr {a : Addr} {ns : List Int} : SqL K F a (ns.map V.int) → Rp K F (.ref a) (.scr ns)
  | ins {a C dx : Addr} {fs : List (Str × V)} {gs : List (Str × D)} : F a = some (.ins C dx fs) → Rfs K F fs gs → Rp K F (.ref a) (.ins C gs)
  | dct {a : Addr} {kvs : List (Key × V)} {ds : List (Key × D)} : F a = some (.dK kvs) → Rks K F kvs ds → Rp K F (.ref a) (.dct ds)
  | stup {a : Addr} {o : Obj} {xs : List V} {ds : List D} : F a = some (.frz o (.tup xs)) → (o.cls = .type "tuple" ∧ o.dict = none) → Rps K F xs ds → Rp K F (.ref a) (.stup ds)
inductive Rps (K : PySem.W.Frag) (F : Hp) : List V → List D → Prop
  | nil : Rps K F [] []
  | cons {v : V} {d : D} {vs : List V} {ds : List D} : Rp K F v d → Rps K F vs ds → Rps K F (v :: vs) (d :: ds)
inductive Rfs (K : PySem.W.Frag) (F : Hp) : List (Str × V) → List (Str × D) → Prop
  | nil : Rfs K F [] []
  | cons {x : Str} {v : V} {d : D} {vs : List (Str × V)} {ds : List (Str × D)} : Rp K F v d → Rfs K F vs ds → Rfs K F ((x, v) :: vs) ((x, d) :: ds)
inductive Rks (K : PySem.W.Frag) (F : Hp) : List (Key × V) → List (Key × D) → Prop
  | nil : Rks K F [] []
  | cons {x : Key} {v : V} {d : D} {vs : List (Key × V)} {ds : List (Key × D)} : Rp K F v d → Rks K F vs ds → Rks K F ((x, v) :: vs) ((x, d) :: ds)
end

section
variable {K : PySem.W.Frag} {F F' H H' : Hp}
theorem same_rd {a : Addr} {u : HO} (e : Same H H') (h : Rd H a u) : Rd H' a u := by
  rcases h with h | ⟨o, h⟩
  · exact .inl (e _ _ h)
  · exact .inr ⟨o, e _ _ h⟩
theorem same_l {a : Addr} {xs : List V} (e : Same H H') (h : SqL K H a xs) : SqL K H' a xs := by
  rcases h with h | h
  · exact .inl (same_rd e h)
  · exact .inr h
theorem same_t {a : Addr} {xs : List V} (e : Same H H') (h : SqT K H a xs) : SqT K H' a xs := by
  rcases h with h | h
  · exact .inl (same_rd e h)
  · exact .inr h
mutual
theorem Rp.mono (e : Same F F') : ∀ {v : V} {d : D}, Rp K F v d → Rp K F' v d
  | _, _, .non => .non
  | _, _, .bl b => .bl b
  | _, _, .int i => .int i
  | _, _, .str x => .str x
  | _, _, .adr a => .adr a
  | _, _, .ty n => .ty n
  | _, _, .tup h r => .tup (same_t e h) (Rps.mono e r)
  | _, _, .lst h r => .lst (e _ _ h) (Rps.mono e r)
  | _, _, .scr h => .scr (same_l e h)
  | _, _, .ins h r => .ins (e _ _ h) (Rfs.mono e r)
  | _, _, .dct h r => .dct (e _ _ h) (Rks.mono e r)
  | _, _, .stup h c r => .stup (e _ _ h) c (Rps.mono e r)
theorem Rps.mono (e : Same F F') : ∀ {v : List V} {d : List D}, Rps K F v d → Rps K F' v d
  | _, _, .nil => .nil
  | _, _, .cons h r => .cons (Rp.mono e h) (Rps.mono e r)
theorem Rfs.mono (e : Same F F') : ∀ {v : List (Str × V)} {d : List (Str × D)}, Rfs K F v d → Rfs K F' v d
  | _, _, .nil => .nil
  | _, _, .cons h r => .cons (Rp.mono e h) (Rfs.mono e r)
theorem Rks.mono (e : Same F F') : ∀ {v : List (Key × V)} {d : List (Key × D)}, Rks K F v d → Rks K F' v d
  | _, _, .nil => .nil
  | _, _, .cons h r => .cons (Rp.mono e h) (Rks.mono e r)
end
theorem Rps.length : ∀ {v : List V} {d : List D}, Rps K F v d → v.length = d.length
  | _, _, .nil => rfl
  | _, _, .cons _ r => congrArg Nat.succ (Rps.length r)
theorem Rps.append : ∀ {v w : List V} {d e : List D}, Rps K F v d → Rps K F w e → Rps K F (v ++ w) (d ++ e)
  | _, _, _, _, .nil, s => s
  | _, _, _, _, .cons h r, s => .cons h (Rps.append r s)
theorem Rps.get : ∀ {v : List V} {d : List D} {i : Nat} {x : D}, Rps K F v d → d[i]? = some x → ∃ y, v[i]? = some y ∧ Rp K F y x
  | _, _, i, _, .nil, e => by simp at e
  | _, _, 0, _, .cons h _, e => by simp at e; subst e; exact ⟨_, rfl, h⟩
  | _, _, i + 1, x, .cons _ r, e => by
    obtain ⟨y, h1, h2⟩ := Rps.get (i := i) (x := x) r (by simpa using e)
    exact ⟨y, by simpa using h1, h2⟩
theorem Rps.getV : ∀ {v : List V} {d : List D} {i : Nat} {y : V}, Rps K F v d → v[i]? = some y → ∃ x, d[i]? = some x ∧ Rp K F y x
  | _, _, i, _, .nil, e => by simp at e
  | _, _, 0, _, .cons h _, e => by simp at e; subst e; exact ⟨_, rfl, h⟩
  | _, _, i + 1, x, .cons _ r, e => by
    obtain ⟨y, h1, h2⟩ := Rps.getV (i := i) (y := x) r (by simpa using e)
    exact ⟨y, by simpa using h1, h2⟩
theorem Rps.set : ∀ {v : List V} {d : List D} {y : V} {x : D} (i : Nat), Rps K F v d → Rp K F y x → Rps K F (v.set i y) (d.set i x)
  | _, _, _, _, _, .nil, _ => .nil
  | _, _, _, _, 0, .cons _ r, h => .cons h r
  | _, _, _, _, i + 1, .cons h' r, h => .cons h' (Rps.set i r h)
theorem Rps.drop : ∀ {v : List V} {d : List D} (i : Nat), Rps K F v d → Rps K F (v.drop i) (d.drop i)
  | _, _, 0, r => r
  | _, _, _ + 1, .nil => .nil
  | _, _, i + 1, .cons _ r => Rps.drop i r
theorem Rps.take : ∀ {v : List V} {d : List D} (i : Nat), Rps K F v d → Rps K F (v.take i) (d.take i)
  | _, _, 0, _ => .nil
  | _, _, _ + 1, .nil => .nil
  | _, _, i + 1, .cons h r => .cons h (Rps.take i r)
theorem Rps.rep {v : List V} {d : List D} (r : Rps K F v d) : ∀ n : Nat, Rps K F (List.replicate n v).flatten (List.replicate n d).flatten
  | 0 => .nil
  | n + 1 => by
    rw [List.replicate_succ, List.replicate_succ, List.flatten_cons, List.flatten_cons]
    exact r.append (Rps.rep r n)
theorem Rps.reverse : ∀ {v : List V} {d : List D}, Rps K F v d → Rps K F v.reverse d.reverse
  | _, _, .nil => .nil
  | _, _, .cons h r => by
    rw [List.reverse_cons, List.reverse_cons]
    exact (Rps.reverse r).append (.cons h .nil)
theorem Rps.ints : ∀ {v : List V} {ns : List Int}, Rps K F v (ns.map D.int) → v = ns.map V.int
  | v, [], h => by cases h; rfl
  | v, n :: ns, h => by
    cases h with
    | cons a r =>
      cases a
      rw [Rps.ints r]; rfl
theorem Rps.ofInts : ∀ {ns : List Int}, Rps K F (ns.map V.int) (ns.map D.int)
  | [] => .nil
  | n :: ns => .cons (.int n) Rps.ofInts
theorem Rps.strs : ∀ {v : List V} {ns : List Str}, Rps K F v (ns.map D.str) → v = ns.map V.str
  | v, [], h => by cases h; rfl
  | v, n :: ns, h => by
    cases h with
    | cons a r =>
      cases a
      rw [Rps.strs r]; rfl
theorem Rps.ofStrs : ∀ {ns : List Str}, Rps K F (ns.map V.str) (ns.map D.str)
  | [] => .nil
  | n :: ns => .cons (.str n) Rps.ofStrs
theorem Rps.bls : ∀ {v : List V} {ns : List Bool}, Rps K F v (ns.map D.bl) → v = ns.map V.bl
  | v, [], h => by cases h; rfl
  | v, n :: ns, h => by
    cases h with
    | cons a r =>
      cases a
      rw [Rps.bls r]; rfl
end

/-! ### the names' data -/
abbrev DEnv := List (Option D)
def look : DEnv → Nat → Option D
  | [], _ => none
  | d :: _, 0 => d
  | _ :: r, n + 1 => look r n
def put : DEnv → Nat → D → DEnv
  | [], _, _ => []
  | _ :: r, 0, d => some d :: r
  | x :: r, n + 1, d => x :: put r n d
/-- a slot forgotten -/
def cut : DEnv → Nat → DEnv
  | [], _ => []
  | _ :: r, 0 => none :: r
  | x :: r, n + 1 => x :: cut r n
def cuts (ρ : DEnv) : List Nat → DEnv
  | [] => ρ
  | v :: vs => cut (cuts ρ vs) v
inductive En (K : PySem.W.Frag) (F : Hp) : St → DEnv → Prop
  | nil : En K F [] []
  | cons {v : Option V} {d : Option D} {σ : St} {ρ : DEnv} : (∀ x, d = some x → ∃ y, v = some y ∧ Rp K F y x) → En K F σ ρ → En K F (v :: σ) (d :: ρ)
section
variable {K : PySem.W.Frag} {F F' H H' : Hp}
theorem En.mono (e : Same F F') : ∀ {σ : St} {ρ : DEnv}, En K F σ ρ → En K F' σ ρ
  | _, _, .nil => .nil
  | _, _, .cons h r => .cons (fun x q => let ⟨y, a, b⟩ := h x q; ⟨y, a, b.mono e⟩) (En.mono e r)
theorem En.look : ∀ {σ : St} {ρ : DEnv} {i : Nat} {d : D}, En K F σ ρ → DX.look ρ i = some d → ∃ y, σ[i]? = some (some y) ∧ Rp K F y d
  | _, _, i, _, .nil, e => by simp [DX.look] at e
  | _, _, 0, d, .cons h r, e => by
    obtain ⟨y, a, b⟩ := h d e
    exact ⟨y, by rw [a]; rfl, b⟩
  | _, _, i + 1, d, .cons h r, e => by
    obtain ⟨y, a, b⟩ := En.look (i := i) r e
    exact ⟨y, by simpa using a, b⟩
theorem En.put : ∀ {σ : St} {ρ : DEnv} {y : V} {d : D} (i : Nat), En K F σ ρ → Rp K F y d → En K F (σ.set i (some y)) (DX.put ρ i d)
  | _, _, _, _, _, .nil, _ => .nil
  | _, _, y, d, 0, .cons _ r, h => .cons (fun x q => ⟨y, rfl, by cases q; exact h⟩) r
  | _, _, _, _, i + 1, .cons h' r, h => .cons h' (En.put i r h)
theorem En.cut : ∀ {σ : St} {ρ : DEnv} (i : Nat), En K F σ ρ → En K F (σ.set i none) (DX.cut ρ i)
  | _, _, _, .nil => .nil
  | _, _, 0, .cons _ r => .cons (fun x q => by cases q) r
  | _, _, i + 1, .cons h' r => .cons h' (En.cut i r)
theorem En.cuts {σ : St} {ρ : DEnv} (h : En K F σ ρ) : ∀ vs : List Nat, En K F (wipe σ vs) (DX.cuts ρ vs)
  | [] => h
  | v :: vs => En.cut v (En.cuts h vs)
def startD (n : Nat) (ds : List D) : DEnv := ds.map some ++ List.replicate n none
theorem En.rep : ∀ n : Nat, En K F (List.replicate n none) (List.replicate n none)
  | 0 => .nil
  | n + 1 => .cons (fun x q => by cases q) (En.rep n)
theorem En.start : ∀ {vs : List V} {ds : List D} (n : Nat), Rps K F vs ds → En K F (vs.map some ++ List.replicate n none) (startD n ds)
  | _, _, n, .nil => En.rep n
  | _, _, n, .cons h r => .cons (fun x q => ⟨_, rfl, by cases q; exact h⟩) (En.start n r)
end

/-! ### what may change -/
abbrev Mem := Addr → Option D
def up (M : Mem) (a : Addr) (d : D) : Mem := fun b => if b = a then some d else M b
def rm (M : Mem) (a : Addr) : Mem := fun b => if b = a then none else M b
theorem up_same {M : Mem} {a : Addr} {d : D} : up M a d a = some d := if_pos rfl
theorem up_ne {M : Mem} {a b : Addr} {d : D} (h : b ≠ a) : up M a d b = M b := if_neg h
theorem up_up {M : Mem} {a : Addr} {d e : D} : up (up M a d) a e = up M a e := by
  funext b; unfold up; split <;> rfl
theorem up_comm {M : Mem} {a b : Addr} {d e : D} (h : a ≠ b) : up (up M a d) b e = up (up M b e) a d := by
  funext c; unfold up
  by_cases h1 : c = a
  · subst h1
    rw [if_neg h]; simp
  · simp [h1]
theorem rm_up {M : Mem} {a : Addr} {d : D} (h : M a = none) : rm (up M a d) a = M := by
  funext c; unfold rm up
  by_cases h1 : c = a
  · subst h1; rw [if_pos rfl, h]
  · rw [if_neg h1, if_neg h1]
theorem up_self {M : Mem} {a : Addr} {d : D} (h : M a = some d) : up M a d = M := by
  funext c; unfold up
  by_cases h1 : c = a
  · subst h1; rw [if_pos rfl, h]
  · rw [if_neg h1]
def Mt (K : PySem.W.Frag) (F H : Hp) (a : Addr) : D → Prop
  | .lst ds => ∃ xs, H a = some (.lst xs) ∧ Rps K F xs ds
  | .ins C gs => ∃ dx fs, H a = some (.ins C dx fs) ∧ Rfs K F fs gs
  | .dct ds => ∃ kvs, H a = some (.dK kvs) ∧ Rks K F kvs ds
  | _ => False
structure Ok (K : PySem.W.Frag) (F : Hp) (M : Mem) (H : Hp) : Prop where
  ex : Same F H
  mt : ∀ a d, M a = some d → F a = none ∧ Mt K F H a d
section
variable {K : PySem.W.Frag} {F F' H H' : Hp} {M : Mem}
theorem Mt.there {a : Addr} {d : D} (m : Mt K F H a d) : ∃ o, H a = some o := by
  cases d <;> first
    | exact m.elim
    | (obtain ⟨_, h, _⟩ := m; exact ⟨_, h⟩)
    | (obtain ⟨_, _, h, _⟩ := m; exact ⟨_, h⟩)
theorem Mt.mono {a : Addr} {d : D} (e : Same F F') (h : H' a = H a) (m : Mt K F H a d) : Mt K F' H' a d := by
  cases d <;> first
    | exact m.elim
    | (obtain ⟨xs, p, r⟩ := m; exact ⟨xs, by rw [h]; exact p, r.mono e⟩)
    | (obtain ⟨dx, fs, p, r⟩ := m; exact ⟨dx, fs, by rw [h]; exact p, r.mono e⟩)
theorem same_new {a : Addr} {o : HO} (h : H a = none) : Same H (upd H a o) := fun b u e => by
  rw [upd_ne (ne_of_none e h)]
  exact e
theorem Ok.nn (k : Ok K F M H) {a : Addr} (h : H a = none) : F a = none ∧ M a = none := by
  refine ⟨k.ex.free h, ?_⟩
  cases q : M a with
  | none => rfl
  | some d =>
    obtain ⟨o, e⟩ := (k.mt a d q).2.there
    rw [h] at e; cases e
/-- a new object that is never to change -/
theorem Ok.fix (k : Ok K F M H) {a : Addr} {o : HO} (h : H a = none) : Ok K (upd F a o) M (upd H a o) := by
  obtain ⟨h1, h2⟩ := k.nn h
  refine ⟨fun b u e => ?_, fun b d e => ?_⟩
  · by_cases hb : b = a
    · subst hb; rw [upd_same] at e ⊢; exact e
    · rw [upd_ne hb] at e ⊢; exact k.ex b u e
  · have hb : b ≠ a := fun z => by subst z; rw [h2] at e; cases e
    obtain ⟨m1, m2⟩ := k.mt b d e
    exact ⟨by rw [upd_ne hb]; exact m1, m2.mono (same_new h1) (upd_ne hb)⟩
theorem Ok.fixSame (k : Ok K F M H) {a : Addr} {o : HO} (h : H a = Option.none) : Same F (upd F a o) := same_new (k.nn h).1
/-- a new object that may change -/
theorem Ok.lay (k : Ok K F M H) {a : Addr} {o : HO} {d : D} (h : H a = Option.none) (m : Mt K F (upd H a o) a d) : Ok K F (up M a d) (upd H a o) := by
  obtain ⟨h1, h2⟩ := k.nn h
  refine ⟨fun b u e => ?_, fun b d' e => ?_⟩
  · rw [upd_ne (ne_of_none e h1)]
    exact k.ex b u e
  · by_cases hb : b = a
    · subst hb
      rw [up_same] at e; cases e
      exact ⟨h1, m⟩
    · rw [up_ne hb] at e
      obtain ⟨m1, m2⟩ := k.mt b d' e
      exact ⟨m1, m2.mono (Same.refl F) (upd_ne hb)⟩
/-- it changes -/
theorem Ok.set (k : Ok K F M H) {a : Addr} {o : HO} {d d' : D} (h : M a = some d) (m : Mt K F (upd H a o) a d') : Ok K F (up M a d') (upd H a o) := by
  have h1 := (k.mt a d h).1
  refine ⟨fun b u e => ?_, fun b d' e => ?_⟩
  · rw [upd_ne (ne_of_none e h1)]
    exact k.ex b u e
  · by_cases hb : b = a
    · subst hb
      rw [up_same] at e; cases e
      exact ⟨h1, m⟩
    · rw [up_ne hb] at e
      obtain ⟨m1, m2⟩ := k.mt b d' e
      exact ⟨m1, m2.mono (Same.refl F) (upd_ne hb)⟩
/-- it is not to change any more -/
theorem Ok.freeze (k : Ok K F M H) {a : Addr} {o : HO} {d : D} (h : M a = some d) (ho : H a = some o) : Same F (upd F a o) ∧ Ok K (upd F a o) (rm M a) H := by
  have h1 := (k.mt a d h).1
  refine ⟨same_new h1, fun b u e => ?_, fun b d' e => ?_⟩
  · by_cases hb : b = a
    · subst hb; rw [upd_same] at e; cases e; exact ho
    · rw [upd_ne hb] at e; exact k.ex b u e
  · unfold rm at e
    by_cases hb : b = a
    · rw [if_pos hb] at e; cases e
    · rw [if_neg hb] at e
      obtain ⟨m1, m2⟩ := k.mt b d' e
      exact ⟨by rw [upd_ne hb]; exact m1, m2.mono (same_new h1) rfl⟩
end

/-! ### judgements over data -/
/-- what stays known, whatever is added -/
structure Gh where
  p : Hp → Prop
  mono : ∀ F F', Same F F' → p F → p F'
def Gh.triv : Gh := ⟨fun _ => True, fun _ _ _ h => h⟩
structure Sts (K : PySem.W.Frag) (J : Gh) (F : Hp) (σ : St) (H : Hp) (ρ : DEnv) (M : Mem) : Prop where
  en : En K F σ ρ
  ok : Ok K F M H
  gh : J.p F
def Kt (K : PySem.W.Frag) (F : Hp) (P : D → Mem → Prop) (Q : VK) : Prop := ∀ d v M' F' H', P d M' → Same F F' → Ok K F' M' H' → Rp K F' v d → Q v H'
def Kb (K : PySem.W.Frag) (F : Hp) (P : Bool → Mem → Prop) (Q : Bool → Hp → Prop) : Prop := ∀ b M' F' H', P b M' → Same F F' → Ok K F' M' H' → Q b H'
def Ka (K : PySem.W.Frag) (F : Hp) (P : List D → Mem → Prop) (Q : List V → Hp → Prop) : Prop := ∀ ds vs M' F' H', P ds M' → Same F F' → Ok K F' M' H' → Rps K F' vs ds → Q vs H'
def tD (K : PySem.W.Frag) (J : Gh) (ρ : DEnv) (M : Mem) (P : D → Mem → Prop) : TE := fun σ H Q => ∃ F, Sts K J F σ H ρ M ∧ Kt K F P Q
def tT (K : PySem.W.Frag) (J : Gh) (ρ : DEnv) (M : Mem) (P : Bool → Mem → Prop) : TT := fun σ H Q => ∃ F, Sts K J F σ H ρ M ∧ Kb K F P Q
def tA (K : PySem.W.Frag) (J : Gh) (ρ : DEnv) (M : Mem) (P : List D → Mem → Prop) : TA := fun σ H Q => ∃ F, Sts K J F σ H ρ M ∧ Ka K F P Q
def EX (X : Cx) (J : Gh) (e : Expr) (ρ : DEnv) (M : Mem) (P : D → Mem → Prop) : Prop := PE X e (tD X.K J ρ M P)
def TX (X : Cx) (J : Gh) (e : Expr) (ρ : DEnv) (M : Mem) (P : Bool → Mem → Prop) : Prop := PT X e (tT X.K J ρ M P)
def WX (X : Cx) (J : Gh) (e : Expr) (ρ : DEnv) (M : Mem) (P : Bool → Mem → Prop) : Prop := PW X e (tT X.K J ρ M P)
def AX (X : Cx) (J : Gh) (es : List Expr) (ρ : DEnv) (M : Mem) (P : List D → Mem → Prop) : Prop := PA X es (tA X.K J ρ M P)
/-- the reading that any derivation may fill -/
def tE (X : Cx) (e : Expr) : TE := fun σ H Q => ∃ t, PE X e t ∧ t σ H Q
def tTe (X : Cx) (e : Expr) : TT := fun σ H Q => ∃ t, PT X e t ∧ t σ H Q
def tWe (X : Cx) (e : Expr) : TT := fun σ H Q => ∃ t, PW X e t ∧ t σ H Q
def tAe (X : Cx) (es : List Expr) : TA := fun σ H Q => ∃ t, PA X es t ∧ t σ H Q
section
variable {X : Cx} {J : Gh} {e : Expr} {es : List Expr} {ρ : DEnv} {M M' : Mem} {F F' H H' : Hp} {σ : St} {P : D → Mem → Prop} {K : PySem.W.Frag}
theorem pe_any : PE X e (tE X e) := ⟨fun pins s σ H Q I ⟨t, h, q⟩ => h.run pins s σ H Q I q⟩
theorem pt_any : PT X e (tTe X e) := ⟨fun pins s σ H Q I ⟨t, h, q⟩ => h.run pins s σ H Q I q⟩
theorem pw_any : PW X e (tWe X e) := ⟨fun wh pins s σ H Q I ⟨t, h, q⟩ => h.run wh pins s σ H Q I q⟩
theorem pa_any : PA X es (tAe X es) := ⟨fun pos pins s σ H Q I ⟨t, h, q⟩ => h.run pos pins s σ H Q I q⟩
theorem Sts.to (s : Sts K J F σ H ρ M) (e : Same F F') (o : Ok K F' M' H') : Sts K J F' σ H' ρ M' := ⟨s.en.mono e, o, J.mono _ _ e s.gh⟩
theorem Kt.to {Q : VK} (k : Kt K F P Q) (e : Same F F') : Kt K F' P Q := fun d v M' F2 H' p e2 => k d v M' F2 H' p (e.trans e2)
theorem Kb.to {P : Bool → Mem → Prop} {Q : Bool → Hp → Prop} (k : Kb K F P Q) (e : Same F F') : Kb K F' P Q := fun b M' F2 H' p e2 => k b M' F2 H' p (e.trans e2)
theorem Ka.to {P : List D → Mem → Prop} {Q : List V → Hp → Prop} (k : Ka K F P Q) (e : Same F F') : Ka K F' P Q := fun b vs M' F2 H' p e2 => k b vs M' F2 H' p (e.trans e2)
theorem EX.go (h : EX X J e ρ M P) (s : Sts X.K J F σ H ρ M) {Q : VK} (k : Kt X.K F P Q) : tE X e σ H Q := ⟨_, h, F, s, k⟩
theorem TX.go {P : Bool → Mem → Prop} (h : TX X J e ρ M P) (s : Sts X.K J F σ H ρ M) {Q : Bool → Hp → Prop} (k : Kb X.K F P Q) : tTe X e σ H Q := ⟨_, h, F, s, k⟩
theorem WX.go {P : Bool → Mem → Prop} (h : WX X J e ρ M P) (s : Sts X.K J F σ H ρ M) {Q : Bool → Hp → Prop} (k : Kb X.K F P Q) : tWe X e σ H Q := ⟨_, h, F, s, k⟩
theorem AX.go {P : List D → Mem → Prop} (h : AX X J es ρ M P) (s : Sts X.K J F σ H ρ M) {Q : List V → Hp → Prop} (k : Ka X.K F P Q) : tAe X es σ H Q := ⟨_, h, F, s, k⟩
theorem ex_of {t : TE} (h : PE X e t) (k : ∀ F σ H Q, Sts X.K J F σ H ρ M → Kt X.K F P Q → t σ H Q) : EX X J e ρ M P := ⟨fun pins s σ H Q I ⟨F, st, q⟩ => h.run pins s σ H Q I (k F σ H Q st q)⟩
theorem tx_of {t : TT} {P : Bool → Mem → Prop} (h : PT X e t) (k : ∀ F σ H Q, Sts X.K J F σ H ρ M → Kb X.K F P Q → t σ H Q) : TX X J e ρ M P := ⟨fun pins s σ H Q I ⟨F, st, q⟩ => h.run pins s σ H Q I (k F σ H Q st q)⟩
theorem wx_of {t : TT} {P : Bool → Mem → Prop} (h : PW X e t) (k : ∀ F σ H Q, Sts X.K J F σ H ρ M → Kb X.K F P Q → t σ H Q) : WX X J e ρ M P := ⟨fun wh pins s σ H Q I ⟨F, st, q⟩ => h.run wh pins s σ H Q I (k F σ H Q st q)⟩
theorem ax_of {t : TA} {P : List D → Mem → Prop} (h : PA X es t) (k : ∀ F σ H Q, Sts X.K J F σ H ρ M → Ka X.K F P Q → t σ H Q) : AX X J es ρ M P := ⟨fun pos pins s σ H Q I ⟨F, st, q⟩ => h.run pos pins s σ H Q I (k F σ H Q st q)⟩
theorem EX.imp {P' : D → Mem → Prop} (h : EX X J e ρ M P) (k : ∀ d M', P d M' → P' d M') : EX X J e ρ M P' := ex_of h fun F σ H Q st q => ⟨F, st, fun d v M' F' H' p => q d v M' F' H' (k d M' p)⟩
theorem TX.imp {P P' : Bool → Mem → Prop} (h : TX X J e ρ M P) (k : ∀ d M', P d M' → P' d M') : TX X J e ρ M P' := tx_of h fun F σ H Q st q => ⟨F, st, fun d M' F' H' p => q d M' F' H' (k d M' p)⟩
/-- the value as it is, nothing changed -/
theorem Kt.here {Q : VK} {d : D} {v : V} (k : Kt K F P Q) (p : P d M) (o : Ok K F M H) (r : Rp K F v d) : Q v H := k d v M F H p (Same.refl F) o r
theorem Kb.here {P : Bool → Mem → Prop} {Q : Bool → Hp → Prop} {b : Bool} (k : Kb K F P Q) (p : P b M) (o : Ok K F M H) : Q b H := k b M F H p (Same.refl F) o
end
end DX
namespace DX
open PySem PySem.Spec L2

section
variable {X : Cx} {J : Gh} {e a b c : Expr} {es : List Expr} {ρ : DEnv} {M M' : Mem} {F F' H H' : Hp} {σ : St} {P : D → Mem → Prop} {PB : Bool → Mem → Prop} {PA' : List D → Mem → Prop} {K : PySem.W.Frag} {pos : Pos} {x : Str}

/-! ### names, constants -/
theorem ex_var {d : D} (i : Nat) (h : look ρ i = some d) (p : P d M) (hN : X.N[i]? = some x := by rfl) (hv : Vis X.env.scope x := by first | exact Or.inl rfl | exact Or.inr (Or.inl rfl) | exact Or.inr (Or.inr rfl)) (hd : (x == ("__debug__" : Str)) = false := by decide)
    (hcd : (x == ("__classdict__" : Str)) = false := by decide) : EX X J (.Name x pos) ρ M P :=
  ex_of (pe_var hN hv hd hcd) fun F σ H Q st k => by
    obtain ⟨v, h1, h2⟩ := st.en.look h
    exact ⟨v, h1, k.here p st.ok h2⟩
theorem ex_int {i : Int} {j} (p : P (.int i) M) : EX X J (.Constant (.int i) j pos) ρ M P := ex_of pe_int fun F σ H Q st k => k.here p st.ok (.int i)
theorem ex_bl {i : Bool} {j} (p : P (.bl i) M) : EX X J (.Constant (.bool i) j pos) ρ M P := ex_of pe_bl fun F σ H Q st k => k.here p st.ok (.bl i)
theorem ex_non {j} (p : P .non M) : EX X J (.Constant .none j pos) ρ M P := ex_of pe_non fun F σ H Q st k => k.here p st.ok .non
theorem ex_str {i : Str} {j} (p : P (.str i) M) : EX X J (.Constant (.str i) j pos) ρ M P := ex_of pe_str fun F σ H Q st k => k.here p st.ok (.str i)
/-- a module's constant -/
theorem ex_glob {v : V} {u : Value} {d : D} (hg : Gl X x) (hm : X.mg x = some u) (r : RelV v u) (hr : ∀ F, Rp X.K F v d) (p : P d M) (hd : (x == ("__debug__" : Str)) = false := by decide) : EX X J (.Name x pos) ρ M P :=
  ex_of (pe_glob hg hm r hd) fun F σ H Q st k => k.here p st.ok (hr F)

/-! ### argument lists -/
theorem ax_nil (p : PA' [] M) : AX X J [] ρ M PA' := ax_of pa_nil fun F σ H Q st k => k [] [] M F H p (Same.refl F) st.ok .nil
theorem ax_cons (h : EX X J e ρ M fun d M1 => AX X J es ρ M1 fun ds M2 => PA' (d :: ds) M2) (hs : starEach (e :: es) X.env = (false, eval e X.env) :: starEach es X.env := by rfl) : AX X J (e :: es) ρ M PA' :=
  ax_of (pa_cons pe_any pa_any hs) fun F σ H Q st k => h.go st fun d v M1 F1 H1 p e1 o1 r1 => AX.go p (st.to e1 o1) fun ds vs M2 F2 H2 p2 e2 o2 r2 => k _ _ M2 F2 H2 p2 (e1.trans e2) o2 (.cons (r1.mono e2) r2)

/-! ### operations on values -/
def rAnyO (X : Cx) (f : Value → Value → Sem Value) : R2 := fun v u H Q => ∃ r, OpR X f r ∧ r v u H Q
theorem op_any {f : Value → Value → Sem Value} : OpR X f (rAnyO X f) := fun pins s σ H x y v u Q I rx ry ⟨r, h, q⟩ => h pins s σ H x y v u Q I rx ry q
/-- f at the data x, y: what comes -/
def OD (X : Cx) (f : Value → Value → Sem Value) (x y : D) (M : Mem) (P : D → Mem → Prop) : Prop :=
  ∃ r, OpR X f r ∧ ∀ F H v u Q, Ok X.K F M H → Rp X.K F v x → Rp X.K F u y → Kt X.K F P Q → r v u H Q
theorem OD.go {f : Value → Value → Sem Value} {x y : D} (h : OD X f x y M P) {v u : V} {Q : VK} (o : Ok X.K F M H) (rx : Rp X.K F v x) (ry : Rp X.K F u y) (k : Kt X.K F P Q) : rAnyO X f v u H Q := by
  obtain ⟨r, h1, h2⟩ := h
  exact ⟨r, h1, h2 F H v u Q o rx ry k⟩
theorem ex_bin {op : Operator} (h : EX X J a ρ M fun x M1 => EX X J b ρ M1 fun y M2 => OD X (binaryOp op) x y M2 P) : EX X J (.BinOp a op b pos) ρ M P :=
  ex_of (pe_op op_any pe_any pe_any) fun F σ H Q st k => h.go st fun d v M1 F1 H1 p e1 o1 r1 => EX.go p (st.to e1 o1) fun d2 v2 M2 F2 H2 p2 e2 o2 r2 => p2.go o2 (r1.mono e2) r2 (k.to (e1.trans e2))
/-- a comparison as a value; as a test -/
theorem ex_cmp {op : CmpOp} (h : EX X J a ρ M fun x M1 => EX X J b ρ M1 fun y M2 => OD X (compareOp op) x y M2 P) (hm : behindInMarks op b = false := by rfl) : EX X J (.Compare a [op] [b] pos) ρ M P :=
  ex_of (pe_cmpR op_any pe_any pe_any hm) fun F σ H Q st k => h.go st fun d v M1 F1 H1 p e1 o1 r1 => EX.go p (st.to e1 o1) fun d2 v2 M2 F2 H2 p2 e2 o2 r2 => p2.go o2 (r1.mono e2) r2 (k.to (e1.trans e2))
def PBl (PB : Bool → Mem → Prop) : D → Mem → Prop := fun d M => ∃ c, d = .bl c ∧ PB c M
theorem kt_bl {Q : Bool → Hp → Prop} (k : Kb K F PB Q) : Kt K F (PBl PB) (fun x H' => ∃ k, x = .bl k ∧ Q k H') := fun d v M' F' H' p e o r => by
  obtain ⟨c, rfl, p⟩ := p
  cases r
  exact ⟨c, rfl, k c M' F' H' p e o⟩
theorem tx_cmp {op : CmpOp} (h : EX X J a ρ M fun x M1 => EX X J b ρ M1 fun y M2 => OD X (compareOp op) x y M2 (PBl PB)) (hm : behindInMarks op b = false := by rfl) : TX X J (.Compare a [op] [b] pos) ρ M PB :=
  tx_of (pt_cmpR op_any pe_any pe_any hm) fun F σ H Q st k => h.go st fun d v M1 F1 H1 p e1 o1 r1 => EX.go p (st.to e1 o1) fun d2 v2 M2 F2 H2 p2 e2 o2 r2 => p2.go o2 (r1.mono e2) r2 ((kt_bl k).to (e1.trans e2))
/-- a op b op' c -/
theorem ex_chain {op op' : CmpOp} (h : EX X J a ρ M fun x M1 => EX X J b ρ M1 fun y M2 => OD X (compareOp op) x y M2 (PBl fun t M3 => (t = true → EX X J c ρ M3 fun z M4 => OD X (compareOp op') y z M4 P) ∧ (t = false → P (.bl false) M3)))
    (h1 : lastMarks [op, op'] [b, c] = false := by with_unfolding_all rfl) : EX X J (.Compare a [op, op'] [b, c] pos) ρ M P :=
  ex_of (pe_chain op_any op_any pe_any pe_any pe_any h1) fun F σ H Q st k => h.go st fun d v M1 F1 H1 p e1 o1 r1 => EX.go p (st.to e1 o1) fun d2 v2 M2 F2 H2 p2 e2 o2 r2 => p2.go o2 (r1.mono e2) r2 fun d3 v3 M3 F3 H3 p3 e3 o3 r3 => by
    obtain ⟨t, rfl, p4, p5⟩ := p3
    cases r3
    refine ⟨t, rfl, ?_⟩
    cases t with
    | true => exact iteT ((p4 rfl).go (st.to ((e1.trans e2).trans e3) o3) fun d4 v4 M4 F4 H4 p6 e4 o4 r4 => OD.go p6 o4 ((r2.mono e3).mono e4) r4 (k.to (((e1.trans e2).trans e3).trans e4)))
    | false => exact iteF (k _ _ _ _ _ (p5 rfl) ((e1.trans e2).trans e3) o3 (.bl false))
theorem tx_chain {op op' : CmpOp} (h : EX X J a ρ M fun x M1 => EX X J b ρ M1 fun y M2 => OD X (compareOp op) x y M2 (PBl fun t M3 => (t = true → EX X J c ρ M3 fun z M4 => OD X (compareOp op') y z M4 (PBl PB)) ∧ (t = false → PB false M3)))
    (h1 : lastMarks [op, op'] [b, c] = false := by with_unfolding_all rfl) : TX X J (.Compare a [op, op'] [b, c] pos) ρ M PB :=
  tx_of (pt_chain op_any op_any pe_any pe_any pe_any h1) fun F σ H Q st k => h.go st fun d v M1 F1 H1 p e1 o1 r1 => EX.go p (st.to e1 o1) fun d2 v2 M2 F2 H2 p2 e2 o2 r2 => p2.go o2 (r1.mono e2) r2 fun d3 v3 M3 F3 H3 p3 e3 o3 r3 => by
    obtain ⟨t, rfl, p4, p5⟩ := p3
    cases r3
    refine ⟨t, rfl, ?_⟩
    cases t with
    | true => exact iteT ((p4 rfl).go (st.to ((e1.trans e2).trans e3) o3) fun d4 v4 M4 F4 H4 p6 e4 o4 r4 => OD.go p6 o4 ((r2.mono e3).mono e4) r4 ((kt_bl k).to (((e1.trans e2).trans e3).trans e4)))
    | false => exact iteF ⟨false, rfl, k _ _ _ _ (p5 rfl) ((e1.trans e2).trans e3) o3⟩

/-! ### ints -/
theorem od_int {f : Value → Value → Sem Value} {C : Int → Int → Prop} {g : Int → Int → V} {g' : Int → Int → D} (h : OpR X f (rI C g)) {i j : Int} (hc : C i j) (hr : ∀ F, Rp X.K F (g i j) (g' i j)) (p : P (g' i j) M) : OD X f (.int i) (.int j) M P :=
  ⟨_, h, fun F H v u Q o rx ry k => by
    cases rx; cases ry
    exact ⟨i, j, rfl, rfl, hc, k.here p o (hr F)⟩⟩
theorem od_int0 {f : Value → Value → Sem Value} {g : Int → Int → V} {g' : Int → Int → D} (h : OpR X f (rI0 g)) {i j : Int} (hr : ∀ F, Rp X.K F (g i j) (g' i j)) (p : P (g' i j) M) : OD X f (.int i) (.int j) M P :=
  ⟨_, h, fun F H v u Q o rx ry k => by
    cases rx; cases ry
    exact ⟨i, j, rfl, rfl, k.here p o (hr F)⟩⟩
variable {i j : Int}
theorem od_add (p : P (.int (i + j)) M) : OD X (binaryOp .Add) (.int i) (.int j) M P := od_int0 (g' := fun i j => .int (i + j)) op_add (fun F => .int _) p
theorem od_sub (p : P (.int (i - j)) M) : OD X (binaryOp .Sub) (.int i) (.int j) M P := od_int0 (g' := fun i j => .int (i - j)) op_sub (fun F => .int _) p
theorem od_mul (hc : CMul i j) (p : P (.int (i * j)) M) : OD X (binaryOp .Mult) (.int i) (.int j) M P := od_int (g' := fun i j => .int (i * j)) op_mul hc (fun F => .int _) p
theorem od_fdiv (hc : CDiv i j) (p : P (.int (i / j)) M) : OD X (binaryOp .FloorDiv) (.int i) (.int j) M P := od_int (g' := fun i j => .int (i / j)) op_fdiv hc (fun F => .int _) p
theorem od_mod (hc : 0 < j) (p : P (.int (i % j)) M) : OD X (binaryOp .Mod) (.int i) (.int j) M P := od_int (g' := fun i j => .int (i % j)) op_mod hc (fun F => .int _) p
theorem od_pow (hc : CPow i j) (p : P (.int (i ^ j.toNat)) M) : OD X (binaryOp .Pow) (.int i) (.int j) M P := od_int (g' := fun i j => .int (i ^ j.toNat)) op_pow hc (fun F => .int _) p
theorem od_shl (hc : CPow i j) (p : P (.int (i * 2 ^ j.toNat)) M) : OD X (binaryOp .LShift) (.int i) (.int j) M P := od_int (g' := fun i j => .int (i * 2 ^ j.toNat)) op_shl hc (fun F => .int _) p
theorem od_shr (hc : 0 ≤ j) (p : P (.int (i / 2 ^ j.toNat)) M) : OD X (binaryOp .RShift) (.int i) (.int j) M P := od_int (g' := fun i j => .int (i / 2 ^ j.toNat)) op_shr hc (fun F => .int _) p
theorem od_and (p : P (.int (Builtin.bitAnd i j)) M) : OD X (binaryOp .BitAnd) (.int i) (.int j) M P := od_int0 (g' := fun i j => .int (Builtin.bitAnd i j)) op_and (fun F => .int _) p
theorem od_xor (p : P (.int (Builtin.bitXor i j)) M) : OD X (binaryOp .BitXor) (.int i) (.int j) M P := od_int0 (g' := fun i j => .int (Builtin.bitXor i j)) op_xor (fun F => .int _) p
theorem od_lt (p : P (.bl (decide (i < j))) M) : OD X (compareOp .Lt) (.int i) (.int j) M P := od_int0 (g' := fun i j => .bl (decide (i < j))) op_lt (fun F => .bl _) p
theorem od_le (p : P (.bl (decide (i ≤ j))) M) : OD X (compareOp .LtE) (.int i) (.int j) M P := od_int0 (g' := fun i j => .bl (decide (i ≤ j))) op_le (fun F => .bl _) p
theorem od_gt (p : P (.bl (decide (j < i))) M) : OD X (compareOp .Gt) (.int i) (.int j) M P := od_int0 (g' := fun i j => .bl (decide (j < i))) op_gt (fun F => .bl _) p
theorem od_ge (p : P (.bl (decide (j ≤ i))) M) : OD X (compareOp .GtE) (.int i) (.int j) M P := od_int0 (g' := fun i j => .bl (decide (j ≤ i))) op_ge (fun F => .bl _) p
/-- scalars: == and != -/
def sc : D → D → Bool
  | .non, .non => true
  | .non, .int _ => true
  | .int _, .non => true
  | .non, .bl _ => true
  | .bl _, .non => true
  | .non, .str _ => true
  | .str _, .non => true
  | .int _, .int _ => true
  | .bl _, .bl _ => true
  | .str _, .str _ => true
  | .int _, .str _ => true
  | .str _, .int _ => true
  | .bl _, .str _ => true
  | .str _, .bl _ => true
  | _, _ => false
def sceq : D → D → Bool
  | .non, .non => true
  | .int i, .int j => decide (i = j)
  | .bl i, .bl j => decide (i = j)
  | .str i, .str j => decide (i = j)
  | _, _ => false
theorem sc_ok {x y : D} {v u : V} (h : sc x y = true) (rx : Rp K F v x) (ry : Rp K F u y) : scal v u = true ∧ decide (v = u) = sceq x y := by
  cases rx <;> cases ry <;> first
    | exact absurd h Bool.false_ne_true
    | exact ⟨rfl, by simp [sceq]⟩
theorem od_eq {x y : D} (h : sc x y = true) (p : P (.bl (sceq x y)) M) : OD X (compareOp .Eq) x y M P :=
  ⟨_, op_eq, fun F H v u Q o rx ry k => by
    obtain ⟨h1, h2⟩ := sc_ok h rx ry
    exact ⟨h1, by rw [h2]; exact k.here p o (.bl _)⟩⟩
theorem od_ne {x y : D} (h : sc x y = true) (p : P (.bl (!sceq x y)) M) : OD X (compareOp .NotEq) x y M P :=
  ⟨_, op_ne, fun F H v u Q o rx ry k => by
    obtain ⟨h1, h2⟩ := sc_ok h rx ry
    exact ⟨h1, by rw [h2]; exact k.here p o (.bl _)⟩⟩
theorem od_isN {x : D} {t : Bool} (h : ∀ K F v, Rp K F v x → decide (v = V.non) = t) (p : P (.bl t) M) : OD X (compareOp .Is) x .non M P :=
  ⟨_, op_isN, fun F H v u Q o rx ry k => by
    cases ry
    refine ⟨rfl, ?_⟩
    rw [h _ _ _ rx]
    exact k.here p o (.bl _)⟩
theorem od_notN {x : D} {t : Bool} (h : ∀ K F v, Rp K F v x → decide (v = V.non) = t) (p : P (.bl (!t)) M) : OD X (compareOp .IsNot) x .non M P :=
  ⟨_, op_notN, fun F H v u Q o rx ry k => by
    cases ry
    refine ⟨rfl, ?_⟩
    rw [h _ _ _ rx]
    exact k.here p o (.bl _)⟩
theorem isNon_non : ∀ K F v, Rp K F v .non → decide (v = V.non) = true := fun K F v r => by cases r; rfl
theorem isNon_int {i : Int} : ∀ K F v, Rp K F v (.int i) → decide (v = V.non) = false := fun K F v r => by cases r; rfl
theorem isNon_bl {i : Bool} : ∀ K F v, Rp K F v (.bl i) → decide (v = V.non) = false := fun K F v r => by cases r; rfl
theorem isNon_str {i : Str} : ∀ K F v, Rp K F v (.str i) → decide (v = V.non) = false := fun K F v r => by cases r; rfl
theorem isNon_tup {i : List D} : ∀ K F v, Rp K F v (.tup i) → decide (v = V.non) = false := fun K F v r => by cases r; rfl
theorem isNon_lst {i : List D} : ∀ K F v, Rp K F v (.lst i) → decide (v = V.non) = false := fun K F v r => by cases r; rfl
/-- -x -/
theorem ex_neg (h : EX X J a ρ M fun x M1 => ∃ i, x = .int i ∧ P (.int (-i)) M1) : EX X J (.UnaryOp .USub a pos) ρ M P :=
  ex_of (pe_un un_neg pe_any) fun F σ H Q st k => h.go st fun d v M1 F1 H1 p e1 o1 r1 => by
    obtain ⟨i, rfl, p⟩ := p
    cases r1
    exact ⟨i, rfl, k _ _ _ _ _ p e1 o1 (.int _)⟩

/-! ### truth, and, or, not, if -/
theorem tx_val (h : EX X J e ρ M (PBl PB)) (he : ∀ whole, isTrue e X.env whole = (do let v ← whole; standAt e.pos; holding [v] (truthy v)) := by intro _; rfl) : TX X J e ρ M PB :=
  tx_of (pt_val pe_any he) fun F σ H Q st k => h.go st (kt_bl k)
theorem tx_pw (h : WX X J e ρ M PB) : TX X J e ρ M PB := PW.pt h
theorem wx_and1 (h : TX X J a ρ M PB) : WX X J (.BoolOp .And [a] pos) ρ M PB := pw_and1 h
theorem wx_or1 (h : TX X J a ρ M PB) : WX X J (.BoolOp .Or [a] pos) ρ M PB := pw_or1 h
theorem wx_and {rest : List Expr} (h : TX X J a ρ M fun t M1 => (t = true → WX X J (.BoolOp .And (b :: rest) pos) ρ M1 PB) ∧ (t = false → PB false M1)) : WX X J (.BoolOp .And (a :: b :: rest) pos) ρ M PB :=
  wx_of (pw_and pt_any pw_any) fun F σ H Q st k => h.go st fun t M1 F1 H1 p e1 o1 => by
    cases t with
    | true => exact iteT ((p.1 rfl).go (st.to e1 o1) (k.to e1))
    | false => exact iteF (k _ _ _ _ (p.2 rfl) e1 o1)
theorem wx_or {rest : List Expr} (h : TX X J a ρ M fun t M1 => (t = false → WX X J (.BoolOp .Or (b :: rest) pos) ρ M1 PB) ∧ (t = true → PB true M1)) : WX X J (.BoolOp .Or (a :: b :: rest) pos) ρ M PB :=
  wx_of (pw_or pt_any pw_any) fun F σ H Q st k => h.go st fun t M1 F1 H1 p e1 o1 => by
    cases t with
    | false => exact iteF ((p.1 rfl).go (st.to e1 o1) (k.to e1))
    | true => exact iteT (k _ _ _ _ (p.2 rfl) e1 o1)
theorem tx_not (h : TX X J a ρ M fun t M1 => PB (!t) M1) : TX X J (.UnaryOp .Not a pos) ρ M PB :=
  tx_of (pt_not pt_any) fun F σ H Q st k => h.go st fun t M1 F1 H1 p e1 o1 => k _ _ _ _ p e1 o1
/-- as values, bools -/
theorem ex_one {op} (h : EX X J a ρ M P) : EX X J (.BoolOp op [a] pos) ρ M P := pe_one h
theorem ex_and {rest : List Expr} (h : EX X J a ρ M (PBl fun t M1 => (t = true → EX X J (.BoolOp .And (b :: rest) pos) ρ M1 P) ∧ (t = false → P (.bl false) M1))) : EX X J (.BoolOp .And (a :: b :: rest) pos) ρ M P :=
  ex_of (pe_and pe_any pe_any) fun F σ H Q st k => h.go st fun d v M1 F1 H1 p e1 o1 r1 => by
    obtain ⟨t, rfl, p⟩ := p
    cases r1
    refine ⟨t, rfl, ?_⟩
    cases t with
    | true => exact iteT ((p.1 rfl).go (st.to e1 o1) (k.to e1))
    | false => exact iteF (k _ _ _ _ _ (p.2 rfl) e1 o1 (.bl _))
theorem ex_or {rest : List Expr} (h : EX X J a ρ M (PBl fun t M1 => (t = false → EX X J (.BoolOp .Or (b :: rest) pos) ρ M1 P) ∧ (t = true → P (.bl true) M1))) : EX X J (.BoolOp .Or (a :: b :: rest) pos) ρ M P :=
  ex_of (pe_or pe_any pe_any) fun F σ H Q st k => h.go st fun d v M1 F1 H1 p e1 o1 r1 => by
    obtain ⟨t, rfl, p⟩ := p
    cases r1
    refine ⟨t, rfl, ?_⟩
    cases t with
    | false => exact iteF ((p.1 rfl).go (st.to e1 o1) (k.to e1))
    | true => exact iteT (k _ _ _ _ _ (p.2 rfl) e1 o1 (.bl _))
theorem ex_not (h : EX X J a ρ M (PBl fun t M1 => P (.bl (!t)) M1)) : EX X J (.UnaryOp .Not a pos) ρ M P :=
  ex_of (pe_not pe_any) fun F σ H Q st k => h.go st fun d v M1 F1 H1 p e1 o1 r1 => by
    obtain ⟨t, rfl, p⟩ := p
    cases r1
    exact ⟨t, rfl, k _ _ _ _ _ p e1 o1 (.bl _)⟩
theorem ex_if (h : TX X J c ρ M fun t M1 => (t = true → EX X J a ρ M1 P) ∧ (t = false → EX X J b ρ M1 P)) : EX X J (.IfExp c a b pos) ρ M P :=
  ex_of (pe_ifExp pt_any pe_any pe_any) fun F σ H Q st k => h.go st fun t M1 F1 H1 p e1 o1 => by
    cases t with
    | true => exact iteT ((p.1 rfl).go (st.to e1 o1) (k.to e1))
    | false => exact iteF ((p.2 rfl).go (st.to e1 o1) (k.to e1))

/-! ### lists, tuples, texts -/
inductive Sq (M : Mem) : D → List D → Prop
  | lst {ds : List D} : Sq M (.lst ds) ds
  | tup {ds : List D} : Sq M (.tup ds) ds
  | adr {p : Addr} {ds : List D} : M p = some (.lst ds) → Sq M (.adr p) ds
inductive Sl (M : Mem) : D → List D → Prop
  | lst {ds : List D} : Sl M (.lst ds) ds
  | adr {p : Addr} {ds : List D} : M p = some (.lst ds) → Sl M (.adr p) ds
theorem Sl.get {d : D} {ds : List D} {v : V} (s : Sl M d ds) (o : Ok K F M H) (r : Rp K F v d) : ∃ p xs, v = .ref p ∧ H p = some (.lst xs) ∧ Rps K F xs ds := by
  cases s with
  | lst =>
    cases r with
    | lst h r => exact ⟨_, _, rfl, o.ex _ _ h, r⟩
  | adr h =>
    cases r
    obtain ⟨_, xs, h1, h2⟩ := o.mt _ _ h
    exact ⟨_, xs, rfl, h1, h2⟩
theorem Sq.get {d : D} {ds : List D} {v : V} (s : Sq M d ds) (o : Ok K F M H) (r : Rp K F v d) : ∃ p xs, v = .ref p ∧ (SqL K H p xs ∨ SqT K H p xs) ∧ Rps K F xs ds := by
  cases s with
  | lst =>
    cases r with
    | lst h r => exact ⟨_, _, rfl, .inl (SqL.of (o.ex _ _ h)), r⟩
  | tup =>
    cases r with
    | tup h r => exact ⟨_, _, rfl, .inr (same_t o.ex h), r⟩
  | adr h =>
    cases r
    obtain ⟨_, xs, h1, h2⟩ := o.mt _ _ h
    exact ⟨_, xs, rfl, .inl (SqL.of h1), h2⟩
theorem Sl.sq {d : D} {ds : List D} (s : Sl M d ds) : Sq M d ds := by
  cases s with
  | lst => exact .lst
  | adr h => exact .adr h
/-- a new tuple, a new list that is not to change -/
theorem ex_tup {x1} (h : AX X J es ρ M fun ds M1 => ds.length ≤ 1000000 ∧ P (.tup ds) M1) : EX X J (.Tuple es x1 pos) ρ M P :=
  ex_of (pe_tup pa_any) fun F σ H Q st k => h.go st fun ds vs M1 F1 H1 p e1 o1 r1 => ⟨by rw [r1.length, sizeLine_eq]; omega, fun q hq =>
    k _ _ _ _ _ p.2 (e1.trans (o1.fixSame hq)) (o1.fix hq) (.tup (SqT.of upd_same) (r1.mono (o1.fixSame hq)))⟩
theorem ex_lst (h : AX X J es ρ M fun ds M1 => ds.length ≤ 1000000 ∧ P (.lst ds) M1) : EX X J (.List es pos) ρ M P :=
  ex_of (pe_lst pa_any) fun F σ H Q st k => h.go st fun ds vs M1 F1 H1 p e1 o1 r1 => ⟨by rw [r1.length, sizeLine_eq]; omega, fun q hq =>
    k _ _ _ _ _ p.2 (e1.trans (o1.fixSame hq)) (o1.fix hq) (.lst upd_same (r1.mono (o1.fixSame hq)))⟩
/-- a new list that may change -/
theorem ex_lstM (h : AX X J es ρ M fun ds M1 => ds.length ≤ 1000000 ∧ ∀ p, M1 p = none → P (.adr p) (up M1 p (.lst ds))) : EX X J (.List es pos) ρ M P :=
  ex_of (pe_lst pa_any) fun F σ H Q st k => h.go st fun ds vs M1 F1 H1 p e1 o1 r1 => ⟨by rw [r1.length, sizeLine_eq]; omega, fun q hq =>
    k _ _ _ _ _ (p.2 q (o1.nn hq).2) e1 (o1.lay hq ⟨vs, upd_same, r1⟩) (.adr q)⟩
/-- x[i] -/
def rAnyI (X : Cx) : R2 := fun v u H Q => ∃ r, IxR X r ∧ r v u H Q
theorem ix_any : IxR X (rAnyI X) := fun value slice pins s σ H x y v u Q I rx ry ⟨r, h, q⟩ hs => h value slice pins s σ H x y v u Q I rx ry q hs
def ID (X : Cx) (x y : D) (M : Mem) (P : D → Mem → Prop) : Prop :=
  ∃ r, IxR X r ∧ ∀ F H v u Q, Ok X.K F M H → Rp X.K F v x → Rp X.K F u y → Kt X.K F P Q → r v u H Q
theorem ex_ix (h : EX X J a ρ M fun x M1 => EX X J b ρ M1 fun y M2 => ID X x y M2 P) (hs : PlainIx b := by intro _ _; rfl) : EX X J (.Subscript a b pos) ρ M P :=
  ex_of (pe_ix ix_any pe_any pe_any hs) fun F σ H Q st k => h.go st fun d v M1 F1 H1 p e1 o1 r1 => EX.go p (st.to e1 o1) fun d2 v2 M2 F2 H2 p2 e2 o2 r2 => by
    obtain ⟨r, h1, h2⟩ := p2
    exact ⟨r, h1, h2 F2 H2 v v2 Q o2 (r1.mono e2) r2 (k.to (e1.trans e2))⟩
theorem atI_of {ds : List D} {xs : List V} {i : Int} {d : D} (r : Rps K F xs ds) (h : atI ds i = some d) : ∃ v, atI xs i = some v ∧ Rp K F v d := by
  unfold atI at h ⊢
  rw [r.length]
  cases e : ixN ds.length i with
  | none => rw [e] at h; cases h
  | some j =>
    rw [e] at h
    obtain ⟨v, h1, h2⟩ := r.get (show ds[j]? = some d from h)
    exact ⟨v, h1, h2⟩
theorem id_seq {x d : D} {ds : List D} (s : Sq M x ds) (h : atI ds i = some d) (p : P d M) : ID X x (.int i) M P :=
  ⟨_, ix_list.or ix_tup, fun F H v u Q o rx ry k => by
    cases ry
    obtain ⟨q, xs, rfl, hs, r⟩ := s.get o rx
    obtain ⟨w, h1, h2⟩ := atI_of r h
    rcases hs with hs | hs
    · exact .inl ⟨q, xs, i, w, rfl, rfl, hs, h1, k.here p o h2⟩
    · exact .inr ⟨q, xs, i, w, rfl, rfl, hs, h1, k.here p o h2⟩⟩
theorem id_str {z : Str} {n : Nat} (hz : z.length ≤ 1000000) (h : atI z.cps.toList i = some n) (p : P (.str ⟨#[n]⟩) M) : ID X (.str z) (.int i) M P :=
  ⟨_, ix_str, fun F H v u Q o rx ry k => by
    cases rx; cases ry
    exact ⟨z, i, n, rfl, rfl, by rw [sizeLine_eq]; omega, h, k.here p o (.str _)⟩⟩
/-- x + y of texts, lists, tuples; x * n -/
theorem od_addS {x y : Str} (hz : x.length + y.length ≤ 1000000) (p : P (.str (x ++ y)) M) : OD X (binaryOp .Add) (.str x) (.str y) M P :=
  ⟨_, op_add_str, fun F H v u Q o rx ry k => by
    cases rx; cases ry
    exact ⟨x, y, rfl, rfl, by rw [sizeLine_eq]; omega, k.here p o (.str _)⟩⟩
theorem od_addL {x y : D} {ds es : List D} (sx : Sl M x ds) (sy : Sl M y es) (hz : ds.length + es.length ≤ 1000000) (p : P (.lst (ds ++ es)) M) : OD X (binaryOp .Add) x y M P :=
  ⟨_, op_cat, fun F H v u Q o rx ry k => by
    obtain ⟨a, xs, rfl, h1, r1⟩ := sx.get o rx
    obtain ⟨b, ys, rfl, h2, r2⟩ := sy.get o ry
    exact ⟨a, b, xs, ys, rfl, rfl, h1, h2, by rw [r1.length, r2.length, sizeLine_eq]; omega, fun q hq => k _ _ _ _ _ p (o.fixSame hq) (o.fix hq) (.lst upd_same ((r1.append r2).mono (o.fixSame hq)))⟩⟩
theorem od_addT {ds es : List D} (hz : ds.length + es.length ≤ 1000000) (p : P (.tup (ds ++ es)) M) : OD X (binaryOp .Add) (.tup ds) (.tup es) M P :=
  ⟨_, op_catA, fun F H v u Q o rx ry k => by
    cases rx with
    | @tup a xs _ h1 r1 =>
    cases ry with
    | @tup b ys _ h2 r2 =>
      have g1 := same_t o.ex h1
      have g2 := same_t o.ex h2
      refine ⟨a, b, xs, ys, rfl, rfl, g1, g2, by rw [r1.length, r2.length, sizeLine_eq]; omega, fun e => ?_, fun _ e => ?_, fun _ _ q hq => ?_⟩
      · subst e
        have : ds = [] := by cases r1; rfl
        subst this
        exact k.here p o (.tup h2 (by simpa using r2))
      · subst e
        have : es = [] := by cases r2; rfl
        subst this
        exact k.here p o (.tup h1 (by simpa using r1))
      · exact k _ _ _ _ _ p (o.fixSame hq) (o.fix hq) (.tup (SqT.of upd_same) ((r1.append r2).mono (o.fixSame hq)))⟩
theorem od_mulL {x : D} {ds : List D} {n : Int} (sx : Sl M x ds) (h0 : -(2 ^ 62) ≤ n ∧ n < 2 ^ 62) (hz : ds.length * n.toNat ≤ 1000000) (p : P (.lst (List.replicate n.toNat ds).flatten) M) : OD X (binaryOp .Mult) x (.int n) M P :=
  ⟨_, op_rep, fun F H v u Q o rx ry k => by
    cases ry
    obtain ⟨a, xs, rfl, h1, r1⟩ := sx.get o rx
    exact ⟨a, n, xs, rfl, rfl, h1, by omega, by omega, by rw [r1.length, sizeLine_eq]; omega, fun q hq => k _ _ _ _ _ p (o.fixSame hq) (o.fix hq) (.lst upd_same ((r1.rep _).mono (o.fixSame hq)))⟩⟩
/-- slices of lists, tuples, texts -/
def tOe (X : Cx) (e : Option Expr) : TO := fun σ H Q => ∃ t, PO X e t ∧ t σ H Q
theorem po_any {eo : Option Expr} : PO X eo (tOe X eo) := ⟨fun pins s σ H Q I ⟨t, h, q⟩ => h.run pins s σ H Q I q⟩
def Ko (K : PySem.W.Frag) (F : Hp) (P : Option Int → Mem → Prop) (Q : Option Int → Hp → Prop) : Prop := ∀ b M' F' H', P b M' → Same F F' → Ok K F' M' H' → Q b H'
def OX (X : Cx) (J : Gh) (eo : Option Expr) (ρ : DEnv) (M : Mem) (P : Option Int → Mem → Prop) : Prop := ∀ F σ H Q, Sts X.K J F σ H ρ M → Ko X.K F P Q → tOe X eo σ H Q
theorem ox_none {PO' : Option Int → Mem → Prop} (p : PO' none M) : OX X J none ρ M PO' := fun F σ H Q st k => ⟨_, po_none, k _ _ _ _ p (Same.refl F) st.ok⟩
theorem ox_some {PO' : Option Int → Mem → Prop} (h : EX X J e ρ M fun x M1 => ∃ i, x = .int i ∧ PO' (some i) M1) : OX X J (some e) ρ M PO' := fun F σ H Q st k => ⟨_, po_some pe_any, h.go st fun d v M1 F1 H1 p e1 o1 r1 => by
  obtain ⟨i, rfl, p⟩ := p
  cases r1
  exact ⟨i, rfl, k _ _ _ _ p e1 o1⟩⟩
def rAnyS (X : Cx) : V → Option Int → Option Int → Hp → VK → Prop := fun v l h H Q => ∃ r, SlR X r ∧ r v l h H Q
theorem sl_any : SlR X (rAnyS X) := fun pins s σ H x v vl vu lo hi sl Q I rx hs pl pu ⟨r, h1, h2⟩ => h1 pins s σ H x v vl vu lo hi sl Q I rx hs pl pu h2
def SD (X : Cx) (x : D) (l h : Option Int) (M : Mem) (P : D → Mem → Prop) : Prop :=
  ∃ r, SlR X r ∧ ∀ F H v Q, Ok X.K F M H → Rp X.K F v x → Kt X.K F P Q → r v l h H Q
theorem ex_slice {lo hi : Option Expr} {p2 : Pos} (h : EX X J e ρ M fun x M1 => OX X J lo ρ M1 fun l M2 => OX X J hi ρ M2 fun u M3 => SD X x l u M3 P) : EX X J (.Subscript e (.Slice lo hi none p2) pos) ρ M P :=
  ex_of (pe_slice sl_any pe_any po_any po_any) fun F σ H Q st k => h.go st fun d v M1 F1 H1 p e1 o1 r1 => p F1 σ H1 _ (st.to e1 o1) fun l M2 F2 H2 p2 e2 o2 => p2 F2 σ H2 _ (st.to (e1.trans e2) o2) fun u M3 F3 H3 p3 e3 o3 => by
    obtain ⟨r, h1, h2⟩ := p3
    exact ⟨r, h1, h2 F3 H3 v Q o3 ((r1.mono e2).mono e3) (k.to ((e1.trans e2).trans e3))⟩
def cutD (ds : List D) (lo hi : Option Int) : List D := (ds.drop (HT.sIx ds.length 0 lo)).take (HT.sIx ds.length ds.length hi - HT.sIx ds.length 0 lo)
theorem cut_of {ds : List D} {xs : List V} (r : Rps K F xs ds) (lo hi : Option Int) : Rps K F (cutV xs lo hi) (cutD ds lo hi) := by
  unfold cutV cutD
  rw [r.length]
  exact (r.drop _).take _
theorem sd_list {x : D} {ds : List D} {l u : Option Int} (s : Sl M x ds) (p : P (.lst (cutD ds l u)) M) : SD X x l u M P :=
  ⟨_, sl_list, fun F H v Q o rx k => by
    obtain ⟨a, xs, rfl, h1, r1⟩ := s.get o rx
    exact ⟨a, xs, rfl, SqL.of h1, fun q hq => k _ _ _ _ _ p (o.fixSame hq) (o.fix hq) (.lst upd_same ((cut_of r1 l u).mono (o.fixSame hq)))⟩⟩
end
end DX
namespace DX
open PySem PySem.Spec L2

/-! ### statements -/
structure Bd where
  nx : DEnv → Mem → Prop
  rt : D → Mem → Prop
  bk : DEnv → Mem → Prop := fun _ _ => False
  ct : DEnv → Mem → Prop := fun _ _ => False
structure Kd (K : PySem.W.Frag) (F : Hp) (B : Bd) (E : Ends) : Prop where
  nx : ∀ F' σ' H' ρ' M', B.nx ρ' M' → Same F F' → En K F' σ' ρ' → Ok K F' M' H' → E.nx σ' H'
  rt : Kt K F B.rt E.rt
  bk : ∀ F' σ' H' ρ' M', B.bk ρ' M' → Same F F' → En K F' σ' ρ' → Ok K F' M' H' → E.bk σ' H'
  ct : ∀ F' σ' H' ρ' M', B.ct ρ' M' → Same F F' → En K F' σ' ρ' → Ok K F' M' H' → E.ct σ' H'
def tSd (K : PySem.W.Frag) (J : Gh) (ρ : DEnv) (M : Mem) (B : Bd) : TS := fun E σ H => ∃ F, Sts K J F σ H ρ M ∧ Kd K F B E
def GX (X : Cx) (J : Gh) (st : List Stmt) (ρ : DEnv) (M : Mem) (B : Bd) : Prop := PSs X st (tSd X.K J ρ M B)
def G1 (X : Cx) (J : Gh) (st : Stmt) (ρ : DEnv) (M : Mem) (B : Bd) : Prop := PS X st (tSd X.K J ρ M B)
def tSe (X : Cx) (st : List Stmt) : TS := fun E σ H => ∃ t, PSs X st t ∧ t E σ H
def tS1 (X : Cx) (st : Stmt) : TS := fun E σ H => ∃ t, PS X st t ∧ t E σ H
section
variable {X : Cx} {J : Gh} {e a b c : Expr} {es : List Expr} {st : Stmt} {rest sts : List Stmt} {ρ ρ' : DEnv} {M M' : Mem} {F F' H H' : Hp} {σ : St} {B : Bd} {K : PySem.W.Frag} {pos p : Pos} {x : Str} {E : Ends}
theorem pss_any : PSs X sts (tSe X sts) := ⟨fun pins s σ H D I ⟨t, h, q⟩ => h.run pins s σ H D I q⟩
theorem ps_any : PS X st (tS1 X st) := ⟨fun pins s σ H D I ⟨t, h, q⟩ => h.run pins s σ H D I q⟩
theorem Kd.to (k : Kd K F B E) (e : Same F F') : Kd K F' B E :=
  ⟨fun F2 σ' H' ρ' M' p e2 => k.nx F2 σ' H' ρ' M' p (e.trans e2), k.rt.to e, fun F2 σ' H' ρ' M' p e2 => k.bk F2 σ' H' ρ' M' p (e.trans e2), fun F2 σ' H' ρ' M' p e2 => k.ct F2 σ' H' ρ' M' p (e.trans e2)⟩
theorem GX.go (h : GX X J sts ρ M B) (s : Sts X.K J F σ H ρ M) (k : Kd X.K F B E) : tSe X sts E σ H := ⟨_, h, F, s, k⟩
theorem G1.go (h : G1 X J st ρ M B) (s : Sts X.K J F σ H ρ M) (k : Kd X.K F B E) : tS1 X st E σ H := ⟨_, h, F, s, k⟩
theorem gx_of {t : TS} (h : PSs X sts t) (k : ∀ F σ H E, Sts X.K J F σ H ρ M → Kd X.K F B E → t E σ H) : GX X J sts ρ M B := ⟨fun pins s σ H D I ⟨F, st, q⟩ => h.run pins s σ H D I (k F σ H D st q)⟩
theorem g1_of {t : TS} (h : PS X st t) (k : ∀ F σ H E, Sts X.K J F σ H ρ M → Kd X.K F B E → t E σ H) : G1 X J st ρ M B := ⟨fun pins s σ H D I ⟨F, st, q⟩ => h.run pins s σ H D I (k F σ H D st q)⟩
/-- the ends with another way on -/
def Bd.thn (B : Bd) (nx : DEnv → Mem → Prop) : Bd := { B with nx := nx }
theorem gx_nil (h : B.nx ρ M) : GX X J [] ρ M B := gx_of pss_nil fun F σ H E st k => k.nx F σ H ρ M h (Same.refl F) st.en st.ok
/-- a statement, then the rest -/
theorem gx_cons (h : G1 X J st ρ M (B.thn fun ρ' M' => GX X J rest ρ' M' B)) (hJ : ∀ F, J.p F → ∀ F', Same F F' → J.p F') : GX X J (st :: rest) ρ M B :=
  gx_of (pss_cons ps_any pss_any) fun F σ H E s k => h.go s
    ⟨fun F' σ' H' ρ' M' q e en o => GX.go q ⟨en, o, J.mono _ _ e s.gh⟩ (k.to e), k.rt, k.bk, k.ct⟩
theorem gx_seq (h : G1 X J st ρ M (B.thn fun ρ' M' => GX X J rest ρ' M' B)) : GX X J (st :: rest) ρ M B := gx_cons h fun F q F' e => J.mono F F' e q
theorem GX.imp {B' : Bd} (h : GX X J sts ρ M B) (h1 : ∀ ρ' M', B.nx ρ' M' → B'.nx ρ' M') (h2 : ∀ d M', B.rt d M' → B'.rt d M') (h3 : ∀ ρ' M', B.bk ρ' M' → B'.bk ρ' M') (h4 : ∀ ρ' M', B.ct ρ' M' → B'.ct ρ' M') : GX X J sts ρ M B' :=
  gx_of h fun F σ H E st k => ⟨F, st, fun F' σ' H' ρ' M' q => k.nx F' σ' H' ρ' M' (h1 _ _ q), fun d v M' F' H' q => k.rt d v M' F' H' (h2 _ _ q), fun F' σ' H' ρ' M' q => k.bk F' σ' H' ρ' M' (h3 _ _ q), fun F' σ' H' ρ' M' q => k.ct F' σ' H' ρ' M' (h4 _ _ q)⟩
/-- a word between: what follows is shown once, from Mid -/
theorem gx_mid (Mid : DEnv → Mem → Prop) (h : GX X J sts ρ M (B.thn Mid)) (k : ∀ ρ' M', Mid ρ' M' → B.nx ρ' M') : GX X J sts ρ M B := h.imp k (fun _ _ q => q) (fun _ _ q => q) (fun _ _ q => q)

/-! ### targets -/
/-- at d, into the names ρ: then P of the names -/
def AsD (X : Cx) (target : Expr) (d : D) (ρ : DEnv) (P : DEnv → Prop) : Prop :=
  ∃ g, PG X target g ∧ ∀ F M v σ H Q, Ok X.K F M H → Rp X.K F v d → En X.K F σ ρ → (∀ σ' ρ', P ρ' → En X.K F σ' ρ' → Q σ' H) → g v σ H Q
def AsDs (X : Cx) (ts : List Expr) (ds : List D) (ρ : DEnv) (P : DEnv → Prop) : Prop :=
  ∃ g, PGs X ts g ∧ ∀ F M vs σ H Q, Ok X.K F M H → Rps X.K F vs ds → En X.K F σ ρ → (∀ σ' ρ', P ρ' → En X.K F σ' ρ' → Q σ' H) → g vs σ H Q
def gE (X : Cx) (target : Expr) : TG := fun v σ H Q => ∃ g, PG X target g ∧ g v σ H Q
theorem pg_any {target : Expr} : PG X target (gE X target) := ⟨fun pins s σ H v u Q I r ⟨g, h, q⟩ => h.run pins s σ H v u Q I r q⟩
theorem as_name {d : D} {P : DEnv → Prop} (i : Nat) (h : P (put ρ i d)) (hN : X.N.Nodup := by rfl) (hi : X.N[i]? = some x := by rfl) (hx : Loc X.env.scope x := by first | exact Or.inl rfl | exact Or.inr rfl) (hf : X.fn x = true ∨ X.env.scope.names.lookup x = some .local := by first | exact .inl rfl | exact .inr rfl) : AsD X (.Name x pos) d ρ P :=
  ⟨_, pg_name hN hi hx hf, fun F M v σ H Q o r en k => k _ _ h (en.put i r)⟩
theorem as_tup {ds : List D} {k : Nat} {P : DEnv → Prop} (hc : X.calm = true) (hl : (assignEach es X.env).length = ds.length) (h : AsDs X es ds ρ P) (hst : (assignEach es X.env).findIdx? (·.1) = none := by rfl) : AsD X (.Tuple es k pos) (.tup ds) ρ P := by
  obtain ⟨g, hg, h⟩ := h
  refine ⟨_, pg_tup hc hg hl hst, fun F M v σ H Q o r en k => ?_⟩
  cases r with
  | tup h1 r1 => exact ⟨_, _, rfl, same_t o.ex h1, r1.length, h F M _ σ H Q o r1 en k⟩
theorem asd_go {target : Expr} {d : D} {P : DEnv → Prop} (h : AsD X target d ρ P) {v : V} {Q : St → Hp → Prop} (o : Ok X.K F M H) (r : Rp X.K F v d) (en : En X.K F σ ρ) (k : ∀ σ' ρ', P ρ' → En X.K F σ' ρ' → Q σ' H) : gE X target v σ H Q := by
  obtain ⟨g, hg, h⟩ := h
  exact ⟨g, hg, h F M v σ H Q o r en k⟩
theorem asd_nil {P : DEnv → Prop} (h : P ρ) : AsDs X [] [] ρ P := ⟨_, pgs_nil, fun F M vs σ H Q o r en k => by cases r; exact ⟨rfl, k _ _ h en⟩⟩
theorem asd_cons {t : Expr} {ts : List Expr} {d : D} {ds : List D} {P : DEnv → Prop} (h : AsD X t d ρ fun ρ' => AsDs X ts ds ρ' P)
    (hs : (assignEach (t :: ts) X.env).map (·.2) = assign t X.env :: (assignEach ts X.env).map (·.2) := by rfl) : AsDs X (t :: ts) (d :: ds) ρ P :=
  ⟨_, pgs_cons pg_any (⟨fun pins s σ H vs us Q I r ⟨g, h, q⟩ => h.run pins s σ H vs us Q I r q⟩ : PGs X ts (fun vs σ H Q => ∃ g, PGs X ts g ∧ g vs σ H Q)) hs, fun F M vs σ H Q o r en k => by
    cases r with
    | cons h1 r1 => exact ⟨_, _, rfl, asd_go h o h1 en fun σ' ρ' q en' => by
        obtain ⟨g, hg, q⟩ := q
        exact ⟨g, hg, q F M _ σ' H Q o r1 en' k⟩⟩⟩

/-! ### the small statements -/
theorem g1_asg {tg : Expr} (h : EX X J e ρ M fun d M1 => AsD X tg d ρ fun ρ' => B.nx ρ' M1) (hs : swapsWithSole [tg] e pos.line X.env = pure false := by rfl) (hw : swappedStores [tg] e X.env = pure none := by rfl)
    (h1 : (assignEach [tg] X.env).map (·.2) = [assign tg X.env] := by rfl) : G1 X J (.Assign [tg] e pos) ρ M B :=
  g1_of (ps_asg pe_any pg_any hs hw h1) fun F σ H E s k => h.go s fun d v M1 F1 H1 p e1 o1 r1 => asd_go p o1 r1 (s.en.mono e1) fun σ' ρ' q en => k.nx F1 σ' H1 ρ' M1 q e1 en o1
/-- a, b = x, y -/
theorem g1_par {x y : Str} {px py pt : Pos} {kt k2 pt2} (i j : Nat) (hc : X.calm = true) (hij : i ≠ j) (h : AX X J [a, b] ρ M fun ds M1 => ∃ d1 d2, ds = [d1, d2] ∧ B.nx (put (put ρ i d1) j d2) M1)
    (hN : X.N.Nodup := by rfl) (hi : X.N[i]? = some x := by rfl) (hj : X.N[j]? = some y := by rfl) (hx : X.env.scope.names.lookup x = some .local := by rfl) (hy : X.env.scope.names.lookup y = some .local := by rfl)
    (hw : swappedStores [.Tuple [.Name x px, .Name y py] kt pt] (.Tuple [a, b] k2 pt2) X.env = pure (some [x, y]) := by rfl)
    (hs : swapsWithSole [.Tuple [.Name x px, .Name y py] kt pt] (.Tuple [a, b] k2 pt2) pos.line X.env = pure false := by rfl) :
    G1 X J (.Assign [.Tuple [.Name x px, .Name y py] kt pt] (.Tuple [a, b] k2 pt2) pos) ρ M B :=
  g1_of (ps_par hc hN hi hj hij hx hy pa_any hw hs) fun F σ H E s k => h.go s fun ds vs M1 F1 H1 p e1 o1 r1 => by
    obtain ⟨d1, d2, rfl, p⟩ := p
    cases r1 with
    | cons h1 r1 =>
      cases r1 with
      | cons h2 r1 =>
        cases r1
        exact ⟨_, _, rfl, k.nx F1 _ H1 _ M1 p e1 (((s.en.mono e1).put i h1).put j h2) o1⟩
/-- x += e and its like, ints -/
theorem g1_aug {x : Str} {op : Operator} {f : Int → Int → Int} (ho : PIp X op (ipI f)) (i : Nat) (h : ∃ u, look ρ i = some (.int u) ∧ EX X J e ρ M fun d M1 => ∃ v, d = .int v ∧ B.nx (put ρ i (.int (f u v))) M1)
    (hN : X.N.Nodup := by rfl) (hi : X.N[i]? = some x := by rfl) (hx : Loc X.env.scope x := by first | exact Or.inl rfl | exact Or.inr rfl) (hf : X.fn x = true ∨ X.env.scope.names.lookup x = some .local := by first | exact .inl rfl | exact .inr rfl) :
    G1 X J (.AugAssign (.Name x p) op e pos) ρ M B := by
  obtain ⟨u, hu, h⟩ := h
  exact g1_of (ps_aug hN hi hx pe_any ho hf) fun F σ H E s k => by
    obtain ⟨v0, h1, h2⟩ := s.en.look hu
    cases h2
    refine ⟨_, h1, h.go s fun d v M1 F1 H1 q e1 o1 r1 => ?_⟩
    obtain ⟨w, rfl, q⟩ := q
    cases r1
    exact ⟨u, w, rfl, rfl, k.nx F1 _ H1 _ M1 q e1 ((s.en.mono e1).put i (.int _)) o1⟩
theorem g1_ret (h : EX X J e ρ M B.rt) : G1 X J (.Return (some e) pos) ρ M B := g1_of (ps_ret pe_any) fun F σ H E s k => h.go s k.rt
theorem g1_retN (h : B.rt .non M) : G1 X J (.Return none pos) ρ M B := g1_of ps_retN fun F σ H E s k => k.rt.here h s.ok .non
theorem g1_expr (h : EX X J e ρ M fun _ M1 => B.nx ρ M1) (hs : swapsWith e none pos.line X.env = pure false := by rfl) : G1 X J (.Expr e pos) ρ M B :=
  g1_of (ps_expr pe_any hs) fun F σ H E s k => h.go s fun d v M1 F1 H1 p e1 o1 r1 => k.nx F1 σ H1 ρ M1 p e1 (s.en.mono e1) o1
theorem g1_pass (h : B.nx ρ M) : G1 X J (.Pass pos) ρ M B := g1_of ps_pass fun F σ H E s k => k.nx F σ H ρ M h (Same.refl F) s.en s.ok
theorem g1_break (h : B.bk ρ M) : G1 X J (.Break pos) ρ M B := g1_of ps_break fun F σ H E s k => k.bk F σ H ρ M h (Same.refl F) s.en s.ok
theorem g1_cont (h : B.ct ρ M) : G1 X J (.Continue pos) ρ M B := g1_of ps_continue fun F σ H E s k => k.ct F σ H ρ M h (Same.refl F) s.en s.ok
theorem g1_if {s1 s2 : List Stmt} (h : TX X J c ρ M fun t M1 => (t = true → GX X J s1 ρ M1 B) ∧ (t = false → GX X J s2 ρ M1 B)) : G1 X J (.If c s1 s2 pos) ρ M B :=
  g1_of (ps_if pt_any pss_any pss_any) fun F σ H E s k => h.go s fun t M1 F1 H1 p e1 o1 => by
    cases t with
    | true => exact iteT ((p.1 rfl).go (s.to e1 o1) (k.to e1))
    | false => exact iteF ((p.2 rfl).go (s.to e1 o1) (k.to e1))

/-! ### loops -/
structure Wk (K : PySem.W.Frag) (F : Hp) (I : It) (ds : List D) : Prop where
  goes : ∀ i H, i < ds.length → Same F H → I.go i H
  stops : ∀ H, Same F H → I.stop ds.length H
  yields : ∀ i d H x H' F1 M, ds[i]? = some d → Same F F1 → Ok K F1 M H → I.yld i H x H' → ∃ F2, Same F1 F2 ∧ Ok K F2 M H' ∧ Rp K F2 x d
theorem Wk.mono {I : It} {ds : List D} (w : Wk K F I ds) (e : Same F F') : Wk K F' I ds :=
  ⟨fun i H hi s => w.goes i H hi (e.trans s), fun H s => w.stops H (e.trans s), fun i d H x H' F1 M hd s => w.yields i d H x H' F1 M hd (e.trans s)⟩
def Ki (K : PySem.W.Frag) (F : Hp) (P : List D → Mem → Prop) (R : It → Hp → Prop) : Prop := ∀ ds I M' F' H', P ds M' → Same F F' → Ok K F' M' H' → Wk K F' I ds → R I H'
/-- what a loop walks -/
def IX (X : Cx) (J : Gh) (tg iter : Expr) (ρ : DEnv) (M : Mem) (P : List D → Mem → Prop) : Prop := PI X tg iter fun σ H R => ∃ F, Sts X.K J F σ H ρ M ∧ Ki X.K F P R
def tIe (X : Cx) (tg iter : Expr) : TI := fun σ H R => ∃ t, PI X tg iter t ∧ t σ H R
theorem pi_any {tg iter : Expr} : PI X tg iter (tIe X tg iter) := ⟨fun pins s σ H R I ⟨t, h, q⟩ => h.run pins s σ H R I q⟩
theorem IX.go {tg iter : Expr} {P : List D → Mem → Prop} (h : IX X J tg iter ρ M P) (s : Sts X.K J F σ H ρ M) {R : It → Hp → Prop} (k : Ki X.K F P R) : tIe X tg iter σ H R := ⟨_, h, F, s, k⟩
theorem ix_of {tg iter : Expr} {t : TI} {P : List D → Mem → Prop} (h : PI X tg iter t) (k : ∀ F σ H R, Sts X.K J F σ H ρ M → Ki X.K F P R → t σ H R) : IX X J tg iter ρ M P := ⟨fun pins s σ H R I ⟨F, st, q⟩ => h.run pins s σ H R I (k F σ H R st q)⟩
theorem wk_list {q : Addr} {xs : List V} {ds : List D} (h : F q = some (.lst xs)) (r : Rps K F xs ds) : Wk K F (Itl K q) ds :=
  ⟨fun i H hi s => ⟨xs, xs[i]'(by rw [r.length]; exact hi), SqL.of (s _ _ h), by simp⟩, fun H s => ⟨xs, SqL.of (s _ _ h), by rw [r.length]; exact Nat.le_refl _⟩,
    fun i d H x H' F1 M hd s o y => by
      obtain ⟨rfl, y⟩ := y
      obtain ⟨v, h1, h2⟩ := r.get hd
      have e1 := y xs (SqL.of (o.ex _ _ (s _ _ h)))
      rw [h1] at e1; cases e1
      exact ⟨F1, Same.refl _, o, h2.mono s⟩⟩
theorem wk_tup {q : Addr} {xs : List V} {ds : List D} (h : SqT K F q xs) (r : Rps K F xs ds) : Wk K F (Itt K q) ds :=
  ⟨fun i H hi s => ⟨xs, xs[i]'(by rw [r.length]; exact hi), same_t s h, by simp⟩, fun H s => ⟨xs, same_t s h, by rw [r.length]; exact Nat.le_refl _⟩,
    fun i d H x H' F1 M hd s o y => by
      obtain ⟨rfl, y⟩ := y
      obtain ⟨v, h1, h2⟩ := r.get hd
      have e1 := y xs (same_t o.ex (same_t s h))
      rw [h1] at e1; cases e1
      exact ⟨F1, Same.refl _, o, h2.mono s⟩⟩
theorem ix_lst {tg : Expr} {P : List D → Mem → Prop} (h : EX X J e ρ M fun d M1 => ∃ ds, d = .lst ds ∧ P ds M1) : IX X J tg e ρ M P :=
  ix_of (pi_list pe_any) fun F σ H R s k => h.go s fun d v M1 F1 H1 p e1 o1 r1 => by
    obtain ⟨ds, rfl, p⟩ := p
    cases r1 with
    | lst h1 r1 => exact ⟨_, rfl, ⟨_, SqL.of (o1.ex _ _ h1)⟩, k ds _ M1 F1 H1 p e1 o1 (wk_list h1 r1)⟩
theorem ix_tup {tg : Expr} {P : List D → Mem → Prop} (h : EX X J e ρ M fun d M1 => ∃ ds, d = .tup ds ∧ P ds M1) : IX X J tg e ρ M P :=
  ix_of (pi_tup pe_any) fun F σ H R s k => h.go s fun d v M1 F1 H1 p e1 o1 r1 => by
    obtain ⟨ds, rfl, p⟩ := p
    cases r1 with
    | tup h1 r1 => exact ⟨_, rfl, ⟨_, same_t o1.ex h1⟩, k ds _ M1 F1 H1 p e1 o1 (wk_tup h1 r1)⟩
def rngD (lo : Int) (n : Nat) : List D := (List.range n).map fun (i : Nat) => D.int (lo + (i : Int))
theorem rngD_len {lo : Int} {n : Nat} : (rngD lo n).length = n := by unfold rngD; simp
theorem rngD_at {lo : Int} {n i : Nat} {d : D} (h : (rngD lo n)[i]? = some d) : i < n ∧ d = .int (lo + (i : Int)) := by
  unfold rngD at h
  rw [List.getElem?_map] at h
  by_cases hi : i < n
  · rw [List.getElem?_range hi] at h
    cases h
    exact ⟨hi, rfl⟩
  · rw [List.getElem?_eq_none (by simp; omega)] at h
    cases h
theorem wk_rng {lo : Int} {n : Nat} : Wk K F (Itr lo n) (rngD lo n) :=
  ⟨fun i H hi s => by rw [rngD_len] at hi; exact hi, fun H s => by rw [rngD_len]; exact Nat.le_refl _, fun i d H x H' F1 M hd s o y => by
    obtain ⟨rfl, rfl⟩ := y
    obtain ⟨_, rfl⟩ := rngD_at hd
    exact ⟨F1, Same.refl _, o, .int _⟩⟩
theorem ix_range1 {tg : Expr} {P : List D → Mem → Prop} (hm : X.mg "range" = none) (h : AX X J [a] ρ M fun ds M1 => ∃ j, ds = [.int j] ∧ (-(2 ^ 62) ≤ j ∧ j < 2 ^ 62) ∧ P (rngD 0 j.toNat) M1) (hg : Gl X "range" := by rfl)
    (hs : starEach [a] X.env = [(false, eval a X.env)] := by rfl) : IX X J tg (.Call (.Name "range" p) [a] [] pos) ρ M P :=
  ix_of (pi_range1 hg hm pa_any hs) fun F σ H R s k => h.go s fun ds vs M1 F1 H1 q e1 o1 r1 => by
    obtain ⟨j, rfl, hj, q⟩ := q
    cases r1 with
    | cons h1 r1 =>
      cases r1
      cases h1
      exact ⟨j, rfl, hj.1, hj.2, k _ _ M1 F1 H1 q e1 o1 wk_rng⟩
theorem ix_range2 {tg : Expr} {P : List D → Mem → Prop} (hm : X.mg "range" = none) (h : AX X J [a, b] ρ M fun ds M2 => ∃ i j, ds = [.int i, .int j] ∧ (-(2 ^ 62) ≤ i ∧ i < 2 ^ 62 ∧ -(2 ^ 62) ≤ j ∧ j < 2 ^ 62) ∧ P (rngD i (j - i).toNat) M2) (hg : Gl X "range" := by rfl)
    (hs : starEach [a, b] X.env = [(false, eval a X.env), (false, eval b X.env)] := by rfl) (hs2 : starEach [b] X.env = [(false, eval b X.env)] := by rfl) : IX X J tg (.Call (.Name "range" p) [a, b] [] pos) ρ M P :=
  ix_of (pi_range2 hg hm pa_any hs hs2) fun F σ H R s k => h.go s fun ds vs M1 F1 H1 q e1 o1 r1 => by
    obtain ⟨i, j, rfl, hj, q2⟩ := q
    cases r1 with
    | cons h1 r1 =>
      cases r1 with
      | cons h2 r1 =>
        cases r1
        cases h1; cases h2
        exact ⟨i, j, rfl, hj, k _ _ M1 F1 H1 q2 e1 o1 wk_rng⟩
/-- zip of two lists, of two tuples -/
def zipD : List D → List D → List D
  | x :: xs, y :: ys => .tup [x, y] :: zipD xs ys
  | _, _ => []
theorem zipD_len : ∀ (xs ys : List D), (zipD xs ys).length = min xs.length ys.length
  | [], ys => by simp [zipD]
  | x :: xs, [] => by simp [zipD]
  | x :: xs, y :: ys => by simp [zipD, zipD_len xs ys]
theorem zipD_at : ∀ {xs ys : List D} {i : Nat} {d : D}, (zipD xs ys)[i]? = some d → ∃ x y, xs[i]? = some x ∧ ys[i]? = some y ∧ d = .tup [x, y]
  | [], ys, i, d, h => by simp [zipD] at h
  | x :: xs, [], i, d, h => by simp [zipD] at h
  | x :: xs, y :: ys, 0, d, h => by simp [zipD] at h; exact ⟨x, y, rfl, rfl, h.symm⟩
  | x :: xs, y :: ys, i + 1, d, h => by
    obtain ⟨a, b, h1, h2, h3⟩ := zipD_at (xs := xs) (ys := ys) (i := i) (by simpa [zipD] using h)
    exact ⟨a, b, by simpa using h1, by simpa using h2, h3⟩
theorem pair_new {x y d1 d2 : D} {v1 v2 : V} {T : Addr} (o : Ok K F M H) (h : H T = none) (r1 : Rp K F v1 d1) (r2 : Rp K F v2 d2) : ∃ F2, Same F F2 ∧ Ok K F2 M (upd H T (.tup [v1, v2])) ∧ Rp K F2 (.ref T) (.tup [d1, d2]) :=
  ⟨_, o.fixSame h, o.fix h, .tup (SqT.of upd_same) (.cons (r1.mono (o.fixSame h)) (.cons (r2.mono (o.fixSame h)) .nil))⟩
theorem wk_zip {q r : Addr} {xs ys : List V} {ds es : List D} (h : F q = some (.lst xs)) (g : F r = some (.lst ys)) (hx : Rps K F xs ds) (hy : Rps K F ys es) : Wk K F (Itz K q r) (zipD ds es) := by
  refine ⟨fun i H hi s => ?_, fun H s => ⟨xs, ys, SqL.of (s _ _ h), SqL.of (s _ _ g), by rw [zipD_len, hx.length, hy.length]; omega⟩, fun i d H x H' F1 M hd s o y => ?_⟩
  · rw [zipD_len] at hi
    have h1 : i < xs.length := by rw [hx.length]; omega
    have h2 : i < ys.length := by rw [hy.length]; omega
    exact ⟨xs, ys, xs[i], ys[i], SqL.of (s _ _ h), SqL.of (s _ _ g), by simp [h1], by simp [h2]⟩
  · obtain ⟨T, v1, v2, rfl, h2, rfl, h4, h5⟩ := y
    obtain ⟨d1, d2, g1, g2, rfl⟩ := zipD_at hd
    obtain ⟨w1, k1, k2⟩ := hx.get g1
    obtain ⟨w2, k3, k4⟩ := hy.get g2
    have e1 := h4 xs (SqL.of (o.ex _ _ (s _ _ h)))
    have e2 := h5 ys (SqL.of (o.ex _ _ (s _ _ g)))
    rw [k1] at e1; cases e1
    rw [k3] at e2; cases e2
    exact pair_new (x := d1) (y := d2) o h2 (k2.mono s) (k4.mono s)
theorem wk_zipT {q r : Addr} {xs ys : List V} {ds es : List D} (h : SqT K F q xs) (g : SqT K F r ys) (hx : Rps K F xs ds) (hy : Rps K F ys es) : Wk K F (RZ.ItzT K q r) (zipD ds es) := by
  refine ⟨fun i H hi s => ?_, fun H s => ⟨xs, ys, same_t s h, same_t s g, by rw [zipD_len, hx.length, hy.length]; omega⟩, fun i d H x H' F1 M hd s o y => ?_⟩
  · rw [zipD_len] at hi
    have h1 : i < xs.length := by rw [hx.length]; omega
    have h2 : i < ys.length := by rw [hy.length]; omega
    exact ⟨xs, ys, xs[i], ys[i], same_t s h, same_t s g, by simp [h1], by simp [h2]⟩
  · obtain ⟨T, v1, v2, rfl, h2, rfl, h4, h5⟩ := y
    obtain ⟨d1, d2, g1, g2, rfl⟩ := zipD_at hd
    obtain ⟨w1, k1, k2⟩ := hx.get g1
    obtain ⟨w2, k3, k4⟩ := hy.get g2
    have e1 := h4 xs (same_t o.ex (same_t s h))
    have e2 := h5 ys (same_t o.ex (same_t s g))
    rw [k1] at e1; cases e1
    rw [k3] at e2; cases e2
    exact pair_new (x := d1) (y := d2) o h2 (k2.mono s) (k4.mono s)
/-- both lists, or both tuples -/
inductive Zs : D → D → List D → List D → Prop
  | lst {ds es : List D} : Zs (.lst ds) (.lst es) ds es
  | tup {ds es : List D} : Zs (.tup ds) (.tup es) ds es
theorem ix_zip {elts : List Expr} {kk : Nat} {tpos : Pos} {P : List D → Mem → Prop} (hm : X.mg "zip" = none) (h : AX X J [a, b] ρ M fun ws M2 => ∃ d d2 ds es, ws = [d, d2] ∧ Zs d d2 ds es ∧ P (zipD ds es) M2) (hg : Gl X "zip" := by rfl)
    (hs : starEach [a, b] X.env = (false, eval a X.env) :: starEach [b] X.env := by rfl) (hpl : (backTo pos (starEach [b] X.env)).any (·.1) = false := by rfl) : IX X J (.Tuple elts kk tpos) (.Call (.Name "zip" p) [a, b] [] pos) ρ M P :=
  ix_of (RZ.pi_zipA hg hm pa_any hs hpl) fun F σ H R s k => h.go s fun ws vs M2 F2 H2 q e1 o2 r1 => by
    obtain ⟨d, d2, ds, es, rfl, z, q2⟩ := q
    cases r1 with
    | cons h1 r1 =>
      cases r1 with
      | cons h2 r1 =>
        cases r1
        cases z with
        | lst =>
          cases h1 with
          | lst h1 k1 =>
            cases h2 with
            | lst h2 k2 => exact ⟨_, _, _, _, rfl, .inl ⟨SqL.of (o2.ex _ _ h1), SqL.of (o2.ex _ _ h2), k _ _ M2 F2 H2 q2 e1 o2 (wk_zip h1 h2 k1 k2)⟩⟩
        | tup =>
          cases h1 with
          | tup h1 k1 =>
            cases h2 with
            | tup h2 k2 => exact ⟨_, _, _, _, rfl, .inr ⟨same_t o2.ex h1, same_t o2.ex h2, k _ _ M2 F2 H2 q2 e1 o2 (wk_zipT h1 h2 k1 k2)⟩⟩
/-- enumerate of a list -/
def enumD (i : Nat) : List D → List D
  | [] => []
  | x :: xs => .tup [.int (i : Int), x] :: enumD (i + 1) xs
theorem enumD_len : ∀ (i : Nat) (xs : List D), (enumD i xs).length = xs.length
  | i, [] => rfl
  | i, x :: xs => by simp [enumD, enumD_len (i + 1) xs]
theorem enumD_at : ∀ {xs : List D} {k i : Nat} {d : D}, (enumD k xs)[i]? = some d → ∃ x, xs[i]? = some x ∧ d = .tup [.int ((k + i : Nat) : Int), x]
  | [], k, i, d, h => by simp [enumD] at h
  | x :: xs, k, 0, d, h => by simp [enumD] at h; exact ⟨x, rfl, h.symm⟩
  | x :: xs, k, i + 1, d, h => by
    obtain ⟨y, h1, h2⟩ := enumD_at (xs := xs) (k := k + 1) (i := i) (by simpa [enumD] using h)
    exact ⟨y, by simpa using h1, by rw [h2, Nat.add_assoc, Nat.add_comm 1 i]⟩
theorem wk_enum {q : Addr} {xs : List V} {ds : List D} (h : F q = some (.lst xs)) (hx : Rps K F xs ds) : Wk K F (Ite K q) (enumD 0 ds) := by
  refine ⟨fun i H hi s => ?_, fun H s => ⟨xs, SqL.of (s _ _ h), by rw [enumD_len, hx.length]; exact Nat.le_refl _⟩, fun i d H x H' F1 M hd s o y => ?_⟩
  · rw [enumD_len] at hi
    have h1 : i < xs.length := by rw [hx.length]; omega
    exact ⟨xs, xs[i], SqL.of (s _ _ h), by simp [h1]⟩
  · obtain ⟨T, v1, rfl, h2, rfl, h4⟩ := y
    obtain ⟨d1, g1, rfl⟩ := enumD_at hd
    obtain ⟨w1, k1, k2⟩ := hx.get g1
    have e1 := h4 xs (SqL.of (o.ex _ _ (s _ _ h)))
    rw [k1] at e1; cases e1
    rw [Nat.zero_add]
    exact pair_new (x := d1) (y := d1) o h2 (.int _) (k2.mono s)
theorem ix_enum {elts : List Expr} {kk : Nat} {tpos : Pos} {P : List D → Mem → Prop} (hm : X.mg "enumerate" = none) (h : AX X J [a] ρ M fun ws M1 => ∃ ds, ws = [.lst ds] ∧ P (enumD 0 ds) M1) (hg : Gl X "enumerate" := by rfl)
    (hs : starEach [a] X.env = [(false, eval a X.env)] := by rfl) : IX X J (.Tuple elts kk tpos) (.Call (.Name "enumerate" p) [a] [] pos) ρ M P :=
  ix_of (pi_enum hg hm pa_any hs) fun F σ H R s k => h.go s fun ws vs M1 F1 H1 q e1 o1 r1 => by
    obtain ⟨ds, rfl, q⟩ := q
    cases r1 with
    | cons h1 r1 =>
      cases r1
      cases h1 with
      | lst h1 k1 => exact ⟨_, _, rfl, SqL.of (o1.ex _ _ h1), k _ _ M1 F1 H1 q e1 o1 (wk_enum h1 k1)⟩
/-- the signs of a text -/
def signs (z : Str) : List D := z.cps.toList.map fun c => D.str ⟨#[c]⟩
theorem wk_str {z : Str} : Wk K F (Its z) (signs z) := by
  refine ⟨fun i H hi s => ?_, fun H s => ?_, fun i d H x H' F1 M hd s o y => ?_⟩
  · unfold signs at hi; simp at hi; exact hi
  · unfold signs; simp; exact Nat.le_refl _
  · obtain ⟨rfl, c, h1, rfl⟩ := y
    unfold signs at hd
    rw [List.getElem?_map] at hd
    have : z.cps.toList[i]? = some c := by simpa using h1
    rw [this] at hd
    cases hd
    exact ⟨F1, Same.refl _, o, .str _⟩
theorem ix_str {tg : Expr} {P : List D → Mem → Prop} (h : EX X J e ρ M fun d M1 => ∃ z, d = .str z ∧ P (signs z) M1) : IX X J tg e ρ M P :=
  ix_of (pi_str pe_any) fun F σ H R s k => h.go s fun d v M1 F1 H1 p e1 o1 r1 => by
    obtain ⟨z, rfl, p⟩ := p
    cases r1
    exact ⟨z, rfl, k _ _ M1 F1 H1 p e1 o1 wk_str⟩
/-- for -/
theorem g1_for {tg iter : Expr} {body : List Stmt} (hp : PassesOwn (model X.prog X.w) X.A X.env X.xe) (hc : X.calm = true)
    (h : IX X J tg iter ρ M fun ds M1 => ∃ Wd : Nat → DEnv → Mem → Prop, Wd 0 ρ M1 ∧
      (∀ i d ρ' M', ds[i]? = some d → Wd i ρ' M' → AsD X tg d ρ' fun ρ2 => GX X J body ρ2 M' ⟨Wd (i + 1), B.rt, B.nx, Wd (i + 1)⟩) ∧ ∀ ρ' M', Wd ds.length ρ' M' → B.nx ρ' M')
    (hs : ∀ x, foldedSetIterable iter X.env x = pure x := by intro _; rfl) : G1 X J (.For tg iter body [] pos) ρ M B :=
  g1_of (ps_for hp hc pi_any pg_any pss_any hs) fun F σ H E s k => h.go s fun ds I M1 F1 H1 ⟨Wd, h0, hs, hd⟩ e1 o1 w => by
    refine ⟨fun i m σ H => m = ds.length - i ∧ i ≤ ds.length ∧ ∃ F' ρ' M', Same F1 F' ∧ Sts X.K J F' σ H ρ' M' ∧ Wd i ρ' M', ⟨ds.length, by simp, Nat.zero_le _, F1, ρ, M1, Same.refl _, s.to e1 o1, h0⟩, ?_⟩
    rintro i m σ' H' ⟨rfl, hi, F', ρ', M', e2, s2, q⟩
    by_cases hlt : i < ds.length
    · refine .inr ⟨w.goes i H' hlt (e2.trans s2.ok.ex), _, fun σ3 H3 n3 => n3, fun x H3 y => ?_⟩
      · obtain ⟨F3, e3, o3, r3⟩ := w.yields i ds[i] H' x H3 F' M' (by simp [hlt]) e2 s2.ok y
        refine asd_go (hs i ds[i] ρ' M' (by simp [hlt]) q) o3 r3 (s2.en.mono e3) fun σ4 ρ4 q4 en4 => GX.go q4 ⟨en4, o3, J.mono _ _ e3 s2.gh⟩ ?_
        have nxt : ∀ F' σ' H' ρ' M', Wd (i + 1) ρ' M' → Same F3 F' → En X.K F' σ' ρ' → Ok X.K F' M' H' → ∃ m', m' < ds.length - i ∧ m' = ds.length - (i + 1) ∧ i + 1 ≤ ds.length ∧ ∃ F' ρ' M', Same F1 F' ∧ Sts X.K J F' σ' H' ρ' M' ∧ Wd (i + 1) ρ' M' :=
          fun F5 σ5 H5 ρ5 M5 q5 e5 en5 o5 => ⟨_, by omega, rfl, hlt, F5, ρ5, M5, (e2.trans e3).trans e5, ⟨en5, o5, J.mono _ _ (e3.trans e5) s2.gh⟩, q5⟩
        exact ⟨nxt, k.rt.to ((e1.trans e2).trans e3), fun F5 σ5 H5 ρ5 M5 q5 e5 en5 o5 => k.nx F5 σ5 H5 ρ5 M5 q5 (((e1.trans e2).trans e3).trans e5) en5 o5, nxt⟩
    · have e : i = ds.length := by omega
      subst e
      exact .inl ⟨w.stops H' (e2.trans s2.ok.ex), k.nx F' σ' H' ρ' M' (hd ρ' M' q) (e1.trans e2) s2.en s2.ok⟩
/-- while: the word with its measure -/
theorem g1_while {body : List Stmt} (hp : PassesOwn (model X.prog X.w) X.A X.env X.xe) (Wd : Nat → DEnv → Mem → Prop) (m0 : Nat) (h0 : Wd m0 ρ M)
    (hs : ∀ m ρ' M', Wd m ρ' M' → TX X J c ρ' M' fun t M1 => (t = true → GX X J body ρ' M1 ⟨fun ρ2 M2 => ∃ m', m' < m ∧ Wd m' ρ2 M2, B.rt, B.nx, fun ρ2 M2 => ∃ m', m' < m ∧ Wd m' ρ2 M2⟩) ∧ (t = false → B.nx ρ' M1)) : G1 X J (.While c body [] pos) ρ M B :=
  g1_of (ps_while hp pt_any pss_any) fun F σ H E s k => by
    refine ⟨fun m σ' H' => ∃ F' ρ' M', Same F F' ∧ Sts X.K J F' σ' H' ρ' M' ∧ Wd m ρ' M', ⟨m0, F, ρ, M, Same.refl _, s, h0⟩, ?_⟩
    rintro m σ' H' ⟨F', ρ', M', e2, s2, q⟩
    refine (hs m ρ' M' q).go s2 fun t M1 F1 H1 p e1 o1 => ?_
    cases t with
    | true =>
      refine iteT ⟨fun σ3 H3 => ∃ m', m' < m ∧ ∃ F' ρ' M', Same F F' ∧ Sts X.K J F' σ3 H3 ρ' M' ∧ Wd m' ρ' M', fun _ _ n => n, (p.1 rfl).go (s2.to e1 o1) ?_⟩
      have nxt : ∀ F3 σ3 H3 ρ3 M3, (∃ m', m' < m ∧ Wd m' ρ3 M3) → Same F1 F3 → En X.K F3 σ3 ρ3 → Ok X.K F3 M3 H3 → ∃ m', m' < m ∧ ∃ F' ρ' M', Same F F' ∧ Sts X.K J F' σ3 H3 ρ' M' ∧ Wd m' ρ' M' :=
        fun F3 σ3 H3 ρ3 M3 ⟨m', hm, q3⟩ e3 en3 o3 => ⟨m', hm, F3, ρ3, M3, (e2.trans e1).trans e3, ⟨en3, o3, J.mono _ _ (e1.trans e3) s2.gh⟩, q3⟩
      exact ⟨nxt, k.rt.to (e2.trans e1), fun F5 σ5 H5 ρ5 M5 q5 e5 en5 o5 => k.nx F5 σ5 H5 ρ5 M5 q5 ((e2.trans e1).trans e5) en5 o5, nxt⟩
    | false => exact iteF (k.nx F1 σ' H1 ρ' M1 (p.2 rfl) (e2.trans e1) (s2.en.mono e1) o1)
end
end DX
namespace DX
open PySem PySem.Spec L2

theorem wipe_get (σ : St) (i : Nat) : ∀ vs : List Nat, (wipe σ vs)[i]? = if i ∈ vs then (σ[i]?).map (fun _ => none) else σ[i]?
  | [] => by simp [wipe]
  | v :: vs => by
    unfold wipe
    rw [List.getElem?_set]
    by_cases h : v = i
    · subst h
      rw [if_pos rfl, wipe_length]
      by_cases hl : v < σ.length
      · rw [if_pos hl, if_pos List.mem_cons_self, List.getElem?_eq_getElem hl]; rfl
      · rw [if_neg hl, if_pos List.mem_cons_self, List.getElem?_eq_none (by omega)]; rfl
    · rw [if_neg h, wipe_get σ i vs]
      have e : (i ∈ v :: vs) = (i ∈ vs) := by simp [Ne.symm h]
      simp only [e]
theorem wipe_set {σ : St} {j : Nat} {x : Option V} {vs : List Nat} (h : j ∈ vs) : wipe (σ.set j x) vs = wipe σ vs := by
  apply List.ext_getElem?
  intro i
  rw [wipe_get, wipe_get]
  by_cases hi : i ∈ vs
  · rw [if_pos hi, if_pos hi, List.getElem?_set]
    by_cases hj : j = i
    · subst hj
      rw [if_pos rfl]
      by_cases hl : j < σ.length
      · rw [if_pos hl, List.getElem?_eq_getElem hl]; rfl
      · rw [if_neg hl, List.getElem?_eq_none (by omega)]
    · rw [if_neg hj]
  · rw [if_neg hi, if_neg hi, List.getElem?_set_ne]
    intro z; subst z; exact hi h
theorem wipe_wipe (σ : St) (vs : List Nat) : wipe (wipe σ vs) vs = wipe σ vs := by
  apply List.ext_getElem?
  intro i
  rw [wipe_get, wipe_get]
  by_cases hi : i ∈ vs
  · rw [if_pos hi, if_pos hi]
    cases σ[i]? <;> rfl
  · rw [if_neg hi, if_neg hi]

section
variable {X : Cx} {J : Gh} {e a b c : Expr} {es : List Expr} {st : Stmt} {rest sts : List Stmt} {ρ ρ' : DEnv} {M M' : Mem} {F F' H H' : Hp} {σ : St} {B : Bd} {K : PySem.W.Frag} {pos p apos : Pos} {x : Str} {P : D → Mem → Prop}

/-! ### list comprehensions -/
abbrev Blk (X : Cx) (scope : Scope) : Type := Shared × Hp × Addr × List (Str × Addr) × List Addr
abbrev Blk.cx {X : Cx} {scope : Scope} (b : Blk X scope) : Cx := X.blk b.1 b.2.1 scope (compEnvC scope b.2.2.2.1 b.2.2.1 X.env) b.2.2.2.2
def EXb (X : Cx) (J : Gh) (scope : Scope) (e : Expr) (ρ : DEnv) (M : Mem) (P : D → Mem → Prop) : Prop := ∀ (s : Shared) (H : Hp) (C : Addr) (cl : List (Str × Addr)) (fp : List Addr), EX (X.blk s H scope (compEnvC scope cl C X.env) fp) J e ρ M P
def TXb (X : Cx) (J : Gh) (scope : Scope) (ifs : List Expr) (ρ : DEnv) (M : Mem) (P : Bool → Mem → Prop) : Prop := ∃ t, (∀ (s : Shared) (H : Hp) (C : Addr) (cl : List (Str × Addr)) (fp : List Addr), PTs (X.blk s H scope (compEnvC scope cl C X.env) fp) ifs t) ∧ ∀ F σ H Q, Sts X.K J F σ H ρ M → Kb X.K F P Q → t σ H Q
def AsB (X : Cx) (scope : Scope) (vs : List Nat) (target : Expr) (d : D) (ρ : DEnv) (P : DEnv → Prop) : Prop :=
  ∃ g, (∀ (s : Shared) (H : Hp) (C : Addr) (cl : List (Str × Addr)) (fp : List Addr), PG (X.blk s H scope (compEnvC scope cl C X.env) fp) target g) ∧
    ∀ F M v σ H Q, Ok X.K F M H → Rp X.K F v d → En X.K F σ ρ → (∀ σ' ρ', P ρ' → En X.K F σ' ρ' → wipe σ' vs = wipe σ vs → Q σ' H) → g v σ H Q
def AsBs (X : Cx) (scope : Scope) (vs : List Nat) (ts : List Expr) (ds : List D) (ρ : DEnv) (P : DEnv → Prop) : Prop :=
  ∃ g, (∀ (s : Shared) (H : Hp) (C : Addr) (cl : List (Str × Addr)) (fp : List Addr), PGs (X.blk s H scope (compEnvC scope cl C X.env) fp) ts g) ∧
    ∀ F M xs σ H Q, Ok X.K F M H → Rps X.K F xs ds → En X.K F σ ρ → (∀ σ' ρ', P ρ' → En X.K F σ' ρ' → wipe σ' vs = wipe σ vs → Q σ' H) → g xs σ H Q
def tEb (X : Cx) (scope : Scope) (e : Expr) : TE := fun σ H Q => ∃ t, (∀ (s : Shared) (H : Hp) (C : Addr) (cl : List (Str × Addr)) (fp : List Addr), PE (X.blk s H scope (compEnvC scope cl C X.env) fp) e t) ∧ t σ H Q
def tTb (X : Cx) (scope : Scope) (ifs : List Expr) : TT := fun σ H Q => ∃ t, (∀ (s : Shared) (H : Hp) (C : Addr) (cl : List (Str × Addr)) (fp : List Addr), PTs (X.blk s H scope (compEnvC scope cl C X.env) fp) ifs t) ∧ t σ H Q
def gB (X : Cx) (scope : Scope) (target : Expr) : TG := fun v σ H Q => ∃ g, (∀ (s : Shared) (H : Hp) (C : Addr) (cl : List (Str × Addr)) (fp : List Addr), PG (X.blk s H scope (compEnvC scope cl C X.env) fp) target g) ∧ g v σ H Q
variable {scope : Scope} {tg iter elt : Expr} {ifs : List Expr}
theorem txb_nil {P : Bool → Mem → Prop} (h : P true M) : TXb X J scope [] ρ M P := ⟨tYes, fun _ _ _ _ _ => pts_nil, fun F σ H Q st k => k _ _ _ _ h (Same.refl F) st.ok⟩
theorem txb_one {P : Bool → Mem → Prop} (h : ∀ (s : Shared) (H : Hp) (C : Addr) (cl : List (Str × Addr)) (fp : List Addr), TX (X.blk s H scope (compEnvC scope cl C X.env) fp) J c ρ M P) : TXb X J scope [c] ρ M P :=
  ⟨tT X.K J ρ M P, fun s H C cl fp => pts_one (h s H C cl fp), fun F σ H Q st k => ⟨F, st, k⟩⟩
theorem pe_lcA {own : List (Str × Nat)} (hc : X.calm = true) (hN : X.N.Nodup) (ok : BlkOk X.N X.env.scope scope own) (hs : ∀ x, foldedSetIterable iter X.env x = pure x := by intro _; rfl) :
    PE X (.ListComp elt [⟨tg, iter, ifs, 0⟩] scope pos) (tLc (tIe X tg iter) (gB X scope tg) (tTb X scope ifs) (tEb X scope elt) (own.map (·.2))) :=
  pe_lc hc hN pi_any ok (fun s H C cl fp => ⟨fun pins s' σ H' v u Q I r ⟨g, h, q⟩ => (h s H C cl fp).run pins s' σ H' v u Q I r q⟩)
    (fun s H C cl fp => ⟨fun pins s' σ H' Q I ⟨t, h, q⟩ => (h s H C cl fp).run pins s' σ H' Q I q⟩) (fun s H C cl fp => ⟨fun pins s' σ H' Q I ⟨t, h, q⟩ => (h s H C cl fp).run pins s' σ H' Q I q⟩) hs
theorem asb_name {d : D} {vs : List Nat} {P : DEnv → Prop} (i : Nat) (h : P (put ρ i d)) (hv : i ∈ vs := by decide) (hN : X.N.Nodup := by rfl) (hi : X.N[i]? = some x := by rfl) (hx : ∀ (s : Shared) (H : Hp) (C : Addr) (cl : List (Str × Addr)) (fp : List Addr), Loc (X.blk s H scope (compEnvC scope cl C X.env) fp).env.scope x := by intros; first | exact Or.inl rfl | exact Or.inr rfl)
    (hf : ∀ (s : Shared) (H : Hp) (C : Addr) (cl : List (Str × Addr)) (fp : List Addr), (X.blk s H scope (compEnvC scope cl C X.env) fp).fn x = true ∨ (X.blk s H scope (compEnvC scope cl C X.env) fp).env.scope.names.lookup x = some .local := by intros; first | exact .inr rfl | exact .inl rfl) : AsB X scope vs (.Name x pos) d ρ P :=
  ⟨_, fun s H C cl fp => pg_name (X := X.blk s H scope (compEnvC scope cl C X.env) fp) hN hi (hx s H C cl fp) (hf s H C cl fp), fun F M v σ H Q o r en k => k _ _ h (en.put i r) (wipe_set hv)⟩
theorem asb_nil {vs : List Nat} {P : DEnv → Prop} (h : P ρ) : AsBs X scope vs [] [] ρ P := ⟨_, fun _ _ _ _ _ => pgs_nil, fun F M xs σ H Q o r en k => by cases r; exact ⟨rfl, k _ _ h en rfl⟩⟩
theorem asb_cons {vs : List Nat} {t : Expr} {ts : List Expr} {d : D} {ds : List D} {P : DEnv → Prop} (h : AsB X scope vs t d ρ fun ρ' => AsBs X scope vs ts ds ρ' P)
    (hs : ∀ (s : Shared) (H : Hp) (C : Addr) (cl : List (Str × Addr)) (fp : List Addr), (assignEach (t :: ts) (X.blk s H scope (compEnvC scope cl C X.env) fp).env).map (·.2) = assign t (X.blk s H scope (compEnvC scope cl C X.env) fp).env :: (assignEach ts (X.blk s H scope (compEnvC scope cl C X.env) fp).env).map (·.2) := by intros; rfl) : AsBs X scope vs (t :: ts) (d :: ds) ρ P := by
  obtain ⟨g, hg, h⟩ := h
  refine ⟨_, fun s H C cl fp => pgs_cons (hg s H C cl fp) (⟨fun pins s' σ H' us ws Q I r ⟨g, h, q⟩ => (h s H C cl fp).run pins s' σ H' us ws Q I r q⟩ : PGs (X.blk s H scope (compEnvC scope cl C X.env) fp) ts (fun us σ H Q => ∃ g, (∀ (s : Shared) (H : Hp) (C : Addr) (cl : List (Str × Addr)) (fp : List Addr), PGs (X.blk s H scope (compEnvC scope cl C X.env) fp) ts g) ∧ g us σ H Q)) (hs s H C cl fp), fun F M xs σ H Q o r en k => ?_⟩
  cases r with
  | cons h1 r1 =>
    refine ⟨_, _, rfl, h F M _ σ H _ o h1 en fun σ' ρ' q en' w => ?_⟩
    obtain ⟨g2, hg2, q⟩ := q
    exact ⟨g2, hg2, q F M _ σ' H Q o r1 en' fun σ2 ρ2 q2 en2 w2 => k σ2 ρ2 q2 en2 (w2.trans w)⟩
theorem asb_tup {ds : List D} {k : Nat} {vs : List Nat} {P : DEnv → Prop} (hc : X.calm = true) (h : AsBs X scope vs es ds ρ P)
    (hl : ∀ (s : Shared) (H : Hp) (C : Addr) (cl : List (Str × Addr)) (fp : List Addr), (assignEach es (X.blk s H scope (compEnvC scope cl C X.env) fp).env).length = ds.length := by intros; rfl)
    (hst : ∀ (s : Shared) (H : Hp) (C : Addr) (cl : List (Str × Addr)) (fp : List Addr), (assignEach es (X.blk s H scope (compEnvC scope cl C X.env) fp).env).findIdx? (·.1) = none := by intros; rfl) : AsB X scope vs (.Tuple es k pos) (.tup ds) ρ P := by
  obtain ⟨g, hg, h⟩ := h
  refine ⟨gTup X.K ds.length g, fun s H C cl fp => pg_tup (X := X.blk s H scope (compEnvC scope cl C X.env) fp) hc (hg s H C cl fp) (hl s H C cl fp) (hst s H C cl fp), fun F M v σ H Q o r en k => ?_⟩
  cases r with
  | tup h1 r1 => exact ⟨_, _, rfl, same_t o.ex h1, r1.length, h F M _ σ H Q o r1 en k⟩
/-- [elt for tg in iter if ..]: the word by the turn, what is made so far, the memory (the new list, at Dl, in it while a turn runs) -/
def LcW (X : Cx) (J : Gh) (scope : Scope) (vs : List Nat) (tg : Expr) (ifs : List Expr) (elt : Expr) (ρ : DEnv) (P : D → Mem → Prop) (ds : List D) (M1 : Mem) : Prop := ∃ Wd : Nat → List D → Mem → Prop, Wd 0 [] M1 ∧
  (∀ i d acc M' Dl, ds[i]? = some d → Wd i acc M' → M' Dl = none → acc.length < 1000000 ∧ AsB X scope vs tg d (cuts ρ vs) fun ρ2 =>
    TXb X J scope ifs ρ2 (up M' Dl (.lst acc)) fun t M2 => (t = true → EXb X J scope elt ρ2 M2 fun y M3 => ∃ M4, M4 Dl = none ∧ M3 = up M4 Dl (.lst acc) ∧ Wd (i + 1) (acc ++ [y]) M4) ∧
      (t = false → ∃ M4, M4 Dl = none ∧ M2 = up M4 Dl (.lst acc) ∧ Wd (i + 1) acc M4)) ∧
  ∀ acc M', Wd ds.length acc M' → P (.lst acc) M'
theorem lc_go {vs : List Nat} {Q : VK} (st : Sts X.K J F σ H ρ M) (k : Kt X.K F P Q) (h : IX X J tg iter ρ M (LcW X J scope vs tg ifs elt ρ P)) :
    tLc (tIe X tg iter) (gB X scope tg) (tTb X scope ifs) (tEb X scope elt) vs σ H Q := by
  refine h.go st fun ds I M1 F1 H1 ⟨Wd, h0, hs, hd⟩ e1 o1 w Dl hD => ?_
  have hm1 := o1.nn hD
  refine ⟨fun i m H2 => m = ds.length - i ∧ i ≤ ds.length ∧ ∃ F' M' acc xs, Same F1 F' ∧ Ok X.K F' (up M' Dl (.lst acc)) H2 ∧ M' Dl = none ∧ H2 Dl = some (.lst xs) ∧ Wd i acc M', ⟨ds.length, by simp, Nat.zero_le _, F1, M1, [], [], Same.refl _, o1.lay hD ⟨[], upd_same, .nil⟩, hm1.2, upd_same, h0⟩, ?_⟩
  rintro i m H2 ⟨rfl, hi, F', M', acc, xs, e2, o2, hn, hx, q⟩
  by_cases hlt : i < ds.length
  · refine .inr ⟨w.goes i H2 hlt (e2.trans o2.ex), fun H3 => ∃ m', m' < ds.length - i ∧ m' = ds.length - (i + 1) ∧ i + 1 ≤ ds.length ∧ ∃ F' M' acc xs, Same F1 F' ∧ Ok X.K F' (up M' Dl (.lst acc)) H3 ∧ M' Dl = none ∧ H3 Dl = some (.lst xs) ∧ Wd (i + 1) acc M', fun H3 n3 => n3, fun x H3 y => ?_⟩
    obtain ⟨F3, e3, o3, r3⟩ := w.yields i ds[i] H2 x H3 F' _ (by simp [hlt]) e2 o2 y
    obtain ⟨ha, g, hg, hgo⟩ := hs i ds[i] acc M' Dl (by simp [hlt]) q hn
    have en3 : En X.K F3 (wipe σ vs) (cuts ρ vs) := (((st.en.cuts vs).mono e1).mono e2).mono e3
    refine ⟨g, hg, hgo F3 _ x _ H3 _ o3 r3 en3 fun σ4 ρ4 q4 en4 w4 => ⟨w4.trans (wipe_wipe σ vs), ?_⟩⟩
    obtain ⟨t, ht, q4⟩ := q4
    refine ⟨t, ht, q4 F3 σ4 H3 _ ⟨en4, o3, J.mono _ _ ((e1.trans e2).trans e3) st.gh⟩ fun tb M5 F5 H5 q5 e5 o5 => ?_⟩
    have fin : ∀ F6 M6 acc6 H6, Same F5 F6 → M6 Dl = none → Ok X.K F6 (up M6 Dl (.lst acc6)) H6 → Wd (i + 1) acc6 M6 → ∃ m', m' < ds.length - i ∧ m' = ds.length - (i + 1) ∧ i + 1 ≤ ds.length ∧ ∃ F' M' acc xs, Same F1 F' ∧ Ok X.K F' (up M' Dl (.lst acc)) H6 ∧ M' Dl = none ∧ H6 Dl = some (.lst xs) ∧ Wd (i + 1) acc M' := by
      intro F6 M6 acc6 H6 e6 n6 o6 q6
      obtain ⟨_, xs6, h6, _⟩ := o6.mt Dl _ up_same
      exact ⟨_, by omega, rfl, hlt, F6, M6, acc6, xs6, ((e2.trans e3).trans e5).trans e6, o6, n6, h6, q6⟩
    cases tb with
    | true =>
      refine iteT ⟨tD X.K J ρ4 M5 _, q5.1 rfl, F5, ⟨en4.mono e5, o5, J.mono _ _ (((e1.trans e2).trans e3).trans e5) st.gh⟩, fun y v M7 F7 H7 ⟨M4, n4, e4, q7⟩ e7 o7 r7 => ?_⟩
      subst e4
      obtain ⟨_, ys, hy, ry⟩ := o7.mt Dl _ up_same
      refine ⟨ys, hy, by rw [ry.length, sizeLine_eq]; omega, fin F7 M4 (acc ++ [y]) _ e7 n4 ?_ q7⟩
      have := o7.set (o := .lst (ys ++ [v])) (d' := .lst (acc ++ [y])) up_same ⟨_, upd_same, ry.append (.cons r7 .nil)⟩
      rwa [up_up] at this
    | false =>
      obtain ⟨M4, n4, e4, q7⟩ := q5.2 rfl
      subst e4
      exact iteF (fin F5 M4 acc H5 (Same.refl _) n4 o5 q7)
  · have e : i = ds.length := by omega
    subst e
    obtain ⟨_, ys, hy, ry⟩ := o2.mt Dl _ up_same
    obtain ⟨s1, o4⟩ := o2.freeze up_same hy
    rw [rm_up hn] at o4
    exact .inl ⟨w.stops H2 (e2.trans o2.ex), k _ _ _ _ _ (hd acc M' q) ((e1.trans e2).trans s1) o4 (.lst upd_same (ry.mono s1))⟩
theorem ex_lc {own : List (Str × Nat)} (hc : X.calm = true) (h : IX X J tg iter ρ M (LcW X J scope (own.map (·.2)) tg ifs elt ρ P)) (hN : X.N.Nodup := by rfl) (ok : blkC X.N X.env.scope scope own = true := by rfl) (hs : ∀ x, foldedSetIterable iter X.env x = pure x := by intro _; rfl) :
    EX X J (.ListComp elt [⟨tg, iter, ifs, 0⟩] scope pos) ρ M P :=
  ex_of (pe_lcA hc hN (blkOk_by ok) hs) fun F σ H Q st k => lc_go st k h
theorem g1_lc {y : Str} {py : Pos} {spos : Pos} {own : List (Str × Nat)} (i : Nat) (hc : X.calm = true) (h : IX X J tg iter ρ M (LcW X J scope (own.map (·.2)) tg ifs elt ρ fun d M1 => B.nx (put ρ i d) M1)) (hN : X.N.Nodup := by rfl) (hy : X.N[i]? = some y := by rfl) (hyl : X.env.scope.names.lookup y = some .local := by rfl)
    (hsw : swapsWith (.ListComp elt [⟨tg, iter, ifs, 0⟩] scope pos) (some (.Name y py)) spos.line X.env = pure true := by rfl) (ok : blkC X.N X.env.scope scope own = true := by rfl) (hs : ∀ x, foldedSetIterable iter X.env x = pure x := by intro _; rfl) :
    G1 X J (.Assign [.Name y py] (.ListComp elt [⟨tg, iter, ifs, 0⟩] scope pos) spos) ρ M B :=
  g1_of (ps_setLc hc hN hy hyl hsw pi_any (blkOk_by ok) (fun s H C cl fp => ⟨fun pins s' σ H' v u Q I r ⟨g, h, q⟩ => (h s H C cl fp).run pins s' σ H' v u Q I r q⟩)
    (fun s H C cl fp => ⟨fun pins s' σ H' Q I ⟨t, h, q⟩ => (h s H C cl fp).run pins s' σ H' Q I q⟩) (fun s H C cl fp => ⟨fun pins s' σ H' Q I ⟨t, h, q⟩ => (h s H C cl fp).run pins s' σ H' Q I q⟩) hs)
    fun F σ H E st k => lc_go st (P := fun d M1 => B.nx (put ρ i d) M1) (fun d v M' F' H' q e o r => k.nx F' _ H' _ M' q e ((st.en.mono e).put i r) o) h

/-! ### calls of defs -/
abbrev Tr := List D → Mem → (D → Mem → Prop) → Prop
def SpD (K : PySem.W.Frag) (T : Tr) : Sp := fun vs H Q _ => ∃ F M ds P, Ok K F M H ∧ Rps K F vs ds ∧ T ds M P ∧ Kt K F P Q
theorem ex_call {k : Nat} {f : Addr} {fd : FuncData} {ps : List Str} {T : Tr} {dvs : List V} {dds : List D} {ds : List Value} (G : FnOk X.prog X.w X.K X.mg X.base CX0 k f fd ps (SpD X.K T)) (hr : Room k X.A) (hm : X.mg x = some (.ref f)) (hk : PySem.W.keepIn X.K (.ref f) = true)
    (hb : Binds X.K fd ps ds) (hd : Vals dvs ds) (hdd : ∀ F, Rps X.K F dvs dds) (h : AX X J (e :: es) ρ M fun ds M1 => T (ds ++ dds) M1 P) (hg : Gl X x := by rfl) (hdb : (x == ("__debug__" : Str)) = false := by decide)
    (he : starEach (e :: es) X.env = (false, eval e X.env) :: starEach es X.env := by rfl) (hpl : (backTo pos (starEach es X.env)).any (·.1) = false := by rfl) : EX X J (.Call (.Name x p) (e :: es) [] pos) ρ M P :=
  ex_of (pe_call (E := E0) G hr hg hm hk hb hd pass0 pa_any hdb he hpl) fun F σ H Q st k => h.go st fun ds vs M1 F1 H1 q e1 o1 r1 => ⟨F1, M1, _, P, o1, r1.append (hdd F1), q, k.to e1⟩
theorem ex_call0 {k : Nat} {f : Addr} {fd : FuncData} {ps : List Str} {T : Tr} {dvs : List V} {dds : List D} {ds : List Value} (G : FnOk X.prog X.w X.K X.mg X.base CX0 k f fd ps (SpD X.K T)) (hr : Room k X.A) (hm : X.mg x = some (.ref f)) (hk : PySem.W.keepIn X.K (.ref f) = true)
    (hb : Binds X.K fd ps ds) (hd : Vals dvs ds) (hdd : ∀ F, Rps X.K F dvs dds) (h : T dds M P) (hg : Gl X x := by rfl) (hdb : (x == ("__debug__" : Str)) = false := by decide) : EX X J (.Call (.Name x p) [] [] pos) ρ M P :=
  ex_of (pe_call0 (E := E0) G hr hg hm hk hb hd pass0 hdb) fun F σ H Q st k => ⟨F, M, dds, P, st.ok, by simpa using hdd F, h, k⟩
/-- a def by its body -/
theorem fn_okD {P' : Program} {w : World} {K : PySem.W.Frag} {mg : Str → Option Value} {base : Heap} {x qual : Str} {params : Arguments} {body : List Stmt} {scope : Scope} {dvs : List V} {kws : List (Str × V)} {f : Addr} {fd : FuncData} {N ps : List Str} {k : Nat} {T : Tr}
    (F : FunD K x qual params body scope dvs kws f fd) (S : FnScope N ps scope) (len : ∀ ds M P, T ds M P → ds.length = ps.length)
    (hbody : ∀ (cdv : Value) (A : Around) (outer : List PySem.Env) (s : Shared) (H : Hp) (ds : List D) (M : Mem) (P : D → Mem → Prop), Room k (A.deeper (PyProof.Rows.envOfC qual scope s.heap.objs.size f cdv)) → T ds M P →
      GX (cxOf CX0 P' w K mg base N qual scope f cdv A outer s H E0).nox Gh.triv body (startD (N.length - ps.length) ds) M ⟨fun _ M' => P .non M', P, fun _ _ => False, fun _ _ => False⟩) : FnOk P' w K mg base CX0 (k + 1) f fd ps (SpD K T) := by
  refine F.ok S (fun vs H Q E ⟨F0, M, ds, P, o, r, t, q⟩ => by rw [r.length]; exact len ds M P t) (fun cdv A outer s H vs Q E hr h => ?_)
  obtain ⟨F0, M, ds, P, o, r, t, q⟩ := h
  have hb := hbody cdv A outer s H ds M P hr t
  refine ⟨_, PSs.nox (X := cxOf CX0 P' w K mg base N qual scope f cdv A outer s H E) (show PSs (cxOf CX0 P' w K mg base N qual scope f cdv A outer s H E).nox body _ from hb), F0, ⟨?_, o, trivial⟩, ⟨fun F' σ' H' ρ' M' p e en o' => ?_, q, fun F' σ' H' ρ' M' p => p.elim, fun F' σ' H' ρ' M' p => p.elim⟩⟩
  · have hl : vs.length = ps.length := by rw [r.length]; exact len ds M P t
    unfold L2.start
    rw [hl]
    exact En.start _ r
  · exact q _ _ _ _ _ p e o' .non

/-! ### built-in calls -/
def rAnyC (X : Cx) (f : Value) : List V → Hp → VK → Prop := fun vs H Q => ∃ r, CallR X f r ∧ r vs H Q
theorem cr_anyR {f : Value} : CallR X f (rAnyC X f) := fun pins s σ H vs us Q I r ⟨t, h, q⟩ => h pins s σ H vs us Q I r q
def CD (X : Cx) (f : Value) (ds : List D) (M : Mem) (P : D → Mem → Prop) : Prop :=
  ∃ r, CallR X f r ∧ ∀ F H vs Q, Ok X.K F M H → Rps X.K F vs ds → Kt X.K F P Q → r vs H Q
theorem ex_blt {id : String} (hm : X.mg x = none) (hv : bootBuiltins x = some (.builtin id)) (h : AX X J (e :: es) ρ M fun ds M1 => CD X (.builtin id) ds M1 P) (hg : Gl X x := by rfl) (hn : x ≠ "__name__" := by decide) (hdb : (x == ("__debug__" : Str)) = false := by decide)
    (he : starEach (e :: es) X.env = (false, eval e X.env) :: starEach es X.env := by rfl) (hpl : (backTo pos (starEach es X.env)).any (·.1) = false := by rfl) : EX X J (.Call (.Name x p) (e :: es) [] pos) ρ M P :=
  ex_of (pe_callB cr_anyR hg hm hv pa_any hn hdb he hpl) fun F σ H Q st k => h.go st fun ds vs M1 F1 H1 q e1 o1 r1 => by
    obtain ⟨r, h1, h2⟩ := q
    exact ⟨r, h1, h2 F1 H1 vs Q o1 r1 (k.to e1)⟩
theorem ex_ty {T : String} (hm : X.mg x = none) (hv : bootBuiltins x = some (.type T)) (h : AX X J (e :: es) ρ M fun ds M1 => CD X (.type T) ds M1 P) (hg : Gl X x := by rfl) (hn : x ≠ "__name__" := by decide) (hdb : (x == ("__debug__" : Str)) = false := by decide)
    (he : starEach (e :: es) X.env = (false, eval e X.env) :: starEach es X.env := by rfl) (hpl : (backTo pos (starEach es X.env)).any (·.1) = false := by rfl) : EX X J (.Call (.Name x p) (e :: es) [] pos) ρ M P :=
  ex_of (pe_callTy cr_anyR hg hm hv pa_any hn hdb he hpl) fun F σ H Q st k => h.go st fun ds vs M1 F1 H1 q e1 o1 r1 => by
    obtain ⟨r, h1, h2⟩ := q
    exact ⟨r, h1, h2 F1 H1 vs Q o1 r1 (k.to e1)⟩
theorem bb_len : bootBuiltins "len" = some (.builtin "len") := by decide +kernel
theorem bb_abs : bootBuiltins "abs" = some (.builtin "abs") := by decide +kernel
theorem bb_repr : bootBuiltins "repr" = some (.builtin "repr") := by decide +kernel
theorem bb_isi : bootBuiltins "isinstance" = some (.builtin "isinstance") := by decide +kernel
theorem bb_min : bootBuiltins "min" = some (.builtin "min") := by decide +kernel
theorem bb_max : bootBuiltins "max" = some (.builtin "max") := by decide +kernel
theorem bb_sum : bootBuiltins "sum" = some (.builtin "sum") := by decide +kernel
theorem bb_all : bootBuiltins "all" = some (.builtin "all") := by decide +kernel
theorem bb_any : bootBuiltins "any" = some (.builtin "any") := by decide +kernel
theorem bb_int : bootBuiltins "int" = some (.type "int") := by decide +kernel
theorem bb_str : bootBuiltins "str" = some (.type "str") := by decide +kernel
theorem bb_list : bootBuiltins "list" = some (.type "list") := by decide +kernel
theorem bb_tuple : bootBuiltins "tuple" = some (.type "tuple") := by decide +kernel
theorem cd_len {d : D} {ds : List D} (s : Sq M d ds) (q : P (.int (ds.length : Int)) M) : CD X (.builtin "len") [d] M P :=
  ⟨_, call_len_seq, fun F H vs Q o r k => by
    cases r with
    | cons h1 r =>
      cases r
      obtain ⟨a, xs, rfl, h2, r2⟩ := s.get o h1
      refine ⟨a, xs, rfl, h2, ?_⟩
      rw [r2.length]
      exact k.here q o (.int _)⟩
theorem cd_lenS {z : Str} (hz : z.length ≤ 1000000) (q : P (.int (z.length : Int)) M) : CD X (.builtin "len") [.str z] M P :=
  ⟨_, call_len_str, fun F H vs Q o r k => by
    cases r with
    | cons h1 r =>
      cases r
      cases h1
      exact ⟨z, rfl, by rw [sizeLine_eq]; omega, k.here q o (.int _)⟩⟩
theorem cd_list {d : D} {ds : List D} (s : Sq M d ds) (q : P (.lst ds) M) : CD X (.type "list") [d] M P :=
  ⟨_, call_list_of, fun F H vs Q o r k => by
    cases r with
    | cons h1 r =>
      cases r
      obtain ⟨a, xs, rfl, h2, r2⟩ := s.get o h1
      exact ⟨a, xs, rfl, h2, fun l hl => k _ _ _ _ _ q (o.fixSame hl) (o.fix hl) (.lst upd_same (r2.mono (o.fixSame hl)))⟩⟩
theorem cd_tuple {d : D} {ds : List D} (s : Sl M d ds) (q : P (.tup ds) M) : CD X (.type "tuple") [d] M P :=
  ⟨_, call_tuple_of, fun F H vs Q o r k => by
    cases r with
    | cons h1 r =>
      cases r
      obtain ⟨a, xs, rfl, h2, r2⟩ := s.get o h1
      exact ⟨a, xs, rfl, .inl ⟨SqL.of h2, fun l hl => k _ _ _ _ _ q (o.fixSame hl) (o.fix hl) (.tup (SqT.of upd_same) (r2.mono (o.fixSame hl)))⟩⟩⟩
theorem cd_tupleT {ds : List D} (q : P (.tup ds) M) : CD X (.type "tuple") [.tup ds] M P :=
  ⟨_, call_tuple_of, fun F H vs Q o r k => by
    cases r with
    | cons h1 r =>
      cases r
      cases h1 with
      | tup h2 r2 => exact ⟨_, _, rfl, .inr ⟨same_t o.ex h2, k.here q o (.tup h2 r2)⟩⟩⟩
theorem cd_intB {t : Bool} (q : P (.int (if t = true then 1 else 0)) M) : CD X (.type "int") [.bl t] M P :=
  ⟨_, call_int1, fun F H vs Q o r k => by
    cases r with
    | cons h1 r =>
      cases r
      cases h1
      exact .inr ⟨t, rfl, k.here q o (.int _)⟩⟩
theorem cd_intI {t : Int} (q : P (.int t) M) : CD X (.type "int") [.int t] M P :=
  ⟨_, call_int1, fun F H vs Q o r k => by
    cases r with
    | cons h1 r =>
      cases r
      cases h1
      exact .inl ⟨t, rfl, k.here q o (.int _)⟩⟩
theorem cd_abs {t : Int} (q : P (.int (if t < 0 then -t else t)) M) : CD X (.builtin "abs") [.int t] M P :=
  ⟨_, call_abs, fun F H vs Q o r k => by
    cases r with
    | cons h1 r =>
      cases r
      cases h1
      exact ⟨t, rfl, k.here q o (.int _)⟩⟩
/-! ### == and repr of data -/
mutual
def D.py : D → Option PyData
  | .non => some .none
  | .bl b => some (.bool b)
  | .int i => some (.int i)
  | .str x => some (.str x)
  | .tup ds => (pys ds).map .tuple
  | .lst ds => (pys ds).map .list
  | _ => none
def pys : List D → Option (List PyData)
  | [] => some []
  | d :: ds => (D.py d).bind fun z => (pys ds).map fun zs => z :: zs
end
mutual
theorem Rp.dp (hs : Same F H) : ∀ {d : D} {v : V} {z : PyData}, Rp K F v d → d.py = some z → Dp K H v z
  | .non, _, z, .non, e => by simp [D.py] at e; subst e; exact .non
  | .bl b, _, z, .bl _, e => by simp [D.py] at e; subst e; exact .bl b
  | .int i, _, z, .int _, e => by simp [D.py] at e; subst e; exact .int i
  | .str x, _, z, .str _, e => by simp [D.py] at e; subst e; exact .str x
  | .tup ds, _, z, .tup h r, e => by
    rw [D.py] at e
    obtain ⟨zs, h1, rfl⟩ := Option.map_eq_some_iff.mp e
    exact .tup (same_t hs h) (Rps.dps hs r h1)
  | .lst ds, _, z, .lst h r, e => by
    rw [D.py] at e
    obtain ⟨zs, h1, rfl⟩ := Option.map_eq_some_iff.mp e
    exact .lst (SqL.of (hs _ _ h)) (Rps.dps hs r h1)
  | .adr _, _, z, _, e => by simp [D.py] at e
  | .ty _, _, z, _, e => by simp [D.py] at e
  | .ins _ _, _, z, _, e => by simp [D.py] at e
  | .scr _, _, z, _, e => by simp [D.py] at e
  | .dct _, _, z, _, e => by simp [D.py] at e
  | .stup _, _, z, _, e => by simp [D.py] at e
theorem Rps.dps (hs : Same F H) : ∀ {ds : List D} {vs : List V} {zs : List PyData}, Rps K F vs ds → pys ds = some zs → DpAll K H vs zs
  | [], _, zs, .nil, e => by simp [pys] at e; subst e; exact .nil
  | d :: ds, _, zs, .cons h r, e => by
    rw [pys] at e
    obtain ⟨z, h1, e⟩ := Option.bind_eq_some_iff.mp e
    obtain ⟨ws, h2, rfl⟩ := Option.map_eq_some_iff.mp e
    exact .cons (Rp.dp hs h h1) (Rps.dps hs r h2)
end
theorem od_eqD {d1 d2 : D} {z1 z2 : PyData} (hu : X.A.units + 64 < cLine) (h1 : d1.py = some z1) (h2 : d2.py = some z2) (s1 : SeqAt.shaped z1 = true) (s2 : SeqAt.shaped z2 = true) (q : P (.bl (PyData.eqv z1 z2)) M) : OD X (compareOp .Eq) d1 d2 M P :=
  ⟨_, op_eqD hu, fun F H v u Q o rx ry k => ⟨z1, z2, rx.dp o.ex h1, ry.dp o.ex h2, s1, s2, k.here q o (.bl _)⟩⟩
theorem od_neD {d1 d2 : D} {z1 z2 : PyData} (hu : X.A.units + 64 < cLine) (h1 : d1.py = some z1) (h2 : d2.py = some z2) (s1 : SeqAt.shaped z1 = true) (s2 : SeqAt.shaped z2 = true) (q : P (.bl (!PyData.eqv z1 z2)) M) : OD X (compareOp .NotEq) d1 d2 M P :=
  ⟨_, op_neD hu, fun F H v u Q o rx ry k => ⟨z1, z2, rx.dp o.ex h1, ry.dp o.ex h2, s1, s2, k.here q o (.bl _)⟩⟩
end
end DX
namespace DX
open PySem PySem.Spec L2

/-! ### defs that are called where no guard stands: what repr asks -/
structure FnG (pg : Program) (w : World) (K : PySem.W.Frag) (mg : Str → Option Value) (base : Heap) (k : Nat) (f : Addr) (fd : FuncData) (ps : List Str) (T : Tr) : Prop where
  len : ∀ ds M P, T ds M P → ds.length = ps.length
  go : ∀ (A : Around) (outer : List PySem.Env) (s : Shared) (H F : Hp) (M : Mem) (ds : List D) (P : D → Mem → Prop) (args : Args) (us : List Value) (vs : List V) (Q : VK), A.guards = some [] → Room k A → Env0 pg w K mg base A outer s H →
    BindsTo s fd args (ps.zip us) → Vals vs us → Ok K F M H → Rps K F vs ds → T ds M P → Kt K F P Q → codeAny (model pg w) A (.call (.ref f) args) (CR CX0 outer pg w H s Q E0) s
theorem FnG.mono {pg : Program} {w : World} {K : PySem.W.Frag} {mg : Str → Option Value} {base : Heap} {j k : Nat} {f : Addr} {fd : FuncData} {ps : List Str} {T : Tr} (G : FnG pg w K mg base j f fd ps T) (h : j ≤ k) : FnG pg w K mg base k f fd ps T :=
  ⟨G.len, fun A outer s H F M ds P args us vs Q g hr => G.go A outer s H F M ds P args us vs Q g (hr.mono h)⟩
section
variable {X : Cx} {J : Gh} {e a b c : Expr} {es : List Expr} {ρ ρ' : DEnv} {M M' : Mem} {F F' H H' : Hp} {σ : St} {B : Bd} {K : PySem.W.Frag} {pos p apos : Pos} {x : Str} {P : D → Mem → Prop}
theorem run_fnG {k : Nat} {f : Addr} {fd : FuncData} {ps : List Str} {T : Tr} {dvs : List V} {dds : List D} {dus : List Value} {pins : List (Addr × Obj)} {s : Shared} {Q : VK} {us : List Value} {vs : List V} {ds : List D} (G : FnG X.prog X.w X.K X.mg X.base k f fd ps T) (hg : X.A.guards = some []) (hr : Room k X.A)
    (hb : Binds X.K fd ps dus) (hd : Vals dvs dus) (hdd : ∀ F, Rps X.K F dvs dds) (I : L2.Inv X pins σ H s) (r : Vals vs us) (o : Ok X.K F M H) (rd : Rps X.K F vs ds) (t : T (ds ++ dds) M P) (kt : Kt X.K F P Q) :
    wpAny (model X.prog X.w) X.A (call (.ref f) us) (EP X pins σ Q) X.xe s := by
  have both : Vals (vs ++ dvs) (us ++ dus) := r.append hd
  have size : (us ++ dus).length = ps.length := by rw [← both.length, (rd.append (hdd F)).length]; exact G.len _ _ _ t
  refine wpAny_call (codeAny_mono (G.go X.A X.stack s H F M _ P ⟨us, []⟩ (us ++ dus) (vs ++ dvs) Q hg hr I.env0 (hb s us I.kIn size) both o (rd.append (hdd F)) t kt) fun res s' end_ => ?_)
  match res, end_ with
  | .error _, end_ => exact end_.elim
  | .ok (.ret _), end_ => exact I.after end_
  | .ok .next, end_ => exact end_.elim
  | .ok .brk, end_ => exact end_.elim
  | .ok .cont, end_ => exact end_.elim
/-- f(e, ..) -/
theorem ex_callG {k : Nat} {f : Addr} {fd : FuncData} {ps : List Str} {T : Tr} {dvs : List V} {dds : List D} {dus : List Value} (G : FnG X.prog X.w X.K X.mg X.base k f fd ps T) (hgd : X.A.guards = some []) (hr : Room k X.A) (hm : X.mg x = some (.ref f)) (hk : PySem.W.keepIn X.K (.ref f) = true)
    (hb : Binds X.K fd ps dus) (hd : Vals dvs dus) (hdd : ∀ F, Rps X.K F dvs dds) (h : AX X J (e :: es) ρ M fun ds M1 => T (ds ++ dds) M1 P) (hg : Gl X x := by rfl) (hdb : (x == ("__debug__" : Str)) = false := by decide)
    (he : starEach (e :: es) X.env = (false, eval e X.env) :: starEach es X.env := by rfl) (hpl : (backTo pos (starEach es X.env)).any (·.1) = false := by rfl) : EX X J (.Call (.Name x p) (e :: es) [] pos) ρ M P := by
  refine ⟨fun pins s σ H Q I ⟨F, st, kt⟩ => wpAny_Call_Name_kw (ld_glob I hg hm (PySem.W.callWith_K (h₀ := X.base) I.ok.mod.kin hk (thn ((pa_any (X := X) (es := e :: es)).run pos pins s σ H (fun vs H1 => ∃ F1 M1 ds, Same F F1 ∧ Ok X.K F1 M1 H1 ∧ Rps X.K F1 vs ds ∧ T (ds ++ dds) M1 P) I
    (h.go st fun ds vs M1 F1 H1 q e1 o1 r1 => ⟨F1, M1, ds, e1, o1, r1, q⟩)) fun us s1 ⟨vs, H1, I1, r, F1, M1, ds, e1, o1, rd, t⟩ => ⟨I1.kIn, run_fnG G hgd hr hb hd hdd I1 r o1 rd t (kt.to e1)⟩) he hpl) hdb)⟩
end
/-- a def by its body -/
theorem fn_okG {pg : Program} {w : World} {K : PySem.W.Frag} {mg : Str → Option Value} {base : Heap} {x qual : Str} {params : Arguments} {body : List Stmt} {scope : Scope} {dvs : List V} {kws : List (Str × V)} {f : Addr} {fd : FuncData} {N ps : List Str} {k : Nat} {T : Tr}
    (F : FunD K x qual params body scope dvs kws f fd) (S : FnScope N ps scope) (len : ∀ ds M P, T ds M P → ds.length = ps.length)
    (hbody : ∀ (cdv : Value) (A : Around) (outer : List PySem.Env) (s : Shared) (H : Hp) (ds : List D) (M : Mem) (P : D → Mem → Prop), A.guards = some [] → Room k (A.deeper (PyProof.Rows.envOfC qual scope s.heap.objs.size f cdv)) → T ds M P →
      GX (cxOf CX0 pg w K mg base N qual scope f cdv A outer s H E0).nox Gh.triv body (startD (N.length - ps.length) ds) M ⟨fun _ M' => P .non M', P, fun _ _ => False, fun _ _ => False⟩) : FnG pg w K mg base (k + 1) f fd ps T := by
  obtain ⟨oc, od, dV, kV, doc, pm, an, cdv, ct, osl, rfl, lk, hcd, _, _⟩ := F.ex
  refine ⟨len, fun A outer s H F0 M ds P args us vs Q hg hr e0 hb rv o rd t kt => ?_⟩
  have many : vs.length = ps.length := by rw [rd.length]; exact len ds M P t
  have here : K.In s.heap := e0.mod.kin.keeps fun ad ob z => (e0.bs ad ob z).1
  have free : s.heap.NoLimit := e0.mod.nolimit.keeps fun ad ob z => (e0.bs ad ob z).1
  have kinds : ∀ q ∈ ps.zip us, scope.names.lookup q.1 = some .local ∨ (scope.names.lookup q.1 = some .cell ∧ ((PySem.cellsFrom (s.heap.objs.size + 1) scope.names []).lookup q.1).isSome = true) := by
    rintro ⟨n, v⟩ hq
    exact (S.par n (List.of_mem_zip hq).1).imp id fun z => ⟨z, PySem.W.cellsFrom_some _ _ _ (.inl z)⟩
  refine codeAny_call_function hr.depth (here _ _ lk) rfl S.co S.gen rfl (PySem.W.codeRec_of here hcd) (hb _ _ _ _ (wpAny_newFunctionEnv_cells S.kind kinds fun env hen s1 inside => ?_))
  subst hen
  refine ⟨free.keeps inside.toInCall.keep, codeAny_func ?_⟩
  have body_ := hbody cdv A outer s H ds M P hg (hr.deeper _) t
  have J0 : L2.Inv (cxOf CX0 pg w K mg base N qual scope f cdv A outer s H E0) [] (L2.start N vs) H s1 := inv_start S hr.hd e0 many rv inside
  have en : En K F0 (L2.start N vs) (startD (N.length - ps.length) ds) := by
    unfold L2.start
    rw [many]
    exact En.start _ rd
  have kd : Kd K F0 ⟨fun _ M' => P .non M', P, fun _ _ => False, fun _ _ => False⟩ { nx := fun _ H' => Q .non H', rt := Q } :=
    ⟨fun F' σ' H' ρ' M' q z1 z2 z3 => kt _ _ _ _ _ q z1 z3 .non, kt, fun F' σ' H' ρ' M' q => q.elim, fun F' σ' H' ρ' M' q => q.elim⟩
  refine wpAny_mono ((PSs.nox (X := cxOf CX0 pg w K mg base N qual scope f cdv A outer s H E0) (show PSs (cxOf CX0 pg w K mg base N qual scope f cdv A outer s H E0).nox body _ from body_)).run [] s1 (L2.start N vs) H _ J0 ⟨F0, ⟨en, o, trivial⟩, kd⟩) (fun fl s' q => ?_) fun er s' q => q
  match fl, q with
  | .ret u, ⟨v, σ', H', I, r, q⟩ => exact ⟨v, H', I.os, I.bare, I.base, I.hok, r, q⟩
  | .next, ⟨σ', H', I, q⟩ => exact ⟨V.non, H', I.os, I.bare, I.base, I.hok, rfl, q⟩
  | .brk, ⟨_, _, _, q⟩ => exact q.elim
  | .cont, ⟨_, _, _, q⟩ => exact q.elim

/-! ### the law's own call -/
/-- the script is handed in as a list that is known to its object, or one of the module's -/
theorem law_goG {pg : Program} {w : World} {K : PySem.W.Frag} {mg mb : Str → Option Value} {k : Nat} {fa a : Addr} {fd : FuncData} {x : Str} {T : Tr} {s1 : Shared} {vs : List Value} {ns : List Int}
    (KX : K.In s1.heap) (gN : s1.heap.Ns mainGlobals mg) (bN : s1.heap.Ns builtinsNs mb) (bA : ∀ y : Str, y ≠ "__name__" → mb y = bootBuiltins y) (lim : s1.heap.NoLimit) (gens : s1.gens = #[])
    (ha : s1.heap.get? a = some { cls := .type "list", data := .seq vs.toArray }) (hi : PyProof.Rows.IntsAre vs ns) (hl : ns.length ≤ sizeLine) (hr : Room k callerA)
    (G : ∀ base : Heap, K.In base → base.Ns mainGlobals mg → FnG pg w K mg base k fa fd [x] T) (hb : ∀ (s : Shared) (u : Value), BindsTo s fd ⟨[u], []⟩ [(x, u)])
    (ht : ∀ H : Hp, SqL K H a (ns.map V.int) → ∃ F M ds, Ok K F M H ∧ Rps K F [.ref a] ds ∧ T ds M fun d _ => d = .bl true) :
    codeAny (model pg w) callerA (.call (.ref fa) ⟨[.ref a], []⟩) (fun r s' => r = .ok (.ret (.bool true)) ∧ OldK s1.heap s'.heap ∧ s'.os = s1.os ∧ PyProof.Rows.AllBare s'.gens) s1 := by
  have vals := vals_ints hi
  have main : ∀ H : Hp, (∀ b u, H b = some u → b = a ∧ K.lookup a = none ∧ u = .frz { cls := .type "list", data := .seq vs.toArray } (.lst (ns.map V.int))) → SqL K H a (ns.map V.int) → HOk pg w H s1.heap →
      codeAny (model pg w) callerA (.call (.ref fa) ⟨[.ref a], []⟩) (fun r s' => r = .ok (.ret (.bool true)) ∧ OldK s1.heap s'.heap ∧ s'.os = s1.os ∧ PyProof.Rows.AllBare s'.gens) s1 := by
    intro H only seq hok
    have kept : ∀ {b : Addr} {m : Str → Option Value}, s1.heap.Ns b m → (hidT s1.heap H).Ns b m := by
      rintro b m ⟨ob, es, ep, h1, h2, h3⟩
      refine ⟨ob, es, ep, hidT_get h1 ?_, h2, h3⟩
      cases q : H b with
      | none => rfl
      | some u =>
        obtain ⟨rfl, _, _⟩ := only b u q
        rw [ha] at h1; cases h1
        cases h2
    have kin : K.In (hidT s1.heap H) := by
      intro b ob h1
      refine hidT_get (KX b ob h1) ?_
      cases q : H b with
      | none => rfl
      | some u =>
        obtain ⟨rfl, h2, _⟩ := only b u q
        rw [h2] at h1; cases h1
    have start_ : Env0 pg w K mg (hidT s1.heap H) callerA [] s1 H :=
      ⟨rfl, ⟨kin, kept gN, ⟨mb, kept bN, bA⟩, let ⟨mc, z1, z2⟩ := lim; ⟨mc, kept z1, z2⟩⟩, fun b ob z => of_hidT z, Nat.le_of_eq (hidT_size _ _), trivial, fun b z => (List.not_mem_nil z).elim, hok, .of_eq gens⟩
    obtain ⟨F, M, ds, o, rd, t⟩ := ht H seq
    refine codeAny_mono ((G _ kin (kept gN)).go callerA [] s1 H F M ds _ ⟨[.ref a], []⟩ [.ref a] [.ref a] (fun v _ => v = .bl true) rfl hr start_ (hb s1 (.ref a)) (.cons rfl .nil) o rd t fun d v M' F' H' z1 _ _ z2 => by subst z1; cases z2; rfl) fun res s' end_ => ?_
    match res, end_ with
    | .error _, end_ => exact end_.elim
    | .ok .next, end_ => exact end_.elim
    | .ok .brk, end_ => exact end_.elim
    | .ok .cont, end_ => exact end_.elim
    | .ok (.ret u), ⟨v, H', h1, h2, h3, h4, h5, h6⟩ =>
      subst h6
      cases (show u = Value.bool true from h5)
      refine ⟨rfl, OldK.of_keep fun b ob z => ?_, h1, h2⟩
      cases q : H b with
      | none => exact h3.keep b ob z q List.not_mem_nil List.not_mem_nil
      | some u =>
        obtain ⟨rfl, _, rfl⟩ := only b u q
        obtain ⟨e1, _⟩ := h4 b _ (h3.frzs b _ _ q)
        rw [ha] at z; cases z
        exact e1
  cases q : K.lookup a with
  | some ob =>
    have e1 := KX a ob q
    rw [ha] at e1; cases e1
    exact main (fun _ => none) (fun b u z => by cases z) (.inr ⟨_, vs.toArray, _, q, rfl, rfl, rfl, by simpa [hi.length] using hl, by simpa using vals⟩) fun b u z => by cases z
  | none =>
    have own : ∀ b u, (if b = a then some (HO.frz { cls := .type "list", data := .seq vs.toArray } (.lst (ns.map V.int))) else none) = some u → b = a ∧ u = .frz { cls := .type "list", data := .seq vs.toArray } (.lst (ns.map V.int)) := by
      intro b u z
      by_cases e : b = a
      · rw [if_pos e] at z; cases z; exact ⟨e, rfl⟩
      · rw [if_neg e] at z; cases z
    refine main (fun b => if b = a then some (.frz { cls := .type "list", data := .seq vs.toArray } (.lst (ns.map V.int))) else none) (fun b u z => ⟨(own b u z).1, q, (own b u z).2⟩) (.inl (.inr ⟨_, if_pos rfl⟩)) fun b u z => ?_
    obtain ⟨rfl, rfl⟩ := own b u z
    exact ⟨ha, by rw [List.length_map]; exact hl, vs, _, vals, ha⟩
theorem walk_ofG {l : PySem.W.OpenLaw} {k : Nat} {q : Program} {loose : List Str} {XP : (Str → Option Value) → Heap → Prop} {YP : World → Heap → Prop} {d : DefRec} {x : Str} (hn : l.most = some 63) (hdf : d.params.defaults = []) (hr : Room k callerA)
    (G : ∀ (w : World) (mg : Str → Option Value) (fa : Addr) (h : Heap), YP w h → h.Ns mainGlobals mg → mg d.name = some (.ref fa) →
      ∃ (K : PySem.W.Frag) (fd : FuncData) (T : Tr), K.In h ∧ (∀ (s : Shared) (u : Value), BindsTo s fd ⟨[u], []⟩ [(x, u)]) ∧
        (∀ (H : Hp) (a : Addr) (ns : List Int), ns.length ≤ 63 → SqL K H a (ns.map V.int) → ∃ F M ds, Ok K F M H ∧ Rps K F [.ref a] ds ∧ T ds M fun d _ => d = .bl true) ∧
        ∀ base : Heap, K.In base → base.Ns mainGlobals mg → FnG l.prog w K mg base k fa fd [x] T) :
    PySem.W.WalkO q loose XP YP l.row.toRowW d [] (fun f vs => PySem.call f vs) :=
  Att.attach_call hn hdf fun w s0 s1 mg mb fa o pm cd doc a vs ns Gr Y ho hd hcd hmg hobj hints hlen hgens => by
    obtain ⟨K, fd, T, KX, hb, ht, hF⟩ := G w mg fa _ Y Gr.T.g hmg
    exact law_goG KX Gr.T.g Gr.T.b Gr.T.builtins Gr.T.nolimit hgens hobj hints (Nat.le_trans hlen (by decide)) hr hF hb fun H hS => ht H a ns hlen hS

/-! ### repr -/
theorem repr_all {K : PySem.W.Frag} {X : Cx} {pins : List (Addr × Obj)} {σ : St} {H : Hp} {s : Shared} {z : PyData} {v : V} {u : Value} {Q : Value → Shared → Prop} (hg : X.A.guards = some []) (hu : X.A.units + (z.depth + 1) < cLine) (I : L2.Inv X pins σ H s) (h : Dp X.K H v z) (r : RelV v u) (hs : z.showable = true) (hd : z.hasDict = false)
    (hz : z.shown.length ≤ sizeLine) (k : ∀ t s', L2.Inv X pins σ H s' → Q (.str z.shown t) s') : wpAny (model X.prog X.w) X.A (call (.builtin "repr") [u]) Q X.xe s := by
  cases h with
  | non => cases r; exact PySem.P.repr_of_none (by simpa [PyData.shown] using k _ _ (I.tok _))
  | bl b => cases r; exact PySem.P.repr_of_bool (by simpa [PyData.shown] using k _ _ (I.tok _))
  | int i =>
    obtain ⟨t, rfl⟩ := r
    exact PySem.P.repr_of_int (by simpa [PyData.showable] using hs) (by simpa [PyData.shown] using k _ _ (I.tok _))
  | str y =>
    obtain ⟨t, rfl⟩ := r
    exact PySem.P.repr_of_str (by simpa [PyData.shown] using k _ _ (I.tok _)) (by simpa [PyData.shown] using hz)
  | lst h1 h2 =>
    obtain ⟨as, rd⟩ := Dp.reads I _ _ u (.lst h1 h2) r
    cases r
    exact repr_of_reads' rd hs (fun q => by rw [hd] at q; cases q) hg hu (fun b ob z => z) (fun h' t tk hk => k t _ (I.kept hk)) hz
  | tup h1 h2 =>
    obtain ⟨as, rd⟩ := Dp.reads I _ _ u (.tup h1 h2) r
    cases r
    exact repr_of_reads' rd hs (fun q => by rw [hd] at q; cases q) hg hu (fun b ob z => z) (fun h' t tk hk => k t _ (I.kept hk)) hz
end DX
namespace DX
open PySem PySem.Spec L2

/-! ### what can be shown and compared as data -/
mutual
/-- ints below 2^200, texts of signs, lists and tuples of such -/
def good : D → Prop
  | .non => True
  | .bl _ => True
  | .int i => -(2 ^ 200) ≤ i ∧ i ≤ 2 ^ 200
  | .str x => PyData.strOk x = true
  | .tup ds => goods ds
  | .lst ds => goods ds
  | _ => False
def goods : List D → Prop
  | [] => True
  | d :: ds => good d ∧ goods ds
end
mutual
/-- at least as much as its text is long -/
def wt : D → Nat
  | .str x => 10 * x.length + 2
  | .tup ds => wts ds + 3
  | .lst ds => wts ds + 3
  | _ => 2000
def wts : List D → Nat
  | [] => 0
  | d :: ds => wt d + 2 + wts ds
end
mutual
def dep : D → Nat
  | .tup ds => deps ds + 1
  | .lst ds => deps ds + 1
  | _ => 0
def deps : List D → Nat
  | [] => 0
  | d :: ds => max (dep d) (deps ds)
end
mutual
def pyd : D → PyData
  | .bl b => .bool b
  | .int i => .int i
  | .str x => .str x
  | .tup ds => .tuple (pyds ds)
  | .lst ds => .list (pyds ds)
  | _ => .none
def pyds : List D → List PyData
  | [] => []
  | d :: ds => pyd d :: pyds ds
end
/-- the text that repr gives -/
def txt (d : D) : Str := (pyd d).shown
theorem small_log {i : Int} (h : -(2 ^ 200) ≤ i ∧ i ≤ 2 ^ 200) : i.natAbs.log2 < 1920 := by
  have h1 : i.natAbs ≤ 2 ^ 200 := by omega
  by_cases h0 : i.natAbs = 0
  · rw [h0]; decide
  · rw [Nat.log2_lt h0]
    exact Nat.lt_of_le_of_lt h1 (by decide)
mutual
theorem good_py : ∀ {d : D}, good d → d.py = some (pyd d)
  | .non, _ => rfl
  | .bl _, _ => rfl
  | .int _, _ => rfl
  | .str _, _ => rfl
  | .tup ds, h => by rw [D.py, goods_py h]; rfl
  | .lst ds, h => by rw [D.py, goods_py h]; rfl
theorem goods_py : ∀ {ds : List D}, goods ds → pys ds = some (pyds ds)
  | [], _ => rfl
  | d :: ds, h => by rw [pys, good_py h.1, goods_py h.2]; rfl
end
mutual
theorem good_lay : ∀ {d : D}, good d → (pyd d).canLay0 = true
  | .non, _ => by simp [pyd, PyData.canLay0]
  | .bl _, _ => by simp [pyd, PyData.canLay0]
  | .int _, _ => by simp [pyd, PyData.canLay0]
  | .str _, h => by simp only [pyd, PyData.canLay0]; exact h
  | .tup ds, h => by simp only [pyd, PyData.canLay0]; exact goods_lay h
  | .lst ds, h => by simp only [pyd, PyData.canLay0]; exact goods_lay h
theorem goods_lay : ∀ {ds : List D}, goods ds → PyData.canLayAll0 (pyds ds) = true
  | [], _ => by simp [pyds, PyData.canLayAll0]
  | d :: ds, h => by simp only [pyds, PyData.canLayAll0, good_lay h.1, goods_lay h.2, Bool.and_self]
end
mutual
theorem good_show : ∀ {d : D}, good d → (pyd d).showable = true
  | .non, _ => by simp [pyd, PyData.showable]
  | .bl _, _ => by simp [pyd, PyData.showable]
  | .int i, h => by simp only [pyd, PyData.showable]; exact decide_eq_true (small_log h)
  | .str _, h => by simp [pyd, PyData.showable]
  | .tup ds, h => by simp only [pyd, PyData.showable]; exact goods_show h
  | .lst ds, h => by simp only [pyd, PyData.showable]; exact goods_show h
theorem goods_show : ∀ {ds : List D}, goods ds → PyData.showableAll (pyds ds) = true
  | [], _ => by simp [pyds, PyData.showableAll]
  | d :: ds, h => by simp only [pyds, PyData.showableAll, good_show h.1, goods_show h.2, Bool.and_self]
end
mutual
theorem dep_py : ∀ {d : D}, good d → (pyd d).depth ≤ dep d + 1
  | .non, _ => by simp [pyd, PyData.depth]
  | .bl _, _ => by simp [pyd, PyData.depth]
  | .int i, h => by simp [pyd, PyData.depth]
  | .str _, h => by simp [pyd, PyData.depth]
  | .tup ds, h => by simp only [pyd, PyData.depth, dep]; have := deps_py (ds := ds) h; omega
  | .lst ds, h => by simp only [pyd, PyData.depth, dep]; have := deps_py (ds := ds) h; omega
theorem deps_py : ∀ {ds : List D}, goods ds → PyData.depthAll (pyds ds) ≤ deps ds + 1
  | [], _ => by simp [pyds, PyData.depthAll]
  | d :: ds, h => by
    simp only [pyds, PyData.depthAll, deps]
    have h1 := dep_py h.1
    have h2 := deps_py h.2
    omega
end
mutual
theorem wt_py : ∀ {d : D}, good d → (pyd d).shown.length ≤ wt d
  | .non, _ => by simp only [pyd, PyData.shown, wt]; decide +kernel
  | .bl b, _ => by cases b <;> (simp only [pyd, PyData.shown, wt]; decide +kernel)
  | .int i, h => by
    simp only [pyd, PyData.shown, wt]
    have := PyProof.Rows.int_text_len_1921 (small_log h)
    omega
  | .str x, h => by
    simp only [pyd, PyData.shown, wt]
    refine StrLaws.reprText_len x fun c hc => ?_
    have h1 : x.cps.all (· < 0x110000) = true := h
    have h2 := Array.all_eq_true_iff_forall_mem.mp h1 c (by simpa using hc)
    have h3 : c < 0x110000 := by simpa using h2
    exact Nat.lt_trans h3 (by decide)
  | .tup ds, h => by
    simp only [pyd, PyData.shown, wt]
    have h1 := tupleText_len_le (PyData.shownAll (pyds ds))
    have h2 := wts_py (ds := ds) h
    omega
  | .lst ds, h => by
    simp only [pyd, PyData.shown, wt]
    have h1 := listText_len_le (PyData.shownAll (pyds ds))
    have h2 := wts_py (ds := ds) h
    omega
theorem wts_py : ∀ {ds : List D}, goods ds → ((PyData.shownAll (pyds ds)).map (·.length)).sum + 2 * (PyData.shownAll (pyds ds)).length ≤ wts ds
  | [], _ => by simp [pyds, PyData.shownAll, wts]
  | d :: ds, h => by
    simp only [pyds, PyData.shownAll, wts, List.map_cons, List.sum_cons, List.length_cons]
    have h1 := wt_py h.1
    have h2 := wts_py h.2
    omega
end
mutual
theorem eqv_refl : ∀ {d : D}, good d → PyData.eqv (pyd d) (pyd d) = true
  | .non, _ => by simp [pyd, PyData.eqv]
  | .bl b, _ => by cases b <;> simp [pyd, PyData.eqv]
  | .int i, h => by simp [pyd, PyData.eqv]
  | .str _, h => by simp [pyd, PyData.eqv]
  | .tup ds, h => by simp only [pyd, PyData.eqv]; exact eqvs_refl h
  | .lst ds, h => by simp only [pyd, PyData.eqv]; exact eqvs_refl h
theorem eqvs_refl : ∀ {ds : List D}, goods ds → PyData.eqvAll (pyds ds) (pyds ds) = true
  | [], _ => by simp [pyds, PyData.eqvAll]
  | d :: ds, h => by simp only [pyds, PyData.eqvAll, eqv_refl h.1, eqvs_refl h.2, Bool.and_self]
end

section
variable {X : Cx} {J : Gh} {e a b c o : Expr} {es : List Expr} {ρ ρ' : DEnv} {M M' : Mem} {F F' H H' : Hp} {σ : St} {B : Bd} {K : PySem.W.Frag} {pos p apos cpos : Pos} {x : Str} {P : D → Mem → Prop}
def rReprD (K : PySem.W.Frag) : List V → Hp → VK → Prop := fun xs H Q => ∃ y z, xs = [y] ∧ Dp K H y z ∧ z.showable = true ∧ z.hasDict = false ∧ z.depth ≤ 60 ∧ z.shown.length ≤ sizeLine ∧ Q (.str z.shown) H
theorem call_reprD (hg : X.A.guards = some []) (hu : X.A.units + 64 < cLine) : CallR X (.builtin "repr") (rReprD X.K) := by
  intro pins s σ H vs us Q I r h
  obtain ⟨y, z, rfl, hz, h1, h2, h3, h4, q⟩ := h
  obtain ⟨u, rfl, ru⟩ := Vals.one r
  exact repr_all (K := X.K) hg (by omega) I hz ru h1 h2 h4 fun t s' I' => ⟨.str z.shown, H, I', ⟨t, rfl⟩, q⟩
theorem cd_repr {d : D} (hg : X.A.guards = some []) (hu : X.A.units + 64 < cLine) (h : good d) (hw : wt d ≤ 16000000) (hd : dep d ≤ 50) (q : P (.str (txt d)) M) : CD X (.builtin "repr") [d] M P :=
  ⟨_, call_reprD hg hu, fun F H vs Q o r k => by
    cases r with
    | cons h1 r =>
      cases r
      have h2 := dep_py h
      have h3 := wt_py h
      exact ⟨_, _, rfl, h1.dp o.ex (good_py h), good_show h, PyData.hasDict_of_canLay _ (good_lay h), by omega, by rw [sizeLine_eq]; omega, k.here q o (.str _)⟩⟩
theorem shaped_good {d : D} (h : good d) (hd : dep d ≤ 50) : SeqAt.shaped (pyd d) = true := by
  have := dep_py h
  unfold SeqAt.shaped
  rw [good_lay h, Bool.true_and]
  exact decide_eq_true (by omega)
/-- == of data -/
def eqD (d1 d2 : D) : Bool := PyData.eqv (pyd d1) (pyd d2)
theorem eqD_refl {d : D} (h : good d) : eqD d d = true := eqv_refl h
theorem od_eqG {d1 d2 : D} (hu : X.A.units + 64 < cLine) (h1 : good d1) (h2 : good d2) (s1 : dep d1 ≤ 50) (s2 : dep d2 ≤ 50) (q : P (.bl (eqD d1 d2)) M) : OD X (compareOp .Eq) d1 d2 M P :=
  od_eqD hu (good_py h1) (good_py h2) (shaped_good h1 s1) (shaped_good h2 s2) q
theorem od_neG {d1 d2 : D} (hu : X.A.units + 64 < cLine) (h1 : good d1) (h2 : good d2) (s1 : dep d1 ≤ 50) (s2 : dep d2 ≤ 50) (q : P (.bl (!eqD d1 d2)) M) : OD X (compareOp .NotEq) d1 d2 M P :=
  od_neD hu (good_py h1) (good_py h2) (shaped_good h1 s1) (shaped_good h2 s2) q

/-! ### lists that change -/
/-- at h stands d; with another in its place the memory is f of it -/
structure At (M : Mem) (h : Addr) (d : D) (f : D → Mem) : Prop where
  get : M h = some d
  set : ∀ d', f d' = up M h d'
theorem at0 {h : Addr} {d : D} : At (up M h d) h d (fun d' => up M h d') := ⟨up_same, fun _ => up_up.symm⟩
theorem at1 {h q : Addr} {d l : D} {f : D → Mem} (hq : h ≠ q) (A : At M h d f) : At (up M q l) h d (fun d' => up (f d') q l) :=
  ⟨by rw [up_ne hq]; exact A.get, fun d' => by rw [A.set, up_comm hq]⟩
theorem at_gen {h : Addr} {d : D} (e : M h = some d) : At M h d (fun d' => up M h d') := ⟨e, fun _ => rfl⟩
/-- x.append(e) -/
theorem tyV_lst {K : PySem.W.Frag} {a : Addr} {xs : List V} {H : Hp} (h : H a = some (.lst xs)) : tyV K "list" (.ref a) H := Or.inl ⟨rfl, _, Or.inl (Or.inl h)⟩
theorem ex_append (h : EX X J o ρ M fun d M1 => ∃ q ds1, d = .adr q ∧ M1 q = some (.lst ds1) ∧ AX X J [e] ρ M1 fun ys M2 => ∃ y ds f, ys = [y] ∧ At M2 q (.lst ds) f ∧ ds.length < 1000000 ∧ P .non (f (.lst (ds ++ [y]))))
    (hbase : attributeBase o "append" X.env (eval o X.env) = eval o X.env := by rfl)
    (few : ((backTo cpos (starEach [e] X.env)).all (fun x => !x.1) && (backToKw cpos (keywordEach [] X.env)).all (fun x => x.1.isSome) && decide ([e].length + ([] : List Keyword).length + (if ([] : List Keyword).isEmpty then 0 else 1) < 30)) = true := by rfl)
    (line : (apos.endLine == cpos.line) = true := by rfl) (hst : starEach [e] X.env = (false, eval e X.env) :: starEach [] X.env := by rfl) (hpl : (backTo cpos (starEach [] X.env)).any (·.1) = false := by rfl) :
    EX X J (.Call (.Attribute o "append" apos) [e] [] cpos) ρ M P :=
  ex_of (pe_bm PySem.F.plainAttrs_list PySem.F.slot_list_append PySem.F.type_list_append mt_append pe_any pa_any hbase few line hst hpl) fun F σ H Q st k => h.go st fun d v M1 F1 H1 q1 e1 o1 r1 => by
    obtain ⟨q, ds1, rfl, hq, q2⟩ := q1
    cases r1
    obtain ⟨_, xs1, hx1, _⟩ := o1.mt _ _ hq
    refine ⟨tyV_lst hx1, q2.go (st.to e1 o1) fun ys vs M2 F2 H2 q3 e2 o2 r2 => ?_⟩
    obtain ⟨y, ds, f, rfl, hA, hz, q3⟩ := q3
    cases r2 with
    | cons r2 r3 =>
      cases r3
      obtain ⟨_, xs, hx, rx⟩ := o2.mt _ _ hA.get
      refine ⟨q, xs, _, rfl, rfl, hx, by rw [rx.length, sizeLine_eq]; omega, k _ _ _ _ _ q3 (e1.trans e2) ?_ .non⟩
      rw [hA.set]
      exact o2.set (o := .lst (xs ++ [_])) hA.get ⟨_, upd_same, rx.append (.cons r2 .nil)⟩
/-- x[i] = e -/
theorem g1_setIx {tp : Pos} (h : EX X J e ρ M fun y M1 => EX X J o ρ M1 fun d M2 => EX X J a ρ M2 fun i M3 => ∃ q ds f n m, d = .adr q ∧ i = .int n ∧ At M3 q (.lst ds) f ∧ ixN ds.length n = some m ∧ B.nx ρ (f (.lst (ds.set m y))))
    (hs : swapsWithSole [.Subscript o a tp] e pos.line X.env = pure false := by rfl) (hw : swappedStores [.Subscript o a tp] e X.env = pure none := by rfl)
    (h1 : (assignEach [.Subscript o a tp] X.env).map (·.2) = [assign (.Subscript o a tp) X.env] := by rfl)
    (ha : ∀ v, assign (.Subscript o a tp) X.env v = (do let ov ← holding [v] (eval o X.env); let iv ← holding [v, ov] (eval a X.env); standAt tp; holding [v, ov, iv] (setItem ov iv v); release [v, ov, iv] []) := by intro _; rfl) : G1 X J (.Assign [.Subscript o a tp] e pos) ρ M B :=
  g1_of (ps_asg pe_any (pg_sub pe_any pe_any set_list ha) hs hw h1) fun F σ H E s k => h.go s fun y v M1 F1 H1 q1 e1 o1 r1 => q1.go (s.to e1 o1) fun d w M2 F2 H2 q2 e2 o2 r2 => q2.go (s.to (e1.trans e2) o2) fun i u M3 F3 H3 q3 e3 o3 r3 => by
    obtain ⟨q, ds, f, n, m, rfl, rfl, hA, hm, q3⟩ := q3
    cases r2; cases r3
    obtain ⟨_, xs, hx, rx⟩ := o3.mt _ _ hA.get
    refine ⟨q, xs, n, m, rfl, rfl, hx, by rw [rx.length]; exact hm, k.nx F3 _ _ _ _ q3 ((e1.trans e2).trans e3) (((s.en.mono e1).mono e2).mono e3) ?_⟩
    rw [hA.set]
    exact o3.set (o := .lst (xs.set m v)) hA.get ⟨_, upd_same, rx.set m ((r1.mono e2).mono e3)⟩

/-! ### keywords -/
def pick {α : Type} (l : List α) (ix : List Nat) : List α := ix.filterMap fun i => l[i]?
theorem pick_vals {vs : List V} {us : List Value} (r : Vals vs us) : ∀ ix : List Nat, Vals (pick vs ix) (pick us ix)
  | [] => .nil
  | i :: ix => by
    unfold pick
    rw [List.filterMap_cons, List.filterMap_cons]
    cases e : vs[i]? with
    | none => rw [Vals.none_of r e]; exact pick_vals r ix
    | some v =>
      obtain ⟨u, h1, h2⟩ := r.get e
      rw [h1]
      exact .cons h2 (pick_vals r ix)
theorem pick_rps {vs : List V} {ds : List D} (r : Rps K F vs ds) : ∀ ix : List Nat, Rps K F (pick vs ix) (pick ds ix)
  | [] => .nil
  | i :: ix => by
    unfold pick
    rw [List.filterMap_cons, List.filterMap_cons]
    cases e : vs[i]? with
    | none =>
      have : ds[i]? = none := by
        rw [List.getElem?_eq_none_iff] at e ⊢
        rw [← r.length]; exact e
      rw [this]; exact pick_rps r ix
    | some v =>
      obtain ⟨d, h1, h2⟩ := r.getV e
      rw [h1]
      exact .cons h2 (pick_rps r ix)
/-- a call with n values by place and the keywords ks: the parameters' values out of both and the defaults -/
theorem kbn0 {x qual : Str} {params : Arguments} {body : List Stmt} {scope : Scope} {kws : List (Str × V)} {f : Addr} {fd : FuncData} {ps : List Str} (F : FunD K x qual params body scope [] kws f fd) (n : Nat) (ks : List Str) (ix : List Nat)
    (h : ∀ (kV doc pm : Value) (an : Option Addr) (cdv ct : Value) (us ws : List Value), us.length = n → ws.length = ks.length → bindArgs (PySem.W.fnOf x qual params body scope .none kV doc pm an cdv ct) ⟨us, ks.zip ws⟩ = pure (ps.zip (pick (us ++ ws) ix))) :
    KBn K fd ps n ks (fun us ws => pick (us ++ ws) ix) (fun vs zs => pick (vs ++ zs) ix) := by
  obtain ⟨oc, od, dV, kV, doc, pm, an, cdv, ct, osl, rfl, lk, hcd, hD, hK⟩ := F.ex
  rcases hD with ⟨_, rfl⟩ | ⟨e, _⟩
  · exact ⟨fun s us ws X l1 l2 => .of_eq (h kV doc pm an cdv ct us ws l1 l2), fun r1 r2 => pick_vals (r1.append r2) ix⟩
  · exact absurd rfl e
theorem kbn1 {x qual : Str} {params : Arguments} {body : List Stmt} {scope : Scope} {dvs : List V} {kws : List (Str × V)} {f : Addr} {fd : FuncData} {ps : List Str} (F : FunD K x qual params body scope dvs kws f fd) (hd : dvs ≠ []) (n : Nat) (ks : List Str) (ix : List Nat)
    (h : ∀ (T : Addr) (kV doc pm : Value) (an : Option Addr) (cdv ct : Value) (us its ws : List Value), us.length = n → its.length = dvs.length → ws.length = ks.length →
      ∃ k, bindArgs (PySem.W.fnOf x qual params body scope (.ref T) kV doc pm an cdv ct) ⟨us, ks.zip ws⟩ = seqItems? (.ref T) >>= k ∧ k (some its.toArray) = pure (ps.zip (pick (us ++ (its ++ ws)) ix))) :
    ∃ its, KBn K fd ps n ks (fun us ws => pick (us ++ (its ++ ws)) ix) (fun vs zs => pick (vs ++ (dvs ++ zs)) ix) := by
  obtain ⟨oc, od, dV, kV, doc, pm, an, cdv, ct, osl, rfl, lk, hcd, hD, hK⟩ := F.ex
  rcases hD with ⟨e, _⟩ | ⟨_, T, ob, its, m, rfl, lT, oT, rT⟩
  · exact absurd e hd
  · refine ⟨its, ⟨fun s us ws X l1 l2 => ?_, fun r1 r2 => pick_vals (r1.append (rT.append r2)) ix⟩⟩
    obtain ⟨k, e1, e2⟩ := h T kV doc pm an cdv ct us its ws l1 rT.length.symm l2
    exact BindsTo.of_looks fun M => by rw [e1]; exact looks_items X lT oT (.of_pure e2)
def KX (X : Cx) (J : Gh) (kws : List Keyword) (ρ : DEnv) (M : Mem) (P : List D → Mem → Prop) : Prop := PK X kws (tA X.K J ρ M P)
def tKe (X : Cx) (kws : List Keyword) : TA := fun σ H Q => ∃ t, PK X kws t ∧ t σ H Q
theorem pk_any {kws : List Keyword} : PK X kws (tKe X kws) := ⟨fun pos pins s σ H Q I ⟨t, h, q⟩ => h.run pos pins s σ H Q I q⟩
theorem KX.go {kws : List Keyword} {P : List D → Mem → Prop} (h : KX X J kws ρ M P) (s : Sts X.K J F σ H ρ M) {Q : List V → Hp → Prop} (k : Ka X.K F P Q) : tKe X kws σ H Q := ⟨_, h, F, s, k⟩
theorem kx_nil {P : List D → Mem → Prop} (q : P [] M) : KX X J [] ρ M P := ⟨fun pos pins s σ H Q I ⟨F, st, k⟩ => pk_nil.run pos pins s σ H Q I (k [] [] M F H q (Same.refl F) st.ok .nil)⟩
theorem kx_cons {kws : List Keyword} {nm : Option Str} {kpos : Pos} {P : List D → Mem → Prop} (h : EX X J e ρ M fun d M1 => KX X J kws ρ M1 fun ds M2 => P (d :: ds) M2) : KX X J (⟨nm, e, kpos⟩ :: kws) ρ M P :=
  ⟨fun pos pins s σ H Q I ⟨F, st, k⟩ => (pk_cons pe_any pk_any).run pos pins s σ H Q I (h.go st fun d v M1 F1 H1 q e1 o1 r1 => KX.go q (st.to e1 o1) fun ds vs M2 F2 H2 q2 e2 o2 r2 => k _ _ M2 F2 H2 q2 (e1.trans e2) o2 (.cons (r1.mono e2) r2))⟩
/-- f(k = v, ..) -/
theorem pe_callN0 {CX : CXT} {k : Nat} {f : Addr} {fd : FuncData} {ps ks : List Str} {sp : Sp} {E : XK} {kws : List Keyword} {tk : TA} {g : List Value → List Value → List Value} {gV : List V → List V → List V} (G : FnOk X.prog X.w X.K X.mg X.base CX k f fd ps sp) (hr : Room k X.A) (hg : Gl X x) (hm : X.mg x = some (.ref f))
    (hk : PySem.W.keepIn X.K (.ref f) = true) (hb : KBn X.K fd ps 0 ks g gV) (hx : Passes CX X E) (hkw : PK X kws tk) (hall : (backToKw pos (keywordEach kws X.env)).all (·.1.isSome) = true) (hks : (backToKw pos (keywordEach kws X.env)).filterMap (·.1) = ks)
    (hdb : (x == ("__debug__" : Str)) = false) (hpl : ((backTo pos (starEach [] X.env)).any (·.1) || (backToKw pos (keywordEach kws X.env)).any (·.1.isNone)) = false) :
    PE X (.Call (.Name x p) [] kws pos) (fun σ H Q => tk σ H fun zs H2 => zs.length = ks.length ∧ sp (gV [] zs) H2 Q E) :=
  ⟨fun pins s σ H Q I h => wpAny_Call_Name_kw (ld_glob I hg hm (PySem.W.callWith_KW0 (h₀ := X.base) I.ok.mod.kin hk hall (thn (hkw.run pos pins s σ H _ I h) fun ws s2 ⟨zs, H2, I2, rz, l2, q2⟩ => ⟨I2.kIn, by
    rw [hks]
    exact run_fnN (us := []) G hr hb hx I2 .nil rz rfl l2 q2⟩) hpl) hdb)⟩
theorem ex_callK {k n : Nat} {f : Addr} {fd : FuncData} {ps ks : List Str} {T : Tr} {kws : List Keyword} {g : List Value → List Value → List Value} {dvs : List V} {dds : List D} {ix : List Nat} (G : FnOk X.prog X.w X.K X.mg X.base CX0 k f fd ps (SpD X.K T)) (hr : Room k X.A) (hm : X.mg x = some (.ref f)) (hk : PySem.W.keepIn X.K (.ref f) = true)
    (hb : KBn X.K fd ps n ks g (fun vs zs => pick (vs ++ (dvs ++ zs)) ix)) (hdd : ∀ F, Rps X.K F dvs dds) (h : AX X J (e :: es) ρ M fun ds M1 => KX X J kws ρ M1 fun zs M2 => ds.length = n ∧ zs.length = ks.length ∧ T (pick (ds ++ (dds ++ zs)) ix) M2 P)
    (hg : Gl X x := by rfl) (hall : (backToKw pos (keywordEach kws X.env)).all (·.1.isSome) = true := by rfl) (hks : (backToKw pos (keywordEach kws X.env)).filterMap (·.1) = ks := by rfl)
    (hdb : (x == ("__debug__" : Str)) = false := by decide) (he : starEach (e :: es) X.env = (false, eval e X.env) :: starEach es X.env := by rfl)
    (hpl : ((backTo pos (starEach (e :: es) X.env)).any (·.1) || (backToKw pos (keywordEach kws X.env)).any (·.1.isNone)) = false := by rfl) : EX X J (.Call (.Name x p) (e :: es) kws pos) ρ M P :=
  ex_of (pe_callN (E := E0) G hr hg hm hk hb pass0 pa_any pk_any hall hks hdb he hpl) fun F σ H Q st k => h.go st fun ds vs M1 F1 H1 q e1 o1 r1 => q.go (st.to e1 o1) fun zs ws M2 F2 H2 q2 e2 o2 r2 => by
    obtain ⟨l1, l2, t⟩ := q2
    exact ⟨r1.length.trans l1, r2.length.trans l2, F2, M2, _, P, o2, pick_rps ((r1.mono e2).append ((hdd F2).append r2)) ix, t, k.to (e1.trans e2)⟩
theorem ex_callK0 {k : Nat} {f : Addr} {fd : FuncData} {ps ks : List Str} {T : Tr} {kws : List Keyword} {g : List Value → List Value → List Value} {dvs : List V} {dds : List D} {ix : List Nat} (G : FnOk X.prog X.w X.K X.mg X.base CX0 k f fd ps (SpD X.K T)) (hr : Room k X.A) (hm : X.mg x = some (.ref f)) (hk : PySem.W.keepIn X.K (.ref f) = true)
    (hb : KBn X.K fd ps 0 ks g (fun vs zs => pick (vs ++ (dvs ++ zs)) ix)) (hdd : ∀ F, Rps X.K F dvs dds) (h : KX X J kws ρ M fun zs M2 => zs.length = ks.length ∧ T (pick (dds ++ zs) ix) M2 P)
    (hg : Gl X x := by rfl) (hall : (backToKw pos (keywordEach kws X.env)).all (·.1.isSome) = true := by rfl) (hks : (backToKw pos (keywordEach kws X.env)).filterMap (·.1) = ks := by rfl)
    (hdb : (x == ("__debug__" : Str)) = false := by decide) (hpl : ((backTo pos (starEach [] X.env)).any (·.1) || (backToKw pos (keywordEach kws X.env)).any (·.1.isNone)) = false := by rfl) : EX X J (.Call (.Name x p) [] kws pos) ρ M P :=
  ex_of (pe_callN0 (E := E0) G hr hg hm hk hb pass0 pk_any hall hks hdb hpl) fun F σ H Q st k => h.go st fun zs ws M2 F2 H2 q2 e2 o2 r2 => by
    obtain ⟨l2, t⟩ := q2
    exact ⟨r2.length.trans l2, F2, M2, _, P, o2, pick_rps (show Rps X.K F2 ([] ++ (dvs ++ ws)) ([] ++ (dds ++ zs)) from (hdd F2).append r2) ix, t, k.to e2⟩
/-! ### max, min of two ints; all, any of a list of bools; sum -/
theorem cd_max2 {i j : Int} (hc : X.calm = true) (q : P (.int (if j > i then j else i)) M) : CD X (.builtin "max") [.int i, .int j] M P :=
  ⟨_, call_max2 hc, fun F H vs Q o r k => by
    cases r with
    | cons h1 r =>
      cases r with
      | cons h2 r => cases r; cases h1; cases h2; exact ⟨i, j, rfl, k.here q o (.int _)⟩⟩
theorem cd_min2 {i j : Int} (hc : X.calm = true) (q : P (.int (if j < i then j else i)) M) : CD X (.builtin "min") [.int i, .int j] M P :=
  ⟨_, call_min2 hc, fun F H vs Q o r k => by
    cases r with
    | cons h1 r =>
      cases r with
      | cons h2 r => cases r; cases h1; cases h2; exact ⟨i, j, rfl, k.here q o (.int _)⟩⟩
theorem cd_all {d : D} {bs : List Bool} (hc : X.calm = true) (s : Sl M d (bs.map D.bl)) (q : P (.bl (bs.all id)) M) : CD X (.builtin "all") [d] M P :=
  ⟨_, cr_all hc, fun F H vs Q o r k => by
    cases r with
    | cons h1 r =>
      cases r
      obtain ⟨a, xs, rfl, h2, r2⟩ := s.get o h1
      exact ⟨a, bs, rfl, by rw [← r2.bls]; exact SqL.of h2, k.here q o (.bl _)⟩⟩
theorem cd_any {d : D} {bs : List Bool} (hc : X.calm = true) (s : Sl M d (bs.map D.bl)) (q : P (.bl (bs.any id)) M) : CD X (.builtin "any") [d] M P :=
  ⟨_, cr_any hc, fun F H vs Q o r k => by
    cases r with
    | cons h1 r =>
      cases r
      obtain ⟨a, xs, rfl, h2, r2⟩ := s.get o h1
      exact ⟨a, bs, rfl, by rw [← r2.bls]; exact SqL.of h2, k.here q o (.bl _)⟩⟩
end
end DX
namespace DX
open PySem PySem.Spec L2
theorem le_b {m n : Nat} (h : Nat.ble m n = true) : m ≤ n := Nat.le_of_ble_eq_true h
section
variable {X : Cx} {J : Gh} {e a b c o : Expr} {es : List Expr} {st : Stmt} {ρ ρ' : DEnv} {M M' : Mem} {F F' H H' : Hp} {σ : St} {B : Bd} {K : PySem.W.Frag} {pos p apos cpos : Pos} {x : Str} {P : D → Mem → Prop}
/-- a word between a statement and the rest -/
theorem g1_mid (Mid : DEnv → Mem → Prop) (h : G1 X J st ρ M (B.thn Mid)) (k : ∀ ρ' M', Mid ρ' M' → B.nx ρ' M') : G1 X J st ρ M B :=
  g1_of h fun F σ H E st kd => ⟨F, st, fun F' σ' H' ρ' M' q => kd.nx F' σ' H' ρ' M' (k _ _ q), kd.rt, kd.bk, kd.ct⟩
/-- an item at a place that is only bounded -/
theorem id_all {y : D} {ds : List D} {i : Int} (s : Sq M y ds) (h0 : 0 ≤ i) (h1 : i < (ds.length : Int)) (h : ∀ d, d ∈ ds → P d M) : ID X y (.int i) M P := by
  have hi : i.toNat < ds.length := by omega
  have e : atI ds i = some ds[i.toNat] := by
    have := atI_nat (xs := ds) (j := i.toNat) (v := ds[i.toNat]) (by simp [hi])
    rwa [Int.toNat_of_nonneg h0] at this
  exact id_seq s e (h _ (List.getElem_mem hi))
theorem atI_ints {ns : List Int} {i : Int} (h0 : 0 ≤ i) (h1 : i < (ns.length : Int)) : atI (ns.map D.int) i = some (.int (ns.getD i.toNat 0)) := by
  have hi : i.toNat < ns.length := by omega
  have := atI_nat (xs := ns.map D.int) (j := i.toNat) (v := .int (ns.getD i.toNat 0)) (by simp [hi])
  rwa [Int.toNat_of_nonneg h0] at this
/-- the script's first items, as a list -/
theorem sd_scr {ns : List Int} {k : Nat} (q : P (.lst ((ns.take k).map D.int)) M) : SD X (.scr ns) none (some (k : Int)) M P :=
  ⟨_, sl_list, fun F H v Q o rx kt => by
    cases rx with
    | scr h =>
      refine ⟨_, _, rfl, same_l o.ex h, fun q' hq => kt _ _ _ _ _ q (o.fixSame hq) (o.fix hq) (.lst upd_same ?_)⟩
      have e1 : cutV (ns.map V.int) none (some (k : Int)) = (ns.take k).map V.int := by
        unfold cutV
        rw [HT.sIx_none, HT.sIx_nat, Nat.sub_zero, List.drop_zero, List.map_take, List.length_map]
        by_cases hk : k ≤ ns.length
        · rw [Nat.min_eq_left hk]
        · rw [Nat.min_eq_right (by omega), List.take_of_length_le (by simp), List.take_of_length_le (by simp; omega)]
      rw [e1]
      exact Rps.ofInts⟩
theorem od_andM {i : Int} {k : Nat} (q : P (.int (i % 2 ^ k)) M) : OD X (binaryOp .BitAnd) (.int i) (.int (2 ^ k - 1)) M P :=
  ⟨_, op_andM, fun F H v u Q o rx ry kt => by
    cases rx; cases ry
    exact ⟨i, k, rfl, rfl, kt.here q o (.int _)⟩⟩
theorem pyds_ints : ∀ ns : List Int, pys (ns.map D.int) = some (ns.map PyData.int)
  | [] => rfl
  | n :: ns => by rw [List.map_cons, pys, pyds_ints ns]; rfl
theorem lay_ints : ∀ ns : List Int, PyData.canLayAll0 (ns.map PyData.int) = true
  | [] => by simp [PyData.canLayAll0]
  | n :: ns => by simp only [List.map_cons, PyData.canLayAll0, PyData.canLay0, lay_ints ns, Bool.and_self]
theorem dep_ints : ∀ ns : List Int, PyData.depthAll (ns.map PyData.int) ≤ 1
  | [] => by simp [PyData.depthAll]
  | n :: ns => by have := dep_ints ns; simp only [List.map_cons, PyData.depthAll, PyData.depth]; omega
theorem shaped_ints (ns : List Int) : SeqAt.shaped (.list (ns.map PyData.int)) = true := by
  have := dep_ints ns
  unfold SeqAt.shaped
  rw [Bool.and_eq_true]
  exact ⟨by simp only [PyData.canLay0]; exact lay_ints ns, decide_eq_true (by simp only [PyData.depth]; omega)⟩
/-- ints != [] -/
theorem od_neNil {ns : List Int} (hu : X.A.units + 64 < cLine) (q : P (.bl (!ns.isEmpty)) M) : OD X (compareOp .NotEq) (.lst (ns.map D.int)) (.lst []) M P := by
  refine od_neD (z1 := .list (ns.map PyData.int)) (z2 := .list []) hu (by rw [D.py, pyds_ints]; rfl) rfl (shaped_ints ns) (shaped_ints []) ?_
  cases ns with
  | nil => simpa [PyData.eqv, PyData.eqvAll] using q
  | cons n ns => simpa [PyData.eqv, PyData.eqvAll] using q
end

/-! ### what draws -/
structure Hs where
  cells : List Int
  at_ : Int
  gr : Int
def hand (s : Hs) : D := .lst [.lst (s.cells.map D.int), .int s.at_, .int s.gr]
structure HOk (s : Hs) (n : Int) : Prop where
  a0 : 0 ≤ s.at_
  an : s.at_ ≤ n
  g0 : 0 ≤ s.gr
theorem HOk.mono {s : Hs} {n m : Int} (h : HOk s n) (l : n ≤ m) : HOk s m := ⟨h.a0, by have := h.an; omega, h.g0⟩
/-- a draw: any number below the bound -/
def trTake : Tr := fun ds M P => ∃ h s b M0 n, ds = [.adr h, .int b] ∧ M = up M0 h (hand s) ∧ HOk s n ∧ n ≤ 1000000 ∧ (0 < b ∧ b < 1000000000) ∧ ∀ k s', 0 ≤ k → k < b → HOk s' (n + 1) → P (.int k) (up M0 h (hand s'))
def trBegin : Tr := fun ds M P => ∃ ns, ds = [.scr ns] ∧ ∀ h s, M h = none → HOk s 0 → P (.adr h) (up M h (hand s))
theorem law_start {T : Tr} (hT : ∀ ns M P, (∀ M', P (.bl true) M') → T [.scr ns] M P) {K : PySem.W.Frag} {H : Hp} {a : Addr} {ns : List Int} (hS : SqL K H a (ns.map V.int)) : ∃ F M ds, Ok K F M H ∧ Rps K F [.ref a] ds ∧ T ds M fun d _ => d = .bl true :=
  ⟨H, fun _ => none, [.scr ns], ⟨Same.refl H, fun a d e => by cases e⟩, .cons (.scr hS) .nil, hT ns _ _ fun _ => rfl⟩
end DX
namespace DX
open PySem PySem.Spec L2
/-! ### isinstance of plain data -/
def kn : D → String
  | .bl _ => "bool"
  | .int _ => "int"
  | .str _ => "str"
  | .tup _ => "tuple"
  | .lst _ => "list"
  | .dct _ => "dict"
  | _ => "NoneType"
def plain : D → Bool
  | .adr _ => false
  | .ty _ => false
  | .scr _ => false
  | .ins _ _ => false
  | .stup _ => false
  | _ => true
def isi (n : String) (d : D) : Bool := (kn d == n) || (kn d == "bool" && n == "int")
theorem kit_names : ∀ a ∈ ["NoneType", "bool", "int", "str", "tuple", "list", "dict"], ∀ n ∈ ["int", "bool", "str", "tuple", "list", "dict"], kitB a n = some ((a == n) || (a == "bool" && n == "int")) := by decide +kernel
theorem kn_mem (d : D) : kn d ∈ ["NoneType", "bool", "int", "str", "tuple", "list", "dict"] := by
  cases d <;> simp [kn]
section
variable {X : Cx} {J : Gh} {e a b c o : Expr} {es : List Expr} {st : Stmt} {ρ ρ' : DEnv} {M M' : Mem} {F F' H H' : Hp} {σ : St} {B : Bd} {K : PySem.W.Frag} {pos p apos cpos : Pos} {x : Str} {P : D → Mem → Prop}
theorem ty_of {d : D} {v : V} (h : plain d = true) (hs : Same F H) (r : Rp K F v d) : TyX K H v (.type (kn d)) := by
  cases r with
  | non => exact .base .non
  | bl b => exact .base (.bl b)
  | int i => exact .base (.int i)
  | str x => exact .base (.str x)
  | lst h1 r => exact .base (.lst (hs _ _ h1))
  | tup h1 r =>
    rcases h1 with (h1 | ⟨o, h1⟩) | ⟨o, its, n, h1, h2, _⟩
    · exact .base (.tup (hs _ _ h1))
    · exact .fTuple (hs _ _ h1)
    · exact .kTuple h1 h2
  | dct h1 r => exact .base (.dK (hs _ _ h1))
  | adr a => cases h
  | ty n => cases h
  | scr h1 => cases h
  | ins h1 r => cases h
  | stup h1 c r => cases h
theorem cd_isi {d : D} {n : String} (hn : n ∈ ["int", "bool", "str", "tuple", "list", "dict"]) (h : plain d = true) (q : P (.bl (isi n d)) M) : CD X (.builtin "isinstance") [d, .ty n] M P :=
  ⟨_, call_isi, fun F H vs Q ok r k => by
    cases r with
    | cons h1 r =>
      cases r with
      | cons h2 r =>
        cases r
        cases h2
        exact ⟨_, _, _, _, _, rfl, .ty n, ty_of h ok.ex h1, kit_ty (kit_names _ (kn_mem d) _ hn), k.here q ok (.bl _)⟩⟩
/-- a built-in type by its name -/
theorem ex_tyn {n : String} (hm : X.mg x = none) (hv : bootBuiltins x = some (.type n)) (q : P (.ty n) M) (hg : Gl X x := by rfl) (hn : x ≠ "__name__" := by decide) (hd : (x == ("__debug__" : Str)) = false := by decide) : EX X J (.Name x pos) ρ M P :=
  ex_of (pe_bltn (v := .ty n) hg hm hv rfl hn hd) fun F σ H Q st k => k.here q st.ok (.ty n)
theorem bb_bool : bootBuiltins "bool" = some (.type "bool") := by decide +kernel
/-- a text, a tuple of the module by its name -/
theorem ex_gstr {z : Str} (hm : ∃ t, X.mg x = some (.str z t)) (q : P (.str z) M) (hg : Gl X x := by rfl) (hd : (x == ("__debug__" : Str)) = false := by decide) : EX X J (.Name x pos) ρ M P := by
  obtain ⟨t, h⟩ := hm
  exact ex_glob (v := .str z) hg h ⟨t, rfl⟩ (fun F => .str z) q hd
theorem ex_gint {z : Int} (hm : ∃ t, X.mg x = some (.int z t)) (q : P (.int z) M) (hg : Gl X x := by rfl) (hd : (x == ("__debug__" : Str)) = false := by decide) : EX X J (.Name x pos) ρ M P := by
  obtain ⟨t, h⟩ := hm
  exact ex_glob (v := .int z) hg h ⟨t, rfl⟩ (fun F => .int z) q hd
theorem ex_gtup {a : Addr} {xs : List V} {ds : List D} (hm : X.mg x = some (.ref a)) (ht : ∀ F, SqT X.K F a xs) (hr : ∀ F, Rps X.K F xs ds) (q : P (.tup ds) M) (hg : Gl X x := by rfl) (hd : (x == ("__debug__" : Str)) = false := by decide) : EX X J (.Name x pos) ρ M P :=
  ex_glob (v := .ref a) hg hm rfl (fun F => .tup (ht F) (hr F)) q hd
end
end DX
namespace DX
open PySem PySem.Spec L2
section
variable {X : Cx} {J : Gh} {e : Expr} {ρ : DEnv} {M : Mem} {P : D → Mem → Prop}
/-- a list that changed until here and does no more -/
theorem ex_frz (h : EX X J e ρ M fun d M1 => ∃ p ds M0, d = .adr p ∧ M0 p = none ∧ M1 = up M0 p (.lst ds) ∧ P (.lst ds) M0) : EX X J e ρ M P :=
  ex_of h fun F σ H Q st k => ⟨F, st, fun d v M' F' H' q e1 o r => by
    obtain ⟨p, ds, M0, rfl, hn, rfl, q⟩ := q
    cases r
    obtain ⟨_, ys, hy, ry⟩ := o.mt p _ up_same
    obtain ⟨s1, o4⟩ := o.freeze up_same hy
    rw [rm_up hn] at o4
    exact k _ _ _ _ _ q (e1.trans s1) o4 (.lst upd_same (ry.mono s1))⟩
end
/-! ### bits -/
def bits (v : Int) (n : Nat) : List D := (List.range n).map fun i => D.int (v / 2 ^ i % 2)
theorem bits_len {v : Int} {n : Nat} : (bits v n).length = n := by simp [bits]
theorem bits_succ {v : Int} {n : Nat} : bits v (n + 1) = bits v n ++ [.int (v / 2 ^ n % 2)] := by simp [bits, List.range_succ]
theorem bits_at {v : Int} {n i : Nat} (h : i < n) : (bits v n)[i]? = some (.int (v / 2 ^ i % 2)) := by simp [bits, h]
theorem pow_pos2 (i : Nat) : (0 : Int) < 2 ^ i := Int.pow_pos (by decide)
theorem div_succ (v : Int) (i : Nat) : v / 2 ^ i / 2 = v / 2 ^ (i + 1) := by
  rw [Int.pow_succ, Int.ediv_ediv_of_nonneg (Int.le_of_lt (pow_pos2 i))]
theorem mod_succ (x : Int) (i : Nat) : x % 2 ^ (i + 1) = x % 2 ^ i + 2 ^ i * (x / 2 ^ i % 2) := by
  rw [Int.emod_def x (2 ^ (i + 1)), Int.emod_def x (2 ^ i), Int.emod_def (x / 2 ^ i) 2, div_succ, Int.mul_sub, Int.pow_succ]
  have := Int.mul_assoc (2 ^ i) 2 (x / (2 ^ i * 2))
  omega
theorem pow_mono : ∀ {m n : Nat}, m ≤ n → (2 : Int) ^ m ≤ 2 ^ n := by
  intro m n h
  induction h with
  | refl => exact Int.le_refl _
  | step h ih => rename_i k; rw [Int.pow_succ]; have := pow_pos2 k; omega
theorem pow_le24 {n : Int} (h : 0 ≤ n ∧ n ≤ 24) : (1 : Int) ≤ 2 ^ n.toNat ∧ (2 : Int) ^ n.toNat ≤ 16777216 := by
  have h1 := pow_pos2 n.toNat
  have h2 : (2 : Int) ^ n.toNat ≤ 2 ^ 24 := pow_mono (by omega)
  exact ⟨by omega, by omega⟩
theorem pow_ge2 {n : Int} (h : 1 ≤ n) : (2 : Int) ≤ 2 ^ n.toNat := by
  have h2 : (2 : Int) ^ 1 ≤ 2 ^ n.toNat := pow_mono (by omega)
  omega
theorem emod_in {a b : Int} (h : 0 < b) : 0 ≤ a % b ∧ a % b < b := ⟨Int.emod_nonneg _ (by omega), Int.emod_lt_of_pos _ h⟩
/-- adding bit by bit: the sum of the low parts -/
def low (a b c : Int) (i : Nat) : Int := a % 2 ^ i + b % 2 ^ i + c
theorem low_succ (a b c : Int) (i : Nat) : low a b c (i + 1) = low a b c i + 2 ^ i * (a / 2 ^ i % 2 + b / 2 ^ i % 2) := by
  unfold low; rw [mod_succ, mod_succ, Int.mul_add]; omega
theorem low_div (a b c : Int) (i : Nat) : a / 2 ^ i % 2 + b / 2 ^ i % 2 + low a b c i / 2 ^ i = low a b c (i + 1) / 2 ^ i := by
  rw [low_succ, Int.add_mul_ediv_left _ _ (by have := pow_pos2 i; omega)]; omega
theorem low_total (a b c : Int) (i : Nat) : low a b c i % 2 ^ i + 2 ^ i * ((a / 2 ^ i % 2 + b / 2 ^ i % 2 + low a b c i / 2 ^ i) % 2) = low a b c (i + 1) % 2 ^ (i + 1) := by
  rw [low_div, mod_succ (low a b c (i + 1)), low_succ, Int.add_mul_emod_self_left]
theorem low_enter (a b c : Int) (i : Nat) : (a / 2 ^ i % 2 + b / 2 ^ i % 2 + low a b c i / 2 ^ i) / 2 = low a b c (i + 1) / 2 ^ (i + 1) := by
  rw [low_div, div_succ]
theorem low_all {a b c : Int} {n : Nat} (ha : 0 ≤ a ∧ a < 2 ^ n) (hb : 0 ≤ b ∧ b < 2 ^ n) : low a b c n = a + b + c := by
  unfold low; rw [Int.emod_eq_of_lt ha.1 ha.2, Int.emod_eq_of_lt hb.1 hb.2]
end DX
namespace DX
open PySem PySem.Spec L2
open PyProof.Rows hiding St
section
variable {X : Cx} {J : Gh} {e a b c o : Expr} {es : List Expr} {ρ : DEnv} {M : Mem} {F F' H H' : Hp} {σ : St} {K : PySem.W.Frag} {pos p apos cpos : Pos} {P : D → Mem → Prop}
/-! ### joined texts -/
def toS : D → Str
  | .str z => z
  | _ => Str.empty
def AllS (ds : List D) : Prop := (ds.map toS).map D.str = ds
theorem alls_nil : AllS [] := rfl
theorem alls_cons {z : Str} {ds : List D} (h : AllS ds) : AllS (.str z :: ds) := by unfold AllS at h ⊢; rw [List.map_cons, List.map_cons, h]; rfl
theorem alls_map {α : Type} {f : α → Str} {l : List α} : AllS (l.map fun x => D.str (f x)) := by
  unfold AllS; rw [List.map_map, List.map_map]; rfl
theorem vals_strs : ∀ {xs : List V} {zs : List Str}, Rps K F xs (zs.map D.str) → xs = zs.map V.str
  | _, [], .nil => rfl
  | _, z :: zs, .cons h r => by cases h; rw [vals_strs r]; rfl
def sizeJ (ds : List D) : Nat := ((ds.map toS).map (·.length)).sum
theorem ex_join (h : EX X J o ρ M fun d M1 => ∃ z, d = .str z ∧ EX X J e ρ M1 fun d2 M2 => ∃ ds, Sq M2 d2 ds ∧ AllS ds ∧ sizeJ ds + ds.length * z.length ≤ 16777216 ∧ P (.str (Txt.join z (ds.map toS))) M2)
    (hs : starEach [e] X.env = [(false, eval e X.env)] := by rfl) (hbase : attributeBase o "join" X.env (eval o X.env) = eval o X.env := by rfl) (hline : (apos.endLine == pos.line) = true := by rfl) :
    EX X J (.Call (.Attribute o "join" apos) [e] [] pos) ρ M P :=
  ex_of (pe_join pe_any pe_any hs hbase hline) fun F σ H Q st k => h.go st fun d v M1 F1 H1 q e1 o1 r1 => by
    obtain ⟨z, rfl, q⟩ := q
    cases r1
    refine ⟨⟨_, rfl⟩, EX.go q (st.to e1 o1) fun d2 v2 M2 F2 H2 q2 e2 o2 r2 => ?_⟩
    obtain ⟨ds, s, ha, hz, q3⟩ := q2
    obtain ⟨p, xs, rfl, h2, r3⟩ := s.get o2 r2
    have e3 : xs = (ds.map toS).map V.str := vals_strs (by rw [ha]; exact r3)
    refine ⟨z, p, ds.map toS, rfl, rfl, by rw [← e3]; exact h2, by rw [List.length_map]; exact hz, k _ _ _ _ _ q3 (e1.trans e2) o2 (.str _)⟩
/-! ### backwards -/
theorem ex_revL {k : Nat} {p1 p2 p3 : Pos} (h : EX X J e ρ M fun d M1 => ∃ ds, Sl M1 d ds ∧ P (.lst ds.reverse) M1) : EX X J (.Subscript e (.Slice none none (some (.UnaryOp .USub (.Constant (.int 1) k p1) p2)) p3) pos) ρ M P :=
  ex_of (pe_revL pe_any) fun F σ H Q st k => h.go st fun d v M1 F1 H1 q e1 o1 r1 => by
    obtain ⟨ds, s, q⟩ := q
    obtain ⟨p, xs, rfl, h2, r2⟩ := s.get o1 r1
    exact ⟨p, xs, rfl, SqL.of h2, fun l hl => k _ _ _ _ _ q (e1.trans (o1.fixSame hl)) (o1.fix hl) (.lst upd_same (Rps.mono (o1.fixSame hl) (rps_rev r2)))⟩
where
  rps_rev {K : PySem.W.Frag} {F : Hp} : ∀ {xs : List V} {ds : List D}, Rps K F xs ds → Rps K F xs.reverse ds.reverse
    | _, _, .nil => .nil
    | _, _, .cons h r => by
      rw [List.reverse_cons, List.reverse_cons]
      exact Rps.append (rps_rev r) (.cons h .nil)
/-! ### ranges -/
def rngC (a c : Int) (n : Nat) : List D := (List.range n).map fun (i : Nat) => D.int (a + (i : Int) * c)
theorem rngC_len {a c : Int} {n : Nat} : (rngC a c n).length = n := by simp [rngC]
theorem rngC_one {a : Int} {n : Nat} : rngC a 1 n = rngD a n := by unfold rngC rngD; simp only [Int.mul_one]
theorem rngC_at {a c : Int} {n i : Nat} {d : D} (h : (rngC a c n)[i]? = some d) : i < n ∧ d = .int (a + (i : Int) * c) := by
  unfold rngC at h
  rw [List.getElem?_map] at h
  by_cases hi : i < n
  · rw [List.getElem?_range hi] at h
    cases h
    exact ⟨hi, rfl⟩
  · rw [List.getElem?_eq_none (by simp; omega)] at h
    cases h
def PRc (X : Cx) (e : Expr) (t : St → Hp → (Int → Int → Nat → Hp → Prop) → Prop) : Prop :=
  ∀ (pins : List (Addr × Obj)) (s : Shared) (σ : St) (H : Hp) (Q : Int → Int → Nat → Hp → Prop), Inv X pins σ H s → t σ H Q →
    wpAny (model X.prog X.w) X.A (eval e X.env) (fun x s' => ∃ r a b c n t u v H', x = .ref r ∧ IsRange s'.heap r a b c t u v ∧ RgC a b c n ∧ n ≤ 2 ^ 24 ∧ Inv X pins σ H' s' ∧ Q a c n H') X.xe s
def tRc (ta : TA) : St → Hp → (Int → Int → Nat → Hp → Prop) → Prop := fun σ H Q => ta σ H fun vs H1 => ∃ i j c n, (vs = [.int i, .int j, .int c] ∨ (vs = [.int i, .int j] ∧ c = 1) ∨ (vs = [.int j] ∧ i = 0 ∧ c = 1)) ∧ RgC i j c n ∧ n ≤ 2 ^ 24 ∧ Q i c n H1
theorem rgc_pos {i j : Int} (ha : -(2 ^ 62) ≤ i) (ha' : i < 2 ^ 62) (hb : -(2 ^ 62) ≤ j) (hb' : j < 2 ^ 62) : RgC i j 1 (j - i).toNat :=
  ⟨by decide, by decide, small_one ha ha' hb hb', rangeSize_nat i j⟩
theorem prc {ta : TA} (hg : Gl X "range") (hm : X.mg "range" = none) (ha : PA X (a :: es) ta)
    (hs : starEach (a :: es) X.env = (false, eval a X.env) :: starEach es X.env := by rfl) (hpl : (backTo pos (starEach es X.env)).any (·.1) = false := by rfl) :
    PRc X (.Call (.Name "range" p) (a :: es) [] pos) (tRc ta) := by
  intro pins s σ H Q I h
  refine Call_ (ld_blt I hg hm boot_range (callWith_type1 (thn (ha.run pos pins s σ H _ I h) fun us s1 ⟨vs, H1, I1, r1, q1⟩ => ?_) hs hpl))
  obtain ⟨i, j, c, n, e, hc, hn, q⟩ := q1
  rcases e with e | ⟨e, ec⟩ | ⟨e, ei, ec⟩
  · subst e
    cases r1 with
    | cons r rr =>
      cases rr with
      | cons r' rr =>
        cases rr with
        | cons r'' rr =>
          cases rr
          obtain ⟨t, rfl⟩ := r
          obtain ⟨t', rfl⟩ := r'
          obtain ⟨t'', rfl⟩ := r''
          exact call_range_3 hc.1 ⟨_, i, j, c, n, _, _, _, H1, rfl, IsRange.new .., hc, hn, I1.kept (t' := s1.toks) fun b o e => Heap.get?_push_of_some _ e, q⟩ (.inl (PyProof.noPylong_small hc.2.1))
  · subst e ec
    cases r1 with
    | cons r rr =>
      cases rr with
      | cons r' rr =>
        cases rr
        obtain ⟨t, rfl⟩ := r
        obtain ⟨t', rfl⟩ := r'
        exact call_range_2 ⟨_, i, j, 1, n, _, _, _, H1, rfl, IsRange.new .., hc, hn, I1.kept fun b o e => Heap.get?_push_of_some _ e, q⟩
  · subst e ei ec
    cases r1 with
    | cons r rr =>
      cases rr
      obtain ⟨t, rfl⟩ := r
      exact call_range_1 ⟨_, 0, j, 1, n, _, _, _, H1, rfl, IsRange.new .., hc, hn, I1.kept fun b o e => Heap.get?_push_of_some _ e, q⟩
def rgC (a c : Int) (n : Nat) : List V := (List.range n).map fun (i : Nat) => V.int (a + (i : Int) * c)
theorem rps_rgC {a c : Int} {n : Nat} : Rps K F (rgC a c n) (rngC a c n) := by
  unfold rgC rngC
  induction (List.range n) with
  | nil => exact .nil
  | cons i r ih => exact .cons (.int _) ih
theorem vals_rgC {a c : Int} {n : Nat} {acc : Array Value} (h : ItemsOf (fun i v => ∃ t, v = .int (a + i * c) t) acc n) : Vals (rgC a c n) acc.toList := by
  have e : acc.toList.length = n := by rw [Array.length_toList]; exact h.1
  unfold rgC
  rw [← e]
  refine vals_of_get acc.toList _ fun j u hj => ?_
  obtain ⟨t, rfl⟩ := h.2 j u (by rw [← hj, Array.getElem?_toList])
  exact ⟨t, rfl⟩
theorem rgC_len {a c : Int} {n : Nat} : (rgC a c n).length = n := by simp [rgC]
def tLstRc (te : St → Hp → (Int → Int → Nat → Hp → Prop) → Prop) : TE := fun σ H Q => te σ H fun a c n H1 => ∀ q, H1 q = none → Q (.ref q) (upd H1 q (.lst (rgC a c n)))
def tTupRc (te : St → Hp → (Int → Int → Nat → Hp → Prop) → Prop) : TE := fun σ H Q => te σ H fun a c n H1 => ∀ q, H1 q = none → Q (.ref q) (upd H1 q (.tup (rgC a c n)))
variable {te : St → Hp → (Int → Int → Nat → Hp → Prop) → Prop}
theorem pe_lstRc (hc : X.calm = true) (hg : Gl X "list") (hm : X.mg "list" = none) (he : PRc X e te) (na : starEach [e] X.env = (false, eval e X.env) :: starEach [] X.env := by rfl) : PE X (.Call (.Name "list" p) [e] [] pos) (tLstRc te) := by
  refine ⟨fun pins s σ H Q I h => ?_⟩
  refine Call_ (ld_blt I hg hm boot_list (callWith_type1 (args_cons (thn (he pins s σ H _ I h) fun x s1 ⟨r, a, b, c, n, t, u, v, H1, ex, hr, ok, hn, I1, q⟩ => args_nil ?_) na) na))
  subst ex
  refine call_list_range (n := n) (I1.ok.hd hc) hr ok.2.2.1 ok.2.2.2 hn fun h' tk acc c' hk e' hi => ?_
  refine ⟨.ref s1.heap.objs.size, upd H1 s1.heap.objs.size (.lst (rgC a c n)), I1.laid hk (Nat.le_refl _) (show ObjOk X.prog X.w _ _ _ (.lst (rgC a c n)) from ⟨?_, acc.toList, c', vals_rgC hi, ?_⟩), rfl, q _ (I1.hok.fresh (Nat.le_refl _))⟩
  · rw [rgC_len, sizeLine_eq]; omega
  · rw [Array.toArray_toList]; exact e'
theorem pe_tupRc (hc : X.calm = true) (hg : Gl X "tuple") (hm : X.mg "tuple" = none) (he : PRc X e te) (na : starEach [e] X.env = (false, eval e X.env) :: starEach [] X.env := by rfl) : PE X (.Call (.Name "tuple" p) [e] [] pos) (tTupRc te) := by
  refine ⟨fun pins s σ H Q I h => ?_⟩
  refine Call_ (ld_blt I hg hm boot_tuple (callWith_type1 (args_cons (thn (he pins s σ H _ I h) fun x s1 ⟨r, a, b, c, n, t, u, v, H1, ex, hr, ok, hn, I1, q⟩ => args_nil ?_) na) na))
  subst ex
  refine call_tuple_range (n := n) (I1.ok.hd hc) hr ok.2.2.1 ok.2.2.2 hn fun h' tk acc hk hi => ?_
  have I2 : Inv X pins σ H1 { s1 with heap := h', toks := tk } := I1.kept hk
  refine ⟨.ref h'.objs.size, upd H1 h'.objs.size (.tup (rgC a c n)), I2.laid (t' := tk) (fun c o e => Heap.get?_push_of_some _ e) (Nat.le_refl _) (show ObjOk X.prog X.w _ _ _ (.tup (rgC a c n)) from ⟨?_, acc.toList, vals_rgC hi, ?_⟩), rfl, q _ (I2.hok.fresh (Nat.le_refl _))⟩
  · rw [rgC_len, sizeLine_eq]; omega
  · rw [Array.toArray_toList]; exact IsTup.new _ _
/-- what range is asked -/
def Rg (ds : List D) (i c : Int) (n : Nat) : Prop := ∃ j, (ds = [.int i, .int j, .int c] ∨ (ds = [.int i, .int j] ∧ c = 1) ∨ (ds = [.int j] ∧ i = 0 ∧ c = 1)) ∧ RgC i j c n ∧ n ≤ 2 ^ 24
theorem rg1 {j : Int} (h : -16777216 ≤ j ∧ j ≤ 16777216) : Rg [.int j] 0 1 j.toNat := ⟨j, .inr (.inr ⟨rfl, rfl, rfl⟩), by have := rgc_pos (i := 0) (j := j) (by omega) (by omega) (by omega) (by omega); rwa [Int.sub_zero] at this, by omega⟩
theorem rg2 {i j : Int} (h : (0 ≤ i ∧ i ≤ 16777216) ∧ -16777216 ≤ j ∧ j ≤ 16777216) : Rg [.int i, .int j] i 1 (j - i).toNat := ⟨j, .inr (.inl ⟨rfl, rfl⟩), rgc_pos (by omega) (by omega) (by omega) (by omega), by omega⟩
theorem rg3 {i j : Int} (h : (-1000000 ≤ i ∧ i ≤ 1000000) ∧ -1000000 ≤ j ∧ j ≤ 1000000) : Rg [.int i, .int j, .int (-1)] i (-1) (i - j).toNat := ⟨j, .inl rfl, RgC.neg (by omega) (by omega) (by omega) (by omega), by omega⟩
theorem Rg.raw {ds : List D} {vs : List V} {i c : Int} {n : Nat} (h : Rg ds i c n) (r : Rps K F vs ds) : ∃ i' j c' n', (vs = [.int i', .int j, .int c'] ∨ (vs = [.int i', .int j] ∧ c' = 1) ∨ (vs = [.int j] ∧ i' = 0 ∧ c' = 1)) ∧ RgC i' j c' n' ∧ n' ≤ 2 ^ 24 ∧ i' = i ∧ c' = c ∧ n' = n := by
  obtain ⟨j, h, hr, hn⟩ := h
  rcases h with rfl | ⟨rfl, hc⟩ | ⟨rfl, hi, hc⟩
  · cases r with | cons h1 r => cases r with | cons h2 r => cases r with | cons h3 r => cases r; cases h1; cases h2; cases h3; exact ⟨i, j, c, n, .inl rfl, hr, hn, rfl, rfl, rfl⟩
  · cases r with | cons h1 r => cases r with | cons h2 r => cases r; cases h1; cases h2; exact ⟨i, j, c, n, .inr (.inl ⟨rfl, hc⟩), hr, hn, rfl, rfl, rfl⟩
  · cases r with | cons h1 r => cases r; cases h1; exact ⟨i, j, c, n, .inr (.inr ⟨rfl, hi, hc⟩), hr, hn, rfl, rfl, rfl⟩
theorem ex_tupR {p' pos' : Pos} (hc : X.calm = true) (hmt : X.mg "tuple" = none) (hm : X.mg "range" = none) (h : AX X J (a :: es) ρ M fun ds M1 => ∃ i c n, Rg ds i c n ∧ P (.tup (rngC i c n)) M1) (hgt : Gl X "tuple" := by rfl) (hg : Gl X "range" := by rfl)
    (hs : starEach (a :: es) X.env = (false, eval a X.env) :: starEach es X.env := by rfl) (hpl : (backTo pos (starEach es X.env)).any (·.1) = false := by rfl) (na : starEach [.Call (.Name "range" p) (a :: es) [] pos] X.env = (false, eval (.Call (.Name "range" p) (a :: es) [] pos) X.env) :: starEach [] X.env := by rfl) :
    EX X J (.Call (.Name "tuple" p') [.Call (.Name "range" p) (a :: es) [] pos] [] pos') ρ M P :=
  ex_of (pe_tupRc hc hgt hmt (prc hg hm pa_any hs hpl) na) fun F σ H Q st k => h.go st fun ds vs M1 F1 H1 q e1 o1 r1 => by
    obtain ⟨i, c, n, hr, q⟩ := q
    obtain ⟨i', j, c', n', h1, h2, h3, rfl, rfl, rfl⟩ := hr.raw r1
    exact ⟨i', j, c', n', h1, h2, h3, fun l hl => k _ _ _ _ _ q (e1.trans (o1.fixSame hl)) (o1.fix hl) (.tup (.inl (.inl upd_same)) rps_rgC)⟩
theorem ex_lstR {p' pos' : Pos} (hc : X.calm = true) (hmt : X.mg "list" = none) (hm : X.mg "range" = none) (h : AX X J (a :: es) ρ M fun ds M1 => ∃ i c n, Rg ds i c n ∧ P (.lst (rngC i c n)) M1) (hgt : Gl X "list" := by rfl) (hg : Gl X "range" := by rfl)
    (hs : starEach (a :: es) X.env = (false, eval a X.env) :: starEach es X.env := by rfl) (hpl : (backTo pos (starEach es X.env)).any (·.1) = false := by rfl) (na : starEach [.Call (.Name "range" p) (a :: es) [] pos] X.env = (false, eval (.Call (.Name "range" p) (a :: es) [] pos) X.env) :: starEach [] X.env := by rfl) :
    EX X J (.Call (.Name "list" p') [.Call (.Name "range" p) (a :: es) [] pos] [] pos') ρ M P :=
  ex_of (pe_lstRc hc hgt hmt (prc hg hm pa_any hs hpl) na) fun F σ H Q st k => h.go st fun ds vs M1 F1 H1 q e1 o1 r1 => by
    obtain ⟨i, c, n, hr, q⟩ := q
    obtain ⟨i', j, c', n', h1, h2, h3, rfl, rfl, rfl⟩ := hr.raw r1
    exact ⟨i', j, c', n', h1, h2, h3, fun l hl => k _ _ _ _ _ q (e1.trans (o1.fixSame hl)) (o1.fix hl) (.lst upd_same rps_rgC)⟩
theorem wk_rngC {lo c : Int} {n : Nat} : Wk K F (Itc lo c n) (rngC lo c n) :=
  ⟨fun i H hi s => by rw [rngC_len] at hi; exact hi, fun H s => by rw [rngC_len]; exact Nat.le_refl _, fun i d H x H' F1 M hd s o y => by
    obtain ⟨rfl, rfl⟩ := y
    obtain ⟨_, rfl⟩ := rngC_at hd
    exact ⟨F1, Same.refl _, o, .int _⟩⟩
theorem ix_range3 {tg : Expr} {P : List D → Mem → Prop} (hm : X.mg "range" = none) (h : AX X J [a, b, c] ρ M fun ds M2 => ∃ i j, ds = [.int i, .int j, .int (-1)] ∧ ((-1000000 ≤ i ∧ i ≤ 1000000) ∧ -1000000 ≤ j ∧ j ≤ 1000000) ∧ P (rngC i (-1) (i - j).toNat) M2) (hg : Gl X "range" := by rfl)
    (hs : starEach [a, b, c] X.env = (false, eval a X.env) :: starEach [b, c] X.env := by rfl) (hpl : (backTo pos (starEach [b, c] X.env)).any (·.1) = false := by rfl) : IX X J tg (.Call (.Name "range" p) [a, b, c] [] pos) ρ M P :=
  ix_of (pi_range3 hg hm pa_any hs hpl) fun F σ H R s k => h.go s fun ds vs M1 F1 H1 q e1 o1 r1 => by
    obtain ⟨i, j, rfl, hj, q2⟩ := q
    cases r1 with | cons h1 r1 => cases r1 with | cons h2 r1 => cases r1 with | cons h3 r1 =>
      cases r1
      cases h1; cases h2; cases h3
      exact ⟨i, j, -1, (i - j).toNat, rfl, RgC.neg (by omega) (by omega) (by omega) (by omega), k _ _ M1 F1 H1 q2 e1 o1 wk_rngC⟩
end
end DX
namespace DX
open PySem PySem.Spec L2
open SX
section
variable {X : Cx} {J : Gh} {M : Mem} {P : D → Mem → Prop}
/-! ### texts by their signs -/
def isS (c : Nat) : Prop := c = 71 ∨ c = 75 ∨ c = 80
def sgl (L : List Nat) : List D := L.map fun c => D.str (S [c])
theorem tl_S {l : List Nat} : (S l).cps.toList = l := rfl
theorem joinL_one : ∀ L : List Nat, TL.joinL [] (L.map fun c => [c]) = L
  | [] => rfl
  | [c] => rfl
  | c :: d :: r => by
    have := joinL_one (d :: r)
    simp only [List.map_cons] at this
    simp only [List.map_cons, TL.joinL, this]
    simp
theorem sgl_toS (L : List Nat) : (sgl L).map toS = (L.map fun c => [c]).map S := by
  unfold sgl; rw [List.map_map, List.map_map]; rfl
theorem empty_S : ("" : Str) = S [] := by decide
theorem join_sgl (L : List Nat) : Txt.join "" ((sgl L).map toS) = S L := by
  rw [sgl_toS, empty_S, join_S, joinL_one]
theorem sgl_all (L : List Nat) : AllS (sgl L) := alls_map
theorem sgl_len {L : List Nat} : (sgl L).length = L.length := by simp [sgl]
theorem sgl_size : ∀ {L : List Nat}, sizeJ (sgl L) = L.length
  | [] => rfl
  | c :: r => by
    have := sgl_size (L := r)
    unfold sizeJ sgl at this ⊢
    simp only [List.map_cons, List.sum_cons, this, List.length_cons]
    show (S [c]).length + _ = _
    rw [S_len]; simp; omega
theorem sgl_rev {L : List Nat} : (sgl L).reverse = sgl L.reverse := by simp [sgl]
theorem sgl_app {L R : List Nat} : sgl L ++ sgl R = sgl (L ++ R) := by simp [sgl]
theorem signs_S {l : List Nat} : signs (S l) = sgl l := rfl
theorem id_strA {z : Str} {i : Int} (h : 0 ≤ i ∧ i < (z.cps.toList.length : Int)) (hz : z.cps.toList.length ≤ 1000000) (p : P (.str (S [z.cps.toList.getD i.toNat 0])) M) : ID X (.str z) (.int i) M P := by
  have hi : i.toNat < z.cps.toList.length := by omega
  refine id_str (n := z.cps.toList.getD i.toNat 0) (by unfold Str.length; rw [← Array.length_toList]; exact hz) ?_ p
  have := atI_nat (xs := z.cps.toList) (j := i.toNat) (v := z.cps.toList.getD i.toNat 0) (by rw [List.getD_eq_getElem?_getD, List.getElem?_eq_getElem hi]; rfl)
  rwa [Int.toNat_of_nonneg h.1] at this
/-! ### states of positions -/
def stp (l : List Nat) (p : Int) : Nat := l.getD (l.length - 1 - p.toNat) 0
def firstS (l : List Nat) : List Int → Nat
  | [] => 80
  | p :: ps => if stp l p = 80 then firstS l ps else stp l p
def carryS (c : Nat) : Int := if c = 71 then 1 else 0
def down (a b : Int) : List Int := (List.range (a - b).toNat).map fun (i : Nat) => a + (i : Int) * (-1)
theorem rngC_down {a b : Int} : rngC a (-1) (a - b).toNat = (down a b).map D.int := by unfold rngC down; rw [List.map_map]; rfl
theorem down_len {a b : Int} : (down a b).length = (a - b).toNat := by simp [down]
theorem down_mem {a b p : Int} (h : p ∈ down a b) : b < p ∧ p ≤ a := by
  unfold down at h
  simp only [List.mem_map, List.mem_range] at h
  obtain ⟨i, hi, rfl⟩ := h
  omega
theorem down_nil {a b : Int} (h : a ≤ b) : down a b = [] := by unfold down; rw [show (a - b).toNat = 0 by omega]; rfl
theorem down_cons {a b : Int} (h : b < a) : down a b = a :: down (a - 1) b := by
  unfold down
  rw [show (a - b).toNat = (a - 1 - b).toNat + 1 by omega, List.range_succ_eq_map, List.map_cons, List.map_map]
  congr 1
  · simp
  · apply List.map_congr_left
    intro i _
    simp only [Function.comp]
    omega
def dueP (n o : Int) (r : Bool) : List Int := if r then down o 0 ++ down n o else down o (-1)
theorem dueP_mem {n o p : Int} {r : Bool} (h0 : 0 ≤ o ∧ o ≤ n) (h : p ∈ dueP n o r) : 0 ≤ p ∧ p ≤ n := by
  unfold dueP at h
  split at h
  · rw [List.mem_append] at h
    rcases h with h | h <;> have := down_mem h <;> omega
  · have := down_mem h; omega
def upto (a b : Int) : List Int := (List.range (b - a).toNat).map fun (i : Nat) => a + (i : Int)
theorem rngD_upto {a b : Int} : rngD a (b - a).toNat = (upto a b).map D.int := by unfold rngD upto; rw [List.map_map]; rfl
theorem upto_mem {a b p : Int} (h : p ∈ upto a b) : a ≤ p ∧ p < b := by
  unfold upto at h
  simp only [List.mem_map, List.mem_range] at h
  obtain ⟨i, hi, rfl⟩ := h
  omega
theorem upto_len {a b : Int} : (upto a b).length = (b - a).toNat := by simp [upto]
def isRing (l : List Nat) : Bool := decide (stp l 0 = 80)
def trueS (l : List Nat) (o : Int) : Int := carryS (firstS l (dueP ((l.length : Int) - 1) o (isRing l)))
def trueAll (l : List Nat) : List Int := (upto (if isRing l then 1 else 0) ((l.length : Int) - 1 + 1)).map (trueS l)
theorem sceq_S {a b : List Nat} : sceq (.str (S a)) (.str (S b)) = decide (a = b) := by
  show decide (S a = S b) = _
  exact decide_eq_decide.mpr ⟨S_inj, fun h => by rw [h]⟩
theorem goods_ints : ∀ {l : List Int}, (∀ i ∈ l, -(2 ^ 200) ≤ i ∧ i ≤ 2 ^ 200) → goods (l.map D.int)
  | [], _ => trivial
  | i :: r, h => ⟨h i (by simp), goods_ints fun j hj => h j (by simp [hj])⟩
theorem wts_ints : ∀ {l : List Int}, wts (l.map D.int) = 2002 * l.length
  | [] => rfl
  | i :: r => by rw [List.map_cons, wts, wts_ints, List.length_cons]; show 2000 + 2 + _ = _; omega
theorem deps_ints : ∀ {l : List Int}, deps (l.map D.int) = 0
  | [] => rfl
  | i :: r => by rw [List.map_cons, deps, deps_ints]; rfl
theorem tint {l : List Int} (h : ∀ i ∈ l, -(2 ^ 200) ≤ i ∧ i ≤ 2 ^ 200) (hl : l.length ≤ 7000) : good (.tup (l.map D.int)) ∧ wt (.tup (l.map D.int)) ≤ 16000000 ∧ dep (.tup (l.map D.int)) ≤ 50 :=
  ⟨goods_ints h, by rw [wt, wts_ints]; omega, by rw [dep, deps_ints]; omega⟩
theorem lint {l : List Int} (h : ∀ i ∈ l, -(2 ^ 200) ≤ i ∧ i ≤ 2 ^ 200) (hl : l.length ≤ 7000) : good (.lst (l.map D.int)) ∧ wt (.lst (l.map D.int)) ≤ 16000000 ∧ dep (.lst (l.map D.int)) ≤ 50 :=
  ⟨goods_ints h, by rw [wt, wts_ints]; omega, by rw [dep, deps_ints]; omega⟩
theorem lit_G : ("G" : Str) = S [71] := by decide
theorem lit_K : ("K" : Str) = S [75] := by decide
theorem lit_P : ("P" : Str) = S [80] := by decide
theorem getD_mem {l : List Nat} {i : Nat} (h : i < l.length) : l.getD i 0 ∈ l := by
  rw [List.getD_eq_getElem?_getD, List.getElem?_eq_getElem h]; exact List.getElem_mem h
end
end DX
namespace DX
open PySem PySem.Spec L2
open SX
section
variable {X : Cx} {J : Gh} {M : Mem} {P : D → Mem → Prop}
/-! ### slices of texts and tuples -/
def cutA {α : Type} (xs : List α) (lo hi : Option Int) : List α := (xs.drop (HT.sIx xs.length 0 lo)).take (HT.sIx xs.length xs.length hi - HT.sIx xs.length 0 lo)
theorem sd_str {z : Str} {l u : Option Int} (hz : z.cps.toList.length ≤ 1000000) (p : P (.str (S (cutA z.cps.toList l u))) M) : SD X (.str z) l u M P :=
  ⟨_, sl_str, fun F H v Q o rx k => by
    cases rx
    have hl : z.length = z.cps.toList.length := by unfold Str.length; rw [Array.length_toList]
    refine ⟨z, rfl, by rw [sizeLine_eq]; omega, ?_⟩
    have e : cutS z l u = S (cutA z.cps.toList l u) := by unfold cutS cutA; rw [hl]
    rw [e]
    exact k.here p o (.str _)⟩
theorem sd_tup {ds : List D} {l u : Option Int} (hw : ¬ (HT.sIx ds.length 0 l = 0 ∧ HT.sIx ds.length ds.length u = ds.length)) (p : P (.tup (cutD ds l u)) M) : SD X (.tup ds) l u M P :=
  ⟨_, sl_tup, fun F H v Q o rx k => by
    cases rx with
    | tup h1 r1 => exact ⟨_, _, rfl, same_t o.ex h1, by rw [r1.length]; exact hw, fun q hq => k _ _ _ _ _ p (o.fixSame hq) (o.fix hq) (.tup (.inl (.inl upd_same)) ((cut_of r1 l u).mono (o.fixSame hq)))⟩⟩
theorem cut_init {α : Type} {xs : List α} : cutA xs none (some (-1)) = xs.dropLast := by
  unfold cutA
  rw [HT.sIx_none, List.drop_zero, Nat.sub_zero, List.dropLast_eq_take]
  congr 1
  show (if (-1 : Int) < 0 then (-1 + (xs.length : Int)).toNat else min (-1 : Int).toNat xs.length) = xs.length - 1
  rw [if_pos (by decide)]
  omega
theorem init_rev {c : Nat} {L : List Nat} : cutA (c :: L).reverse none (some (-1)) = L.reverse := by
  rw [cut_init, List.reverse_cons, List.dropLast_concat]
theorem od_and1 {i : Int} (p : P (.int (i % 2)) M) : OD X (binaryOp .BitAnd) (.int i) (.int 1) M P := by
  have h := od_andM (X := X) (M := M) (P := P) (i := i) (k := 1) (by simpa using p)
  exact h
/-- a list that changed is left behind -/
theorem ex_drop {e : Expr} {ρ : DEnv} (h : EX X J e ρ M fun d M1 => ∃ p ds M0, M0 p = none ∧ M1 = up M0 p (.lst ds) ∧ P d M0) : EX X J e ρ M P :=
  ex_of h fun F σ H Q st k => ⟨F, st, fun d v M' F' H' q e1 o r => by
    obtain ⟨p, ds, M0, hn, rfl, q⟩ := q
    obtain ⟨_, ys, hy, ry⟩ := o.mt p _ up_same
    obtain ⟨s1, o4⟩ := o.freeze up_same hy
    rw [rm_up hn] at o4
    exact k _ _ _ _ _ q (e1.trans s1) o4 (r.mono s1)⟩
theorem g1_par3 {a b c : Expr} {ρ : DEnv} {B : Bd} {pos : Pos} {x y z : Str} {px py pz pt : Pos} {kt k2 pt2} (i j l : Nat) (hc : X.calm = true) (hij : i ≠ j) (hil : i ≠ l) (hjl : j ≠ l) (h : AX X J [a, b, c] ρ M fun ds M1 => ∃ d1 d2 d3, ds = [d1, d2, d3] ∧ B.nx (put (put (put ρ i d1) j d2) l d3) M1)
    (hN : X.N.Nodup := by rfl) (hi : X.N[i]? = some x := by rfl) (hj : X.N[j]? = some y := by rfl) (hl : X.N[l]? = some z := by rfl) (hx : X.env.scope.names.lookup x = some .local := by rfl) (hy : X.env.scope.names.lookup y = some .local := by rfl) (hz : X.env.scope.names.lookup z = some .local := by rfl)
    (hw : swappedStores [.Tuple [.Name x px, .Name y py, .Name z pz] kt pt] (.Tuple [a, b, c] k2 pt2) X.env = pure (some [x, y, z]) := by rfl)
    (hs : swapsWithSole [.Tuple [.Name x px, .Name y py, .Name z pz] kt pt] (.Tuple [a, b, c] k2 pt2) pos.line X.env = pure false := by rfl) :
    G1 X J (.Assign [.Tuple [.Name x px, .Name y py, .Name z pz] kt pt] (.Tuple [a, b, c] k2 pt2) pos) ρ M B :=
  g1_of (ps_par3 hc hN hi hj hl hij hil hjl hx hy hz pa_any hw hs) fun F σ H E s k => h.go s fun ds vs M1 F1 H1 p e1 o1 r1 => by
    obtain ⟨d1, d2, d3, rfl, p⟩ := p
    cases r1 with
    | cons h1 r1 => cases r1 with
      | cons h2 r1 => cases r1 with
        | cons h3 r1 =>
          cases r1
          exact ⟨_, _, _, rfl, k.nx F1 _ H1 _ M1 p e1 ((((s.en.mono e1).put i h1).put j h2).put l h3) o1⟩
/-! ### numbers by their bits -/
def acc (f : Nat → Int) : Nat → Int
  | 0 => 0
  | i + 1 => acc f i + 2 ^ i * f i
theorem acc_in {f : Nat → Int} (hf : ∀ i, 0 ≤ f i ∧ f i ≤ 1) : ∀ n, 0 ≤ acc f n ∧ acc f n < 2 ^ n
  | 0 => ⟨Int.le_refl 0, by show (0 : Int) < 2 ^ 0; decide⟩
  | n + 1 => by
    have ih := acc_in hf n
    have h1 := hf n
    have h2 : 0 ≤ 2 ^ n * f n := Int.mul_nonneg (Int.le_of_lt (pow_pos2 n)) h1.1
    have h3 : 2 ^ n * f n ≤ 2 ^ n * 1 := Int.mul_le_mul_of_nonneg_left h1.2 (Int.le_of_lt (pow_pos2 n))
    rw [acc, Int.pow_succ]
    omega
theorem acc_bit {f : Nat → Int} (hf : ∀ i, 0 ≤ f i ∧ f i ≤ 1) : ∀ n i, i < n → acc f n / 2 ^ i % 2 = f i
  | n + 1, i, h => by
    have hn := acc_in hf n
    have h1 := hf n
    rw [acc]
    by_cases e : i = n
    · subst e
      rw [Int.add_mul_ediv_left _ _ (by have := pow_pos2 i; omega), Int.ediv_eq_zero_of_lt hn.1 hn.2]
      omega
    · have ih := acc_bit hf n i (by omega)
      have hp : (2 : Int) ^ n = 2 ^ i * (2 * 2 ^ (n - i - 1)) := by
        have e2 : n = i + (n - i - 1 + 1) := by omega
        rw [← Int.pow_succ', ← Int.pow_add, ← e2]
      rw [hp, Int.mul_assoc, Int.add_mul_ediv_left _ _ (by have := pow_pos2 i; omega), Int.mul_assoc]
      omega
/-- the state that two bits make -/
def ltr (x y : Int) : Nat := if x ≠ y then 80 else if x = 1 then 71 else 75
def stL (a b : Int) (n : Nat) : List Nat := (List.range n).map fun i => ltr (a / 2 ^ i % 2) (b / 2 ^ i % 2)
theorem stL_len {a b : Int} {n : Nat} : (stL a b n).length = n := by simp [stL]
theorem stL_succ {a b : Int} {n : Nat} : stL a b (n + 1) = stL a b n ++ [ltr (a / 2 ^ n % 2) (b / 2 ^ n % 2)] := by simp [stL, List.range_succ]
theorem stL_at {a b : Int} {n i : Nat} (h : i < n) : (stL a b n).getD i 0 = ltr (a / 2 ^ i % 2) (b / 2 ^ i % 2) := by
  unfold stL
  rw [List.getD_eq_getElem?_getD, List.getElem?_map, List.getElem?_range h]; rfl
theorem stL_isS {a b : Int} {n : Nat} : ∀ c ∈ stL a b n, isS c := by
  intro c hc
  unfold stL at hc
  simp only [List.mem_map] at hc
  obtain ⟨i, _, rfl⟩ := hc
  unfold ltr isS
  split
  · exact .inr (.inr rfl)
  · split
    · exact .inl rfl
    · exact .inr (.inl rfl)
theorem strOk_S {l : List Nat} (h : ∀ c ∈ l, isS c) : PyData.strOk (S l) = true := by
  unfold PyData.strOk
  simp only [List.all_toArray, List.all_eq_true, decide_eq_true_eq]
  intro c hc
  rcases h c hc with g | g | g <;> rw [g] <;> decide
theorem good_S {l : List Nat} (h : ∀ c ∈ l, isS c) (hl : l.length ≤ 1000) : good (.str (S l)) ∧ wt (.str (S l)) ≤ 16000000 ∧ dep (.str (S l)) ≤ 50 :=
  ⟨strOk_S h, by show 10 * (S l).length + 2 ≤ _; rw [S_len]; omega, Nat.zero_le _⟩
theorem isS_rev {c : Nat} {L : List Nat} (hc : isS c) (h : ∀ c ∈ L, isS c) : ∀ d ∈ (c :: L).reverse, isS d := by
  intro d hd
  rw [List.mem_reverse, List.mem_cons] at hd
  rcases hd with rfl | hd
  · exact hc
  · exact h d hd
theorem acc_congr {f g : Nat → Int} : ∀ n, (∀ i, i < n → f i = g i) → acc f n = acc g n
  | 0, _ => rfl
  | n + 1, h => by rw [acc, acc, acc_congr n fun i hi => h i (by omega), h n (by omega)]
def fA (L : List Nat) (i : Nat) : Int := if L.getD i 0 = 75 then 0 else 1
def fB (L : List Nat) (i : Nat) : Int := if L.getD i 0 = 71 then 1 else 0
theorem fA_in {L : List Nat} (i : Nat) : 0 ≤ fA L i ∧ fA L i ≤ 1 := by unfold fA; split <;> omega
theorem fB_in {L : List Nat} (i : Nat) : 0 ≤ fB L i ∧ fB L i ≤ 1 := by unfold fB; split <;> omega
theorem stL_back {L : List Nat} (h : ∀ c ∈ L, isS c) : stL (acc (fA L) L.length) (acc (fB L) L.length) L.length = L := by
  refine List.ext_getElem (by rw [stL_len]) fun i h1 h2 => ?_
  have e : L.getD i 0 = L[i] := by rw [List.getD_eq_getElem?_getD, List.getElem?_eq_getElem h2]; rfl
  have e1 : (stL (acc (fA L) L.length) (acc (fB L) L.length) L.length)[i] = ltr (fA L i) (fB L i) := by
    have e3 := stL_at (a := acc (fA L) L.length) (b := acc (fB L) L.length) h2
    rw [List.getD_eq_getElem?_getD, List.getElem?_eq_getElem h1, acc_bit fA_in _ _ h2, acc_bit fB_in _ _ h2] at e3
    exact e3
  rw [e1]
  unfold fA fB
  rw [e]
  rcases h _ (List.getElem_mem h2) with g | g | g <;> rw [g] <;> decide
end
end DX
namespace DX
open PySem PySem.Spec L2
open SX
section
variable {X : Cx} {J : Gh} {M : Mem} {P : D → Mem → Prop}
theorem dx_sub {α β : Sort _} {a a0 : α} {b b0 : β} {p : α → β → Prop} (h : b = b0 ∧ a = a0) (k : p a0 b0) : p a b := by
  obtain ⟨rfl, rfl⟩ := h
  exact k
/-! ### not in a tuple of texts -/
def inS (z : Str) (ds : List D) : Bool := ds.any fun d => decide (toS d = z)
theorem inV_strs {z : Str} : ∀ zs : List Str, inV (.str z) (zs.map V.str) = zs.any fun y => decide (y = z)
  | [] => rfl
  | y :: zs => by
    have ih := inV_strs (z := z) zs
    unfold inV at ih ⊢
    rw [List.map_cons, List.any_cons, List.any_cons, ih]
    rfl
theorem flat_strs : ∀ zs : List Str, (zs.map V.str).all flatV = true
  | [] => rfl
  | y :: zs => by rw [List.map_cons, List.all_cons, flat_strs zs]; rfl
theorem inS_toS {z : Str} {ds : List D} : ((ds.map toS).any fun y => decide (y = z)) = inS z ds := by unfold inS; rw [List.any_map]; rfl
theorem od_notInA {z : Str} {ds : List D} (ha : AllS ds) (p : P (.bl (!inS z ds)) M) : OD X (compareOp .NotIn) (.str z) (.tup ds) M P :=
  ⟨_, op_notIn_seq, fun F H v u Q o rx ry k => by
    cases rx
    cases ry with
    | tup h1 r1 =>
      have e3 := vals_strs (zs := ds.map toS) (by rw [ha]; exact r1)
      subst e3
      refine ⟨_, _, rfl, .inr (same_t o.ex h1), rfl, flat_strs _, ?_⟩
      rw [inV_strs, inS_toS]
      exact k.here p o (.bl _)⟩
theorem od_inA {z : Str} {ds : List D} (ha : AllS ds) (p : P (.bl (inS z ds)) M) : OD X (compareOp .In) (.str z) (.tup ds) M P :=
  ⟨_, op_in_seq, fun F H v u Q o rx ry k => by
    cases rx
    cases ry with
    | tup h1 r1 =>
      have e3 := vals_strs (zs := ds.map toS) (by rw [ha]; exact r1)
      subst e3
      refine ⟨_, _, rfl, .inr (same_t o.ex h1), rfl, flat_strs _, ?_⟩
      rw [inV_strs, inS_toS]
      exact k.here p o (.bl _)⟩
end
/-! ### a look at the module that asks one thing more -/
def lookY (fa : List He.Fa) (fn : List He.DefD) (ex : PySem.W.Frag → Bool) (n : Nat) (g : Addr → Option Obj) : He.AlD × Bool :=
  (He.obsDG n fa fn g, ex (He.frG g (He.asD g n)))
def hookY (n : Nat) (fa : List He.Fa) (fn : List He.DefD) (ex : PySem.W.Frag → Bool) : PySem.W.Hook where
  α := He.AlD × Bool
  obs := fun s => lookY fa fn ex n s.heap.get?
  val := fun _ => (He.valD fn, true)
  says := fun _ h => ∃ K : PySem.W.Frag, K.In h ∧ He.SaysD fa fn K ∧ ex K = true
  of := fun _ _ e => ⟨_, He.frG_in, congrArg Prod.fst e, congrArg Prod.snd e⟩
  keeps := fun _ _ _ ⟨K, hK, c, d⟩ k => ⟨K, PySem.W.Frag.In.keeps hK k, c, d⟩
theorem lookY_eq {n : Nat} {fa : List He.Fa} {fn : List He.DefD} {ex : PySem.W.Frag → Bool} {g : Addr → Option Obj} {s : Shared} (h : ∀ a, g a = s.heap.get? a) : lookY fa fn ex n g = (hookY n fa fn ex).obs s := by
  have e : g = s.heap.get? := funext h
  subst e
  rfl
end DX
namespace DX
open PySem PySem.Spec L2 PyProof.Rows StX

/-! ### calls of any form: values by place, keywords; star parameters -/
/-- t looks names up in the dict at D, one behind another, and ends in what fin says -/
def KwChainE {α : Type} (D : Addr) (fin : Sem α → Prop) : List (Str × Value) → Sem α → Prop
  | [], t => fin t
  | q :: l, t => ∃ (β γ : Type) (k1 : Option Value → Sem β) (k2 : β → Sem γ) (k3 : γ → Sem α) (a : β), t = ((nsGet D q.1 >>= k1) >>= k2) >>= k3 ∧ k1 (some q.2) = pure a ∧ KwChainE D fin l (k2 a >>= k3)
theorem KwChainE.run {α : Type} {K : PySem.W.Frag} {M : Model} {A : Around} {s : Shared} {D : Addr} {fin : Sem α → Prop} {Q : α → Shared → Prop} {E : Value → Shared → Prop} (X : K.In s.heap) (hf : ∀ t, fin t → wpAny M A t Q E s) :
    ∀ {l : List (Str × Value)} {t : Sem α}, (∀ q ∈ l, PySem.W.nsIn K D q.1 = some (some q.2)) → KwChainE D fin l t → wpAny M A t Q E s
  | [], t, _, e => hf t e
  | q :: l, t, hl, e => by
    obtain ⟨β, γ, k1, k2, k3, a, e1, e2, e3⟩ := e
    have l1 : PySem.W.Looks M s.heap (nsGet D q.1 >>= k1) a := (PySem.W.looks_nsIn X (hl q (List.mem_cons_self ..))).andThen (PySem.W.Looks.of_pure e2)
    rw [e1, bind_assoc]
    exact wpAny_bind (l1.here (KwChainE.run X hf (fun p hp => hl p (List.mem_cons_of_mem _ hp)) e3))
abbrev TrV := List D → List D → Mem → (D → Mem → Prop) → Prop
structure FnV (pg : Program) (w : World) (K : PySem.W.Frag) (mg : Str → Option Value) (base : Heap) (gd : Bool) (k : Nat) (f : Addr) (ks : List Str) (T : TrV) : Prop where
  go : ∀ (A : Around) (outer : List PySem.Env) (s : Shared) (H F : Hp) (M : Mem) (ds zs : List D) (P : D → Mem → Prop) (us ws : List Value) (vs xs : List V) (Q : VK), (gd = true → A.guards = some []) → Room k A → Env0 pg w K mg base A outer s H →
    Vals vs us → Vals xs ws → ws.length = ks.length → Ok K F M H → Rps K F vs ds → Rps K F xs zs → T ds zs M P → Kt K F P Q → codeAny (model pg w) A (.call (.ref f) ⟨us, ks.zip ws⟩) (CR CX0 outer pg w H s Q E0) s
/-- a def's body keeps the promise T of what stands in its parameters -/
def BodyOk (pg : Program) (w : World) (K : PySem.W.Frag) (mg : Str → Option Value) (base : Heap) (gd : Bool) (k : Nat) (f : Addr) (qual : Str) (body : List Stmt) (scope : Scope) (N ps : List Str) (T : Tr) : Prop :=
  ∀ (cdv : Value) (A : Around) (outer : List PySem.Env) (s : Shared) (H : Hp) (ds : List D) (M : Mem) (P : D → Mem → Prop), (gd = true → A.guards = some []) → Room k (A.deeper (PyProof.Rows.envOfC qual scope s.heap.objs.size f cdv)) → T ds M P →
      GX (cxOf CX0 pg w K mg base N qual scope f cdv A outer s H E0).nox Gh.triv body (startD (N.length - ps.length) ds) M ⟨fun _ M' => P .non M', P, fun _ _ => False, fun _ _ => False⟩
theorem up_tup_same {H : Hp} {a : Addr} {xs : List V} : upd H a (.tup xs) a = some (.tup xs) := upd_same
section
variable {pg : Program} {w : World} {K : PySem.W.Frag} {mg : Str → Option Value} {base : Heap} {x qual : Str} {params : Arguments} {body : List Stmt} {scope : Scope} {kws : List (Str × V)} {f : Addr} {fd : FuncData} {N pn : List Str} {pv : Str} {k : Nat} {T : Tr} {gd : Bool}
/-- the values in the parameters, from the body on -/
theorem body_run {ps : List Str} (B : BodyOk pg w K mg base gd k f qual body scope N ps T) (S : FnScope N ps scope) (cdv : Value) {A : Around} {outer : List PySem.Env} {s2 : Shared} {H2 F : Hp} {M : Mem} {ds : List D} {vs : List V} {P : D → Mem → Prop} {Q : VK}
    (hg : gd = true → A.guards = some []) (hr : Room k (A.deeper (PyProof.Rows.envOfC qual scope s2.heap.objs.size f cdv))) (hl : vs.length = ps.length) (o : Ok K F M H2) (rd : Rps K F vs ds) (t : T ds M P) (kt : Kt K F P Q) :
    ∃ t, PSs (cxOf CX0 pg w K mg base N qual scope f cdv A outer s2 H2 E0) body t ∧ t { nx := fun _ H' => Q .non H', rt := Q } (L2.start N vs) H2 := by
  have hb := B cdv A outer s2 H2 ds M P hg hr t
  refine ⟨_, PSs.nox (X := cxOf CX0 pg w K mg base N qual scope f cdv A outer s2 H2 E0) (show PSs (cxOf CX0 pg w K mg base N qual scope f cdv A outer s2 H2 E0).nox body _ from hb), F, ⟨?_, o, trivial⟩, ⟨fun F' σ' H' ρ' M' p e en o' => kt _ _ _ _ _ p e o' .non, kt, fun F' σ' H' ρ' M' p => p.elim, fun F' σ' H' ρ' M' p => p.elim⟩⟩
  unfold L2.start
  rw [hl]
  exact En.start _ rd
theorem rps_pick {F : Hp} {vs xs mvs : List V} {ds zs mds : List D} (r : Rps K F vs ds) (rm : Rps K F mvs mds) (rz : Rps K F xs zs) (ix : List Nat) : Rps K F (pick (vs ++ (mvs ++ xs)) ix) (pick (ds ++ (mds ++ zs)) ix) := pick_rps (r.append (rm.append rz)) ix
theorem Rps.split {F : Hp} : ∀ {vs : List V} {d1 d2 : List D}, Rps K F vs (d1 ++ d2) → ∃ v1 v2, vs = v1 ++ v2 ∧ Rps K F v1 d1 ∧ Rps K F v2 d2
  | vs, [], d2, h => ⟨[], vs, rfl, .nil, h⟩
  | _, d :: d1, d2, h => by
    cases h with
    | cons a r =>
      obtain ⟨v1, v2, e, r1, r2⟩ := Rps.split r
      exact ⟨_ :: v1, v2, by rw [e]; rfl, .cons a r1, r2⟩
/-- def f(a, .., *v, k=.., ..) -/
theorem fn_starV (F : FunD K x qual params body scope [] kws f fd) (S : FnScope N (pn ++ [pv]) scope) (B : BodyOk pg w K mg base gd k f qual body scope N (pn ++ [pv]) T) (np : Nat) (ks : List Str) (ms : List (Str × V)) (mds : List D) (ix : List Nat)
    (hms : ∀ q ∈ ms, q ∈ kws) (hmd : ∀ F, Rps K F (ms.map (·.2)) mds) (tp : List D → D) (htp : tp = .tup ∨ tp = .stup) (r0 : Bool)
    (h : ∀ (kV : Value) (D : Addr) (doc pm : Value) (an : Option Addr) (cdv ct : Value) (us rest mv ws : List Value), (kws ≠ [] → kV = .ref D) → (r0 = true → rest = []) → us.length = np → mv.length = ms.length → ws.length = ks.length →
      KwChainE D (fun t => t = (newTuple rest >>= fun t => pure (pn.zip (pick (us ++ (mv ++ ws)) ix) ++ [(pv, t)]))) ((ms.map (·.1)).zip mv) (bindArgs (PySem.W.fnOf x qual params body scope .none kV doc pm an cdv ct) ⟨us ++ rest, ks.zip ws⟩))
    (hix : ∀ (us mv ws : List V), us.length = np → mv.length = ms.length → ws.length = ks.length → (pick (us ++ (mv ++ ws)) ix).length = pn.length) :
    FnV pg w K mg base gd (k + 1) f ks (fun ds zs M P => ∃ d0 dr, ds = d0 ++ dr ∧ d0.length = np ∧ zs.length = ks.length ∧ dr.length ≤ 1000000 ∧ (r0 = true → dr = []) ∧ T (pick (d0 ++ (mds ++ zs)) ix ++ [tp dr]) M P) := by
  obtain ⟨oc, od, dV, kV, doc, pm, an, cdv, ct, osl, rfl, lk, hcd, hD, hK⟩ := F.ex
  obtain rfl : dV = .none := by
    rcases hD with ⟨_, e⟩ | ⟨e, _⟩
    · exact e
    · exact absurd rfl e
  obtain ⟨D, hkV, hq⟩ : ∃ D : Addr, (kws ≠ [] → kV = .ref D) ∧ ∀ q ∈ kws, ∃ u, PySem.W.nsIn K D q.1 = some (some u) ∧ RelV q.2 u := by
    rcases hK with e | ⟨D, e, hq⟩
    · exact ⟨0, fun z => absurd e z, fun q hq => by rw [e] at hq; cases hq⟩
    · exact ⟨D, fun _ => e, hq⟩
  obtain ⟨mv, hml, rmv, hmk⟩ := kwd_vals (ms := ms) fun q hm => hq q (hms q hm)
  refine ⟨fun A outer s H F0 M ds zs P us0 ws vs xs Q hg hr e0 rv rx hw o rd rz t kt => ?_⟩
  obtain ⟨d0, dr, rfl, hd0, hzl, hdr, hd00, t⟩ := t
  obtain ⟨v1, v2, rfl, rd1, rd2⟩ := Rps.split rd
  obtain ⟨us, rest, rfl, r1, r2⟩ := vals_split rv
  have l1 : us.length = np := by rw [← r1.length, rd1.length]; exact hd0
  have hz : rest.length ≤ sizeLine := by rw [← r2.length, rd2.length, sizeLine_eq]; omega
  have hn : H s.heap.objs.size = Option.none := e0.hok.fresh (Nat.le_refl _)
  have lm : mv.length = ms.length := hml
  have vl : (pick (v1 ++ (ms.map (·.2) ++ xs)) ix).length = pn.length := hix _ _ _ (by rw [r1.length]; exact l1) (by rw [List.length_map]) (by rw [rx.length]; exact hw)
  have vr : Vals (pick (v1 ++ (ms.map (·.2) ++ xs)) ix) (pick (us ++ (mv ++ ws)) ix) := pick_vals (r1.append (rmv.append rx)) ix
  refine run_bnd (CX := CX0) (E := E0) lk hcd S hr e0 (G := fun ys H2 => ∃ p, H p = Option.none ∧ ys = pick (v1 ++ (ms.map (·.2) ++ xs)) ix ++ [V.ref p] ∧ H2 = upd H p (.frz { cls := .type "tuple", data := .seq rest.toArray } (.tup v2))) (fun A' Ex Q' hh => ?_) fun s2 H2 ys ⟨p, hp, ey, eH⟩ hr' => ?_
  · refine KwChainE.run (K := K) (e0.mod.kin.keeps fun b o e => (e0.bs b o e).1) (fun t et => ?_) (fun q hq => hmk q hq) (h kV D doc pm an cdv ct us rest mv ws hkV (fun z => List.eq_nil_of_length_eq_zero (by rw [← r2.length, rd2.length, hd00 z]; rfl)) l1 lm hw)
    subst et
    refine wpAny_bind (wpAny_newTuple (wpAny_pure ?_) hz)
    have new : ObjOk pg w (upd H s.heap.objs.size (.frz { cls := .type "tuple", data := .seq rest.toArray } (.tup v2))) (s.heap.push ({ cls := .type "tuple", data := .seq rest.toArray } : Obj)) s.heap.objs.size (.frz { cls := .type "tuple", data := .seq rest.toArray } (.tup v2)) := ⟨Heap.get?_push_size _ rfl, by rw [r2.length]; exact hz, rest, r2, ⟨_, Heap.get?_push_size _ rfl, rfl, _, rfl⟩⟩
    have un := un_laid (fs := frs outer) (s := s) (o := ({ cls := .type "tuple", data := .seq rest.toArray } : Obj)) (u := .frz { cls := .type "tuple", data := .seq rest.toArray } (.tup v2)) hn
    have z := hh _ _ (pick (v1 ++ (ms.map (·.2) ++ xs)) ix ++ [V.ref s.heap.objs.size]) (pick (us ++ (mv ++ ws)) ix ++ [Value.ref s.heap.objs.size]) (env0_laid e0 new) un rfl (fun e s' z => z) (vr.append (.cons rfl .nil))
      (by rw [List.length_append, List.length_append, vl] <;> rfl) ⟨_, hn, rfl, rfl⟩
    rw [List.zip_append (by rw [← vr.length, vl])] at z
    exact z
  · subst ey eH
    have k0 := o.fixSame (o := .frz { cls := .type "tuple", data := .seq rest.toArray } (.tup v2)) hp
    have rt : Rp K (upd F0 p (.frz { cls := .type "tuple", data := .seq rest.toArray } (.tup v2))) (.ref p) (tp dr) := by
      rcases htp with e | e <;> rw [e]
      · exact .tup (.inl (.inr ⟨_, upd_same⟩)) (rd2.mono k0)
      · exact .stup upd_same ⟨rfl, rfl⟩ (rd2.mono k0)
    refine body_run B S cdv hg hr' (by rw [List.length_append, List.length_append, vl] <;> rfl) (o.fix hp) ((pick_rps ((rd1.mono k0).append ((hmd _).append (rz.mono k0))) ix).append (.cons rt .nil)) t (kt.to k0)
/-- def f(a, .., k=..): no star -/
theorem fn_kwV (F : FunD K x qual params body scope [] kws f fd) (S : FnScope N pn scope) (B : BodyOk pg w K mg base gd k f qual body scope N pn T) (np : Nat) (ks : List Str) (ms : List (Str × V)) (mds : List D) (ix : List Nat)
    (hms : ∀ q ∈ ms, q ∈ kws) (hmd : ∀ F, Rps K F (ms.map (·.2)) mds)
    (h : ∀ (kV : Value) (D : Addr) (doc pm : Value) (an : Option Addr) (cdv ct : Value) (us mv ws : List Value), (kws ≠ [] → kV = .ref D) → us.length = np → mv.length = ms.length → ws.length = ks.length →
      KwChainE D (fun t => t = pure (pn.zip (pick (us ++ (mv ++ ws)) ix))) ((ms.map (·.1)).zip mv) (bindArgs (PySem.W.fnOf x qual params body scope .none kV doc pm an cdv ct) ⟨us, ks.zip ws⟩))
    (hix : ∀ (us mv ws : List V), us.length = np → mv.length = ms.length → ws.length = ks.length → (pick (us ++ (mv ++ ws)) ix).length = pn.length) :
    FnV pg w K mg base gd (k + 1) f ks (fun ds zs M P => ds.length = np ∧ zs.length = ks.length ∧ T (pick (ds ++ (mds ++ zs)) ix) M P) := by
  obtain ⟨oc, od, dV, kV, doc, pm, an, cdv, ct, osl, rfl, lk, hcd, hD, hK⟩ := F.ex
  obtain rfl : dV = .none := by
    rcases hD with ⟨_, e⟩ | ⟨e, _⟩
    · exact e
    · exact absurd rfl e
  obtain ⟨D, hkV, hq⟩ : ∃ D : Addr, (kws ≠ [] → kV = .ref D) ∧ ∀ q ∈ kws, ∃ u, PySem.W.nsIn K D q.1 = some (some u) ∧ RelV q.2 u := by
    rcases hK with e | ⟨D, e, hq⟩
    · exact ⟨0, fun z => absurd e z, fun q hq => by rw [e] at hq; cases hq⟩
    · exact ⟨D, fun _ => e, hq⟩
  obtain ⟨mv, hml, rmv, hmk⟩ := kwd_vals (ms := ms) fun q hm => hq q (hms q hm)
  refine ⟨fun A outer s H F0 M ds zs P us ws vs xs Q hg hr e0 rv rx hw o rd rz t kt => ?_⟩
  obtain ⟨hd0, hzl, t⟩ := t
  have l1 : us.length = np := by rw [← rv.length, rd.length]; exact hd0
  have lm : mv.length = ms.length := hml
  have vl : (pick (vs ++ (ms.map (·.2) ++ xs)) ix).length = pn.length := hix _ _ _ (by rw [rv.length]; exact l1) (by rw [List.length_map]) (by rw [rx.length]; exact hw)
  have vr : Vals (pick (vs ++ (ms.map (·.2) ++ xs)) ix) (pick (us ++ (mv ++ ws)) ix) := pick_vals (rv.append (rmv.append rx)) ix
  refine run_bnd (CX := CX0) (E := E0) lk hcd S hr e0 (G := fun ys H2 => ys = pick (vs ++ (ms.map (·.2) ++ xs)) ix ∧ H2 = H) (fun A' Ex Q' hh => ?_) fun s2 H2 ys ⟨ey, eH⟩ hr' => ?_
  · refine KwChainE.run (K := K) (e0.mod.kin.keeps fun b o e => (e0.bs b o e).1) (fun t et => ?_) (fun q hq => hmk q hq) (h kV D doc pm an cdv ct us mv ws hkV l1 lm hw)
    subst et
    exact wpAny_pure (hh s H _ _ e0 Un.refl rfl (fun e s' z => z) vr vl ⟨rfl, rfl⟩)
  · subst ey eH
    exact body_run B S cdv hg hr' vl o (pick_rps (rd.append ((hmd _).append rz)) ix) t kt
end

section
variable {X : Cx} {J : Gh} {e a b c o : Expr} {es : List Expr} {ρ ρ' : DEnv} {M M' : Mem} {F F' H H' : Hp} {σ : L2.St} {B : Bd} {K : PySem.W.Frag} {pos p apos cpos : Pos} {x : Str} {P : D → Mem → Prop}
theorem run_fnV {k : Nat} {gd : Bool} {f : Addr} {ks : List Str} {T : TrV} {pins : List (Addr × Obj)} {s : Shared} {Q : VK} {us ws : List Value} {vs xs : List V} {ds zs : List D} (G : FnV X.prog X.w X.K X.mg X.base gd k f ks T) (hg : gd = true → X.A.guards = some []) (hr : Room k X.A)
    (I : L2.Inv X pins σ H s) (r : Vals vs us) (rx : Vals xs ws) (hw : zs.length = ks.length) (o : Ok X.K F M H) (rd : Rps X.K F vs ds) (rz : Rps X.K F xs zs) (t : T ds zs M P) (kt : Kt X.K F P Q) :
    wpAny (model X.prog X.w) X.A (call (.ref f) us (ks.zip ws)) (EP X pins σ Q) X.xe s := by
  refine wpAny_call (codeAny_mono (G.go X.A X.stack s H F M _ _ P us ws vs xs Q hg hr I.env0 r rx (by rw [← rx.length, rz.length]; exact hw) o rd rz t kt) fun res s' end_ => ?_)
  match res, end_ with
  | .error _, end_ => exact end_.elim
  | .ok (.ret _), end_ => exact I.after end_
  | .ok .next, end_ => exact end_.elim
  | .ok .brk, end_ => exact end_.elim
  | .ok .cont, end_ => exact end_.elim
/-- f(e, .., k = v, ..) -/
theorem ex_callV {k : Nat} {gd : Bool} {f : Addr} {ks : List Str} {T : TrV} {kws : List Keyword} (G : FnV X.prog X.w X.K X.mg X.base gd k f ks T) (hgd : gd = true → X.A.guards = some []) (hr : Room k X.A) (hm : X.mg x = some (.ref f)) (hk : PySem.W.keepIn X.K (.ref f) = true)
    (h : AX X J (e :: es) ρ M fun ds M1 => KX X J kws ρ M1 fun zs M2 => zs.length = ks.length ∧ T ds zs M2 P)
    (hg : Gl X x := by rfl) (hall : (backToKw pos (keywordEach kws X.env)).all (·.1.isSome) = true := by rfl) (hks : (backToKw pos (keywordEach kws X.env)).filterMap (·.1) = ks := by rfl)
    (hdb : (x == ("__debug__" : Str)) = false := by decide) (he : starEach (e :: es) X.env = (false, eval e X.env) :: starEach es X.env := by rfl)
    (hpl : ((backTo pos (starEach (e :: es) X.env)).any (·.1) || (backToKw pos (keywordEach kws X.env)).any (·.1.isNone)) = false := by rfl) : EX X J (.Call (.Name x p) (e :: es) kws pos) ρ M P := by
  refine ⟨fun pins s σ H Q I ⟨F, st, kt⟩ => ?_⟩
  refine wpAny_Call_Name_kw (ld_glob I hg hm ?_ hdb)
  refine PySem.W.callWith_KW (h₀ := X.base) I.ok.mod.kin hk hall (thn ((pa_any (X := X) (es := e :: es)).run pos pins s σ H (fun vs H1 => ∃ F1 M1 ds, Same F F1 ∧ Ok X.K F1 M1 H1 ∧ Rps X.K F1 vs ds ∧ KX X J kws ρ M1 fun zs M2 => zs.length = ks.length ∧ T ds zs M2 P) I
    (h.go st fun ds vs M1 F1 H1 q e1 o1 r1 => ⟨F1, M1, ds, e1, o1, r1, q⟩)) fun us s1 ⟨vs, H1, I1, r, F1, M1, ds, e1, o1, rd, q⟩ => ?_) hpl he
  refine thn ((pk_any (X := X) (kws := kws)).run pos pins s1 σ H1 (fun xs H2 => ∃ F2 M2 zs, Same F1 F2 ∧ Ok X.K F2 M2 H2 ∧ Rps X.K F2 xs zs ∧ zs.length = ks.length ∧ T ds zs M2 P) I1 (q.go (st.to e1 o1) fun zs xs M2 F2 H2 q2 e2 o2 r2 => ⟨F2, M2, zs, e2, o2, r2, q2.1, q2.2⟩)) fun ws s2 ⟨xs, H2, I2, rx, F2, M2, zs, e2, o2, rz, hl, t⟩ => ⟨I2.kIn, ?_⟩
  rw [hks]
  exact run_fnV G hgd hr I2 r rx hl o2 (rd.mono e2) rz t (kt.to (e1.trans e2))
/-- f(k = v, ..) -/
theorem ex_callV0 {k : Nat} {gd : Bool} {f : Addr} {ks : List Str} {T : TrV} {kws : List Keyword} (G : FnV X.prog X.w X.K X.mg X.base gd k f ks T) (hgd : gd = true → X.A.guards = some []) (hr : Room k X.A) (hm : X.mg x = some (.ref f)) (hk : PySem.W.keepIn X.K (.ref f) = true)
    (h : KX X J kws ρ M fun zs M2 => zs.length = ks.length ∧ T [] zs M2 P)
    (hg : Gl X x := by rfl) (hall : (backToKw pos (keywordEach kws X.env)).all (·.1.isSome) = true := by rfl) (hks : (backToKw pos (keywordEach kws X.env)).filterMap (·.1) = ks := by rfl)
    (hdb : (x == ("__debug__" : Str)) = false := by decide) (hpl : ((backTo pos (starEach [] X.env)).any (·.1) || (backToKw pos (keywordEach kws X.env)).any (·.1.isNone)) = false := by rfl) : EX X J (.Call (.Name x p) [] kws pos) ρ M P := by
  refine ⟨fun pins s σ H Q I ⟨F, st, kt⟩ => ?_⟩
  refine wpAny_Call_Name_kw (ld_glob I hg hm ?_ hdb)
  refine PySem.W.callWith_KW0 (h₀ := X.base) I.ok.mod.kin hk hall (thn ((pk_any (X := X) (kws := kws)).run pos pins s σ H (fun xs H2 => ∃ F2 M2 zs, Same F F2 ∧ Ok X.K F2 M2 H2 ∧ Rps X.K F2 xs zs ∧ zs.length = ks.length ∧ T [] zs M2 P) I (h.go st fun zs xs M2 F2 H2 q2 e2 o2 r2 => ⟨F2, M2, zs, e2, o2, r2, q2.1, q2.2⟩)) fun ws s2 ⟨xs, H2, I2, rx, F2, M2, zs, e2, o2, rz, hl, t⟩ => ⟨I2.kIn, ?_⟩) hpl
  rw [hks]
  exact run_fnV (us := []) G hgd hr I2 .nil rx hl o2 .nil rz t (kt.to e2)
/-! ### dict(..) of a tuple of pairs, .get -/
def kD : Key → D
  | .inl i => .int i
  | .inr z => .str z
theorem kD_rp {k : Key} {v : V} (r : Rp K F v (kD k)) : v = kV k := by cases k <;> (cases r; rfl)
def valD (kvs : List (Key × D)) (k : Key) : Option D := (kvs.find? fun kv => decide (kv.1 = k)).map (·.2)
def putD (kvs : List (Key × D)) (k : Key) (v : D) : List (Key × D) :=
  if (kvs.any fun kv => decide (kv.1 = k)) = true then kvs.map (fun kv => if kv.1 = k then (kv.1, v) else kv) else kvs ++ [(k, v)]
def mergeD (kvs more : List (Key × D)) : List (Key × D) := more.foldl (fun acc kv => putD acc kv.1 kv.2) kvs
theorem Rks.get {k : Key} : ∀ {vs : List (Key × V)} {ds : List (Key × D)}, Rks K F vs ds → (valV vs k = none ∧ valD ds k = none) ∨ ∃ v d, valV vs k = some v ∧ valD ds k = some d ∧ Rp K F v d
  | _, _, .nil => .inl ⟨rfl, rfl⟩
  | _, _, .cons (x := y) h r => by
    by_cases e : y = k
    · exact .inr ⟨_, _, valV_pos e, by simp [valD, List.find?_cons, e], h⟩
    · rcases Rks.get (k := k) r with ⟨h1, h2⟩ | ⟨v, d, h1, h2, h3⟩
      · exact .inl ⟨by rw [valV_neg e]; exact h1, by simpa [valD, List.find?_cons, e] using h2⟩
      · exact .inr ⟨v, d, by rw [valV_neg e]; exact h1, by simpa [valD, List.find?_cons, e] using h2, h3⟩
theorem Rks.any {k : Key} : ∀ {vs : List (Key × V)} {ds : List (Key × D)}, Rks K F vs ds → (vs.any fun kv => decide (kv.1 = k)) = ds.any fun kv => decide (kv.1 = k)
  | _, _, .nil => rfl
  | _, _, .cons h r => by rw [List.any_cons, List.any_cons, Rks.any r]
theorem Rks.over {k : Key} {v : V} {d : D} (h : Rp K F v d) : ∀ {vs : List (Key × V)} {ds : List (Key × D)}, Rks K F vs ds → Rks K F (vs.map fun kv => if kv.1 = k then (kv.1, v) else kv) (ds.map fun kv => if kv.1 = k then (kv.1, d) else kv)
  | _, _, .nil => .nil
  | _, _, .cons (x := y) h' r => by
    rw [List.map_cons, List.map_cons]
    by_cases e : y = k
    · rw [if_pos e, if_pos e]; exact .cons h (Rks.over h r)
    · rw [if_neg e, if_neg e]; exact .cons h' (Rks.over h r)
theorem Rks.append : ∀ {v w : List (Key × V)} {d e : List (Key × D)}, Rks K F v d → Rks K F w e → Rks K F (v ++ w) (d ++ e)
  | _, _, _, _, .nil, s => s
  | _, _, _, _, .cons h r, s => .cons h (Rks.append r s)
theorem Rks.put {k : Key} {v : V} {d : D} {vs : List (Key × V)} {ds : List (Key × D)} (h : Rp K F v d) (r : Rks K F vs ds) : Rks K F (putK vs k v) (putD ds k d) := by
  unfold putK putD
  rw [r.any]
  split
  · exact r.over h
  · exact r.append (.cons h .nil)
theorem Rks.merge : ∀ {more : List (Key × V)} {rs : List (Key × D)} {vs : List (Key × V)} {ds : List (Key × D)}, Rks K F more rs → Rks K F vs ds → Rks K F (mergeK vs more) (mergeD ds rs)
  | _, _, _, _, .nil, q => q
  | _, _, _, _, .cons (x := kk) h r, q => by have := Rks.merge r (q.put (k := kk) h); exact this
/-- pairs of keys and values -/
def prsD (kvs : List (Key × D)) : List D := kvs.map fun kv => .tup [kD kv.1, kv.2]
theorem prs_of : ∀ {kvs : List (Key × D)} {vs : List V}, Rps K F vs (prsD kvs) → ∃ (ps : List Addr) (ws : List (Key × V)), vs = ps.map V.ref ∧ Paired (fun q kv => SqT K F q [kV kv.1, kv.2]) ps ws ∧ Rks K F ws kvs
  | [], _, .nil => ⟨[], [], rfl, .nil, .nil⟩
  | kv :: kvs, _, .cons h r => by
    obtain ⟨ps, ws, e1, e2, e3⟩ := prs_of r
    cases h with
    | tup h1 r1 =>
      cases r1 with
      | cons a r1 =>
        cases r1 with
        | cons b r1 =>
          cases r1
          rw [kD_rp a] at h1
          exact ⟨_ :: ps, (kv.1, _) :: ws, by rw [e1]; rfl, .cons h1 e2, .cons b e3⟩
theorem paired_mono {R R' : Addr → (Key × V) → Prop} (i : ∀ a b, R a b → R' a b) : ∀ {xs : List Addr} {ys : List (Key × V)}, Paired R xs ys → Paired R' xs ys
  | _, _, .nil => .nil
  | _, _, .cons h r => .cons (i _ _ h) (paired_mono i r)
/-- the values of pairs, as they stand -/
def PW (h : Heap) (prs : List (Key × Value)) (Ts : List Addr) : Prop := True
/-- dict(xs) of a tuple of pairs whose object is known -/
theorem call_dictT (hcalm : X.calm = true) : CallR X (.type "dict") (fun xs H Q => ∃ (a : Addr) (ob : Obj) (ps : List Addr) (kvs : List (Key × V)), xs = [.ref a] ∧ H a = some (.frz ob (.tup (ps.map V.ref))) ∧ ob.cls = .type "tuple" ∧ ob.dict = none ∧ Paired (fun p kv => SqT X.K H p [kV kv.1, kv.2]) ps kvs ∧
    ∀ p, H p = none → Q (.ref p) (upd H p (.dK (mergeK [] kvs)))) := by
  intro pins s σ H xs us Q I r q
  obtain ⟨a, ob, ps, kvs, ex, hq, hoc, hod, hp, q⟩ := q
  subst ex
  obtain ⟨u, eu, rx⟩ := vals1 r
  subst eu
  cases rx
  obtain ⟨hget, hz, its, rv, ⟨o2, ho2, hc2, n, hdat⟩⟩ := I.hok a _ hq
  rw [hget] at ho2
  cases ho2
  have ei := refs_at rv
  subst ei
  rw [List.length_map] at hz
  obtain ⟨prs, rel, hl, hpr⟩ := pairs_of I hp
  have hpr' : ∀ (j : Nat) (q : Key × Value), prs[j]? = some q → ∃ u : Value, (ps.map Value.ref).toArray[j]? = some (.ref (ps.getD j 0)) ∧ IsTup s.heap (ps.getD j 0) #[u, q.2] ∧ keyIs q.1 u = true := by
    intro j q e
    obtain ⟨b, u, e1, e2, e3⟩ := hpr j q e
    have eb : ps.getD j 0 = b := by rw [List.getD_eq_getElem?_getD, e1]; rfl
    exact ⟨u, by simp [e1, eb], by rw [eb]; exact e2, e3⟩
  have key : ∃ pv : List (Value × Value), pv.length = prs.length ∧ ∀ (j : Nat) (kk v : Value), pv[j]? = some (kk, v) → ∃ kx, prs[j]? = some (kx, v) ∧ keyIs kx kk = true ∧ IsTup s.heap (ps.getD j 0) #[kk, v] := by
    have : ∀ (L : List (Key × Value)) (i0 : Nat), (∀ j q, L[j]? = some q → ∃ u : Value, IsTup s.heap (ps.getD (i0 + j) 0) #[u, q.2] ∧ keyIs q.1 u = true) →
        ∃ pv : List (Value × Value), pv.length = L.length ∧ ∀ (j : Nat) (kk v : Value), pv[j]? = some (kk, v) → ∃ kx, L[j]? = some (kx, v) ∧ keyIs kx kk = true ∧ IsTup s.heap (ps.getD (i0 + j) 0) #[kk, v] := by
      intro L
      induction L with
      | nil => exact fun i0 _ => ⟨[], rfl, fun j kk v e => by simp at e⟩
      | cons q L ih =>
        intro i0 h
        obtain ⟨u, h1, h2⟩ := h 0 q rfl
        obtain ⟨pv, h3, h4⟩ := ih (i0 + 1) fun j q' e => by
          obtain ⟨u, h5, h6⟩ := h (j + 1) q' (by simpa using e)
          exact ⟨u, by rw [show i0 + 1 + j = i0 + (j + 1) by omega]; exact h5, h6⟩
        refine ⟨(u, q.2) :: pv, by simp [h3], fun j kk v e => ?_⟩
        cases j with
        | zero =>
          simp only [List.getElem?_cons_zero, Option.some.injEq, Prod.mk.injEq] at e
          obtain ⟨rfl, rfl⟩ := e
          exact ⟨q.1, rfl, h2, h1⟩
        | succ j =>
          obtain ⟨kx, h5, h6, h7⟩ := h4 j kk v (by simpa using e)
          exact ⟨kx, by simpa using h5, h6, by rw [show i0 + (j + 1) = i0 + 1 + j by omega]; exact h7⟩
    obtain ⟨pv, h1, h2⟩ := this prs 0 fun j q e => by
      obtain ⟨u, _, h3, h4⟩ := hpr' j q e
      exact ⟨u, by rw [Nat.zero_add]; exact h3, h4⟩
    exact ⟨pv, h1, fun j kk v e => by
      obtain ⟨kx, h3, h4, h5⟩ := h2 j kk v e
      exact ⟨kx, h3, h4, by rw [Nat.zero_add] at h5; exact h5⟩⟩
  obtain ⟨pv, hpl, hpv⟩ := key
  refine PySem.call_dict_pairs (knd := mixKind X.prog X.w) (kvs := prs) (PairArg.tuple a (ps.map Value.ref).toArray (fun j => ps.getD j 0) pv) (I.ok.hd hcalm) ⟨⟨ob, n, hget, hoc, hod, hdat⟩, ⟨by simp [hpl, hl], fun j kk v e => ?_⟩⟩ ⟨by rw [hpl], fun i kk v e => ?_⟩ (by rw [hpl, hl]; exact hz) fun h' tk hd' k => ?_
  · obtain ⟨kx, h1, h2, h3⟩ := hpv j kk v e
    obtain ⟨_, h4, _⟩ := hpr' j _ h1
    exact ⟨h4, .inl h3⟩
  · obtain ⟨kx, h1, h2, h3⟩ := hpv i kk v e
    exact ⟨kx, h1, h2⟩
  · have hm : (s.heap.objs.size == sysModules) = false := beq_eq_false_iff_ne.mpr (Nat.ne_of_gt I.big)
    have hlen : (mergeK [] kvs).length ≤ sizeLine := by
      refine Nat.le_trans (length_mergeK kvs []) ?_
      rw [List.length_nil, Nat.zero_add, rel.length, hl]
      exact hz
    exact ⟨.ref s.heap.objs.size, upd H s.heap.objs.size (.dK (mergeK [] kvs)), I.laid (t' := tk) (fun b o => k b o (by simp)) (Nat.le_refl _) (show ObjOk X.prog X.w _ _ _ (.dK (mergeK [] kvs)) from ⟨hlen, hm, merged [] prs, KV.merge rel .nil, hd'⟩), rfl, q _ (I.hok.fresh (Nat.le_refl _))⟩
theorem bb_dict : bootBuiltins "dict" = some (.type "dict") := by decide +kernel
theorem cd_dict {kvs : List (Key × D)} (hc : X.calm = true) (q : P (.dct (mergeD [] kvs)) M) : CD X (.type "dict") [.stup (prsD kvs)] M P :=
  ⟨_, call_dictT hc, fun F H vs Q o r k => by
    cases r with
    | cons h1 r =>
      cases r
      cases h1 with
      | stup h2 hc r2 =>
        obtain ⟨ps, ws, e1, e2, e3⟩ := prs_of r2
        subst e1
        exact ⟨_, _, ps, ws, rfl, o.ex _ _ h2, hc.1, hc.2, paired_mono (fun _ _ z => same_t o.ex z) e2, fun l hl => k _ _ _ _ _ q (o.fixSame hl) (o.fix hl) (.dct upd_same ((e3.merge .nil).mono (o.fixSame hl)))⟩⟩
/-- d.get(k, x) -/
theorem ex_dget2 (hu : X.A.units + 64 < cLine) (h : EX X J o ρ M fun d M1 => ∃ kvs, d = .dct kvs ∧ EX X J a ρ M1 fun y M2 => ∃ k, y = kD k ∧ EX X J b ρ M2 fun z M3 => P ((valD kvs k).getD z) M3)
    (hbase : attributeBase o "get" X.env (eval o X.env) = eval o X.env := by rfl)
    (few : ((backTo cpos (starEach [a, b] X.env)).all (fun x => !x.1) && (backToKw cpos (keywordEach [] X.env)).all (fun x => x.1.isSome) && decide ([a, b].length + ([] : List Keyword).length + (if ([] : List Keyword).isEmpty then 0 else 1) < 30)) = true := by rfl)
    (line : (apos.endLine == cpos.line) = true := by rfl) (trees : backTo cpos (starEach [a, b] X.env) = [(false, eval a X.env), (false, eval b X.env)] := by rfl) :
    EX X J (.Call (.Attribute o "get" apos) [a, b] [] cpos) ρ M P :=
  ex_of (pe_dget2 (by omega) pe_any pe_any pe_any ⟨hbase, few, line, trees⟩) fun F σ H Q st kt => h.go st fun d v M1 F1 H1 q1 e1 o1 r1 => by
    obtain ⟨kvs, rfl, q1⟩ := q1
    cases r1 with
    | dct h1 r1 =>
      refine ⟨_, rfl, .inl ⟨_, .inl (o1.ex _ _ h1)⟩, q1.go (st.to e1 o1) fun y w M2 F2 H2 q2 e2 o2 r2 => ?_⟩
      obtain ⟨kk, rfl, q2⟩ := q2
      have := kD_rp r2
      subst this
      refine q2.go (st.to (e1.trans e2) o2) fun z u M3 F3 H3 q3 e3 o3 r3 => ?_
      refine ⟨_, .inl ⟨_, kk, .inl (o3.ex _ _ (e3 _ _ (e2 _ _ h1))), rfl, rfl⟩, ?_⟩
      rcases ((r1.mono e2).mono e3).get (k := kk) with ⟨g1, g2⟩ | ⟨v', d', g1, g2, g3⟩
      · rw [g1]; rw [g2] at q3
        exact kt _ _ _ _ _ q3 ((e1.trans e2).trans e3) o3 r3
      · rw [g1]; rw [g2] at q3
        exact kt _ _ _ _ _ q3 ((e1.trans e2).trans e3) o3 g3
/-- xs.pop(i) -/
theorem Rps.eraseIdx : ∀ {v : List V} {d : List D} (i : Nat), Rps K F v d → Rps K F (v.eraseIdx i) (d.eraseIdx i)
  | _, _, _, .nil => .nil
  | _, _, 0, .cons _ r => r
  | _, _, i + 1, .cons h r => .cons h (Rps.eraseIdx i r)
theorem ex_pop (h : EX X J o ρ M fun d M1 => ∃ q ds1, d = .adr q ∧ M1 q = some (.lst ds1) ∧ AX X J [e] ρ M1 fun ys M2 => ∃ i ds f y n, ys = [.int i] ∧ At M2 q (.lst ds) f ∧ (-(2 ^ 63) ≤ i ∧ i < 2 ^ 63) ∧ ixN ds.length i = some n ∧ ds[n]? = some y ∧ P y (f (.lst (ds.eraseIdx n))))
    (hbase : attributeBase o "pop" X.env (eval o X.env) = eval o X.env := by rfl)
    (few : ((backTo cpos (starEach [e] X.env)).all (fun x => !x.1) && (backToKw cpos (keywordEach [] X.env)).all (fun x => x.1.isSome) && decide ([e].length + ([] : List Keyword).length + (if ([] : List Keyword).isEmpty then 0 else 1) < 30)) = true := by rfl)
    (line : (apos.endLine == cpos.line) = true := by rfl) (hst : starEach [e] X.env = (false, eval e X.env) :: starEach [] X.env := by rfl) (hpl : (backTo cpos (starEach [] X.env)).any (·.1) = false := by rfl) :
    EX X J (.Call (.Attribute o "pop" apos) [e] [] cpos) ρ M P :=
  ex_of (pe_bm PySem.F.plainAttrs_list PySem.F.slot_list_pop PySem.F.type_list_pop mt_popAt pe_any pa_any hbase few line hst hpl) fun F σ H Q st k => h.go st fun d v M1 F1 H1 q1 e1 o1 r1 => by
    obtain ⟨q, ds1, rfl, hq, q2⟩ := q1
    cases r1
    obtain ⟨_, xs1, hx1, _⟩ := o1.mt _ _ hq
    refine ⟨tyV_lst hx1, q2.go (st.to e1 o1) fun ys vs M2 F2 H2 q3 e2 o2 r2 => ?_⟩
    obtain ⟨i, ds, f, y, n, rfl, hA, hi, hn, hy, q3⟩ := q3
    cases r2 with
    | cons r2 r3 =>
      cases r3
      cases r2
      obtain ⟨_, xs, hx, rx⟩ := o2.mt _ _ hA.get
      obtain ⟨w, hw, rw'⟩ := rx.get hy
      refine ⟨q, xs, i, n, w, rfl, rfl, hx, hi.1, hi.2, (ixN_seq (by rw [rx.length]; exact hn)).1, hw, k _ _ _ _ _ q3 (e1.trans e2) ?_ rw'⟩
      rw [hA.set]
      exact o2.set (o := .lst (xs.eraseIdx n)) hA.get ⟨_, upd_same, rx.eraseIdx n⟩
/-- z.index(y) of texts -/
theorem ex_sindex (h : EX X J o ρ M fun d M1 => ∃ z, d = .str z ∧ AX X J [e] ρ M1 fun ys M2 => ∃ y i rest, ys = [.str y] ∧ Builtin.Str.occurrences z y 0 z.length 1 = i :: rest ∧ P (.int ((i : Nat) : Int)) M2)
    (hbase : attributeBase o "index" X.env (eval o X.env) = eval o X.env := by rfl)
    (few : ((backTo cpos (starEach [e] X.env)).all (fun x => !x.1) && (backToKw cpos (keywordEach [] X.env)).all (fun x => x.1.isSome) && decide ([e].length + ([] : List Keyword).length + (if ([] : List Keyword).isEmpty then 0 else 1) < 30)) = true := by rfl)
    (line : (apos.endLine == cpos.line) = true := by rfl) (hst : starEach [e] X.env = (false, eval e X.env) :: starEach [] X.env := by rfl) (hpl : (backTo cpos (starEach [] X.env)).any (·.1) = false := by rfl) :
    EX X J (.Call (.Attribute o "index" apos) [e] [] cpos) ρ M P :=
  ex_of (pe_bm PySem.F.plainAttrs_str PySem.F.slot_str_index PySem.F.type_str_index mt_sindex pe_any pa_any hbase few line hst hpl) fun F σ H Q st k => h.go st fun d v M1 F1 H1 q1 e1 o1 r1 => by
    obtain ⟨z, rfl, q2⟩ := q1
    cases r1
    refine ⟨rfl, q2.go (st.to e1 o1) fun ys vs M2 F2 H2 q3 e2 o2 r2 => ?_⟩
    obtain ⟨y, i, rest, rfl, ho, q3⟩ := q3
    cases r2 with
    | cons r2 r3 =>
      cases r3
      cases r2
      exact ⟨z, y, i, rest, rfl, rfl, ho, k _ _ _ _ _ q3 (e1.trans e2) o2 (.int _)⟩
/-- *e among the arguments -/
theorem ax_star {PA' : List D → Mem → Prop} {sp : Pos} (h : EX X J e ρ M fun d M1 => ∃ ds, Sq M1 d ds ∧ AX X J es ρ M1 fun ds2 M2 => PA' (ds ++ ds2) M2) (hs : starEach (.Starred e sp :: es) X.env = (true, eval e X.env) :: starEach es X.env := by rfl) : AX X J (.Starred e sp :: es) ρ M PA' :=
  ax_of (pa_star pe_any pa_any hs) fun F σ H Q st k => h.go st fun d v M1 F1 H1 q1 e1 o1 r1 => by
    obtain ⟨ds, sq, q1⟩ := q1
    obtain ⟨q, xs, rfl, hx, rx⟩ := sq.get o1 r1
    exact ⟨q, xs, rfl, hx.symm, q1.go (st.to e1 o1) fun ds2 vs M2 F2 H2 q2 e2 o2 r2 => k _ _ M2 F2 H2 q2 (e1.trans e2) o2 ((rx.mono e2).append r2)⟩
end
end DX
namespace DX
open PySem PySem.Spec L2
section
variable {X : Cx} {J : Gh} {e a b c o : Expr} {es : List Expr} {ρ ρ' : DEnv} {M M' : Mem} {F F' H H' : Hp} {σ : St} {B : Bd} {K : PySem.W.Frag} {pos p apos cpos : Pos} {x : Str} {P : D → Mem → Prop}
/-- list(range(..)) that may change -/
theorem ex_lstRM {p' pos' : Pos} (hc : X.calm = true) (hmt : X.mg "list" = none) (hm : X.mg "range" = none) (h : AX X J (a :: es) ρ M fun ds M1 => ∃ i c n, Rg ds i c n ∧ ∀ q, M1 q = none → P (.adr q) (up M1 q (.lst (rngC i c n)))) (hgt : Gl X "list" := by rfl) (hg : Gl X "range" := by rfl)
    (hs : starEach (a :: es) X.env = (false, eval a X.env) :: starEach es X.env := by rfl) (hpl : (backTo pos (starEach es X.env)).any (·.1) = false := by rfl) (na : starEach [.Call (.Name "range" p) (a :: es) [] pos] X.env = (false, eval (.Call (.Name "range" p) (a :: es) [] pos) X.env) :: starEach [] X.env := by rfl) :
    EX X J (.Call (.Name "list" p') [.Call (.Name "range" p) (a :: es) [] pos] [] pos') ρ M P :=
  ex_of (pe_lstRc hc hgt hmt (prc hg hm pa_any hs hpl) na) fun F σ H Q st k => h.go st fun ds vs M1 F1 H1 q e1 o1 r1 => by
    obtain ⟨i, c, n, hr, q⟩ := q
    obtain ⟨i', j, c', n', h1, h2, h3, rfl, rfl, rfl⟩ := hr.raw r1
    exact ⟨i', j, c', n', h1, h2, h3, fun l hl => k _ _ _ _ _ (q l (o1.nn hl).2) e1 (o1.lay hl ⟨_, upd_same, rps_rgC⟩) (.adr l)⟩
/-- xs * n, a list that may change -/
theorem od_mulLM {x : D} {ds : List D} {n : Int} (sx : Sl M x ds) (h0 : -(2 ^ 62) ≤ n ∧ n < 2 ^ 62) (hz : ds.length * n.toNat ≤ 1000000) (p : ∀ q, M q = none → P (.adr q) (up M q (.lst (List.replicate n.toNat ds).flatten))) : OD X (binaryOp .Mult) x (.int n) M P :=
  ⟨_, op_rep, fun F H v u Q o rx ry k => by
    cases ry
    obtain ⟨a, xs, rfl, h1, r1⟩ := sx.get o rx
    exact ⟨a, n, xs, rfl, rfl, h1, by omega, by omega, by rw [r1.length, sizeLine_eq]; omega, fun q hq => k _ _ _ _ _ (p q (o.nn hq).2) (Same.refl _) (o.lay hq ⟨_, upd_same, r1.rep _⟩) (.adr q)⟩⟩
/-- xs + ys, a list that may change -/
theorem od_addLM {x y : D} {ds es : List D} (sx : Sl M x ds) (sy : Sl M y es) (hz : ds.length + es.length ≤ 1000000) (p : ∀ q, M q = none → P (.adr q) (up M q (.lst (ds ++ es)))) : OD X (binaryOp .Add) x y M P :=
  ⟨_, op_cat, fun F H v u Q o rx ry k => by
    obtain ⟨a, xs, rfl, h1, r1⟩ := sx.get o rx
    obtain ⟨b, ys, rfl, h2, r2⟩ := sy.get o ry
    exact ⟨a, b, xs, ys, rfl, rfl, h1, h2, by rw [r1.length, r2.length, sizeLine_eq]; omega, fun q hq => k _ _ _ _ _ (p q (o.nn hq).2) (Same.refl _) (o.lay hq ⟨_, upd_same, r1.append r2⟩) (.adr q)⟩⟩
/-- list(x), a list that may change -/
theorem cd_listM {d : D} {ds : List D} (s : Sq M d ds) (q : ∀ l, M l = none → P (.adr l) (up M l (.lst ds))) : CD X (.type "list") [d] M P :=
  ⟨_, call_list_of, fun F H vs Q o r k => by
    cases r with
    | cons h1 r =>
      cases r
      obtain ⟨a, xs, rfl, h2, r2⟩ := s.get o h1
      exact ⟨a, xs, rfl, h2, fun l hl => k _ _ _ _ _ (q l (o.nn hl).2) (Same.refl _) (o.lay hl ⟨_, upd_same, r2⟩) (.adr l)⟩⟩
/-! ### comprehensions whose elements change nothing: element i gives g i, is taken if t i -/
variable {scope : Scope} {tg iter elt : Expr} {ifs : List Expr}
def lcR (n : Nat) (t : Nat → Bool) (g : Nat → D) : List D := ((List.range n).filter t).map g
theorem lcR_succ {n : Nat} {t : Nat → Bool} {g : Nat → D} : lcR (n + 1) t g = lcR n t g ++ if t n then [g n] else [] := by
  unfold lcR
  rw [List.range_succ, List.filter_append, List.map_append]
  congr 1
  cases h : t n <;> simp [h]
theorem lcR_len {n : Nat} {t : Nat → Bool} {g : Nat → D} : (lcR n t g).length ≤ n := by
  unfold lcR
  rw [List.length_map]
  exact Nat.le_trans (List.length_filter_le _ _) (by rw [List.length_range]; exact Nat.le_refl _)
theorem lcR_all {n : Nat} {g : Nat → D} : lcR n (fun _ => true) g = (List.range n).map g := by unfold lcR; rw [List.filter_eq_self.mpr (fun _ _ => rfl)]
theorem lcR_map {ds : List D} {g : D → D} {n : Nat} {f : Nat → D} (hn : ds.length = n) (h : ∀ i d, ds[i]? = some d → f i = g d) : lcR n (fun _ => true) f = ds.map g := by
  rw [lcR_all]
  apply List.ext_getElem?
  intro i
  rw [List.getElem?_map, List.getElem?_map]
  by_cases hi : i < ds.length
  · rw [List.getElem?_range (by omega), List.getElem?_eq_getElem hi]
    show some (f i) = some (g ds[i])
    rw [h i ds[i] (List.getElem?_eq_getElem hi)]
  · rw [List.getElem?_eq_none (by rw [List.length_range]; omega), List.getElem?_eq_none (by omega)]; rfl
theorem lcI {vs : List Nat} {ds : List D} {M1 : Mem} (g : Nat → D) (t : Nat → Bool)
    (h : ∀ i d acc Dl, ds[i]? = some d → i < ds.length → M1 Dl = none → AsB X scope vs tg d (cuts ρ vs) fun ρ2 => TXb X J scope ifs ρ2 (up M1 Dl (.lst acc)) fun tb M2 => tb = t i ∧ M2 = up M1 Dl (.lst acc) ∧ (t i = true → EXb X J scope elt ρ2 M2 fun y M3 => y = g i ∧ M3 = up M1 Dl (.lst acc)))
    (hl : ds.length ≤ 1000000) (k : P (.lst (lcR ds.length t g)) M1) : LcW X J scope vs tg ifs elt ρ P ds M1 := by
  refine ⟨fun i acc M' => M' = M1 ∧ acc = lcR i t g, ⟨rfl, rfl⟩, ?_, fun acc M' q => by obtain ⟨rfl, rfl⟩ := q; exact k⟩
  rintro i d acc M' Dl hd ⟨rfl, rfl⟩ hD
  have hi : i < ds.length := by
    by_cases hi : i < ds.length
    · exact hi
    · rw [List.getElem?_eq_none (by omega)] at hd; cases hd
  refine ⟨by have := lcR_len (n := i) (t := t) (g := g); omega, ?_⟩
  obtain ⟨gg, h1, h2⟩ := h i d (lcR i t g) Dl hd hi hD
  refine ⟨gg, h1, fun F M v σ H Q o r en kk => h2 F M v σ H Q o r en fun σ' ρ' q en' w => kk σ' ρ' ?_ en' w⟩
  obtain ⟨tt, h3, h4⟩ := q
  refine ⟨tt, h3, fun F σ H Q st kb => h4 F σ H Q st fun tb M2 F' H' q e o => kb tb M2 F' H' ?_ e o⟩
  obtain ⟨rfl, rfl, q⟩ := q
  refine ⟨fun ht => ?_, fun ht => ⟨M', hD, rfl, rfl, by rw [lcR_succ, ht]; simp⟩⟩
  intro s H C cl fp
  exact (q ht s H C cl fp).imp fun y M3 hy => ⟨M', hD, hy.2, rfl, by rw [lcR_succ, ht, hy.1]; rfl⟩
end
end DX
namespace DX
open PySem PySem.Spec L2
/-! ### repr where dicts stand among the data -/
def keyP : Key → PyData
  | .inl i => .int i
  | .inr x => .str x
mutual
def pydR : D → PyData
  | .bl b => .bool b
  | .int i => .int i
  | .str x => .str x
  | .tup ds => .tuple (pydRs ds)
  | .lst ds => .list (pydRs ds)
  | .dct kvs => .dict (pydRk kvs)
  | _ => .none
def pydRs : List D → List PyData
  | [] => []
  | d :: ds => pydR d :: pydRs ds
def pydRk : List (Key × D) → List (PyData × PyData)
  | [] => []
  | (k, d) :: ds => (keyP k, pydR d) :: pydRk ds
end
mutual
/-- what may be shown -/
def shw : D → Bool
  | .non => true
  | .bl _ => true
  | .int _ => true
  | .str _ => true
  | .tup ds => shws ds
  | .lst ds => shws ds
  | .dct kvs => shwk kvs
  | _ => false
def shws : List D → Bool
  | [] => true
  | d :: ds => shw d && shws ds
def shwk : List (Key × D) → Bool
  | [] => true
  | (_, d) :: ds => shw d && shwk ds
end
/-- the text that repr gives -/
def txtR (d : D) : Str := (pydR d).shown
/-- all that repr asks of the data (to be shown by computation or by rules below) -/
structure ROk (d : D) : Prop where
  sh : shw d = true
  ok : (pydR d).showable = true
  dp : (pydR d).depth ≤ 60
  sz : (pydR d).shown.length ≤ 16000000
/-- sys.modules' place holds a dict: read off the written part -/
def sysB (K : PySem.W.Frag) : Bool := match K.lookup sysModules with
  | some o => decide (o.cls = .type "dict")
  | none => false
section
variable {X : Cx} {pins : List (Addr × Obj)} {σ : L2.St} {F H : Hp} {s : Shared}
theorem sys_dict (hS : sysB X.K = true) (I : L2.Inv X pins σ H s) : ∃ o, s.heap.get? sysModules = some o ∧ o.cls = .type "dict" := by
  unfold sysB at hS
  cases e : X.K.lookup sysModules with
  | none => rw [e] at hS; cases hS
  | some o =>
    rw [e] at hS
    exact ⟨o, I.kIn _ _ e, of_decide_eq_true hS⟩
theorem not_sys (hS : sysB X.K = true) (I : L2.Inv X pins σ H s) {a : Addr} {o : Obj} (h : s.heap.get? a = some o) (hc : o.cls = .type "list") : sysModules ≠ a := by
  intro e
  obtain ⟨o2, h2, h3⟩ := sys_dict hS I
  rw [e, h] at h2
  cases h2
  rw [hc] at h3
  exact absurd h3 (by decide)
theorem pairs_reads {h : Heap} {vs : List (Key × Value)} {es : List DictEntry} (ps : Pairs (mixKind X.prog X.w) es vs) : ReadsAll h (es.map (·.key)) (vs.map fun q => keyP q.1) [] ∧ es.map (·.val) = vs.map (·.2) := by
  induction ps with
  | nil => exact ⟨.nil, rfl⟩
  | @cons e kv es kvs hk hv _ ih =>
    refine ⟨?_, by rw [List.map_cons, List.map_cons, ih.2, hv]⟩
    rw [List.map_cons, List.map_cons]
    have hr : Reads h e.key (keyP kv.1) [] := by
      rcases keyIs_shape (show keyIs kv.1 e.key = true from hk) with ⟨i, t, e1, e2⟩ | ⟨x, t, e1, e2⟩
      · rw [e1, e2]; exact .int i t
      · rw [e1, e2]; exact .str x t
    exact ReadsAll.cons (as := []) (bs := []) hr ih.1
mutual
theorem Rp.reads (hS : sysB X.K = true) (I : L2.Inv X pins σ H s) (hs : Same F H) : ∀ (d : D) (v : V) (u : Value), shw d = true → Rp X.K F v d → RelV v u → ∃ as, Reads s.heap u (pydR d) as ∧ sysModules ∉ as
  | .non, _, _, _, .non, r => by cases r; exact ⟨_, .none, by simp⟩
  | .bl b, _, _, _, .bl _, r => by cases r; exact ⟨_, .bool b, by simp⟩
  | .int i, _, _, _, .int _, r => by obtain ⟨t, rfl⟩ := r; exact ⟨_, .int i t, by simp⟩
  | .str x, _, _, _, .str _, r => by obtain ⟨t, rfl⟩ := r; exact ⟨_, .str x t, by simp⟩
  | .lst ds, _, _, h, .lst h1 h2, r => by
    cases r
    obtain ⟨its, rv, ⟨o, n, ho, hc, _, hd⟩, _⟩ := I.list (SqL.of (hs _ _ h1))
    obtain ⟨as, hr, hn⟩ := Rps.readsAll hS I hs ds _ its (by rw [shw] at h; exact h) h2 rv
    have q := Reads.list ho hc hd hr
    rw [show pydR (.lst ds) = .list (pydRs ds) by rw [pydR]]
    exact ⟨_, q, by rw [List.mem_cons, not_or]; exact ⟨not_sys hS I ho hc, hn⟩⟩
  | .tup ds, _, _, h, .tup h1 h2, r => by
    cases r
    obtain ⟨its, rv, ⟨o, ho, hc, n, hd⟩, _⟩ := I.tuple (same_t hs h1)
    obtain ⟨as, hr, hn⟩ := Rps.readsAll hS I hs ds _ its (by rw [shw] at h; exact h) h2 rv
    have q := Reads.tuple ho hc hd hr
    rw [show pydR (.tup ds) = .tuple (pydRs ds) by rw [pydR]]
    exact ⟨_, q, hn⟩
  | .dct kvs, _, _, h, .dct h1 h2, r => by
    cases r
    obtain ⟨_, hne, vs, rel, o, es, ep, ho, hx, hd, _, hp, _⟩ := I.hok _ _ (hs _ _ h1)
    obtain ⟨k1, k2⟩ := pairs_reads (h := s.heap) hp
    obtain ⟨bs, hr, hn⟩ := Rks.readsAll hS I hs kvs _ vs (by rw [shw] at h; exact h) h2 rel
    have e : (pydRk kvs).map (·.1) = vs.map fun q => keyP q.1 := hr.2
    have k3 : ReadsAll s.heap (es.toList.map (·.key)) ((pydRk kvs).map (·.1)) [] := by rw [e]; exact k1
    have k4 : ReadsAll s.heap (es.toList.map (·.val)) ((pydRk kvs).map (·.2)) bs := by rw [k2]; exact hr.1
    have q := Reads.dict (as := []) ho hx.1 hd k3 k4
    rw [show pydR (.dct kvs) = .dict (pydRk kvs) by rw [pydR]]
    refine ⟨_, q, ?_⟩
    simp only [List.append_nil, List.cons_append, List.nil_append, List.mem_cons, not_or]
    exact ⟨fun z => by rw [← z] at hne; simp at hne, hn⟩
  | .adr _, _, _, h, _, _ => by simp [shw] at h
  | .ty _, _, _, h, _, _ => by simp [shw] at h
  | .scr _, _, _, h, _, _ => by simp [shw] at h
  | .ins _ _, _, _, h, _, _ => by simp [shw] at h
  | .stup _, _, _, h, _, _ => by simp [shw] at h
theorem Rps.readsAll (hS : sysB X.K = true) (I : L2.Inv X pins σ H s) (hs : Same F H) : ∀ (ds : List D) (vs : List V) (us : List Value), shws ds = true → Rps X.K F vs ds → Vals vs us → ∃ as, ReadsAll s.heap us (pydRs ds) as ∧ sysModules ∉ as
  | [], _, _, _, .nil, .nil => ⟨_, .nil, by simp⟩
  | d :: ds, _, _, h, .cons h1 h2, .cons r1 r2 => by
    rw [shws, Bool.and_eq_true] at h
    obtain ⟨as, q1, n1⟩ := Rp.reads hS I hs d _ _ h.1 h1 r1
    obtain ⟨bs, q2, n2⟩ := Rps.readsAll hS I hs ds _ _ h.2 h2 r2
    exact ⟨_, ReadsAll.cons q1 q2, by rw [List.mem_append, not_or]; exact ⟨n1, n2⟩⟩
theorem Rks.readsAll (hS : sysB X.K = true) (I : L2.Inv X pins σ H s) (hs : Same F H) : ∀ (ds : List (Key × D)) (vs : List (Key × V)) (us : List (Key × Value)), shwk ds = true → Rks X.K F vs ds → KV vs us →
    ∃ as, (ReadsAll s.heap (us.map (·.2)) ((pydRk ds).map (·.2)) as ∧ (pydRk ds).map (·.1) = us.map fun q => keyP q.1) ∧ sysModules ∉ as
  | [], _, _, _, .nil, .nil => ⟨_, ⟨.nil, rfl⟩, by simp⟩
  | (k, d) :: ds, _, _, h, .cons h1 h2, .cons (b := q) r1 r2 => by
    rw [shwk, Bool.and_eq_true] at h
    obtain ⟨as, q1, n1⟩ := Rp.reads hS I hs d _ _ h.1 h1 r1.2
    obtain ⟨bs, ⟨q2, q3⟩, n2⟩ := Rks.readsAll hS I hs ds _ _ h.2 h2 r2
    refine ⟨_, ⟨ReadsAll.cons q1 q2, ?_⟩, by rw [List.mem_append, not_or]; exact ⟨n1, n2⟩⟩
    rw [pydRk, List.map_cons, List.map_cons, q3, ← r1.1]
end
end
section
variable {X : Cx} {J : Gh} {e a b c o : Expr} {es : List Expr} {ρ ρ' : DEnv} {M M' : Mem} {F F' H H' : Hp} {σ : L2.St} {B : Bd} {K : PySem.W.Frag} {pos p apos cpos : Pos} {x : Str} {P : D → Mem → Prop}
theorem repr_allR {pins : List (Addr × Obj)} {s : Shared} {d : D} {v : V} {u : Value} {Q : Value → Shared → Prop} (hS : sysB X.K = true) (hg : X.A.guards = some []) (hu : X.A.units + 64 < cLine) (I : L2.Inv X pins σ H s) (hs : Same F H) (hR : ROk d) (h : Rp X.K F v d) (r : RelV v u)
    (k : ∀ t s', L2.Inv X pins σ H s' → Q (.str (txtR d) t) s') : wpAny (model X.prog X.w) X.A (call (.builtin "repr") [u]) Q X.xe s := by
  have hz : (pydR d).shown.length ≤ sizeLine := by rw [sizeLine_eq]; have := hR.sz; omega
  have hd := hR.dp
  unfold txtR at k
  obtain ⟨as, rd, hn⟩ := Rp.reads hS I hs d v u hR.sh h r
  have big : ∀ a, u = .ref a → wpAny (model X.prog X.w) X.A (call (.builtin "repr") [u]) Q X.xe s := by
    rintro a rfl
    exact repr_of_reads' rd hR.ok (fun _ => hn) hg (by omega) (fun b ob z => z) (fun h' t tk hk => k t _ (I.kept hk)) hz
  have hsh := hR.ok
  clear rd hn
  cases h with
  | non => cases r; exact PySem.P.repr_of_none (by simpa [pydR, PyData.shown] using k _ _ (I.tok _))
  | bl b => cases r; exact PySem.P.repr_of_bool (by simpa [pydR, PyData.shown] using k _ _ (I.tok _))
  | int i =>
    obtain ⟨t, rfl⟩ := r
    exact PySem.P.repr_of_int (by simpa [pydR, PyData.showable] using hsh) (by simpa [pydR, PyData.shown] using k _ _ (I.tok _))
  | str y =>
    obtain ⟨t, rfl⟩ := r
    exact PySem.P.repr_of_str (by simpa [pydR, PyData.shown] using k _ _ (I.tok _)) (by simpa [pydR, PyData.shown] using hz)
  | lst _ _ => exact big _ r
  | tup _ _ => exact big _ r
  | dct _ _ => exact big _ r
  | adr _ => have := hR.sh; simp [shw] at this
  | ty _ => have := hR.sh; simp [shw] at this
  | scr _ => have := hR.sh; simp [shw] at this
  | ins _ _ => have := hR.sh; simp [shw] at this
  | stup _ _ _ => have := hR.sh; simp [shw] at this
theorem call_reprR (hS : sysB X.K = true) (hg : X.A.guards = some []) (hu : X.A.units + 64 < cLine) : CallR X (.builtin "repr") (fun xs H Q => ∃ F v d, xs = [v] ∧ Same F H ∧ ROk d ∧ Rp X.K F v d ∧ Q (.str (txtR d)) H) := by
  intro pins s σ H xs us Q I r h
  obtain ⟨F, v, d, rfl, hs, hR, h, q⟩ := h
  obtain ⟨u, rfl, rx⟩ := vals1 r
  exact repr_allR hS hg hu I hs hR h rx fun t s' I' => ⟨.str (txtR d), H, I', ⟨t, rfl⟩, q⟩
theorem cd_reprR {d : D} (hS : sysB X.K = true) (hg : X.A.guards = some []) (hu : X.A.units + 64 < cLine) (hR : ROk d) (q : P (.str (txtR d)) M) : CD X (.builtin "repr") [d] M P :=
  ⟨_, call_reprR hS hg hu, fun F H vs Q o r k => by
    cases r with
    | cons h1 r =>
      cases r
      exact ⟨F, _, d, rfl, o.ex, hR, h1, k.here q o (.str _)⟩⟩
/-! ### list(text) -/
theorem call_list_text (hc : X.calm = true) : CallR X (.type "list") (fun xs H Q => ∃ z : Str, xs = [.str z] ∧ z.length ≤ 1000000 ∧ ∀ l, H l = none → Q (.ref l) (upd H l (.lst (z.cps.toList.map fun c => V.str ⟨#[c]⟩)))) := by
  intro pins s σ H xs us Q I r h
  obtain ⟨z, rfl, hz, q⟩ := h
  obtain ⟨u, rfl, rx⟩ := vals1 r
  obtain ⟨t, rfl⟩ := rx
  have hz2 : z.cps.size ≤ 1000000 := hz
  refine call_list_str (I.ok.hd hc) z t (hn := by rw [sizeLine_eq]; omega) fun h' tk acc c' kp e hi => ?_
  refine ⟨.ref s.heap.objs.size, _, I.laid (t' := tk) kp (Nat.le_refl _) (show ObjOk X.prog X.w _ h' _ (.lst (z.cps.toList.map fun c => V.str ⟨#[c]⟩)) from ⟨?_, acc.toList, c', ?_, e⟩), rfl, q _ (I.hok.fresh (Nat.le_refl _))⟩
  · rw [List.length_map, Array.length_toList, sizeLine_eq]; omega
  · have e1 : acc.toList.length = z.cps.toList.length := by rw [Array.length_toList, Array.length_toList]; exact hi.1
    have e2 : (z.cps.toList.map fun c => V.str ⟨#[c]⟩) = (List.range acc.toList.length).map fun j => V.str ⟨#[z.cps.toList.getD j 0]⟩ := by
      rw [e1]
      apply List.ext_getElem
      · simp
      · intro j h1 h2
        rw [List.length_map] at h1
        rw [List.getElem_map, List.getElem_map, List.getElem_range, List.getD_eq_getElem?_getD, List.getElem?_eq_getElem h1]; rfl
    rw [e2]
    refine vals_of_get _ _ fun j w hj => ?_
    obtain ⟨c, u, h1, h2⟩ := hi.2 j w (by rw [← hj, Array.getElem?_toList])
    have : z.cps.toList[j]? = some c := by rw [Array.getElem?_toList]; exact h1
    rw [List.getD_eq_getElem?_getD, this]
    exact ⟨u, h2⟩
theorem cd_listS {z : Str} (hc : X.calm = true) (hz : z.cps.toList.length ≤ 1000000) (q : P (.lst (signs z)) M) : CD X (.type "list") [.str z] M P :=
  ⟨_, call_list_text hc, fun F H vs Q o r k => by
    cases r with
    | cons h1 r =>
      cases r
      cases h1
      refine ⟨z, rfl, ?_, fun l hl => ?_⟩
      · show z.cps.size ≤ _
        rw [← Array.length_toList]; exact hz
      · refine k _ _ _ _ _ q (o.fixSame hl) (o.fix hl) (.lst upd_same ?_)
        have e : (z.cps.toList.map fun c => V.str ⟨#[c]⟩) = (z.cps.toList.map fun c => (⟨#[c]⟩ : Str)).map V.str := by rw [List.map_map]; rfl
        have e2 : signs z = (z.cps.toList.map fun c => (⟨#[c]⟩ : Str)).map D.str := by unfold signs; rw [List.map_map]; rfl
        rw [e, e2]
        exact Rps.ofStrs⟩
/-! ### dicts written out -/
theorem ex_dct0 (p : P (.dct []) M) : EX X J (.Dict [] [] pos) ρ M P :=
  ex_of pe_dnewK fun F σ H Q st k => fun l hl => k _ _ _ _ _ p (st.ok.fixSame hl) (st.ok.fix hl) (.dct upd_same .nil)
/-- {k: v} -/
theorem ex_dct1 (h : ∀ p, M p = none → EX X J a ρ (up M p (.dct [])) fun y M1 => ∃ k, y = kD k ∧ EX X J b ρ M1 fun d M2 => ∃ M3, M3 p = none ∧ M2 = up M3 p (.dct []) ∧ P (.dct [(k, d)]) M3) : EX X J (.Dict [some a] [b] pos) ρ M P :=
  ex_of (pe_disp (pps_cons pe_any pe_any pps_nil) rfl rfl (by simp) (Nat.le_of_ble_eq_true rfl)) fun F σ H Q st kt => fun l hl => by
    have hM := st.ok.nn hl
    have o0 : Ok X.K F (up M l (.dct [])) (upd H l (.dK [])) := st.ok.lay hl ⟨[], upd_same, .nil⟩
    refine (h l hM.2).go ⟨st.en, o0, st.gh⟩ fun y v M1 F1 H1 q1 e1 o1 r1 => ?_
    obtain ⟨k, rfl, q1⟩ := q1
    refine q1.go ⟨st.en.mono e1, o1, J.mono _ _ e1 st.gh⟩ fun d w M2 F2 H2 q2 e2 o2 r2 => ?_
    obtain ⟨M3, hn, rfl, q2⟩ := q2
    obtain ⟨_, kvs0, hk0, rk0⟩ := o2.mt l _ up_same
    cases rk0
    refine ⟨hk0, [(k, w)], ?_, Nat.le_of_ble_eq_true rfl, ?_⟩
    · rw [kD_rp r1]; rfl
    · have e : mergeK [] [(k, w)] = [(k, w)] := rfl
      rw [e]
      have o3 := o2.set (o := .dK [(k, w)]) (d' := .dct [(k, d)]) up_same ⟨_, upd_same, .cons r2 .nil⟩
      rw [up_up] at o3
      obtain ⟨s1, o4⟩ := o3.freeze up_same upd_same
      rw [rm_up hn] at o4
      exact kt _ _ _ _ _ q2 ((e1.trans e2).trans s1) o4 (.dct upd_same (.cons (r2.mono s1) .nil))
/-- z.lower() -/
theorem ex_lower (h : EX X J o ρ M fun d M1 => ∃ z, d = .str z ∧ z.length ≤ 1000000 ∧ P (.str (Txt.lower z)) M1)
    (hbase : attributeBase o "lower" X.env (eval o X.env) = eval o X.env := by rfl) (hline : (apos.endLine == cpos.line) = true := by rfl) : EX X J (.Call (.Attribute o "lower" apos) [] [] cpos) ρ M P :=
  ex_of (pe_bm0 PySem.F.plainAttrs_str PySem.F.slot_str_lower PySem.F.type_str_lower mt_lower pe_any hbase hline) fun F σ H Q st k => h.go st fun d v M1 F1 H1 q1 e1 o1 r1 => by
    obtain ⟨z, rfl, hz, q⟩ := q1
    cases r1
    exact ⟨rfl, z, rfl, rfl, by omega, k _ _ _ _ _ q e1 o1 (.str _)⟩
end
end DX
namespace DX
open PySem PySem.Spec L2 SX
/-! ### a look at the module that sees sys.modules' place, too -/
def lookS (fa : List He.Fa) (fn : List He.DefD) (ex : PySem.W.Frag → Bool) (n : Nat) (g : Addr → Option Obj) : He.AlD × Bool :=
  (He.obsD fa fn (He.frG g (sysModules :: He.asD g n)), ex (He.frG g (sysModules :: He.asD g n)))
def hookS (n : Nat) (fa : List He.Fa) (fn : List He.DefD) (ex : PySem.W.Frag → Bool) : PySem.W.Hook where
  α := He.AlD × Bool
  obs := fun s => lookS fa fn ex n s.heap.get?
  val := fun _ => (He.valD fn, true)
  says := fun _ h => ∃ K : PySem.W.Frag, K.In h ∧ He.SaysD fa fn K ∧ ex K = true
  of := fun _ _ e => ⟨_, He.frG_in, congrArg Prod.fst e, congrArg Prod.snd e⟩
  keeps := fun _ _ _ ⟨K, hK, c, d⟩ k => ⟨K, PySem.W.Frag.In.keeps hK k, c, d⟩
theorem lookS_eq {n : Nat} {fa : List He.Fa} {fn : List He.DefD} {ex : PySem.W.Frag → Bool} {g : Addr → Option Obj} {s : Shared} (h : ∀ a, g a = s.heap.get? a) : lookS fa fn ex n g = (hookS n fa fn ex).obs s := by
  have e : g = s.heap.get? := funext h
  subst e
  rfl
/-! ### texts times numbers -/
section
variable {X : Cx} {M : Mem} {P : D → Mem → Prop}
theorem op_mul_str : OpR X (binaryOp .Mult) (fun x y H Q => ∃ z n, x = .str z ∧ y = .int n ∧ z.length ≤ 1000 ∧ -(2 ^ 62) ≤ n ∧ n ≤ 10000 ∧ Q (.str (Txt.mul z n)) H) := by
  intro pins s σ H x y v u Q I rx ry h
  obtain ⟨z, n, rfl, rfl, hz, h1, h2, q⟩ := h
  obtain ⟨t, rfl⟩ := rx
  obtain ⟨t', rfl⟩ := ry
  exact PySem.SB.mul (PyProof.Rows.mulOk_of 1000 10000 hz h2 (by omega) (by decide) (by decide)) fun t' k => ⟨.str (Txt.mul z n), H, I.tok _, ⟨_, rfl⟩, q⟩
theorem foldl_arr (c : Nat) : ∀ (n : Nat) (acc : Array Nat), (List.replicate n #[c]).foldl (· ++ ·) acc = acc ++ (List.replicate n c).toArray
  | 0, acc => by simp
  | n + 1, acc => by
    rw [List.replicate_succ, List.foldl_cons, foldl_arr c n, List.replicate_succ, Array.append_assoc]
    congr 1
    apply Array.ext'
    simp
theorem mul_S {c : Nat} {n : Int} (h : 0 ≤ n) : Txt.mul (S [c]) n = S (List.replicate n.toNat c) := by
  unfold Txt.mul
  by_cases h1 : n < 1
  · rw [if_pos h1, show n.toNat = 0 by omega]; rfl
  · rw [if_neg h1]
    by_cases h2 : n = 1
    · subst h2; rfl
    · rw [if_neg (by simp [h2, S, Str.length])]
      show (⟨(List.replicate n.toNat #[c]).foldl (· ++ ·) #[]⟩ : Str) = ⟨(List.replicate n.toNat c).toArray⟩
      rw [foldl_arr]; simp
theorem od_mulS {z : Str} {n : Int} {c : Nat} (hz : z = S [c]) (h : 0 ≤ n ∧ n ≤ 10000) (p : P (.str (S (List.replicate n.toNat c))) M) : OD X (binaryOp .Mult) (.str z) (.int n) M P :=
  ⟨_, op_mul_str, fun F H v u Q o rx ry k => by
    subst hz
    cases rx; cases ry
    exact ⟨S [c], n, rfl, rfl, by rw [S_len]; simp, by omega, h.2, by rw [mul_S h.1]; exact k.here p o (.str _)⟩⟩
end
/-! ### what may be shown, of data without dicts -/
mutual
theorem good_R : ∀ {d : D}, good d → pydR d = pyd d ∧ shw d = true
  | .non, _ => ⟨by simp [pydR, pyd], by simp [shw]⟩
  | .bl _, _ => ⟨by simp [pydR, pyd], by simp [shw]⟩
  | .int _, _ => ⟨by simp [pydR, pyd], by simp [shw]⟩
  | .str _, _ => ⟨by simp [pydR, pyd], by simp [shw]⟩
  | .tup ds, h => by have := goods_R (ds := ds) h; exact ⟨by rw [pydR, pyd, this.1], by rw [shw, this.2]⟩
  | .lst ds, h => by have := goods_R (ds := ds) h; exact ⟨by rw [pydR, pyd, this.1], by rw [shw, this.2]⟩
theorem goods_R : ∀ {ds : List D}, goods ds → pydRs ds = pyds ds ∧ shws ds = true
  | [], _ => ⟨by simp [pydRs, pyds], by simp [shws]⟩
  | d :: ds, h => by
    have h1 := good_R h.1
    have h2 := goods_R h.2
    exact ⟨by rw [pydRs, pyds, h1.1, h2.1], by rw [shws, h1.2, h2.2]; rfl⟩
end
theorem rok_good {d : D} (h : good d) (hw : wt d ≤ 16000000) (hd : dep d ≤ 50) : ROk d := by
  obtain ⟨h1, h2⟩ := good_R h
  have h3 := dep_py h
  have h4 := wt_py h
  exact ⟨h2, by rw [h1]; exact good_show h, by rw [h1]; omega, by rw [h1]; omega⟩
theorem txtR_good {d : D} (h : good d) : txtR d = txt d := by unfold txtR txt; rw [(good_R h).1]
/-! ### texts of signs below 128 -/
def tx (l : List Nat) : Prop := ∀ c ∈ l, c < 128
theorem tx_app {a b : List Nat} (h : tx a) (g : tx b) : tx (a ++ b) := fun c hc => by
  rcases List.mem_append.mp hc with q | q
  · exact h c q
  · exact g c q
theorem tx_cut {l : List Nat} {a b : Option Int} (h : tx l) : tx (cutA l a b) := fun c hc => h c (List.mem_of_mem_drop (List.mem_of_mem_take hc))
theorem cut_le {α : Type} {l : List α} {a b : Option Int} : (cutA l a b).length ≤ l.length := by unfold cutA; rw [List.length_take, List.length_drop]; omega
theorem tx_isS {l : List Nat} (h : ∀ c ∈ l, isS c) : tx l := fun c hc => by rcases h c hc with rfl | rfl | rfl <;> decide
theorem tx_lower {l : List Nat} (h : tx l) : ∃ m, Txt.lower (S l) = S m ∧ tx m ∧ m.length = l.length := by
  refine ⟨l.map PyProof.Rows.lo1, ?_, ?_, by simp⟩
  · rw [PyProof.Rows.lower_ascii (x := S l) h]
    show (⟨(l.toArray).map PyProof.Rows.lo1⟩ : Str) = ⟨(l.map PyProof.Rows.lo1).toArray⟩
    simp
  · intro c hc
    rw [List.mem_map] at hc
    obtain ⟨d, hd, rfl⟩ := hc
    have := h d hd
    unfold PyProof.Rows.lo1
    split <;> omega
theorem tx_ok {l : List Nat} (h : tx l) : PyData.strOk (S l) = true := by
  show (l.toArray).all (· < 0x110000) = true
  rw [Array.all_eq_true_iff_forall_mem]
  intro c hc
  have := h c (by simpa using hc)
  simp; omega
theorem good_tx {l : List Nat} (h : tx l) (hl : l.length ≤ 10000) : good (.str (S l)) ∧ wt (.str (S l)) ≤ 16000000 ∧ dep (.str (S l)) ≤ 50 := ⟨tx_ok h, by rw [wt, S_len]; omega, le_b rfl⟩
theorem goods_sgl : ∀ {l : List Nat}, tx l → goods (sgl l)
  | [], _ => trivial
  | c :: l, h => ⟨tx_ok fun d hd => h d (by rw [List.mem_singleton] at hd; rw [hd]; exact List.mem_cons_self ..), goods_sgl fun d hd => h d (List.mem_cons_of_mem _ hd)⟩
theorem wts_sgl : ∀ l : List Nat, wts (sgl l) = 14 * l.length
  | [] => rfl
  | c :: l => by
    show wt (.str (S [c])) + 2 + wts (sgl l) = _
    rw [wts_sgl l, wt, S_len, List.length_cons, List.length_cons, List.length_nil]; omega
theorem deps_sgl : ∀ l : List Nat, deps (sgl l) = 0
  | [] => rfl
  | c :: l => by
    show max (dep (.str (S [c]))) (deps (sgl l)) = _
    rw [deps_sgl l]; rfl
/-- a text, if it is one, is short and of such signs -/
def txz (d : D) : Prop := ∀ z, d = .str z → tx z.cps.toList ∧ z.cps.toList.length ≤ 1000
/-- values that laws hand in: shown, asked for their kind, short if texts -/
structure Th (d : D) : Prop where
  pl : plain d = true
  ro : ROk d
  tz : txz d
theorem th_tx {l : List Nat} (h : tx l) (hl : l.length ≤ 1000) : Th (.str (S l)) := by
  obtain ⟨g1, g2, g3⟩ := good_tx h (by omega)
  exact ⟨rfl, rok_good g1 g2 g3, fun z e => by cases e; exact ⟨h, hl⟩⟩
theorem th_str {z : Str} {l : List Nat} (e : z = S l) (h : tx l) (hl : l.length ≤ 1000) : Th (.str z) := by rw [e]; exact th_tx h hl
theorem th_good {d : D} (hp : plain d = true) (hn : ∀ z, d ≠ .str z) (g : good d) (w : wt d ≤ 16000000) (q : dep d ≤ 50) : Th d := ⟨hp, rok_good g w q, fun z e => absurd e (hn z)⟩
theorem th_sgl {l : List Nat} (h : tx l) (hl : l.length ≤ 1000) : Th (.lst (sgl l)) := th_good rfl (fun z e => by cases e) (goods_sgl h) (by rw [wt, wts_sgl]; omega) (by rw [dep, deps_sgl]; exact le_b rfl)
theorem th_tsgl {l : List Nat} (h : tx l) (hl : l.length ≤ 1000) : Th (.tup (sgl l)) := th_good rfl (fun z e => by cases e) (goods_sgl h) (by rw [wt, wts_sgl]; omega) (by rw [dep, deps_sgl]; exact le_b rfl)
theorem th_tup1 {l : List Nat} (h : tx l) (hl : l.length ≤ 1000) : Th (.tup [.str (S l)]) := by
  obtain ⟨g1, g2, g3⟩ := good_tx h (by omega)
  exact th_good rfl (fun z e => by cases e) ⟨g1, trivial⟩ (by simp only [wt, wts, S_len]; omega) (le_b rfl)
theorem th_int {i : Int} (h : -(2 ^ 200) ≤ i ∧ i ≤ 2 ^ 200) : Th (.int i) := th_good rfl (fun z e => by cases e) h (le_b rfl) (le_b rfl)
theorem th_non : Th .non := th_good rfl (fun z e => by cases e) trivial (le_b rfl) (le_b rfl)
theorem th_bl {b : Bool} : Th (.bl b) := th_good rfl (fun z e => by cases e) trivial (le_b rfl) (le_b rfl)
theorem th_nil : Th (.lst []) := th_good rfl (fun z e => by cases e) trivial (le_b rfl) (le_b rfl)
theorem th_tnil : Th (.tup []) := th_good rfl (fun z e => by cases e) trivial (le_b rfl) (le_b rfl)
theorem th_dct0 : Th (.dct []) := ⟨rfl, ⟨by simp [shw, shwk], by simp [pydR, pydRk, PyData.showable, PyData.showableKv], by simp [pydR, pydRk, PyData.depth, PyData.depthKv], by
  simp only [pydR, pydRk, PyData.shown, PyData.shownKv]
  exact Nat.le_trans (dictText_len_le []) (by decide)⟩, fun z e => by cases e⟩
theorem th_dct1 {k : Str} {l : List Nat} (hk : (reprText k).length ≤ 1000) (h : tx l) (hl : l.length ≤ 1000) : Th (.dct [(.inr k, .str (S l))]) :=
  ⟨rfl, ⟨by simp [shw, shwk], by simp [pydR, pydRk, keyP, PyData.showable, PyData.showableKv], by simp [pydR, pydRk, keyP, PyData.depth, PyData.depthKv], by
    simp only [pydR, pydRk, keyP, PyData.shown, PyData.shownKv]
    refine Nat.le_trans (dictText_len_le _) ?_
    have h1 := StrLaws.reprText_len (S l) fun c hc => by
      have := h c hc
      exact Nat.lt_trans this (by decide)
    have h2 : (S l).length = l.length := S_len l
    have e2 : (reprText k ++ ": " ++ reprText (S l)).length = (reprText k).length + 2 + (reprText (S l)).length := by
      rw [strLen_append, strLen_append]; rfl
    simp only [List.map_cons, List.map_nil, List.sum_cons, List.sum_nil, List.length_cons, List.length_nil]
    rw [e2]
    omega⟩, fun z e => by cases e⟩
end DX
namespace DX
open PySem PySem.Spec L2 StX PyProof.Rows
/-! ### + by an own __add__ -/
theorem looks_fills {K : PySem.W.Frag} {M : Model} {h : Heap} {C f : Addr} {nm : String} (X : K.In h) (hsf : PySem.W.selfFirst K C = true) (hs : PySem.W.findIn K (.ref C) (dunder nm) = some (some (.ref f))) : PySem.W.Looks M h (fillsNumberSlot (.ref C) nm) true := by
  unfold PySem.W.selfFirst at hsf
  cases hc : PySem.W.clsIn K C with
  | none => rw [hc] at hsf; cases hsf
  | some cd =>
    rw [hc] at hsf
    have hh : cd.mro.head? = some (.ref C) := by simpa using hsf
    cases hm : cd.mro with
    | nil => rw [hm] at hh; cases hh
    | cons v rest =>
      rw [hm] at hh
      cases hh
      have L1 : PySem.W.Looks M h (mroOf (.ref C)) (.ref C :: rest) := by
        show PySem.W.Looks M h (classData C >>= fun d => pure d.mro) _
        exact (PySem.W.looks_clsIn X hc).andThen (by rw [hm]; exact PySem.W.Looks.now)
      show PySem.W.Looks M h (mroOf (.ref C) >>= fun l => l.anyM _) true
      refine L1.andThen ?_
      rw [List.anyM]
      refine PySem.W.Looks.andThen (a := true) ?_ PySem.W.Looks.now
      show PySem.W.Looks M h ([dunder nm, dunderR nm].anyM _) true
      rw [List.anyM]
      refine PySem.W.Looks.andThen (a := true) ?_ PySem.W.Looks.now
      refine (PySem.W.looks_findIn X hs).andThen ?_
      exact PySem.W.Looks.now
section
variable {prog : Program} {w : World} {A : Around} {E : Value → Shared → Prop} {s : Shared} {K : PySem.W.Frag} {x y C f : Addr} {ox oy : Obj} {od od' : Option Obj}
theorem special_K {name : Str} {args : List Value} {Q : Option Value → Shared → Prop} (X : K.In s.heap) (I : PySem.W.InstAt s.heap x ox C od) (hs : PySem.W.findIn K (.ref C) name = some (some (.ref f))) (hf : PySem.W.isFn K (.ref f) = true)
    (h : wpAny (model prog w) A (call (.ref f) (.ref x :: args)) (fun v => Q (some v)) E s) : wpAny (model prog w) A (callSpecial? (.ref x) name args) Q E s := by
  unfold callSpecial? specialOf
  refine wpAny_bind (wpAny_bind (I.type.here ((PySem.W.looks_findIn X hs).here ?_)))
  refine wpAny_holding (wpAny_bind ((PySem.W.bind_fn X _ (beq_iff_eq.mp hf)).here ?_))
  exact wpAny_bind (wpAny_mono h (fun v s' h' => wpAny_pure h') fun _ _ h' => h')
theorem add_own {Q : Value → Shared → Prop} (X : K.In s.heap) (I : PySem.W.InstAt s.heap x ox C od) (J : PySem.W.InstAt s.heap y oy C od') (hsf : PySem.W.selfFirst K C = true) (hs : PySem.W.findIn K (.ref C) "__add__" = some (some (.ref f))) (hf : PySem.W.isFn K (.ref f) = true)
    (h : wpAny (model prog w) A (call (.ref f) [.ref x, .ref y]) (fun v s' => v ≠ .notImplemented ∧ Q v s') E s) : wpAny (model prog w) A (binaryOp .Add (.ref x) (.ref y)) Q E s := by
  have one : wpAny (model prog w) A (binaryOp1 "add" (.ref x) (.ref y)) (fun r s' => ∃ v, r = some v ∧ Q v s') E s := by
    simp only [binaryOp1]
    refine wpAny_bind (I.type.here (wpAny_bind (J.type.here (wpAny_bind ((looks_fills (nm := "add") X hsf (by exact hs)).here ?_)))))
    simp only [beq_self_eq_true, if_true, pure_bind, Bool.and_false, Bool.false_and, Bool.false_eq_true, if_false]
    refine wpAny_bind ?_
    unfold tryMethod
    refine wpAny_bind (special_K (args := [.ref y]) X I (by exact hs) hf (wpAny_mono h (fun v s' h' => ?_) fun _ _ h' => h'))
    obtain ⟨h1, h2⟩ := h'
    cases v <;> first | exact absurd rfl h1 | exact wpAny_pure (wpAny_pure ⟨_, rfl, h2⟩)
  show wpAny (model prog w) A (holding [.ref x, .ref y] _) Q E s
  refine wpAny_holding (wpAny_bind (wpAny_mono one (fun r s' z => ?_) fun _ _ h' => h'))
  obtain ⟨v, rfl, hq⟩ := z
  exact wpAny_pure hq
end

/-! ### instances as data -/
inductive Is (M : Mem) : D → Addr → List (Str × D) → Prop
  | frz {C : Addr} {gs : List (Str × D)} : Is M (.ins C gs) C gs
  | adr {p C : Addr} {gs : List (Str × D)} : M p = some (.ins C gs) → Is M (.adr p) C gs
section
variable {K : PySem.W.Frag} {F H : Hp} {M : Mem}
theorem Is.get {d : D} {C : Addr} {gs : List (Str × D)} {v : V} (s : Is M d C gs) (o : Ok K F M H) (r : Rp K F v d) : ∃ a dx fs, v = .ref a ∧ H a = some (.ins C dx fs) ∧ Rfs K F fs gs := by
  cases s with
  | frz =>
    cases r with
    | ins h r => exact ⟨_, _, _, rfl, o.ex _ _ h, r⟩
  | adr h =>
    cases r
    obtain ⟨_, dx, fs, h1, h2⟩ := o.mt _ _ h
    exact ⟨_, dx, fs, rfl, h1, h2⟩
theorem Rfs.look {f : Str} : ∀ {fs : List (Str × V)} {gs : List (Str × D)}, Rfs K F fs gs → (fs.lookup f = none ∧ gs.lookup f = none) ∨ ∃ v d, fs.lookup f = some v ∧ gs.lookup f = some d ∧ Rp K F v d
  | _, _, .nil => .inl ⟨rfl, rfl⟩
  | _, _, .cons (x := x) h r => by
    by_cases e : f = x
    · subst e; exact .inr ⟨_, _, by simp [List.lookup], by simp [List.lookup], h⟩
    · have e2 : (f == x) = false := by simpa using e
      rcases Rfs.look (f := f) r with ⟨h1, h2⟩ | ⟨v, d, h1, h2, h3⟩
      · exact .inl ⟨by simpa [List.lookup, e2] using h1, by simpa [List.lookup, e2] using h2⟩
      · exact .inr ⟨v, d, by simpa [List.lookup, e2] using h1, by simpa [List.lookup, e2] using h2, h3⟩
def putG (f : Str) (v : D) : List (Str × D) → List (Str × D)
  | [] => [(f, v)]
  | (g, x) :: r => if g = f then (g, v) :: r else (g, x) :: putG f v r
theorem Rfs.put {f : Str} {v : V} {d : D} (h : Rp K F v d) : ∀ {fs : List (Str × V)} {gs : List (Str × D)}, Rfs K F fs gs → Rfs K F (putF f v fs) (putG f d gs)
  | _, _, .nil => .cons h .nil
  | _, _, .cons (x := x) h' r => by
    unfold putF putG
    by_cases e : x = f
    · rw [if_pos e, if_pos e]; exact .cons h r
    · rw [if_neg e, if_neg e]; exact .cons h' (Rfs.put h r)
theorem Rfs.length : ∀ {fs : List (Str × V)} {gs : List (Str × D)}, Rfs K F fs gs → fs.length = gs.length
  | _, _, .nil => rfl
  | _, _, .cons _ r => congrArg Nat.succ r.length
/-- an object beside -/
theorem Ok.more (k : Ok K F M H) {a : Addr} {o : HO} (h : H a = none) : Ok K F M (upd H a o) := by
  refine ⟨fun b u e => ?_, fun b d e => ?_⟩
  · rw [upd_ne (ne_of_none (k.ex b u e) h)]; exact k.ex b u e
  · obtain ⟨m1, m2⟩ := k.mt b d e
    obtain ⟨o2, h2⟩ := m2.there
    exact ⟨m1, m2.mono (Same.refl F) (upd_ne (ne_of_none h2 h))⟩
end
section
variable {X : Cx} {J : Gh} {e a b c o : Expr} {es : List Expr} {ρ ρ' : DEnv} {M M' : Mem} {F F' H H' : Hp} {σ : L2.St} {B : Bd} {K : PySem.W.Frag} {pos p apos cpos : Pos} {x f : Str} {P : D → Mem → Prop}
/-- e.f, a field -/
theorem ex_fld (h : EX X J e ρ M fun d M1 => ∃ C gs y, Is M1 d C gs ∧ Cls X.K C ∧ NoAttr X.K C f ∧ gs.lookup f = some y ∧ P y M1) (hb : attributeBase e f X.env (eval e X.env) = eval e X.env := by rfl) : EX X J (.Attribute e f pos) ρ M P :=
  ex_of (pe_fld pe_any hb) fun F σ H Q st k => h.go st fun d v M1 F1 H1 q1 e1 o1 r1 => by
    obtain ⟨C, gs, y, hi, hc, hn, hl, q⟩ := q1
    obtain ⟨a, dx, fs, rfl, h1, h2⟩ := hi.get o1 r1
    rcases h2.look (f := f) with ⟨_, h3⟩ | ⟨w, d', h3, h4, h5⟩
    · rw [h3] at hl; cases hl
    · rw [h4] at hl; cases hl
      exact ⟨a, C, dx, fs, w, rfl, h1, hc, hn, h3, k _ _ _ _ _ q e1 o1 h5⟩
/-- e.f, a constant of the class -/
theorem ex_con (h : EX X J e ρ M fun d M1 => ∃ C gs v u y, Is M1 d C gs ∧ Cls X.K C ∧ Con X.K C f v u ∧ gs.lookup f = none ∧ (∀ F, Rp X.K F v y) ∧ P y M1) (hb : attributeBase e f X.env (eval e X.env) = eval e X.env := by rfl) : EX X J (.Attribute e f pos) ρ M P :=
  ex_of (pe_con pe_any hb) fun F σ H Q st k => h.go st fun d v M1 F1 H1 q1 e1 o1 r1 => by
    obtain ⟨C, gs, v, u, y, hi, hc, hk, hl, hy, q⟩ := q1
    obtain ⟨a, dx, fs, rfl, h1, h2⟩ := hi.get o1 r1
    rcases h2.look (f := f) with ⟨h3, _⟩ | ⟨w, d', h3, h4, h5⟩
    · exact ⟨a, C, dx, fs, v, u, rfl, h1, hc, hk, h3, k _ _ _ _ _ q e1 o1 (hy _)⟩
    · rw [h4] at hl; cases hl
/-- e.f, a property -/
theorem ex_prop {k : Nat} {C q g : Addr} {fd : FuncData} {ps : List Str} {T : Tr} (c : Cls X.K C) (hp : PropOf X.K C f q g) (G : FnOk X.prog X.w X.K X.mg X.base CX0 k g fd ps (SpD X.K T)) (hr : Room (k + 1) X.A) (hb : Binds X.K fd ps [])
    (h : EX X J e ρ M fun d M1 => ∃ gs, Is M1 d C gs ∧ T [d] M1 P) (hab : attributeBase e f X.env (eval e X.env) = eval e X.env := by rfl) : EX X J (.Attribute e f pos) ρ M P :=
  ex_of (pe_prop (E := E0) pe_any c hp G hr hb .nil pass0 hab) fun F σ H Q st k => h.go st fun d v M1 F1 H1 q1 e1 o1 r1 => by
    obtain ⟨gs, hi, t⟩ := q1
    obtain ⟨a, dx, fs, rfl, h1, h2⟩ := hi.get o1 r1
    exact ⟨a, dx, fs, rfl, h1, F1, M1, [d], P, o1, .cons r1 .nil, t, k.to e1⟩
/-- o.f = e, o an instance that may change -/
theorem g1_setFld {fp : Pos} (h : EX X J e ρ M fun y M1 => EX X J o ρ M1 fun d M2 => ∃ q C gs, d = .adr q ∧ M2 q = some (.ins C gs) ∧ Cls X.K C ∧ NoAttr X.K C f ∧ gs.length < 1000 ∧ B.nx ρ (up M2 q (.ins C (putG f y gs))))
    (hs : swapsWith e (some (.Attribute o f fp)) pos.line X.env = pure false := by rfl) : G1 X J (.Assign [.Attribute o f fp] e pos) ρ M B :=
  g1_of (ps_fld pe_any pe_any hs) fun F σ H E s k => h.go s fun y v M1 F1 H1 q1 e1 o1 r1 => q1.go (s.to e1 o1) fun d w M2 F2 H2 q2 e2 o2 r2 => by
    obtain ⟨q, C, gs, rfl, hq, hc, hn, hl, q3⟩ := q2
    cases r2
    obtain ⟨_, dx, fs, h1, h2⟩ := o2.mt _ _ hq
    refine ⟨q, C, dx, fs, rfl, h1, hc, hn, by rw [h2.length]; exact hl, k.nx F2 _ _ _ _ q3 (e1.trans e2) ((s.en.mono e1).mono e2) ?_⟩
    exact o2.set (o := .ins C dx (putF f v fs)) hq ⟨dx, _, upd_same, h2.put (r1.mono e2)⟩
/-- what is made by C(..), told of its values -/
def TMk (C : Addr) (T : TrV) (ds : List D) (M : Mem) (P : D → Mem → Prop) : Prop := ∀ a, M a = none → T (.adr a :: ds) [] (up M a (.ins C [])) fun d M2 => d = .non ∧ ∃ gs M0, M0 a = none ∧ M2 = up M0 a (.ins C gs) ∧ P (.ins C gs) M0
theorem run_makeV {k : Nat} {C g : Addr} {T : TrV} {pins : List (Addr × Obj)} {s : Shared} {Q : VK} {us : List Value} {vs : List V} {ds : List D} (Mk0 : Mk X.K C g) (G : FnV X.prog X.w X.K X.mg X.base false k g [] T) (hr : Room (k + 1) X.A)
    (I : L2.Inv X pins σ H s) (r : Vals vs us) (o : Ok X.K F M H) (rd : Rps X.K F vs ds) (t : TMk C T ds M P) (kt : Kt X.K F P Q) : wpAny (model X.prog X.w) X.A (call (.ref C) us) (EP X pins σ Q) X.xe s := by
  have h1 : H (s.heap.objs.size + 1) = none := I.hok.fresh (Nat.le_succ _)
  have h0 : H s.heap.objs.size = none := I.hok.fresh (Nat.le_refl _)
  have I2 := Inv.made (C := C) I
  have o1 := o.more (o := .own (s.heap.objs.size + 1)) h0
  have h2 : upd H s.heap.objs.size (.own (s.heap.objs.size + 1)) (s.heap.objs.size + 1) = none := by rw [upd_ne (Nat.succ_ne_self _)]; exact h1
  have o2 := o1.lay (o := .ins C s.heap.objs.size []) (d := .ins C []) h2 ⟨_, [], upd_same, .nil⟩
  have hM := (o.nn h1).2
  have r2 : Vals (V.ref (s.heap.objs.size + 1) :: vs) (Value.ref (s.heap.objs.size + 1) :: us) := .cons rfl r
  refine wpAny_call (make_map (f := g) I.kIn Mk0.makes Mk0.init (beq_iff_eq.mp Mk0.fn) (codeAny_mono (G.go _ X.stack _ _ F _ _ [] _ (Value.ref (s.heap.objs.size + 1) :: us) [] _ [] (fun v H2 => v = .non ∧ Q (.ref (s.heap.objs.size + 1)) H2) (fun z => nomatch z) (hr.make C us []) (I2.env0.make C us []) r2 .nil rfl o2 (.cons (.adr _) rd) .nil (t _ hM) ?_) fun r s' hq' => ?_))
  · rintro d v M' F' H' ⟨rfl, gs, M0, hn, rfl, q⟩ e' o' r'
    cases r'
    refine ⟨rfl, ?_⟩
    obtain ⟨_, dx, fs, h3, h4⟩ := o'.mt _ _ up_same
    obtain ⟨s1, o5⟩ := o'.freeze up_same h3
    rw [rm_up hn] at o5
    exact kt _ _ _ _ _ q (e'.trans s1) o5 (.ins upd_same (h4.mono s1))
  · cases r with
    | error e => exact hq'.elim
    | ok fl =>
      cases fl with
      | ret u =>
        obtain ⟨v, H', I3, rv, ev, q3⟩ := I2.after hq'
        subst ev
        exact ⟨rv, ⟨V.ref (s.heap.objs.size + 1), H', I3, rfl, q3⟩⟩
      | next => exact False.elim hq'
      | brk => exact False.elim hq'
      | cont => exact False.elim hq'
/-- C(e, ..) -/
theorem ex_make {k : Nat} {C g : Addr} {T : TrV} (Mk0 : Mk X.K C g) (G : FnV X.prog X.w X.K X.mg X.base false k g [] T) (hr : Room (k + 1) X.A) (hm : X.mg x = some (.ref C)) (h : AX X J (e :: es) ρ M fun ds M1 => TMk C T ds M1 P) (hg : Gl X x := by rfl) (hdb : (x == ("__debug__" : Str)) = false := by decide)
    (he : starEach (e :: es) X.env = (false, eval e X.env) :: starEach es X.env := by rfl) (hpl : (backTo pos (starEach es X.env)).any (·.1) = false := by rfl) : EX X J (.Call (.Name x p) (e :: es) [] pos) ρ M P := by
  refine ⟨fun pins s σ H Q I ⟨F, st, kt⟩ => ?_⟩
  refine wpAny_Call_Name_kw (ld_glob I hg hm ?_ hdb)
  refine PySem.W.callWith_K (h₀ := X.base) I.ok.mod.kin Mk0.kp (thn ((pa_any (X := X) (es := e :: es)).run pos pins s σ H (fun vs H1 => ∃ F1 M1 ds, Same F F1 ∧ Ok X.K F1 M1 H1 ∧ Rps X.K F1 vs ds ∧ TMk C T ds M1 P) I
    (h.go st fun ds vs M1 F1 H1 q e1 o1 r1 => ⟨F1, M1, ds, e1, o1, r1, q⟩)) fun us s1 ⟨vs, H1, I1, r, F1, M1, ds, e1, o1, rd, q⟩ => ⟨I1.kIn, ?_⟩) he hpl
  exact run_makeV Mk0 G hr I1 r o1 rd q (kt.to e1)
/-- C() -/
theorem ex_make0 {k : Nat} {C g : Addr} {T : TrV} (Mk0 : Mk X.K C g) (G : FnV X.prog X.w X.K X.mg X.base false k g [] T) (hr : Room (k + 1) X.A) (hm : X.mg x = some (.ref C)) (h : TMk C T [] M P) (hg : Gl X x := by rfl) (hdb : (x == ("__debug__" : Str)) = false := by decide) : EX X J (.Call (.Name x p) [] [] pos) ρ M P := by
  refine ⟨fun pins s σ H Q I ⟨F, st, kt⟩ => ?_⟩
  refine wpAny_Call_Name_kw (ld_glob I hg hm ?_ hdb)
  exact PySem.W.callWith_K0 I.kIn Mk0.kp (run_makeV Mk0 G hr I .nil st.ok .nil h kt)
theorem evalArgs_two {Mo : Model} {A : Around} {E : Value → Shared → Prop} {s : Shared} {fv : Value} {u1 u2 : Bool × Sem Value} {rest : List (Bool × Sem Value)} {Q : Args → Shared → Prop}
    (h : wpAny Mo A (spliced (u1 :: u2 :: rest)) (fun vs s' => Q ⟨vs, []⟩ s') E s) : wpAny Mo A (evalArgs fv true (u1 :: u2 :: rest) []) Q E s := by
  unfold evalArgs
  obtain ⟨b1, x1⟩ := u1
  cases b1 <;>
  · show wpAny Mo A (spliced _ >>= _) Q E s
    refine wpAny_bind (wpAny_mono h (fun vs s' h' => ?_) fun _ _ x => x)
    refine wpAny_holding ?_
    exact wpAny_bind (wpAny_pure (wpAny_bind (wpAny_pure (wpAny_pure h'))))
/-- C( *a, *b) -/
theorem ex_makeS2 {k : Nat} {C g : Addr} {T : TrV} {p1 p2 : Pos} (Mk0 : Mk X.K C g) (G : FnV X.prog X.w X.K X.mg X.base false k g [] T) (hr : Room (k + 1) X.A) (hm : X.mg x = some (.ref C)) (h : AX X J [.Starred a p1, .Starred b p2] ρ M fun ds M1 => TMk C T ds M1 P) (hg : Gl X x := by rfl) (hdb : (x == ("__debug__" : Str)) = false := by decide)
    (he : starEach [.Starred a p1, .Starred b p2] X.env = [(true, eval a X.env), (true, eval b X.env)] := by rfl) : EX X J (.Call (.Name x p) [.Starred a p1, .Starred b p2] [] pos) ρ M P := by
  refine ⟨fun pins s σ H Q I ⟨F, st, kt⟩ => ?_⟩
  refine wpAny_Call_Name_kw (ld_glob I hg hm ?_ hdb)
  have hh := (pa_any (X := X) (es := [.Starred a p1, .Starred b p2])).run pos pins s σ H (fun vs H1 => ∃ F1 M1 ds, Same F F1 ∧ Ok X.K F1 M1 H1 ∧ Rps X.K F1 vs ds ∧ TMk C T ds M1 P) I
    (h.go st fun ds vs M1 F1 H1 q e1 o1 r1 => ⟨F1, M1, ds, e1, o1, r1, q⟩)
  rw [he] at hh ⊢
  refine PySem.W.ks_call (P := X.K.In) rfl (PySem.W.keeps_K Mk0.kp) (evalArgs_two (thn hh fun us s1 ⟨vs, H1, I1, r, F1, M1, ds, e1, o1, rd, q⟩ => ⟨I1.kIn, ?_⟩))
  exact run_makeV Mk0 G hr I1 r o1 rd q (kt.to e1)
/-! ### instances called; +, == -/
def SpV (K : PySem.W.Frag) (T : TrV) : Sp := fun vs H Q _ => ∃ F M ds P, Ok K F M H ∧ Rps K F vs ds ∧ T ds [] M P ∧ Kt K F P Q
theorem fnR_of {pg : Program} {w : World} {mg : Str → Option Value} {base : Heap} {k : Nat} {g : Addr} {T : TrV} (G : FnV pg w K mg base false k g [] T) : FnR pg w K mg base CX0 k g (SpV K T) := by
  intro A outer s H us vs Q E hr e0 r ⟨F, M, ds, P, o, rd, t, kt⟩
  refine codeAny_mono (G.go A outer s H F M ds [] P us [] vs [] Q (fun z => nomatch z) hr e0 r .nil rfl o rd .nil t kt) fun res s' h => ?_
  cases res with
  | error e => exact h.elim
  | ok fl => cases fl <;> exact h
theorem ex_callO {k : Nat} {C g : Addr} {T : TrV} (c0 : CallO X.K C g) (G : FnV X.prog X.w X.K X.mg X.base false k g [] T) (hr : Room k X.A) (h : EX X J o ρ M fun d M1 => (∃ gs, Is M1 d C gs) ∧ AX X J (e :: es) ρ M1 fun ds M2 => ∃ gs, Is M2 d C gs ∧ T (d :: ds) [] M2 P)
    (ht : eval (.Call o (e :: es) [] pos) X.env = (do callWith pos (← eval o X.env) [] (backTo pos (starEach (e :: es) X.env)) (backToKw pos (keywordEach [] X.env))) := by rfl)
    (he : starEach (e :: es) X.env = (false, eval e X.env) :: starEach es X.env := by rfl) (hpl : (backTo pos (starEach es X.env)).any (·.1) = false := by rfl) : EX X J (.Call o (e :: es) [] pos) ρ M P := by
  refine ⟨fun pins s σ H Q I ⟨F, st, kt⟩ => ?_⟩
  refine Call_ (thn ((pe_any (X := X) (e := o)).run pins s σ H (fun v H1 => ∃ F1 M1 d, Same F F1 ∧ Ok X.K F1 M1 H1 ∧ Rp X.K F1 v d ∧ (∃ gs, Is M1 d C gs) ∧ AX X J (e :: es) ρ M1 fun ds M2 => ∃ gs, Is M2 d C gs ∧ T (d :: ds) [] M2 P) I (h.go st fun d v M1 F1 H1 q e1 o1 r1 => ⟨F1, M1, d, e1, o1, r1, q⟩)) fun u s1 ⟨y, H1, I1, ry, F1, M1, d, e1, o1, rd, ⟨gs0, hi0⟩, q⟩ => ?_) ht
  obtain ⟨a, _, _, rfl, _, _⟩ := hi0.get o1 rd
  obtain rfl : u = Value.ref a := ry
  refine callO_with (thn ((pa_any (X := X) (es := e :: es)).run pos pins s1 σ H1 (fun vs H2 => ∃ F2 M2 ds, Same F1 F2 ∧ Ok X.K F2 M2 H2 ∧ Rps X.K F2 vs ds ∧ ∃ gs, Is M2 d C gs ∧ T (d :: ds) [] M2 P) I1 (q.go (st.to e1 o1) fun ds vs M2 F2 H2 q2 e2 o2 r2 => ⟨F2, M2, ds, e2, o2, r2, q2⟩)) fun us s2 ⟨vs, H2, I2, r, F2, M2, ds, e2, o2, rds, gs, hi, t⟩ => ?_) he hpl
  obtain ⟨a', dx, fs, ea, h1, h2⟩ := hi.get o2 (rd.mono e2)
  cases ea
  obtain ⟨ox, od, J0, hd⟩ := insC_at (X := X) I2 (.inr ⟨dx, fs, h1⟩)
  exact ⟨⟨C, ox, od, J0, hd⟩, run_callO (E := E0) c0 (fnR_of G) hr pass0 I2 (.inr ⟨dx, fs, h1⟩) r ⟨F2, M2, _, P, o2, .cons (rd.mono e2) rds, t, kt.to (e1.trans e2)⟩⟩
/-- x + y by the class's __add__, which gives an instance -/
theorem od_addOwn {k : Nat} {C g : Addr} {T : TrV} {x y : D} {gs hs : List (Str × D)} (G : FnV X.prog X.w X.K X.mg X.base false k g [] T) (hr : Room k X.A) (hsf : PySem.W.selfFirst X.K C = true) (hm : Meth X.K C "__add__" g) (hx : Is M x C gs) (hy : Is M y C hs)
    (t : T [x, y] [] M fun d M2 => (∃ C' gs', d = .ins C' gs') ∧ P d M2) : OD X (binaryOp .Add) x y M P :=
  ⟨fun v u H Q => ∃ F, Ok X.K F M H ∧ Rp X.K F v x ∧ Rp X.K F u y ∧ Kt X.K F P Q, fun pins s σ H v0 u0 v u Q I rv ru ⟨F, o, rx, ry, kt⟩ => by
    obtain ⟨a, dx, fs, rfl, h1, _⟩ := hx.get o rx
    obtain ⟨b, dy, fs', rfl, h2, _⟩ := hy.get o ry
    obtain rfl : v = Value.ref a := rv
    obtain rfl : u = Value.ref b := ru
    obtain ⟨ox, od, J0, _⟩ := insC_at (X := X) I (.inr ⟨dx, fs, h1⟩)
    obtain ⟨oy, od', J1, _⟩ := insC_at (X := X) I (.inr ⟨dy, fs', h2⟩)
    have hc : wpAny (model X.prog X.w) X.A (call (.ref g) [.ref a, .ref b]) (EP X pins σ fun v H' => (∃ a, v = .ref a) ∧ Q v H') X.xe s := wpAny_call (run_fnR (E := E0) (us := [.ref a, .ref b]) (vs := [V.ref a, V.ref b]) (fnR_of G) hr pass0 I (.cons rfl (.cons rfl .nil)) ⟨F, M, _, _, o, .cons rx (.cons ry .nil), t, fun d v M' F' H' q e o' r => by
      obtain ⟨⟨C', gs', rfl⟩, q⟩ := q
      exact ⟨by cases r; exact ⟨_, rfl⟩, kt _ _ _ _ _ q e o' r⟩⟩)
    refine add_own I.kIn J0 J1 hsf hm.at_ hm.fn (wpAny_mono hc (fun v' s' h => ?_) fun _ _ z => z)
    obtain ⟨v, H', I', rv', ⟨a', rfl⟩, q⟩ := h
    obtain rfl : v' = Value.ref a' := rv'
    exact ⟨fun z => (nomatch z), V.ref a', H', I', rfl, q⟩, fun F H v u Q o rx ry kt => ⟨F, o, rx, ry, kt⟩⟩
/-- x == y by the class's __eq__ -/
theorem od_eqOwn {k : Nat} {C g : Addr} {T : TrV} {x y : D} {gs hs : List (Str × D)} (G : FnV X.prog X.w X.K X.mg X.base false k g [] T) (hr : Room k X.A) (hm : Meth X.K C "__eq__" g) (hx : Is M x C gs) (hy : Is M y C hs)
    (t : T [x, y] [] M fun d M2 => (∃ b, d = .bl b) ∧ P d M2) : OD X (compareOp .Eq) x y M P :=
  ⟨fun v u H Q => ∃ F, Ok X.K F M H ∧ Rp X.K F v x ∧ Rp X.K F u y ∧ Kt X.K F P Q, fun pins s σ H v0 u0 v u Q I rv ru ⟨F, o, rx, ry, kt⟩ => by
    obtain ⟨a, dx, fs, rfl, h1, _⟩ := hx.get o rx
    obtain ⟨b, dy, fs', rfl, h2, _⟩ := hy.get o ry
    obtain rfl : v = Value.ref a := rv
    obtain rfl : u = Value.ref b := ru
    obtain ⟨ox, od, J0, _⟩ := insC_at (X := X) I (.inr ⟨dx, fs, h1⟩)
    obtain ⟨oy, od', J1, _⟩ := insC_at (X := X) I (.inr ⟨dy, fs', h2⟩)
    have hc : wpAny (model X.prog X.w) X.A (call (.ref g) [.ref a, .ref b]) (EP X pins σ fun v H' => (∃ a, v = .bl a) ∧ Q v H') X.xe s := wpAny_call (run_fnR (E := E0) (us := [.ref a, .ref b]) (vs := [V.ref a, V.ref b]) (fnR_of G) hr pass0 I (.cons rfl (.cons rfl .nil)) ⟨F, M, _, _, o, .cons rx (.cons ry .nil), t, fun d v M' F' H' q e o' r => by
      obtain ⟨⟨b', rfl⟩, q⟩ := q
      exact ⟨by cases r; exact ⟨_, rfl⟩, kt _ _ _ _ _ q e o' r⟩⟩)
    obtain ⟨m, hF⟩ := I.fr
    show wpAny (model X.prog X.w) X.A (richCompare .Eq (.ref a) (.ref b)) (EP X pins σ Q) X.xe s
    refine PySem.W.cmp_K (op := .Eq) (tb := .ref C) hr.units0 hF I.ok.mod.kin J0 J1.type (by simp [PySem.W.notFirst]) hm.at_ hm.fn (wpAny_mono hc (fun v' s' h => ?_) fun _ _ z => z)
    obtain ⟨v, H', I', rv', ⟨b', rfl⟩, q⟩ := h
    obtain rfl : v' = Value.bool b' := rv'
    exact ⟨V.bl b', H', I', rfl, q⟩, fun F H v u Q o rx ry kt => ⟨F, o, rx, ry, kt⟩⟩
end
end DX
namespace DX
open PySem PySem.Spec L2
/-! ### a look at the module: properties, sys.modules' place -/
def prAd (K : PySem.W.Frag) (C f : Str) : Addr × Addr := match PySem.W.findIn K (.ref (He.ga K C)) f with
  | some (some (.ref p)) => (match PySem.W.recIn K p "property" with
    | some (.ref g :: _) => (p, g)
    | _ => (0, 0))
  | _ => (0, 0)
def fnWA (K : PySem.W.Frag) (a : Addr) : He.FnW := match K.lookup a with
  | some ⟨_, _, .func fd, _⟩ => some (fd.name, fd.qualname, fd.params, fd.body, fd.scope, fd.globals, fd.closure, fd.builtins)
  | _ => none
/-- a property's getter: the class, the property's name; its def -/
def prB (K : PySem.W.Frag) (C f q : Str) : Bool :=
  He.eqO (PySem.W.findIn K (.ref (He.ga K C)) f) (some (some (.ref (prAd K C f).1))) && (He.eqO (PySem.W.specialIn K (.ref (prAd K C f).1) "__get__") (some (some (.builtin "property.__get__"))) &&
    (decide (PySem.W.takesIn K (.ref (prAd K C f).1) = some true) && ((match PySem.W.recIn K (prAd K C f).1 "property" with
      | some (v :: _) => decide (v = .ref (prAd K C f).2)
      | _ => false) && (PySem.W.keepIn K (.ref (prAd K C f).2) && (match K.lookup (prAd K C f).2 with
        | some ⟨_, _, .func fd, _⟩ => PySem.W.codeIn K fd.code q && (He.dflB K fd.defaults [] && He.kwdB K fd.kwdefaults [])
        | _ => false)))))
theorem prB_prop {K : PySem.W.Frag} {C f q : Str} (h : prB K C f q = true) : PropOf K (He.ga K C) f (prAd K C f).1 (prAd K C f).2 := by
  obtain ⟨h1, h⟩ := He.ba h
  obtain ⟨h2, h⟩ := He.ba h
  obtain ⟨h3, h⟩ := He.ba h
  obtain ⟨h4, h⟩ := He.ba h
  refine ⟨He.eqO_ok h1, He.eqO_ok h2, of_decide_eq_true h3, ?_⟩
  cases e : PySem.W.recIn K (prAd K C f).1 "property" with
  | none => rw [e] at h4; cases h4
  | some l =>
    cases l with
    | nil => rw [e] at h4; cases h4
    | cons v r =>
      rw [e] at h4
      rw [of_decide_eq_true h4]
      exact ⟨r, rfl⟩
theorem prB_fun {K : PySem.W.Frag} {C f : Str} {name qual : Str} {params : Arguments} {body : List Stmt} {scope : Scope} (h : prB K C f qual = true) (e : fnWA K (prAd K C f).2 = some (name, qual, params, .stmts body, scope, mainGlobals, [], builtinsNs)) :
    ∃ fd, FunD K name qual params body scope [] [] (prAd K C f).2 fd := by
  obtain ⟨_, h⟩ := He.ba h
  obtain ⟨_, h⟩ := He.ba h
  obtain ⟨_, h⟩ := He.ba h
  obtain ⟨_, h⟩ := He.ba h
  obtain ⟨kp, c2⟩ := He.ba h
  unfold fnWA at e
  cases q : K.lookup (prAd K C f).2 with
  | none => rw [q] at c2; cases c2
  | some o =>
    obtain ⟨oc, od, dt, osl⟩ := o
    rw [q] at c2 e
    cases dt with
    | func fd =>
      obtain ⟨n1, n2, n3, n4, n5, n6, n7, n8, n9, n10, n11, n12, n13, n14, n15⟩ := fd
      have e2 : (some (n1, n2, n3, n4, n5, n6, n7, n15) : He.FnW) = some (name, qual, params, .stmts body, scope, mainGlobals, [], builtinsNs) := e
      simp only [Option.some.injEq, Prod.mk.injEq] at e2
      obtain ⟨h1, h2, h3, h4, h5, h6, h7, h8⟩ := e2
      subst h1 h2 h3 h4 h5 h6 h7 h8
      have c3 : (PySem.W.codeIn K n13 _ && (He.dflB K n8 [] && He.kwdB K n9 [])) = true := c2
      obtain ⟨k1, k2⟩ := He.ba c3
      obtain ⟨k3, k4⟩ := He.ba k2
      exact ⟨_, ⟨oc, od, n8, n9, n10, n11, n12, n13, n14, osl, rfl, q, k1, He.dflB_ok k3, He.kwdB_ok k4⟩, kp⟩
    | _ => cases c2
/-- a getter's def (at_: the class, the property) -/
structure PrD where
  cls : Str
  nm : Str
  qual : Str
  params : Arguments
  body : List Stmt
  scope : Scope
def PrD.val (d : PrD) : He.FnW := some (d.nm, d.qual, d.params, .stmts d.body, d.scope, mainGlobals, [], builtinsNs)
def obsP (fa : List He.Fa) (fn : List He.DefD) (pr : List PrD) (ex : PySem.W.Frag → Bool) (K : PySem.W.Frag) : He.AlD × Bool × List He.FnW :=
  (He.obsD fa fn K, ex K && pr.all (fun d => prB K d.cls d.nm d.qual), pr.map fun d => fnWA K (prAd K d.cls d.nm).2)
def lookP (fa : List He.Fa) (fn : List He.DefD) (pr : List PrD) (ex : PySem.W.Frag → Bool) (n : Nat) (g : Addr → Option Obj) : He.AlD × Bool × List He.FnW := obsP fa fn pr ex (He.frG g (sysModules :: He.asD g n))
def SaysP (fa : List He.Fa) (fn : List He.DefD) (pr : List PrD) (ex : PySem.W.Frag → Bool) (K : PySem.W.Frag) : Prop := obsP fa fn pr ex K = (He.valD fn, true, pr.map PrD.val)
def hookP (n : Nat) (fa : List He.Fa) (fn : List He.DefD) (pr : List PrD) (ex : PySem.W.Frag → Bool) : PySem.W.Hook where
  α := He.AlD × Bool × List He.FnW
  obs := fun s => lookP fa fn pr ex n s.heap.get?
  val := fun _ => (He.valD fn, true, pr.map PrD.val)
  says := fun _ h => ∃ K : PySem.W.Frag, K.In h ∧ SaysP fa fn pr ex K
  of := fun _ _ e => ⟨_, He.frG_in, e⟩
  keeps := fun _ _ _ ⟨K, hK, c⟩ k => ⟨K, PySem.W.Frag.In.keeps hK k, c⟩
theorem lookP_eq {n : Nat} {fa : List He.Fa} {fn : List He.DefD} {pr : List PrD} {ex : PySem.W.Frag → Bool} {g : Addr → Option Obj} {s : Shared} (h : ∀ a, g a = s.heap.get? a) : lookP fa fn pr ex n g = (hookP n fa fn pr ex).obs s := by
  have e : g = s.heap.get? := funext h
  subst e
  rfl
section
variable {fa : List He.Fa} {fn : List He.DefD} {pr : List PrD} {ex : PySem.W.Frag → Bool} {K : PySem.W.Frag}
theorem SaysP.says (c : SaysP fa fn pr ex K) : He.SaysD fa fn K := congrArg Prod.fst c
theorem SaysP.exx (c : SaysP fa fn pr ex K) : ex K = true := (He.ba (congrArg (fun z => z.2.1) c)).1
theorem SaysP.pr_ (c : SaysP fa fn pr ex K) (i : Nat) {d : PrD} (h : pr[i]? = some d := by rfl) : PropOf K (He.ga K d.cls) d.nm (prAd K d.cls d.nm).1 (prAd K d.cls d.nm).2 ∧ ∃ fd, FunD K d.nm d.qual d.params d.body d.scope [] [] (prAd K d.cls d.nm).2 fd := by
  have c2 := (He.ba (congrArg (fun z => z.2.1) c)).2
  have e : pr.map (fun d => fnWA K (prAd K d.cls d.nm).2) = pr.map PrD.val := congrArg (fun z => z.2.2) c
  have e2 : (pr.map fun d => fnWA K (prAd K d.cls d.nm).2)[i]? = (pr.map PrD.val)[i]? := by rw [e]
  rw [List.getElem?_map, List.getElem?_map, h] at e2
  have hb := List.all_eq_true.mp c2 d (List.mem_of_getElem? h)
  exact ⟨prB_prop hb, prB_fun hb (Option.some.inj e2)⟩
end
/-- a class that stands first among those that its instances are looked up in -/
def sfB (K : PySem.W.Frag) (C : Str) : Bool := PySem.W.selfFirst K (He.ga K C)
/-- a constant of a class, an int -/
def conB (K : PySem.W.Frag) (C f : Str) (i : Int) : Bool := match PySem.W.findIn K (.ref (He.ga K C)) f with
  | some (some (.int j t)) => decide (j = i) && He.eqO (PySem.W.specialIn K (.int j t) "__get__") (some none)
  | _ => false
theorem conB_ok {K : PySem.W.Frag} {C f : Str} {i : Int} (h : conB K C f i = true) (hc : PySem.W.copiedNames.contains f = false) : ∃ u, Con K (He.ga K C) f (.int i) u := by
  unfold conB at h
  cases e : PySem.W.findIn K (.ref (He.ga K C)) f with
  | none => rw [e] at h; cases h
  | some v =>
    cases v with
    | none => rw [e] at h; cases h
    | some w =>
      rw [e] at h
      cases w with
      | int j t =>
        obtain ⟨h1, h2⟩ := He.ba h
        have := of_decide_eq_true h1
        subst this
        exact ⟨_, e, ⟨t, rfl⟩, He.eqO_ok h2, hc⟩
      | _ => cases h
/-- its instances may be called -/
def callB (K : PySem.W.Frag) (C : Str) : Bool := He.eqO (PySem.W.findIn K (.ref (He.ga K C)) "__call__") (some (some (.ref (He.ma K (He.ga K C) "__call__")))) && (PySem.W.isFn K (.ref (He.ma K (He.ga K C) "__call__")) && PySem.W.fnIn K (He.ma K (He.ga K C) "__call__"))
theorem callB_ok {K : PySem.W.Frag} {C : Str} (h : callB K C = true) : StX.CallO K (He.ga K C) (He.ma K (He.ga K C) "__call__") := by
  obtain ⟨h1, h⟩ := He.ba h
  obtain ⟨h2, h3⟩ := He.ba h
  exact ⟨He.eqO_ok h1, h2, h3⟩
end DX
namespace DX
open PySem PySem.Spec L2
open SX
section
variable {X : Cx} {J : Gh} {M : Mem} {P : D → Mem → Prop} {ρ : DEnv} {o e : Expr} {pos apos cpos : Pos}
/-! ### in, not in: ints; signs of a text -/
theorem flat_ints : ∀ ns : List Int, (ns.map V.int).all flatV = true
  | [] => rfl
  | y :: ns => by rw [List.map_cons, List.all_cons, flat_ints ns]; rfl
theorem inV_ints {i : Int} : ∀ ns : List Int, inV (.int i) (ns.map V.int) = decide (i ∈ ns)
  | [] => by simp [inV]
  | y :: ns => by
    have ih := inV_ints (i := i) ns
    unfold inV at ih ⊢
    rw [List.map_cons, List.any_cons, ih]
    show (y == i || decide (i ∈ ns)) = decide (i ∈ y :: ns)
    by_cases h : y = i
    · subst h; simp
    · have h' : ¬ i = y := fun z => h z.symm
      simp [h, h']
theorem od_inI {i : Int} {c : D} {ds : List D} {ns : List Int} (s : Sq M c ds) (e : ds = ns.map D.int) (p : P (.bl (decide (i ∈ ns))) M) : OD X (compareOp .In) (.int i) c M P :=
  ⟨_, op_in_seq, fun F H v u Q o rx ry k => by
    subst e
    cases rx
    obtain ⟨q, xs, rfl, hx, rs⟩ := s.get o ry
    obtain rfl := rs.ints
    refine ⟨_, _, rfl, hx, rfl, flat_ints _, ?_⟩
    rw [inV_ints]
    exact k.here p o (.bl _)⟩
theorem od_notInI {i : Int} {c : D} {ds : List D} {ns : List Int} (s : Sq M c ds) (e : ds = ns.map D.int) (p : P (.bl (!decide (i ∈ ns))) M) : OD X (compareOp .NotIn) (.int i) c M P :=
  ⟨_, op_notIn_seq, fun F H v u Q o rx ry k => by
    subst e
    cases rx
    obtain ⟨q, xs, rfl, hx, rs⟩ := s.get o ry
    obtain rfl := rs.ints
    refine ⟨_, _, rfl, hx, rfl, flat_ints _, ?_⟩
    rw [inV_ints]
    exact k.here p o (.bl _)⟩
theorem od_inC {y z : Str} {c : Nat} (e : y = ⟨#[c]⟩) (p : P (.bl (decide (c ∈ z.cps.toList))) M) : OD X (compareOp .In) (.str y) (.str z) M P :=
  ⟨_, op_in_sign, fun F H v u Q o rx ry k => by
    subst e
    cases rx; cases ry
    exact ⟨c, z, rfl, rfl, k.here p o (.bl _)⟩⟩
theorem od_notInC {y z : Str} {c : Nat} (e : y = ⟨#[c]⟩) (p : P (.bl (!decide (c ∈ z.cps.toList))) M) : OD X (compareOp .NotIn) (.str y) (.str z) M P :=
  ⟨_, op_notIn_sign, fun F H v u Q o rx ry k => by
    subst e
    cases rx; cases ry
    exact ⟨c, z, rfl, rfl, k.here p o (.bl _)⟩⟩
/-! ### max, min of a list of ints -/
theorem cd_maxL {d : D} {ds : List D} {ns : List Int} (hc : X.calm = true) (s : Sl M d ds) (e : ds = ns.map D.int) (hn : 0 < ns.length) (q : ∀ m, m ∈ ns → (∀ y, y ∈ ns → y ≤ m) → P (.int m) M) : CD X (.builtin "max") [d] M P :=
  ⟨_, cr_max hc, fun F H vs Q o r k => by
    subst e
    cases r with
    | cons h1 r =>
      cases r
      obtain ⟨a, xs, rfl, h2, r2⟩ := s.get o h1
      exact ⟨a, ns, rfl, by rw [← r2.ints]; exact SqL.of h2, hn, fun m h3 h4 => k.here (q m h3 h4) o (.int _)⟩⟩
theorem cd_minL {d : D} {ds : List D} {ns : List Int} (hc : X.calm = true) (s : Sl M d ds) (e : ds = ns.map D.int) (hn : 0 < ns.length) (q : ∀ m, m ∈ ns → (∀ y, y ∈ ns → m ≤ y) → P (.int m) M) : CD X (.builtin "min") [d] M P :=
  ⟨_, cr_min hc, fun F H vs Q o r k => by
    subst e
    cases r with
    | cons h1 r =>
      cases r
      obtain ⟨a, xs, rfl, h2, r2⟩ := s.get o h1
      exact ⟨a, ns, rfl, by rw [← r2.ints]; exact SqL.of h2, hn, fun m h3 h4 => k.here (q m h3 h4) o (.int _)⟩⟩
/-! ### z.count(y) -/
theorem ex_scount (h : EX X J o ρ M fun d M1 => ∃ z, d = .str z ∧ AX X J [e] ρ M1 fun ys M2 => ∃ y, ys = [.str y] ∧ P (.int (Txt.count z y)) M2)
    (hbase : attributeBase o "count" X.env (eval o X.env) = eval o X.env := by rfl)
    (few : ((backTo cpos (starEach [e] X.env)).all (fun x => !x.1) && (backToKw cpos (keywordEach [] X.env)).all (fun x => x.1.isSome) && decide ([e].length + ([] : List Keyword).length + (if ([] : List Keyword).isEmpty then 0 else 1) < 30)) = true := by rfl)
    (line : (apos.endLine == cpos.line) = true := by rfl) (hst : starEach [e] X.env = (false, eval e X.env) :: starEach [] X.env := by rfl) (hpl : (backTo cpos (starEach [] X.env)).any (·.1) = false := by rfl) :
    EX X J (.Call (.Attribute o "count" apos) [e] [] cpos) ρ M P :=
  ex_of (pe_bm PySem.F.plainAttrs_str PySem.F.slot_str_count PySem.F.type_str_count mt_count pe_any pa_any hbase few line hst hpl) fun F σ H Q st k => h.go st fun d v M1 F1 H1 q1 e1 o1 r1 => by
    obtain ⟨z, rfl, q2⟩ := q1
    cases r1
    refine ⟨rfl, q2.go (st.to e1 o1) fun ys vs M2 F2 H2 q3 e2 o2 r2 => ?_⟩
    obtain ⟨y, rfl, q3⟩ := q3
    cases r2 with
    | cons r2 r3 =>
      cases r3
      cases r2
      exact ⟨z, y, rfl, rfl, k _ _ _ _ _ q3 (e1.trans e2) o2 (.int _)⟩
/-! ### == [], != [] of a list that may change -/
theorem pyds_nil {ds : List D} : PyData.eqv (.list (pyds ds)) (.list []) = ds.isEmpty := by
  cases ds with
  | nil => simp [pyds, PyData.eqv, PyData.eqvAll]
  | cons d ds => simp [pyds, PyData.eqv, PyData.eqvAll]
theorem sl_dp {K : PySem.W.Frag} {F H : Hp} {x : D} {ds : List D} {v : V} (o : Ok K F M H) (s : Sl M x ds) (r : Rp K F v x) (hg : goods ds) : Dp K H v (.list (pyds ds)) := by
  obtain ⟨p, xs, rfl, h1, h2⟩ := s.get o r
  exact .lst (SqL.of h1) (Rps.dps o.ex h2 (goods_py hg))
theorem shaped_l {ds : List D} (hg : goods ds) (hd : deps ds ≤ 40) : SeqAt.shaped (.list (pyds ds)) = true := by
  have := shaped_good (d := .lst ds) hg (by rw [dep]; omega)
  simpa [pyd] using this
theorem od_neNilA {x : D} {ds : List D} (hu : X.A.units + 64 < cLine) (s : Sl M x ds) (hg : goods ds) (hd : deps ds ≤ 40) (q : P (.bl (!ds.isEmpty)) M) : OD X (compareOp .NotEq) x (.lst []) M P :=
  ⟨_, op_neD hu, fun F H v u Q o rx ry k => ⟨.list (pyds ds), .list [], sl_dp o s rx hg, sl_dp (ds := []) o .lst ry trivial, shaped_l hg hd, shaped_l (ds := []) trivial (by decide), by rw [pyds_nil]; exact k.here q o (.bl _)⟩⟩
theorem od_eqNilA {x : D} {ds : List D} (hu : X.A.units + 64 < cLine) (s : Sl M x ds) (hg : goods ds) (hd : deps ds ≤ 40) (q : P (.bl ds.isEmpty) M) : OD X (compareOp .Eq) x (.lst []) M P :=
  ⟨_, op_eqD hu, fun F H v u Q o rx ry k => ⟨.list (pyds ds), .list [], sl_dp o s rx hg, sl_dp (ds := []) o .lst ry trivial, shaped_l hg hd, shaped_l (ds := []) trivial (by decide), by rw [pyds_nil]; exact k.here q o (.bl _)⟩⟩
/-! ### what changed is left behind -/
theorem Ok.less {K : PySem.W.Frag} {F H : Hp} {p : Addr} {d : D} (o : Ok K F (up M p d) H) (hp : M p = none) : Ok K F M H :=
  ⟨o.ex, fun a d' h => o.mt a d' (by rw [up_ne (fun e => by subst e; rw [hp] at h; cases h)]; exact h)⟩
theorem gx_drop {sts : List Stmt} {B : Bd} {p : Addr} {d : D} (hp : M p = none) (h : GX X J sts ρ M B) : GX X J sts ρ (up M p d) B :=
  ⟨fun pins s σ H E I ⟨F, st, k⟩ => h.run pins s σ H E I ⟨F, ⟨st.en, st.ok.less hp, st.gh⟩, k⟩⟩
theorem g1_drop {st : Stmt} {B : Bd} {p : Addr} {d : D} (hp : M p = none) (h : G1 X J st ρ M B) : G1 X J st ρ (up M p d) B :=
  ⟨fun pins s σ H E I ⟨F, st, k⟩ => h.run pins s σ H E I ⟨F, ⟨st.en, st.ok.less hp, st.gh⟩, k⟩⟩
end
end DX
/-! enumerate(t) of a tuple -/
namespace EnT
open PySem PySem.Spec L2 PyProof.Rows
theorem meets1 {v : Value} {o : Obj} {Hh : Heap → Prop} (B : Begins v o Hh) :
    Meets (Builtin.«enumerate.__new__» ⟨[.type "enumerate", v], []⟩) (fun _ R s => Hh s.heap ∧
      R (.ok (.ret (.ref (s.heap.push o).objs.size))) { s with heap := (s.heap.push o).push { cls := .type "enumerate", data := .fields #[.none, .bool false, .ref s.heap.objs.size, rawInt 0, .none, .none] } }) :=
  .of_wp fun prog w A R s h => by
    obtain ⟨hp, g, d, tk, os⟩ := s
    obtain ⟨h1, h⟩ := h
    have hsub := sub_enumerate
    have it1 : ∀ {A' : Around} {E : Value → Shared → Prop} {Q : Value → Shared → Prop}, Q (.ref hp.objs.size) ⟨hp.push o, g, d, tk, os⟩ → wpAny (model prog w) A' (pyIter v) Q E ⟨hp, g, d, tk, os⟩ :=
      fun q => B.iter prog w _ _ ⟨hp, g, d, tk, os⟩ _ h1 q
    wp_walk using it1
    refine wpAny_stack_any fun st => wpAny_pure ?_
    split
    · rename_i c _ _ _ _ _
      by_cases z : (c == Value.type "enumerate") = true
      · rw [z]; wp_walk using it1
        exact ⟨_, rfl, h⟩
      · rw [Bool.not_eq_true] at z
        rw [z]; wp_walk using it1
        exact ⟨_, rfl, h⟩
    · wp_walk using it1
      exact ⟨_, rfl, h⟩
section
variable {prog : Program} {w : World} {A : Around} {E : Value → Shared → Prop} {s : Shared}
theorem begins1 {v : Value} {o : Obj} {Hh : Heap → Prop} {Q : Value → Shared → Prop} (B : Begins v o Hh) (h1 : Hh s.heap)
    (h : ∀ h', IsEnum h' (s.heap.objs.size + 1) s.heap.objs.size 0 .none → h'.get? s.heap.objs.size = some o → h'.objs.size = s.heap.objs.size + 2 →
      (∀ b ob, s.heap.get? b = some ob → h'.get? b = some ob) → Q (.ref (s.heap.objs.size + 1)) { s with heap := h' }) : wpAny (model prog w) A (call (.type "enumerate") [v]) Q E s := by
  refine callType_new F.called_enumerate (by decide) (F.typeCall_enumerate_1 _) (F.newCall_enumerate_1 _) (fun obj => F.args_object_init_2 obj _) F.entry_enumerate_new (meets1 B) ⟨h1, ?_⟩
  have n1 : (s.heap.push o).objs.size = s.heap.objs.size + 1 := Heap.size_push ..
  have g0 := Heap.get?_push_size (s.heap.push o) (o := { cls := .type "enumerate", data := .fields #[.none, .bool false, .ref s.heap.objs.size, rawInt 0, .none, .none] }) rfl
  show _ ∧ _
  rw [n1] at g0 ⊢
  exact ⟨⟨_, g0, rfl⟩, h _ g0 (Heap.get?_push_of_some _ (Heap.get?_push_size _ B.free)) (by rw [Heap.size_push, n1]) fun b ob z => Heap.get?_push_of_some _ (Heap.get?_push_of_some _ z)⟩
end
/-- the tuple at a, its items in new pairs -/
def IteT (K : PySem.W.Frag) (a : Addr) : It :=
  ⟨fun i H => ∃ (xs : List V) (x : V), SqT K H a xs ∧ xs[i]? = some x, fun i H v H' => ∃ T x, v = .ref T ∧ H T = none ∧ H' = upd H T (.tup [.int (i : Nat), x]) ∧ ∀ xs, SqT K H a xs → xs[i]? = some x, fun i H => ∃ xs : List V, SqT K H a xs ∧ xs.length ≤ i⟩
theorem turnT {P : Program} {w : World} {K : PySem.W.Frag} {elts : List Expr} {kk : Nat} {tpos : Pos} (a e it : Addr) (hai : a ≠ it) (hae : a ≠ e) :
    Turn P w K (.Tuple elts kk tpos) (IteT K a) [e, it] e (fun i h => (∃ old, IsEnum h e it ((i : Nat) : Int) old) ∧ h.IsTupleIter it a i ∧ e ≠ it) where
  mem := by simp
  obj := fun i h st b hb => by
    obtain ⟨⟨old, he⟩, ⟨o, ho, hc, hd⟩, _⟩ := st
    rcases (show b = e ∨ b = it by simpa using hb) with z | z
    · rw [z]; exact ⟨_, he, fun v q => nomatch q⟩
    · rw [z]; exact ⟨o, ho, fun v q => by rw [hd] at q; cases q⟩
  keep := fun i h h' st k => let ⟨⟨old, he⟩, hi, hne⟩ := st; ⟨⟨old, k e (by simp) _ he⟩, hi.at fun o q => k it (by simp) o q, hne⟩
  item := by
    intro X hP hw hK hc i pins s σ H E I hf st hg
    subst hP hw hK
    obtain ⟨⟨old, he⟩, hit, hne⟩ := st
    obtain ⟨xs, x, hq, hx⟩ := hg
    obtain ⟨its, rv, p, hz⟩ := I.tuple hq
    obtain ⟨u, hu, ru⟩ := rv.get hx
    have hel : e < s.heap.objs.size := Heap.lt_size he
    have hil : it < s.heap.objs.size := by obtain ⟨_, q, _⟩ := hit; exact Heap.lt_size q
    have hin : i < its.toArray.size := by simpa using (List.getElem?_eq_some_iff.mp hu).1
    have D := Draws.tuple (prog := X.prog) (w := X.w) (A := X.A.in1) (show X.A.in1.handled = none from I.ok.hd hc) it a hai its.toArray
    refine wpAny_pyNext_enum_itemD D he ⟨hit, p⟩ hin hne (by simp [hne, Ne.symm hae]) fun y h' tk hy ho hst hT hsz hk => ?_
    obtain rfl : u = y := Option.some.inj ((by simpa using hu : its.toArray[i]? = some u).symm.trans hy)
    refine ⟨_, rfl, wpAny_letOwnedTupleGo_enum (s := { s with heap := h', toks := tk + 1 }) ho fun h'' he' sb => ?_⟩
    have hT2 : h''.get? s.heap.objs.size = some { cls := .type "tuple", data := .seq #[.int i tk, u] } := (sb.2 _ (Nat.ne_of_gt hel)).trans hT
    have new : ObjOk X.prog X.w (upd H s.heap.objs.size (.tup [.int (i : Nat), x])) h'' s.heap.objs.size (.tup [.int (i : Nat), x]) :=
      ⟨by show 2 ≤ sizeLine; decide, [.int i tk, u], .cons ⟨_, rfl⟩ (.cons ru .nil), ⟨_, hT2, rfl, _, rfl⟩⟩
    have I1 : Inv X pins σ (upd H s.heap.objs.size (.tup [.int (i : Nat), x])) { s with heap := h'', toks := tk + 1 } :=
      I.turnedNew (ch := [e, it]) (fun b ob hb q => (sb.2 b (fun z => hb (by simp [z]))).trans (hk b ob (fun z => hb (by simp [z])) (fun z => hb (by simp [z])) q)) hf (Nat.le_refl _) new
    refine ⟨.ref s.heap.objs.size, _, I1, rfl, ⟨_, x, rfl, I.hok.fresh (Nat.le_refl _), rfl, fun ys hy => by rw [I.tuple_inj hy hq]; exact hx⟩, ⟨⟨u, ?_⟩, hst.1.at fun o q => (sb.2 it (Ne.symm hne)).trans q, hne⟩, fun b hb => ?_⟩
    · rw [show ((i + 1 : Nat) : Int) = (i : Int) + 1 by omega]; exact he'
    · have hb' : b < s.heap.objs.size := by
        rcases (show b = e ∨ b = it by simpa using hb) with z | z
        · rw [z]; exact hel
        · rw [z]; exact hil
      rw [upd_ne (Nat.ne_of_lt hb')]
      exact (hf b hb).1
  done := by
    intro X hP hw hK hc i pins s σ H E I hf st hg
    subst hP hw hK
    obtain ⟨⟨old, he⟩, hit, hne⟩ := st
    obtain ⟨xs, hq, hx⟩ := hg
    obtain ⟨its, rv, p, hz⟩ := I.tuple hq
    obtain ⟨f0, f1, f2, f3, f4, f5⟩ := hf it (by simp)
    have hl := rv.length
    have hT : s.TypeIs (.ref e) "enumerate" := ⟨_, he, rfl⟩
    unfold pyNext
    refine wpAny_bind (wpAny_attempt (wpAny_callSpecial?_slot (name := Str.ofString "__next__") hT F.slot_enumerate_next
      (wpAny_call_entry F.slot_enumerate_next hT F.entry_enumerate_next ?_ (F.args_enumerate_next_1 _))))
    show wpAny _ _ (field (.ref e) 2 >>= _) _ _ _
    refine wpAny_bind (wpAny_field he rfl (x := .ref it) rfl ?_)
    refine wpAny_bind (wpAny_nextOf_tuple_end (I.ok.hd hc) hit p (by simp; omega) fun h' y eb hy => ?_)
    obtain ⟨o, ho, hc'⟩ := hy
    refine wpAny_bind (wpAny_isInstance (T := "StopIteration") (b := true) ⟨o, ho, hc'⟩ isSubtype_stop ?_)
    exact wpAny_pure ⟨rfl, I.turned (t' := s.toks) (fun b o hb q => eb b o hb q) f0 f1 f3 f4 f5⟩
  self := fun A i s Q E st h => let ⟨⟨_, he⟩, _⟩ := st; wpAny_pyIter_enum he h
def iEnumT (K : PySem.W.Frag) (ta : TA) : TI := fun σ H R => ta σ H fun vs H1 => ∃ a xs, vs = [.ref a] ∧ SqT K H1 a xs ∧ R (IteT K a) H1
theorem pi_enumT {X : Cx} {e : Expr} {ta : TA} {p pos tpos : Pos} {elts : List Expr} {kk : Nat} (hg : Gl X "enumerate") (hm : X.mg "enumerate" = none) (ha : PA X [e] ta) (hs : starEach [e] X.env = [(false, eval e X.env)] := by rfl) :
    PI X (.Tuple elts kk tpos) (.Call (.Name "enumerate" p) [e] [] pos) (iEnumT X.K ta) := by
  refine ⟨fun pins s σ H R I h => ?_⟩
  refine Call_ (ld_blt I hg hm boot_enumerate (PyProof.Rows.callWith_type1 (thn (ha.run pos pins s σ H _ I h) fun us s1 ⟨vs, H1, I1, r1, q1⟩ => ?_) hs rfl))
  obtain ⟨a, xs, ex, hq, q⟩ := q1
  subst ex
  cases r1 with
  | cons r rr =>
    cases rr
    cases r
    obtain ⟨its, rv, p', hz⟩ := I1.tuple hq
    have hal : a < s1.heap.objs.size := p'.lt
    refine begins1 (begins_tuple a its.toArray) p' fun h' he hit hsz hk => wpAny_pyIter_enum he ?_
    have I2 : Inv X pins σ H1 { s1 with heap := h' } := I1.kept (t' := s1.toks) hk
    refine ⟨s1.heap.objs.size + 1, [s1.heap.objs.size + 1, s1.heap.objs.size], _, _, H1, rfl, I2, turnT a (s1.heap.objs.size + 1) s1.heap.objs.size (Nat.ne_of_lt hal) (Nat.ne_of_lt (Nat.lt_succ_of_lt hal)), ⟨⟨.none, he⟩, ⟨_, hit, rfl, rfl⟩, Nat.succ_ne_self _⟩, fun b hb => ?_, q⟩
    have hle : s1.heap.objs.size ≤ b := by
      rcases (show b = s1.heap.objs.size + 1 ∨ b = s1.heap.objs.size by simpa using hb) with z | z
      · rw [z]; exact Nat.le_add_right _ _
      · rw [z]; exact Nat.le_refl _
    exact I1.fpOk hle (I1.hok.fresh hle)
end EnT
namespace DX
open PySem PySem.Spec L2
variable {X : Cx} {J : Gh} {M : Mem} {F : Hp} {K : PySem.W.Frag} {ρ : DEnv} {a : Expr} {p pos : Pos}
/-! ### a if t else b as a test -/
def tIfT (t ta tb : TT) : TT := fun σ H Q => t σ H fun c H1 => if c = true then ta σ H1 Q else tb σ H1 Q
theorem pt_ifExp {b c : Expr} {t ta tb : TT} (hc : PT X c t) (ha : PT X a ta) (hb : PT X b tb) : PT X (.IfExp c a b pos) (tIfT t ta tb) := by
  refine ⟨fun pins s σ H Q I h => ?_⟩
  refine PyProof.Rows.isTrue_IfExp (thn (hc.run pins s σ H _ I h) fun d s1 ⟨H1, I1, q1⟩ => ?_)
  cases d with
  | true => exact ha.run pins s1 σ H1 Q I1 q1
  | false => exact hb.run pins s1 σ H1 Q I1 q1
theorem tx_if {b c : Expr} {PB : Bool → Mem → Prop} (h : TX X J c ρ M fun t M1 => (t = true → TX X J a ρ M1 PB) ∧ (t = false → TX X J b ρ M1 PB)) : TX X J (.IfExp c a b pos) ρ M PB :=
  tx_of (pt_ifExp pt_any pt_any pt_any) fun F σ H Q st k => h.go st fun t M1 F1 H1 p e1 o1 => by
    cases t with
    | true => exact iteT ((p.1 rfl).go (st.to e1 o1) (k.to e1))
    | false => exact iteF ((p.2 rfl).go (st.to e1 o1) (k.to e1))
theorem wk_enumT {q : Addr} {xs : List V} {ds : List D} (h : SqT K F q xs) (hx : Rps K F xs ds) : Wk K F (EnT.IteT K q) (enumD 0 ds) := by
  refine ⟨fun i H hi s => ?_, fun H s => ⟨xs, same_t s h, by rw [enumD_len, hx.length]; exact Nat.le_refl _⟩, fun i d H x H' F1 M hd s o y => ?_⟩
  · rw [enumD_len] at hi
    have h1 : i < xs.length := by rw [hx.length]; omega
    exact ⟨xs, xs[i], same_t s h, by simp [h1]⟩
  · obtain ⟨T, v1, rfl, h2, rfl, h4⟩ := y
    obtain ⟨d1, g1, rfl⟩ := enumD_at hd
    obtain ⟨w1, k1, k2⟩ := hx.get g1
    have e1 := h4 xs (same_t o.ex (same_t s h))
    rw [k1] at e1; cases e1
    rw [Nat.zero_add]
    exact pair_new (x := d1) (y := d1) o h2 (.int _) (k2.mono s)
theorem ix_enumT {elts : List Expr} {kk : Nat} {tpos : Pos} {P : List D → Mem → Prop} (hm : X.mg "enumerate" = none) (h : AX X J [a] ρ M fun ws M1 => ∃ ds, ws = [.tup ds] ∧ P (enumD 0 ds) M1) (hg : Gl X "enumerate" := by rfl)
    (hs : starEach [a] X.env = [(false, eval a X.env)] := by rfl) : IX X J (.Tuple elts kk tpos) (.Call (.Name "enumerate" p) [a] [] pos) ρ M P :=
  ix_of (EnT.pi_enumT hg hm pa_any hs) fun F σ H R s k => h.go s fun ws vs M1 F1 H1 q e1 o1 r1 => by
    obtain ⟨ds, rfl, q⟩ := q
    cases r1 with
    | cons h1 r1 =>
      cases r1
      cases h1 with
      | tup h1 k1 => exact ⟨_, _, rfl, same_t o1.ex h1, k _ _ M1 F1 H1 q e1 o1 (wk_enumT h1 k1)⟩
/-! ### tuple(text) -/
open PyProof.Rows in
theorem call_tuple_text (hc : X.calm = true) : CallR X (.type "tuple") (fun xs H Q => ∃ z : Str, xs = [.str z] ∧ z.length ≤ 1000000 ∧ ∀ l, H l = none → Q (.ref l) (upd H l (.tup (z.cps.toList.map fun c => V.str ⟨#[c]⟩)))) := by
  intro pins s σ H xs us Q I r h
  obtain ⟨z, rfl, hz, q⟩ := h
  obtain ⟨u, rfl, rx⟩ := vals1 r
  obtain ⟨t, rfl⟩ := rx
  have hz2 : z.cps.size ≤ 1000000 := hz
  refine call_tuple_str (I.ok.hd hc) z t (fun h' tk acc kp hi => ?_) (hsz := by rw [sizeLine_eq]; omega)
  have I1 : Inv X pins σ H { s with heap := h', toks := tk } := I.kept (t' := tk) kp
  have e1 : acc.toList.length = z.cps.toList.length := by rw [Array.length_toList, Array.length_toList]; exact hi.1
  have hv : Vals (z.cps.toList.map fun c => V.str ⟨#[c]⟩) acc.toList := by
    have e2 : (z.cps.toList.map fun c => V.str ⟨#[c]⟩) = (List.range acc.toList.length).map fun j => V.str ⟨#[z.cps.toList.getD j 0]⟩ := by
      rw [e1]
      apply List.ext_getElem
      · simp
      · intro j h1 h2
        rw [List.length_map] at h1
        rw [List.getElem_map, List.getElem_map, List.getElem_range, List.getD_eq_getElem?_getD, List.getElem?_eq_getElem h1]; rfl
    rw [e2]
    refine vals_of_get _ _ fun j w hj => ?_
    obtain ⟨c, u, h1, h2⟩ := hi.2 j w (by rw [← hj, Array.getElem?_toList])
    have : z.cps.toList[j]? = some c := by rw [Array.getElem?_toList]; exact h1
    rw [List.getD_eq_getElem?_getD, this]
    exact ⟨u, h2⟩
  have I2 : Inv X pins σ (upd H h'.objs.size (.tup (z.cps.toList.map fun c => V.str ⟨#[c]⟩))) { s with heap := h'.push { cls := .type "tuple", data := .seq acc }, toks := tk } :=
    I1.laid (t' := tk) (fun b o e => Heap.get?_push_of_some _ e) (Nat.le_refl _) (show ObjOk X.prog X.w _ _ _ (.tup (z.cps.toList.map fun c => V.str ⟨#[c]⟩)) from ⟨by rw [List.length_map, Array.length_toList, sizeLine_eq]; omega, acc.toList, hv, IsTup.new _ _⟩)
  exact ⟨.ref h'.objs.size, _, I2, rfl, q _ (I1.hok.fresh (Nat.le_refl _))⟩
theorem cd_tupleS {P : D → Mem → Prop} {z : Str} (hc : X.calm = true) (hz : z.cps.toList.length ≤ 1000000) (q : P (.tup (signs z)) M) : CD X (.type "tuple") [.str z] M P :=
  ⟨_, call_tuple_text hc, fun F H vs Q o r k => by
    cases r with
    | cons h1 r =>
      cases r
      cases h1
      refine ⟨z, rfl, ?_, fun l hl => ?_⟩
      · show z.cps.size ≤ _
        rw [← Array.length_toList]; exact hz
      · refine k _ _ _ _ _ q (o.fixSame hl) (o.fix hl) (.tup (SqT.of upd_same) ?_)
        have e : (z.cps.toList.map fun c => V.str ⟨#[c]⟩) = (z.cps.toList.map fun c => (⟨#[c]⟩ : Str)).map V.str := by rw [List.map_map]; rfl
        have e2 : signs z = (z.cps.toList.map fun c => (⟨#[c]⟩ : Str)).map D.str := by unfold signs; rw [List.map_map]; rfl
        rw [e, e2]
        exact Rps.ofStrs⟩
theorem od_isB {P : D → Mem → Prop} {x y : Bool} (p : P (.bl (decide (x = y))) M) : OD X (compareOp .Is) (.bl x) (.bl y) M P :=
  ⟨_, op_is_bl, fun F H v u Q o rx ry k => by
    cases rx; cases ry
    exact ⟨x, y, rfl, rfl, k.here p o (.bl _)⟩⟩
end DX
namespace DX
open PySem PySem.Spec L2
/-! ### isinstance with an own class -/
/-- what a look at the module tells of the class C -/
def isiB (K : PySem.W.Frag) (C : Str) : Bool :=
  He.eqO (PySem.W.findIn K (.ref (He.ga K C)) "__class__") (some (some (.builtin "object.__class__"))) && (He.eqO (PySem.W.specialIn K (.builtin "object.__class__") "__get__") (some (some (.builtin "getset_descriptor.__get__"))) &&
    (decide (PySem.W.takesIn K (.builtin "object.__class__") = some true) && (decide (PySem.W.mroIn K (He.ga K C) (.type "object") = some true) &&
      (["NoneType", "bool", "int", "str", "tuple", "list", "dict"].all fun n => decide (PySem.W.kitOne K (.type n) (.ref (He.ga K C)) = some false)))))
structure IsiC (K : PySem.W.Frag) (C : Addr) : Prop where
  ha : PySem.W.findIn K (.ref C) "__class__" = some (some (.builtin "object.__class__"))
  hn : PySem.W.specialIn K (.builtin "object.__class__") "__get__" = some (some (.builtin "getset_descriptor.__get__"))
  htk : PySem.W.takesIn K (.builtin "object.__class__") = some true
  hm : PySem.W.mroIn K C (.type "object") = some true
  no : ∀ n ∈ ["NoneType", "bool", "int", "str", "tuple", "list", "dict"], PySem.W.kitOne K (.type n) (.ref C) = some false
theorem isiB_ok {K : PySem.W.Frag} {C : Str} (h : isiB K C = true) : IsiC K (He.ga K C) := by
  obtain ⟨h1, h⟩ := He.ba h
  obtain ⟨h2, h⟩ := He.ba h
  obtain ⟨h3, h⟩ := He.ba h
  obtain ⟨h4, h5⟩ := He.ba h
  exact ⟨He.eqO_ok h1, He.eqO_ok h2, of_decide_eq_true h3, of_decide_eq_true h4, fun n hn => of_decide_eq_true (List.all_eq_true.mp h5 n hn)⟩
section
variable {X : Cx} {J : Gh} {M : Mem} {P : D → Mem → Prop} {ρ : DEnv} {pos : Pos} {x : Str}
/-- the class's name -/
theorem ex_gcls {C : Addr} (hm : X.mg x = some (.ref C)) (p : P (.adr C) M) (hg : Gl X x := by rfl) (hdb : (x == ("__debug__" : Str)) = false := by decide) : EX X J (.Name x pos) ρ M P :=
  ex_glob (v := .ref C) hg hm rfl (fun F => .adr C) p hdb
/-- an instance is one -/
theorem cd_isiO {d : D} {C : Addr} {gs : List (Str × D)} (c : Cls X.K C) (ic : IsiC X.K C) (hi : Is M d C gs) (q : P (.bl true) M) : CD X (.builtin "isinstance") [d, .adr C] M P :=
  ⟨_, call_isi, fun F H vs Q o r k => by
    cases r with
    | cons h1 r =>
      cases r with
      | cons h2 r =>
        cases r
        cases h2
        obtain ⟨a, dx, fs, rfl, e, _⟩ := hi.get o h1
        refine ⟨_, _, .ref C, .ref C, true, rfl, .own C, .base (.ins e c ic.ha ic.hn ic.htk ic.hm), ?_, k.here q o (.bl _)⟩
        unfold PySem.W.kitOne
        rw [if_pos (by simp)]⟩
/-- plain data are none -/
theorem cd_isiN {d : D} {C : Addr} (ic : IsiC X.K C) (h : plain d = true) (q : P (.bl false) M) : CD X (.builtin "isinstance") [d, .adr C] M P :=
  ⟨_, call_isi, fun F H vs Q o r k => by
    cases r with
    | cons h1 r =>
      cases r with
      | cons h2 r =>
        cases r
        cases h2
        exact ⟨_, _, _, .ref C, false, rfl, .own C, ty_of h o.ex h1, ic.no _ (kn_mem d), k.here q o (.bl _)⟩⟩
end
end DX
/-! t[::-1] of a tuple: a new tuple whose object is known; t.index(i) of such -/
namespace RevT
open PySem PySem.Spec L2 PyProof.Rows HT
theorem fm_congr {α β : Type} {f g : α → Option β} : ∀ {l : List α}, (∀ a ∈ l, f a = g a) → l.filterMap f = l.filterMap g
  | [], _ => rfl
  | a :: l, h => by rw [List.filterMap_cons, List.filterMap_cons, h a List.mem_cons_self, fm_congr (fun b hb => h b (List.mem_cons_of_mem _ hb))]
theorem rev_pick (xs : Array Value) : ((List.range xs.size).filterMap fun (k : Nat) => xs[(((xs.size : Int) - 1) + (k : Int) * (-1)).toNat]?) = xs.toList.reverse := by
  have e : ((List.range xs.size).filterMap fun (k : Nat) => xs[(((xs.size : Int) - 1) + (k : Int) * (-1)).toNat]?) = ((List.range xs.size).map fun k => xs.size - 1 - k).filterMap (xs[·]?) := by
    rw [List.filterMap_map]
    refine fm_congr fun k hk => ?_
    have := List.mem_range.mp hk
    have e3 : (((xs.size : Int) - 1) + (k : Int) * (-1)).toNat = xs.size - 1 - k := by omega
    show xs[(((xs.size : Int) - 1) + (k : Int) * (-1)).toNat]? = xs[xs.size - 1 - k]?
    rw [e3]
  have e2 : ((List.range xs.size).map fun k => xs.size - 1 - k) = (List.range xs.size).reverse := by
    apply List.ext_getElem
    · simp
    · intro i h1 h2
      simp at h1 h2 ⊢
  rw [e, e2, List.filterMap_reverse, PySem.W.krv_all]
section
variable {prog : Program} {w : World} {A : Around} {E : Value → Shared → Prop} {s : Shared}
theorem getItem_rev {t sl : Addr} {items : Array Value} {vs : Value} {Q : Value → Shared → Prop} (ht : IsTup s.heap t items) (hs : s.heap.IsSliceOf sl .none .none vs) (ps : IsPart vs (some (-1)))
    (h : Q (.ref s.heap.objs.size) { s with heap := s.heap.push { cls := .type "tuple", data := .seq items.toList.reverse.toArray } }) (hsz : items.size ≤ sizeLine) : wpAny (model prog w) A (getItem (.ref t) (.ref sl)) Q E s := by
  have hok : sizeOk (.seq items.toList.reverse.toArray) := by
    show items.toList.reverse.toArray.size ≤ sizeLine
    rw [List.size_toArray, List.length_reverse, Array.length_toList]
    exact hsz
  obtain ⟨os, hos, hcs, hds⟩ := id hs
  have hTs : s.TypeIs (.ref sl) "slice" := ⟨os, hos, hcs⟩
  unfold getItem
  try with_reducible refine wpAny_holding ?_
  first | refine wpAny_bind (wpAny_pure ?_) | skip
  refine wpAny_bind (wpAny_sequenceKey ht.typeIs (by decide) ?_)
  refine wpAny_bind (wpAny_callSpecial?_slot (name := Str.ofString "__getitem__") ht.typeIs PyProof.Rows.slot_tuple_getitem
    (wpAny_call_entry PyProof.Rows.slot_tuple_getitem ht.typeIs entry_tuple_getitem ?_ (args_tuple_getitem _ _)))
  show wpAny _ _ (Builtin.Tuple.tupleItemsOf (.ref t) >>= _) _ _ s
  refine wpAny_bind (tupleItemsOf_ ht ?_)
  refine wpAny_bind (wpAny_typeOf hTs ?_)
  rw [if_pos (by decide)]
  refine wpAny_bind ?_
  · unfold Builtin.Slice.sliceApplied Builtin.Slice.sliceFields
    refine wpAny_bind (wpAny_bind (wpAny_field hos hds (x := .none) rfl (wpAny_bind (wpAny_field hos hds (x := .none) rfl (wpAny_bind (wpAny_field hos hds (x := vs) rfl (wpAny_pure ?_)))))))
    refine wpAny_bind (slicePart_ ps ?_)
    show wpAny _ _ (if ((-1 : Int) == 0) = true then _ else _) _ _ s
    rw [if_neg (by decide)]
    refine wpAny_bind (slicePart_none (wpAny_bind (slicePart_none (wpAny_bind (wpAny_pure ?_)))))
    show wpAny _ _ (pure ((items.size : Int) - 1, (-1 : Int), Builtin.Slice.slicePlaces ((items.size : Int) - 1) (-1) (-1))) _ _ s
    have e : Builtin.Slice.slicePlaces ((items.size : Int) - 1) (-1) (-1) = items.size := by
      unfold Builtin.Slice.slicePlaces
      rw [if_neg (by decide), show (-(-1) : Int) = 1 from rfl, Int.ediv_one]
      split <;> omega
    rw [e]
    refine wpAny_pure ?_
    have hno : ¬ ((((items.size : Int) - 1) == 0 && (-1 : Int) == 1 && items.size == items.size) = true) := by simp
    show wpAny _ _ (if (((items.size : Int) - 1) == 0 && (-1 : Int) == 1 && items.size == items.size) = true then _ else _) _ _ s
    rw [if_neg hno, rev_pick]
    first
      | exact wpAny_bind (m := Builtin.Tuple.tupleExact _) (wpAny_newObj_type (wpAny_pure ⟨_, rfl, wpAny_pure h⟩) hok)
      | exact wpAny_bind (m := Builtin.Tuple.tupleExact _) (wpAny_newObj_type (wpAny_bind (wpAny_pure (wpAny_pure ⟨_, rfl, wpAny_pure h⟩))) hok)
      | exact wpAny_bind (wpAny_bind (m := Builtin.Tuple.tupleExact _) (wpAny_newObj_type (wpAny_pure (wpAny_pure ⟨_, rfl, wpAny_pure h⟩)) hok))
      | exact wpAny_bind (wpAny_bind (m := Builtin.Tuple.tupleExact _) (wpAny_newObj_type (wpAny_pure ⟨_, rfl, wpAny_pure h⟩) hok))
end
end RevT
namespace RevT
open PySem PySem.Spec L2 PyProof.Rows HT
def tRevT (K : PySem.W.Frag) (te : TE) : TE := fun σ H Q => te σ H fun x H1 => ∃ a xs, x = .ref a ∧ SqT K H1 a xs ∧ ∀ p (ob : Obj), H1 p = none → (ob.cls = .type "tuple" ∧ ob.dict = none) → Q (.ref p) (upd H1 p (.frz ob (.tup xs.reverse)))
theorem pe_revT {X : Cx} {e : Expr} {te : TE} {k : Nat} {p1 p2 p3 pos : Pos} (he : PE X e te) : PE X (.Subscript e (.Slice none none (some (.UnaryOp .USub (.Constant (.int 1) k p1) p2)) p3) pos) (tRevT X.K te) := by
  refine ⟨fun pins s σ H Q I h => ?_⟩
  refine Subscript_ (thn (he.run pins s σ H _ I h) fun v s1 ⟨x, H1, I1, r1, q1⟩ => ?_)
  obtain ⟨a, xs, ex, hx, q⟩ := q1
  subst ex
  cases r1
  have hst : PO X (some (.UnaryOp .USub (.Constant (.int 1) k p1) p2)) (tPart (tUn (rU fun i => .int (-i)) (tC (.int 1)))) := po_some (pe_un un_neg pe_int)
  refine wpAny_Slice (thn (po_none.run pins s1 σ H1 (fun o H2 => o = none ∧ H2 = H1) I1 ⟨rfl, rfl⟩) fun vl s2 ⟨l, H2, I2, pl, el, e2⟩ => ?_)
  subst el e2
  refine thn (po_none.run pins s2 σ H2 (fun o H3 => o = none ∧ H3 = H2) I2 ⟨rfl, rfl⟩) fun vu s3 ⟨u, H3, I3, pu, eu, e3⟩ => ?_
  subst eu e3
  refine thn (hst.run pins s3 σ H3 (fun o H4 => o = some (-1) ∧ H4 = H3) I3 ⟨1, rfl, -1, rfl, rfl, rfl⟩) fun vs s4 ⟨o, H4, I4, ps, eo, e4⟩ => ?_
  subst eo e4
  cases pl
  cases pu
  have I5 : Inv X pins σ H4 { s4 with heap := s4.heap.push { cls := .type "slice", data := .fields #[.none, .none, vs] } } := I4.kept (t' := s4.toks) fun b ob q => Heap.get?_push_of_some _ q
  obtain ⟨its, r, ht, hz⟩ := I5.tuple hx
  have hlen := r.length
  show wpAny (model X.prog X.w) X.A (subscriptTail e (.Slice none none (some (.UnaryOp .USub (.Constant (.int 1) k p1) p2)) p3) (.ref a) (.ref s4.heap.objs.size)) (EP X pins σ Q) X.xe { s4 with heap := s4.heap.push { cls := .type "slice", data := .fields #[.none, .none, vs] } }
  refine tail_any (ops := [.ref a, .ref s4.heap.objs.size]) ht.typeIs (PyProof.Rows.slot_tuple_getitem.lookup) ?_ (by with_unfolding_all rfl)
  refine getItem_rev ht (Heap.IsSliceOf.new _ .none .none vs) ps ?_ (by rw [List.size_toArray]; omega)
  have e1 : its.toArray.toList.reverse.toArray = its.reverse.toArray := by simp
  rw [e1]
  refine ⟨.ref _, _, I5.laid (t' := s4.toks) (o := .frz { cls := .type "tuple", data := .seq its.reverse.toArray } (.tup xs.reverse)) (fun b ob q => Heap.get?_push_of_some _ q) (Nat.le_refl _) ?_, rfl, q _ _ (I5.hok.fresh (Nat.le_refl _)) ⟨rfl, rfl⟩⟩
  exact ⟨Heap.get?_push_size _ rfl, by rw [List.length_reverse]; exact hz, its.reverse, r.reverse, IsTup.new _ _⟩
/-- o.m(e, ..) of an object that is known -/
def tBMK (T : String) (r : V → List V → Hp → VK → Prop) (to : TE) (t : TA) : TE := fun σ H Q => to σ H fun x H1 => (∃ p ob u, x = .ref p ∧ H1 p = some (.frz ob u) ∧ ob.cls = .type T ∧ ob.dict = none) ∧ t σ H1 fun xs H2 => r x xs H2 Q
theorem pe_bmK {X : Cx} {o e : Expr} {es : List Expr} {to : TE} {t : TA} {name : Str} {apos cpos : Pos} {T id : String} {r : V → List V → Hp → VK → Prop}
    (pa : PlainAttrs T) (slot : Slot T name id) (hty : typeOf (.builtin id) = pure (.type "method_descriptor")) (hm : MtR X id r) (ho : PE X o to) (ha : PA X (e :: es) t)
    (hbase : attributeBase o name X.env (eval o X.env) = eval o X.env := by rfl)
    (hfew : ((backTo cpos (starEach (e :: es) X.env)).all (fun x => !x.1) && (backToKw cpos (keywordEach [] X.env)).all (fun x => x.1.isSome)
      && decide ((e :: es).length + ([] : List Keyword).length + (if ([] : List Keyword).isEmpty then 0 else 1) < 30)) = true := by rfl)
    (hline : (apos.endLine == cpos.line) = true := by rfl) (hs : starEach (e :: es) X.env = (false, eval e X.env) :: starEach es X.env := by rfl) (hplain : (backTo cpos (starEach es X.env)).any (·.1) = false := by rfl) :
    PE X (.Call (.Attribute o name apos) (e :: es) [] cpos) (tBMK T r to t) := by
  refine ⟨fun pins s σ H Q I h => ?_⟩
  refine wpAny_Call_method_late hbase hfew hline rfl (thn (ho.run pins s σ H _ I h) fun v s1 ⟨x, H1, I1, r1, ty, q1⟩ => ?_)
  obtain ⟨p, ob, u, rfl, hp, hc, hd⟩ := ty
  obtain rfl : v = Value.ref p := r1
  have hob := (I1.hok p _ hp).1
  refine ⟨T, id, pa, slot, hty, ⟨ob, hob, hc⟩, fun a ea => by cases ea; exact ⟨ob, hob, hd⟩, ?_⟩
  have hA := ha.run cpos pins s1 σ H1 _ I1 q1
  rw [hs] at hA ⊢
  refine Calls.callWith_builtin (by show (false || (backTo cpos (starEach es X.env)).any (·.1)) = false; rw [hplain] <;> rfl) (Calls.evalArgs_plain ?_)
  exact thn hA fun us s2 ⟨vs, H2, I2, r2, q2⟩ => hm pins s2 σ H2 (V.ref p) vs (Value.ref p) us Q I2 (show L2.RelV (V.ref p) (Value.ref p) from rfl) r2 q2
/-- t.index(i), the first place -/
theorem mt_tupIdxI {X : Cx} : MtR X "tuple.index" (fun x xs H Q => ∃ p, ∃ ns : List Int, ∃ i, x = .ref p ∧ xs = [.int i] ∧ SqT X.K H p (ns.map V.int) ∧ i ∈ ns ∧ Q (.int (ns.idxOf i : Nat)) H) := by
  intro pins s σ H x xs v us Q I rx rs h
  obtain ⟨p, ns, i, rfl, rfl, hq, hi, q⟩ := h
  cases rx
  obtain ⟨u, rfl, t, rfl⟩ := vals1 rs
  obtain ⟨its, r, pl, hz⟩ := I.tuple hq
  exact SeqAt.tuple_index_ints pl (intsAre_of r) hi ⟨.int _, H, I.tok _, ⟨_, rfl⟩, q⟩
end RevT
namespace DX
open PySem PySem.Spec L2
section
variable {X : Cx} {J : Gh} {M : Mem} {P : D → Mem → Prop} {ρ : DEnv} {o e : Expr} {pos apos cpos : Pos} {F H : Hp} {K : PySem.W.Frag}
theorem rps_rev : ∀ {xs : List V} {ds : List D}, Rps K F xs ds → Rps K F xs.reverse ds.reverse
  | _, _, .nil => .nil
  | _, _, .cons h r => by
    rw [List.reverse_cons, List.reverse_cons]
    exact Rps.append (rps_rev r) (.cons h .nil)
theorem ex_revT {k : Nat} {p1 p2 p3 : Pos} (h : EX X J e ρ M fun d M1 => ∃ ds, d = .tup ds ∧ P (.stup ds.reverse) M1) : EX X J (.Subscript e (.Slice none none (some (.UnaryOp .USub (.Constant (.int 1) k p1) p2)) p3) pos) ρ M P :=
  ex_of (RevT.pe_revT pe_any) fun F σ H Q st k => h.go st fun d v M1 F1 H1 q e1 o1 r1 => by
    obtain ⟨ds, rfl, q⟩ := q
    cases r1 with
    | tup h2 r2 => exact ⟨_, _, rfl, same_t o1.ex h2, fun l ob hl hc => k _ _ _ _ _ q (e1.trans (o1.fixSame hl)) (o1.fix hl) (.stup upd_same hc (Rps.mono (o1.fixSame hl) (rps_rev r2)))⟩
/-- a tuple whose object is known is a tuple -/
theorem Rp.unst {v : V} {ds : List D} (r : Rp K F v (.stup ds)) : Rp K F v (.tup ds) := by
  cases r with
  | stup h c r => exact .tup (.inl (.inr ⟨_, h⟩)) r
theorem ex_unst (h : EX X J e ρ M fun d M1 => ∃ ds, d = .stup ds ∧ P (.tup ds) M1) : EX X J e ρ M P :=
  ex_of h fun F σ H Q st k => ⟨F, st, fun d v M' F' H' q e1 o r => by
    obtain ⟨ds, rfl, q⟩ := q
    exact k _ _ _ _ _ q e1 o r.unst⟩
/-- t.index(i), t's object known -/
theorem ex_tindex (h : EX X J o ρ M fun d M1 => ∃ ns : List Int, d = .stup (ns.map D.int) ∧ AX X J [e] ρ M1 fun ys M2 => ∃ i, ys = [.int i] ∧ i ∈ ns ∧ P (.int ((ns.idxOf i : Nat) : Int)) M2)
    (hbase : attributeBase o "index" X.env (eval o X.env) = eval o X.env := by rfl)
    (few : ((backTo cpos (starEach [e] X.env)).all (fun x => !x.1) && (backToKw cpos (keywordEach [] X.env)).all (fun x => x.1.isSome) && decide ([e].length + ([] : List Keyword).length + (if ([] : List Keyword).isEmpty then 0 else 1) < 30)) = true := by rfl)
    (line : (apos.endLine == cpos.line) = true := by rfl) (hst : starEach [e] X.env = (false, eval e X.env) :: starEach [] X.env := by rfl) (hpl : (backTo cpos (starEach [] X.env)).any (·.1) = false := by rfl) :
    EX X J (.Call (.Attribute o "index" apos) [e] [] cpos) ρ M P :=
  ex_of (RevT.pe_bmK PySem.F.plainAttrs_tuple PySem.F.slot_tuple_index PySem.F.type_tuple_index RevT.mt_tupIdxI pe_any pa_any hbase few line hst hpl) fun F σ H Q st k => h.go st fun d v M1 F1 H1 q1 e1 o1 r1 => by
    obtain ⟨ns, rfl, q2⟩ := q1
    cases r1 with
    | stup h1 hc rs =>
      refine ⟨⟨_, _, _, rfl, o1.ex _ _ h1, hc.1, hc.2⟩, q2.go (st.to e1 o1) fun ys vs M2 F2 H2 q3 e2 o2 r2 => ?_⟩
      obtain ⟨i, rfl, hi, q3⟩ := q3
      cases r2 with
      | cons r2 r3 =>
        cases r3
        cases r2
        obtain rfl := rs.ints
        exact ⟨_, ns, i, rfl, rfl, .inl (.inr ⟨_, o2.ex _ _ (e2 _ _ h1)⟩), hi, k _ _ _ _ _ q3 (e1.trans e2) o2 (.int _)⟩
theorem En.unst : ∀ {σ : St} {ρ : DEnv} {i : Nat} {ds : List D}, En K F σ ρ → DX.look ρ i = some (.stup ds) → En K F σ (DX.put ρ i (.tup ds))
  | _, _, i, _, .nil, e => by simp [DX.look] at e
  | _, _, 0, ds, .cons h r, e => .cons (fun x q => by
    obtain ⟨y, a, b⟩ := h (.stup ds) e
    cases q
    exact ⟨y, a, b.unst⟩) r
  | _, _, i + 1, ds, .cons h r, e => .cons h (En.unst r e)
theorem gx_unst {sts : List Stmt} {B : Bd} (i : Nat) {ds : List D} (hi : DX.look ρ i = some (.stup ds)) (h : GX X J sts (DX.put ρ i (.tup ds)) M B) : GX X J sts ρ M B :=
  ⟨fun pins s σ H E I ⟨F, st, k⟩ => h.run pins s σ H E I ⟨F, ⟨st.en.unst hi, st.ok, st.gh⟩, k⟩⟩
/-- t[l:u], also where it is the whole of t -/
theorem sd_tupA {ds : List D} {l u : Option Int} (p : P (.tup (cutD ds l u)) M) : SD X (.tup ds) l u M P :=
  ⟨_, sl_tupA, fun F H v Q o rx k => by
    cases rx with
    | tup h1 r1 =>
      refine ⟨_, _, rfl, same_t o.ex h1, fun hw => ?_, fun hw q hq => k _ _ _ _ _ p (o.fixSame hq) (o.fix hq) (.tup (.inl (.inl upd_same)) ((cut_of r1 l u).mono (o.fixSame hq)))⟩
      rw [r1.length] at hw
      have e : cutD ds l u = ds := by
        unfold cutD
        rw [hw.1, hw.2, Nat.sub_zero, List.drop_zero, List.take_length]
      rw [e] at p
      exact k.here p o (.tup h1 r1)⟩
end
end DX
/-! x.extend(l); l.index(text); range with a step above 0 -/
namespace DX
open PySem PySem.Spec L2
section
variable {X : Cx} {J : Gh} {M : Mem} {P : D → Mem → Prop} {ρ : DEnv} {a b c o e : Expr} {p pos apos cpos : Pos} {K : PySem.W.Frag} {F : Hp}
/-- x.extend(l) -/
theorem ex_extend (h : EX X J o ρ M fun d M1 => ∃ q ds1, d = .adr q ∧ M1 q = some (.lst ds1) ∧ AX X J [e] ρ M1 fun ys M2 => ∃ y ds es f, ys = [y] ∧ Sl M2 y es ∧ At M2 q (.lst ds) f ∧ ds.length + es.length ≤ 1000000 ∧ P .non (f (.lst (ds ++ es))))
    (hbase : attributeBase o "extend" X.env (eval o X.env) = eval o X.env := by rfl)
    (few : ((backTo cpos (starEach [e] X.env)).all (fun x => !x.1) && (backToKw cpos (keywordEach [] X.env)).all (fun x => x.1.isSome) && decide ([e].length + ([] : List Keyword).length + (if ([] : List Keyword).isEmpty then 0 else 1) < 30)) = true := by rfl)
    (line : (apos.endLine == cpos.line) = true := by rfl) (hst : starEach [e] X.env = (false, eval e X.env) :: starEach [] X.env := by rfl) (hpl : (backTo cpos (starEach [] X.env)).any (·.1) = false := by rfl) :
    EX X J (.Call (.Attribute o "extend" apos) [e] [] cpos) ρ M P :=
  ex_of (pe_bm PySem.F.plainAttrs_list PySem.F.slot_list_extend PySem.F.type_list_extend mt_extend pe_any pa_any hbase few line hst hpl) fun F σ H Q st k => h.go st fun d v M1 F1 H1 q1 e1 o1 r1 => by
    obtain ⟨q, ds1, rfl, hq, q2⟩ := q1
    cases r1
    obtain ⟨_, xs1, hx1, _⟩ := o1.mt _ _ hq
    refine ⟨tyV_lst hx1, q2.go (st.to e1 o1) fun ys vs M2 F2 H2 q3 e2 o2 r2 => ?_⟩
    obtain ⟨y, ds, es, f, rfl, hs, hA, hz, q3⟩ := q3
    cases r2 with
    | cons r2 r3 =>
      cases r3
      obtain ⟨_, xs, hx, rx⟩ := o2.mt _ _ hA.get
      obtain ⟨b, zs, rfl, hb, rz⟩ := hs.get o2 r2
      refine ⟨q, b, xs, zs, rfl, rfl, hx, hb, by rw [rx.length, rz.length, sizeLine_eq]; omega, k _ _ _ _ _ q3 (e1.trans e2) ?_ .non⟩
      rw [hA.set]
      exact o2.set (o := .lst (xs ++ zs)) hA.get ⟨_, upd_same, rx.append rz⟩
/-- l.index(z) of a list of texts -/
theorem ex_lindexS (h : EX X J o ρ M fun d M1 => ∃ zs : List Str, d = .lst (zs.map D.str) ∧ AX X J [e] ρ M1 fun ys M2 => ∃ y, ys = [.str y] ∧ y ∈ zs ∧ P (.int ((zs.idxOf y : Nat) : Int)) M2)
    (hbase : attributeBase o "index" X.env (eval o X.env) = eval o X.env := by rfl)
    (few : ((backTo cpos (starEach [e] X.env)).all (fun x => !x.1) && (backToKw cpos (keywordEach [] X.env)).all (fun x => x.1.isSome) && decide ([e].length + ([] : List Keyword).length + (if ([] : List Keyword).isEmpty then 0 else 1) < 30)) = true := by rfl)
    (line : (apos.endLine == cpos.line) = true := by rfl) (hst : starEach [e] X.env = (false, eval e X.env) :: starEach [] X.env := by rfl) (hpl : (backTo cpos (starEach [] X.env)).any (·.1) = false := by rfl) :
    EX X J (.Call (.Attribute o "index" apos) [e] [] cpos) ρ M P :=
  ex_of (pe_bm PySem.F.plainAttrs_list PySem.F.slot_list_index PySem.F.type_list_index mt_index pe_any pa_any hbase few line hst hpl) fun F σ H Q st k => h.go st fun d v M1 F1 H1 q1 e1 o1 r1 => by
    obtain ⟨zs, rfl, q2⟩ := q1
    cases r1 with
    | lst h1 rs =>
      refine ⟨tyV_lst (o1.ex _ _ h1), q2.go (st.to e1 o1) fun ys vs M2 F2 H2 q3 e2 o2 r2 => ?_⟩
      obtain ⟨y, rfl, hy, q3⟩ := q3
      cases r2 with
      | cons r2 r3 =>
        cases r3
        cases r2
        obtain rfl := vals_strs rs
        have hlt := List.idxOf_lt_length_of_mem hy
        refine ⟨_, zs.map V.str, .str y, zs.idxOf y, .str y, rfl, rfl, SqL.of (o2.ex _ _ (e2 _ _ h1)), rfl, flat_strs _, ?_, by simp [eqV], fun m z' hm hz => ?_, k _ _ _ _ _ q3 (e1.trans e2) o2 (.int _)⟩
        · rw [List.getElem?_map, List.getElem?_eq_getElem hlt, List.getElem_idxOf]; rfl
        · rw [List.getElem?_map, List.getElem?_eq_getElem (by omega)] at hz
          cases hz
          have hne := List.not_of_lt_findIdx (p := fun x => x == y) hm
          simpa [eqV] using hne
/-- how many numbers range(i, j, c) has -/
def cntP (i j c : Int) : Nat := if i < j then ((j - i - 1) / c + 1).toNat else 0
theorem rgcP {i j c : Int} (hc : 1 ≤ c ∧ c ≤ 1000) (hi : -1000000 ≤ i ∧ i ≤ 1000000) (hj : -1000000 ≤ j ∧ j ≤ 1000000) : RgC i j c (cntP i j c) := by
  have e : Builtin.Range.rangeSize i j c = (cntP i j c : Nat) := by
    unfold Builtin.Range.rangeSize cntP
    rw [if_pos (by omega)]
    by_cases h : i < j
    · rw [if_pos h, if_pos h]
      have : 0 ≤ (j - i - 1) / c := Int.ediv_nonneg (by omega) (by omega)
      omega
    · rw [if_neg h, if_neg h]; rfl
  have hn : (cntP i j c : Int) ≤ 2000000 := by
    unfold cntP
    split
    · have h1 : (j - i - 1) / c ≤ j - i - 1 := Int.ediv_le_self _ (by omega)
      omega
    · simp
  refine ⟨by omega, by omega, ?_, e⟩
  unfold Builtin.Range.small
  rw [e]
  rw [if_pos (show c > 0 by omega)]
  simp only [Builtin.Range.rangeFitsLong, Bool.and_eq_true, Bool.or_eq_true, decide_eq_true_eq, beq_iff_eq]
  omega
theorem ix_rangeP {tg : Expr} {P : List D → Mem → Prop} (hm : X.mg "range" = none) (h : AX X J [a, b, c] ρ M fun ds M2 => ∃ i j d, ds = [.int i, .int j, .int d] ∧ ((-1000000 ≤ i ∧ i ≤ 1000000) ∧ (-1000000 ≤ j ∧ j ≤ 1000000) ∧ 1 ≤ d ∧ d ≤ 1000) ∧ P (rngC i d (cntP i j d)) M2) (hg : Gl X "range" := by rfl)
    (hs : starEach [a, b, c] X.env = (false, eval a X.env) :: starEach [b, c] X.env := by rfl) (hpl : (backTo pos (starEach [b, c] X.env)).any (·.1) = false := by rfl) : IX X J tg (.Call (.Name "range" p) [a, b, c] [] pos) ρ M P :=
  ix_of (pi_range3 hg hm pa_any hs hpl) fun F σ H R s k => h.go s fun ds vs M1 F1 H1 q e1 o1 r1 => by
    obtain ⟨i, j, d, rfl, hj, q2⟩ := q
    cases r1 with | cons h1 r1 => cases r1 with | cons h2 r1 => cases r1 with | cons h3 r1 =>
      cases r1
      cases h1; cases h2; cases h3
      exact ⟨i, j, d, cntP i j d, rfl, rgcP hj.2.2 hj.1 hj.2.1, k _ _ M1 F1 H1 q2 e1 o1 wk_rngC⟩
theorem cntP_at {i j c : Int} {k : Nat} (hc : 1 ≤ c) (h : k < cntP i j c) : i + (k : Int) * c < j := by
  unfold cntP at h
  split at h
  · have h1 : (k : Int) ≤ (j - i - 1) / c := by
      have : 0 ≤ (j - i - 1) / c := Int.ediv_nonneg (by omega) (by omega)
      omega
    have h2 : (k : Int) * c ≤ j - i - 1 := Int.le_trans (Int.mul_le_mul_of_nonneg_right h1 (by omega)) (Int.ediv_mul_le _ (by omega))
    omega
  · omega
end
end DX
/-! comprehensions whose list changes later; a variable's list is frozen; all([..]) -/
namespace DX
open PySem PySem.Spec L2
section
variable {X : Cx} {J : Gh} {e a b c : Expr} {es : List Expr} {ρ ρ' : DEnv} {M M' : Mem} {F F' H H' : Hp} {σ : St} {B : Bd} {K : PySem.W.Frag} {pos p : Pos} {x : Str} {P : D → Mem → Prop}
variable {scope : Scope} {tg iter elt : Expr} {ifs : List Expr}
/-- LcW, where the list goes on changing -/
def LcWM (X : Cx) (J : Gh) (scope : Scope) (vs : List Nat) (tg : Expr) (ifs : List Expr) (elt : Expr) (ρ : DEnv) (P : D → Mem → Prop) (ds : List D) (M1 : Mem) : Prop := ∃ Wd : Nat → List D → Mem → Prop, Wd 0 [] M1 ∧
  (∀ i d acc M' Dl, ds[i]? = some d → Wd i acc M' → M' Dl = none → acc.length < 1000000 ∧ AsB X scope vs tg d (cuts ρ vs) fun ρ2 =>
    TXb X J scope ifs ρ2 (up M' Dl (.lst acc)) fun t M2 => (t = true → EXb X J scope elt ρ2 M2 fun y M3 => ∃ M4, M4 Dl = none ∧ M3 = up M4 Dl (.lst acc) ∧ Wd (i + 1) (acc ++ [y]) M4) ∧
      (t = false → ∃ M4, M4 Dl = none ∧ M2 = up M4 Dl (.lst acc) ∧ Wd (i + 1) acc M4)) ∧
  ∀ acc M' Dl, Wd ds.length acc M' → M' Dl = none → P (.adr Dl) (up M' Dl (.lst acc))
theorem lc_goM {vs : List Nat} {Q : VK} (st : Sts X.K J F σ H ρ M) (k : Kt X.K F P Q) (h : IX X J tg iter ρ M (LcWM X J scope vs tg ifs elt ρ P)) :
    tLc (tIe X tg iter) (gB X scope tg) (tTb X scope ifs) (tEb X scope elt) vs σ H Q := by
  refine h.go st fun ds I M1 F1 H1 ⟨Wd, h0, hs, hd⟩ e1 o1 w Dl hD => ?_
  have hm1 := o1.nn hD
  refine ⟨fun i m H2 => m = ds.length - i ∧ i ≤ ds.length ∧ ∃ F' M' acc xs, Same F1 F' ∧ Ok X.K F' (up M' Dl (.lst acc)) H2 ∧ M' Dl = none ∧ H2 Dl = some (.lst xs) ∧ Wd i acc M', ⟨ds.length, by simp, Nat.zero_le _, F1, M1, [], [], Same.refl _, o1.lay hD ⟨[], upd_same, .nil⟩, hm1.2, upd_same, h0⟩, ?_⟩
  rintro i m H2 ⟨rfl, hi, F', M', acc, xs, e2, o2, hn, hx, q⟩
  by_cases hlt : i < ds.length
  · refine .inr ⟨w.goes i H2 hlt (e2.trans o2.ex), fun H3 => ∃ m', m' < ds.length - i ∧ m' = ds.length - (i + 1) ∧ i + 1 ≤ ds.length ∧ ∃ F' M' acc xs, Same F1 F' ∧ Ok X.K F' (up M' Dl (.lst acc)) H3 ∧ M' Dl = none ∧ H3 Dl = some (.lst xs) ∧ Wd (i + 1) acc M', fun H3 n3 => n3, fun x H3 y => ?_⟩
    obtain ⟨F3, e3, o3, r3⟩ := w.yields i ds[i] H2 x H3 F' _ (by simp [hlt]) e2 o2 y
    obtain ⟨ha, g, hg, hgo⟩ := hs i ds[i] acc M' Dl (by simp [hlt]) q hn
    have en3 : En X.K F3 (wipe σ vs) (cuts ρ vs) := (((st.en.cuts vs).mono e1).mono e2).mono e3
    refine ⟨g, hg, hgo F3 _ x _ H3 _ o3 r3 en3 fun σ4 ρ4 q4 en4 w4 => ⟨w4.trans (wipe_wipe σ vs), ?_⟩⟩
    obtain ⟨t, ht, q4⟩ := q4
    refine ⟨t, ht, q4 F3 σ4 H3 _ ⟨en4, o3, J.mono _ _ ((e1.trans e2).trans e3) st.gh⟩ fun tb M5 F5 H5 q5 e5 o5 => ?_⟩
    have fin : ∀ F6 M6 acc6 H6, Same F5 F6 → M6 Dl = none → Ok X.K F6 (up M6 Dl (.lst acc6)) H6 → Wd (i + 1) acc6 M6 → ∃ m', m' < ds.length - i ∧ m' = ds.length - (i + 1) ∧ i + 1 ≤ ds.length ∧ ∃ F' M' acc xs, Same F1 F' ∧ Ok X.K F' (up M' Dl (.lst acc)) H6 ∧ M' Dl = none ∧ H6 Dl = some (.lst xs) ∧ Wd (i + 1) acc M' := by
      intro F6 M6 acc6 H6 e6 n6 o6 q6
      obtain ⟨_, xs6, h6, _⟩ := o6.mt Dl _ up_same
      exact ⟨_, by omega, rfl, hlt, F6, M6, acc6, xs6, ((e2.trans e3).trans e5).trans e6, o6, n6, h6, q6⟩
    cases tb with
    | true =>
      refine iteT ⟨tD X.K J ρ4 M5 _, q5.1 rfl, F5, ⟨en4.mono e5, o5, J.mono _ _ (((e1.trans e2).trans e3).trans e5) st.gh⟩, fun y v M7 F7 H7 ⟨M4, n4, e4, q7⟩ e7 o7 r7 => ?_⟩
      subst e4
      obtain ⟨_, ys, hy, ry⟩ := o7.mt Dl _ up_same
      refine ⟨ys, hy, by rw [ry.length, sizeLine_eq]; omega, fin F7 M4 (acc ++ [y]) _ e7 n4 ?_ q7⟩
      have := o7.set (o := .lst (ys ++ [v])) (d' := .lst (acc ++ [y])) up_same ⟨_, upd_same, ry.append (.cons r7 .nil)⟩
      rwa [up_up] at this
    | false =>
      obtain ⟨M4, n4, e4, q7⟩ := q5.2 rfl
      subst e4
      exact iteF (fin F5 M4 acc H5 (Same.refl _) n4 o5 q7)
  · have e : i = ds.length := by omega
    subst e
    exact .inl ⟨w.stops H2 (e2.trans o2.ex), k _ _ _ _ _ (hd acc M' Dl q hn) (e1.trans e2) o2 (.adr Dl)⟩
theorem ex_lcM {own : List (Str × Nat)} (hc : X.calm = true) (h : IX X J tg iter ρ M (LcWM X J scope (own.map (·.2)) tg ifs elt ρ P)) (hN : X.N.Nodup := by rfl) (ok : blkC X.N X.env.scope scope own = true := by rfl) (hs : ∀ x, foldedSetIterable iter X.env x = pure x := by intro _; rfl) :
    EX X J (.ListComp elt [⟨tg, iter, ifs, 0⟩] scope pos) ρ M P :=
  ex_of (pe_lcA hc hN (blkOk_by ok) hs) fun F σ H Q st k => lc_goM st k h
theorem g1_lcM {y : Str} {py : Pos} {spos : Pos} {own : List (Str × Nat)} (i : Nat) (hc : X.calm = true) (h : IX X J tg iter ρ M (LcWM X J scope (own.map (·.2)) tg ifs elt ρ fun d M1 => B.nx (put ρ i d) M1)) (hN : X.N.Nodup := by rfl) (hy : X.N[i]? = some y := by rfl) (hyl : X.env.scope.names.lookup y = some .local := by rfl)
    (hsw : swapsWith (.ListComp elt [⟨tg, iter, ifs, 0⟩] scope pos) (some (.Name y py)) spos.line X.env = pure true := by rfl) (ok : blkC X.N X.env.scope scope own = true := by rfl) (hs : ∀ x, foldedSetIterable iter X.env x = pure x := by intro _; rfl) :
    G1 X J (.Assign [.Name y py] (.ListComp elt [⟨tg, iter, ifs, 0⟩] scope pos) spos) ρ M B :=
  g1_of (ps_setLc hc hN hy hyl hsw pi_any (blkOk_by ok) (fun s H C cl fp => ⟨fun pins s' σ H' v u Q I r ⟨g, h, q⟩ => (h s H C cl fp).run pins s' σ H' v u Q I r q⟩)
    (fun s H C cl fp => ⟨fun pins s' σ H' Q I ⟨t, h, q⟩ => (h s H C cl fp).run pins s' σ H' Q I q⟩) (fun s H C cl fp => ⟨fun pins s' σ H' Q I ⟨t, h, q⟩ => (h s H C cl fp).run pins s' σ H' Q I q⟩) hs)
    fun F σ H E st k => lc_goM st (P := fun d M1 => B.nx (put ρ i d) M1) (fun d v M' F' H' q e o r => k.nx F' _ H' _ M' q e ((st.en.mono e).put i r) o) h
/-- the pure one -/
theorem lcIM {vs : List Nat} {ds : List D} {M1 : Mem} (g : Nat → D) (t : Nat → Bool)
    (h : ∀ i d acc Dl, ds[i]? = some d → i < ds.length → M1 Dl = none → AsB X scope vs tg d (cuts ρ vs) fun ρ2 => TXb X J scope ifs ρ2 (up M1 Dl (.lst acc)) fun tb M2 => tb = t i ∧ M2 = up M1 Dl (.lst acc) ∧ (t i = true → EXb X J scope elt ρ2 M2 fun y M3 => y = g i ∧ M3 = up M1 Dl (.lst acc)))
    (hl : ds.length ≤ 1000000) (k : ∀ Dl, M1 Dl = none → P (.adr Dl) (up M1 Dl (.lst (lcR ds.length t g)))) : LcWM X J scope vs tg ifs elt ρ P ds M1 := by
  refine ⟨fun i acc M' => M' = M1 ∧ acc = lcR i t g, ⟨rfl, rfl⟩, ?_, fun acc M' Dl q hn => by obtain ⟨rfl, rfl⟩ := q; exact k Dl hn⟩
  rintro i d acc M' Dl hd ⟨rfl, rfl⟩ hD
  have hi : i < ds.length := by
    by_cases hi : i < ds.length
    · exact hi
    · rw [List.getElem?_eq_none (by omega)] at hd; cases hd
  refine ⟨by have := lcR_len (n := i) (t := t) (g := g); omega, ?_⟩
  obtain ⟨gg, h1, h2⟩ := h i d (lcR i t g) Dl hd hi hD
  refine ⟨gg, h1, fun F M v σ H Q o r en kk => h2 F M v σ H Q o r en fun σ' ρ' q en' w => kk σ' ρ' ?_ en' w⟩
  obtain ⟨tt, h3, h4⟩ := q
  refine ⟨tt, h3, fun F σ H Q st kb => h4 F σ H Q st fun tb M2 F' H' q e o => kb tb M2 F' H' ?_ e o⟩
  obtain ⟨rfl, rfl, q⟩ := q
  refine ⟨fun ht => ?_, fun ht => ⟨M', hD, rfl, rfl, by rw [lcR_succ, ht]; simp⟩⟩
  intro s H C cl fp
  exact (q ht s H C cl fp).imp fun y M3 hy => ⟨M', hD, hy.2, rfl, by rw [lcR_succ, ht, hy.1]; rfl⟩
/-! ### a variable's list changes no more -/
theorem En.frz : ∀ {σ : St} {ρ : DEnv} {i : Nat} {q : Addr} {d : D}, En K F σ ρ → DX.look ρ i = some (.adr q) → Rp K F (.ref q) d → En K F σ (DX.put ρ i d)
  | _, _, i, _, _, .nil, e, _ => by simp [DX.look] at e
  | _, _, 0, q, d, .cons h r, e, rq => .cons (fun x z => by
    obtain ⟨y, a, b⟩ := h (.adr q) e
    cases z
    cases b
    exact ⟨_, a, rq⟩) r
  | _, _, i + 1, q, d, .cons h r, e, rq => .cons h (En.frz r e rq)
theorem gx_frzv {sts : List Stmt} {p : Addr} {ds : List D} {M0 : Mem} (i : Nat) (hi : DX.look ρ i = some (.adr p)) (hn : M0 p = none) (h : GX X J sts (DX.put ρ i (.lst ds)) M0 B) : GX X J sts ρ (up M0 p (.lst ds)) B :=
  ⟨fun pins s σ H E I ⟨F, st, k⟩ => by
    obtain ⟨_, ys, hy, ry⟩ := st.ok.mt p _ up_same
    obtain ⟨s1, o4⟩ := st.ok.freeze up_same hy
    rw [rm_up hn] at o4
    exact h.run pins s σ H E I ⟨_, ⟨(st.en.mono s1).frz hi (.lst upd_same (ry.mono s1)), o4, J.mono _ _ s1 st.gh⟩, ⟨fun F' σ' H' ρ' M' q z1 z2 z3 => k.nx F' σ' H' ρ' M' q (s1.trans z1) z2 z3, k.rt.to s1, fun F' σ' H' ρ' M' q z1 z2 z3 => k.bk F' σ' H' ρ' M' q (s1.trans z1) z2 z3, fun F' σ' H' ρ' M' q z1 z2 z3 => k.ct F' σ' H' ρ' M' q (s1.trans z1) z2 z3⟩⟩⟩
/-! ### all([..]) -/
theorem cd_allE {d : D} {ds : List D} {bs : List Bool} (hc : X.calm = true) (s : Sl M d ds) (e : ds = bs.map D.bl) (q : P (.bl (bs.all id)) M) : CD X (.builtin "all") [d] M P := by
  subst e; exact cd_all hc s q
theorem cd_anyE {d : D} {ds : List D} {bs : List Bool} (hc : X.calm = true) (s : Sl M d ds) (e : ds = bs.map D.bl) (q : P (.bl (bs.any id)) M) : CD X (.builtin "any") [d] M P := by
  subst e; exact cd_any hc s q
theorem lcR_bls {n : Nat} {t : Nat → Bool} {g : Nat → Bool} : lcR n t (fun i => D.bl (g i)) = (((List.range n).filter t).map g).map D.bl := by
  unfold lcR; rw [List.map_map]; rfl
end
end DX
/-! l.index(int) -/
namespace DX
open PySem PySem.Spec L2
section
variable {X : Cx} {J : Gh} {M : Mem} {P : D → Mem → Prop} {ρ : DEnv} {o e : Expr} {apos cpos : Pos} {K : PySem.W.Frag} {F : Hp}
theorem flatI : ∀ zs : List Int, (zs.map V.int).all flatV = true
  | [] => rfl
  | y :: zs => by rw [List.map_cons, List.all_cons, flatI zs]; rfl
/-- l.index(i) of a list of ints -/
theorem ex_lindexI (h : EX X J o ρ M fun d M1 => ∃ zs : List Int, d = .lst (zs.map D.int) ∧ AX X J [e] ρ M1 fun ys M2 => ∃ y, ys = [.int y] ∧ y ∈ zs ∧ P (.int ((zs.idxOf y : Nat) : Int)) M2)
    (hbase : attributeBase o "index" X.env (eval o X.env) = eval o X.env := by rfl)
    (few : ((backTo cpos (starEach [e] X.env)).all (fun x => !x.1) && (backToKw cpos (keywordEach [] X.env)).all (fun x => x.1.isSome) && decide ([e].length + ([] : List Keyword).length + (if ([] : List Keyword).isEmpty then 0 else 1) < 30)) = true := by rfl)
    (line : (apos.endLine == cpos.line) = true := by rfl) (hst : starEach [e] X.env = (false, eval e X.env) :: starEach [] X.env := by rfl) (hpl : (backTo cpos (starEach [] X.env)).any (·.1) = false := by rfl) :
    EX X J (.Call (.Attribute o "index" apos) [e] [] cpos) ρ M P :=
  ex_of (pe_bm PySem.F.plainAttrs_list PySem.F.slot_list_index PySem.F.type_list_index mt_index pe_any pa_any hbase few line hst hpl) fun F σ H Q st k => h.go st fun d v M1 F1 H1 q1 e1 o1 r1 => by
    obtain ⟨zs, rfl, q2⟩ := q1
    cases r1 with
    | lst h1 rs =>
      refine ⟨tyV_lst (o1.ex _ _ h1), q2.go (st.to e1 o1) fun ys vs M2 F2 H2 q3 e2 o2 r2 => ?_⟩
      obtain ⟨y, rfl, hy, q3⟩ := q3
      cases r2 with
      | cons r2 r3 =>
        cases r3
        cases r2
        obtain rfl := rs.ints
        have hlt := List.idxOf_lt_length_of_mem hy
        refine ⟨_, zs.map V.int, .int y, zs.idxOf y, .int y, rfl, rfl, SqL.of (o2.ex _ _ (e2 _ _ h1)), rfl, flatI _, ?_, by simp [eqV], fun m z' hm hz => ?_, k _ _ _ _ _ q3 (e1.trans e2) o2 (.int _)⟩
        · rw [List.getElem?_map, List.getElem?_eq_getElem hlt, List.getElem_idxOf]; rfl
        · rw [List.getElem?_map, List.getElem?_eq_getElem (by omega)] at hz
          cases hz
          have hne := List.not_of_lt_findIdx (p := fun x => x == y) hm
          simpa [eqV] using hne
theorem od_isnotB {x y : Bool} (p : P (.bl (!decide (x = y))) M) : OD X (compareOp .IsNot) (.bl x) (.bl y) M P :=
  ⟨_, op_isnot_bl, fun F H v u Q o rx ry k => by
    cases rx; cases ry
    exact ⟨x, y, rfl, rfl, k.here p o (.bl _)⟩⟩
end
end DX
namespace My
open PySem PySem.Spec L2 DX SX
theorem cp_mix {x a c : Int} (h : 0 ≤ a ∧ a ≤ 1000000) (hc : 0 ≤ c ∧ c ≤ 100000) : CPow (x % 2147483629 * (2 * a + 41) + c * a + 7) 3 := by
  have h1 : 0 ≤ x % 2147483629 := Int.emod_nonneg _ (by decide)
  have h2 : x % 2147483629 < 2147483629 := Int.emod_lt_of_pos _ (by decide)
  have h3 : 0 ≤ x % 2147483629 * (2 * a + 41) := Int.mul_nonneg h1 (by omega)
  have h4 : x % 2147483629 * (2 * a + 41) ≤ 2147483629 * 2000041 := Int.mul_le_mul (by omega) (by omega) (by omega) (by omega)
  have h5 : 0 ≤ c * a := Int.mul_nonneg hc.1 h.1
  have h6 : c * a ≤ 100000 * 1000000 := Int.mul_le_mul (by omega) (by omega) (by omega) (by omega)
  exact ⟨by omega, by omega, by omega⟩
local macro_rules | `(tactic| walk_at "cm") => `(tactic| first | omega | exact ⟨by omega, by omega⟩ | exact cp_mix (by omega) (by omega) | exact Or.inl ⟨by omega, by omega⟩ | exact Or.inr ⟨by omega, by omega⟩ | exact ⟨by omega, by omega, by omega⟩ | assumption | exact ⟨le_b rfl, le_b rfl⟩ | (simp only [List.length_reverse, List.length_cons]; omega) | decide)
local macro_rules | `(tactic| walk_at "sz") => `(tactic| first | exact le_b rfl | omega | (simp only [tl_S, S_len, sgl_len, sgl_size, List.length_reverse, List.length_append, List.length_cons, List.length_nil, List.length_map, down_len, upto_len, rngC_len, rngD_len]; first | omega | exact le_b rfl))
local macro_rules | `(tactic| walk_at "fs") => `(tactic| first | assumption | (rintro p hp; have := dueP_mem (by omega) hp; omega))
local macro_rules | `(tactic| walk_at "lt") => `(tactic| first | exact lit_G | exact lit_K | exact lit_P | rfl)
local macro_rules | `(tactic| walk_at "ts") => `(tactic| exact fun h => absurd h.2 (Nat.ne_of_beq_eq_false rfl))
local macro_rules | `(tactic| walk_at "hs") => `(tactic| first | assumption | exact isS_rev (by assumption) (by assumption))
local macro_rules | `(tactic| walk_at "js") => `(tactic| first | exact sgl_all _ | (simp only [sgl_rev]; exact sgl_all _) | rfl)
local macro_rules | `(tactic| walk_at "mi") => `(tactic| rfl)
local macro_rules | `(tactic| walk_at "sg") => `(tactic| rfl)
local macro_rules | `(tactic| walk_at "dp") => `(tactic| first | exact le_b rfl | assumption)
local macro_rules | `(tactic| walk_at "wd") => `(tactic| first | exact le_b rfl | assumption)
local macro_rules | `(tactic| walk_at "gd") => `(tactic| first | assumption | exact trivial | (simp only [good, goods, and_true]; first | omega | decide))
local macro_rules | `(tactic| walk_at "pl") => `(tactic| first | rfl | assumption)
local macro_rules | `(tactic| walk_at "ix") => `(tactic| first | omega | (simp only [tl_S, S_len, sgl_len, List.length_reverse, List.length_append, List.length_cons, List.length_nil, List.length_map]; omega))
def topS (i : Nat) : Stmt := PySem.Challenge.pw_carryprobe_k56_answers_at_greater_sizes.main.body.getD i (.Pass ⟨0, 0, 0, 0⟩)
abbrev s_is_between : Stmt := topS 6
abbrev s_state_at : Stmt := topS 10
abbrev s_carry_of : Stmt := topS 11
abbrev s_first_state : Stmt := topS 13
abbrev s_output_positions : Stmt := topS 14
abbrev s_others_at : Stmt := topS 17
abbrev s_is_given : Stmt := topS 18
abbrev s_fixes : Stmt := topS 19
abbrev s_first_ones : Stmt := topS 21
abbrev s_Order___init__ : Stmt := inClass (topS 22) 1
abbrev s_Order_positions : Stmt := inClass (topS 22) 2
abbrev s_Order___add__ : Stmt := inClass (topS 22) 9
abbrev s_Order___call__ : Stmt := inClass (topS 22) 10
abbrev s_Ltap : Stmt := topS 24
abbrev s_Lnext : Stmt := topS 25
abbrev s_Llook : Stmt := topS 26
abbrev s_Lhidden : Stmt := topS 27
abbrev s_Lplaced : Stmt := topS 28
abbrev s_Lset : Stmt := topS 29
abbrev s_Lanswered : Stmt := topS 30
abbrev s_Lfixed : Stmt := topS 31
abbrev s_Ldrawn : Stmt := topS 32
abbrev s_Lwithout : Stmt := topS 33
abbrev s_Lnear : Stmt := topS 34
abbrev s_Lorder : Stmt := topS 35
abbrev s_law : Stmt := topS 36
theorem sc_is_between : FnScope ["value", "least", "most"] ["value", "least", "most"] (defScope s_is_between) := ⟨rfl, rfl, rfl, by decide +kernel, rfl, by decide +kernel, by decide +kernel⟩
theorem sc_state_at : FnScope ["trial", "position"] ["trial", "position"] (defScope s_state_at) := ⟨rfl, rfl, rfl, by decide +kernel, rfl, by decide +kernel, by decide +kernel⟩
theorem sc_carry_of : FnScope ["state"] ["state"] (defScope s_carry_of) := ⟨rfl, rfl, rfl, by decide +kernel, rfl, by decide +kernel, by decide +kernel⟩
theorem sc_first_state : FnScope ["trial", "positions", "position"] ["trial", "positions"] (defScope s_first_state) := ⟨rfl, rfl, rfl, by decide +kernel, rfl, by decide +kernel, by decide +kernel⟩
theorem sc_output_positions : FnScope ["n", "ring"] ["n", "ring"] (defScope s_output_positions) := ⟨rfl, rfl, rfl, by decide +kernel, rfl, by decide +kernel, by decide +kernel⟩
theorem sc_others_at : FnScope ["n", "ring", "entries", "place", "found", "position"] ["n", "ring", "entries", "place"] (defScope s_others_at) := ⟨rfl, rfl, rfl, by decide +kernel, rfl, by decide +kernel, by decide +kernel⟩
theorem sc_is_given : FnScope ["option", "trial", "carry", "state"] ["option", "trial", "carry"] (defScope s_is_given) := ⟨rfl, rfl, rfl, by decide +kernel, rfl, by decide +kernel, by decide +kernel⟩
theorem sc_fixes : FnScope ["n", "order", "answers", "ring", "entries", "left", "place", "option", "trial", "carry"] ["n", "order", "answers", "ring"] (defScope s_fixes) := ⟨rfl, rfl, rfl, by decide +kernel, rfl, by decide +kernel, by decide +kernel⟩
theorem sc_first_ones : FnScope ["positions", "found", "position"] ["positions"] (defScope s_first_ones) := ⟨rfl, rfl, rfl, by decide +kernel, rfl, by decide +kernel, by decide +kernel⟩
theorem sc_Order___init__ : FnScope ["self", "positions", "index", "position"] ["self", "positions"] (defScope s_Order___init__) := ⟨rfl, rfl, rfl, by decide +kernel, rfl, by decide +kernel, by decide +kernel⟩
theorem sc_Order_positions : FnScope ["self"] ["self"] (defScope s_Order_positions) := ⟨rfl, rfl, rfl, by decide +kernel, rfl, by decide +kernel, by decide +kernel⟩
theorem sc_Order___add__ : FnScope ["self", "other"] ["self", "other"] (defScope s_Order___add__) := ⟨rfl, rfl, rfl, by decide +kernel, rfl, by decide +kernel, by decide +kernel⟩
theorem sc_Order___call__ : FnScope ["self", "trial"] ["self", "trial"] (defScope s_Order___call__) := ⟨rfl, rfl, rfl, by decide +kernel, rfl, by decide +kernel, by decide +kernel⟩
theorem sc_Ltap : FnScope ["_law_script"] ["_law_script"] (defScope s_Ltap) := ⟨rfl, rfl, rfl, by decide +kernel, rfl, by decide +kernel, by decide +kernel⟩
theorem sc_Lnext : FnScope ["_law_tap_here", "_law_many", "_law_digit", "_law_turn", "_law_cell", "_law_great", "_law_mixed"] ["_law_tap_here", "_law_many"] (defScope s_Lnext) := ⟨rfl, rfl, rfl, by decide +kernel, rfl, by decide +kernel, by decide +kernel⟩
theorem sc_Llook : FnScope ["_law_test", "_law_entries", "_law_entry"] ["_law_test", "_law_entries"] (defScope s_Llook) := ⟨rfl, rfl, rfl, by decide +kernel, rfl, by decide +kernel, by decide +kernel⟩
theorem sc_Lhidden : FnScope ["_law_tap_here", "_law_bits", "_law_low", "_law_left", "_law_way", "_law_many", "_law_found", "_law_k"] ["_law_tap_here", "_law_bits", "_law_low"] (defScope s_Lhidden) := ⟨rfl, rfl, rfl, by decide +kernel, rfl, by decide +kernel, by decide +kernel⟩
theorem sc_Lplaced : FnScope ["_law_bits", "_law_low", "_law_high_ones", "_law_low_ones", "_law_letters", "_law_entry"] ["_law_bits", "_law_low", "_law_high_ones", "_law_low_ones"] (defScope s_Lplaced) := ⟨rfl, rfl, rfl, by decide +kernel, rfl, by decide +kernel, by decide +kernel⟩
theorem sc_Lset : FnScope ["_law_bits", "_law_low", "_law_entries", "_law_found", "_law_every", "_law_place", "_law_later", "_law_entry"] ["_law_bits", "_law_low", "_law_entries"] (defScope s_Lset) := ⟨rfl, rfl, rfl, by decide +kernel, rfl, by decide +kernel, by decide +kernel⟩
theorem sc_Lanswered : FnScope ["_law_entries", "_law_tests", "_law_test"] ["_law_entries", "_law_tests"] (defScope s_Lanswered) := ⟨rfl, rfl, rfl, by decide +kernel, rfl, by decide +kernel, by decide +kernel⟩
theorem sc_Lfixed : FnScope ["_law_bits", "_law_low", "_law_entries", "_law_rows", "_law_left", "_law_place", "_law_others", "_law_entry", "_law_test", "_law_told"] ["_law_bits", "_law_low", "_law_entries", "_law_rows"] (defScope s_Lfixed) := ⟨rfl, rfl, rfl, by decide +kernel, rfl, by decide +kernel, by decide +kernel⟩
theorem sc_Ldrawn : FnScope ["_law_tap_here", "_law_bits", "_law_low", "_law_letters", "_law_position"] ["_law_tap_here", "_law_bits", "_law_low"] (defScope s_Ldrawn) := ⟨rfl, rfl, rfl, by decide +kernel, rfl, by decide +kernel, by decide +kernel⟩
theorem sc_Lwithout : FnScope ["_law_rows", "_law_at"] ["_law_rows", "_law_at"] (defScope s_Lwithout) := ⟨rfl, rfl, rfl, by decide +kernel, rfl, by decide +kernel, by decide +kernel⟩
theorem sc_Lnear : FnScope ["_law_tap_here", "_law_bits", "_law_low", "_law_entries", "_law_at", "_law_way", "_law_left", "_law_entry"] ["_law_tap_here", "_law_bits", "_law_low", "_law_entries"] (defScope s_Lnear) := ⟨rfl, rfl, rfl, by decide +kernel, rfl, by decide +kernel, by decide +kernel⟩
theorem sc_Lorder : FnScope ["_law_entries", "_law_found", "_law_entry"] ["_law_entries"] (defScope s_Lorder) := ⟨rfl, rfl, rfl, by decide +kernel, rfl, by decide +kernel, by decide +kernel⟩
theorem sc_law : FnScope ["_law_script", "_law_tap_here", "_law_turn", "_law_low", "_law_bits", "_law_entries", "_law_whole", "_law_again", "_law_rows", "_law_k", "_law_at", "_law_kept", "_law_other", "_law_due", "_law_told"] ["_law_script"] (defScope s_law) := ⟨rfl, rfl, rfl, by decide +kernel, rfl, by decide +kernel, by decide +kernel⟩
structure Txt (K : PySem.W.Frag) (mg : Str → Option Value) : Prop where
  d_is_between : ∃ fd, FunD K "is_between" "is_between" (defArgs s_is_between) (defBody s_is_between) (defScope s_is_between) [] [] (He.fAd K ("is_between", none)) fd
  m_is_between : mg "is_between" = some (.ref (He.fAd K ("is_between", none)))
  d_state_at : ∃ fd, FunD K "state_at" "state_at" (defArgs s_state_at) (defBody s_state_at) (defScope s_state_at) [] [] (He.fAd K ("state_at", none)) fd
  m_state_at : mg "state_at" = some (.ref (He.fAd K ("state_at", none)))
  d_carry_of : ∃ fd, FunD K "carry_of" "carry_of" (defArgs s_carry_of) (defBody s_carry_of) (defScope s_carry_of) [] [] (He.fAd K ("carry_of", none)) fd
  m_carry_of : mg "carry_of" = some (.ref (He.fAd K ("carry_of", none)))
  d_first_state : ∃ fd, FunD K "first_state" "first_state" (defArgs s_first_state) (defBody s_first_state) (defScope s_first_state) [] [] (He.fAd K ("first_state", none)) fd
  m_first_state : mg "first_state" = some (.ref (He.fAd K ("first_state", none)))
  d_output_positions : ∃ fd, FunD K "output_positions" "output_positions" (defArgs s_output_positions) (defBody s_output_positions) (defScope s_output_positions) [] [] (He.fAd K ("output_positions", none)) fd
  m_output_positions : mg "output_positions" = some (.ref (He.fAd K ("output_positions", none)))
  d_others_at : ∃ fd, FunD K "others_at" "others_at" (defArgs s_others_at) (defBody s_others_at) (defScope s_others_at) [] [] (He.fAd K ("others_at", none)) fd
  m_others_at : mg "others_at" = some (.ref (He.fAd K ("others_at", none)))
  d_is_given : ∃ fd, FunD K "is_given" "is_given" (defArgs s_is_given) (defBody s_is_given) (defScope s_is_given) [] [] (He.fAd K ("is_given", none)) fd
  m_is_given : mg "is_given" = some (.ref (He.fAd K ("is_given", none)))
  d_fixes : ∃ fd, FunD K "fixes" "fixes" (defArgs s_fixes) (defBody s_fixes) (defScope s_fixes) [] [("ring", .bl false)] (He.fAd K ("fixes", none)) fd
  m_fixes : mg "fixes" = some (.ref (He.fAd K ("fixes", none)))
  d_first_ones : ∃ fd, FunD K "first_ones" "first_ones" (defArgs s_first_ones) (defBody s_first_ones) (defScope s_first_ones) [] [] (He.fAd K ("first_ones", none)) fd
  m_first_ones : mg "first_ones" = some (.ref (He.fAd K ("first_ones", none)))
  d_Order___init__ : ∃ fd, FunD K "__init__" "Order.__init__" (defArgs s_Order___init__) (defBody s_Order___init__) (defScope s_Order___init__) [] [] (He.fAd K ("Order", some "__init__")) fd
  d_Order_positions : ∃ fd, FunD K "positions" "Order.positions" (defArgs s_Order_positions) (defBody s_Order_positions) (defScope s_Order_positions) [] [] (prAd K "Order" "positions").2 fd
  d_Order___add__ : ∃ fd, FunD K "__add__" "Order.__add__" (defArgs s_Order___add__) (defBody s_Order___add__) (defScope s_Order___add__) [] [] (He.fAd K ("Order", some "__add__")) fd
  d_Order___call__ : ∃ fd, FunD K "__call__" "Order.__call__" (defArgs s_Order___call__) (defBody s_Order___call__) (defScope s_Order___call__) [] [] (He.fAd K ("Order", some "__call__")) fd
  d_Ltap : ∃ fd, FunD K "_law_tap" "_law_tap" (defArgs s_Ltap) (defBody s_Ltap) (defScope s_Ltap) [] [] (He.fAd K ("_law_tap", none)) fd
  m_Ltap : mg "_law_tap" = some (.ref (He.fAd K ("_law_tap", none)))
  d_Lnext : ∃ fd, FunD K "_law_next" "_law_next" (defArgs s_Lnext) (defBody s_Lnext) (defScope s_Lnext) [] [] (He.fAd K ("_law_next", none)) fd
  m_Lnext : mg "_law_next" = some (.ref (He.fAd K ("_law_next", none)))
  d_Llook : ∃ fd, FunD K "_law_look" "_law_look" (defArgs s_Llook) (defBody s_Llook) (defScope s_Llook) [] [] (He.fAd K ("_law_look", none)) fd
  m_Llook : mg "_law_look" = some (.ref (He.fAd K ("_law_look", none)))
  d_Lhidden : ∃ fd, FunD K "_law_hidden" "_law_hidden" (defArgs s_Lhidden) (defBody s_Lhidden) (defScope s_Lhidden) [] [] (He.fAd K ("_law_hidden", none)) fd
  m_Lhidden : mg "_law_hidden" = some (.ref (He.fAd K ("_law_hidden", none)))
  d_Lplaced : ∃ fd, FunD K "_law_placed" "_law_placed" (defArgs s_Lplaced) (defBody s_Lplaced) (defScope s_Lplaced) [] [] (He.fAd K ("_law_placed", none)) fd
  m_Lplaced : mg "_law_placed" = some (.ref (He.fAd K ("_law_placed", none)))
  d_Lset : ∃ fd, FunD K "_law_set" "_law_set" (defArgs s_Lset) (defBody s_Lset) (defScope s_Lset) [] [] (He.fAd K ("_law_set", none)) fd
  m_Lset : mg "_law_set" = some (.ref (He.fAd K ("_law_set", none)))
  d_Lanswered : ∃ fd, FunD K "_law_answered" "_law_answered" (defArgs s_Lanswered) (defBody s_Lanswered) (defScope s_Lanswered) [] [] (He.fAd K ("_law_answered", none)) fd
  m_Lanswered : mg "_law_answered" = some (.ref (He.fAd K ("_law_answered", none)))
  d_Lfixed : ∃ fd, FunD K "_law_fixed" "_law_fixed" (defArgs s_Lfixed) (defBody s_Lfixed) (defScope s_Lfixed) [] [] (He.fAd K ("_law_fixed", none)) fd
  m_Lfixed : mg "_law_fixed" = some (.ref (He.fAd K ("_law_fixed", none)))
  d_Ldrawn : ∃ fd, FunD K "_law_drawn" "_law_drawn" (defArgs s_Ldrawn) (defBody s_Ldrawn) (defScope s_Ldrawn) [] [] (He.fAd K ("_law_drawn", none)) fd
  m_Ldrawn : mg "_law_drawn" = some (.ref (He.fAd K ("_law_drawn", none)))
  d_Lwithout : ∃ fd, FunD K "_law_without" "_law_without" (defArgs s_Lwithout) (defBody s_Lwithout) (defScope s_Lwithout) [] [] (He.fAd K ("_law_without", none)) fd
  m_Lwithout : mg "_law_without" = some (.ref (He.fAd K ("_law_without", none)))
  d_Lnear : ∃ fd, FunD K "_law_near" "_law_near" (defArgs s_Lnear) (defBody s_Lnear) (defScope s_Lnear) [] [] (He.fAd K ("_law_near", none)) fd
  m_Lnear : mg "_law_near" = some (.ref (He.fAd K ("_law_near", none)))
  d_Lorder : ∃ fd, FunD K "_law_order" "_law_order" (defArgs s_Lorder) (defBody s_Lorder) (defScope s_Lorder) [] [] (He.fAd K ("_law_order", none)) fd
  m_Lorder : mg "_law_order" = some (.ref (He.fAd K ("_law_order", none)))
  d_law : ∃ fd, FunD K "law" "law" (defArgs s_law) (defBody s_law) (defScope s_law) [] [] (He.fAd K ("law", none)) fd
  m_law : mg "law" = some (.ref (He.fAd K ("law", none)))
  g_Order : mg "Order" = some (.ref (He.ga K "Order"))
  cls_Order : Cls K (He.ga K "Order")
  mk_Order : Mk K (He.ga K "Order") (He.fAd K ("Order", some "__init__"))
  no_Order_entries : NoAttr K (He.ga K "Order") "entries"
  me_Order___add__ : Meth K (He.ga K "Order") "__add__" (He.fAd K ("Order", some "__add__"))
  sf_Order : PySem.W.selfFirst K (He.ga K "Order") = true
  co_Order_GREATEST : ∃ u, Con K (He.ga K "Order") "GREATEST" (.int 24) u
  co_Order : StX.CallO K (He.ga K "Order") (He.fAd K ("Order", some "__call__"))
  pr_Order_positions : PropOf K (He.ga K "Order") "positions" (prAd K "Order" "positions").1 (prAd K "Order" "positions").2
  b_isinstance : mg "isinstance" = none
  b_len : mg "len" = none
  b_abs : mg "abs" = none
  b_int : mg "int" = none
  b_bool : mg "bool" = none
  b_list : mg "list" = none
  b_range : mg "range" = none
  b_repr : mg "repr" = none
  b_tuple : mg "tuple" = none
  b_enumerate : mg "enumerate" = none
  b_all : mg "all" = none
  b_max : mg "max" = none
  g_GENERATE : ∃ t, mg "GENERATE" = some (.str "G" t)
  g_PASS : ∃ t, mg "PASS" = some (.str "P" t)
  g_END : ∃ t, mg "END" = some (.str "end" t)
theorem emod_pos' {m b : Int} (hb : 0 < b) : 0 ≤ m % b ∧ m % b < b := ⟨Int.emod_nonneg _ (by omega), Int.emod_lt_of_pos _ hb⟩
def tr_law : Tr := fun ds M P => ∃ ns, ds = [.scr ns] ∧ ∀ M', P (.bl true) M'
theorem len_law {ds M P} (t : tr_law ds M P) : ds.length = 1 := by obtain ⟨_, rfl, _⟩ := t; rfl
theorem law_start {K : PySem.W.Frag} {H : Hp} {a : Addr} {ns : List Int} (hl : ns.length ≤ 63) (hS : SqL K H a (ns.map V.int)) : ∃ F M ds, Ok K F M H ∧ Rps K F [.ref a] ds ∧ tr_law ds M fun d _ => d = .bl true :=
  DX.law_start (fun ns M P k => ⟨ns, rfl, k⟩) hS
theorem atI_mod {ns : List Int} {a : Int} (h : (!ns.isEmpty) = true) : atI (ns.map D.int) (a % ((ns.map D.int).length : Int)) = some (.int (ns.getD (a % ((ns.map D.int).length : Int)).toNat 0)) := by
  have h1 : 0 < ns.length := by
    cases ns with
    | nil => cases h
    | cons n ns => exact Nat.zero_lt_succ _
  rw [List.length_map]
  exact atI_ints (Int.emod_nonneg _ (by omega)) (Int.emod_lt_of_pos _ (by omega))
theorem len_pos {ns : List Int} (h : (!ns.isEmpty) = true) : (0 : Int) < ((ns.map D.int).length : Int) := by
  cases ns with
  | nil => cases h
  | cons n ns => simp only [List.map_cons, List.length_cons]; omega
theorem le_pow (n : Nat) : (0 : Int) < 2 ^ n := Int.pow_pos (by decide)
/-! ### what draws -/
local macro_rules | `(tactic| walk_at "tk") => `(tactic| first | exact ⟨by omega, by omega⟩ | (simp only [decide_eq_true_eq, decide_eq_false_iff_not] at *; exact ⟨by omega, by omega⟩))
theorem cp_mixT {x a c b e : Int} (h : 0 ≤ a ∧ a ≤ 1000000) (hc : 0 ≤ c ∧ c ≤ 200000) (hb : 0 ≤ b ∧ b ≤ 1000000) (he : 0 ≤ e ∧ e ≤ 1000) : CPow (x % 2147483647 * (2 * a + b) + c * a * a + e) 3 := by
  have h1 : 0 ≤ x % 2147483647 := Int.emod_nonneg _ (by decide)
  have h2 : x % 2147483647 < 2147483647 := Int.emod_lt_of_pos _ (by decide)
  have h3 : 0 ≤ x % 2147483647 * (2 * a + b) := Int.mul_nonneg h1 (by omega)
  have h4 : x % 2147483647 * (2 * a + b) ≤ 2147483647 * 4000000 := Int.mul_le_mul (by omega) (by omega) (by omega) (by omega)
  have h5 : 0 ≤ c * a := Int.mul_nonneg hc.1 h.1
  have h6 : c * a ≤ 200000 * 1000000 := Int.mul_le_mul (by omega) (by omega) (by omega) (by omega)
  have h7 : 0 ≤ c * a * a := Int.mul_nonneg h5 h.1
  have h8 : c * a * a ≤ 200000 * 1000000 * 1000000 := Int.mul_le_mul (by omega) (by omega) (by omega) (by omega)
  exact ⟨by omega, by omega, by omega⟩
local macro_rules | `(tactic| walk_at "cm") => `(tactic| exact cp_mixT (by omega) (by omega) (by omega) (by omega))
abbrev tr_Ltap : Tr := trBegin
theorem len_Ltap {ds M P} (t : tr_Ltap ds M P) : ds.length = 1 := by obtain ⟨_, rfl, _⟩ := t; rfl
theorem ok_Ltap {pg : Program} {w : World} {K : PySem.W.Frag} {mg : Str → Option Value} {base : Heap} (T : Txt K mg) : FnOk pg w K mg base CX0 1 (He.fAd K ("_law_tap", none)) T.d_Ltap.choose ["_law_script"] (SpD K tr_Ltap) :=
  fn_okD T.d_Ltap.choose_spec sc_Ltap (fun ds M P t => len_Ltap t) fun cdv A outer s H ds M P hr t => by
  obtain ⟨ns, rfl, k⟩ := t
  refine gx_seq (g1_ret (ex_lstM (ax_cons (ex_ty T.b_list bb_list (ax_cons (ex_slice (ex_var 0 rfl (ox_none (ox_some (ex_int (⟨_, rfl, sd_scr (k := 63) (ax_nil (cd_list .lst (ax_cons (ex_int (ax_cons (ex_int (ax_nil (⟨le_b rfl, fun p hp => ?_⟩))))))))⟩)))))))))))
  exact k _ ⟨ns.take 63, 0, 0⟩ hp ⟨Int.le_refl 0, Int.le_refl 0, Int.le_refl 0⟩
theorem ca_Ltap {X : Cx} {J : Gh} {e : Expr} {es : List Expr} {ρ : DEnv} {M : Mem} {P : D → Mem → Prop} {pos p : Pos} (T : Txt X.K X.mg) (hr : Room 1 X.A) (h : AX X J (e :: es) ρ M fun ds M1 => tr_Ltap (ds ++ []) M1 P) (hg : Gl X "_law_tap" := by rfl)
    (he : starEach (e :: es) X.env = (false, eval e X.env) :: starEach es X.env := by rfl) (hpl : (backTo pos (starEach es X.env)).any (·.1) = false := by rfl) : EX X J (.Call (.Name "_law_tap" p) (e :: es) [] pos) ρ M P :=
  ex_call (ok_Ltap T) hr T.m_Ltap T.d_Ltap.choose_spec.kp (T.d_Ltap.choose_spec.bindsN fun _ _ _ _ _ _ us hl => match us, hl with | [_], _ => rfl) .nil (fun _ => .nil) h hg (by decide) he hpl
abbrev tr_Lnext : Tr := trTake
theorem len_Lnext {ds M P} (t : tr_Lnext ds M P) : ds.length = 2 := by obtain ⟨_, _, _, _, _, rfl, _⟩ := t; rfl
theorem fin_take {m b : Int} (hb : 0 < b) : 0 ≤ m % b ∧ m % b < b := ⟨Int.emod_nonneg _ (by omega), Int.emod_lt_of_pos _ hb⟩
theorem ok_Lnext {pg : Program} {w : World} {K : PySem.W.Frag} {mg : Str → Option Value} {base : Heap} (T : Txt K mg) : FnOk pg w K mg base CX0 1 (He.fAd K ("_law_next", none)) T.d_Lnext.choose ["_law_tap_here", "_law_many"] (SpD K tr_Lnext) :=
  fn_okD T.d_Lnext.choose_spec sc_Lnext (fun ds M P t => len_Lnext t) fun cdv A outer s H ds M P hr t => by
  obtain ⟨h, s, b, M0, n, rfl, rfl, hs, hn, hb, k⟩ := t
  obtain ⟨a0, an, g0⟩ := hs
  refine gx_seq (g1_if (tx_cmp (ex_ix (ex_var 0 rfl (ex_int (id_seq (.adr up_same) (rfl) (ex_int (od_gt (⟨_, rfl, fun h1 => ?_, fun h1 => ?_⟩)))))))))
  · have h2 : (0 : Int) < s.gr := of_decide_eq_true h1
    refine gx_seq (g1_asg (ex_bin (ex_ix (ex_var 0 rfl (ex_int (id_seq (.adr up_same) (rfl) (ex_var 1 rfl (od_mod (by walk_at "cm") (as_name 2 (?_) sc_Lnext.nd)))))))))
    refine gx_seq (g1_setIx (ex_bin (ex_ix (ex_var 0 rfl (ex_int (id_seq (.adr up_same) (rfl) (ex_var 1 rfl (od_fdiv (by walk_at "cm") (ex_var 0 rfl (ex_int (⟨_, _, _, _, _, rfl, rfl, at0, rfl, ?_⟩)))))))))))
    refine gx_seq (g1_ret (ex_var 2 rfl (?_)))
    exact k _ ⟨s.cells, s.at_, s.gr / b⟩ (fin_take hb.1).1 (fin_take hb.1).2 ⟨a0, by show s.at_ ≤ n + 1; omega, Int.ediv_nonneg g0 (by omega)⟩
  refine gx_nil ?_
  refine gx_seq (g1_asg (ex_ix (ex_var 0 rfl (ex_int (id_seq (.adr up_same) (rfl) (as_name 3 (?_) sc_Lnext.nd))))))
  refine gx_seq (g1_setIx (ex_bin (ex_var 3 rfl (ex_int (od_add (ex_var 0 rfl (ex_int (⟨_, _, _, _, _, rfl, rfl, at0, rfl, ?_⟩))))))))
  refine gx_seq (g1_asg (ex_bin (ex_bin (ex_int (ex_var 3 rfl (od_mul (by walk_at "cm") (ex_int (od_add (as_name 4 (?_) sc_Lnext.nd)))))))))
  refine gx_seq (g1_mid (fun ρ' M' => ∃ q : Int, ρ' = [some (.adr h), some (.int b), none, some (.int s.at_), some (.int q), none, none] ∧ M' = up M0 h (hand ⟨s.cells, s.at_ + 1, s.gr⟩)) (g1_if (tx_cmp (ex_ix (ex_var 0 rfl (ex_int (id_seq (.adr up_same) (rfl) (ex_lst (ax_nil (⟨le_b rfl, od_neNil hr.units (⟨_, rfl, ⟨fun h => ?_, fun h => ?_⟩⟩)⟩))))))))) ?_)
  · have hlen := len_pos h
    refine gx_seq (g1_asg (ex_ix (ex_ix (ex_var 0 rfl (ex_int (id_seq (.adr up_same) (rfl) (ex_bin (ex_var 3 rfl (ex_blt T.b_len bb_len (ax_cons (ex_ix (ex_var 0 rfl (ex_int (id_seq (.adr up_same) (rfl) (ax_nil (cd_len .lst (od_mod (by walk_at "cm") (id_seq .lst (atI_mod ‹_›) (as_name 4 (?_) sc_Lnext.nd)))))))))))))))))))
    exact gx_nil ⟨_, rfl, rfl⟩
  · exact gx_nil ⟨_, rfl, rfl⟩
  rintro ρ' M' ⟨q, rfl, rfl⟩
  show GX _ _ _ _ _ _
  refine gx_seq (g1_if (tx_pw (wx_and (tx_cmp (ex_var 3 rfl (ex_blt T.b_len bb_len (ax_cons (ex_ix (ex_var 0 rfl (ex_int (id_seq (.adr up_same) (rfl) (ax_nil (cd_len .lst (od_lt (⟨_, rfl, ⟨fun q5b => wx_and1 (tx_cmp (ex_blt T.b_abs bb_abs (ax_cons (ex_var 4 rfl (ax_nil (cd_abs (ex_bin (ex_int (ex_int (od_pow (by walk_at "cm") (od_ge (⟨_, rfl, ⟨fun h => ?_, fun h => ?_⟩⟩)))))))))))), fun q5b => ⟨fun h => (nomatch h), fun h => ?_⟩⟩⟩)))))))))))))))
  · refine gx_seq (g1_asg (ex_bin (ex_bin (ex_int (ex_blt T.b_abs bb_abs (ax_cons (ex_var 4 rfl (ax_nil (cd_abs (od_mul (by walk_at "cm") (ex_ty T.b_int bb_int (ax_cons (ex_cmp (ex_var 4 rfl (ex_int (od_lt (ax_nil (cd_intB (od_add (as_name 5 (?_) sc_Lnext.nd))))))))))))))))))))
    refine gx_seq (g1_setIx (ex_bin (ex_var 5 rfl (ex_var 1 rfl (od_fdiv (by walk_at "cm") (ex_var 0 rfl (ex_int (⟨_, _, _, _, _, rfl, rfl, at0, rfl, ?_⟩))))))))
    refine gx_seq (g1_ret (ex_bin (ex_var 5 rfl (ex_var 1 rfl (od_mod (by walk_at "cm") (?_))))))
    have big : (0 : Int) ≤ 2 * (if q < 0 then -q else q) + (if decide (q < 0) = true then 1 else 0) := by
      split <;> split <;> omega
    exact k _ ⟨s.cells, s.at_ + 1, _⟩ (fin_take hb.1).1 (fin_take hb.1).2 ⟨by show 0 ≤ s.at_ + 1; omega, by show s.at_ + 1 ≤ n + 1; omega, Int.ediv_nonneg big (by omega)⟩
  all_goals
    refine gx_nil ?_
    refine gx_seq (g1_asg (ex_bin (ex_bin (ex_bin (ex_bin (ex_bin (ex_var 4 rfl (ex_int (od_mod (by walk_at "cm") (ex_bin (ex_int (ex_var 3 rfl (od_mul (by walk_at "cm") (od_add (ex_int (od_add (ex_int (od_pow (by walk_at "cm") (ex_int (od_mod (by walk_at "cm") (as_name 6 (?_) sc_Lnext.nd)))))))))))))))))))))
    refine gx_seq (g1_asg (ex_bin (ex_bin (ex_bin (ex_bin (ex_bin (ex_var 6 rfl (ex_bin (ex_bin (ex_int (ex_var 3 rfl (od_mul (by walk_at "cm") (ex_int (od_add (od_mul (by walk_at "cm") (ex_bin (ex_bin (ex_int (ex_var 3 rfl (od_mul (by walk_at "cm") (ex_var 3 rfl (od_mul (by walk_at "cm") (od_add (ex_int (od_add (ex_int (od_pow (by walk_at "cm") (ex_int (od_mod (by walk_at "cm") (as_name 6 (?_) sc_Lnext.nd))))))))))))))))))))))))))))))
    refine gx_seq (g1_ret (ex_bin (ex_bin (ex_var 6 rfl (ex_int (od_fdiv (by walk_at "cm") (ex_var 1 rfl (od_mod (by walk_at "cm") (?_)))))))))
    exact k _ ⟨s.cells, s.at_ + 1, s.gr⟩ (fin_take hb.1).1 (fin_take hb.1).2 ⟨by show 0 ≤ s.at_ + 1; omega, by show s.at_ + 1 ≤ n + 1; omega, g0⟩
theorem ca_Lnext {X : Cx} {J : Gh} {e : Expr} {es : List Expr} {ρ : DEnv} {M : Mem} {P : D → Mem → Prop} {pos p : Pos} (T : Txt X.K X.mg) (hr : Room 1 X.A) (h : AX X J (e :: es) ρ M fun ds M1 => tr_Lnext (ds ++ []) M1 P) (hg : Gl X "_law_next" := by rfl)
    (he : starEach (e :: es) X.env = (false, eval e X.env) :: starEach es X.env := by rfl) (hpl : (backTo pos (starEach es X.env)).any (·.1) = false := by rfl) : EX X J (.Call (.Name "_law_next" p) (e :: es) [] pos) ρ M P :=
  ex_call (ok_Lnext T) hr T.m_Lnext T.d_Lnext.choose_spec.kp (T.d_Lnext.choose_spec.bindsN fun _ _ _ _ _ _ us hl => match us, hl with | [_, _], _ => rfl) .nil (fun _ => .nil) h hg (by decide) he hpl
def btw (d : D) (a b : Int) : Bool := match d with
  | .int v => decide (a ≤ v) && decide (v ≤ b)
  | _ => false
def tr_is_between : Tr := fun ds M P => ∃ d a b, ds = [d, .int a, .int b] ∧ plain d = true ∧ P (.bl (btw d a b)) M
theorem len_is_between {ds M P} (t : tr_is_between ds M P) : ds.length = 3 := by obtain ⟨_, _, _, rfl, _⟩ := t; rfl
theorem ok_is_between {pg : Program} {w : World} {K : PySem.W.Frag} {mg : Str → Option Value} {base : Heap} (T : Txt K mg) : FnOk pg w K mg base CX0 1 (He.fAd K ("is_between", none)) T.d_is_between.choose ["value", "least", "most"] (SpD K tr_is_between) :=
  fn_okD T.d_is_between.choose_spec sc_is_between (fun ds M P t => len_is_between t) fun cdv A outer s H ds M P hr t => by
  obtain ⟨d, a, b, rfl, hp, k⟩ := t
  cases d with
  | int v =>
    refine gx_seq (g1_ret (ex_and (ex_blt T.b_isinstance bb_isi (ax_cons (ex_var 0 rfl (ax_cons (ex_tyn T.b_int bb_int (ax_nil (cd_isi (by decide) (by walk_at "pl") (⟨_, rfl, fun q0a => ex_and (ex_not (ex_blt T.b_isinstance bb_isi (ax_cons (ex_var 0 rfl (ax_cons (ex_tyn T.b_bool bb_bool (ax_nil (cd_isi (by decide) (by walk_at "pl") (⟨_, rfl, ⟨_, rfl, fun q0b => ex_one (ex_chain (ex_var 1 rfl (ex_var 0 rfl (od_le (⟨_, rfl, fun q0c => ex_var 2 rfl (od_le (?_)), fun q0c => ?_⟩))))), fun q0b => ?_⟩⟩))))))))), fun q0a => ?_⟩))))))))))
    · have e : btw (.int v) a b = decide (v ≤ b) := by
        have h : decide (a ≤ v) = true := ‹_›
        simp only [btw, h, Bool.true_and]
      rw [e] at k
      exact k
    · have e : btw (.int v) a b = false := by
        have h : decide (a ≤ v) = false := ‹_›
        simp only [btw, h, Bool.false_and]
      rw [e] at k
      exact k
    · exact absurd ‹(!isi "bool" (D.int v)) = false› (by simp [isi, kn])
    · exact absurd ‹isi "int" (D.int v) = false› (by simp [isi, kn])
  | bl v =>
    refine gx_seq (g1_ret (ex_and (ex_blt T.b_isinstance bb_isi (ax_cons (ex_var 0 rfl (ax_cons (ex_tyn T.b_int bb_int (ax_nil (cd_isi (by decide) (by walk_at "pl") (⟨_, rfl, fun q => ex_and (ex_not (ex_blt T.b_isinstance bb_isi (ax_cons (ex_var 0 rfl (ax_cons (ex_tyn T.b_bool bb_bool (ax_nil (cd_isi (by decide) (by walk_at "pl") (⟨_, rfl, ⟨_, rfl, fun q => ?_, fun q => ?_⟩⟩))))))))), fun q => ?_⟩))))))))))
    · exact absurd q (by simp [isi, kn])
    · exact k
    · exact k
  | adr v => cases hp
  | ty v => cases hp
  | scr v => cases hp
  | ins v w => cases hp
  | stup v => cases hp
  | non => refine gx_seq (g1_ret (ex_and (ex_blt T.b_isinstance bb_isi (ax_cons (ex_var 0 rfl (ax_cons (ex_tyn T.b_int bb_int (ax_nil (cd_isi (by decide) (by walk_at "pl") (⟨_, rfl, fun q => absurd q (by simp [isi, kn]), fun q => k⟩))))))))))
  | str v => refine gx_seq (g1_ret (ex_and (ex_blt T.b_isinstance bb_isi (ax_cons (ex_var 0 rfl (ax_cons (ex_tyn T.b_int bb_int (ax_nil (cd_isi (by decide) (by walk_at "pl") (⟨_, rfl, fun q => absurd q (by simp [isi, kn]), fun q => k⟩))))))))))
  | tup v => refine gx_seq (g1_ret (ex_and (ex_blt T.b_isinstance bb_isi (ax_cons (ex_var 0 rfl (ax_cons (ex_tyn T.b_int bb_int (ax_nil (cd_isi (by decide) (by walk_at "pl") (⟨_, rfl, fun q => absurd q (by simp [isi, kn]), fun q => k⟩))))))))))
  | lst v => refine gx_seq (g1_ret (ex_and (ex_blt T.b_isinstance bb_isi (ax_cons (ex_var 0 rfl (ax_cons (ex_tyn T.b_int bb_int (ax_nil (cd_isi (by decide) (by walk_at "pl") (⟨_, rfl, fun q => absurd q (by simp [isi, kn]), fun q => k⟩))))))))))
  | dct v => refine gx_seq (g1_ret (ex_and (ex_blt T.b_isinstance bb_isi (ax_cons (ex_var 0 rfl (ax_cons (ex_tyn T.b_int bb_int (ax_nil (cd_isi (by decide) (by walk_at "pl") (⟨_, rfl, fun q => absurd q (by simp [isi, kn]), fun q => k⟩))))))))))
theorem ca_is_between {X : Cx} {J : Gh} {e : Expr} {es : List Expr} {ρ : DEnv} {M : Mem} {P : D → Mem → Prop} {pos p : Pos} (T : Txt X.K X.mg) (hr : Room 1 X.A) (h : AX X J (e :: es) ρ M fun ds M1 => tr_is_between (ds ++ []) M1 P) (hg : Gl X "is_between" := by rfl)
    (he : starEach (e :: es) X.env = (false, eval e X.env) :: starEach es X.env := by rfl) (hpl : (backTo pos (starEach es X.env)).any (·.1) = false := by rfl) : EX X J (.Call (.Name "is_between" p) (e :: es) [] pos) ρ M P :=
  ex_call (ok_is_between T) hr T.m_is_between T.d_is_between.choose_spec.kp (T.d_is_between.choose_spec.bindsN fun _ _ _ _ _ _ us hl => match us, hl with | [_, _, _], _ => rfl) .nil (fun _ => .nil) h hg (by decide) he hpl
theorem btw_in {v a b : Int} (h1 : a ≤ v) (h2 : v ≤ b) : btw (.int v) a b = true := by simp [btw, h1, h2]
def tr_output_positions : Tr := fun ds M P => ∃ n r, ds = [.int n, .bl r] ∧ (0 ≤ n ∧ n ≤ 1000) ∧ P (.tup ((upto (if r then 1 else 0) (n + 1)).map D.int)) M
theorem len_output_positions {ds M P} (t : tr_output_positions ds M P) : ds.length = 2 := by obtain ⟨_, _, rfl, _⟩ := t; rfl
theorem ok_output_positions {pg : Program} {w : World} {K : PySem.W.Frag} {mg : Str → Option Value} {base : Heap} (T : Txt K mg) : FnOk pg w K mg base CX0 1 (He.fAd K ("output_positions", none)) T.d_output_positions.choose ["n", "ring"] (SpD K tr_output_positions) :=
  fn_okD T.d_output_positions.choose_spec sc_output_positions (fun ds M P t => len_output_positions t) fun cdv A outer s H ds M P hr t => by
  obtain ⟨n, r, rfl, hb, k⟩ := t
  have hq : 0 ≤ (if r = true then (1 : Int) else 0) ∧ (if r = true then (1 : Int) else 0) ≤ 1 := by split <;> omega
  refine gx_seq (g1_ret (ex_tupR rfl T.b_tuple T.b_range (ax_cons (ex_ty T.b_int bb_int (ax_cons (ex_var 1 rfl (ax_nil (cd_intB (ax_cons (ex_bin (ex_var 0 rfl (ex_int (od_add (ax_nil (⟨_, _, _, rg2 (by walk_at "cm"), ?_⟩)))))))))))))))
  rw [rngC_one, rngD_upto]
  exact k
theorem ca_output_positions {X : Cx} {J : Gh} {e : Expr} {es : List Expr} {ρ : DEnv} {M : Mem} {P : D → Mem → Prop} {pos p : Pos} (T : Txt X.K X.mg) (hr : Room 1 X.A) (h : AX X J (e :: es) ρ M fun ds M1 => tr_output_positions (ds ++ []) M1 P) (hg : Gl X "output_positions" := by rfl)
    (he : starEach (e :: es) X.env = (false, eval e X.env) :: starEach es X.env := by rfl) (hpl : (backTo pos (starEach es X.env)).any (·.1) = false := by rfl) : EX X J (.Call (.Name "output_positions" p) (e :: es) [] pos) ρ M P :=
  ex_call (ok_output_positions T) hr T.m_output_positions T.d_output_positions.choose_spec.kp (T.d_output_positions.choose_spec.bindsN fun _ _ _ _ _ _ us hl => match us, hl with | [_, _], _ => rfl) .nil (fun _ => .nil) h hg (by decide) he hpl
def tr_state_at : Tr := fun ds M P => ∃ l i, ds = [.str (S l), .int i] ∧ (0 ≤ i ∧ i < (l.length : Int)) ∧ l.length ≤ 1000000 ∧ P (.str (S [stp l i])) M
theorem len_state_at {ds M P} (t : tr_state_at ds M P) : ds.length = 2 := by obtain ⟨_, _, rfl, _⟩ := t; rfl
theorem ok_state_at {pg : Program} {w : World} {K : PySem.W.Frag} {mg : Str → Option Value} {base : Heap} (T : Txt K mg) : FnOk pg w K mg base CX0 1 (He.fAd K ("state_at", none)) T.d_state_at.choose ["trial", "position"] (SpD K tr_state_at) :=
  fn_okD T.d_state_at.choose_spec sc_state_at (fun ds M P t => len_state_at t) fun cdv A outer s H ds M P hr t => by
  obtain ⟨l, i, rfl, hi, hl, k⟩ := t
  refine gx_seq (g1_ret (ex_ix (ex_var 0 rfl (ex_bin (ex_bin (ex_blt T.b_len bb_len (ax_cons (ex_var 0 rfl (ax_nil (cd_lenS (by walk_at "sz") (ex_int (od_sub (ex_var 1 rfl (od_sub (id_strA (by walk_at "ix") (by walk_at "sz") (?_))))))))))))))))
  have e : (((S l).length : Int) - 1 - i).toNat = l.length - 1 - i.toNat := by rw [S_len]; omega
  rw [e]
  exact k
theorem ca_state_at {X : Cx} {J : Gh} {e : Expr} {es : List Expr} {ρ : DEnv} {M : Mem} {P : D → Mem → Prop} {pos p : Pos} (T : Txt X.K X.mg) (hr : Room 1 X.A) (h : AX X J (e :: es) ρ M fun ds M1 => tr_state_at (ds ++ []) M1 P) (hg : Gl X "state_at" := by rfl)
    (he : starEach (e :: es) X.env = (false, eval e X.env) :: starEach es X.env := by rfl) (hpl : (backTo pos (starEach es X.env)).any (·.1) = false := by rfl) : EX X J (.Call (.Name "state_at" p) (e :: es) [] pos) ρ M P :=
  ex_call (ok_state_at T) hr T.m_state_at T.d_state_at.choose_spec.kp (T.d_state_at.choose_spec.bindsN fun _ _ _ _ _ _ us hl => match us, hl with | [_, _], _ => rfl) .nil (fun _ => .nil) h hg (by decide) he hpl
def tr_carry_of : Tr := fun ds M P => ∃ c, ds = [.str (S [c])] ∧ P (.int (carryS c)) M
theorem len_carry_of {ds M P} (t : tr_carry_of ds M P) : ds.length = 1 := by obtain ⟨_, rfl, _⟩ := t; rfl
theorem ok_carry_of {pg : Program} {w : World} {K : PySem.W.Frag} {mg : Str → Option Value} {base : Heap} (T : Txt K mg) : FnOk pg w K mg base CX0 1 (He.fAd K ("carry_of", none)) T.d_carry_of.choose ["state"] (SpD K tr_carry_of) :=
  fn_okD T.d_carry_of.choose_spec sc_carry_of (fun ds M P t => len_carry_of t) fun cdv A outer s H ds M P hr t => by
  obtain ⟨c, rfl, k⟩ := t
  refine gx_seq (g1_ret (ex_ty T.b_int bb_int (ax_cons (ex_cmp (ex_var 0 rfl (ex_gstr T.g_GENERATE (od_eq rfl (ax_nil (cd_intB (?_))))))))))
  rw [lit_G, sceq_S]
  have e : (if decide ([c] = [71]) = true then (1 : Int) else 0) = carryS c := by simp [carryS]
  rw [e]
  exact k
theorem ca_carry_of {X : Cx} {J : Gh} {e : Expr} {es : List Expr} {ρ : DEnv} {M : Mem} {P : D → Mem → Prop} {pos p : Pos} (T : Txt X.K X.mg) (hr : Room 1 X.A) (h : AX X J (e :: es) ρ M fun ds M1 => tr_carry_of (ds ++ []) M1 P) (hg : Gl X "carry_of" := by rfl)
    (he : starEach (e :: es) X.env = (false, eval e X.env) :: starEach es X.env := by rfl) (hpl : (backTo pos (starEach es X.env)).any (·.1) = false := by rfl) : EX X J (.Call (.Name "carry_of" p) (e :: es) [] pos) ρ M P :=
  ex_call (ok_carry_of T) hr T.m_carry_of T.d_carry_of.choose_spec.kp (T.d_carry_of.choose_spec.bindsN fun _ _ _ _ _ _ us hl => match us, hl with | [_], _ => rfl) .nil (fun _ => .nil) h hg (by decide) he hpl
def tr_first_state : Tr := fun ds M P => ∃ l ps, ds = [.str (S l), .tup (ps.map D.int)] ∧ (∀ p ∈ ps, 0 ≤ p ∧ p < (l.length : Int)) ∧ l.length ≤ 1000000 ∧ P (.str (S [firstS l ps])) M
theorem len_first_state {ds M P} (t : tr_first_state ds M P) : ds.length = 2 := by obtain ⟨_, _, rfl, _⟩ := t; rfl
theorem firstS_drop {l : List Nat} {ps : List Int} {i : Nat} (hi : i < ps.length) : firstS l (ps.drop i) = if stp l ps[i] = 80 then firstS l (ps.drop (i + 1)) else stp l ps[i] := by
  rw [List.drop_eq_getElem_cons hi]; rfl
theorem ok_first_state {pg : Program} {w : World} {K : PySem.W.Frag} {mg : Str → Option Value} {base : Heap} (T : Txt K mg) : FnOk pg w K mg base CX0 2 (He.fAd K ("first_state", none)) T.d_first_state.choose ["trial", "positions"] (SpD K tr_first_state) :=
  fn_okD T.d_first_state.choose_spec sc_first_state (fun ds M P t => len_first_state t) fun cdv A outer s H ds M P hr t => by
  obtain ⟨l, ps, rfl, hp, hl, k⟩ := t
  refine gx_seq (g1_for PassesOwn.never rfl (ix_tup (ex_var 1 rfl (⟨_, rfl, ⟨fun i ρ' M' => M' = M ∧ firstS l (ps.drop i) = firstS l ps ∧ ∃ x, ρ' = [some (.str (S l)), some (.tup (ps.map D.int)), x], ⟨rfl, rfl, _, rfl⟩, ?hs, ?hd⟩⟩))))
  case hs =>
    rintro i d ρ' M' hd ⟨rfl, hf, x, rfl⟩
    have hi : i < ps.length := by
      by_cases h : i < ps.length
      · exact h
      · rw [List.getElem?_eq_none (by rw [List.length_map]; omega)] at hd; cases hd
    rw [List.getElem?_map, List.getElem?_eq_getElem hi] at hd
    cases hd
    have hq := hp _ (List.getElem_mem hi)
    rw [firstS_drop hi] at hf
    refine as_name 2 (?_) sc_first_state.nd
    refine gx_seq (g1_if (tx_cmp (ca_state_at T (hr.mono (by decide)) (ax_cons (ex_var 0 rfl (ax_cons (ex_var 2 rfl (ax_nil (⟨_, _, rfl, by walk_at "cm", by walk_at "sz", ex_gstr T.g_PASS (od_ne rfl (⟨_, rfl, ⟨fun h => ?_, fun h => ?_⟩⟩))⟩)))))))))
    · rw [lit_P, sceq_S] at h
      have h2 : stp l ps[i] ≠ 80 := by simpa using h
      rw [if_neg h2] at hf
      refine gx_seq (g1_ret (ca_state_at T (hr.mono (by decide)) (ax_cons (ex_var 0 rfl (ax_cons (ex_var 2 rfl (ax_nil (⟨_, _, rfl, by walk_at "cm", by walk_at "sz", ?_⟩))))))))
      rw [hf]
      exact k
    · rw [lit_P, sceq_S] at h
      have h2 : stp l ps[i] = 80 := by simpa using h
      rw [if_pos h2] at hf
      exact gx_nil (gx_nil ⟨rfl, hf, _, rfl⟩)
  case hd =>
    rintro ρ' M' ⟨rfl, hf, x, rfl⟩
    show GX _ _ _ _ _ _
    rw [List.length_map, List.drop_length] at hf
    refine gx_seq (g1_ret (ex_gstr T.g_PASS (?_)))
    rw [← hf] at k
    exact k
theorem ca_first_state {X : Cx} {J : Gh} {e : Expr} {es : List Expr} {ρ : DEnv} {M : Mem} {P : D → Mem → Prop} {pos p : Pos} (T : Txt X.K X.mg) (hr : Room 2 X.A) (h : AX X J (e :: es) ρ M fun ds M1 => tr_first_state (ds ++ []) M1 P) (hg : Gl X "first_state" := by rfl)
    (he : starEach (e :: es) X.env = (false, eval e X.env) :: starEach es X.env := by rfl) (hpl : (backTo pos (starEach es X.env)).any (·.1) = false := by rfl) : EX X J (.Call (.Name "first_state" p) (e :: es) [] pos) ρ M P :=
  ex_call (ok_first_state T) hr T.m_first_state T.d_first_state.choose_spec.kp (T.d_first_state.choose_spec.bindsN fun _ _ _ _ _ _ us hl => match us, hl with | [_, _], _ => rfl) .nil (fun _ => .nil) h hg (by decide) he hpl
/-! ### orders -/
def foS (acc : List Int) (p : Int) : List Int := if acc.getLast? = some 0 then acc else if p ∈ acc then acc else acc ++ [p]
def fo (ps : List Int) : List Int := ps.foldl foS []
theorem fo_stop {acc : List Int} (h : acc.getLast? = some 0) : ∀ ps : List Int, ps.foldl foS acc = acc
  | [] => rfl
  | p :: ps => by rw [List.foldl_cons, show foS acc p = acc from if_pos h]; exact fo_stop h ps
theorem foS_sub {acc : List Int} {p q : Int} (h : q ∈ foS acc p) : q ∈ acc ∨ q = p := by
  unfold foS at h
  split at h
  · exact .inl h
  · split at h
    · exact .inl h
    · simpa using h
theorem fold_sub : ∀ {ps acc : List Int} {q : Int}, q ∈ ps.foldl foS acc → q ∈ acc ∨ q ∈ ps
  | [], _, _, h => .inl h
  | p :: ps, acc, q, h => by
    rcases fold_sub (ps := ps) h with h | h
    · rcases foS_sub h with h | h
      · exact .inl h
      · exact .inr (by rw [h]; exact List.mem_cons_self)
    · exact .inr (List.mem_cons_of_mem _ h)
theorem fo_sub {ps : List Int} {q : Int} (h : q ∈ fo ps) : q ∈ ps := by
  rcases fold_sub h with h | h
  · cases h
  · exact h
theorem foS_len {acc : List Int} {p : Int} : (foS acc p).length ≤ acc.length + 1 := by
  unfold foS
  split
  · omega
  · split
    · omega
    · simp
theorem fold_len : ∀ {ps acc : List Int}, (ps.foldl foS acc).length ≤ acc.length + ps.length
  | [], _ => by simp
  | p :: ps, acc => by
    have h1 := fold_len (ps := ps) (acc := foS acc p)
    have h2 := foS_len (acc := acc) (p := p)
    rw [List.foldl_cons, List.length_cons]
    omega
theorem fo_len {ps : List Int} : (fo ps).length ≤ ps.length := by simpa [fo] using fold_len (ps := ps) (acc := [])
/-- no position twice, 0 at the end alone -/
def Gd (ps : List Int) : Prop := ps.Nodup ∧ ∀ p ∈ ps.dropLast, p ≠ 0
theorem gd_nil : Gd [] := ⟨List.nodup_nil, by simp⟩
theorem gd_app {ps : List Int} {p : Int} (h : Gd (ps ++ [p])) : Gd ps ∧ p ∉ ps ∧ ps.getLast? ≠ some 0 := by
  obtain ⟨h1, h2⟩ := h
  rw [List.dropLast_concat] at h2
  rw [List.nodup_append] at h1
  refine ⟨⟨h1.1, fun q hq => h2 q (List.dropLast_subset _ hq)⟩, fun hp => h1.2.2 p hp p (by simp) rfl, fun e => ?_⟩
  exact h2 0 (List.mem_of_getLast? e) rfl
theorem fo_app {ps qs : List Int} : fo (ps ++ qs) = qs.foldl foS (fo ps) := by unfold fo; rw [List.foldl_append]
theorem fo_gd : ∀ (n : Nat) {ps : List Int}, ps.length = n → Gd ps → fo ps = ps
  | 0, ps, h, _ => by rw [List.eq_nil_of_length_eq_zero h]; rfl
  | n + 1, ps, h, g => by
    have hne : ps ≠ [] := by intro e; subst e; cases h
    have e := (List.dropLast_concat_getLast hne)
    rw [← e] at g
    obtain ⟨g1, g2, g3⟩ := gd_app g
    have ih := fo_gd n (ps := ps.dropLast) (by rw [List.length_dropLast]; omega) g1
    rw [← e, fo_app, ih]
    show foS ps.dropLast _ = _
    unfold foS
    rw [if_neg g3, if_neg g2]
theorem Gd.fo {ps : List Int} (g : Gd ps) : My.fo ps = ps := fo_gd _ rfl g
theorem Gd.take {ps : List Int} (g : Gd ps) (n : Nat) : Gd (ps.take n) := by
  refine ⟨g.1.sublist (List.take_sublist _ _), fun p hp => g.2 p ?_⟩
  rw [List.dropLast_eq_take] at hp ⊢
  rw [List.take_take] at hp
  refine (List.take_sublist_take_left ?_).subset hp
  rw [List.length_take]; omega
theorem foL {acc : List Int} (h : (!(acc.map D.int).isEmpty) = true) : atI (acc.map D.int) (-1) = some (.int (acc.getLast?.getD 0)) := by
  have hl : 0 < acc.length := by
    cases acc with
    | nil => cases h
    | cons a l => exact Nat.zero_lt_succ _
  have e : ixN (acc.map D.int).length (-1) = some (acc.length - 1) := by
    unfold ixN
    rw [List.length_map, if_neg (by decide), if_pos (by omega)]
    congr 1
    omega
  unfold atI
  rw [e]
  show (acc.map D.int)[acc.length - 1]? = _
  rw [List.getElem?_map, List.getLast?_eq_getElem?, List.getElem?_eq_getElem (by omega)]
  rfl
theorem oi0 : ([] : List D) = ([] : List Int).map D.int := rfl
theorem oi1 {a : Int} : [D.int a] = [a].map D.int := rfl
theorem oi2 {a b : Int} : [D.int a, D.int b] = [a, b].map D.int := rfl
theorem oiS {ps qs : List Int} : ps.map D.int ++ (qs.map D.int ++ []) = (ps ++ qs).map D.int := by simp
local macro_rules | `(tactic| walk_at "oi") => `(tactic| first | exact oi0 | exact oi1 | exact oi2 | exact oiS | assumption | rfl)
local macro_rules | `(tactic| walk_at "or") => `(tactic| first | assumption | exact (fun p hp => absurd hp List.not_mem_nil) | (intro p hp; simp only [List.mem_cons, List.not_mem_nil, or_false, false_or] at hp; omega))
def tr_first_ones : Tr := fun ds M P => ∃ ps, ds = [.tup (ps.map D.int)] ∧ (∀ p ∈ ps, 0 ≤ p ∧ p ≤ 24) ∧ ps.length ≤ 1000 ∧ P (.tup ((fo ps).map D.int)) M
theorem len_first_ones {ds M P} (t : tr_first_ones ds M P) : ds.length = 1 := by obtain ⟨_, rfl, _⟩ := t; rfl
theorem ok_first_ones {pg : Program} {w : World} {K : PySem.W.Frag} {mg : Str → Option Value} {base : Heap} (T : Txt K mg) : FnOk pg w K mg base CX0 1 (He.fAd K ("first_ones", none)) T.d_first_ones.choose ["positions"] (SpD K tr_first_ones) :=
  fn_okD T.d_first_ones.choose_spec sc_first_ones (fun ds M P t => len_first_ones t) fun cdv A outer s H ds M P hr t => by
  obtain ⟨ps, rfl, hb, hl, k⟩ := t
  refine gx_seq (g1_asg (ex_lstM (ax_nil (⟨le_b rfl, fun p hp => as_name 1 (?_) sc_first_ones.nd⟩))))
  repeat clear h
  refine gx_seq (g1_for PassesOwn.never rfl (ix_tup (ex_var 0 rfl (⟨_, rfl, ⟨fun i ρ' M' => ∃ x acc, acc = (ps.take i).foldl foS [] ∧ M' = up M p (.lst (acc.map D.int)) ∧ ρ' = [some (.tup (ps.map D.int)), some (.adr p), x], ⟨_, [], rfl, rfl, rfl⟩, ?hs, ?hd⟩⟩))))
  case hs =>
    rintro i d ρ' M' hd ⟨x, acc, ha, rfl, rfl⟩
    have hi : i < ps.length := by
      by_cases h : i < ps.length
      · exact h
      · rw [List.getElem?_eq_none (by rw [List.length_map]; omega)] at hd; cases hd
    rw [List.getElem?_map, List.getElem?_eq_getElem hi] at hd
    cases hd
    have hal : acc.length ≤ i := by
      have := fold_len (ps := ps.take i) (acc := [])
      rw [← ha, List.length_nil, List.length_take] at this
      omega
    have hab : ∀ q ∈ acc, 0 ≤ q ∧ q ≤ 24 := by
      intro q hq
      rw [ha] at hq
      rcases fold_sub hq with h | h
      · cases h
      · exact hb q (List.mem_of_mem_take h)
    have hgd : goods (acc.map D.int) := goods_ints fun q hq => by have := hab q hq; omega
    have hdp : deps (acc.map D.int) ≤ 40 := by rw [deps_ints]; decide
    have hst : (ps.take (i + 1)).foldl foS [] = foS acc ps[i] := by
      rw [List.take_succ, List.getElem?_eq_getElem hi, Option.toList_some, List.foldl_append, ← ha]; rfl
    have hps : ps = ps.take i ++ ps.drop i := (List.take_append_drop i ps).symm
    refine as_name 2 (?_) sc_first_ones.nd
    have hnl : acc.getLast? ≠ some 0 → foS acc ps[i] = if ps[i] ∈ acc then acc else acc ++ [ps[i]] := fun z => if_neg z
    refine gx_seq (g1_if (tx_pw (wx_and (tx_cmp (ex_var 1 rfl (ex_lst (ax_nil (⟨le_b rfl, od_neNilA hr.units (.adr up_same) (by walk_at "gd") (by walk_at "dp") (⟨_, rfl, ⟨fun q1_0b => wx_and1 (tx_cmp (ex_ix (ex_var 1 rfl (ex_neg (ex_int (⟨_, rfl, id_seq (.adr up_same) (foL ‹_›) (ex_int (od_eq rfl (⟨_, rfl, ⟨fun h => ?_, fun h => ?_⟩⟩)))⟩)))))), fun q1_0b => ⟨fun h => (nomatch h), fun h => ?_⟩⟩⟩)⟩))))))))
    · refine gx_seq (g1_break ?_)
      show GX _ _ _ _ _ _
      refine gx_seq (g1_ret (ex_drop (ex_ty T.b_tuple bb_tuple (ax_cons (ex_var 1 rfl (ax_nil (cd_tuple (.adr up_same) (⟨_, _, _, hp, rfl, ?_⟩))))))))
      have h0 : acc.getLast? = some 0 := by
        cases e : acc.getLast? with
        | none =>
          rw [List.getLast?_eq_none_iff] at e
          rw [e] at q1_0b
          cases q1_0b
        | some v => rw [e] at h; simpa [sceq] using h
      have : acc = fo ps := by
        show acc = ps.foldl foS []
        rw [hps, List.foldl_append, ← ha]
        exact (fo_stop h0 _).symm
      rw [this]
      exact k
    all_goals
      have h0 : acc.getLast? ≠ some 0 := by
        intro e
        first
          | (rw [e] at h; simp [sceq] at h)
          | (cases acc with
             | nil => cases e
             | cons a l => simp at q1_0b)
      have hs := hnl h0
      refine gx_nil ?_
      refine gx_seq (g1_if (tx_cmp (ex_var 2 rfl (ex_var 1 rfl (od_notInI (.adr up_same) (by walk_at "mi") (⟨_, rfl, ⟨fun h => ?_, fun h => ?_⟩⟩))))))
      · refine gx_seq (g1_expr (ex_append (ex_var 1 rfl (⟨_, _, rfl, at0.get, ax_cons (ex_var 2 rfl (ax_nil (⟨_, _, _, rfl, at0, by walk_at "sz", ?_⟩)))⟩))))
        have hm : ps[i] ∉ acc := by simpa using h
        refine gx_nil (gx_nil ⟨_, acc ++ [ps[i]], ?_, ?_, rfl⟩)
        · rw [hst, hs, if_neg hm]
        · rw [List.map_append]; rfl
      · have hm : ps[i] ∈ acc := by simpa using h
        refine gx_nil (gx_nil ⟨_, acc, ?_, rfl, rfl⟩)
        rw [hst, hs, if_pos hm]
  case hd =>
    rintro ρ' M' ⟨x, acc, ha, rfl, rfl⟩
    rw [List.length_map, List.take_length] at ha
    show GX _ _ _ _ _ _
    refine gx_seq (g1_ret (ex_drop (ex_ty T.b_tuple bb_tuple (ax_cons (ex_var 1 rfl (ax_nil (cd_tuple (.adr up_same) (⟨_, _, _, hp, rfl, ?_⟩))))))))
    rw [show acc = fo ps from ha]
    exact k
theorem ca_first_ones {X : Cx} {J : Gh} {e : Expr} {es : List Expr} {ρ : DEnv} {M : Mem} {P : D → Mem → Prop} {pos p : Pos} (T : Txt X.K X.mg) (hr : Room 1 X.A) (h : AX X J (e :: es) ρ M fun ds M1 => tr_first_ones (ds ++ []) M1 P) (hg : Gl X "first_ones" := by rfl)
    (he : starEach (e :: es) X.env = (false, eval e X.env) :: starEach es X.env := by rfl) (hpl : (backTo pos (starEach es X.env)).any (·.1) = false := by rfl) : EX X J (.Call (.Name "first_ones" p) (e :: es) [] pos) ρ M P :=
  ex_call (ok_first_ones T) hr T.m_first_ones T.d_first_ones.choose_spec.kp (T.d_first_ones.choose_spec.bindsN fun _ _ _ _ _ _ us hl => match us, hl with | [_], _ => rfl) .nil (fun _ => .nil) h hg (by decide) he hpl
def tr_Order___init__ (C : Addr) : Tr := fun ds M P => ∃ a M0 dr ps, ds = [.adr a, .tup dr] ∧ M = up M0 a (.ins C []) ∧ dr = ps.map D.int ∧ (∀ p ∈ ps, 0 ≤ p ∧ p ≤ 24) ∧ ps.length ≤ 1000 ∧ P .non (up M0 a (.ins C [("entries", .tup ((fo ps).map D.int))]))
theorem len_Order___init__ {C ds M P} (t : tr_Order___init__ C ds M P) : ds.length = 2 := by obtain ⟨_, _, _, _, rfl, _⟩ := t; rfl
theorem ok_Order___init__ {pg : Program} {w : World} {K : PySem.W.Frag} {mg : Str → Option Value} {base : Heap} (T : Txt K mg) : BodyOk pg w K mg base false 1 (He.fAd K ("Order", some "__init__")) "Order.__init__" (defBody s_Order___init__) (defScope s_Order___init__) ["self", "positions", "index", "position"] ["self", "positions"] (tr_Order___init__ (He.ga K "Order")) := fun cdv A outer s H ds M P hgd0 hr t => by
  obtain ⟨a, M0, dr, ps, rfl, rfl, rfl, hb, hl, k⟩ := t
  refine gx_seq (g1_for PassesOwn.never rfl (ix_enumT T.b_enumerate (ax_cons (ex_var 1 rfl (ax_nil (⟨_, rfl, ⟨fun i ρ' M' => M' = up M0 a (.ins (He.ga K "Order") []) ∧ ∃ x y, ρ' = [some (.adr a), some (.tup (ps.map D.int)), x, y], ⟨rfl, _, _, rfl⟩, ?hs, ?hd⟩⟩))))))
  case hs =>
    rintro i d ρ' M' hd ⟨rfl, x, y, rfl⟩
    obtain ⟨d0, h0, rfl⟩ := enumD_at hd
    rw [List.getElem?_map] at h0
    obtain ⟨q, hq, rfl⟩ := Option.map_eq_some_iff.mp h0
    have hq2 := hb q (List.mem_of_getElem? hq)
    refine as_tup rfl rfl (asd_cons (as_name 2 (asd_cons (as_name 3 (asd_nil (?_)) sc_Order___init__.nd)) sc_Order___init__.nd))
    refine gx_seq (g1_if (tx_not (tx_val (ca_is_between T (hr.mono (by decide)) (ax_cons (ex_var 3 rfl (ax_cons (ex_int (ax_cons (ex_con (ex_var 0 rfl (⟨_, _, _, _, _, (.adr up_same), T.cls_Order, T.co_Order_GREATEST.choose_spec, rfl, fun _ => .int _, ax_nil (⟨_, _, _, rfl, by walk_at "pl", ⟨_, rfl, ⟨fun h => ?_, fun h => ?_⟩⟩⟩)⟩))))))))))))
    · rw [btw_in hq2.1 hq2.2] at h; cases h
    · exact gx_nil (gx_nil ⟨rfl, _, _, rfl⟩)
  case hd =>
    rintro ρ' M' ⟨rfl, x, y, rfl⟩
    show GX _ _ _ _ _ _
    refine gx_seq (g1_setFld (ca_first_ones T (hr.mono (by decide)) (ax_cons (ex_var 1 rfl (ax_nil (⟨_, rfl, by walk_at "or", by walk_at "sz", ex_var 0 rfl (⟨_, _, _, rfl, up_same, T.cls_Order, T.no_Order_entries, le_b rfl, ?_⟩)⟩))))))
    refine gx_nil ?_
    rw [up_up]
    exact k
theorem fv_Order___init__ {pg : Program} {w : World} {K : PySem.W.Frag} {mg : Str → Option Value} {base : Heap} (T : Txt K mg) : FnV pg w K mg base false 2 (He.fAd K ("Order", some "__init__")) [] (fun ds zs M2 P => ∃ d0 dr, ds = d0 ++ dr ∧ d0.length = 1 ∧ zs.length = ([] : List PySem.Str).length ∧ dr.length ≤ 1000000 ∧ (false = true → dr = []) ∧ (tr_Order___init__ (He.ga K "Order")) (pick (d0 ++ ([] ++ zs)) [0] ++ [D.tup dr]) M2 P) := fn_starV (pn := ["self"]) (pv := "positions") T.d_Order___init__.choose_spec sc_Order___init__ (ok_Order___init__ T) 1 ([] : List PySem.Str) [] [] [0] (by simp) (fun _ => .nil) D.tup (.inl rfl) false (fun kV D doc pm an cdv ct us rest mv ws e er h1 h2 h3 => match us, rest, mv, ws, h1, h2, h3 with | [_], [], [], [], _, _, _ => rfl | [_], _ :: _, [], [], _, _, _ => rfl) (fun us mv ws h1 h2 h3 => match us, mv, ws, h1, h2, h3 with | [_], [], [], _, _, _ => rfl)
def tr_Order___add__ (C : Addr) : Tr := fun ds M P => ∃ (ps qs : List Int), ds = [.ins C [("entries", .tup (ps.map D.int))], .ins C [("entries", .tup (qs.map D.int))]] ∧ (∀ p ∈ ps, 0 ≤ p ∧ p ≤ 24) ∧ (∀ p ∈ qs, 0 ≤ p ∧ p ≤ 24) ∧ (ps.length ≤ 400 ∧ qs.length ≤ 400) ∧ P (.ins C [("entries", .tup ((fo (ps ++ qs)).map D.int))]) M
theorem len_Order___add__ {C ds M P} (t : tr_Order___add__ C ds M P) : ds.length = 2 := by obtain ⟨_, _, rfl, _⟩ := t; rfl
theorem ok_Order___add__ {pg : Program} {w : World} {K : PySem.W.Frag} {mg : Str → Option Value} {base : Heap} (T : Txt K mg) : BodyOk pg w K mg base false 3 (He.fAd K ("Order", some "__add__")) "Order.__add__" (defBody s_Order___add__) (defScope s_Order___add__) ["self", "other"] ["self", "other"] (tr_Order___add__ (He.ga K "Order")) := fun cdv A outer s H ds M P hgd0 hr t => by
  obtain ⟨ps, qs, rfl, hb, hc, hl, k⟩ := t
  have hbc : ∀ p ∈ ps ++ qs, 0 ≤ p ∧ p ≤ 24 := fun p hp => (List.mem_append.mp hp).elim (hb p) (hc p)
  have hlc : (ps ++ qs).length ≤ 1000 := by rw [List.length_append]; omega
  have hz : (ps.map D.int ++ (qs.map D.int ++ [])).length ≤ 1000000 := by simp; omega
  refine gx_seq (g1_ret (ex_makeS2 T.mk_Order (fv_Order___init__ T) (hr.mono (by decide)) T.g_Order (ax_star (ex_fld (ex_var 0 rfl (⟨_, _, _, .frz, T.cls_Order, T.no_Order_entries, rfl, ⟨_, .tup, ax_star (ex_fld (ex_var 1 rfl (⟨_, _, _, .frz, T.cls_Order, T.no_Order_entries, rfl, ⟨_, .tup, ax_nil (fun a0a h0a => ⟨[_], _, rfl, rfl, rfl, by walk_at "sz", (fun h => nomatch h), ⟨_, _, _, _, rfl, rfl, by walk_at "oi", by walk_at "or", by walk_at "sz", rfl, _, _, h0a, rfl, ?_⟩⟩)⟩⟩)))⟩⟩))))))
  exact k
theorem fv_Order___add__ {pg : Program} {w : World} {K : PySem.W.Frag} {mg : Str → Option Value} {base : Heap} (T : Txt K mg) : FnV pg w K mg base false 4 (He.fAd K ("Order", some "__add__")) [] (fun ds zs M2 P => ds.length = 2 ∧ zs.length = ([] : List PySem.Str).length ∧ (tr_Order___add__ (He.ga K "Order")) (pick (ds ++ ([] ++ zs)) [0, 1]) M2 P) := fn_kwV T.d_Order___add__.choose_spec sc_Order___add__ (ok_Order___add__ T) 2 ([] : List PySem.Str) [] [] [0, 1] (by simp) (fun _ => .nil) (fun kV D doc pm an cdv ct us mv ws e h1 h2 h3 => match us, mv, ws, h1, h2, h3 with | [_, _], [], [], _, _, _ => rfl) (fun us mv ws h1 h2 h3 => match us, mv, ws, h1, h2, h3 with | [_, _], [], [], _, _, _ => rfl)
def tr_Order___call__ (C : Addr) : Tr := fun ds M P => ∃ (l : List Nat) (ps : List Int), ds = [.ins C [("entries", .tup (ps.map D.int))], .str (S l)] ∧ (∀ p ∈ ps, 0 ≤ p ∧ p < (l.length : Int)) ∧ l.length ≤ 1000000 ∧ P (.str (S [firstS l ps])) M
theorem len_Order___call__ {C ds M P} (t : tr_Order___call__ C ds M P) : ds.length = 2 := by obtain ⟨_, _, rfl, _⟩ := t; rfl
theorem ok_Order___call__ {pg : Program} {w : World} {K : PySem.W.Frag} {mg : Str → Option Value} {base : Heap} (T : Txt K mg) : BodyOk pg w K mg base false 2 (He.fAd K ("Order", some "__call__")) "Order.__call__" (defBody s_Order___call__) (defScope s_Order___call__) ["self", "trial"] ["self", "trial"] (tr_Order___call__ (He.ga K "Order")) := fun cdv A outer s H ds M P hgd0 hr t => by
  obtain ⟨l, ps, rfl, hb, hl, k⟩ := t
  refine gx_seq (g1_ret (ca_first_state T (hr.mono (by decide)) (ax_cons (ex_var 1 rfl (ax_cons (ex_fld (ex_var 0 rfl (⟨_, _, _, .frz, T.cls_Order, T.no_Order_entries, rfl, ax_nil (⟨_, _, rfl, by walk_at "fs", by walk_at "sz", ?_⟩)⟩))))))))
  exact k
theorem fv_Order___call__ {pg : Program} {w : World} {K : PySem.W.Frag} {mg : Str → Option Value} {base : Heap} (T : Txt K mg) : FnV pg w K mg base false 3 (He.fAd K ("Order", some "__call__")) [] (fun ds zs M2 P => ds.length = 2 ∧ zs.length = ([] : List PySem.Str).length ∧ (tr_Order___call__ (He.ga K "Order")) (pick (ds ++ ([] ++ zs)) [0, 1]) M2 P) := fn_kwV T.d_Order___call__.choose_spec sc_Order___call__ (ok_Order___call__ T) 2 ([] : List PySem.Str) [] [] [0, 1] (by simp) (fun _ => .nil) (fun kV D doc pm an cdv ct us mv ws e h1 h2 h3 => match us, mv, ws, h1, h2, h3 with | [_, _], [], [], _, _, _ => rfl) (fun us mv ws h1 h2 h3 => match us, mv, ws, h1, h2, h3 with | [_, _], [], [], _, _, _ => rfl)
def tr_Order_positions (C : Addr) : Tr := fun ds M P => ∃ (ps : List Int), ds = [.ins C [("entries", .tup (ps.map D.int))]] ∧ P (.tup (ps.map D.int)) M
theorem len_Order_positions {C ds M P} (t : tr_Order_positions C ds M P) : ds.length = 1 := by obtain ⟨_, rfl, _⟩ := t; rfl
theorem ok_Order_positions {pg : Program} {w : World} {K : PySem.W.Frag} {mg : Str → Option Value} {base : Heap} (T : Txt K mg) : FnOk pg w K mg base CX0 1 (prAd K "Order" "positions").2 T.d_Order_positions.choose ["self"] (SpD K (tr_Order_positions (He.ga K "Order"))) :=
  fn_okD T.d_Order_positions.choose_spec sc_Order_positions (fun ds M P t => len_Order_positions t) fun cdv A outer s H ds M P hr t => by
  obtain ⟨ps, rfl, k⟩ := t
  refine gx_seq (g1_ret (ex_fld (ex_var 0 rfl (⟨_, _, _, .frz, T.cls_Order, T.no_Order_entries, rfl, ?_⟩))))
  exact k

/-! ### lists of ints, mapped and filtered -/
theorem cut_ints {L : List Int} {a b : Option Int} : cutD (L.map D.int) a b = (cutA L a b).map D.int := by
  unfold cutD cutA
  rw [List.length_map, ← List.map_drop, ← List.map_take]
theorem cutA_take {α : Type} {xs : List α} {k : Nat} : cutA xs none (some ((k : Nat) : Int)) = xs.take k := by
  unfold cutA
  rw [HT.sIx_none, HT.sIx_nat, List.drop_zero, Nat.sub_zero]
  rcases Nat.le_total k xs.length with h | h
  · rw [Nat.min_eq_left h]
  · rw [Nat.min_eq_right h, List.take_length, List.take_of_length_le h]
theorem cutA_drop {α : Type} {xs : List α} {k : Nat} : cutA xs (some ((k : Nat) : Int)) none = xs.drop k := by
  unfold cutA
  rw [HT.sIx_none, HT.sIx_nat]
  rcases Nat.le_total k xs.length with h | h
  · rw [Nat.min_eq_left h, List.take_of_length_le (by rw [List.length_drop]; omega)]
  · rw [Nat.min_eq_right h, List.drop_of_length_le (Nat.le_refl _), List.drop_of_length_le h]; simp
theorem cut_map {α : Type} {L : List α} {f : α → D} {a b : Option Int} : cutD (L.map f) a b = (cutA L a b).map f := by
  unfold cutD cutA
  rw [List.length_map, ← List.map_drop, ← List.map_take]
theorem range_getD {α : Type} {l : List α} {x : α} : (List.range l.length).map (fun i => l.getD i x) = l := by
  apply List.ext_getElem
  · simp
  · intro i h1 h2
    rw [List.getElem_map, List.getElem_range, List.getD_eq_getElem?_getD, List.getElem?_eq_getElem h2]; rfl
theorem lcR_of {α : Type} {l : List α} {x : α} {f : α → Bool} {g : α → D} : lcR l.length (fun i => f (l.getD i x)) (fun i => g (l.getD i x)) = (l.filter f).map g := by
  unfold lcR
  have e2 : (l.filter f) = ((List.range l.length).filter fun i => f (l.getD i x)).map (fun i => l.getD i x) := by
    conv => lhs; rw [← range_getD (l := l) (x := x)]
    rw [List.filter_map]; rfl
  rw [e2, List.map_map]; rfl
theorem lcR_mapAll {α : Type} {l : List α} {x : α} {g : α → D} : lcR l.length (fun _ => true) (fun i => g (l.getD i x)) = l.map g := by
  have := lcR_of (l := l) (x := x) (f := fun _ => true) (g := g)
  rwa [List.filter_eq_self.mpr (fun _ _ => rfl)] at this
theorem getD_in {α : Type} {L : List α} {x : α} {i : Nat} (h : i < L.length) : L.getD i x ∈ L := by
  rw [List.getD_eq_getElem?_getD, List.getElem?_eq_getElem h]; exact List.getElem_mem h
theorem map_at {α : Type} {L : List α} {f : α → D} {i : Nat} {d : D} (x : α) (h : (L.map f)[i]? = some d) : i < L.length ∧ d = f (L.getD i x) := by
  rw [List.getElem?_map] at h
  by_cases hi : i < L.length
  · rw [List.getElem?_eq_getElem hi] at h
    rw [List.getD_eq_getElem?_getD, List.getElem?_eq_getElem hi]
    cases h
    exact ⟨hi, rfl⟩
  · rw [List.getElem?_eq_none (by omega)] at h; cases h
theorem all_rng {α : Type} {l : List α} {x : α} {f : α → Bool} : ((((List.range l.length).filter fun _ => true).map fun i => f (l.getD i x)).all id) = l.all f := by
  rw [List.filter_eq_self.mpr (fun _ _ => rfl), List.all_map]
  conv => rhs; rw [← range_getD (l := l) (x := x)]
  rw [List.all_map]; rfl
local macro_rules | `(tactic| walk_at "bl") => `(tactic| exact lcR_bls)
@[reducible] def e0 (r : Bool) : Int := if r = true then 1 else 0
def seenI (l : List Nat) (ps : List Int) : Int := if firstS l ps = 71 then 1 else 0
/-! ### answers that fix an order -/
abbrev Ans := List Nat × Int
def ansD (a : Ans) : D := .tup [.str (S a.1), .int a.2]
def optD : Option Int → D
  | none => .str "end"
  | some q => .int q
def othL (n : Int) (r : Bool) (es : List Int) (p : Nat) : List (Option Int) :=
  if p = es.length ∧ es.getLast? = some 0 then [] else ((upto (e0 r) (n + 1)).filter fun q => !decide (q ∈ es.take (p + 1))).map some ++ (if 0 < p ∧ p < es.length then [none] else [])
def givB (o : Option Int) (t : List Nat) (c : Int) : Bool := match o with
  | none => decide (c = 0)
  | some q => decide (stp t q = 80) || decide (carryS (stp t q) = c)
def leftL (es : List Int) : Nat → List Ans → List Ans
  | 0, A => A
  | p + 1, A => (leftL es p A).filter fun a => decide (stp a.1 (es.getD p 0) = 80)
def fixB (n : Int) (r : Bool) (es : List Int) (A : List Ans) : Bool :=
  A.all (fun a => decide (seenI a.1 es = a.2)) && (List.range (es.length + 1)).all fun p => (othL n r es p).all fun o => !(leftL es p A).all fun a => givB o a.1 a.2
theorem left_sub {es : List Int} {A : List Ans} : ∀ {p : Nat} {a : Ans}, a ∈ leftL es p A → a ∈ A
  | 0, _, h => h
  | _ + 1, _, h => left_sub (List.mem_filter.mp h).1
theorem left_len {es : List Int} {A : List Ans} : ∀ {p : Nat}, (leftL es p A).length ≤ A.length
  | 0 => Nat.le_refl _
  | _ + 1 => Nat.le_trans (List.length_filter_le _ _) left_len
def AnsOk (n : Int) (A : List Ans) : Prop := ∀ a ∈ A, (a.1.length : Int) = n + 1
local macro_rules | `(tactic| walk_at "ne") => `(tactic| assumption)
local macro_rules | `(tactic| walk_at "gv") => `(tactic| assumption)
local macro_rules | `(tactic| walk_at "mi") => `(tactic| first | assumption | rfl)
def tr_others_at : Tr := fun ds M P => ∃ (n : Int) (r : Bool) (es : List Int) (p : Nat), ds = [.int n, .bl r, .tup (es.map D.int), .int (p : Int)] ∧ (1 ≤ n ∧ n ≤ 1000) ∧ es ≠ [] ∧ es.length ≤ 1000 ∧ p ≤ es.length ∧ P (.lst ((othL n r es p).map optD)) M
theorem len_others_at {ds M P} (t : tr_others_at ds M P) : ds.length = 4 := by obtain ⟨_, _, _, _, rfl, _⟩ := t; rfl
theorem ok_others_at {pg : Program} {w : World} {K : PySem.W.Frag} {mg : Str → Option Value} {base : Heap} (T : Txt K mg) : FnOk pg w K mg base CX0 2 (He.fAd K ("others_at", none)) T.d_others_at.choose ["n", "ring", "entries", "place"] (SpD K tr_others_at) :=
  fn_okD T.d_others_at.choose_spec sc_others_at (fun ds M P t => len_others_at t) fun cdv A outer s H ds M P hr t => by
  obtain ⟨n, r, es, p, rfl, hn, hes, hl, hp, k⟩ := t
  have hne : (!(es.map D.int).isEmpty) = true := by
    cases es with
    | nil => exact absurd rfl hes
    | cons a l => rfl
  have hlast : ∃ z, es.getLast? = some z := ⟨_, List.getLast?_eq_some_getLast hes⟩
  obtain ⟨z, hz⟩ := hlast
  have hq : sceq (.int (es.getLast?.getD 0)) (.int 0) = decide (es.getLast? = some 0) := by
    rw [hz]; show decide (z = 0) = _; simp
  have hp2 : sceq (.int (p : Int)) (.int ((es.map D.int).length : Int)) = decide (p = es.length) := by
    rw [List.length_map]
    show decide _ = _
    exact decide_eq_decide.mpr ⟨fun h => by omega, fun h => by omega⟩
  refine gx_seq (g1_mid (fun ρ' M' => (¬ (p = es.length ∧ es.getLast? = some 0)) ∧ M' = M ∧ ρ' = [some (.int n), some (.bl r), some (.tup (es.map D.int)), some (.int (p : Int)), none, none]) (g1_if (tx_pw (wx_and (tx_cmp (ex_var 3 rfl (ex_blt T.b_len bb_len (ax_cons (ex_var 2 rfl (ax_nil (cd_len .tup (od_eq rfl (⟨_, rfl, ⟨fun q0b => wx_and1 (tx_cmp (ex_ix (ex_var 2 rfl (ex_neg (ex_int (⟨_, rfl, id_seq .tup ((foL hne)) (ex_int (od_eq rfl (⟨_, rfl, ⟨fun h => ?_, fun h => ?_⟩⟩)))⟩)))))), fun q0b => ⟨fun h => (nomatch h), fun h => ?_⟩⟩⟩)))))))))))) ?_)
  · rw [hp2] at q0b
    rw [hq] at h
    refine gx_seq (g1_ret (ex_lst (ax_nil (⟨le_b rfl, ?_⟩))))
    unfold othL at k
    rw [if_pos ⟨of_decide_eq_true q0b, of_decide_eq_true h⟩] at k
    exact k
  · rw [hq] at h
    exact gx_nil ⟨fun z => of_decide_eq_false h z.2, rfl, rfl⟩
  · rw [hp2] at q0b
    exact gx_nil ⟨fun z => of_decide_eq_false q0b z.1, rfl, rfl⟩
  · rintro ρ' M' ⟨hn2, rfl, rfl⟩
    show GX _ _ _ _ _ _
    unfold othL at k
    rw [if_neg hn2] at k
    obtain ⟨U, hU⟩ : ∃ U, U = upto (e0 r) (n + 1) := ⟨_, rfl⟩
    have hUl : U.length ≤ 1001 := by
      rw [hU, upto_len]
      have : 0 ≤ e0 r := by unfold e0; split <;> decide
      omega
    have hU2 : upto (if r = true then 1 else 0) (n + 1) = U := hU.symm
    have hct : cutD (es.map D.int) none (some ((p : Int) + 1)) = (es.take (p + 1)).map D.int := by
      rw [cut_ints, ← cutA_take (k := p + 1)]; rfl
    have hzU : (((upto (if r = true then 1 else 0) (n + 1))).map D.int).length ≤ 1000000 := by rw [hU2, List.length_map]; omega
    refine gx_seq (g1_lc (own := [("position", 5)]) (hN := sc_others_at.nd) 4 rfl (ix_tup (ca_output_positions T (hr.mono (by decide)) (ax_cons (ex_var 0 rfl (ax_cons (ex_var 1 rfl (ax_nil (⟨_, _, rfl, by walk_at "cm", ⟨_, rfl, lcI (fun i => D.int (U.getD i 0)) (fun i => !decide (U.getD i 0 ∈ es.take (p + 1))) ?lc1a (by walk_at "sz") (?_)⟩⟩)))))))))
    case lc1a =>
      intro i d acc Dl hd hi hD
      rw [hU2] at hd
      obtain ⟨hi2, rfl⟩ := map_at 0 hd
      refine asb_name 5 (txb_one fun _ _ _ _ _ => tx_cmp (ex_var 5 rfl (ex_slice (ex_var 2 rfl (ox_none (ox_some (ex_bin (ex_var 3 rfl (ex_int (od_add (⟨_, rfl, sd_tupA (od_notInI .tup (by walk_at "mi") (⟨_, rfl, ⟨rfl, rfl, fun ht => fun _ _ _ _ _ => ex_var 5 rfl (⟨rfl, rfl⟩)⟩⟩))⟩))))))))))) (hN := sc_others_at.nd)
    rw [hU2, List.length_map, lcR_of (l := U) (x := 0) (f := fun q => !decide (q ∈ es.take (p + 1))) (g := D.int)]
    rw [← hU] at k
    have hfl := List.length_filter_le (fun q => !decide (q ∈ es.take (p + 1))) U
    generalize U.filter (fun q => !decide (q ∈ es.take (p + 1))) = W at *
    have hrep : ∀ b : Bool, [D.str "end"].length * (if b = true then (1 : Int) else 0).toNat ≤ 1000000 ∧ (W.map D.int).length + (List.replicate (if b = true then (1 : Int) else 0).toNat [D.str "end"]).flatten.length ≤ 1000000 := by
      intro b; rw [List.length_map]; cases b <;> simp <;> omega
    have hr1 := (hrep (decide ((p : Int) < ((es.map D.int).length : Int)))).1
    have hr2 := (hrep (decide ((p : Int) < ((es.map D.int).length : Int)))).2
    have hr3 := (hrep false).1
    have hr4 := (hrep false).2
    have eW : W.map D.int = (W.map some).map optD := by rw [List.map_map]; rfl
    refine gx_seq (g1_ret (ex_bin (ex_var 4 rfl (ex_bin (ex_lst (ax_cons (ex_gstr T.g_END (ax_nil (⟨le_b rfl, ex_ty T.b_int bb_int (ax_cons (ex_chain (ex_int (ex_var 3 rfl (od_lt (⟨_, rfl, fun q2a => ex_blt T.b_len bb_len (ax_cons (ex_var 2 rfl (ax_nil (cd_len .tup (od_lt (ax_nil (cd_intB (od_mulL .lst (by walk_at "cm") (by walk_at "sz") (od_addL .lst .lst (by walk_at "sz") (?_)))))))))), fun q2a => ax_nil (cd_intB (od_mulL .lst (by walk_at "cm") (by walk_at "sz") (od_addL .lst .lst (by walk_at "sz") (?_))))⟩))))))⟩)))))))))
    · rw [List.length_map] at *
      rw [eW]
      have h0 : 0 < p := by have := of_decide_eq_true q2a; omega
      by_cases h1 : p < es.length
      · rw [if_pos ⟨h0, h1⟩, List.map_append] at k
        have : decide ((p : Int) < (es.length : Int)) = true := decide_eq_true (by omega)
        rw [this]
        exact k
      · rw [if_neg (fun z => h1 z.2), List.append_nil] at k
        have : decide ((p : Int) < (es.length : Int)) = false := decide_eq_false (by omega)
        rw [this]
        show P (.lst (_ ++ [])) _
        rw [List.append_nil]
        exact k
    · rw [eW]
      have h0 : ¬ 0 < p := by have := of_decide_eq_false q2a; omega
      rw [if_neg (fun z => h0 z.1), List.append_nil] at k
      show P (.lst (_ ++ [])) _
      rw [List.append_nil]
      exact k
theorem ca_others_at {X : Cx} {J : Gh} {e : Expr} {es : List Expr} {ρ : DEnv} {M : Mem} {P : D → Mem → Prop} {pos p : Pos} (T : Txt X.K X.mg) (hr : Room 2 X.A) (h : AX X J (e :: es) ρ M fun ds M1 => tr_others_at (ds ++ []) M1 P) (hg : Gl X "others_at" := by rfl)
    (he : starEach (e :: es) X.env = (false, eval e X.env) :: starEach es X.env := by rfl) (hpl : (backTo pos (starEach es X.env)).any (·.1) = false := by rfl) : EX X J (.Call (.Name "others_at" p) (e :: es) [] pos) ρ M P :=
  ex_call (ok_others_at T) hr T.m_others_at T.d_others_at.choose_spec.kp (T.d_others_at.choose_spec.bindsN fun _ _ _ _ _ _ us hl => match us, hl with | [_, _, _, _], _ => rfl) .nil (fun _ => .nil) h hg (by decide) he hpl
def tr_is_given : Tr := fun ds M P => ∃ (o : Option Int) (t : List Nat) (c : Int), ds = [optD o, .str (S t), .int c] ∧ (∀ q, o = some q → 0 ≤ q ∧ q < (t.length : Int)) ∧ t.length ≤ 1000000 ∧ P (.bl (givB o t c)) M
theorem len_is_given {ds M P} (t : tr_is_given ds M P) : ds.length = 3 := by obtain ⟨_, _, _, rfl, _⟩ := t; rfl
theorem ok_is_given {pg : Program} {w : World} {K : PySem.W.Frag} {mg : Str → Option Value} {base : Heap} (T : Txt K mg) : FnOk pg w K mg base CX0 2 (He.fAd K ("is_given", none)) T.d_is_given.choose ["option", "trial", "carry"] (SpD K tr_is_given) :=
  fn_okD T.d_is_given.choose_spec sc_is_given (fun ds M P t => len_is_given t) fun cdv A outer s H ds M P hr t => by
  obtain ⟨o, t, c, rfl, ho, hl, k⟩ := t
  cases o with
  | none =>
    refine gx_seq (g1_if (tx_cmp (ex_var 0 rfl (ex_gstr T.g_END (od_eq rfl (⟨_, rfl, ⟨fun h => ?_, fun h => ?_⟩⟩))))))
    · refine gx_seq (g1_ret (ex_cmp (ex_var 2 rfl (ex_int (od_eq rfl (?_))))))
      exact k
    · exact absurd h (by simp [sceq, optD])
  | some q =>
    have hq := ho q rfl
    refine gx_seq (g1_if (tx_cmp (ex_var 0 rfl (ex_gstr T.g_END (od_eq rfl (⟨_, rfl, ⟨fun h => ?_, fun h => ?_⟩⟩))))))
    · exact absurd h (by simp [sceq, optD])
    refine gx_nil ?_
    repeat clear h
    refine gx_seq (g1_asg (ca_state_at T (hr.mono (by decide)) (ax_cons (ex_var 1 rfl (ax_cons (ex_var 0 rfl (ax_nil (⟨_, _, rfl, by walk_at "cm", by walk_at "sz", as_name 3 (?_) sc_is_given.nd⟩))))))))
    refine gx_seq (g1_ret (ex_or (ex_cmp (ex_var 3 rfl (ex_gstr T.g_PASS (od_eq rfl (⟨_, rfl, fun q2a => ex_one (ex_cmp (ca_carry_of T (hr.mono (by decide)) (ax_cons (ex_var 3 rfl (ax_nil (⟨_, rfl, ex_var 2 rfl (od_eq rfl (?_))⟩)))))), fun q2a => ?_⟩)))))))
    · rw [lit_P, sceq_S] at q2a
      have e : givB (some q) t c = decide (carryS (stp t q) = c) := by unfold givB; simp at q2a; simp [q2a]
      rw [e] at k
      exact k
    · rw [lit_P, sceq_S] at q2a
      have e : givB (some q) t c = true := by unfold givB; have := of_decide_eq_true q2a; simp at this; simp [this]
      rw [e] at k
      exact k
theorem ca_is_given {X : Cx} {J : Gh} {e : Expr} {es : List Expr} {ρ : DEnv} {M : Mem} {P : D → Mem → Prop} {pos p : Pos} (T : Txt X.K X.mg) (hr : Room 2 X.A) (h : AX X J (e :: es) ρ M fun ds M1 => tr_is_given (ds ++ []) M1 P) (hg : Gl X "is_given" := by rfl)
    (he : starEach (e :: es) X.env = (false, eval e X.env) :: starEach es X.env := by rfl) (hpl : (backTo pos (starEach es X.env)).any (·.1) = false := by rfl) : EX X J (.Call (.Name "is_given" p) (e :: es) [] pos) ρ M P :=
  ex_call (ok_is_given T) hr T.m_is_given T.d_is_given.choose_spec.kp (T.d_is_given.choose_spec.bindsN fun _ _ _ _ _ _ us hl => match us, hl with | [_, _, _], _ => rfl) .nil (fun _ => .nil) h hg (by decide) he hpl
theorem ansD_at {A : List Ans} {i : Nat} {d : D} (h : (A.map ansD)[i]? = some d) : i < A.length ∧ d = .tup [.str (S (A.getD i ([], 0)).1), .int (A.getD i ([], 0)).2] := map_at ([], 0) h
theorem oth_b {n : Int} {r : Bool} {es : List Int} {p : Nat} {q : Int} (h : some q ∈ othL n r es p) : e0 r ≤ q ∧ q < n + 1 := by
  unfold othL at h
  split at h
  · cases h
  rw [List.mem_append] at h
  rcases h with h | h
  · obtain ⟨q2, h2, e⟩ := List.mem_map.mp h
    cases e
    exact upto_mem (List.mem_filter.mp h2).1
  · split at h
    · simp at h
    · cases h
def tr_fixes (C : Addr) : Tr := fun ds M P => ∃ (n : Int) (r : Bool) (es : List Int) (As : List Ans) (dA : D), ds = [.int n, .ins C [("entries", .tup (es.map D.int))], dA, .bl r] ∧ (dA = .lst (As.map ansD) ∨ dA = .tup (As.map ansD)) ∧ es ≠ [] ∧ Gd es ∧ (∀ p ∈ es, e0 r ≤ p ∧ p ≤ n) ∧ (1 ≤ n ∧ n ≤ 1000) ∧ AnsOk n As ∧ (es.length ≤ 1000 ∧ As.length ≤ 1000) ∧ P (.bl (fixB n r es As)) M
local macro_rules | `(tactic| walk_at "an") => `(tactic| first | exact .inl rfl | exact .inr rfl)
local macro_rules | `(tactic| walk_at "ao") => `(tactic| assumption)
theorem ok_fixes {pg : Program} {w : World} {K : PySem.W.Frag} {mg : Str → Option Value} {base : Heap} (T : Txt K mg) : BodyOk pg w K mg base false 3 (He.fAd K ("fixes", none)) "fixes" (defBody s_fixes) (defScope s_fixes) ["n", "order", "answers", "ring", "entries", "left", "place", "option", "trial", "carry"] ["n", "order", "answers", "ring"] (tr_fixes (He.ga K "Order")) := fun cdv A outer s H ds M P hgd0 hr t => by
  obtain ⟨n, r, es, As, dA, rfl, hdA, hes, gd, hb, hn, hA, hl, k⟩ := t
  have h0r : 0 ≤ e0 r := by unfold e0; split <;> decide
  have hfit : ∀ a ∈ As, ∀ p ∈ es, 0 ≤ p ∧ p < (a.1.length : Int) := fun a ha p hp => by have := hb p hp; have := hA a ha; omega
  have hAz : (As.map ansD).length ≤ 1000000 := by rw [List.length_map]; omega
  rcases hdA with rfl | rfl
  · refine gx_seq (g1_if (tx_not (tx_val (ex_blt T.b_all bb_all (ax_cons (ex_lc (own := [("trial", 8), ("carry", 9)]) (hN := sc_fixes.nd) rfl (ix_lst (ex_var 2 rfl (⟨_, rfl, lcI (fun i => D.bl (decide (seenI (As.getD i ([], 0)).1 es = (As.getD i ([], 0)).2))) (fun _ => true) ?lc0b (by walk_at "sz") (ax_nil (cd_allE rfl .lst (by walk_at "bl") (⟨_, rfl, ⟨fun h => ?_, fun h => ?_⟩⟩)))⟩)))))))))
    case lc0b =>
      intro i d acc Dl hd hi hD
      obtain ⟨hi2, rfl⟩ := ansD_at hd
      have ha := getD_in (x := (([], 0) : Ans)) hi2
      have hft := hfit _ ha
      have hal := hA _ ha
      have haz : (As.getD i ([], 0)).1.length ≤ 1000000 := by omega
      refine asb_tup rfl (asb_cons (asb_name 8 (asb_cons (asb_name 9 (asb_nil (txb_nil ⟨rfl, rfl, fun _ => fun _ _ _ _ _ => ex_cmp (ex_ty T.b_int bb_int (ax_cons (ex_cmp (ex_callO T.co_Order (fv_Order___call__ T) (hr.mono (by decide)) (ex_var 1 rfl (⟨⟨_, .frz⟩, ax_cons (ex_var 8 rfl (ax_nil (⟨_, .frz, rfl, rfl, ⟨_, _, rfl, by walk_at "fs", by walk_at "sz", ex_gstr T.g_GENERATE (od_eq rfl (ax_nil (cd_intB (ex_var 9 rfl (od_eq rfl (⟨?_, rfl⟩))))))⟩⟩)))⟩))))))⟩)) (hN := sc_fixes.nd))) (hN := sc_fixes.nd)))
      congr 1
      rw [lit_G, sceq_S]
      show decide ((if decide ([firstS (As.getD i ([], 0)).1 es] = [71]) = true then (1 : Int) else 0) = (As.getD i ([], 0)).2) = _
      congr 2
      unfold seenI
      by_cases z : firstS (As.getD i ([], 0)).1 es = 71 <;> simp [z]
    · rw [List.length_map, all_rng (l := As) (x := ([], 0)) (f := fun a => decide (seenI a.1 es = a.2))] at h
      have h : (As.all fun a => decide (seenI a.1 es = a.2)) = false := by simpa only [Bool.not_eq_true'] using h
      have e : fixB n r es As = false := by unfold fixB; rw [h]; rfl
      rw [e] at k
      refine gx_seq (g1_ret (ex_bl (?_)))
      exact k
    rw [List.length_map, all_rng (l := As) (x := ([], 0)) (f := fun a => decide (seenI a.1 es = a.2))] at h
    have h : (As.all fun a => decide (seenI a.1 es = a.2)) = true := by simpa using h
    have e : fixB n r es As = (List.range (es.length + 1)).all fun p => (othL n r es p).all fun o => !(leftL es p As).all fun a => givB o a.1 a.2 := by unfold fixB; rw [h]; rfl
    rw [e] at k
    clear h e
    refine gx_nil ?_
    refine gx_seq (g1_asg (ex_prop T.cls_Order T.pr_Order_positions (ok_Order_positions T) (hr.mono (by decide)) (T.d_Order_positions.choose_spec.bindsN fun _ _ _ _ _ _ us hl => match us, hl with | [_], _ => rfl) (ex_var 1 rfl (⟨_, .frz, ⟨_, rfl, as_name 4 (?_) sc_fixes.nd⟩⟩))))
    refine gx_seq (g1_asg (ex_ty T.b_list bb_list (ax_cons (ex_var 2 rfl (ax_nil (cd_list .lst (as_name 5 (?_) sc_fixes.nd)))))))
    have hel : ((es.map D.int).length : Int) = (es.length : Int) := by rw [List.length_map]
    refine gx_seq (g1_for PassesOwn.never rfl (ix_range1 T.b_range (ax_cons (ex_bin (ex_blt T.b_len bb_len (ax_cons (ex_var 4 rfl (ax_nil (cd_len .tup (ex_int (od_add (ax_nil (⟨_, rfl, by walk_at "cm", ⟨fun i ρ' M' => M' = M ∧ (∀ p, p < i → ((othL n r es p).all fun o => !(leftL es p As).all fun a => givB o a.1 a.2) = true) ∧ ∃ x y z w, ρ' = [some (.int n), some (.ins (He.ga K "Order") [("entries", .tup (es.map D.int))]), some (.lst (As.map ansD)), some (.bl r), some (.tup (es.map D.int)), some (.lst ((leftL es (min i es.length) As).map ansD)), x, y, z, w], ⟨rfl, fun p hp => absurd hp (Nat.not_lt_zero _), _, _, _, _, rfl⟩, ?hs, ?hd⟩⟩)))))))))))))
    case hs =>
      rintro p d ρ' M' hd ⟨rfl, hbe, x, y, z, w, rfl⟩
      obtain ⟨hp, rfl⟩ := rngD_at hd
      have hp2 : p ≤ es.length := by omega
      have hll := left_len (es := es) (A := As) (p := p)
      have hLA : ∀ a ∈ leftL es p As, a ∈ As := fun a ha => left_sub ha
      have hstep : leftL es (p + 1) As = (leftL es p As).filter fun a => decide (stp a.1 (es.getD p 0) = 80) := rfl
      rw [Nat.min_eq_left hp2, Int.zero_add]
      generalize hL : leftL es p As = L at *
      have hLz : (L.map ansD).length ≤ 1000000 := by rw [List.length_map]; omega
      refine as_name 6 (?_) sc_fixes.nd
      refine gx_seq (g1_for PassesOwn.never rfl (ix_lst (ca_others_at T (hr.mono (by decide)) (ax_cons (ex_var 0 rfl (ax_cons (ex_var 3 rfl (ax_cons (ex_var 4 rfl (ax_cons (ex_var 6 rfl (ax_nil (⟨_, _, _, _, rfl, by walk_at "cm", by walk_at "ne", by walk_at "sz", by walk_at "cm", ⟨_, rfl, ⟨fun j ρ' M2 => M2 = M' ∧ (((othL n r es p).take j).all fun o => !L.all fun a => givB o a.1 a.2) = true ∧ ∃ y z w, ρ' = [some (.int n), some (.ins (He.ga K "Order") [("entries", .tup (es.map D.int))]), some (.lst (As.map ansD)), some (.bl r), some (.tup (es.map D.int)), some (.lst (L.map ansD)), some (.int (p : Int)), y, z, w], ⟨rfl, rfl, _, _, _, rfl⟩, ?hs2, ?hd2⟩⟩⟩)))))))))))))
      case hs2 =>
        rintro j d ρ' M2 hd ⟨rfl, hbj, y, z, w, rfl⟩
        rw [List.getElem?_map] at hd
        obtain ⟨o, ho, rfl⟩ := Option.map_eq_some_iff.mp hd
        have hom := List.mem_of_getElem? ho
        have hj := (List.getElem?_eq_some_iff.mp ho).1
        refine as_name 7 (?_) sc_fixes.nd
        refine gx_seq (g1_if (tx_val (ex_blt T.b_all bb_all (ax_cons (ex_lc (own := [("trial", 8), ("carry", 9)]) (hN := sc_fixes.nd) rfl (ix_lst (ex_var 5 rfl (⟨_, rfl, lcI (fun i => D.bl (givB o (L.getD i ([], 0)).1 (L.getD i ([], 0)).2)) (fun _ => true) ?lc3_0_0b (by walk_at "sz") (ax_nil (cd_allE rfl .lst (by walk_at "bl") (⟨_, rfl, ⟨fun h => ?_, fun h => ?_⟩⟩)))⟩))))))))
        case lc3_0_0b =>
          intro i d acc Dl hd hi hD
          obtain ⟨hi2, rfl⟩ := ansD_at hd
          have ha := hLA _ (getD_in (x := (([], 0) : Ans)) hi2)
          have hal := hA _ ha
          have haz : (L.getD i ([], 0)).1.length ≤ 1000000 := by omega
          have hgv : ∀ q, o = some q → 0 ≤ q ∧ q < ((L.getD i ([], 0)).1.length : Int) := fun q e => by
            have := oth_b (e ▸ hom); omega
          refine asb_tup rfl (asb_cons (asb_name 8 (asb_cons (asb_name 9 (asb_nil (txb_nil ⟨rfl, rfl, fun _ => fun _ _ _ _ _ => ca_is_given T (hr.mono (by decide)) (ax_cons (ex_var 7 rfl (ax_cons (ex_var 8 rfl (ax_cons (ex_var 9 rfl (ax_nil (⟨_, _, _, rfl, by walk_at "gv", by walk_at "sz", ⟨rfl, rfl⟩⟩))))))))⟩)) (hN := sc_fixes.nd))) (hN := sc_fixes.nd)))
        · rw [List.length_map, all_rng (l := L) (x := ([], 0)) (f := fun a => givB o a.1 a.2)] at h
          have e : ((List.range (es.length + 1)).all fun p => (othL n r es p).all fun o => !(leftL es p As).all fun a => givB o a.1 a.2) = false := by
            rw [List.all_eq_false]
            refine ⟨p, List.mem_range.mpr (by omega), ?_⟩
            rw [Bool.not_eq_true, List.all_eq_false]
            exact ⟨o, hom, by rw [hL, h]; decide⟩
          rw [e] at k
          refine gx_seq (g1_ret (ex_bl (?_)))
          exact k
        · rw [List.length_map, all_rng (l := L) (x := ([], 0)) (f := fun a => givB o a.1 a.2)] at h
          refine gx_nil (gx_nil ⟨rfl, ?_, _, _, _, rfl⟩)
          rw [List.take_succ, ho, List.all_append, hbj]
          simp [h]
      case hd2 =>
        rintro ρ' M2 ⟨rfl, hbj, y, z, w, rfl⟩
        rw [List.length_map, List.take_length] at hbj
        show GX _ _ _ _ _ _
        have hnew : ∀ q, q < p + 1 → ((othL n r es q).all fun o => !(leftL es q As).all fun a => givB o a.1 a.2) = true := fun q hq => by
          by_cases e : q = p
          · subst e; rw [hL]; exact hbj
          · exact hbe q (by omega)
        refine gx_seq (g1_if (tx_cmp (ex_var 6 rfl (ex_blt T.b_len bb_len (ax_cons (ex_var 4 rfl (ax_nil (cd_len .tup (od_lt (⟨_, rfl, ⟨fun h => ?_, fun h => ?_⟩⟩))))))))))
        · have hpl : p < es.length := by have := of_decide_eq_true h; omega
          have hpe : e0 r ≤ es.getD (p : Int).toNat 0 ∧ es.getD (p : Int).toNat 0 ≤ n := by rw [Int.toNat_natCast]; exact hb _ (getD_in (x := (0 : Int)) hpl)
          refine gx_seq (g1_lc (own := [("trial", 8), ("carry", 9)]) (hN := sc_fixes.nd) 5 rfl (ix_lst (ex_var 5 rfl (⟨_, rfl, lcI (fun i => ansD (L.getD i ([], 0))) (fun i => decide (stp (L.getD i ([], 0)).1 (es.getD p 0) = 80)) ?lc3_1_0a (by walk_at "sz") (?_)⟩))))
          case lc3_1_0a =>
            intro i d acc Dl hd hi hD
            obtain ⟨hi2, rfl⟩ := ansD_at hd
            have ha := hLA _ (getD_in (x := (([], 0) : Ans)) hi2)
            have hal := hA _ ha
            have haz : (L.getD i ([], 0)).1.length ≤ 1000000 := by omega
            refine asb_tup rfl (asb_cons (asb_name 8 (asb_cons (asb_name 9 (asb_nil (txb_one fun _ _ _ _ _ => tx_cmp (ca_state_at T (hr.mono (by decide)) (ax_cons (ex_var 8 rfl (ax_cons (ex_ix (ex_var 4 rfl (ex_var 6 rfl (id_seq .tup ((atI_ints (by omega) (by omega))) (ax_nil (⟨_, _, rfl, by walk_at "cm", by walk_at "sz", ex_gstr T.g_PASS (od_eq rfl (⟨_, rfl, ⟨?_, rfl, fun ht => fun _ _ _ _ _ => ex_tup (ax_cons (ex_var 8 rfl (ax_cons (ex_var 9 rfl (ax_nil (⟨le_b rfl, ⟨rfl, rfl⟩⟩))))))⟩⟩))⟩)))))))))))) (hN := sc_fixes.nd))) (hN := sc_fixes.nd)))
            rw [lit_P, sceq_S, Int.toNat_natCast]
            simp
          rw [List.length_map, lcR_of (l := L) (x := ([], 0)) (f := fun a => decide (stp a.1 (es.getD p 0) = 80)) (g := ansD), ← hstep, show leftL es (p + 1) As = leftL es (min (p + 1) es.length) As by rw [Nat.min_eq_left (by omega)]]
          exact gx_nil (gx_nil ⟨rfl, hnew, _, _, _, _, rfl⟩)
        · have hpl : ¬ p < es.length := by have := of_decide_eq_false h; omega
          have e : L = leftL es (min (p + 1) es.length) As := by rw [show min (p + 1) es.length = p by omega, hL]
          rw [e]
          exact gx_nil (gx_nil ⟨rfl, hnew, _, _, _, _, rfl⟩)
    case hd =>
      rintro ρ' M' ⟨rfl, hbe, x, y, z, w, rfl⟩
      show GX _ _ _ _ _ _
      refine gx_seq (g1_ret (ex_bl (?_)))
      have e : ((List.range (es.length + 1)).all fun p => (othL n r es p).all fun o => !(leftL es p As).all fun a => givB o a.1 a.2) = true := by
        rw [List.all_eq_true]
        intro p hp
        refine hbe p ?_
        have := List.mem_range.mp hp
        rw [rngD_len]
        omega
      rw [e] at k
      exact k
  · refine gx_seq (g1_if (tx_not (tx_val (ex_blt T.b_all bb_all (ax_cons (ex_lc (own := [("trial", 8), ("carry", 9)]) (hN := sc_fixes.nd) rfl (ix_tup (ex_var 2 rfl (⟨_, rfl, lcI (fun i => D.bl (decide (seenI (As.getD i ([], 0)).1 es = (As.getD i ([], 0)).2))) (fun _ => true) ?lc0b (by walk_at "sz") (ax_nil (cd_allE rfl .lst (by walk_at "bl") (⟨_, rfl, ⟨fun h => ?_, fun h => ?_⟩⟩)))⟩)))))))))
    case lc0b =>
      intro i d acc Dl hd hi hD
      obtain ⟨hi2, rfl⟩ := ansD_at hd
      have ha := getD_in (x := (([], 0) : Ans)) hi2
      have hft := hfit _ ha
      have hal := hA _ ha
      have haz : (As.getD i ([], 0)).1.length ≤ 1000000 := by omega
      refine asb_tup rfl (asb_cons (asb_name 8 (asb_cons (asb_name 9 (asb_nil (txb_nil ⟨rfl, rfl, fun _ => fun _ _ _ _ _ => ex_cmp (ex_ty T.b_int bb_int (ax_cons (ex_cmp (ex_callO T.co_Order (fv_Order___call__ T) (hr.mono (by decide)) (ex_var 1 rfl (⟨⟨_, .frz⟩, ax_cons (ex_var 8 rfl (ax_nil (⟨_, .frz, rfl, rfl, ⟨_, _, rfl, by walk_at "fs", by walk_at "sz", ex_gstr T.g_GENERATE (od_eq rfl (ax_nil (cd_intB (ex_var 9 rfl (od_eq rfl (⟨?_, rfl⟩))))))⟩⟩)))⟩))))))⟩)) (hN := sc_fixes.nd))) (hN := sc_fixes.nd)))
      congr 1
      rw [lit_G, sceq_S]
      show decide ((if decide ([firstS (As.getD i ([], 0)).1 es] = [71]) = true then (1 : Int) else 0) = (As.getD i ([], 0)).2) = _
      congr 2
      unfold seenI
      by_cases z : firstS (As.getD i ([], 0)).1 es = 71 <;> simp [z]
    · rw [List.length_map, all_rng (l := As) (x := ([], 0)) (f := fun a => decide (seenI a.1 es = a.2))] at h
      have h : (As.all fun a => decide (seenI a.1 es = a.2)) = false := by simpa only [Bool.not_eq_true'] using h
      have e : fixB n r es As = false := by unfold fixB; rw [h]; rfl
      rw [e] at k
      refine gx_seq (g1_ret (ex_bl (?_)))
      exact k
    rw [List.length_map, all_rng (l := As) (x := ([], 0)) (f := fun a => decide (seenI a.1 es = a.2))] at h
    have h : (As.all fun a => decide (seenI a.1 es = a.2)) = true := by simpa using h
    have e : fixB n r es As = (List.range (es.length + 1)).all fun p => (othL n r es p).all fun o => !(leftL es p As).all fun a => givB o a.1 a.2 := by unfold fixB; rw [h]; rfl
    rw [e] at k
    clear h e
    refine gx_nil ?_
    refine gx_seq (g1_asg (ex_prop T.cls_Order T.pr_Order_positions (ok_Order_positions T) (hr.mono (by decide)) (T.d_Order_positions.choose_spec.bindsN fun _ _ _ _ _ _ us hl => match us, hl with | [_], _ => rfl) (ex_var 1 rfl (⟨_, .frz, ⟨_, rfl, as_name 4 (?_) sc_fixes.nd⟩⟩))))
    refine gx_seq (g1_asg (ex_ty T.b_list bb_list (ax_cons (ex_var 2 rfl (ax_nil (cd_list .tup (as_name 5 (?_) sc_fixes.nd)))))))
    have hel : ((es.map D.int).length : Int) = (es.length : Int) := by rw [List.length_map]
    refine gx_seq (g1_for PassesOwn.never rfl (ix_range1 T.b_range (ax_cons (ex_bin (ex_blt T.b_len bb_len (ax_cons (ex_var 4 rfl (ax_nil (cd_len .tup (ex_int (od_add (ax_nil (⟨_, rfl, by walk_at "cm", ⟨fun i ρ' M' => M' = M ∧ (∀ p, p < i → ((othL n r es p).all fun o => !(leftL es p As).all fun a => givB o a.1 a.2) = true) ∧ ∃ x y z w, ρ' = [some (.int n), some (.ins (He.ga K "Order") [("entries", .tup (es.map D.int))]), some (.tup (As.map ansD)), some (.bl r), some (.tup (es.map D.int)), some (.lst ((leftL es (min i es.length) As).map ansD)), x, y, z, w], ⟨rfl, fun p hp => absurd hp (Nat.not_lt_zero _), _, _, _, _, rfl⟩, ?hs, ?hd⟩⟩)))))))))))))
    case hs =>
      rintro p d ρ' M' hd ⟨rfl, hbe, x, y, z, w, rfl⟩
      obtain ⟨hp, rfl⟩ := rngD_at hd
      have hp2 : p ≤ es.length := by omega
      have hll := left_len (es := es) (A := As) (p := p)
      have hLA : ∀ a ∈ leftL es p As, a ∈ As := fun a ha => left_sub ha
      have hstep : leftL es (p + 1) As = (leftL es p As).filter fun a => decide (stp a.1 (es.getD p 0) = 80) := rfl
      rw [Nat.min_eq_left hp2, Int.zero_add]
      generalize hL : leftL es p As = L at *
      have hLz : (L.map ansD).length ≤ 1000000 := by rw [List.length_map]; omega
      refine as_name 6 (?_) sc_fixes.nd
      refine gx_seq (g1_for PassesOwn.never rfl (ix_lst (ca_others_at T (hr.mono (by decide)) (ax_cons (ex_var 0 rfl (ax_cons (ex_var 3 rfl (ax_cons (ex_var 4 rfl (ax_cons (ex_var 6 rfl (ax_nil (⟨_, _, _, _, rfl, by walk_at "cm", by walk_at "ne", by walk_at "sz", by walk_at "cm", ⟨_, rfl, ⟨fun j ρ' M2 => M2 = M' ∧ (((othL n r es p).take j).all fun o => !L.all fun a => givB o a.1 a.2) = true ∧ ∃ y z w, ρ' = [some (.int n), some (.ins (He.ga K "Order") [("entries", .tup (es.map D.int))]), some (.tup (As.map ansD)), some (.bl r), some (.tup (es.map D.int)), some (.lst (L.map ansD)), some (.int (p : Int)), y, z, w], ⟨rfl, rfl, _, _, _, rfl⟩, ?hs2, ?hd2⟩⟩⟩)))))))))))))
      case hs2 =>
        rintro j d ρ' M2 hd ⟨rfl, hbj, y, z, w, rfl⟩
        rw [List.getElem?_map] at hd
        obtain ⟨o, ho, rfl⟩ := Option.map_eq_some_iff.mp hd
        have hom := List.mem_of_getElem? ho
        have hj := (List.getElem?_eq_some_iff.mp ho).1
        refine as_name 7 (?_) sc_fixes.nd
        refine gx_seq (g1_if (tx_val (ex_blt T.b_all bb_all (ax_cons (ex_lc (own := [("trial", 8), ("carry", 9)]) (hN := sc_fixes.nd) rfl (ix_lst (ex_var 5 rfl (⟨_, rfl, lcI (fun i => D.bl (givB o (L.getD i ([], 0)).1 (L.getD i ([], 0)).2)) (fun _ => true) ?lc3_0_0b (by walk_at "sz") (ax_nil (cd_allE rfl .lst (by walk_at "bl") (⟨_, rfl, ⟨fun h => ?_, fun h => ?_⟩⟩)))⟩))))))))
        case lc3_0_0b =>
          intro i d acc Dl hd hi hD
          obtain ⟨hi2, rfl⟩ := ansD_at hd
          have ha := hLA _ (getD_in (x := (([], 0) : Ans)) hi2)
          have hal := hA _ ha
          have haz : (L.getD i ([], 0)).1.length ≤ 1000000 := by omega
          have hgv : ∀ q, o = some q → 0 ≤ q ∧ q < ((L.getD i ([], 0)).1.length : Int) := fun q e => by
            have := oth_b (e ▸ hom); omega
          refine asb_tup rfl (asb_cons (asb_name 8 (asb_cons (asb_name 9 (asb_nil (txb_nil ⟨rfl, rfl, fun _ => fun _ _ _ _ _ => ca_is_given T (hr.mono (by decide)) (ax_cons (ex_var 7 rfl (ax_cons (ex_var 8 rfl (ax_cons (ex_var 9 rfl (ax_nil (⟨_, _, _, rfl, by walk_at "gv", by walk_at "sz", ⟨rfl, rfl⟩⟩))))))))⟩)) (hN := sc_fixes.nd))) (hN := sc_fixes.nd)))
        · rw [List.length_map, all_rng (l := L) (x := ([], 0)) (f := fun a => givB o a.1 a.2)] at h
          have e : ((List.range (es.length + 1)).all fun p => (othL n r es p).all fun o => !(leftL es p As).all fun a => givB o a.1 a.2) = false := by
            rw [List.all_eq_false]
            refine ⟨p, List.mem_range.mpr (by omega), ?_⟩
            rw [Bool.not_eq_true, List.all_eq_false]
            exact ⟨o, hom, by rw [hL, h]; decide⟩
          rw [e] at k
          refine gx_seq (g1_ret (ex_bl (?_)))
          exact k
        · rw [List.length_map, all_rng (l := L) (x := ([], 0)) (f := fun a => givB o a.1 a.2)] at h
          refine gx_nil (gx_nil ⟨rfl, ?_, _, _, _, rfl⟩)
          rw [List.take_succ, ho, List.all_append, hbj]
          simp [h]
      case hd2 =>
        rintro ρ' M2 ⟨rfl, hbj, y, z, w, rfl⟩
        rw [List.length_map, List.take_length] at hbj
        show GX _ _ _ _ _ _
        have hnew : ∀ q, q < p + 1 → ((othL n r es q).all fun o => !(leftL es q As).all fun a => givB o a.1 a.2) = true := fun q hq => by
          by_cases e : q = p
          · subst e; rw [hL]; exact hbj
          · exact hbe q (by omega)
        refine gx_seq (g1_if (tx_cmp (ex_var 6 rfl (ex_blt T.b_len bb_len (ax_cons (ex_var 4 rfl (ax_nil (cd_len .tup (od_lt (⟨_, rfl, ⟨fun h => ?_, fun h => ?_⟩⟩))))))))))
        · have hpl : p < es.length := by have := of_decide_eq_true h; omega
          have hpe : e0 r ≤ es.getD (p : Int).toNat 0 ∧ es.getD (p : Int).toNat 0 ≤ n := by rw [Int.toNat_natCast]; exact hb _ (getD_in (x := (0 : Int)) hpl)
          refine gx_seq (g1_lc (own := [("trial", 8), ("carry", 9)]) (hN := sc_fixes.nd) 5 rfl (ix_lst (ex_var 5 rfl (⟨_, rfl, lcI (fun i => ansD (L.getD i ([], 0))) (fun i => decide (stp (L.getD i ([], 0)).1 (es.getD p 0) = 80)) ?lc3_1_0a (by walk_at "sz") (?_)⟩))))
          case lc3_1_0a =>
            intro i d acc Dl hd hi hD
            obtain ⟨hi2, rfl⟩ := ansD_at hd
            have ha := hLA _ (getD_in (x := (([], 0) : Ans)) hi2)
            have hal := hA _ ha
            have haz : (L.getD i ([], 0)).1.length ≤ 1000000 := by omega
            refine asb_tup rfl (asb_cons (asb_name 8 (asb_cons (asb_name 9 (asb_nil (txb_one fun _ _ _ _ _ => tx_cmp (ca_state_at T (hr.mono (by decide)) (ax_cons (ex_var 8 rfl (ax_cons (ex_ix (ex_var 4 rfl (ex_var 6 rfl (id_seq .tup ((atI_ints (by omega) (by omega))) (ax_nil (⟨_, _, rfl, by walk_at "cm", by walk_at "sz", ex_gstr T.g_PASS (od_eq rfl (⟨_, rfl, ⟨?_, rfl, fun ht => fun _ _ _ _ _ => ex_tup (ax_cons (ex_var 8 rfl (ax_cons (ex_var 9 rfl (ax_nil (⟨le_b rfl, ⟨rfl, rfl⟩⟩))))))⟩⟩))⟩)))))))))))) (hN := sc_fixes.nd))) (hN := sc_fixes.nd)))
            rw [lit_P, sceq_S, Int.toNat_natCast]
            simp
          rw [List.length_map, lcR_of (l := L) (x := ([], 0)) (f := fun a => decide (stp a.1 (es.getD p 0) = 80)) (g := ansD), ← hstep, show leftL es (p + 1) As = leftL es (min (p + 1) es.length) As by rw [Nat.min_eq_left (by omega)]]
          exact gx_nil (gx_nil ⟨rfl, hnew, _, _, _, _, rfl⟩)
        · have hpl : ¬ p < es.length := by have := of_decide_eq_false h; omega
          have e : L = leftL es (min (p + 1) es.length) As := by rw [show min (p + 1) es.length = p by omega, hL]
          rw [e]
          exact gx_nil (gx_nil ⟨rfl, hnew, _, _, _, _, rfl⟩)
    case hd =>
      rintro ρ' M' ⟨rfl, hbe, x, y, z, w, rfl⟩
      show GX _ _ _ _ _ _
      refine gx_seq (g1_ret (ex_bl (?_)))
      have e : ((List.range (es.length + 1)).all fun p => (othL n r es p).all fun o => !(leftL es p As).all fun a => givB o a.1 a.2) = true := by
        rw [List.all_eq_true]
        intro p hp
        refine hbe p ?_
        have := List.mem_range.mp hp
        rw [rngD_len]
        omega
      rw [e] at k
      exact k
theorem cv_fixes_3_ring {X : Cx} {J : Gh} {e : Expr} {es : List Expr} {e0 : Expr} {p0 : Pos} {ρ : DEnv} {M : Mem} {P : D → Mem → Prop} {pos p : Pos} (T : Txt X.K X.mg) (hr : Room 4 X.A) (h : AX X J (e :: es) ρ M fun ds M1 => KX X J [⟨some "ring", e0, p0⟩] ρ M1 fun zs M2 => zs.length = (["ring"] : List PySem.Str).length ∧ (ds.length = 3 ∧ zs.length = (["ring"] : List PySem.Str).length ∧ (tr_fixes (He.ga X.K "Order")) (pick (ds ++ ([] ++ zs)) [0, 1, 2, 3]) M2 P)) (hg : Gl X "fixes" := by rfl)
    (hall : (backToKw pos (keywordEach [⟨some "ring", e0, p0⟩] X.env)).all (·.1.isSome) = true := by rfl) (hks : (backToKw pos (keywordEach [⟨some "ring", e0, p0⟩] X.env)).filterMap (·.1) = (["ring"] : List PySem.Str) := by rfl) (he : starEach (e :: es) X.env = (false, eval e X.env) :: starEach es X.env := by rfl) (hpl : ((backTo pos (starEach (e :: es) X.env)).any (·.1) || (backToKw pos (keywordEach [⟨some "ring", e0, p0⟩] X.env)).any (·.1.isNone)) = false := by rfl) :
    EX X J (.Call (.Name "fixes" p) (e :: es) [⟨some "ring", e0, p0⟩] pos) ρ M P :=
  ex_callV (fn_kwV T.d_fixes.choose_spec sc_fixes (ok_fixes T) 3 (["ring"] : List PySem.Str) [] [] [0, 1, 2, 3] (by simp) (fun _ => .nil) (fun kV D doc pm an cdv ct us mv ws e h1 h2 h3 => match us, mv, ws, h1, h2, h3 with | [_, _, _], [], [_], _, _, _ => rfl) (fun us mv ws h1 h2 h3 => match us, mv, ws, h1, h2, h3 with | [_, _, _], [], [_], _, _, _ => rfl)) (fun h => nomatch h) hr T.m_fixes T.d_fixes.choose_spec.kp h hg hall hks (by decide) he hpl
def tr_Llook : Tr := fun ds M P => ∃ l ps a, ds = [.str (S l), .tup a] ∧ a = ps.map D.int ∧ (∀ p ∈ ps, 0 ≤ p ∧ p < (l.length : Int)) ∧ l.length ≤ 1000000 ∧ P (.str (S [firstS l ps])) M
theorem len_Llook {ds M P} (t : tr_Llook ds M P) : ds.length = 2 := by obtain ⟨_, _, _, rfl, _⟩ := t; rfl
theorem ok_Llook {pg : Program} {w : World} {K : PySem.W.Frag} {mg : Str → Option Value} {base : Heap} (T : Txt K mg) : FnOk pg w K mg base CX0 1 (He.fAd K ("_law_look", none)) T.d_Llook.choose ["_law_test", "_law_entries"] (SpD K tr_Llook) :=
  fn_okD T.d_Llook.choose_spec sc_Llook (fun ds M P t => len_Llook t) fun cdv A outer s H ds M P hr t => by
  obtain ⟨l, ps, _, rfl, rfl, hp, hl, k⟩ := t
  refine gx_seq (g1_for PassesOwn.never rfl (ix_tup (ex_var 1 rfl (⟨_, rfl, ⟨fun i ρ' M' => M' = M ∧ firstS l (ps.drop i) = firstS l ps ∧ ∃ x, ρ' = [some (.str (S l)), some (.tup (ps.map D.int)), x], ⟨rfl, rfl, _, rfl⟩, ?hs, ?hd⟩⟩))))
  case hs =>
    rintro i d ρ' M' hd ⟨rfl, hf, x, rfl⟩
    have hi : i < ps.length := by
      by_cases h : i < ps.length
      · exact h
      · rw [List.getElem?_eq_none (by rw [List.length_map]; omega)] at hd; cases hd
    rw [List.getElem?_map, List.getElem?_eq_getElem hi] at hd
    cases hd
    have hq := hp _ (List.getElem_mem hi)
    rw [firstS_drop hi] at hf
    have e : (((S l).length : Int) - 1 - ps[i]).toNat = l.length - 1 - ps[i].toNat := by rw [S_len]; omega
    have es : [l.getD (l.length - 1 - ps[i].toNat) 0] = [stp l ps[i]] := rfl
    refine as_name 2 (?_) sc_Llook.nd
    refine gx_seq (g1_if (tx_cmp (ex_ix (ex_var 0 rfl (ex_bin (ex_bin (ex_blt T.b_len bb_len (ax_cons (ex_var 0 rfl (ax_nil (cd_lenS (by walk_at "sz") (ex_int (od_sub (ex_var 2 rfl (od_sub (id_strA (by walk_at "ix") (by walk_at "sz") (ex_str (od_ne rfl (⟨_, rfl, ⟨fun h => ?_, fun h => ?_⟩⟩)))))))))))))))))))
    · rw [e, es, lit_P, sceq_S] at h
      have h2 : stp l ps[i] ≠ 80 := by simpa using h
      rw [if_neg h2] at hf
      refine gx_seq (g1_ret (ex_ix (ex_var 0 rfl (ex_bin (ex_bin (ex_blt T.b_len bb_len (ax_cons (ex_var 0 rfl (ax_nil (cd_lenS (by walk_at "sz") (ex_int (od_sub (ex_var 2 rfl (od_sub (id_strA (by walk_at "ix") (by walk_at "sz") (?_))))))))))))))))
      rw [e, es, hf]
      exact k
    · rw [e, es, lit_P, sceq_S] at h
      have h2 : stp l ps[i] = 80 := by simpa using h
      rw [if_pos h2] at hf
      exact gx_nil (gx_nil ⟨rfl, hf, _, rfl⟩)
  case hd =>
    rintro ρ' M' ⟨rfl, hf, x, rfl⟩
    show GX _ _ _ _ _ _
    rw [List.length_map, List.drop_length] at hf
    refine gx_seq (g1_ret (ex_str (?_)))
    rw [lit_P]
    have : firstS l ps = 80 := by rw [← hf]; rfl
    rw [this] at k
    exact k
theorem ca_Llook {X : Cx} {J : Gh} {e : Expr} {es : List Expr} {ρ : DEnv} {M : Mem} {P : D → Mem → Prop} {pos p : Pos} (T : Txt X.K X.mg) (hr : Room 1 X.A) (h : AX X J (e :: es) ρ M fun ds M1 => tr_Llook (ds ++ []) M1 P) (hg : Gl X "_law_look" := by rfl)
    (he : starEach (e :: es) X.env = (false, eval e X.env) :: starEach es X.env := by rfl) (hpl : (backTo pos (starEach es X.env)).any (·.1) = false := by rfl) : EX X J (.Call (.Name "_law_look" p) (e :: es) [] pos) ρ M P :=
  ex_call (ok_Llook T) hr T.m_Llook T.d_Llook.choose_spec.kp (T.d_Llook.choose_spec.bindsN fun _ _ _ _ _ _ us hl => match us, hl with | [_, _], _ => rfl) .nil (fun _ => .nil) h hg (by decide) he hpl
def tr_Lorder (C : Addr) : Tr := fun ds M P => ∃ (ps : List Int), ds = [.tup (ps.map D.int)] ∧ ps ≠ [] ∧ Gd ps ∧ (∀ p ∈ ps, 0 ≤ p ∧ p ≤ 24) ∧ ps.length ≤ 300 ∧ P (.ins C [("entries", .tup (ps.map D.int))]) M
theorem len_Lorder {C ds M P} (t : tr_Lorder C ds M P) : ds.length = 1 := by obtain ⟨_, rfl, _⟩ := t; rfl
theorem ok_Lorder {pg : Program} {w : World} {K : PySem.W.Frag} {mg : Str → Option Value} {base : Heap} (T : Txt K mg) : FnOk pg w K mg base CX0 5 (He.fAd K ("_law_order", none)) T.d_Lorder.choose ["_law_entries"] (SpD K (tr_Lorder (He.ga K "Order"))) :=
  fn_okD T.d_Lorder.choose_spec sc_Lorder (fun ds M P t => len_Lorder t) fun cdv A outer s H ds M P hr t => by
  obtain ⟨ps, rfl, hne, hg, hb, hl, k⟩ := t
  obtain ⟨a, qs, rfl⟩ : ∃ a qs, ps = a :: qs := by
    cases ps with
    | nil => exact absurd rfl hne
    | cons a qs => exact ⟨_, _, rfl⟩
  have hlen : (0 : Int) < ((a :: qs).length : Int) := by rw [List.length_cons]; omega
  have ha : 0 ≤ (a :: qs).getD (0 : Int).toNat 0 ∧ (a :: qs).getD (0 : Int).toNat 0 ≤ 24 := hb a List.mem_cons_self
  refine gx_seq (g1_asg (ex_make T.mk_Order (fv_Order___init__ T) (hr.mono (by decide)) T.g_Order (ax_cons (ex_ix (ex_var 0 rfl (ex_int (id_seq .tup ((atI_ints (by omega) (by omega))) (ax_nil (fun a0a h0a => ⟨[_], _, rfl, rfl, rfl, by walk_at "sz", (fun h => nomatch h), ⟨_, _, _, _, rfl, rfl, by walk_at "oi", by walk_at "or", by walk_at "sz", rfl, _, _, h0a, rfl, as_name 1 (?_) sc_Lorder.nd⟩⟩)))))))))
  have f1 : fo [(a :: qs).getD (0 : Int).toNat 0] = (a :: qs).take 1 := rfl
  rw [f1]
  have hcut : cutD ((a :: qs).map D.int) (some 1) none = qs.map D.int := by
    rw [cut_ints]
    have := cutA_drop (xs := a :: qs) (k := 1)
    exact congrArg _ this
  refine gx_seq (g1_for PassesOwn.never rfl (ix_tup (ex_slice (ex_var 0 rfl (ox_some (ex_int (⟨_, rfl, ox_none (sd_tupA (⟨_, rfl, ⟨fun i ρ' M' => M' = M ∧ ∃ x, ρ' = [some (.tup ((a :: qs).map D.int)), some (.ins (He.ga K "Order") [("entries", .tup (((a :: qs).take (i + 1)).map D.int))]), x], ⟨rfl, _, rfl⟩, ?hs, ?hd⟩⟩))⟩)))))))
  case hs =>
    rintro i d ρ' M' hd ⟨rfl, x, rfl⟩
    rw [hcut] at hd
    obtain ⟨hi, rfl⟩ := map_at (0 : Int) hd
    have hqm := getD_in (x := (0 : Int)) hi
    have hq := hb _ (List.mem_cons_of_mem _ hqm)
    have h1 : ∀ p ∈ (a :: qs).take (i + 1), 0 ≤ p ∧ p ≤ 24 := fun p hp => hb p (List.mem_of_mem_take hp)
    have f1 : fo [qs.getD i 0] = [qs.getD i 0] := rfl
    have h2 : ∀ p ∈ fo [qs.getD i 0], 0 ≤ p ∧ p ≤ 24 := by rw [f1]; intro p hp; rw [List.mem_singleton] at hp; rw [hp]; exact hq
    have hlt : ((a :: qs).take (i + 1)).length ≤ 400 ∧ (fo [qs.getD i 0]).length ≤ 400 := by rw [f1, List.length_take]; simp at *; omega
    have e : fo ((a :: qs).take (i + 1) ++ fo [qs.getD i 0]) = (a :: qs).take (i + 1 + 1) := by
      have hi2 : i + 1 < (a :: qs).length := by rw [List.length_cons]; omega
      have : (a :: qs)[i + 1] = qs.getD i 0 := by rw [List.getElem_cons_succ, List.getD_eq_getElem?_getD, List.getElem?_eq_getElem hi]; rfl
      rw [f1, ← this, ← List.take_succ_eq_append_getElem hi2]
      exact (hg.take _).fo
    refine as_name 2 (?_) sc_Lorder.nd
    refine gx_seq (g1_asg (ex_bin (ex_var 1 rfl (ex_make T.mk_Order (fv_Order___init__ T) (hr.mono (by decide)) T.g_Order (ax_cons (ex_var 2 rfl (ax_nil (fun a1_0b h1_0b => ⟨[_], _, rfl, rfl, rfl, by walk_at "sz", (fun h => nomatch h), ⟨_, _, _, _, rfl, rfl, by walk_at "oi", by walk_at "or", by walk_at "sz", rfl, _, _, h1_0b, rfl, od_addOwn (fv_Order___add__ T) (hr.mono (by decide)) T.sf_Order T.me_Order___add__ .frz .frz ⟨rfl, rfl, ⟨_, _, rfl, by walk_at "or", by walk_at "or", by walk_at "sz", ⟨⟨_, _, rfl⟩, as_name 1 (?_) sc_Lorder.nd⟩⟩⟩⟩⟩))))))))
    rw [e]
    exact gx_nil ⟨rfl, _, rfl⟩
  case hd =>
    rintro ρ' M' ⟨rfl, x, rfl⟩
    show GX _ _ _ _ _ _
    rw [hcut, List.length_map, show qs.length + 1 = (a :: qs).length from rfl, List.take_length]
    refine gx_seq (g1_ret (ex_var 1 rfl (?_)))
    exact k
theorem ca_Lorder {X : Cx} {J : Gh} {e : Expr} {es : List Expr} {ρ : DEnv} {M : Mem} {P : D → Mem → Prop} {pos p : Pos} (T : Txt X.K X.mg) (hr : Room 5 X.A) (h : AX X J (e :: es) ρ M fun ds M1 => (tr_Lorder (He.ga X.K "Order")) (ds ++ []) M1 P) (hg : Gl X "_law_order" := by rfl)
    (he : starEach (e :: es) X.env = (false, eval e X.env) :: starEach es X.env := by rfl) (hpl : (backTo pos (starEach es X.env)).any (·.1) = false := by rfl) : EX X J (.Call (.Name "_law_order" p) (e :: es) [] pos) ρ M P :=
  ex_call (ok_Lorder T) hr T.m_Lorder T.d_Lorder.choose_spec.kp (T.d_Lorder.choose_spec.bindsN fun _ _ _ _ _ _ us hl => match us, hl with | [_], _ => rfl) .nil (fun _ => .nil) h hg (by decide) he hpl
def txD (L : List (List Nat)) : List D := L.map fun t => D.str (S t)
theorem txD_len {L : List (List Nat)} : (txD L).length = L.length := by simp [txD]
theorem txD_app {A B : List (List Nat)} : txD (A ++ B) = txD A ++ txD B := by simp [txD]
/-! ### the plain law: what fixes an order -/
theorem fsA {l : List Nat} {B : List Int} : ∀ A : List Int, firstS l (A ++ B) = if firstS l A = 80 then firstS l B else firstS l A
  | [] => by rw [firstS, if_pos rfl]; rfl
  | p :: A => by
    rw [List.cons_append, firstS, firstS, fsA A]
    by_cases h : stp l p = 80
    · rw [if_pos h, if_pos h]
    · rw [if_neg h, if_neg h, if_neg h]
theorem fs1 {l : List Nat} {x : Int} : firstS l [x] = stp l x := by
  rw [firstS, firstS]; split
  · rename_i h; exact h.symm
  · rfl
theorem fs_filter {l : List Nat} {x : Int} (h : stp l x = 80) : ∀ L : List Int, firstS l (L.filter fun q => !decide (q = x)) = firstS l L
  | [] => rfl
  | p :: L => by
    rw [List.filter_cons]
    by_cases e : p = x
    · subst e
      simp only [decide_true, Bool.not_true, Bool.false_eq_true, if_false]
      rw [fs_filter h L, firstS, if_pos h]
    · have : (!decide (p = x)) = true := by simp [e]
      rw [if_pos this, firstS, firstS, fs_filter h L]
theorem take_succ_getD {es : List Int} {p : Nat} (h : p < es.length) : es.take (p + 1) = es.take p ++ [es.getD p 0] := by
  rw [List.take_succ_eq_append_getElem h, List.getD_eq_getElem?_getD, List.getElem?_eq_getElem h]; rfl
/-- what is left at a place: all ahead of it is P -/
theorem left_iff {es : List Int} {As : List Ans} : ∀ {p : Nat} {a : Ans}, p ≤ es.length → (a ∈ leftL es p As ↔ a ∈ As ∧ firstS a.1 (es.take p) = 80)
  | 0, a, _ => by
    show a ∈ As ↔ _
    rw [List.take_zero]
    exact ⟨fun h => ⟨h, rfl⟩, fun h => h.1⟩
  | p + 1, a, h => by
    show a ∈ (leftL es p As).filter _ ↔ _
    rw [List.mem_filter, left_iff (by omega), take_succ_getD (by omega), fsA, fs1]
    constructor
    · rintro ⟨⟨h1, h2⟩, h3⟩
      exact ⟨h1, by rw [if_pos h2]; simpa using h3⟩
    · rintro ⟨h1, h2⟩
      by_cases z : firstS a.1 (es.take p) = 80
      · rw [if_pos z] at h2
        exact ⟨⟨h1, z⟩, by simpa using h2⟩
      · rw [if_neg z] at h2; exact absurd h2 z
/-- nothing twice, nothing behind 0 -/
def Gp (L : List Int) : Prop := L.Pairwise fun a b => a ≠ b ∧ a ≠ 0
theorem gp_of : ∀ {L : List Int}, Gd L → Gp L
  | [], _ => List.Pairwise.nil
  | a :: L, ⟨h1, h2⟩ => by
    rw [List.nodup_cons] at h1
    refine List.Pairwise.cons (fun b hb => ⟨fun e => h1.1 (e ▸ hb), ?_⟩) (gp_of ⟨h1.2, fun p hp => h2 p ?_⟩)
    · refine h2 a ?_
      cases L with
      | nil => cases hb
      | cons b L => exact List.mem_cons_self
    · cases L with
      | nil => cases hp
      | cons b L => exact List.mem_cons_of_mem _ hp
theorem gd_of : ∀ {L : List Int}, Gp L → Gd L
  | [], _ => gd_nil
  | a :: L, h => by
    obtain ⟨h1, h2⟩ := List.pairwise_cons.mp h
    obtain ⟨g1, g2⟩ := gd_of h2
    refine ⟨List.nodup_cons.mpr ⟨fun z => (h1 a z).1 rfl, g1⟩, fun p hp => ?_⟩
    cases L with
    | nil => cases hp
    | cons b L =>
      rcases List.mem_cons.mp hp with rfl | hp
      · exact (h1 b List.mem_cons_self).2
      · exact g2 p hp
theorem first_diff : ∀ {e es : List Int}, e ≠ es → ∃ p, p ≤ e.length ∧ p ≤ es.length ∧ e.take p = es.take p ∧ e[p]? ≠ es[p]?
  | [], [], h => absurd rfl h
  | [], b :: es, _ => ⟨0, by simp, by simp, rfl, by simp⟩
  | a :: e, [], _ => ⟨0, by simp, by simp, rfl, by simp⟩
  | a :: e, b :: es, h => by
    by_cases z : a = b
    · subst z
      obtain ⟨p, h1, h2, h3, h4⟩ := first_diff (e := e) (es := es) fun z => h (by rw [z])
      exact ⟨p + 1, by simp; omega, by simp; omega, by simp [h3], by simpa using h4⟩
    · exact ⟨0, by simp, by simp, rfl, by simpa using z⟩
def gvB (A : List Ans) (e : List Int) : Bool := A.all fun a => decide (seenI a.1 e = a.2)
theorem gv_iff {A : List Ans} {e : List Int} : gvB A e = true ↔ ∀ a ∈ A, seenI a.1 e = a.2 := by
  unfold gvB
  rw [List.all_eq_true]
  exact ⟨fun h a ha => of_decide_eq_true (h a ha), fun h a ha => decide_eq_true (h a ha)⟩
theorem seen_car {l : List Nat} {e : List Int} {c : Nat} (h : firstS l e = c) : seenI l e = carryS c := by unfold seenI carryS; rw [h]
/-- an order of some positions -/
def Ord (n : Int) (r : Bool) (e : List Int) : Prop := e ≠ [] ∧ Gd e ∧ ∀ p ∈ e, e0 r ≤ p ∧ p ≤ n
theorem oth_none {n : Int} {r : Bool} {es : List Int} {p : Nat} : none ∈ othL n r es p ↔ 0 < p ∧ p < es.length := by
  unfold othL
  by_cases h : p = es.length ∧ es.getLast? = some 0
  · rw [if_pos h]
    constructor
    · intro z; cases z
    · intro z; omega
  · rw [if_neg h, List.mem_append]
    constructor
    · rintro (z | z)
      · obtain ⟨q, _, e⟩ := List.mem_map.mp z; cases e
      · by_cases g : 0 < p ∧ p < es.length
        · exact g
        · rw [if_neg g] at z; cases z
    · intro g; rw [if_pos g]; exact .inr List.mem_cons_self
theorem upto_in {a b x : Int} (h : a ≤ x ∧ x < b) : x ∈ upto a b := by
  unfold upto
  exact List.mem_map.mpr ⟨(x - a).toNat, List.mem_range.mpr (by omega), by omega⟩
theorem oth_some {n : Int} {r : Bool} {es : List Int} {p : Nat} {x : Int} : some x ∈ othL n r es p ↔ ¬ (p = es.length ∧ es.getLast? = some 0) ∧ (e0 r ≤ x ∧ x < n + 1) ∧ x ∉ es.take (p + 1) := by
  unfold othL
  by_cases h : p = es.length ∧ es.getLast? = some 0
  · rw [if_pos h]
    exact ⟨fun z => (nomatch z), fun z => absurd h z.1⟩
  · rw [if_neg h, List.mem_append]
    constructor
    · rintro (z | z)
      · obtain ⟨q, h1, e⟩ := List.mem_map.mp z
        cases e
        obtain ⟨h1, h2⟩ := List.mem_filter.mp h1
        exact ⟨h, upto_mem h1, by simpa using h2⟩
      · split at z
        · simp at z
        · cases z
    · rintro ⟨_, h1, h2⟩
      exact .inl (List.mem_map.mpr ⟨x, List.mem_filter.mpr ⟨upto_in h1, by simpa using h2⟩, rfl⟩)
/-- where another order gives the answers, there is a place at which something else may stand -/
theorem fix_other {n : Int} {r : Bool} {es e : List Int} {A : List Ans} (he : Ord n r e) (hes : Ord n r es) (hne : e ≠ es) (hg : ∀ a ∈ A, seenI a.1 e = a.2) :
    ∃ p, p ≤ es.length ∧ ∃ o ∈ othL n r es p, ∀ a ∈ leftL es p A, givB o a.1 a.2 = true := by
  obtain ⟨p, h1, h2, h3, h4⟩ := first_diff hne
  refine ⟨p, h2, ?_⟩
  cases hx : e[p]? with
  | none =>
    have hp : e.length ≤ p := List.getElem?_eq_none_iff.mp hx
    have hpe : p = e.length := by omega
    have hlt : p < es.length := by
      rcases Nat.lt_or_ge p es.length with z | z
      · exact z
      · exact absurd (by rw [hx, List.getElem?_eq_none z]) h4
    have h0 : 0 < p := by rw [hpe]; exact List.length_pos_iff.mpr he.1
    refine ⟨none, oth_none.mpr ⟨h0, hlt⟩, fun a ha => ?_⟩
    obtain ⟨ha1, ha2⟩ := (left_iff h2).mp ha
    rw [← h3, hpe, List.take_length] at ha2
    have := hg a ha1
    rw [seen_car ha2] at this
    show decide (a.2 = 0) = true
    rw [← this]; decide
  | some x =>
    obtain ⟨hp, hxe⟩ := List.getElem?_eq_some_iff.mp hx
    have esp : e = e.take p ++ x :: e.drop (p + 1) := by
      rw [← hxe, List.getElem_cons_drop, List.take_append_drop]
    have gp := gp_of he.2.1
    rw [esp, Gp, List.pairwise_append] at gp
    have hxm : x ∈ e := hxe ▸ List.getElem_mem hp
    have hnt : x ∉ e.take p := fun z => (gp.2.2 x z x List.mem_cons_self).1 rfl
    refine ⟨some x, oth_some.mpr ⟨?_, ⟨(he.2.2 x hxm).1, by have := (he.2.2 x hxm).2; omega⟩, ?_⟩, fun a ha => ?_⟩
    · rintro ⟨z1, z2⟩
      have z3 : e.take p = es := by rw [h3, z1, List.take_length]
      have z4 : (0 : Int) ∈ e.take p := by rw [z3]; exact List.mem_of_getLast? z2
      exact (gp.2.2 0 z4 x List.mem_cons_self).2 rfl
    · rcases Nat.lt_or_ge p es.length with z | z
      · rw [take_succ_getD z, List.mem_append, ← h3]
        rintro (w | w)
        · exact hnt w
        · rw [List.mem_singleton] at w
          apply h4
          rw [hx, List.getElem?_eq_getElem z, w, List.getD_eq_getElem?_getD, List.getElem?_eq_getElem z]; rfl
      · rw [List.take_of_length_le (by omega)]
        have : es = e.take p := by rw [h3, List.take_of_length_le z]
        rw [this]; exact hnt
    · obtain ⟨ha1, ha2⟩ := (left_iff h2).mp ha
      rw [← h3] at ha2
      show (decide (stp a.1 x = 80) || decide (carryS (stp a.1 x) = a.2)) = true
      by_cases z : stp a.1 x = 80
      · simp [z]
      · have e1 : firstS a.1 e = stp a.1 x := by
          rw [esp, fsA, if_pos ha2, firstS, if_neg z]
        rw [← hg a ha1, seen_car e1]
        simp
/-- where something else may stand, another order gives the answers -/
theorem fix_made {n : Int} {r : Bool} {es : List Int} {A : List Ans} (hes : Ord n r es) (hA : r = false → ∀ a ∈ A, stp a.1 0 ≠ 80) (hg : ∀ a ∈ A, seenI a.1 es = a.2) {p : Nat} (hp : p ≤ es.length) {o : Option Int} (ho : o ∈ othL n r es p) (hl : ∀ a ∈ leftL es p A, givB o a.1 a.2 = true) :
    ∃ e, Ord n r e ∧ e ≠ es ∧ ∀ a ∈ A, seenI a.1 e = a.2 := by
  have gp := gp_of hes.2.1
  have sp : es = es.take p ++ es.drop p := (List.take_append_drop p es).symm
  rw [sp, Gp, List.pairwise_append] at gp
  obtain ⟨g1, g2, g3⟩ := gp
  have htk : ∀ q ∈ es.take p, q ∈ es := fun q h => List.mem_of_mem_take h
  cases o with
  | none =>
    obtain ⟨h0, hlt⟩ := oth_none.mp ho
    refine ⟨es.take p, ⟨?_, gd_of g1, fun q hq => hes.2.2 q (htk q hq)⟩, ?_, fun a ha => ?_⟩
    · intro z
      have := congrArg List.length z
      rw [List.length_take] at this
      have this : min p es.length = 0 := this
      omega
    · intro z
      have := congrArg List.length z
      rw [List.length_take] at this
      omega
    · by_cases z : firstS a.1 (es.take p) = 80
      · have h1 := hl a ((left_iff hp).mpr ⟨ha, z⟩)
        have h1 : a.2 = 0 := of_decide_eq_true h1
        rw [seen_car z, h1]; rfl
      · rw [← hg a ha]
        have : firstS a.1 es = firstS a.1 (es.take p) := by
          conv => lhs; rw [sp]
          rw [fsA, if_neg z]
        unfold seenI; rw [this]
  | some x =>
    obtain ⟨h1, h2, h3⟩ := oth_some.mp ho
    have hxt : x ∉ es.take p := fun z => h3 ((List.take_sublist_take_left (Nat.le_succ p)).subset z)
    have hz0 : ∀ q ∈ es.take p, q ≠ 0 := by
      intro q hq
      rcases Nat.lt_or_ge p es.length with z | z
      · have : es[p] ∈ es.drop p := by rw [List.drop_eq_getElem_cons z]; exact List.mem_cons_self
        exact (g3 q hq _ this).2
      · rw [List.take_of_length_le z] at hq
        intro e
        subst e
        refine h1 ⟨by omega, ?_⟩
        obtain ⟨h4, h5⟩ := hes.2.1
        have hne := hes.1
        have ee := List.dropLast_concat_getLast hne
        rw [← ee, List.mem_append, List.mem_singleton] at hq
        rcases hq with hq | hq
        · exact absurd rfl (h5 0 hq)
        · rw [List.getLast?_eq_some_getLast hne, ← hq]
    have tl : List Int := if x = 0 then [] else (es.drop p).filter fun q => !decide (q = x)
    refine ⟨es.take p ++ x :: (if x = 0 then [] else (es.drop p).filter fun q => !decide (q = x)), ⟨by simp, gd_of ?_, ?_⟩, ?_, fun a ha => ?_⟩
    · rw [Gp, List.pairwise_append]
      refine ⟨g1, List.Pairwise.cons (fun b hb => ?_) ?_, fun q hq b hb => ⟨?_, hz0 q hq⟩⟩
      · split at hb
        · cases hb
        · rename_i hx0
          have := (List.mem_filter.mp hb).2
          simp at this
          exact ⟨fun e => this e.symm, hx0⟩
      · split
        · exact List.Pairwise.nil
        · exact g2.sublist List.filter_sublist
      · rcases List.mem_cons.mp hb with e | hb
        · rw [e]; exact fun z => hxt (z ▸ hq)
        · split at hb
          · cases hb
          · exact (g3 q hq b (List.mem_filter.mp hb).1).1
    · intro q hq
      rcases List.mem_append.mp hq with hq | hq
      · exact hes.2.2 q (htk q hq)
      · rcases List.mem_cons.mp hq with e | hq
        · rw [e]; omega
        · split at hq
          · cases hq
          · exact hes.2.2 q (List.mem_of_mem_drop (List.mem_filter.mp hq).1)
    · intro z
      have h5 := congrArg (fun L : List Int => L[p]?) z
      have hlen : (es.take p).length = p := by rw [List.length_take]; omega
      simp only [List.getElem?_append_right (Nat.le_of_eq hlen), hlen, Nat.sub_self, List.getElem?_cons_zero] at h5
      obtain ⟨h6, h7⟩ := List.getElem?_eq_some_iff.mp h5.symm
      refine h3 ?_
      rw [List.take_succ_eq_append_getElem h6, h7]
      simp
    · by_cases z : firstS a.1 (es.take p) = 80
      · have h6 := hl a ((left_iff hp).mpr ⟨ha, z⟩)
        have h6 : (decide (stp a.1 x = 80) || decide (carryS (stp a.1 x) = a.2)) = true := h6
        by_cases w : stp a.1 x = 80
        · by_cases hx0 : x = 0
          · have hr : r = false := by
              cases r with
              | false => rfl
              | true => have := h2.1; rw [hx0] at this; exact absurd this (by decide)
            rw [hx0] at w
            exact absurd w (hA hr a ha)
          · rw [if_neg hx0, ← hg a ha]
            have e1 : firstS a.1 (es.take p ++ x :: (es.drop p).filter fun q => !decide (q = x)) = firstS a.1 es := by
              rw [fsA, if_pos z, firstS, if_pos w, fs_filter w]
              conv => rhs; rw [sp]
              rw [fsA, if_pos z]
            unfold seenI; rw [e1]
        · have e1 : ∀ T : List Int, firstS a.1 (es.take p ++ x :: T) = stp a.1 x := fun T => by rw [fsA, if_pos z, firstS, if_neg w]
          rw [seen_car (e1 _)]
          simpa [w] using h6
      · rw [← hg a ha]
        have e1 : ∀ T : List Int, firstS a.1 (es.take p ++ T) = firstS a.1 es := fun T => by
          rw [fsA, if_neg z]
          conv => rhs; rw [sp]
          rw [fsA, if_neg z]
        unfold seenI; rw [e1]
theorem fix_iff {n : Int} {r : Bool} {es : List Int} {A : List Ans} (hes : Ord n r es) (hA : r = false → ∀ a ∈ A, stp a.1 0 ≠ 80) :
    fixB n r es A = true ↔ gvB A es = true ∧ ∀ e, Ord n r e → gvB A e = true → e = es := by
  unfold fixB
  rw [Bool.and_eq_true]
  constructor
  · rintro ⟨h1, h2⟩
    refine ⟨h1, fun e he hg => Classical.byContradiction fun hne => ?_⟩
    obtain ⟨p, hp, o, ho, hl⟩ := fix_other he hes hne (gv_iff.mp hg)
    have h3 := List.all_eq_true.mp h2 p (List.mem_range.mpr (by omega))
    have h4 := List.all_eq_true.mp h3 o ho
    rw [List.all_eq_true.mpr hl] at h4
    cases h4
  · rintro ⟨h1, h2⟩
    refine ⟨h1, List.all_eq_true.mpr fun p hp => List.all_eq_true.mpr fun o ho => ?_⟩
    cases z : (leftL es p A).all fun a => givB o a.1 a.2 with
    | false => rfl
    | true =>
      have hp := List.mem_range.mp hp
      obtain ⟨e, he, hne, hg⟩ := fix_made hes hA (gv_iff.mp h1) (p := p) (by omega) ho (List.all_eq_true.mp z)
      exact absurd (h2 e he (gv_iff.mpr hg)) hne
/-! ### trials that fix an order -/
def putK (c : Nat) (qs : List Int) (L : List Nat) : List Nat := qs.foldl (fun L q => L.set q.toNat c) L
def plcK (n : Int) (r : Bool) (hi lo : List Int) : List Nat := putK 71 hi (putK 75 lo ((if r = true then 80 else 75) :: List.replicate n.toNat 80))
theorem put_len {c : Nat} : ∀ {qs : List Int} {L : List Nat}, (putK c qs L).length = L.length
  | [], _ => rfl
  | q :: qs, L => by
    show (putK c qs (L.set q.toNat c)).length = _
    rw [put_len, List.length_set]
theorem plc_len {n : Int} {r : Bool} {hi lo : List Int} : (plcK n r hi lo).length = n.toNat + 1 := by
  unfold plcK
  rw [put_len, put_len, List.length_cons, List.length_replicate]
def laterK (n : Int) (r : Bool) (es : List Int) : List Int := (upto (e0 r) (n + 1)).filter fun q => !decide (q ∈ es)
def setK (n : Int) (r : Bool) (es : List Int) : List (List Nat) :=
  ((List.range es.length).map fun p => (plcK n r [es.getD p 0] (laterK n r (es.take (p + 1)))).reverse) ++ (if es.getLast? = some 0 then [] else [(plcK n r (laterK n r es) []).reverse])
theorem atLowP {r : Bool} : atI [D.str "K", D.str "P"] (e0 r) = some (D.str (S [if r = true then 80 else 75])) := by cases r <;> rfl
theorem ixN_of {n : Nat} {k : Int} (h : 0 ≤ k ∧ k < (n : Int)) : ixN n k = some k.toNat := by
  unfold ixN; rw [if_pos h.1, if_pos h.2]
local macro_rules | `(tactic| walk_at "pb") => `(tactic| first | assumption | (intro q hq; cases hq; done) | (intro q hq; rw [List.mem_singleton] at hq; omega))
local macro_rules | `(tactic| walk_at "sz") => `(tactic| assumption)
local macro_rules | `(tactic| walk_at "od") => `(tactic| assumption)
local macro_rules | `(tactic| walk_at "gf") => `(tactic| assumption)
local macro_rules | `(tactic| walk_at "fz") => `(tactic| first | assumption | exact ‹_›)
theorem pb0 {n : Int} : ∀ q ∈ ([] : List Int), 0 ≤ q ∧ q ≤ n := fun q hq => (nomatch hq)
local macro_rules | `(tactic| walk_at "tx") => `(tactic| first | assumption | rfl)
def tr_Lplaced : Tr := fun ds M P => ∃ (n : Int) (r : Bool) (hi lo : List Int) (a b : List D), ds = [.int n, .int (e0 r), .lst a, .lst b] ∧ a = hi.map D.int ∧ b = lo.map D.int ∧ (1 ≤ n ∧ n ≤ 1000) ∧ (∀ q ∈ hi, 0 ≤ q ∧ q ≤ n) ∧ (∀ q ∈ lo, 0 ≤ q ∧ q ≤ n) ∧ P (.str (S (plcK n r hi lo).reverse)) M
theorem len_Lplaced {ds M P} (t : tr_Lplaced ds M P) : ds.length = 4 := by obtain ⟨_, _, _, _, _, _, rfl, _⟩ := t; rfl
theorem ok_Lplaced {pg : Program} {w : World} {K : PySem.W.Frag} {mg : Str → Option Value} {base : Heap} (T : Txt K mg) : FnOk pg w K mg base CX0 1 (He.fAd K ("_law_placed", none)) T.d_Lplaced.choose ["_law_bits", "_law_low", "_law_high_ones", "_law_low_ones"] (SpD K tr_Lplaced) :=
  fn_okD T.d_Lplaced.choose_spec sc_Lplaced (fun ds M P t => len_Lplaced t) fun cdv A outer s H ds M P hr t => by
  obtain ⟨n, r, hi, lo, _, _, rfl, rfl, rfl, hn, hh, hl, k⟩ := t
  have e1 : [D.str (S [if r = true then 80 else 75])] ++ (List.replicate n.toNat [D.str "P"]).flatten = sgl ((if r = true then 80 else 75) :: List.replicate n.toNat 80) := by
    rw [List.flatten_replicate_singleton]
    unfold sgl
    rw [List.map_cons, List.map_replicate]; rfl
  have hz1 : [D.str "P"].length * n.toNat ≤ 1000000 := by simp; omega
  have hz2 : [D.str (S [if r = true then 80 else 75])].length + (List.replicate n.toNat [D.str "P"]).flatten.length ≤ 1000000 := by simp; omega
  refine gx_seq (g1_asg (ex_bin (ex_lst (ax_cons (ex_ix (ex_lst (ax_cons (ex_str (ax_cons (ex_str (ax_nil (⟨le_b rfl, ex_var 1 rfl (id_seq .lst (atLowP) (ax_nil (⟨le_b rfl, ex_bin (ex_lst (ax_cons (ex_str (ax_nil (⟨le_b rfl, ex_var 0 rfl (od_mulL .lst (by walk_at "cm") (by walk_at "sz") (od_addLM .lst .lst (by walk_at "sz") (fun p hp => as_name 4 (?_) sc_Lplaced.nd)))⟩)))))⟩)))⟩))))))))))))
  rw [e1]
  have hlen : ((if r = true then 80 else 75) :: List.replicate n.toNat 80 : List Nat).length = n.toNat + 1 := by rw [List.length_cons, List.length_replicate]
  have ek : plcK n r hi lo = putK 71 hi (putK 75 lo ((if r = true then 80 else 75) :: List.replicate n.toNat 80)) := rfl
  rw [ek] at k
  generalize ((if r = true then 80 else 75) :: List.replicate n.toNat 80 : List Nat) = B at *
  have tk : ∀ (c : Nat) (qs : List Int) (i : Nat) (hi : i < qs.length) (L : List Nat), putK c (qs.take (i + 1)) L = (putK c (qs.take i) L).set (qs.getD i 0).toNat c := fun c qs i hi L => by
    unfold putK
    rw [List.take_succ_eq_append_getElem hi, List.foldl_append, List.getD_eq_getElem?_getD, List.getElem?_eq_getElem hi]; rfl
  have es : ∀ (c : Nat) (L : List Nat) (i : Nat), (sgl L).set i (.str (S [c])) = sgl (L.set i c) := fun c L i => by unfold sgl; rw [List.map_set]
  refine gx_seq (g1_for PassesOwn.never rfl (ix_lst (ex_var 3 rfl (⟨_, rfl, ⟨fun i ρ' M' => M' = up M p (.lst (sgl (putK 75 (lo.take i) B))) ∧ ∃ x, ρ' = [some (.int n), some (.int (e0 r)), some (.lst (hi.map D.int)), some (.lst (lo.map D.int)), some (.adr p), x], ⟨rfl, _, rfl⟩, ?hs, ?hd⟩⟩))))
  case hs =>
    rintro i d ρ' M' hd ⟨rfl, x, rfl⟩
    obtain ⟨hi2, rfl⟩ := map_at (0 : Int) hd
    have hb := hl _ (getD_in (x := (0 : Int)) hi2)
    have hL : (putK 75 (lo.take i) B).length = n.toNat + 1 := by rw [put_len, hlen]
    refine as_name 5 (?_) sc_Lplaced.nd
    refine gx_seq (g1_setIx (ex_str (ex_var 4 rfl (ex_var 5 rfl (⟨_, _, _, _, _, rfl, rfl, at0, (ixN_of (by rw [sgl_len]; omega)), ?_⟩)))))
    rw [lit_K, es, ← tk 75 lo i hi2]
    exact gx_nil ⟨rfl, _, rfl⟩
  case hd =>
    rintro ρ' M' ⟨rfl, x, rfl⟩
    rw [List.length_map, List.take_length]
    show GX _ _ _ _ _ _
    have hlen2 : (putK 75 lo B).length = n.toNat + 1 := by rw [put_len, hlen]
    generalize putK 75 lo B = B2 at *
    refine gx_seq (g1_for PassesOwn.never rfl (ix_lst (ex_var 2 rfl (⟨_, rfl, ⟨fun i ρ' M' => M' = up M p (.lst (sgl (putK 71 (hi.take i) B2))) ∧ ∃ x, ρ' = [some (.int n), some (.int (e0 r)), some (.lst (hi.map D.int)), some (.lst (lo.map D.int)), some (.adr p), x], ⟨rfl, _, rfl⟩, ?hs, ?hd⟩⟩))))
    case hs =>
      rintro i d ρ' M' hd ⟨rfl, x, rfl⟩
      obtain ⟨hi2, rfl⟩ := map_at (0 : Int) hd
      have hb := hh _ (getD_in (x := (0 : Int)) hi2)
      have hL : (putK 71 (hi.take i) B2).length = n.toNat + 1 := by rw [put_len, hlen2]
      refine as_name 5 (?_) sc_Lplaced.nd
      refine gx_seq (g1_setIx (ex_str (ex_var 4 rfl (ex_var 5 rfl (⟨_, _, _, _, _, rfl, rfl, at0, (ixN_of (by rw [sgl_len]; omega)), ?_⟩)))))
      rw [lit_G, es, ← tk 71 hi i hi2]
      exact gx_nil ⟨rfl, _, rfl⟩
    case hd =>
      rintro ρ' M' ⟨rfl, x, rfl⟩
      rw [List.length_map, List.take_length]
      show GX _ _ _ _ _ _
      have hL : (putK 71 hi B2).length = n.toNat + 1 := by rw [put_len, hlen2]
      generalize putK 71 hi B2 = B3 at *
      have hzj : sizeJ (sgl B3).reverse + (sgl B3).reverse.length * ("" : Str).length ≤ 16777216 := by
        rw [sgl_rev, sgl_size, sgl_len, List.length_reverse, show ("" : Str).length = 0 from rfl]; omega
      have hj : Txt.join "" ((sgl B3).reverse.map toS) = S B3.reverse := by rw [sgl_rev, join_sgl]
      refine gx_seq (g1_ret (ex_drop (ex_join (ex_str (⟨_, rfl, ex_revL (ex_var 4 rfl (⟨_, (.adr up_same), ⟨_, .lst, by walk_at "js", by walk_at "sz", ⟨_, _, _, hp, rfl, ?_⟩⟩⟩))⟩)))))
      rw [hj]
      exact k
theorem ca_Lplaced {X : Cx} {J : Gh} {e : Expr} {es : List Expr} {ρ : DEnv} {M : Mem} {P : D → Mem → Prop} {pos p : Pos} (T : Txt X.K X.mg) (hr : Room 1 X.A) (h : AX X J (e :: es) ρ M fun ds M1 => tr_Lplaced (ds ++ []) M1 P) (hg : Gl X "_law_placed" := by rfl)
    (he : starEach (e :: es) X.env = (false, eval e X.env) :: starEach es X.env := by rfl) (hpl : (backTo pos (starEach es X.env)).any (·.1) = false := by rfl) : EX X J (.Call (.Name "_law_placed" p) (e :: es) [] pos) ρ M P :=
  ex_call (ok_Lplaced T) hr T.m_Lplaced T.d_Lplaced.choose_spec.kp (T.d_Lplaced.choose_spec.bindsN fun _ _ _ _ _ _ us hl => match us, hl with | [_, _, _, _], _ => rfl) .nil (fun _ => .nil) h hg (by decide) he hpl
def tr_Lanswered : Tr := fun ds M P => ∃ (R : List Int) (ts : List (List Nat)) (a : List D), ds = [.tup (R.map D.int), .lst a] ∧ a = txD ts ∧ (∀ t ∈ ts, (∀ p ∈ R, 0 ≤ p ∧ p < (t.length : Int)) ∧ t.length ≤ 1000) ∧ ts.length ≤ 1000 ∧ P (.lst ((ts.map fun t => ((t, seenI t R) : Ans)).map ansD)) M
theorem len_Lanswered {ds M P} (t : tr_Lanswered ds M P) : ds.length = 2 := by obtain ⟨_, _, _, rfl, _⟩ := t; rfl
theorem ok_Lanswered {pg : Program} {w : World} {K : PySem.W.Frag} {mg : Str → Option Value} {base : Heap} (T : Txt K mg) : FnOk pg w K mg base CX0 2 (He.fAd K ("_law_answered", none)) T.d_Lanswered.choose ["_law_entries", "_law_tests"] (SpD K tr_Lanswered) :=
  fn_okD T.d_Lanswered.choose_spec sc_Lanswered (fun ds M P t => len_Lanswered t) fun cdv A outer s H ds M P hr t => by
  obtain ⟨R, ts, _, rfl, rfl, hf, hl, k⟩ := t
  have hz : (txD ts).length ≤ 1000000 := by rw [txD_len]; omega
  refine gx_seq (g1_ret (ex_lc (own := [("_law_test", 2)]) (hN := sc_Lanswered.nd) rfl (ix_lst (ex_var 1 rfl (⟨_, rfl, lcI (fun i => ansD (ts.getD i [], seenI (ts.getD i []) R)) (fun _ => true) ?lc0a (by walk_at "sz") (?_)⟩)))))
  case lc0a =>
    intro i d acc Dl hd hi hD
    obtain ⟨hi2, rfl⟩ := map_at (f := fun t => D.str (S t)) ([] : List Nat) hd
    obtain ⟨hft, hlt⟩ := hf _ (getD_in (x := ([] : List Nat)) hi2)
    have hlz : (ts.getD i []).length ≤ 1000000 := by omega
    refine asb_name 2 (txb_nil ⟨rfl, rfl, fun _ => fun _ _ _ _ _ => ex_tup (ax_cons (ex_var 2 rfl (ax_cons (ex_ty T.b_int bb_int (ax_cons (ex_cmp (ca_Llook T (hr.mono (by decide)) (ax_cons (ex_var 2 rfl (ax_cons (ex_var 0 rfl (ax_nil (⟨_, _, _, rfl, by walk_at "oi", by walk_at "fs", by walk_at "sz", ex_str (od_eq rfl (ax_nil (cd_intB (ax_nil (⟨le_b rfl, ⟨?_, rfl⟩⟩)))))⟩)))))))))))))⟩) (hN := sc_Lanswered.nd)
    unfold ansD
    congr 4
    rw [lit_G, sceq_S]
    unfold seenI
    by_cases z : firstS (ts.getD i []) R = 71 <;> simp [z]
  rw [txD_len, lcR_mapAll (l := ts) (x := []) (g := fun t => ansD (t, seenI t R))]
  have e : (ts.map fun t => ansD (t, seenI t R)) = (ts.map fun t => ((t, seenI t R) : Ans)).map ansD := by rw [List.map_map]; rfl
  rw [e]
  exact k
theorem ca_Lanswered {X : Cx} {J : Gh} {e : Expr} {es : List Expr} {ρ : DEnv} {M : Mem} {P : D → Mem → Prop} {pos p : Pos} (T : Txt X.K X.mg) (hr : Room 2 X.A) (h : AX X J (e :: es) ρ M fun ds M1 => tr_Lanswered (ds ++ []) M1 P) (hg : Gl X "_law_answered" := by rfl)
    (he : starEach (e :: es) X.env = (false, eval e X.env) :: starEach es X.env := by rfl) (hpl : (backTo pos (starEach es X.env)).any (·.1) = false := by rfl) : EX X J (.Call (.Name "_law_answered" p) (e :: es) [] pos) ρ M P :=
  ex_call (ok_Lanswered T) hr T.m_Lanswered T.d_Lanswered.choose_spec.kp (T.d_Lanswered.choose_spec.bindsN fun _ _ _ _ _ _ us hl => match us, hl with | [_, _], _ => rfl) .nil (fun _ => .nil) h hg (by decide) he hpl
def tr_Lset : Tr := fun ds M P => ∃ (n : Int) (r : Bool) (es : List Int), ds = [.int n, .int (e0 r), .tup (es.map D.int)] ∧ (1 ≤ n ∧ n ≤ 100) ∧ (Ord n r es ∧ es.length ≤ 100) ∧ P (.lst (txD (setK n r es))) M
theorem len_Lset {ds M P} (t : tr_Lset ds M P) : ds.length = 3 := by obtain ⟨_, _, _, rfl, _⟩ := t; rfl
theorem ok_Lset {pg : Program} {w : World} {K : PySem.W.Frag} {mg : Str → Option Value} {base : Heap} (T : Txt K mg) : FnOk pg w K mg base CX0 2 (He.fAd K ("_law_set", none)) T.d_Lset.choose ["_law_bits", "_law_low", "_law_entries"] (SpD K tr_Lset) :=
  fn_okD T.d_Lset.choose_spec sc_Lset (fun ds M P t => len_Lset t) fun cdv A outer s H ds M P hr t => by
  obtain ⟨n, r, es, rfl, hn, ⟨⟨hes, hgd, hb⟩, hl⟩, k⟩ := t
  have h0r : e0 r = 0 ∨ e0 r = 1 := by unfold e0; split <;> simp
  have hne : (!(es.map D.int).isEmpty) = true := by
    cases es with
    | nil => exact absurd rfl hes
    | cons a l => rfl
  obtain ⟨z, hz⟩ : ∃ z, es.getLast? = some z := ⟨_, List.getLast?_eq_some_getLast hes⟩
  have hq : sceq (.int (es.getLast?.getD 0)) (.int 0) = decide (es.getLast? = some 0) := by
    rw [hz]; show decide (z = 0) = _; simp
  obtain ⟨U, hU⟩ : ∃ U, U = upto (e0 r) (n + 1) := ⟨_, rfl⟩
  have hUl : U.length ≤ 101 := by rw [hU, upto_len]; omega
  have hUb : ∀ q ∈ U, 0 ≤ q ∧ q ≤ n := fun q hq => by rw [hU] at hq; have := upto_mem hq; omega
  have hUz : (U.map D.int).length ≤ 1000000 := by rw [List.length_map]; omega
  refine gx_seq (g1_asg (ex_lstM (ax_nil (⟨le_b rfl, fun p hp => as_name 3 (?_) sc_Lset.nd⟩))))
  refine gx_seq (g1_asg (ex_lstR rfl T.b_list T.b_range (ax_cons (ex_var 1 rfl (ax_cons (ex_bin (ex_var 0 rfl (ex_int (od_add (ax_nil (⟨_, _, _, rg2 (by walk_at "cm"), as_name 4 (?_) sc_Lset.nd⟩)))))))))))
  rw [rngC_one, rngD_upto, ← hU]
  have hlat : ∀ L : List Int, laterK n r L = U.filter fun q => !decide (q ∈ L) := fun L => by unfold laterK; rw [hU]
  have hlb : ∀ L : List Int, ∀ q ∈ laterK n r L, 0 ≤ q ∧ q ≤ n := fun L q hq => by rw [hlat] at hq; exact hUb q (List.mem_filter.mp hq).1
  have hrl : ((es.map D.int).length : Int) = (es.length : Int) := by rw [List.length_map]
  refine gx_seq (g1_for PassesOwn.never rfl (ix_range1 T.b_range (ax_cons (ex_blt T.b_len bb_len (ax_cons (ex_var 2 rfl (ax_nil (cd_len .tup (ax_nil (⟨_, rfl, by walk_at "cm", ⟨fun i ρ' M' => M' = up M p (.lst (txD ((List.range i).map fun p => (plcK n r [es.getD p 0] (laterK n r (es.take (p + 1)))).reverse))) ∧ ∃ x y z, ρ' = [some (.int n), some (.int (e0 r)), some (.tup (es.map D.int)), some (.adr p), some (.lst (U.map D.int)), x, y, z], ⟨rfl, _, _, _, rfl⟩, ?hs, ?hd⟩⟩))))))))))
  case hs =>
    rintro p2 d ρ' M' hd ⟨rfl, x, y, z, rfl⟩
    obtain ⟨hp2, rfl⟩ := rngD_at hd
    have hpl : p2 < es.length := by omega
    rw [Int.zero_add]
    have hct : cutD (es.map D.int) none (some ((p2 : Int) + 1)) = (es.take (p2 + 1)).map D.int := by
      rw [cut_ints, ← cutA_take (k := p2 + 1)]; rfl
    have e6 : (List.range (p2 + 1)).map (fun p => (plcK n r [es.getD p 0] (laterK n r (es.take (p + 1)))).reverse) = (List.range p2).map (fun p => (plcK n r [es.getD p 0] (laterK n r (es.take (p + 1)))).reverse) ++ [(plcK n r [es.getD p2 0] (laterK n r (es.take (p2 + 1)))).reverse] := by
      rw [List.range_succ, List.map_append]; rfl
    have hge := hb _ (getD_in (x := (0 : Int)) hpl)
    have hhi : ∀ q ∈ [es.getD (p2 : Int).toNat 0], 0 ≤ q ∧ q ≤ n := fun q hq => by rw [List.mem_singleton, Int.toNat_natCast] at hq; rw [hq]; omega
    have hlo := hlb (es.take (p2 + 1))
    have hlz : (txD ((List.range p2).map fun p => (plcK n r [es.getD p 0] (laterK n r (es.take (p + 1)))).reverse)).length < 1000000 := by rw [txD_len, List.length_map, List.length_range]; omega
    refine as_name 5 (?_) sc_Lset.nd
    refine gx_seq (g1_mid (fun ρ' M' => M' = up M p (.lst (txD ((List.range p2).map fun p => (plcK n r [es.getD p 0] (laterK n r (es.take (p + 1)))).reverse))) ∧ ∃ z, ρ' = [some (.int n), some (.int (e0 r)), some (.tup (es.map D.int)), some (.adr p), some (.lst (U.map D.int)), some (.int (p2 : Int)), some (.lst ((laterK n r (es.take (p2 + 1))).map D.int)), z]) (g1_lc (own := [("_law_entry", 7)]) (hN := sc_Lset.nd) 6 rfl (ix_lst (ex_var 4 rfl (⟨_, rfl, lcI (fun i => D.int (U.getD i 0)) (fun i => !decide (U.getD i 0 ∈ es.take (p2 + 1))) ?lc2_0a (by walk_at "sz") (?_)⟩)))) ?_)
    case lc2_0a =>
      intro i d acc Dl hd hi hD
      obtain ⟨hi2, rfl⟩ := map_at (0 : Int) hd
      refine asb_name 7 (txb_one fun _ _ _ _ _ => tx_cmp (ex_var 7 rfl (ex_slice (ex_var 2 rfl (ox_none (ox_some (ex_bin (ex_var 5 rfl (ex_int (od_add (⟨_, rfl, sd_tupA (od_notInI .tup (by walk_at "mi") (⟨_, rfl, ⟨rfl, rfl, fun ht => fun _ _ _ _ _ => ex_var 7 rfl (⟨rfl, rfl⟩)⟩⟩))⟩))))))))))) (hN := sc_Lset.nd)
    · have e7 : lcR (U.map D.int).length (fun i => !decide (U.getD i 0 ∈ es.take (p2 + 1))) (fun i => D.int (U.getD i 0)) = (laterK n r (es.take (p2 + 1))).map D.int := by
        rw [List.length_map, lcR_of (l := U) (x := 0) (f := fun q => !decide (q ∈ es.take (p2 + 1))) (g := D.int), hlat]
      rw [e7]
      exact ⟨rfl, _, rfl⟩
    rintro ρ' M' ⟨rfl, z, rfl⟩
    show GX _ _ _ _ _ _
    refine gx_seq (g1_expr (ex_append (ex_var 3 rfl (⟨_, _, rfl, at0.get, ax_cons (ca_Lplaced T (hr.mono (by decide)) (ax_cons (ex_var 0 rfl (ax_cons (ex_var 1 rfl (ax_cons (ex_lst (ax_cons (ex_ix (ex_var 2 rfl (ex_var 5 rfl (id_seq .tup ((atI_ints (by omega) (by omega))) (ax_nil (⟨le_b rfl, ax_cons (ex_var 6 rfl (ax_nil (⟨_, _, _, _, _, _, rfl, by walk_at "oi", by walk_at "oi", by walk_at "cm", by walk_at "pb", by walk_at "pb", ax_nil (⟨_, _, _, rfl, at0, by walk_at "sz", ?_⟩)⟩)))⟩))))))))))))))⟩))))
    rw [Int.toNat_natCast]
    have e8 : txD ((List.range p2).map fun p => (plcK n r [es.getD p 0] (laterK n r (es.take (p + 1)))).reverse) ++ [D.str (S (plcK n r [es.getD p2 0] (laterK n r (es.take (p2 + 1)))).reverse)] = txD ((List.range (p2 + 1)).map fun p => (plcK n r [es.getD p 0] (laterK n r (es.take (p + 1)))).reverse) := by
      rw [e6, txD_app]; rfl
    rw [e8]
    exact gx_nil ⟨rfl, _, _, _, rfl⟩
  case hd =>
    rintro ρ' M' ⟨rfl, x, y, z, rfl⟩
    rw [rngD_len, show (((es.map D.int).length : Int)).toNat = es.length by rw [List.length_map]; omega]
    show GX _ _ _ _ _ _
    have ek : setK n r es = ((List.range es.length).map fun p => (plcK n r [es.getD p 0] (laterK n r (es.take (p + 1)))).reverse) ++ (if es.getLast? = some 0 then [] else [(plcK n r (laterK n r es) []).reverse]) := rfl
    rw [ek] at k
    have hWl : ((List.range es.length).map fun p => (plcK n r [es.getD p 0] (laterK n r (es.take (p + 1)))).reverse).length ≤ 100 := by rw [List.length_map, List.length_range]; omega
    generalize (List.range es.length).map (fun p => (plcK n r [es.getD p 0] (laterK n r (es.take (p + 1)))).reverse) = W at *
    have hWz : (txD W).length < 1000000 := by rw [txD_len]; omega
    have hlo2 := hlb es
    have hno : ∀ q ∈ ([] : List Int), 0 ≤ q ∧ q ≤ n := pb0
    refine gx_seq (g1_mid (fun ρ' M' => M' = up M p (.lst (txD (W ++ (if es.getLast? = some 0 then [] else [(plcK n r (laterK n r es) []).reverse])))) ∧ ∃ x y z, ρ' = [some (.int n), some (.int (e0 r)), some (.tup (es.map D.int)), some (.adr p), some (.lst (U.map D.int)), x, y, z]) (g1_if (tx_cmp (ex_ix (ex_var 2 rfl (ex_neg (ex_int (⟨_, rfl, id_seq .tup ((foL hne)) (ex_int (od_ne rfl (⟨_, rfl, ⟨fun h => ?_, fun h => ?_⟩⟩)))⟩))))))) ?_)
    · rw [hq] at h
      have h0 : ¬ es.getLast? = some 0 := by simpa using h
      rw [if_neg h0]
      have e9 : lcR (U.map D.int).length (fun i => !decide (U.getD i 0 ∈ es)) (fun i => D.int (U.getD i 0)) = (laterK n r es).map D.int := by
        rw [List.length_map, lcR_of (l := U) (x := 0) (f := fun q => !decide (q ∈ es)) (g := D.int), hlat]
      refine gx_seq (g1_expr (ex_append (ex_var 3 rfl (⟨_, _, rfl, at0.get, ax_cons (ca_Lplaced T (hr.mono (by decide)) (ax_cons (ex_var 0 rfl (ax_cons (ex_var 1 rfl (ax_cons (ex_lc (own := [("_law_entry", 7)]) (hN := sc_Lset.nd) rfl (ix_lst (ex_var 4 rfl (⟨_, rfl, lcI (fun i => D.int (U.getD i 0)) (fun i => !decide (U.getD i 0 ∈ es)) ?lc3_0b (by walk_at "sz") (ax_cons (ex_lst (ax_nil (⟨le_b rfl, ax_nil (⟨_, _, _, _, _, _, rfl, by walk_at "oi", by walk_at "oi", by walk_at "cm", by walk_at "pb", by walk_at "pb", ax_nil (⟨_, _, _, rfl, at0, by walk_at "sz", ?_⟩)⟩)⟩))))⟩))))))))))⟩))))
      case lc3_0b =>
        intro i d acc Dl hd hi hD
        obtain ⟨hi2, rfl⟩ := map_at (0 : Int) hd
        refine asb_name 7 (txb_one fun _ _ _ _ _ => tx_cmp (ex_var 7 rfl (ex_var 2 rfl (od_notInI .tup (by walk_at "mi") (⟨_, rfl, ⟨rfl, rfl, fun ht => fun _ _ _ _ _ => ex_var 7 rfl (⟨rfl, rfl⟩)⟩⟩))))) (hN := sc_Lset.nd)
      have e8 : txD W ++ [D.str (S (plcK n r (laterK n r es) []).reverse)] = txD (W ++ [(plcK n r (laterK n r es) []).reverse]) := by rw [txD_app]; rfl
      rw [e8]
      exact gx_nil ⟨rfl, _, _, _, rfl⟩
    · rw [hq] at h
      have h0 : es.getLast? = some 0 := by simpa using h
      rw [if_pos h0, List.append_nil]
      exact gx_nil ⟨rfl, _, _, _, rfl⟩
    · rintro ρ' M' ⟨rfl, x, y, z, rfl⟩
      show GX _ _ _ _ _ _
      refine gx_seq (g1_ret (ex_frz (ex_var 3 rfl (⟨_, _, _, rfl, by walk_at "fz", rfl, ?_⟩))))
      exact k
theorem ca_Lset {X : Cx} {J : Gh} {e : Expr} {es : List Expr} {ρ : DEnv} {M : Mem} {P : D → Mem → Prop} {pos p : Pos} (T : Txt X.K X.mg) (hr : Room 2 X.A) (h : AX X J (e :: es) ρ M fun ds M1 => tr_Lset (ds ++ []) M1 P) (hg : Gl X "_law_set" := by rfl)
    (he : starEach (e :: es) X.env = (false, eval e X.env) :: starEach es X.env := by rfl) (hpl : (backTo pos (starEach es X.env)).any (·.1) = false := by rfl) : EX X J (.Call (.Name "_law_set" p) (e :: es) [] pos) ρ M P :=
  ex_call (ok_Lset T) hr T.m_Lset T.d_Lset.choose_spec.kp (T.d_Lset.choose_spec.bindsN fun _ _ _ _ _ _ us hl => match us, hl with | [_, _, _], _ => rfl) .nil (fun _ => .nil) h hg (by decide) he hpl
/-! ### the law's own way along the order -/
def AnsG (n : Int) (A : List Ans) : Prop := ∀ a ∈ A, (a.1.length : Int) = n + 1 ∧ (∀ c ∈ a.1, isS c) ∧ (a.2 = 0 ∨ a.2 = 1)
theorem S_inj {a b : List Nat} : S a = S b ↔ a = b := by
  constructor
  · intro h
    have := congrArg (fun z : Str => z.cps.toList) h
    simpa [tl_S] using this
  · rintro rfl; rfl
theorem eqv_ans : ∀ {A B : List Ans}, PyData.eqvAll (pyds (A.map ansD)) (pyds (B.map ansD)) = decide (A = B)
  | [], [] => by simp [pyds, PyData.eqvAll]
  | [], b :: bs => by simp [pyds, PyData.eqvAll]
  | a :: as, [] => by simp [pyds, PyData.eqvAll]
  | (a, c) :: as, (b, d) :: bs => by
    have ih := eqv_ans (A := as) (B := bs)
    simp only [List.map_cons, pyds, PyData.eqvAll, ih]
    have e : PyData.eqv (pyd (ansD (a, c))) (pyd (ansD (b, d))) = decide ((a, c) = (b, d)) := by
      simp only [ansD, pyd, pyds, PyData.eqv, PyData.eqvAll]
      by_cases h1 : a = b <;> by_cases h2 : c = d <;> simp [h1, h2, S_inj]
    rw [e]
    by_cases h1 : (a, c) = (b, d) <;> by_cases h2 : as = bs <;> simp [h1, h2]
theorem eqD_ans {A B : List Ans} : eqD (.lst (A.map ansD)) (.lst (B.map ansD)) = decide (A = B) := by
  show PyData.eqv (pyd _) (pyd _) = _
  simp only [pyd, PyData.eqv, eqv_ans]
theorem goods_ans : ∀ {A : List Ans}, (∀ a ∈ A, tx a.1 ∧ a.1.length ≤ 1000 ∧ 0 ≤ a.2 ∧ a.2 ≤ 1) → goods (A.map ansD)
  | [], _ => trivial
  | a :: A, h => by
    obtain ⟨h1, h2, h3, h4⟩ := h a List.mem_cons_self
    exact ⟨⟨(good_tx h1 (by omega)).1, ⟨by omega, by omega⟩, trivial⟩, goods_ans fun b hb => h b (List.mem_cons_of_mem _ hb)⟩
theorem deps_ans : ∀ {A : List Ans}, deps (A.map ansD) ≤ 1
  | [] => Nat.zero_le _
  | a :: A => by
    have := deps_ans (A := A)
    show max (dep (ansD a)) (deps (A.map ansD)) ≤ 1
    have : dep (ansD a) = 1 := rfl
    omega
theorem oth_all {n : Int} {r : Bool} {es : List Int} {p : Nat} {f : Option Int → Bool} (h : ¬ (p = es.length ∧ es.getLast? = some 0)) :
    (othL n r es p).all f = ((laterK n r (es.take (p + 1))).all (fun q => f (some q)) && (!decide (0 < p ∧ p < es.length) || f none)) := by
  unfold othL laterK
  rw [if_neg h, List.all_append, List.all_map]
  congr 1
  by_cases g : 0 < p ∧ p < es.length
  · rw [if_pos g]; simp [g]
  · rw [if_neg g]; simp [g]
theorem isS_tx {l : List Nat} (h : ∀ c ∈ l, isS c) : tx l := fun c hc => by rcases h c hc with rfl | rfl | rfl <;> decide
theorem stp_S {l : List Nat} {p : Int} (h : ∀ c ∈ l, isS c) (hp : 0 ≤ p ∧ p < (l.length : Int)) : isS (stp l p) := by
  unfold stp
  rw [List.getD_eq_getElem?_getD, List.getElem?_eq_getElem (by omega)]
  exact h _ (List.getElem_mem _)
theorem KG_at {c : Int} (h : c = 0 ∨ c = 1) : ("KG" : Str).cps.toList.getD c.toNat 0 = if c = 1 then 71 else 75 := by
  rcases h with rfl | rfl <;> decide
theorem inPK {a b : Nat} : inS (S [a]) [D.str "P", D.str (S [b])] = (decide (a = 80) || decide (a = b)) := by
  have e : ∀ x y : Nat, decide (S [x] = S [y]) = decide (y = x) := fun x y => by
    have : (S [x] = S [y]) ↔ y = x := by rw [S_inj]; simp [eq_comm]
    simp only [this]
  show (decide (toS (.str "P") = S [a]) || (decide (toS (.str (S [b])) = S [a]) || false)) = _
  rw [show toS (.str "P") = S [80] from lit_P, show toS (.str (S [b])) = S [b] from rfl, e, e, Bool.or_false]
theorem emp_all {L : List Ans} {f : Ans → Bool} : (lcR (L.map ansD).length (fun i => !f (L.getD i ([], 0))) (fun _ => D.int 1)).isEmpty = L.all f := by
  rw [List.length_map, lcR_of (l := L) (x := ([], 0)) (f := fun a => !f a) (g := fun _ => D.int 1)]
  rw [List.isEmpty_map, Bool.eq_iff_iff, List.isEmpty_iff, List.filter_eq_nil_iff, List.all_eq_true]
  constructor
  · intro h a ha; simpa using h a ha
  · intro h a ha; simpa using h a ha
theorem goods_ones {n : Nat} {t : Nat → Bool} : goods (lcR n t fun _ => D.int 1) ∧ deps (lcR n t fun _ => D.int 1) = 0 := by
  unfold lcR
  induction (List.range n).filter t with
  | nil => exact ⟨trivial, rfl⟩
  | cons a l ih => exact ⟨⟨⟨by decide, by decide⟩, ih.1⟩, by show max (dep (.int 1)) (deps _) = 0; rw [ih.2]; rfl⟩
local macro_rules | `(tactic| walk_at "ag") => `(tactic| assumption)
local macro_rules | `(tactic| walk_at "js") => `(tactic| rfl)
def tr_Lfixed : Tr := fun ds M P => ∃ (n : Int) (r : Bool) (es : List Int) (As : List Ans), ds = [.int n, .int (e0 r), .tup (es.map D.int), .lst (As.map ansD)] ∧ (1 ≤ n ∧ n ≤ 100) ∧ (Ord n r es ∧ es.length ≤ 100) ∧ AnsG n As ∧ As.length ≤ 1000 ∧ P (.bl (fixB n r es As)) M
theorem len_Lfixed {ds M P} (t : tr_Lfixed ds M P) : ds.length = 4 := by obtain ⟨_, _, _, _, rfl, _⟩ := t; rfl
theorem ok_Lfixed {pg : Program} {w : World} {K : PySem.W.Frag} {mg : Str → Option Value} {base : Heap} (T : Txt K mg) : FnOk pg w K mg base CX0 3 (He.fAd K ("_law_fixed", none)) T.d_Lfixed.choose ["_law_bits", "_law_low", "_law_entries", "_law_rows"] (SpD K tr_Lfixed) :=
  fn_okD T.d_Lfixed.choose_spec sc_Lfixed (fun ds M P t => len_Lfixed t) fun cdv A outer s H ds M P hr t => by
  obtain ⟨n, r, es, As, rfl, hn, ⟨⟨hes, hgd, hb⟩, hl⟩, hA, hAl, k⟩ := t
  have h0r : e0 r = 0 ∨ e0 r = 1 := by unfold e0; split <;> simp
  have hne : (!(es.map D.int).isEmpty) = true := by
    cases es with
    | nil => exact absurd rfl hes
    | cons a l => rfl
  obtain ⟨z, hz⟩ : ∃ z, es.getLast? = some z := ⟨_, List.getLast?_eq_some_getLast hes⟩
  have hq : sceq (.int (es.getLast?.getD 0)) (.int 0) = decide (es.getLast? = some 0) := by
    rw [hz]; show decide (z = 0) = _; simp
  have hAz : (As.map ansD).length ≤ 1000000 := by rw [List.length_map]; omega
  have eT : lcR (As.map ansD).length (fun _ => true) (fun i => D.str (S (As.getD i ([], 0)).1)) = txD (As.map (·.1)) := by
    rw [List.length_map, lcR_mapAll (l := As) (x := ([], 0)) (g := fun a => D.str (S a.1))]
    unfold txD; rw [List.map_map]; rfl
  have hTf : ∀ t ∈ As.map (·.1), (∀ p ∈ es, 0 ≤ p ∧ p < (t.length : Int)) ∧ t.length ≤ 1000 := fun t ht => by
    obtain ⟨a, ha, rfl⟩ := List.mem_map.mp ht
    have h1 := (hA a ha).1
    exact ⟨fun p hp => by have := hb p hp; omega, by omega⟩
  have hTl : (As.map (·.1)).length ≤ 1000 := by rw [List.length_map]; exact hAl
  have eX : ((As.map (·.1)).map fun t => ((t, seenI t es) : Ans)) = As.map fun a => ((a.1, seenI a.1 es) : Ans) := by rw [List.map_map]; rfl
  have hg1 : good (.lst (((As.map (·.1)).map fun t => ((t, seenI t es) : Ans)).map ansD)) := goods_ans fun a ha => by
    rw [eX] at ha
    obtain ⟨b, hb2, rfl⟩ := List.mem_map.mp ha
    obtain ⟨h1, h2, h3⟩ := hA b hb2
    exact ⟨isS_tx h2, by show b.1.length ≤ 1000; omega, by show 0 ≤ seenI b.1 es; unfold seenI; split <;> decide, by show seenI b.1 es ≤ 1; unfold seenI; split <;> decide⟩
  have hg2 : good (.lst (As.map ansD)) := goods_ans fun a ha => by
    obtain ⟨h1, h2, h3⟩ := hA a ha
    exact ⟨isS_tx h2, by omega, by omega, by omega⟩
  have hd1 : dep (.lst (((As.map (·.1)).map fun t => ((t, seenI t es) : Ans)).map ansD)) ≤ 50 := by rw [dep]; exact Nat.succ_le_succ (Nat.le_trans deps_ans (by decide))
  have hd2 : dep (.lst (As.map ansD)) ≤ 50 := by rw [dep]; exact Nat.succ_le_succ (Nat.le_trans deps_ans (by decide))
  refine gx_seq (g1_if (tx_cmp (ca_Lanswered T (hr.mono (by decide)) (ax_cons (ex_var 2 rfl (ax_cons (ex_lc (own := [("_law_test", 8), ("_law_told", 9)]) (hN := sc_Lfixed.nd) rfl (ix_lst (ex_var 3 rfl (⟨_, rfl, lcI (fun i => D.str (S (As.getD i ([], 0)).1)) (fun _ => true) ?lc0c (by walk_at "sz") (ax_nil (⟨_, _, _, rfl, by walk_at "tx", by walk_at "gf", by walk_at "sz", ex_var 3 rfl (od_neG hr.units (by walk_at "gd") (by walk_at "gd") (by walk_at "dp") (by walk_at "dp") (⟨_, rfl, ⟨fun h => ?_, fun h => ?_⟩⟩))⟩))⟩))))))))))
  case lc0c =>
    intro i d acc Dl hd hi hD
    obtain ⟨hi2, rfl⟩ := ansD_at hd
    refine asb_tup rfl (asb_cons (asb_name 8 (asb_cons (asb_name 9 (asb_nil (txb_nil ⟨rfl, rfl, fun _ => fun _ _ _ _ _ => ex_var 8 rfl (⟨rfl, rfl⟩)⟩)) (hN := sc_Lfixed.nd))) (hN := sc_Lfixed.nd)))
  · rw [eqD_ans, eX] at h
    have e : (As.all fun a => decide (seenI a.1 es = a.2)) = false := by
      rw [List.all_eq_false]
      refine Classical.byContradiction fun z => ?_
      have h : ¬ (As.map fun a => ((a.1, seenI a.1 es) : Ans)) = As := by simpa using h
      apply h
      conv => rhs; rw [← List.map_id As]
      refine List.map_congr_left fun a ha => ?_
      have : seenI a.1 es = a.2 := by
        refine Classical.byContradiction fun w => z ⟨a, ha, by simp [w]⟩
      rw [this]; rfl
    have ef : fixB n r es As = false := by unfold fixB; rw [e]; rfl
    rw [ef] at k
    refine gx_seq (g1_ret (ex_bl (?_)))
    exact k
  have eall : (As.all fun a => decide (seenI a.1 es = a.2)) = true := by
    rw [eqD_ans, eX] at h
    have h : (As.map fun a => ((a.1, seenI a.1 es) : Ans)) = As := by simpa using h
    rw [List.all_eq_true]
    intro a ha
    rw [← h] at ha
    obtain ⟨b, hb2, rfl⟩ := List.mem_map.mp ha
    simp
  have ef : fixB n r es As = (List.range (es.length + 1)).all fun p => (othL n r es p).all fun o => !(leftL es p As).all fun a => givB o a.1 a.2 := by unfold fixB; rw [eall]; rfl
  rw [ef] at k
  repeat clear h
  clear ef eall
  refine gx_nil ?_
  refine gx_seq (g1_asg (ex_var 3 rfl (as_name 4 (?_) sc_Lfixed.nd)))
  have hrg : ((es.map D.int).length : Int) + (if (!sceq (.int (es.getLast?.getD 0)) (.int 0)) = true then (1 : Int) else 0) = ((es.length + (if es.getLast? = some 0 then 0 else 1) : Nat) : Int) := by
    rw [hq, List.length_map]
    by_cases w : es.getLast? = some 0 <;> simp [w]
  have hrc : -16777216 ≤ ((es.map D.int).length : Int) + (if (!sceq (.int (es.getLast?.getD 0)) (.int 0)) = true then (1 : Int) else 0) ∧ ((es.map D.int).length : Int) + (if (!sceq (.int (es.getLast?.getD 0)) (.int 0)) = true then (1 : Int) else 0) ≤ 16777216 := by
    rw [hrg]
    have : (if es.getLast? = some 0 then 0 else 1) ≤ 1 := by split <;> decide
    omega
  refine gx_seq (g1_for PassesOwn.never rfl (ix_range1 T.b_range (ax_cons (ex_bin (ex_blt T.b_len bb_len (ax_cons (ex_var 2 rfl (ax_nil (cd_len .tup (ex_ty T.b_int bb_int (ax_cons (ex_cmp (ex_ix (ex_var 2 rfl (ex_neg (ex_int (⟨_, rfl, id_seq .tup ((foL hne)) (ex_int (od_ne rfl (ax_nil (cd_intB (od_add (ax_nil (⟨_, rfl, by walk_at "cm", ⟨fun i ρ' M' => M' = M ∧ (∀ p, p < i → ((othL n r es p).all fun o => !(leftL es p As).all fun a => givB o a.1 a.2) = true) ∧ ∃ x y z w v, ρ' = [some (.int n), some (.int (e0 r)), some (.tup (es.map D.int)), some (.lst (As.map ansD)), some (.lst ((leftL es (min i es.length) As).map ansD)), x, y, z, w, v], ⟨rfl, fun p hp => absurd hp (Nat.not_lt_zero _), _, _, _, _, _, rfl⟩, ?hs, ?hd⟩⟩)))))))⟩)))))))))))))))))
  case hs =>
    rintro p2 d ρ' M' hd ⟨rfl, hbe, x, y, z, w, v, rfl⟩
    obtain ⟨hp, rfl⟩ := rngD_at hd
    rw [hrg] at hp
    have hp1 : p2 < es.length + (if es.getLast? = some 0 then 0 else 1) := by omega
    have hp2 : p2 ≤ es.length := by split at hp1 <;> omega
    have hno : ¬ (p2 = es.length ∧ es.getLast? = some 0) := by
      rintro ⟨w1, w2⟩
      rw [if_pos w2] at hp1; omega
    have hll := left_len (es := es) (A := As) (p := p2)
    have hLA : ∀ a ∈ leftL es p2 As, a ∈ As := fun a ha => left_sub ha
    have hstep : leftL es (p2 + 1) As = (leftL es p2 As).filter fun a => decide (stp a.1 (es.getD p2 0) = 80) := rfl
    rw [Nat.min_eq_left hp2, Int.zero_add]
    generalize hL : leftL es p2 As = L at *
    have hLz : (L.map ansD).length ≤ 1000000 := by rw [List.length_map]; omega
    have hfalse : ∀ o, o ∈ othL n r es p2 → (L.all fun a => givB o a.1 a.2) = true → ((List.range (es.length + 1)).all fun p => (othL n r es p).all fun o => !(leftL es p As).all fun a => givB o a.1 a.2) = false := fun o ho hg => by
      rw [List.all_eq_false]
      refine ⟨p2, List.mem_range.mpr (by omega), ?_⟩
      rw [Bool.not_eq_true, List.all_eq_false]
      exact ⟨o, ho, by rw [hL, hg]; decide⟩
    have hct : cutD (es.map D.int) none (some ((p2 : Int) + 1)) = (es.take (p2 + 1)).map D.int := by
      rw [cut_ints, ← cutA_take (k := p2 + 1)]; rfl
    have hrn : (n + 1 - e0 r).toNat = (upto (e0 r) (n + 1)).length := by rw [upto_len]
    have hzr : (rngD (e0 r) (n + 1 - e0 r).toNat).length ≤ 1000000 := by rw [rngD_len]; omega
    refine as_name 5 (?_) sc_Lfixed.nd
    refine gx_seq (g1_lc (own := [("_law_entry", 7)]) (hN := sc_Lfixed.nd) 6 rfl (ix_range2 T.b_range (ax_cons (ex_var 1 rfl (ax_cons (ex_bin (ex_var 0 rfl (ex_int (od_add (ax_nil (⟨_, _, rfl, by walk_at "cm", lcI (fun i => D.int (e0 r + (i : Int))) (fun i => !decide (e0 r + (i : Int) ∈ es.take (p2 + 1))) ?lc2_0a (by walk_at "sz") (?_)⟩)))))))))))
    case lc2_0a =>
      intro i d acc Dl hd hi hD
      obtain ⟨_, rfl⟩ := rngD_at hd
      refine asb_name 7 (txb_one fun _ _ _ _ _ => tx_cmp (ex_var 7 rfl (ex_slice (ex_var 2 rfl (ox_none (ox_some (ex_bin (ex_var 5 rfl (ex_int (od_add (⟨_, rfl, sd_tupA (od_notInI .tup (by walk_at "mi") (⟨_, rfl, ⟨rfl, rfl, fun ht => fun _ _ _ _ _ => ex_var 7 rfl (⟨rfl, rfl⟩)⟩⟩))⟩))))))))))) (hN := sc_Lfixed.nd)
    have eO : lcR (rngD (e0 r) (n + 1 - e0 r).toNat).length (fun i => !decide (e0 r + (i : Int) ∈ es.take (p2 + 1))) (fun i => D.int (e0 r + (i : Int))) = (laterK n r (es.take (p2 + 1))).map D.int := by
      rw [rngD_len]
      unfold laterK upto lcR
      rw [List.filter_map, List.map_map]; rfl
    rw [eO]
    obtain ⟨O, hO⟩ : ∃ O, O = laterK n r (es.take (p2 + 1)) := ⟨_, rfl⟩
    have hoth := fun f => oth_all (n := n) (r := r) (f := f) hno
    rw [← hO] at hoth ⊢
    have hOb : ∀ q ∈ O, e0 r ≤ q ∧ q < n + 1 := fun q hq => by rw [hO] at hq; exact upto_mem (List.mem_filter.mp hq).1
    have hOin : ∀ q ∈ O, some q ∈ othL n r es p2 := fun q hq => by
      unfold othL
      rw [if_neg hno, List.mem_append]
      exact .inl (List.mem_map.mpr ⟨q, by rw [hO] at hq; exact hq, rfl⟩)
    refine gx_seq (g1_for PassesOwn.never rfl (ix_lst (ex_var 6 rfl (⟨_, rfl, ⟨fun j ρ' M2 => M2 = M' ∧ ((O.take j).all fun q => !L.all fun a => givB (some q) a.1 a.2) = true ∧ ∃ z w v, ρ' = [some (.int n), some (.int (e0 r)), some (.tup (es.map D.int)), some (.lst (As.map ansD)), some (.lst (L.map ansD)), some (.int (p2 : Int)), some (.lst (O.map D.int)), z, w, v], ⟨rfl, rfl, _, _, _, rfl⟩, ?hs2, ?hd2⟩⟩))))
    case hs2 =>
      rintro j d ρ' M2 hd ⟨rfl, hbj, z, w, v, rfl⟩
      obtain ⟨hj, rfl⟩ := map_at (0 : Int) hd
      have hqm := getD_in (x := (0 : Int)) hj
      have hqb := hOb _ hqm
      have ejt : O.take (j + 1) = O.take j ++ [O.getD j 0] := by rw [List.take_succ_eq_append_getElem hj, List.getD_eq_getElem?_getD, List.getElem?_eq_getElem hj]; rfl
      have hqi := hOin _ hqm
      generalize O.getD j 0 = q at *
      have hgo := goods_ones (n := (L.map ansD).length) (t := fun i => !givB (some q) (L.getD i ([], 0)).1 (L.getD i ([], 0)).2)
      have hgo1 := hgo.1
      have hgo2 : deps (lcR (L.map ansD).length (fun i => !givB (some q) (L.getD i ([], 0)).1 (L.getD i ([], 0)).2) fun _ => D.int 1) ≤ 40 := by rw [hgo.2]; decide
      refine as_name 7 (?_) sc_Lfixed.nd
      refine gx_seq (g1_if (tx_cmp (ex_lc (own := [("_law_test", 8), ("_law_told", 9)]) (hN := sc_Lfixed.nd) rfl (ix_lst (ex_var 4 rfl (⟨_, rfl, lcI (fun _ => D.int 1) (fun i => !givB (some q) (L.getD i ([], 0)).1 (L.getD i ([], 0)).2) ?lc2_1_0b (by walk_at "sz") (ex_lst (ax_nil (⟨le_b rfl, od_eqNilA hr.units .lst (by walk_at "gd") (by walk_at "dp") (⟨_, rfl, ⟨fun h => ?_, fun h => ?_⟩⟩)⟩)))⟩))))))
      case lc2_1_0b =>
        intro i d acc Dl hd hi hD
        obtain ⟨hi2, rfl⟩ := ansD_at hd
        obtain ⟨ha1, ha2, ha3⟩ := hA _ (hLA _ (getD_in (x := (([], 0) : Ans)) hi2))
        have haz : (L.getD i ([], 0)).1.length ≤ 1000000 := by omega
        have hft : ∀ p ∈ [q], 0 ≤ p ∧ p < ((L.getD i ([], 0)).1.length : Int) := fun p hp => by rw [List.mem_singleton] at hp; rw [hp]; omega
        have hix : 0 ≤ (L.getD i ([], 0)).2 ∧ (L.getD i ([], 0)).2 < (("KG" : Str).cps.toList.length : Int) := by
          have : ("KG" : Str).cps.toList.length = 2 := by decide
          rw [this]; omega
        have hkz : ("KG" : Str).cps.toList.length ≤ 1000000 := by decide
        refine asb_tup rfl (asb_cons (asb_name 8 (asb_cons (asb_name 9 (asb_nil (txb_one fun _ _ _ _ _ => tx_cmp (ca_Llook T (hr.mono (by decide)) (ax_cons (ex_var 8 rfl (ax_cons (ex_tup (ax_cons (ex_var 7 rfl (ax_nil (⟨le_b rfl, ax_nil (⟨_, _, _, rfl, by walk_at "oi", by walk_at "fs", by walk_at "sz", ex_tup (ax_cons (ex_str (ax_cons (ex_ix (ex_str (ex_var 9 rfl (id_strA (by walk_at "ix") (by walk_at "sz") (ax_nil (⟨le_b rfl, od_notInA (by walk_at "js") (⟨_, rfl, ⟨?_, rfl, fun ht => fun _ _ _ _ _ => ex_int (⟨rfl, rfl⟩)⟩⟩)⟩)))))))))⟩)⟩))))))))))) (hN := sc_Lfixed.nd))) (hN := sc_Lfixed.nd)))
        rw [KG_at ha3, inPK]
        have hs := stp_S ha2 (hft q List.mem_cons_self)
        have e1 : firstS (L.getD i ([], 0)).1 [q] = stp (L.getD i ([], 0)).1 q := by
          rw [firstS, firstS]; split
          · rename_i w; exact w.symm
          · rfl
        rw [e1]
        show _ = !(decide (stp (L.getD i ([], 0)).1 q = 80) || decide (carryS (stp (L.getD i ([], 0)).1 q) = (L.getD i ([], 0)).2))
        rcases hs with w | w | w <;> rcases ha3 with u | u <;> rw [w, u] <;> decide
      · rw [emp_all (f := fun a => givB (some q) a.1 a.2)] at h
        rw [hfalse _ hqi h] at k
        refine gx_seq (g1_ret (ex_bl (?_)))
        exact k
      · rw [emp_all (f := fun a => givB (some q) a.1 a.2)] at h
        refine gx_nil (gx_nil ⟨rfl, ?_, _, _, _, rfl⟩)
        rw [ejt, List.all_append, hbj]
        simp [h]
    case hd2 =>
      rintro ρ' M2 ⟨rfl, hbj, z, w, v, rfl⟩
      rw [List.length_map, List.take_length] at hbj
      show GX _ _ _ _ _ _
      have hgo := goods_ones (n := (L.map ansD).length) (t := fun i => !givB none (L.getD i ([], 0)).1 (L.getD i ([], 0)).2)
      have hgo1 := hgo.1
      have hgo2 : deps (lcR (L.map ansD).length (fun i => !givB none (L.getD i ([], 0)).1 (L.getD i ([], 0)).2) fun _ => D.int 1) ≤ 40 := by rw [hgo.2]; decide
      have hel : ((es.map D.int).length : Int) = (es.length : Int) := by rw [List.length_map]
      refine gx_seq (g1_mid (fun ρ' M3 => M3 = M2 ∧ ((othL n r es p2).all fun o => !L.all fun a => givB o a.1 a.2) = true ∧ ∃ z w v, ρ' = [some (.int n), some (.int (e0 r)), some (.tup (es.map D.int)), some (.lst (As.map ansD)), some (.lst (L.map ansD)), some (.int (p2 : Int)), some (.lst (O.map D.int)), z, w, v]) (g1_if (tx_pw (wx_and (tx_chain (ex_int (ex_var 5 rfl (od_lt (⟨_, rfl, fun q2_2d => ex_blt T.b_len bb_len (ax_cons (ex_var 2 rfl (ax_nil (cd_len .tup (od_lt (⟨_, rfl, ⟨fun q2_2b => wx_and1 (tx_cmp (ex_lc (own := [("_law_test", 8), ("_law_told", 9)]) (hN := sc_Lfixed.nd) rfl (ix_lst (ex_var 4 rfl (⟨_, rfl, lcI (fun _ => D.int 1) (fun i => !givB none (L.getD i ([], 0)).1 (L.getD i ([], 0)).2) ?lc2_2c (by walk_at "sz") (ex_lst (ax_nil (⟨le_b rfl, od_eqNilA hr.units .lst (by walk_at "gd") (by walk_at "dp") (⟨_, rfl, ⟨fun h => ?_, fun h => ?_⟩⟩)⟩)))⟩))))), fun q2_2b => ⟨fun h => (nomatch h), fun h => ?_⟩⟩⟩)))))), fun q2_2d => ⟨fun h => (nomatch h), fun q2_2b => ⟨fun h => (nomatch h), fun h => ?_⟩⟩⟩)))))))) ?_)
      case lc2_2c =>
        intro i d acc Dl hd hi hD
        obtain ⟨hi2, rfl⟩ := ansD_at hd
        obtain ⟨ha1, ha2, ha3⟩ := hA _ (hLA _ (getD_in (x := (([], 0) : Ans)) hi2))
        refine asb_tup rfl (asb_cons (asb_name 8 (asb_cons (asb_name 9 (asb_nil (txb_one fun _ _ _ _ _ => tx_cmp (ex_var 9 rfl (ex_int (od_eq rfl (⟨_, rfl, ⟨?_, rfl, fun ht => fun _ _ _ _ _ => ex_int (⟨rfl, rfl⟩)⟩⟩)))))) (hN := sc_Lfixed.nd))) (hN := sc_Lfixed.nd)))
        show decide ((L.getD i ([], 0)).2 = 1) = !decide ((L.getD i ([], 0)).2 = 0)
        rcases ha3 with u | u <;> rw [u] <;> decide
      · rw [emp_all (f := fun a => givB none a.1 a.2)] at h
        have h1 := of_decide_eq_true q2_2d
        have h2 := of_decide_eq_true q2_2b
        rw [hfalse none (oth_none.mpr ⟨by omega, by omega⟩) h] at k
        refine gx_seq (g1_ret (ex_bl (?_)))
        exact k
      · rw [emp_all (f := fun a => givB none a.1 a.2)] at h
        refine gx_nil ⟨rfl, ?_, _, _, _, rfl⟩
        rw [hoth, hbj, h]
        simp
      · have h2 := of_decide_eq_false q2_2b
        refine gx_nil ⟨rfl, ?_, _, _, _, rfl⟩
        have : decide (0 < p2 ∧ p2 < es.length) = false := decide_eq_false fun w => h2 (by omega)
        rw [hoth, hbj, this]; rfl
      · have h2 := of_decide_eq_false q2_2d
        refine gx_nil ⟨rfl, ?_, _, _, _, rfl⟩
        have : decide (0 < p2 ∧ p2 < es.length) = false := decide_eq_false fun w => h2 (by omega)
        rw [hoth, hbj, this]; rfl
      rintro ρ' M3 ⟨rfl, hnow, z, w, v, rfl⟩
      show GX _ _ _ _ _ _
      have hcs : cutD (es.map D.int) (some (p2 : Int)) (some ((p2 : Int) + 1)) = ((es.drop p2).take 1).map D.int := by
        rw [cut_ints]
        congr 1
        unfold cutA
        rw [HT.sIx_nat, show (p2 : Int) + 1 = ((p2 + 1 : Nat) : Int) by omega, HT.sIx_nat, Nat.min_eq_left hp2]
        by_cases w : p2 < es.length
        · rw [Nat.min_eq_left (by omega)]
          congr 1
          omega
        · rw [List.drop_of_length_le (by omega)]
          simp
      refine gx_seq (g1_lc (own := [("_law_test", 8), ("_law_told", 9)]) (hN := sc_Lfixed.nd) 4 rfl (ix_lst (ex_var 4 rfl (⟨_, rfl, lcI (fun i => ansD (L.getD i ([], 0))) (fun i => decide (firstS (L.getD i ([], 0)).1 ((es.drop p2).take 1) = 80)) ?lc2_3a (by walk_at "sz") (?_)⟩))))
      case lc2_3a =>
        intro i d acc Dl hd hi hD
        obtain ⟨hi2, rfl⟩ := ansD_at hd
        obtain ⟨ha1, ha2, ha3⟩ := hA _ (hLA _ (getD_in (x := (([], 0) : Ans)) hi2))
        have haz : (L.getD i ([], 0)).1.length ≤ 1000000 := by omega
        have hft : ∀ p ∈ (es.drop p2).take 1, 0 ≤ p ∧ p < ((L.getD i ([], 0)).1.length : Int) := fun p hp => by
          have := hb p (List.mem_of_mem_drop (List.mem_of_mem_take hp)); omega
        refine asb_tup rfl (asb_cons (asb_name 8 (asb_cons (asb_name 9 (asb_nil (txb_one fun _ _ _ _ _ => tx_cmp (ca_Llook T (hr.mono (by decide)) (ax_cons (ex_var 8 rfl (ax_cons (ex_slice (ex_var 2 rfl (ox_some (ex_var 5 rfl (⟨_, rfl, ox_some (ex_bin (ex_var 5 rfl (ex_int (od_add (⟨_, rfl, sd_tupA (ax_nil (⟨_, _, _, rfl, by walk_at "oi", by walk_at "fs", by walk_at "sz", ex_str (od_eq rfl (⟨_, rfl, ⟨?_, rfl, fun ht => fun _ _ _ _ _ => ex_tup (ax_cons (ex_var 8 rfl (ax_cons (ex_var 9 rfl (ax_nil (⟨le_b rfl, ⟨rfl, rfl⟩⟩))))))⟩⟩))⟩))⟩)))))⟩))))))))))) (hN := sc_Lfixed.nd))) (hN := sc_Lfixed.nd)))
        rw [lit_P, sceq_S]
        simp
      have hfin : L.filter (fun a => decide (firstS a.1 ((es.drop p2).take 1) = 80)) = leftL es (min (p2 + 1) es.length) As := by
        by_cases w : p2 < es.length
        · rw [Nat.min_eq_left (by omega), hstep]
          congr 1
          funext a
          have : (es.drop p2).take 1 = [es.getD p2 0] := by
            rw [List.drop_eq_getElem_cons w, List.getD_eq_getElem?_getD, List.getElem?_eq_getElem w]; rfl
          rw [this, fs1]
        · rw [show min (p2 + 1) es.length = p2 by omega, hL, List.drop_of_length_le (by omega)]
          exact List.filter_eq_self.mpr fun a _ => rfl
      rw [List.length_map, lcR_of (l := L) (x := ([], 0)) (f := fun a => decide (firstS a.1 ((es.drop p2).take 1) = 80)) (g := ansD), hfin]
      refine gx_nil ⟨rfl, fun p hp => ?_, _, _, _, _, _, rfl⟩
      by_cases w : p = p2
      · rw [w, hL]; exact hnow
      · exact hbe p (by omega)
  case hd =>
    rintro ρ' M' ⟨rfl, hbe, x, y, z, w, v, rfl⟩
    rw [rngD_len, hrg] at hbe
    show GX _ _ _ _ _ _
    refine gx_seq (g1_ret (ex_bl (?_)))
    have e : ((List.range (es.length + 1)).all fun p => (othL n r es p).all fun o => !(leftL es p As).all fun a => givB o a.1 a.2) = true := by
      rw [List.all_eq_true]
      intro p hp
      have hp := List.mem_range.mp hp
      by_cases w : p = es.length ∧ es.getLast? = some 0
      · unfold othL; rw [if_pos w]; rfl
      · refine hbe p ?_
        split
        · rename_i w2
          have : p ≠ es.length := fun w3 => w ⟨w3, w2⟩
          omega
        · omega
    rw [e] at k
    exact k
theorem ca_Lfixed {X : Cx} {J : Gh} {e : Expr} {es : List Expr} {ρ : DEnv} {M : Mem} {P : D → Mem → Prop} {pos p : Pos} (T : Txt X.K X.mg) (hr : Room 3 X.A) (h : AX X J (e :: es) ρ M fun ds M1 => tr_Lfixed (ds ++ []) M1 P) (hg : Gl X "_law_fixed" := by rfl)
    (he : starEach (e :: es) X.env = (false, eval e X.env) :: starEach es X.env := by rfl) (hpl : (backTo pos (starEach es X.env)).any (·.1) = false := by rfl) : EX X J (.Call (.Name "_law_fixed" p) (e :: es) [] pos) ρ M P :=
  ex_call (ok_Lfixed T) hr T.m_Lfixed T.d_Lfixed.choose_spec.kp (T.d_Lfixed.choose_spec.bindsN fun _ _ _ _ _ _ us hl => match us, hl with | [_, _, _, _], _ => rfl) .nil (fun _ => .nil) h hg (by decide) he hpl
theorem S_cat {a b : List Nat} : S a ++ S b = S (a ++ b) := by
  unfold S
  show Str.mk (a.toArray ++ b.toArray) = _
  simp
theorem atLowD {r : Bool} {c : Nat} : atI [D.str (S [c]), D.str "P"] (e0 r) = some (D.str (S [if r = true then 80 else c])) := by cases r <;> rfl
theorem draw5 {x : Int} (h : 0 ≤ x ∧ x < 5) : isS (("GKPPP" : Str).cps.toList.getD x.toNat 0) := by
  have : x = 0 ∨ x = 1 ∨ x = 2 ∨ x = 3 ∨ x = 4 := by omega
  unfold isS
  rcases this with rfl | rfl | rfl | rfl | rfl <;> decide
theorem draw2 {x : Int} (h : 0 ≤ x ∧ x < 2) : isS (("GK" : Str).cps.toList.getD x.toNat 0) := by
  have : x = 0 ∨ x = 1 := by omega
  unfold isS
  rcases this with rfl | rfl <;> decide
def tr_Ldrawn : Tr := fun ds M P => ∃ h s n r M0 m, ds = [.adr h, .int n, .int (e0 r)] ∧ M = up M0 h (hand s) ∧ HOk s m ∧ m ≤ 900000 ∧ (1 ≤ n ∧ n ≤ 24) ∧ ∀ (t : List Nat) (s' : Hs), ((t.length : Int) = n + 1 ∧ ∀ c ∈ t, isS c) → HOk s' (m + 26) → P (.str (S t)) (up M0 h (hand s'))
theorem len_Ldrawn {ds M P} (t : tr_Ldrawn ds M P) : ds.length = 3 := by obtain ⟨_, _, _, _, _, _, rfl, _⟩ := t; rfl
theorem isix5 : ("GKPPP" : Str).cps.toList.length = 5 := by decide
theorem isix2 : ("GK" : Str).cps.toList.length = 2 := by decide
theorem ok_Ldrawn {pg : Program} {w : World} {K : PySem.W.Frag} {mg : Str → Option Value} {base : Heap} (T : Txt K mg) : FnOk pg w K mg base CX0 2 (He.fAd K ("_law_drawn", none)) T.d_Ldrawn.choose ["_law_tap_here", "_law_bits", "_law_low"] (SpD K tr_Ldrawn) :=
  fn_okD T.d_Ldrawn.choose_spec sc_Ldrawn (fun ds M P t => len_Ldrawn t) fun cdv A outer s H ds M P hr t => by
  obtain ⟨h, s, n, r, M0, m, rfl, rfl, hok, hm, hn, k⟩ := t
  have h0r : e0 r = 0 ∨ e0 r = 1 := by unfold e0; split <;> simp
  refine gx_seq (g1_lc (own := [("_law_position", 4)]) (hN := sc_Ldrawn.nd) 3 rfl (ix_range1 T.b_range (ax_cons (ex_var 1 rfl (ax_nil (⟨_, rfl, by walk_at "cm", ⟨fun i acc M' => ∃ (cs : List Nat) (s' : Hs), (∀ c ∈ cs, isS c) ∧ cs.length = i ∧ acc = sgl cs ∧ M' = up M0 h (hand s') ∧ HOk s' (m + i), ?h0a, ?lc0a, fun acc0a M0a w0a => ?_⟩⟩))))))
  case h0a => exact ⟨[], _, (fun c hc => nomatch hc), rfl, rfl, rfl, HOk.mono ‹_› (by omega)⟩
  case lc0a =>
    rintro i d acc M' Dl hd ⟨cs, s4, hO, hl, rfl, rfl, hok4⟩ hD
    obtain ⟨hi, rfl⟩ := rngD_at hd
    have hi4 : i < 24 := by omega
    have hne : h ≠ Dl := fun e => by subst e; rw [up_same] at hD; cases hD
    have hi5 := isix5
    have hgz : ("GKPPP" : Str).cps.toList.length ≤ 1000000 := by rw [isix5]; decide
    refine ⟨by rw [sgl_len]; omega, ?_⟩
    rw [up_comm hne]
    refine asb_name 4 (txb_nil ⟨fun _ => fun _ _ _ _ _ => ex_ix (ex_str (ca_Lnext T (hr.mono (by decide)) (ax_cons (ex_var 0 rfl (ax_cons (ex_int (ax_nil (⟨_, _, _, _, _, rfl, rfl, ‹HOk _ _›, by omega, by walk_at "tk", fun x0aea s0aea l0aea u0aea o0aea => id_strA (by walk_at "ix") (by walk_at "sz") (?_)⟩)))))))), fun h => nomatch h⟩) (hN := sc_Ldrawn.nd)
    have hc := draw5 (x := x0aea) ⟨by omega, by omega⟩
    exact ⟨up M0 h (hand s0aea), by rw [up_ne (Ne.symm hne)] at hD ⊢; exact hD, by rw [up_comm (Ne.symm hne)], cs ++ [_], _, fun c hc2 => (List.mem_append.mp hc2).elim (hO c) (fun hc2 => by rw [List.mem_singleton] at hc2; rw [hc2]; exact hc), by rw [List.length_append, hl]; rfl, by rw [← sgl_app]; rfl, rfl, HOk.mono ‹_› (by omega)⟩
  obtain ⟨cs, s4, hO, hl, rfl, rfl, hok4⟩ := w0a
  rw [rngD_len] at hl hok4
  have hl2 : (cs.length : Int) = n := by omega
  have hj : Txt.join "" ((sgl cs).map toS) = S cs := by rw [join_sgl]
  have hzj : sizeJ (sgl cs) + (sgl cs).length * ("" : Str).length ≤ 16777216 := by
    rw [sgl_size, sgl_len, show ("" : Str).length = 0 from rfl]; omega
  have hjl : (Txt.join "" ((sgl cs).map toS)).length ≤ 100 := by rw [hj, S_len]; omega
  have hi2 := isix2
  have hg2 : ("GK" : Str).cps.toList.length ≤ 1000000 := by rw [isix2]; decide
  refine gx_seq (g1_ret (ex_bin (ex_join (ex_str (⟨_, rfl, ex_var 3 rfl (⟨_, .lst, by walk_at "js", by walk_at "sz", ex_ix (ex_lst (ax_cons (ex_ix (ex_str (ca_Lnext T (hr.mono (by decide)) (ax_cons (ex_var 0 rfl (ax_cons (ex_int (ax_nil (⟨_, _, _, _, _, rfl, rfl, ‹HOk _ _›, by omega, by walk_at "tk", fun x1a s1a l1a u1a o1a => id_strA (by walk_at "ix") (by walk_at "sz") (ax_cons (ex_str (ax_nil (⟨le_b rfl, ex_var 2 rfl (id_seq .lst (atLowD) (od_addS (by walk_at "sz") (?_)))⟩))))⟩)))))))))))⟩)⟩)))))
  rw [hj, S_cat]
  refine k _ _ ⟨by rw [List.length_append, List.length_singleton]; omega, fun c hc => ?_⟩ (HOk.mono ‹_› (by omega))
  rcases List.mem_append.mp hc with z | z
  · exact hO c z
  · rw [List.mem_singleton] at z
    rw [z]
    split
    · exact .inr (.inr rfl)
    · exact draw2 ⟨by omega, by omega⟩
theorem ca_Ldrawn {X : Cx} {J : Gh} {e : Expr} {es : List Expr} {ρ : DEnv} {M : Mem} {P : D → Mem → Prop} {pos p : Pos} (T : Txt X.K X.mg) (hr : Room 2 X.A) (h : AX X J (e :: es) ρ M fun ds M1 => tr_Ldrawn (ds ++ []) M1 P) (hg : Gl X "_law_drawn" := by rfl)
    (he : starEach (e :: es) X.env = (false, eval e X.env) :: starEach es X.env := by rfl) (hpl : (backTo pos (starEach es X.env)).any (·.1) = false := by rfl) : EX X J (.Call (.Name "_law_drawn" p) (e :: es) [] pos) ρ M P :=
  ex_call (ok_Ldrawn T) hr T.m_Ldrawn T.d_Ldrawn.choose_spec.kp (T.d_Ldrawn.choose_spec.bindsN fun _ _ _ _ _ _ us hl => match us, hl with | [_, _, _], _ => rfl) .nil (fun _ => .nil) h hg (by decide) he hpl
def tr_Lwithout : Tr := fun ds M P => ∃ (A : List Ans) (i : Int), ds = [.lst (A.map ansD), .int i] ∧ 0 ≤ i ∧ A.length ≤ 1000 ∧ P (.lst ((A.take i.toNat ++ A.drop (i.toNat + 1)).map ansD)) M
theorem len_Lwithout {ds M P} (t : tr_Lwithout ds M P) : ds.length = 2 := by obtain ⟨_, _, rfl, _⟩ := t; rfl
theorem ok_Lwithout {pg : Program} {w : World} {K : PySem.W.Frag} {mg : Str → Option Value} {base : Heap} (T : Txt K mg) : FnOk pg w K mg base CX0 1 (He.fAd K ("_law_without", none)) T.d_Lwithout.choose ["_law_rows", "_law_at"] (SpD K tr_Lwithout) :=
  fn_okD T.d_Lwithout.choose_spec sc_Lwithout (fun ds M P t => len_Lwithout t) fun cdv A outer s H ds M P hr t => by
  obtain ⟨A, i, rfl, hi, hl, k⟩ := t
  obtain ⟨k0, rfl⟩ : ∃ k : Nat, i = (k : Int) := ⟨i.toNat, by omega⟩
  rw [Int.toNat_natCast] at k
  have e1 : cutD (A.map ansD) none (some (k0 : Int)) = (A.take k0).map ansD := by rw [cut_map, cutA_take]
  have e2 : cutD (A.map ansD) (some ((k0 : Int) + 1)) none = (A.drop (k0 + 1)).map ansD := by
    rw [cut_map, show (k0 : Int) + 1 = ((k0 + 1 : Nat) : Int) by omega, cutA_drop]
  have hz : (cutD (A.map ansD) none (some (k0 : Int))).length + (cutD (A.map ansD) (some ((k0 : Int) + 1)) none).length ≤ 1000000 := by
    rw [e1, e2, List.length_map, List.length_map, List.length_take, List.length_drop]; omega
  refine gx_seq (g1_ret (ex_bin (ex_slice (ex_var 0 rfl (ox_none (ox_some (ex_var 1 rfl (⟨_, rfl, sd_list .lst (ex_slice (ex_var 0 rfl (ox_some (ex_bin (ex_var 1 rfl (ex_int (od_add (⟨_, rfl, ox_none (sd_list .lst (od_addL .lst .lst (by walk_at "sz") (?_)))⟩))))))))⟩))))))))
  rw [e1, e2, ← List.map_append]
  exact k
theorem ca_Lwithout {X : Cx} {J : Gh} {e : Expr} {es : List Expr} {ρ : DEnv} {M : Mem} {P : D → Mem → Prop} {pos p : Pos} (T : Txt X.K X.mg) (hr : Room 1 X.A) (h : AX X J (e :: es) ρ M fun ds M1 => tr_Lwithout (ds ++ []) M1 P) (hg : Gl X "_law_without" := by rfl)
    (he : starEach (e :: es) X.env = (false, eval e X.env) :: starEach es X.env := by rfl) (hpl : (backTo pos (starEach es X.env)).any (·.1) = false := by rfl) : EX X J (.Call (.Name "_law_without" p) (e :: es) [] pos) ρ M P :=
  ex_call (ok_Lwithout T) hr T.m_Lwithout T.d_Lwithout.choose_spec.kp (T.d_Lwithout.choose_spec.bindsN fun _ _ _ _ _ _ us hl => match us, hl with | [_, _], _ => rfl) .nil (fun _ => .nil) h hg (by decide) he hpl
theorem ord_of {n : Int} {r : Bool} {es e : List Int} (h : Ord n r es) (g : Gp e) (ne : e ≠ []) (hm : ∀ p ∈ e, p ∈ es) : Ord n r e := ⟨ne, gd_of g, fun p hp => h.2.2 p (hm p hp)⟩
theorem near_swap {n : Int} {r : Bool} {es : List Int} {k : Nat} (h : Ord n r es) (hk : 0 < k) (hl : k < es.length) (h0 : es.getD k 0 ≠ 0) : Ord n r (es.take (k - 1) ++ ([es.getD k 0, es.getD (k - 1) 0] ++ es.drop (k + 1))) := by
  have e1 : es = es.take (k - 1) ++ (es.getD (k - 1) 0 :: es.getD k 0 :: es.drop (k + 1)) := by
    have a : es.drop (k - 1) = es.getD (k - 1) 0 :: es.drop k := by
      rw [List.drop_eq_getElem_cons (by omega), List.getD_eq_getElem?_getD, List.getElem?_eq_getElem (by omega), show k - 1 + 1 = k by omega]; rfl
    have b : es.drop k = es.getD k 0 :: es.drop (k + 1) := by
      rw [List.drop_eq_getElem_cons hl, List.getD_eq_getElem?_getD, List.getElem?_eq_getElem hl]; rfl
    rw [← b, ← a, List.take_append_drop]
  generalize es.getD k 0 = y at *
  generalize es.getD (k - 1) 0 = x at *
  generalize es.take (k - 1) = A at *
  generalize es.drop (k + 1) = B at *
  have gp := gp_of h.2.1
  rw [e1, Gp, List.pairwise_append, List.pairwise_cons, List.pairwise_cons] at gp
  obtain ⟨g1, ⟨g2, g3, g4⟩, g5⟩ := gp
  refine ord_of h ?_ (by simp) fun p hp => ?_
  · show Gp (A ++ (y :: x :: B))
    rw [Gp, List.pairwise_append, List.pairwise_cons, List.pairwise_cons]
    refine ⟨g1, ⟨fun b hb => ?_, fun b hb => g2 b (List.mem_cons_of_mem _ hb), g4⟩, fun a ha b hb => ?_⟩
    · rcases List.mem_cons.mp hb with e | hb
      · rw [e]; exact ⟨fun z => (g2 y List.mem_cons_self).1 z.symm, h0⟩
      · exact ⟨(g3 b hb).1, h0⟩
    · refine g5 a ha b ?_
      rcases List.mem_cons.mp hb with e | hb
      · rw [e]; simp
      · rcases List.mem_cons.mp hb with e | hb
        · rw [e]; simp
        · simp [hb]
  · rw [e1]
    simp at hp ⊢
    rcases hp with z | z | z | z <;> simp [z]
theorem near_drop {n : Int} {r : Bool} {es : List Int} {k : Nat} (h : Ord n r es) (hl : k < es.length) (h1 : 1 < es.length) : Ord n r (es.take k ++ es.drop (k + 1)) := by
  rw [← List.eraseIdx_eq_take_drop_succ]
  have hs := List.eraseIdx_sublist es k
  refine ord_of h ((gp_of h.2.1).sublist hs) ?_ fun p hp => hs.subset hp
  intro z
  have := congrArg List.length z
  rw [List.length_eraseIdx_of_lt hl] at this
  have : es.length - 1 = 0 := this
  omega
theorem last_nz {es : List Int} (g : Gd es) (h : es.getLast? ≠ some 0) : ∀ p ∈ es, p ≠ 0 := by
  intro p hp e
  subst e
  have hne : es ≠ [] := List.ne_nil_of_mem hp
  have ee := List.dropLast_concat_getLast hne
  rw [← ee, List.mem_append, List.mem_singleton] at hp
  rcases hp with hp | hp
  · exact absurd rfl (g.2 0 hp)
  · exact h (by rw [List.getLast?_eq_some_getLast hne, ← hp])
theorem near_add {n : Int} {r : Bool} {es : List Int} {x : Int} (h : Ord n r es) (h0 : es.getLast? ≠ some 0) (hx : x ∈ laterK n r es) : Ord n r (es ++ [x]) := by
  have hb := upto_mem (List.mem_filter.mp hx).1
  have hn : x ∉ es := by simpa using (List.mem_filter.mp hx).2
  refine ⟨by simp, gd_of ?_, fun p hp => ?_⟩
  · rw [Gp, List.pairwise_append]
    refine ⟨gp_of h.2.1, List.pairwise_singleton _ _, fun a ha b hb2 => ?_⟩
    rw [List.mem_singleton] at hb2
    rw [hb2]
    exact ⟨fun e => hn (e ▸ ha), last_nz h.2.1 h0 a ha⟩
  · rcases List.mem_append.mp hp with z | z
    · exact h.2.2 p z
    · rw [List.mem_singleton] at z; rw [z]; omega
def tr_Lnear : Tr := fun ds M P => ∃ h s n r M0 m es, ds = [.adr h, .int n, .int (e0 r), .tup (es.map D.int)] ∧ M = up M0 h (hand s) ∧ HOk s m ∧ m ≤ 900000 ∧ (1 ≤ n ∧ n ≤ 24) ∧ (Ord n r es ∧ es.length ≤ 60) ∧ ∀ (e : List Int) (s' : Hs), (Ord n r e ∧ e.length ≤ 61) → HOk s' (m + 5) → P (.tup (e.map D.int)) (up M0 h (hand s'))
theorem len_Lnear {ds M P} (t : tr_Lnear ds M P) : ds.length = 4 := by obtain ⟨_, _, _, _, _, _, _, rfl, _⟩ := t; rfl
theorem ok_Lnear {pg : Program} {w : World} {K : PySem.W.Frag} {mg : Str → Option Value} {base : Heap} (T : Txt K mg) : FnOk pg w K mg base CX0 2 (He.fAd K ("_law_near", none)) T.d_Lnear.choose ["_law_tap_here", "_law_bits", "_law_low", "_law_entries"] (SpD K tr_Lnear) :=
  fn_okD T.d_Lnear.choose_spec sc_Lnear (fun ds M P t => len_Lnear t) fun cdv A outer s H ds M P hr t => by
  obtain ⟨h, s, n, r, M0, m, es, rfl, rfl, hok, hm, hn, ⟨ho, hl⟩, k⟩ := t
  obtain ⟨hes, hgd, hb⟩ := id ho
  have h0r : e0 r = 0 ∨ e0 r = 1 := by unfold e0; split <;> simp
  have hne : (!(es.map D.int).isEmpty) = true := by
    cases es with
    | nil => exact absurd rfl hes
    | cons a l => rfl
  obtain ⟨z, hz⟩ : ∃ z, es.getLast? = some z := ⟨_, List.getLast?_eq_some_getLast hes⟩
  have hq : sceq (.int (es.getLast?.getD 0)) (.int 0) = decide (es.getLast? = some 0) := by
    rw [hz]; show decide (z = 0) = _; simp
  have hel : ((es.map D.int).length : Int) = (es.length : Int) := by rw [List.length_map]
  have hel1 : 1 ≤ es.length := List.length_pos_iff.mpr hes
  refine gx_seq (g1_asg (ca_Lnext T (hr.mono (by decide)) (ax_cons (ex_var 0 rfl (ax_cons (ex_blt T.b_len bb_len (ax_cons (ex_var 3 rfl (ax_nil (cd_len .tup (ax_nil (⟨_, _, _, _, _, rfl, rfl, ‹HOk _ _›, by omega, by walk_at "tk", fun x0a s0a l0a u0a o0a => as_name 4 (?_) sc_Lnear.nd⟩))))))))))))
  obtain ⟨ka, eka⟩ : ∃ k : Nat, x0a = (k : Int) := ⟨x0a.toNat, by omega⟩
  subst eka
  have hka : ka < es.length := by omega
  refine gx_seq (g1_asg (ca_Lnext T (hr.mono (by decide)) (ax_cons (ex_var 0 rfl (ax_cons (ex_int (ax_nil (⟨_, _, _, _, _, rfl, rfl, ‹HOk _ _›, by omega, by walk_at "tk", fun x1a s1a l1a u1a o1a => as_name 5 (?_) sc_Lnear.nd⟩))))))))
  have hzr : (rngD (e0 r) (n + 1 - e0 r).toNat).length ≤ 1000000 := by rw [rngD_len]; omega
  refine gx_seq (g1_lc (own := [("_law_entry", 7)]) (hN := sc_Lnear.nd) 6 rfl (ix_range2 T.b_range (ax_cons (ex_var 2 rfl (ax_cons (ex_bin (ex_var 1 rfl (ex_int (od_add (ax_nil (⟨_, _, rfl, by walk_at "cm", lcI (fun i => D.int (e0 r + (i : Int))) (fun i => !decide (e0 r + (i : Int) ∈ es)) ?lc2a (by walk_at "sz") (?_)⟩)))))))))))
  case lc2a =>
    intro i d acc Dl hd hi hD
    obtain ⟨_, rfl⟩ := rngD_at hd
    refine asb_name 7 (txb_one fun _ _ _ _ _ => tx_cmp (ex_var 7 rfl (ex_var 3 rfl (od_notInI .tup (by walk_at "mi") (⟨_, rfl, ⟨rfl, rfl, fun ht => fun _ _ _ _ _ => ex_var 7 rfl (⟨rfl, rfl⟩)⟩⟩))))) (hN := sc_Lnear.nd)
  have eO : lcR (rngD (e0 r) (n + 1 - e0 r).toNat).length (fun i => !decide (e0 r + (i : Int) ∈ es)) (fun i => D.int (e0 r + (i : Int))) = (laterK n r es).map D.int := by
    rw [rngD_len]
    unfold laterK upto lcR
    rw [List.filter_map, List.map_map]; rfl
  rw [eO]
  obtain ⟨O, hO⟩ : ∃ O, O = laterK n r es := ⟨_, rfl⟩
  have hOl : O.length ≤ 25 := by
    rw [hO]
    refine Nat.le_trans (List.length_filter_le _ _) ?_
    rw [upto_len]; omega
  rw [← hO]
  have hol : ((O.map D.int).length : Int) = (O.length : Int) := by rw [List.length_map]
  have ec1 : cutD (es.map D.int) none (some (ka : Int)) = (es.take ka).map D.int := by rw [cut_ints, cutA_take]
  have ec2 : cutD (es.map D.int) (some ((ka : Int) + 1)) none = (es.drop (ka + 1)).map D.int := by rw [cut_ints, show (ka : Int) + 1 = ((ka + 1 : Nat) : Int) by omega, cutA_drop]
  refine gx_seq (g1_mid (fun ρ' M' => M' = up M0 h (hand s1a) ∧ ρ' = [some (.adr h), some (.int n), some (.int (e0 r)), some (.tup (es.map D.int)), some (.int (ka : Int)), some (.int x1a), some (.lst (O.map D.int)), none]) (g1_if (tx_pw (wx_and (tx_cmp (ex_var 5 rfl (ex_int (od_eq rfl (⟨_, rfl, ⟨fun q3b => wx_and (tx_cmp (ex_var 4 rfl (ex_int (od_gt (⟨_, rfl, ⟨fun q3c => wx_and1 (tx_cmp (ex_ix (ex_var 3 rfl (ex_var 4 rfl (id_seq .tup ((atI_ints (by omega) (by omega))) (ex_int (od_ne rfl (⟨_, rfl, ⟨fun h => ?_, fun h => ?_⟩⟩)))))))), fun q3c => ⟨fun h => (nomatch h), fun h => ?_⟩⟩⟩))))), fun q3b => ⟨fun h => (nomatch h), fun h => ?_⟩⟩⟩)))))))) ?_)
  · have h1 : es.getD ((ka : Nat) : Int).toNat 0 ≠ 0 := by
      intro e
      rw [e] at h
      simp [sceq] at h
    rw [Int.toNat_natCast] at h1
    have hk0 : 0 < ka := by have := of_decide_eq_true q3c; omega
    have ec0 : cutD (es.map D.int) none (some ((ka : Int) - 1)) = (es.take (ka - 1)).map D.int := by rw [cut_ints, show (ka : Int) - 1 = ((ka - 1 : Nat) : Int) by omega, cutA_take]
    have en1 : ((ka : Nat) : Int).toNat = ka := Int.toNat_natCast _
    have en2 : (((ka : Nat) : Int) - 1).toNat = ka - 1 := by omega
    have hz1 : (cutD (es.map D.int) none (some ((ka : Int) - 1))).length + [D.int (es.getD ((ka : Nat) : Int).toNat 0), D.int (es.getD (((ka : Nat) : Int) - 1).toNat 0)].length ≤ 1000000 := by
      rw [ec0, List.length_map, List.length_take]; simp; omega
    have hz2 : (cutD (es.map D.int) none (some ((ka : Int) - 1)) ++ [D.int (es.getD ((ka : Nat) : Int).toNat 0), D.int (es.getD (((ka : Nat) : Int) - 1).toNat 0)]).length + (cutD (es.map D.int) (some ((ka : Int) + 1)) none).length ≤ 1000000 := by
      rw [ec0, ec2, List.length_append, List.length_map, List.length_map, List.length_take, List.length_drop]; simp; omega
    have hz1' : (cutD (es.map D.int) none (some ((ka : Int) - 1)) ++ [D.int (es.getD ((ka : Nat) : Int).toNat 0), D.int (es.getD (((ka : Nat) : Int) - 1).toNat 0)]).length ≤ 1000000 := by
      rw [List.length_append]; exact hz1
    have hz2' : (cutD (es.map D.int) none (some ((ka : Int) - 1)) ++ [D.int (es.getD ((ka : Nat) : Int).toNat 0), D.int (es.getD (((ka : Nat) : Int) - 1).toNat 0)] ++ cutD (es.map D.int) (some ((ka : Int) + 1)) none).length ≤ 1000000 := by
      rw [List.length_append]; exact hz2
    refine gx_seq (g1_ret (ex_bin (ex_bin (ex_slice (ex_var 3 rfl (ox_none (ox_some (ex_bin (ex_var 4 rfl (ex_int (od_sub (⟨_, rfl, sd_tupA (ex_tup (ax_cons (ex_ix (ex_var 3 rfl (ex_var 4 rfl (id_seq .tup ((atI_ints (by omega) (by omega))) (ax_cons (ex_ix (ex_var 3 rfl (ex_bin (ex_var 4 rfl (ex_int (od_sub (id_seq .tup ((atI_ints (by omega) (by omega))) (ax_nil (⟨le_b rfl, od_addT (by walk_at "sz") (ex_slice (ex_var 3 rfl (ox_some (ex_bin (ex_var 4 rfl (ex_int (od_add (⟨_, rfl, ox_none (sd_tupA (od_addT (by walk_at "sz") (?_)))⟩))))))))⟩))))))))))))))))⟩))))))))))))
    rw [ec0, ec2, en1, en2]
    have e : (es.take (ka - 1)).map D.int ++ [D.int (es.getD ka 0), D.int (es.getD (ka - 1) 0)] ++ (es.drop (ka + 1)).map D.int = (es.take (ka - 1) ++ ([es.getD ka 0, es.getD (ka - 1) 0] ++ es.drop (ka + 1))).map D.int := by simp
    rw [e]
    exact k _ _ ⟨near_swap ho hk0 hka h1, by simp only [List.length_append, List.length_take, List.length_drop, List.length_cons, List.length_nil]; omega⟩ (HOk.mono ‹_› (by omega))
  · exact gx_nil ⟨rfl, rfl⟩
  · exact gx_nil ⟨rfl, rfl⟩
  · exact gx_nil ⟨rfl, rfl⟩
  rintro ρ' M' ⟨rfl, rfl⟩
  show GX _ _ _ _ _ _
  refine gx_seq (g1_mid (fun ρ' M' => M' = up M0 h (hand s1a) ∧ ρ' = [some (.adr h), some (.int n), some (.int (e0 r)), some (.tup (es.map D.int)), some (.int (ka : Int)), some (.int x1a), some (.lst (O.map D.int)), none]) (g1_if (tx_pw (wx_and (tx_cmp (ex_var 5 rfl (ex_int (od_eq rfl (⟨_, rfl, ⟨fun q4b => wx_and1 (tx_cmp (ex_blt T.b_len bb_len (ax_cons (ex_var 3 rfl (ax_nil (cd_len .tup (ex_int (od_gt (⟨_, rfl, ⟨fun h => ?_, fun h => ?_⟩⟩))))))))), fun q4b => ⟨fun h => (nomatch h), fun h => ?_⟩⟩⟩)))))))) ?_)
  · have hl1 : 1 < es.length := by have := of_decide_eq_true h; omega
    have hz1 : (cutD (es.map D.int) none (some (ka : Int))).length + (cutD (es.map D.int) (some ((ka : Int) + 1)) none).length ≤ 1000000 := by
      rw [ec1, ec2, List.length_map, List.length_map, List.length_take, List.length_drop]; omega
    have hz1' : (cutD (es.map D.int) none (some (ka : Int)) ++ cutD (es.map D.int) (some ((ka : Int) + 1)) none).length ≤ 1000000 := by
      rw [List.length_append]; exact hz1
    refine gx_seq (g1_ret (ex_bin (ex_slice (ex_var 3 rfl (ox_none (ox_some (ex_var 4 rfl (⟨_, rfl, sd_tupA (ex_slice (ex_var 3 rfl (ox_some (ex_bin (ex_var 4 rfl (ex_int (od_add (⟨_, rfl, ox_none (sd_tupA (od_addT (by walk_at "sz") (?_)))⟩))))))))⟩))))))))
    rw [ec1, ec2, ← List.map_append]
    exact k _ _ ⟨near_drop ho hka hl1, by simp only [List.length_append, List.length_take, List.length_drop]; omega⟩ (HOk.mono ‹_› (by omega))
  · exact gx_nil ⟨rfl, rfl⟩
  · exact gx_nil ⟨rfl, rfl⟩
  rintro ρ' M' ⟨rfl, rfl⟩
  show GX _ _ _ _ _ _
  refine gx_seq (g1_mid (fun ρ' M' => M' = up M0 h (hand s1a) ∧ ρ' = [some (.adr h), some (.int n), some (.int (e0 r)), some (.tup (es.map D.int)), some (.int (ka : Int)), some (.int x1a), some (.lst (O.map D.int)), none]) (g1_if (tx_pw (wx_and (tx_cmp (ex_var 5 rfl (ex_int (od_eq rfl (⟨_, rfl, ⟨fun q5b => wx_and (tx_cmp (ex_var 6 rfl (ex_lst (ax_nil (⟨le_b rfl, od_neNil hr.units (⟨_, rfl, ⟨fun q5c => wx_and1 (tx_cmp (ex_ix (ex_var 3 rfl (ex_neg (ex_int (⟨_, rfl, id_seq .tup ((foL hne)) (ex_int (od_ne rfl (⟨_, rfl, ⟨fun h => ?_, fun h => ?_⟩⟩)))⟩)))))), fun q5c => ⟨fun h => (nomatch h), fun h => ?_⟩⟩⟩)⟩))))), fun q5b => ⟨fun h => (nomatch h), fun h => ?_⟩⟩⟩)))))))) ?_)
  · rw [hq] at h
    have h0 : es.getLast? ≠ some 0 := by simpa using h
    have hO1 : 1 ≤ O.length := by
      cases O with
      | nil => cases q5c
      | cons a l => simp
    have hz1 : (es.map D.int).length + 1 ≤ 1000000 := by omega
    refine gx_seq (g1_ret (ex_bin (ex_var 3 rfl (ex_tup (ax_cons (ex_ix (ex_var 6 rfl (ca_Lnext T (hr.mono (by decide)) (ax_cons (ex_var 0 rfl (ax_cons (ex_blt T.b_len bb_len (ax_cons (ex_var 6 rfl (ax_nil (cd_len .lst (ax_nil (⟨_, _, _, _, _, rfl, rfl, ‹HOk _ _›, by omega, by walk_at "tk", fun x5_0a s5_0a l5_0a u5_0a o5_0a => id_seq .lst ((atI_ints (by omega) (by omega))) (ax_nil (⟨le_b rfl, od_addT (by walk_at "sz") (?_)⟩))⟩))))))))))))))))))
    have hxm : O.getD x5_0a.toNat 0 ∈ laterK n r es := by rw [← hO]; exact getD_in (by omega)
    have e : es.map D.int ++ [D.int (O.getD x5_0a.toNat 0)] = (es ++ [O.getD x5_0a.toNat 0]).map D.int := by simp
    rw [e]
    exact k _ _ ⟨near_add ho h0 hxm, by rw [List.length_append, List.length_singleton]; omega⟩ (HOk.mono ‹_› (by omega))
  · exact gx_nil ⟨rfl, rfl⟩
  · exact gx_nil ⟨rfl, rfl⟩
  · exact gx_nil ⟨rfl, rfl⟩
  rintro ρ' M' ⟨rfl, rfl⟩
  show GX _ _ _ _ _ _
  refine gx_seq (g1_ret (ex_var 3 rfl (?_)))
  exact k _ _ ⟨ho, by omega⟩ (HOk.mono ‹_› (by omega))
theorem ca_Lnear {X : Cx} {J : Gh} {e : Expr} {es : List Expr} {ρ : DEnv} {M : Mem} {P : D → Mem → Prop} {pos p : Pos} (T : Txt X.K X.mg) (hr : Room 2 X.A) (h : AX X J (e :: es) ρ M fun ds M1 => tr_Lnear (ds ++ []) M1 P) (hg : Gl X "_law_near" := by rfl)
    (he : starEach (e :: es) X.env = (false, eval e X.env) :: starEach es X.env := by rfl) (hpl : (backTo pos (starEach es X.env)).any (·.1) = false := by rfl) : EX X J (.Call (.Name "_law_near" p) (e :: es) [] pos) ρ M P :=
  ex_call (ok_Lnear T) hr T.m_Lnear T.d_Lnear.choose_spec.kp (T.d_Lnear.choose_spec.bindsN fun _ _ _ _ _ _ us hl => match us, hl with | [_, _, _, _], _ => rfl) .nil (fun _ => .nil) h hg (by decide) he hpl
/-- A is taken out of U, B is left -/
def Pops (U A B : List Int) : Prop := (A ++ B).Nodup ∧ (A ++ B).length = U.length ∧ ∀ x ∈ A ++ B, x ∈ U
theorem pops_step {U A B : List Int} {k : Nat} (h : Pops U A B) (hk : k < B.length) : Pops U (A ++ [B.getD k 0]) (B.eraseIdx k) := by
  have hp : (A ++ [B.getD k 0] ++ B.eraseIdx k).Perm (A ++ B) := by
    rw [List.append_assoc]
    refine List.Perm.append_left A ?_
    have e1 : B = B.take k ++ B.getD k 0 :: B.drop (k + 1) := by
      have : B.drop k = B.getD k 0 :: B.drop (k + 1) := by
        rw [List.drop_eq_getElem_cons hk, List.getD_eq_getElem?_getD, List.getElem?_eq_getElem hk]; rfl
      rw [← this, List.take_append_drop]
    have e2 : B.eraseIdx k = B.take k ++ B.drop (k + 1) := List.eraseIdx_eq_take_drop_succ ..
    rw [e2]
    conv => rhs; rw [e1]
    show (B.getD k 0 :: (B.take k ++ B.drop (k + 1))).Perm _
    exact List.perm_middle.symm
  exact ⟨hp.nodup_iff.mpr h.1, by rw [hp.length_eq]; exact h.2.1, fun x hx => h.2.2 x (hp.mem_iff.mp hx)⟩
theorem upto_pw {a b : Int} : (upto a b).Pairwise fun x y => x < y := by
  unfold upto
  rw [List.pairwise_map]
  exact List.pairwise_lt_range.imp fun h => by omega
theorem ord_down {n : Int} {r : Bool} {k : Nat} (hk : k < (upto (e0 r) (n + 1)).length) : Ord n r ((upto (e0 r) (n + 1)).drop k).reverse := by
  have h0r : 0 ≤ e0 r := by unfold e0; split <;> decide
  refine ⟨fun z => ?_, gd_of ?_, fun p hp => ?_⟩
  · have := congrArg List.length z
    rw [List.length_reverse, List.length_drop] at this
    have : (upto (e0 r) (n + 1)).length - k = 0 := this
    omega
  · rw [Gp, List.pairwise_reverse]
    have hs : ((upto (e0 r) (n + 1)).drop k).Pairwise fun x y => x < y := upto_pw.sublist (List.drop_sublist _ _)
    refine List.Pairwise.imp_of_mem (fun {x y} hx hy h => ?_) hs
    have := (upto_mem (List.mem_of_mem_drop hx)).1
    exact ⟨by omega, by omega⟩
  · have := upto_mem (List.mem_of_mem_drop (List.mem_reverse.mp hp))
    omega
theorem not_before {l : List Int} : ∀ {q : Int}, q ∈ l.take (l.idxOf 0) → q ≠ 0 := by
  induction l with
  | nil => intro q h; simp at h
  | cons a l ih =>
    intro q h
    by_cases e : a = 0
    · subst e; simp at h
    · have e2 : (a :: l).idxOf 0 = l.idxOf 0 + 1 := by
        rw [List.idxOf_cons]
        have hb : (a == 0) = false := by simpa using e
        rw [hb]; rfl
      rw [e2, List.take_succ_cons] at h
      rcases List.mem_cons.mp h with z | z
      · rw [z]; exact e
      · exact ih z
theorem ord_taken {n : Int} {r : Bool} {A B : List Int} (h : Pops (upto (e0 r) (n + 1)) A B) (hA : A ≠ []) : Ord n r (if (0 : Int) ∈ A then A.take (A.idxOf 0 + 1) else A) := by
  have hnd : A.Nodup := (List.nodup_append.mp h.1).1
  have hb : ∀ p ∈ A, e0 r ≤ p ∧ p ≤ n := fun p hp => by have := upto_mem (h.2.2 p (List.mem_append_left _ hp)); omega
  by_cases z : (0 : Int) ∈ A
  · rw [if_pos z]
    have hi := List.idxOf_lt_length_of_mem z
    refine ⟨fun w => ?_, ⟨hnd.sublist (List.take_sublist _ _), fun p hp => ?_⟩, fun p hp => hb p (List.mem_of_mem_take hp)⟩
    · have := congrArg List.length w
      rw [List.length_take] at this
      have : min (A.idxOf 0 + 1) A.length = 0 := this
      omega
    · rw [List.take_succ_eq_append_getElem hi, List.dropLast_concat] at hp
      exact not_before hp
  · rw [if_neg z]
    exact ⟨hA, ⟨hnd, fun p hp e => z (e ▸ List.dropLast_subset _ hp)⟩, hb⟩
def tr_Lhidden : Tr := fun ds M P => ∃ h s n r M0 m, ds = [.adr h, .int n, .int (e0 r)] ∧ M = up M0 h (hand s) ∧ HOk s m ∧ m ≤ 900000 ∧ (e0 r ≤ n ∧ 1 ≤ n ∧ n ≤ 24) ∧ ∀ (e : List Int) (s' : Hs), (Ord n r e ∧ e.length ≤ 25) → HOk s' (m + 40) → P (.tup (e.map D.int)) (up M0 h (hand s'))
theorem len_Lhidden {ds M P} (t : tr_Lhidden ds M P) : ds.length = 3 := by obtain ⟨_, _, _, _, _, _, rfl, _⟩ := t; rfl
theorem atB {B : List Int} {k : Nat} (h : k < B.length) : (B.map D.int)[k]? = some (.int (B.getD k 0)) := by
  rw [List.getElem?_map, List.getElem?_eq_getElem h, List.getD_eq_getElem?_getD, List.getElem?_eq_getElem h]; rfl
local macro_rules | `(tactic| walk_at "px") => `(tactic| exact ixN_of ⟨by omega, by omega⟩)
local macro_rules | `(tactic| walk_at "py") => `(tactic| exact atB (by omega))
local macro_rules | `(tactic| walk_at "rt") => `(tactic| rfl)
local macro_rules | `(tactic| walk_at "mx") => `(tactic| exact of_decide_eq_true ‹_›)
theorem ok_Lhidden {pg : Program} {w : World} {K : PySem.W.Frag} {mg : Str → Option Value} {base : Heap} (T : Txt K mg) : FnOk pg w K mg base CX0 2 (He.fAd K ("_law_hidden", none)) T.d_Lhidden.choose ["_law_tap_here", "_law_bits", "_law_low"] (SpD K tr_Lhidden) :=
  fn_okD T.d_Lhidden.choose_spec sc_Lhidden (fun ds M P t => len_Lhidden t) fun cdv A outer s H ds M P hr t => by
  obtain ⟨h, s, n, r, M0, m, rfl, rfl, hok, hm, hn, k⟩ := t
  have h0r : e0 r = 0 ∨ e0 r = 1 := by unfold e0; split <;> simp
  obtain ⟨U, hU⟩ : ∃ U, U = upto (e0 r) (n + 1) := ⟨_, rfl⟩
  have hUl : (U.length : Int) = n + 1 - e0 r := by rw [hU, upto_len]; omega
  have hUn : U.Nodup := by rw [hU]; exact upto_pw.imp fun h => by omega
  refine gx_seq (g1_asg (ex_lstRM rfl T.b_list T.b_range (ax_cons (ex_var 2 rfl (ax_cons (ex_bin (ex_var 1 rfl (ex_int (od_add (ax_nil (⟨_, _, _, rg2 (by walk_at "cm"), fun p hp => as_name 3 (?_) sc_Lhidden.nd⟩)))))))))))
  rw [rngC_one, rngD_upto, ← hU]
  have hph : p ≠ h := fun e => by subst e; rw [up_same] at hp; cases hp
  have hM0p : M0 p = none := by rwa [up_ne hph] at hp
  rw [up_comm (Ne.symm hph)]
  have hul : ((U.map D.int).length : Int) = (U.length : Int) := by rw [List.length_map]
  refine gx_seq (g1_asg (ca_Lnext T (hr.mono (by decide)) (ax_cons (ex_var 0 rfl (ax_cons (ex_int (ax_nil (⟨_, _, _, _, _, rfl, rfl, ‹HOk _ _›, by omega, by walk_at "tk", fun x1a s1a l1a u1a o1a => as_name 4 (?_) sc_Lhidden.nd⟩))))))))
  refine gx_seq (g1_if (tx_cmp (ex_var 4 rfl (ex_int (od_eq rfl (⟨_, rfl, ⟨fun h => ?_, fun h => ?_⟩⟩))))))
  · refine gx_seq (g1_ret (ex_drop (ex_ty T.b_tuple bb_tuple (ax_cons (ex_revL (ex_slice (ex_var 3 rfl (ox_some (ca_Lnext T (hr.mono (by decide)) (ax_cons (ex_var 0 rfl (ax_cons (ex_blt T.b_len bb_len (ax_cons (ex_var 3 rfl (ax_nil (cd_len (.adr (at1 hph at0).get) (ax_nil (⟨_, _, _, _, _, rfl, rfl, ‹HOk _ _›, by omega, by walk_at "tk", fun x2a s2a l2a u2a o2a => ⟨_, rfl, ox_none (sd_list (.adr (at1 hph at0).get) (⟨_, .lst, ax_nil (cd_tuple .lst (⟨p, _, up M0 _ (hand _), (by rw [up_ne hph]; exact hM0p), up_comm hph, ?_⟩))⟩))⟩⟩)))))))))))))))))))
    obtain ⟨kx, ekx⟩ : ∃ k : Nat, x2a = (k : Int) := ⟨x2a.toNat, by omega⟩
    subst ekx
    have ec : cutD (U.map D.int) (some (kx : Int)) none = (U.drop kx).map D.int := by rw [cut_ints, cutA_drop]
    rw [ec, ← List.map_reverse]
    refine k _ _ ⟨?_, ?_⟩ (HOk.mono ‹_› (by omega))
    · rw [hU]; exact ord_down (by rw [← hU]; omega)
    · rw [List.length_reverse, List.length_drop]; omega
  have hw : 1 ≤ x1a := by
    have h2 : x1a ≠ 0 := by intro e; rw [e] at h; simp [sceq] at h
    omega
  refine gx_nil ?_
  repeat clear h
  refine gx_seq (g1_mid (fun ρ' M' => ∃ (c : Int) (s' : Hs), (1 ≤ c ∧ c ≤ (U.length : Int)) ∧ HOk s' (m + 2) ∧ M' = up (up M0 p (.lst (U.map D.int))) h (hand s') ∧ ρ' = [some (.adr h), some (.int n), some (.int (e0 r)), some (.adr p), some (.int x1a), some (.int c), none, none]) (g1_asg (ex_ix (ex_lst (ax_cons (ex_int (ax_cons (ex_bin (ex_int (ca_Lnext T (hr.mono (by decide)) (ax_cons (ex_var 0 rfl (ax_cons (ex_blt T.b_len bb_len (ax_cons (ex_var 3 rfl (ax_nil (cd_len (.adr (at1 hph at0).get) (ax_nil (⟨_, _, _, _, _, rfl, rfl, ‹HOk _ _›, by omega, by walk_at "tk", fun x3b s3b l3b u3b o3b => od_add (ax_cons (ex_blt T.b_len bb_len (ax_cons (ex_var 3 rfl (ax_nil (cd_len (.adr (at1 hph at0).get) (ax_nil (⟨le_b rfl, ex_bin (ex_var 4 rfl (ex_int (od_sub (id_all .lst (by walk_at "cm") (by walk_at "ix") (fun dz hdz => as_name 5 (?_) sc_Lhidden.nd)))))⟩))))))))⟩))))))))))))))))))) ?_)
  · simp only [List.mem_cons, List.not_mem_nil, or_false] at hdz
    rcases hdz with rfl | rfl | rfl <;> exact ⟨_, _, ⟨by omega, by omega⟩, HOk.mono ‹_› (by omega), rfl, rfl⟩
  rintro ρ' M' ⟨c, s2, hc, hok2, rfl, rfl⟩
  show GX _ _ _ _ _ _
  refine gx_seq (g1_lc (own := [("_law_k", 7)]) (hN := sc_Lhidden.nd) 6 rfl (ix_range1 T.b_range (ax_cons (ex_var 5 rfl (ax_nil (⟨_, rfl, by walk_at "cm", ⟨fun i acc M' => ∃ (A B : List Int) (s' : Hs), Pops U A B ∧ A.length = i ∧ acc = A.map D.int ∧ M' = up (up M0 p (.lst (B.map D.int))) h (hand s') ∧ HOk s' (m + 2 + i), ?h4a, ?lc4a, fun acc4a M4a w4a => ?_⟩⟩))))))
  case h4a => exact ⟨[], U, _, ⟨by rw [List.nil_append]; exact hUn, by rw [List.nil_append], fun x hx => by rwa [List.nil_append] at hx⟩, rfl, rfl, rfl, HOk.mono ‹_› (by omega)⟩
  case lc4a =>
    rintro i d acc M' Dl hd ⟨A, B, s4, hP, hl, rfl, rfl, hok4⟩ hD
    obtain ⟨hi, rfl⟩ := rngD_at hd
    have hi4 : (i : Int) < U.length := by omega
    have hBl : B.length = U.length - i := by have := hP.2.1; rw [List.length_append, hl] at this; omega
    have hne : h ≠ Dl := fun e => by subst e; rw [up_same] at hD; cases hD
    have hpD : p ≠ Dl := fun e => by subst e; rw [up_ne hph, up_same] at hD; cases hD
    have hbl2 : ((B.map D.int).length : Int) = (B.length : Int) := by rw [List.length_map]
    refine ⟨by rw [List.length_map]; omega, ?_⟩
    rw [up_comm hne]
    refine asb_name 7 (txb_nil ⟨fun _ => fun _ _ _ _ _ => ex_pop (ex_var 3 rfl (⟨_, _, rfl, (at1 hph (at1 hpD at0)).get, ax_cons (ca_Lnext T (hr.mono (by decide)) (ax_cons (ex_var 0 rfl (ax_cons (ex_blt T.b_len bb_len (ax_cons (ex_var 3 rfl (ax_nil (cd_len (.adr (at1 hph (at1 hpD at0)).get) (ax_nil (⟨_, _, _, _, _, rfl, rfl, ‹HOk _ _›, by omega, by walk_at "tk", fun x4aea s4aea l4aea u4aea o4aea => ax_nil (⟨_, _, _, _, _, rfl, (at1 hph (at1 hpD at0)), by walk_at "cm", by walk_at "px", by walk_at "py", ?_⟩)⟩)))))))))))⟩)), fun h => nomatch h⟩) (hN := sc_Lhidden.nd)
    have hM : M0 Dl = none := by rwa [up_ne (Ne.symm hne), up_ne (Ne.symm hpD)] at hD
    have hk : x4aea.toNat < B.length := by omega
    have em : (B.map D.int).eraseIdx x4aea.toNat = (B.eraseIdx x4aea.toNat).map D.int := by
      rw [List.eraseIdx_eq_take_drop_succ, List.eraseIdx_eq_take_drop_succ, List.map_append, List.map_take, List.map_drop]
    rw [em]
    exact ⟨up (up M0 p (.lst ((B.eraseIdx x4aea.toNat).map D.int))) h (hand s4aea), by rw [up_ne (Ne.symm hne), up_ne (Ne.symm hpD)]; exact hM, by rw [up_comm (Ne.symm hne)], A ++ [B.getD x4aea.toNat 0], B.eraseIdx x4aea.toNat, s4aea, pops_step hP hk, by rw [List.length_append, hl]; rfl, by rw [List.map_append]; rfl, rfl, HOk.mono ‹_› (by omega)⟩
  obtain ⟨A, B, s4, hP, hl, rfl, rfl, hok4⟩ := w4a
  rw [rngD_len] at hl hok4
  rw [up_comm hph]
  refine gx_drop (by rw [up_ne hph]; exact hM0p) ?_
  have hA : A ≠ [] := by intro e; rw [e] at hl; simp at hl; omega
  have hAl : A.length ≤ 25 := by omega
  rw [hU] at hP
  have ho := ord_taken hP hA
  refine gx_seq (g1_ret (ex_ty T.b_tuple bb_tuple (ax_cons (ex_if (tx_cmp (ex_int (ex_var 6 rfl (od_inI .lst (by walk_at "mi") (⟨_, rfl, ⟨fun q5a => ex_slice (ex_var 6 rfl (ox_none (ox_some (ex_bin (ex_lindexI (ex_var 6 rfl (⟨_, by walk_at "rt", ax_cons (ex_int (ax_nil (⟨_, rfl, by walk_at "mx", ex_int (od_add (⟨_, rfl, sd_list .lst (ax_nil (cd_tuple .lst (?_)))⟩))⟩)))⟩))))))), fun q5a => ex_var 6 rfl (ax_nil (cd_tuple .lst (?_)))⟩⟩)))))))))
  · have z : (0 : Int) ∈ A := of_decide_eq_true ‹decide ((0 : Int) ∈ A) = true›
    rw [if_pos z] at ho
    have ec : cutD (A.map D.int) none (some (((A.idxOf 0 : Nat) : Int) + 1)) = (A.take (A.idxOf 0 + 1)).map D.int := by
      rw [cut_ints, show ((A.idxOf 0 : Nat) : Int) + 1 = ((A.idxOf 0 + 1 : Nat) : Int) by omega, cutA_take]
    rw [ec]
    exact k _ _ ⟨ho, by rw [List.length_take]; omega⟩ (HOk.mono ‹_› (by omega))
  · have z : (0 : Int) ∉ A := of_decide_eq_false ‹decide ((0 : Int) ∈ A) = false›
    rw [if_neg z] at ho
    exact k _ _ ⟨ho, hAl⟩ (HOk.mono ‹_› (by omega))
theorem ca_Lhidden {X : Cx} {J : Gh} {e : Expr} {es : List Expr} {ρ : DEnv} {M : Mem} {P : D → Mem → Prop} {pos p : Pos} (T : Txt X.K X.mg) (hr : Room 2 X.A) (h : AX X J (e :: es) ρ M fun ds M1 => tr_Lhidden (ds ++ []) M1 P) (hg : Gl X "_law_hidden" := by rfl)
    (he : starEach (e :: es) X.env = (false, eval e X.env) :: starEach es X.env := by rfl) (hpl : (backTo pos (starEach es X.env)).any (·.1) = false := by rfl) : EX X J (.Call (.Name "_law_hidden" p) (e :: es) [] pos) ρ M P :=
  ex_call (ok_Lhidden T) hr T.m_Lhidden T.d_Lhidden.choose_spec.kp (T.d_Lhidden.choose_spec.bindsN fun _ _ _ _ _ _ us hl => match us, hl with | [_, _, _], _ => rfl) .nil (fun _ => .nil) h hg (by decide) he hpl
/-! ### the trials of _law_set fix the order -/
theorem put_get {c : Nat} : ∀ {qs : List Int} {L : List Nat} {i : Nat}, i < L.length → (putK c qs L).getD i 0 = if ∃ q ∈ qs, q.toNat = i then c else L.getD i 0
  | [], L, i, _ => by simp [putK]
  | q :: qs, L, i, h => by
    show (putK c qs (L.set q.toNat c)).getD i 0 = _
    rw [put_get (by rw [List.length_set]; exact h)]
    by_cases z : ∃ q' ∈ qs, q'.toNat = i
    · have z2 : ∃ q' ∈ q :: qs, q'.toNat = i := by obtain ⟨q', h1, h2⟩ := z; exact ⟨q', List.mem_cons_of_mem _ h1, h2⟩
      rw [if_pos z, if_pos z2]
    · rw [if_neg z]
      by_cases w : q.toNat = i
      · rw [if_pos ⟨q, List.mem_cons_self, w⟩, w, List.getD_eq_getElem?_getD, List.getElem?_set_self h]; rfl
      · rw [if_neg, List.getD_eq_getElem?_getD, List.getElem?_set_ne w, ← List.getD_eq_getElem?_getD]
        rintro ⟨q', h1, h2⟩
        rcases List.mem_cons.mp h1 with e | h1
        · exact w (e ▸ h2)
        · exact z ⟨q', h1, h2⟩
theorem stpR {R : List Nat} {p : Int} (h : p.toNat < R.length) : stp R.reverse p = R.getD p.toNat 0 := by
  unfold stp
  rw [List.length_reverse, List.getD_eq_getElem?_getD, List.getD_eq_getElem?_getD, List.getElem?_reverse (by omega), show R.length - 1 - (R.length - 1 - p.toNat) = p.toNat by omega]
theorem base_get {n : Int} {r : Bool} {i : Nat} (h : i < n.toNat + 1) : ((if r = true then 80 else 75) :: List.replicate n.toNat 80 : List Nat).getD i 0 = if i = 0 ∧ r = false then 75 else 80 := by
  cases i with
  | zero => cases r <;> rfl
  | succ i =>
    rw [List.getD_cons_succ, if_neg (fun z => nomatch z.1), List.getD_eq_getElem?_getD, List.getElem?_replicate_of_lt (by omega)]; rfl
/-- the state of a position in a placed trial -/
theorem plc_stp {n : Int} {r : Bool} {hi lo : List Int} {p : Int} (hp : 0 ≤ p ∧ p ≤ n) (hh : ∀ q ∈ hi, 0 ≤ q) (hl : ∀ q ∈ lo, 0 ≤ q) :
    stp (plcK n r hi lo).reverse p = if p ∈ hi then 71 else if p ∈ lo then 75 else if p = 0 ∧ r = false then 75 else 80 := by
  have hlen : p.toNat < n.toNat + 1 := by omega
  rw [stpR (by rw [plc_len]; exact hlen)]
  unfold plcK
  have hb : ((if r = true then 80 else 75) :: List.replicate n.toNat 80 : List Nat).length = n.toNat + 1 := by rw [List.length_cons, List.length_replicate]
  rw [put_get (by rw [put_len, hb]; exact hlen), put_get (by rw [hb]; exact hlen), base_get hlen]
  have e1 : ∀ L : List Int, (∀ q ∈ L, 0 ≤ q) → ((∃ q ∈ L, q.toNat = p.toNat) ↔ p ∈ L) := fun L hL => by
    constructor
    · rintro ⟨q, h1, h2⟩
      have := hL q h1
      have : q = p := by omega
      exact this ▸ h1
    · intro h; exact ⟨p, h, rfl⟩
  have e2 : (p.toNat = 0) ↔ p = 0 := by omega
  simp only [e1 hi hh, e1 lo hl, e2]
theorem plc_S {n : Int} {r : Bool} {hi lo : List Int} : ∀ c ∈ (plcK n r hi lo).reverse, isS c := by
  have hput : ∀ (c : Nat) (qs : List Int) (L : List Nat), isS c → (∀ x ∈ L, isS x) → ∀ x ∈ putK c qs L, isS x := by
    intro c qs
    induction qs with
    | nil => intro L _ h; exact h
    | cons q qs ih =>
      intro L hc h
      refine ih (L.set q.toNat c) hc fun x hx => ?_
      rcases List.mem_or_eq_of_mem_set hx with z | z
      · exact h x z
      · rw [z]; exact hc
  intro c hc
  rw [List.mem_reverse] at hc
  unfold plcK at hc
  refine hput 71 hi _ (.inl rfl) (hput 75 lo _ (.inr (.inl rfl)) fun x hx => ?_) c hc
  rcases List.mem_cons.mp hx with z | z
  · rw [z]; cases r
    · exact .inr (.inl rfl)
    · exact .inr (.inr rfl)
  · rw [(List.mem_replicate.mp z).2]; exact .inr (.inr rfl)
theorem set_S {n : Int} {r : Bool} {es : List Int} (hn : 0 ≤ n) : ∀ t ∈ setK n r es, (t.length : Int) = n + 1 ∧ ∀ c ∈ t, isS c := by
  intro t ht
  unfold setK at ht
  have one : ∀ hi lo, (((plcK n r hi lo).reverse.length : Int) = n + 1 ∧ ∀ c ∈ (plcK n r hi lo).reverse, isS c) := fun hi lo => ⟨by rw [List.length_reverse, plc_len]; omega, plc_S⟩
  rcases List.mem_append.mp ht with z | z
  · obtain ⟨p, _, rfl⟩ := List.mem_map.mp z
    exact one _ _
  · split at z
    · cases z
    · rw [List.mem_singleton] at z; rw [z]; exact one _ _
theorem set_len {n : Int} {r : Bool} {es : List Int} : (setK n r es).length ≤ es.length + 1 := by
  unfold setK
  rw [List.length_append, List.length_map, List.length_range]
  split <;> simp
theorem first_P {l : List Nat} : ∀ {L : List Int}, (∀ p ∈ L, stp l p = 80) → firstS l L = 80
  | [], _ => rfl
  | p :: L, h => by rw [firstS, if_pos (h p List.mem_cons_self)]; exact first_P fun q hq => h q (List.mem_cons_of_mem _ hq)
theorem later_iff {n : Int} {r : Bool} {L : List Int} {x : Int} : x ∈ laterK n r L ↔ (e0 r ≤ x ∧ x < n + 1) ∧ x ∉ L := by
  unfold laterK
  rw [List.mem_filter]
  constructor
  · rintro ⟨h1, h2⟩; exact ⟨upto_mem h1, by simpa using h2⟩
  · rintro ⟨h1, h2⟩; exact ⟨upto_in h1, by simpa using h2⟩
/-- the answers of the order to these trials fix it -/
theorem set_fixes {n : Int} {r : Bool} {es : List Int} (h : Ord n r es) : fixB n r es ((setK n r es).map fun t => ((t, seenI t es) : Ans)) = true := by
  obtain ⟨hne, hgd, hb⟩ := id h
  have h0r : e0 r = 0 ∨ e0 r = 1 := by unfold e0; split <;> simp
  have gp := gp_of hgd
  have hnn : ∀ q ∈ es, 0 ≤ q := fun q hq => by have := hb q hq; omega
  have hln : ∀ L : List Int, ∀ q ∈ laterK n r L, 0 ≤ q := fun L q hq => by have := (later_iff.mp hq).1; omega
  unfold fixB
  rw [Bool.and_eq_true]
  constructor
  · rw [List.all_eq_true]
    intro a ha
    obtain ⟨t, _, rfl⟩ := List.mem_map.mp ha
    simp
  rw [List.all_eq_true]
  intro p hp
  have hp : p ≤ es.length := by have := List.mem_range.mp hp; omega
  rw [List.all_eq_true]
  intro o ho
  suffices hs : ∃ a ∈ leftL es p ((setK n r es).map fun t => ((t, seenI t es) : Ans)), givB o a.1 a.2 = false by
    obtain ⟨a, h1, h2⟩ := hs
    have : ((leftL es p ((setK n r es).map fun t => ((t, seenI t es) : Ans))).all fun a => givB o a.1 a.2) = false := by
      rw [List.all_eq_false]
      exact ⟨a, h1, by rw [h2]; decide⟩
    rw [this]; rfl
  have sp : es = es.take p ++ es.drop p := (List.take_append_drop p es).symm
  rcases Nat.lt_or_ge p es.length with hlt | hge
  · -- es[p] is G, all later ones are K
    have hy : es.getD p 0 ∈ es := getD_in hlt
    have dr : es.drop p = es.getD p 0 :: es.drop (p + 1) := by
      rw [List.drop_eq_getElem_cons hlt, List.getD_eq_getElem?_getD, List.getElem?_eq_getElem hlt]; rfl
    rw [sp, Gp, List.pairwise_append, dr] at gp
    obtain ⟨g1, g2, g3⟩ := gp
    have hT : ∀ q : Int, 0 ≤ q ∧ q ≤ n → stp (plcK n r [es.getD p 0] (laterK n r (es.take (p + 1)))).reverse q = if q ∈ [es.getD p 0] then 71 else if q ∈ laterK n r (es.take (p + 1)) then 75 else if q = 0 ∧ r = false then 75 else 80 := fun q hq =>
      plc_stp hq (fun x hx => by rw [List.mem_singleton] at hx; rw [hx]; exact hnn _ hy) (hln _)
    have hmem : (plcK n r [es.getD p 0] (laterK n r (es.take (p + 1)))).reverse ∈ setK n r es := by
      unfold setK
      exact List.mem_append_left _ (List.mem_map.mpr ⟨p, List.mem_range.mpr hlt, rfl⟩)
    generalize hTd : (plcK n r [es.getD p 0] (laterK n r (es.take (p + 1)))).reverse = T at *
    have hpre : ∀ q ∈ es.take p, stp T q = 80 := fun q hq => by
      have hqe := List.mem_of_mem_take hq
      have hqb := hb q hqe
      have g := g3 q hq _ List.mem_cons_self
      have hqt : q ∈ es.take (p + 1) := (List.take_sublist_take_left (Nat.le_succ p)).subset hq
      rw [hT q ⟨hnn q hqe, hqb.2⟩, if_neg (by rw [List.mem_singleton]; exact g.1), if_neg (fun z => (later_iff.mp z).2 hqt), if_neg (fun z => g.2 z.1)]
    have hG : stp T (es.getD p 0) = 71 := by rw [hT _ ⟨hnn _ hy, (hb _ hy).2⟩, if_pos List.mem_cons_self]
    have hseen : seenI T es = 1 := by
      have : firstS T es = 71 := by
        conv => lhs; rw [sp]
        rw [fsA, if_pos (first_P hpre), dr, firstS, hG]; rfl
      unfold seenI; rw [this]; rfl
    refine ⟨(T, seenI T es), (left_iff hp).mpr ⟨List.mem_map.mpr ⟨T, hmem, rfl⟩, first_P hpre⟩, ?_⟩
    rw [hseen]
    cases o with
    | none => rfl
    | some x =>
      obtain ⟨_, h2, h3⟩ := oth_some.mp ho
      have hK : stp T x = 75 := by
        rw [hT x ⟨by omega, by omega⟩, if_neg, if_pos (later_iff.mpr ⟨h2, h3⟩)]
        rw [List.mem_singleton]
        intro e
        apply h3
        rw [take_succ_getD hlt, e]
        simp
      show (decide (stp T x = 80) || decide (carryS (stp T x) = 1)) = false
      rw [hK]; decide
  · -- all that is left is G
    have hpe : p = es.length := by omega
    have h0 : es.getLast? ≠ some 0 := by
      intro z
      cases o with
      | none => have := oth_none.mp ho; omega
      | some x => exact (oth_some.mp ho).1 ⟨hpe, z⟩
    have hnz := last_nz hgd h0
    have hT : ∀ q : Int, 0 ≤ q ∧ q ≤ n → stp (plcK n r (laterK n r es) []).reverse q = if q ∈ laterK n r es then 71 else if q ∈ ([] : List Int) then 75 else if q = 0 ∧ r = false then 75 else 80 := fun q hq =>
      plc_stp hq (hln _) (fun x hx => nomatch hx)
    have hmem : (plcK n r (laterK n r es) []).reverse ∈ setK n r es := by
      unfold setK
      rw [if_neg h0]
      exact List.mem_append_right _ List.mem_cons_self
    generalize (plcK n r (laterK n r es) []).reverse = T at *
    have hpre : ∀ q ∈ es, stp T q = 80 := fun q hq => by
      rw [hT q ⟨hnn q hq, (hb q hq).2⟩, if_neg (fun z => (later_iff.mp z).2 hq), if_neg List.not_mem_nil, if_neg (fun z => hnz q hq z.1)]
    have hseen : seenI T es = 0 := by
      unfold seenI; rw [first_P hpre]; rfl
    refine ⟨(T, seenI T es), (left_iff hp).mpr ⟨List.mem_map.mpr ⟨T, hmem, rfl⟩, first_P fun q hq => hpre q (List.mem_of_mem_take hq)⟩, ?_⟩
    rw [hseen]
    cases o with
    | none => have := oth_none.mp ho; omega
    | some x =>
      obtain ⟨_, h2, h3⟩ := oth_some.mp ho
      rw [List.take_of_length_le (by omega)] at h3
      have hG : stp T x = 71 := by rw [hT x ⟨by omega, by omega⟩, if_pos (later_iff.mpr ⟨h2, h3⟩)]
      show (decide (stp T x = 80) || decide (carryS (stp T x) = 0)) = false
      rw [hG]; decide
def pick3 (y x : Int) : Int := if y = 0 then 0 else if y = 1 then 1 else x
theorem at3 {y x : Int} (h : 0 ≤ y ∧ y < 3) : atI [D.int 0, D.int 1, D.int x] y = some (.int (pick3 y x)) := by
  have : y = 0 ∨ y = 1 ∨ y = 2 := by omega
  rcases this with rfl | rfl | rfl <;> rfl
theorem pick3_b {y x : Int} (h : 0 ≤ x ∧ x < 4) : 0 ≤ pick3 y x ∧ pick3 y x ≤ 3 := by
  unfold pick3; split
  · omega
  · split <;> omega
theorem pick3_c {y x : Int} (h1 : 0 ≤ x) (h2 : x < 4) : -(2 ^ 62) ≤ pick3 y x ∧ pick3 y x < 2 ^ 62 := by have := pick3_b (y := y) ⟨h1, h2⟩; omega
theorem anOf {d : D} {A : List Ans} (h : d ∈ [D.lst (A.map ansD), D.tup (A.map ansD)]) : d = .lst (A.map ansD) ∨ d = .tup (A.map ansD) := by simpa using h
theorem atR {A : List Ans} {x : Int} (h : 0 ≤ x ∧ x < (A.length : Int)) : atI (A.map ansD) x = some (.tup [.str (S (A.getD x.toNat ([], 0)).1), .int (A.getD x.toNat ([], 0)).2]) := by
  have hi : x.toNat < A.length := by omega
  have := atI_nat (xs := A.map ansD) (j := x.toNat) (v := ansD (A.getD x.toNat ([], 0))) (by rw [List.getElem?_map, List.getElem?_eq_getElem hi, List.getD_eq_getElem?_getD, List.getElem?_eq_getElem hi]; rfl)
  rwa [Int.toNat_of_nonneg h.1] at this
theorem wts_ans : ∀ {A : List Ans}, (∀ a ∈ A, a.1.length ≤ 30) → wts (A.map ansD) ≤ 2500 * A.length
  | [], _ => Nat.zero_le _
  | a :: A, h => by
    have h1 := wts_ans (A := A) fun b hb => h b (List.mem_cons_of_mem _ hb)
    have h2 := h a List.mem_cons_self
    show wt (ansD a) + 2 + wts (A.map ansD) ≤ _
    have h3 : wt (ansD a) = (10 * (S a.1).length + 2) + 2 + (2000 + 2 + 0) + 3 := rfl
    rw [S_len] at h3
    rw [List.length_cons]; omega
local macro_rules | `(tactic| walk_at "cm") => `(tactic| exact pick3_c (by omega) (by omega))
local macro_rules | `(tactic| walk_at "an") => `(tactic| first | exact .inl rfl | exact .inr rfl | exact anOf ‹_ ∈ _›)
local macro_rules | `(tactic| walk_at "ao") => `(tactic| assumption)
local macro_rules | `(tactic| walk_at "gp") => `(tactic| assumption)
local macro_rules | `(tactic| walk_at "gr") => `(tactic| assumption)
local macro_rules | `(tactic| walk_at "ne") => `(tactic| assumption)
local macro_rules | `(tactic| walk_at "wd") => `(tactic| assumption)
set_option maxHeartbeats 0 in
theorem ok_law {pg : Program} {w : World} {K : PySem.W.Frag} {mg : Str → Option Value} {base : Heap} (T : Txt K mg) : FnG pg w K mg base 6 (He.fAd K ("law", none)) T.d_law.choose ["_law_script"] tr_law :=
  fn_okG T.d_law.choose_spec sc_law (fun ds M P t => len_law t) fun cdv A outer s H ds M P hgd hr t => by
  obtain ⟨ns, rfl, k⟩ := t
  refine gx_seq (g1_asg (ca_Ltap T (hr.mono (by decide)) (ax_cons (ex_var 0 rfl (ax_nil (⟨_, rfl, fun h s0a hn o0a => as_name 1 (?_) sc_law.nd⟩))))))
  refine gx_seq (g1_for PassesOwn.never rfl (ix_range1 T.b_range (ax_cons (ex_int (ax_nil (⟨_, rfl, by walk_at "cm", ⟨fun j ρ' M' => ∃ s x2 x3 x4 x5 x6 x7 x8 x9 x10 x11 x12 x13 x14, M' = up M h (hand s) ∧ HOk s (4000 * j) ∧ ρ' = [some (.scr ns), some (.adr h), x2, x3, x4, x5, x6, x7, x8, x9, x10, x11, x12, x13, x14], ⟨_, _, _, _, _, _, _, _, _, _, _, _, _, _, rfl, ‹HOk _ _›, rfl⟩, ?hs, ?hd⟩⟩))))))
  case hs =>
    rintro j d ρ' M' hd ⟨s, x2, x3, x4, x5, x6, x7, x8, x9, x10, x11, x12, x13, x14, rfl, hok, rfl⟩
    obtain ⟨hj, rfl⟩ := rngD_at hd
    have hj2 : j < 4 := hj
    refine as_name 2 (?_) sc_law.nd
    refine gx_seq (g1_asg (ca_Lnext T (hr.mono (by decide)) (ax_cons (ex_var 1 rfl (ax_cons (ex_int (ax_nil (⟨_, _, _, _, _, rfl, rfl, ‹HOk _ _›, by omega, by walk_at "tk", fun x1_0a s1_0a l1_0a u1_0a o1_0a => as_name 3 (?_) sc_law.nd⟩))))))))
    obtain ⟨r, er⟩ : ∃ r, x1_0a = e0 r := by
      by_cases z : x1_0a = 1
      · exact ⟨true, z⟩
      · exact ⟨false, by show x1_0a = 0; omega⟩
    subst er
    have h0r : e0 r = 0 ∨ e0 r = 1 := by unfold e0; split <;> simp
    refine gx_seq (g1_mid (fun ρ' M' => ∃ (n : Int) (s' : Hs), (e0 r ≤ n ∧ 1 ≤ n ∧ n ≤ 24) ∧ HOk s' (4000 * j + 3) ∧ M' = up M h (hand s') ∧ ρ' = [some (.scr ns), some (.adr h), some (.int (0 + (j : Int))), some (.int (e0 r)), some (.int n), x5, x6, x7, x8, x9, x10, x11, x12, x13, x14]) (g1_asg (ex_ix (ex_lst (ax_cons (ex_bin (ex_int (ex_var 3 rfl (od_add (ax_cons (ex_int (ax_cons (ex_int (ax_cons (ex_int (ax_cons (ex_bin (ex_bin (ex_int (ex_var 3 rfl (od_add (ca_Lnext T (hr.mono (by decide)) (ax_cons (ex_var 1 rfl (ax_cons (ex_bin (ex_int (ex_var 3 rfl (od_sub (ax_nil (⟨_, _, _, _, _, rfl, rfl, ‹HOk _ _›, by omega, by walk_at "tk", fun x1_1c s1_1c l1_1c u1_1c o1_1c => od_add (ax_nil (⟨le_b rfl, ca_Lnext T (hr.mono (by decide)) (ax_cons (ex_var 1 rfl (ax_cons (ex_int (ax_nil (⟨_, _, _, _, _, rfl, rfl, ‹HOk _ _›, by omega, by walk_at "tk", fun x1_1b s1_1b l1_1b u1_1b o1_1b => id_all .lst (by walk_at "cm") (by walk_at "ix") (fun dz hdz => as_name 4 (?_) sc_law.nd)⟩))))))⟩))⟩)))))))))))))))))))))))))))))) ?_)
    · simp only [List.mem_cons, List.not_mem_nil, or_false] at hdz
      rcases hdz with rfl | rfl | rfl | rfl | rfl <;> exact ⟨_, _, ⟨by omega, by omega, by omega⟩, HOk.mono ‹_› (by omega), rfl, rfl⟩
    rintro ρ' M' ⟨n, s2, hn, hok2, rfl, rfl⟩
    show GX _ _ _ _ _ _
    have hn2 : 1 ≤ n ∧ n ≤ 24 := hn.2
    refine gx_seq (g1_asg (ca_Lhidden T (hr.mono (by decide)) (ax_cons (ex_var 1 rfl (ax_cons (ex_var 4 rfl (ax_cons (ex_var 3 rfl (ax_nil (⟨_, _, _, _, _, _, rfl, rfl, ‹HOk _ _›, by omega, by walk_at "cm", fun e1_2a s1_2a he1_2a o1_2a => as_name 5 (?_) sc_law.nd⟩))))))))))
    generalize e1_2a = es at *
    generalize s1_2a = s3 at *
    obtain ⟨ho, hel⟩ := he1_2a
    have ok3 : HOk s3 (4000 * j + 50) := HOk.mono o1_2a (by omega)
    obtain ⟨hne, hGd, hb⟩ := id ho
    have hoc : Ord n r es ∧ es.length ≤ 100 := ⟨ho, by omega⟩
    have hob : Ord n r es ∧ es.length ≤ 60 := ⟨ho, by omega⟩
    have hn3 : 1 ≤ n ∧ n ≤ 100 := by omega
    have hSt := set_S (n := n) (r := r) (es := es) (by omega)
    have hSl := set_len (n := n) (r := r) (es := es)
    have hfit : ∀ t : List Nat, (t.length : Int) = n + 1 → (∀ p ∈ es, 0 ≤ p ∧ p < (t.length : Int)) ∧ t.length ≤ 1000 := fun t ht => ⟨fun p hp => by have := hb p hp; omega, by omega⟩
    have hSf : ∀ t ∈ setK n r es, (∀ p ∈ es, 0 ≤ p ∧ p < (t.length : Int)) ∧ t.length ≤ 1000 := fun t ht => hfit t (hSt t ht).1
    have hb24 : ∀ p ∈ es, 0 ≤ p ∧ p ≤ 24 := fun p hp => by have := hb p hp; omega
    have hs1 : sceq (D.int (e0 r)) (D.int 1) = r := by cases r <;> rfl
    have hgr2 : ∀ p ∈ es, e0 (sceq (D.int (e0 r)) (D.int 1)) ≤ p ∧ p ≤ n := by rw [hs1]; exact hb
    have seen2 : ∀ t : List Nat, seenI t es = 0 ∨ seenI t es = 1 := fun t => by unfold seenI; split <;> simp
    have hansG : ∀ ts : List (List Nat), (∀ t ∈ ts, (t.length : Int) = n + 1 ∧ ∀ c ∈ t, isS c) → AnsG n (ts.map fun t => ((t, seenI t es) : Ans)) := fun ts hts a ha => by
      obtain ⟨t, h1, rfl⟩ := List.mem_map.mp ha
      exact ⟨(hts t h1).1, (hts t h1).2, seen2 t⟩
    have hWG := hansG _ hSt
    have hWl : ((setK n r es).map fun t => ((t, seenI t es) : Ans)).length ≤ 26 := by rw [List.length_map]; omega
    have hWo : AnsOk n ((setK n r es).map fun t => ((t, seenI t es) : Ans)) := fun a ha => (hWG a ha).1
    refine gx_seq (g1_asg (ca_Lanswered T (hr.mono (by decide)) (ax_cons (ex_var 5 rfl (ax_cons (ca_Lset T (hr.mono (by decide)) (ax_cons (ex_var 4 rfl (ax_cons (ex_var 3 rfl (ax_cons (ex_var 5 rfl (ax_nil (⟨_, _, _, rfl, by walk_at "cm", by walk_at "od", ax_nil (⟨_, _, _, rfl, by walk_at "tx", by walk_at "gf", by walk_at "sz", as_name 6 (?_) sc_law.nd⟩)⟩))))))))))))))
    have hWfix := set_fixes ho
    generalize (setK n r es).map (fun t => ((t, seenI t es) : Ans)) = W at *
    refine gx_seq (g1_if (tx_cmp (cv_fixes_3_ring T (hr.mono (by decide)) (ax_cons (ex_var 4 rfl (ax_cons (ca_Lorder T (hr.mono (by decide)) (ax_cons (ex_var 5 rfl (ax_nil (⟨_, rfl, by walk_at "ne", by walk_at "gp", by walk_at "or", by walk_at "sz", ax_cons (ex_var 6 rfl (ax_nil (kx_cons (ex_cmp (ex_var 3 rfl (ex_int (od_eq rfl (kx_nil (⟨rfl, rfl, rfl, ⟨_, _, _, _, _, rfl, by walk_at "an", by walk_at "ne", by walk_at "gp", by walk_at "gr", by walk_at "cm", by walk_at "ao", by walk_at "sz", ex_bl (od_isnotB (⟨_, rfl, ⟨fun h => ?_, fun h => ?_⟩⟩))⟩⟩)))))))))⟩)))))))))))
    · rw [hs1, hWfix] at h
      exact absurd h (by decide)
    refine gx_nil ?_
    repeat clear h
    refine gx_seq (g1_for PassesOwn.never rfl (ix_range1 T.b_range (ax_cons (ex_int (ax_nil (⟨_, rfl, by walk_at "cm", ⟨fun i2 ρ' M' => ∃ s x7 x8 x9 x10 x11 x12 x13 x14, M' = up M h (hand s) ∧ HOk s (4000 * j + 50 + 900 * i2) ∧ ρ' = [some (.scr ns), some (.adr h), some (.int (0 + (j : Int))), some (.int (e0 r)), some (.int n), some (.tup (es.map D.int)), some (.lst (W.map ansD)), x7, x8, x9, x10, x11, x12, x13, x14], ⟨_, _, _, _, _, _, _, _, _, rfl, HOk.mono ok3 (by omega), rfl⟩, ?hs2, ?hd2⟩⟩))))))
    case hs2 =>
      rintro i2 d ρ' M' hd ⟨s4, x7, x8, x9, x10, x11, x12, x13, x14, rfl, hok4, rfl⟩
      obtain ⟨hi2, rfl⟩ := rngD_at hd
      have hi24 : i2 < 4 := hi2
      refine as_name 7 (?_) sc_law.nd
      refine gx_seq (g1_asg (ex_ty T.b_list bb_list (ax_cons (ex_var 6 rfl (ax_nil (cd_list .lst (as_name 8 (?_) sc_law.nd)))))))
      refine gx_seq (g1_for PassesOwn.never rfl (ix_range1 T.b_range (ax_cons (ex_ix (ex_lst (ax_cons (ex_int (ax_cons (ex_int (ax_cons (ca_Lnext T (hr.mono (by decide)) (ax_cons (ex_var 1 rfl (ax_cons (ex_int (ax_nil (⟨_, _, _, _, _, rfl, rfl, ‹HOk _ _›, by omega, by walk_at "tk", fun x1_5_1b s1_5_1b l1_5_1b u1_5_1b o1_5_1b => ax_nil (⟨le_b rfl, ca_Lnext T (hr.mono (by decide)) (ax_cons (ex_var 1 rfl (ax_cons (ex_int (ax_nil (⟨_, _, _, _, _, rfl, rfl, ‹HOk _ _›, by omega, by walk_at "tk", fun x1_5_1a s1_5_1a l1_5_1a u1_5_1a o1_5_1a => id_seq .lst ((at3 ⟨by omega, by omega⟩)) (ax_nil (⟨_, rfl, by walk_at "cm", ⟨fun i ρ' M' => ∃ s x9 A, (AnsG n A ∧ A.length ≤ 26) ∧ M' = up M h (hand s) ∧ HOk s (4000 * j + 900 * i2 + 60 + i) ∧ ρ' = [some (.scr ns), some (.adr h), some (.int (0 + (j : Int))), some (.int (e0 r)), some (.int n), some (.tup (es.map D.int)), some (.lst (W.map ansD)), some (.int (0 + (i2 : Int))), some (.lst (A.map ansD)), x9, x10, x11, x12, x13, x14], ⟨_, _, _, ⟨hWG, hWl⟩, rfl, HOk.mono ‹_› (by omega), rfl⟩, ?hs3, ?hd3⟩⟩))⟩))))))⟩)⟩)))))))))))))))))
      case hs3 =>
        rintro i d ρ' M' hd ⟨s5, x9, A, ⟨hA, hAl⟩, rfl, hok5, rfl⟩
        have hAc : ((A.map ansD).length : Int) = (A.length : Int) := by rw [List.length_map]
        obtain ⟨hi, rfl⟩ := rngD_at hd
        have hi5 : i < 4 := by
          have := pick3_b (y := x1_5_1a) (x := x1_5_1b) ⟨by omega, by omega⟩
          omega
        refine as_name 9 (?_) sc_law.nd
        refine gx_seq (g1_asg (ex_if (tx_cmp (ex_blt T.b_len bb_len (ax_cons (ex_var 8 rfl (ax_nil (cd_len .lst (ex_int (od_lt (⟨_, rfl, ⟨fun q1_5_1_0a => ex_slice (ex_var 8 rfl (ox_some (ex_int (⟨_, rfl, ox_none (sd_list .lst (as_name 8 (?_) sc_law.nd))⟩)))), fun q1_5_1_0a => ca_Lwithout T (hr.mono (by decide)) (ax_cons (ex_var 8 rfl (ax_cons (ca_Lnext T (hr.mono (by decide)) (ax_cons (ex_var 1 rfl (ax_cons (ex_blt T.b_len bb_len (ax_cons (ex_var 8 rfl (ax_nil (cd_len .lst (ax_nil (⟨_, _, _, _, _, rfl, rfl, ‹HOk _ _›, by omega, by walk_at "tk", fun x1_5_1_0c s1_5_1_0c l1_5_1_0c u1_5_1_0c o1_5_1_0c => ax_nil (⟨_, _, rfl, by omega, by walk_at "sz", as_name 8 (?_) sc_law.nd⟩)⟩))))))))))))))⟩⟩)))))))))))
        · have ec : cutD (A.map ansD) (some 1) none = (A.drop 1).map ansD := by
            rw [cut_map]; exact congrArg _ (cutA_drop (xs := A) (k := 1))
          rw [ec]
          exact gx_nil ⟨_, _, A.drop 1, ⟨fun a ha => hA a (List.mem_of_mem_drop ha), by rw [List.length_drop]; omega⟩, rfl, HOk.mono ‹_› (by omega), rfl⟩
        · refine gx_nil ⟨_, _, _, ⟨fun a ha => ?_, ?_⟩, rfl, HOk.mono ‹_› (by omega), rfl⟩
          · rcases List.mem_append.mp ha with z | z
            · exact hA a (List.mem_of_mem_take z)
            · exact hA a (List.mem_of_mem_drop z)
          · rw [List.length_append, List.length_take, List.length_drop]; omega
      case hd3 =>
        rintro ρ' M' ⟨s5, x9, A, ⟨hA, hAl⟩, rfl, hok5, rfl⟩
        have hp3 := pick3_b (y := x1_5_1a) (x := x1_5_1b) ⟨by omega, by omega⟩
        rw [rngD_len] at hok5
        have ok6 : HOk s5 (4000 * j + 900 * i2 + 64) := HOk.mono hok5 (by omega)
        clear hok5
        show GX _ _ _ _ _ _
        refine gx_seq (g1_asg (ex_bin (ex_var 8 rfl (ca_Lanswered T (hr.mono (by decide)) (ax_cons (ex_var 5 rfl (ax_cons (ex_lc (own := [("_law_k", 9)]) (hN := sc_law.nd) rfl (ix_range1 T.b_range (ax_cons (ca_Lnext T (hr.mono (by decide)) (ax_cons (ex_var 1 rfl (ax_cons (ex_int (ax_nil (⟨_, _, _, _, _, rfl, rfl, ‹HOk _ _›, by omega, by walk_at "tk", fun x1_5_2b s1_5_2b l1_5_2b u1_5_2b o1_5_2b => ax_nil (⟨_, rfl, by walk_at "cm", ⟨fun i acc M' => ∃ (ts : List (List Nat)) (s' : Hs), (∀ t ∈ ts, (t.length : Int) = n + 1 ∧ ∀ c ∈ t, isS c) ∧ ts.length = i ∧ acc = txD ts ∧ M' = up M h (hand s') ∧ HOk s' (4000 * j + 900 * i2 + 100 + 26 * i), ?h1_5_2a, ?lc1_5_2a, fun acc1_5_2a M1_5_2a w1_5_2a => ?_⟩⟩)⟩)))))))))))))))))
        case h1_5_2a => exact ⟨[], _, (fun c hc => nomatch hc), rfl, rfl, rfl, HOk.mono ‹_› (by omega)⟩
        case lc1_5_2a =>
          rintro i d acc M' Dl hd ⟨ts, s6, hts, htl, rfl, rfl, hok6⟩ hD
          obtain ⟨hi, rfl⟩ := rngD_at hd
          have hi30 : i < 30 := by omega
          have hneD : h ≠ Dl := fun e => by subst e; rw [up_same] at hD; cases hD
          refine ⟨by rw [txD_len]; omega, ?_⟩
          rw [up_comm hneD]
          refine asb_name 9 (txb_nil ⟨fun _ => fun _ _ _ _ _ => ca_Ldrawn T (hr.mono (by decide)) (ax_cons (ex_var 1 rfl (ax_cons (ex_var 4 rfl (ax_cons (ex_var 3 rfl (ax_nil (⟨_, _, _, _, _, _, rfl, rfl, ‹HOk _ _›, by omega, by walk_at "cm", fun t1_5_2aea s1_5_2aea ht1_5_2aea o1_5_2aea => ?_⟩)))))))), fun h => nomatch h⟩) (hN := sc_law.nd)
          exact ⟨up M h (hand s1_5_2aea), by rw [up_ne (Ne.symm hneD)] at hD ⊢; exact hD, by rw [up_comm (Ne.symm hneD)], ts ++ [t1_5_2aea], _, fun c hc => (List.mem_append.mp hc).elim (hts c) (fun hc => by rw [List.mem_singleton] at hc; rw [hc]; exact ht1_5_2aea), by rw [List.length_append, htl]; rfl, by rw [txD_app]; rfl, rfl, HOk.mono ‹_› (by omega)⟩
        obtain ⟨ts, s6, hts, htl, rfl, rfl, hok6⟩ := w1_5_2a
        rw [rngD_len] at htl hok6
        have htl2 : ts.length ≤ 29 := by omega
        have ok7 : HOk s6 (4000 * j + 900 * i2 + 860) := HOk.mono hok6 (by omega)
        clear hok6 ok6
        refine ax_nil ⟨_, _, _, rfl, rfl, fun t ht => hfit t (hts t ht).1, by omega, ?_⟩
        refine od_addL .lst .lst (by rw [List.length_map, List.length_map, List.length_map]; omega) ?_
        refine as_name 8 ?_ sc_law.nd
        rw [← List.map_append]
        have hCG : AnsG n (A ++ ts.map fun t => ((t, seenI t es) : Ans)) := fun a ha => (List.mem_append.mp ha).elim (hA a) (hansG ts hts a)
        have hCl : (A ++ ts.map fun t => ((t, seenI t es) : Ans)).length ≤ 55 := by rw [List.length_append, List.length_map]; omega
        generalize A ++ ts.map (fun t => ((t, seenI t es) : Ans)) = C at *
        have hCc : ((C.map ansD).length : Int) = (C.length : Int) := by rw [List.length_map]
        have hmx : 1 ≤ (if ((C.map ansD).length : Int) > 1 then ((C.map ansD).length : Int) else 1) ∧ (if ((C.map ansD).length : Int) > 1 then ((C.map ansD).length : Int) else 1) ≤ 1000 := by split <;> omega
        have hgC : good (.lst (C.map ansD)) := goods_ans fun a ha => by
          obtain ⟨h1, h2, h3⟩ := hCG a ha
          exact ⟨isS_tx h2, by omega, by omega, by omega⟩
        have hdC : dep (.lst (C.map ansD)) ≤ 50 := by rw [dep]; exact Nat.succ_le_succ (Nat.le_trans deps_ans (by decide))
        refine gx_seq (g1_asg (ca_Lnext T (hr.mono (by decide)) (ax_cons (ex_var 1 rfl (ax_cons (ex_blt T.b_max bb_max (ax_cons (ex_int (ax_cons (ex_blt T.b_len bb_len (ax_cons (ex_var 8 rfl (ax_nil (cd_len .lst (ax_nil (cd_max2 rfl (ax_nil (⟨_, _, _, _, _, rfl, rfl, ‹HOk _ _›, by omega, by walk_at "tk", fun x1_5_3a s1_5_3a l1_5_3a u1_5_3a o1_5_3a => as_name 10 (?_) sc_law.nd⟩))))))))))))))))))
        have hka : 0 ≤ x1_5_3a := by omega
        refine gx_seq (g1_mid (fun ρ' M' => ∃ (B : List Ans) (s' : Hs), AnsG n B ∧ B.length ≤ 56 ∧ HOk s' (4000 * j + 900 * i2 + 870) ∧ M' = up M h (hand s') ∧ ρ' = [some (.scr ns), some (.adr h), some (.int (0 + (j : Int))), some (.int (e0 r)), some (.int n), some (.tup (es.map D.int)), some (.lst (W.map ansD)), some (.int (0 + (i2 : Int))), some (.lst (B.map ansD)), x9, some (.int x1_5_3a), x11, x12, x13, x14]) (g1_if (tx_pw (wx_and (tx_cmp (ca_Lnext T (hr.mono (by decide)) (ax_cons (ex_var 1 rfl (ax_cons (ex_int (ax_nil (⟨_, _, _, _, _, rfl, rfl, ‹HOk _ _›, by omega, by walk_at "tk", fun x1_5_4c s1_5_4c l1_5_4c u1_5_4c o1_5_4c => ex_int (od_eq rfl (⟨_, rfl, ⟨fun q1_5_4b => wx_and1 (tx_cmp (ex_var 8 rfl (ex_lst (ax_nil (⟨le_b rfl, od_neG hr.units (by walk_at "gd") (by walk_at "gd") (by walk_at "dp") (by walk_at "dp") (⟨_, rfl, ⟨fun h => ?_, fun h => ?_⟩⟩)⟩))))), fun q1_5_4b => ⟨fun h => (nomatch h), fun h => ?_⟩⟩⟩))⟩))))))))))) ?_)
        · have hC0 : C ≠ [] := by
            intro e
            rw [e] at h
            exact absurd h (by decide +kernel)
          have hC1 : 1 ≤ C.length := List.length_pos_iff.mpr hC0
          have hat : 0 ≤ x1_5_3a ∧ x1_5_3a < (C.length : Int) := by
            have : (if ((C.map ansD).length : Int) > 1 then ((C.map ansD).length : Int) else 1) ≤ (C.length : Int) := by split <;> omega
            omega
          have ec1 : cutD (C.map ansD) none (some x1_5_3a) = (C.take x1_5_3a.toNat).map ansD := by
            have := cutA_take (xs := C) (k := x1_5_3a.toNat)
            rw [Int.toNat_of_nonneg hka] at this
            rw [cut_map, this]
          have ec2 : cutD (C.map ansD) (some (x1_5_3a + 1)) none = (C.drop (x1_5_3a.toNat + 1)).map ansD := by
            have := cutA_drop (xs := C) (k := x1_5_3a.toNat + 1)
            rw [show ((x1_5_3a.toNat + 1 : Nat) : Int) = x1_5_3a + 1 by omega] at this
            rw [cut_map, this]
          have hz1 : (cutD (C.map ansD) none (some x1_5_3a)).length + [D.tup [D.str (S (C.getD x1_5_3a.toNat ([], 0)).1), D.int (1 - (C.getD x1_5_3a.toNat ([], 0)).2)]].length ≤ 1000000 := by
            rw [ec1, List.length_map, List.length_take]; simp; omega
          have hz2 : (cutD (C.map ansD) none (some x1_5_3a) ++ [D.tup [D.str (S (C.getD x1_5_3a.toNat ([], 0)).1), D.int (1 - (C.getD x1_5_3a.toNat ([], 0)).2)]]).length + (cutD (C.map ansD) (some (x1_5_3a + 1)) none).length ≤ 1000000 := by
            rw [ec1, ec2, List.length_append, List.length_map, List.length_map, List.length_take, List.length_drop]; simp; omega
          refine gx_seq (g1_asg (ex_bin (ex_bin (ex_slice (ex_var 8 rfl (ox_none (ox_some (ex_var 10 rfl (⟨_, rfl, sd_list .lst (ex_lst (ax_cons (ex_tup (ax_cons (ex_ix (ex_ix (ex_var 8 rfl (ex_var 10 rfl (id_seq .lst ((atR hat)) (ex_int (id_seq .tup (rfl) (ax_cons (ex_bin (ex_int (ex_ix (ex_ix (ex_var 8 rfl (ex_var 10 rfl (id_seq .lst ((atR hat)) (ex_int (id_seq .tup (rfl) (od_sub (ax_nil (⟨le_b rfl, ax_nil (⟨le_b rfl, od_addL .lst .lst (by walk_at "sz") (ex_slice (ex_var 8 rfl (ox_some (ex_bin (ex_var 10 rfl (ex_int (od_add (⟨_, rfl, ox_none (sd_list .lst (od_addL .lst .lst (by walk_at "sz") (as_name 8 (?_) sc_law.nd)))⟩))))))))⟩)⟩))))))))))))))))))))))))⟩)))))))))
          have eB : cutD (C.map ansD) none (some x1_5_3a) ++ [D.tup [D.str (S (C.getD x1_5_3a.toNat ([], 0)).1), D.int (1 - (C.getD x1_5_3a.toNat ([], 0)).2)]] ++ cutD (C.map ansD) (some (x1_5_3a + 1)) none = (C.take x1_5_3a.toNat ++ [((C.getD x1_5_3a.toNat ([], 0)).1, 1 - (C.getD x1_5_3a.toNat ([], 0)).2)] ++ C.drop (x1_5_3a.toNat + 1)).map ansD := by
            rw [ec1, ec2, List.map_append, List.map_append]; rfl
          rw [eB]
          have hcm := hCG (C.getD x1_5_3a.toNat ([], 0)) (getD_in (by omega))
          refine gx_nil ⟨_, _, fun a ha => ?_, ?_, HOk.mono ‹_› (by omega), rfl, rfl⟩
          · rcases List.mem_append.mp ha with z | z
            · rcases List.mem_append.mp z with z | z
              · exact hCG a (List.mem_of_mem_take z)
              · rw [List.mem_singleton] at z
                rw [z]
                exact ⟨hcm.1, hcm.2.1, by show 1 - (C.getD x1_5_3a.toNat ([], 0)).2 = 0 ∨ 1 - (C.getD x1_5_3a.toNat ([], 0)).2 = 1; have := hcm.2.2; omega⟩
            · exact hCG a (List.mem_of_mem_drop z)
          · rw [List.length_append, List.length_append, List.length_take, List.length_drop, List.length_singleton]; omega
        · exact gx_nil ⟨_, _, hCG, by omega, HOk.mono ‹_› (by omega), rfl, rfl⟩
        · exact gx_nil ⟨_, _, hCG, by omega, HOk.mono ‹_› (by omega), rfl, rfl⟩
        rintro ρ' M' ⟨B, s8, hBG, hBl, ok8, rfl, rfl⟩
        show GX _ _ _ _ _ _
        have ed1 : cutD (B.map ansD) (some x1_5_3a) none = (B.drop x1_5_3a.toNat).map ansD := by
          have := cutA_drop (xs := B) (k := x1_5_3a.toNat)
          rw [Int.toNat_of_nonneg hka] at this
          rw [cut_map, this]
        have ed2 : cutD (B.map ansD) none (some x1_5_3a) = (B.take x1_5_3a.toNat).map ansD := by
          have := cutA_take (xs := B) (k := x1_5_3a.toNat)
          rw [Int.toNat_of_nonneg hka] at this
          rw [cut_map, this]
        have hzd : (cutD (B.map ansD) (some x1_5_3a) none).length + (cutD (B.map ansD) none (some x1_5_3a)).length ≤ 1000000 := by
          rw [ed1, ed2, List.length_map, List.length_map, List.length_drop, List.length_take]; omega
        refine gx_seq (g1_asg (ex_bin (ex_slice (ex_var 8 rfl (ox_some (ex_var 10 rfl (⟨_, rfl, ox_none (sd_list .lst (ex_slice (ex_var 8 rfl (ox_none (ox_some (ex_var 10 rfl (⟨_, rfl, sd_list .lst (od_addL .lst .lst (by walk_at "sz") (as_name 8 (?_) sc_law.nd))⟩)))))))⟩)))))))
        rw [ed1, ed2, ← List.map_append]
        have hEG : AnsG n (B.drop x1_5_3a.toNat ++ B.take x1_5_3a.toNat) := fun a ha => (List.mem_append.mp ha).elim (fun z => hBG a (List.mem_of_mem_drop z)) (fun z => hBG a (List.mem_of_mem_take z))
        have hEl : (B.drop x1_5_3a.toNat ++ B.take x1_5_3a.toNat).length ≤ 56 := by rw [List.length_append, List.length_drop, List.length_take]; omega
        generalize B.drop x1_5_3a.toNat ++ B.take x1_5_3a.toNat = E2 at *
        have hgE : good (.lst (E2.map ansD)) := goods_ans fun a ha => by
          obtain ⟨h1, h2, h3⟩ := hEG a ha
          exact ⟨isS_tx h2, by omega, by omega, by omega⟩
        have hdE : dep (.lst (E2.map ansD)) ≤ 50 := by rw [dep]; exact Nat.succ_le_succ (Nat.le_trans deps_ans (by decide))
        have hwE : wt (.lst (E2.map ansD)) ≤ 16000000 := by
          have := wts_ans (A := E2) fun a ha => by have := (hEG a ha).1; omega
          rw [wt]; omega
        have hEo : AnsOk n E2 := fun a ha => (hEG a ha).1
        refine gx_seq (g1_asg (ex_blt T.b_repr bb_repr (ax_cons (ex_var 8 rfl (ax_nil (cd_repr hgd hr.units (by walk_at "gd") (by walk_at "wd") (by walk_at "dp") (as_name 11 (?_) sc_law.nd)))))))
        refine gx_seq (g1_asg (ca_Lnear T (hr.mono (by decide)) (ax_cons (ex_var 1 rfl (ax_cons (ex_var 4 rfl (ax_cons (ex_var 3 rfl (ax_cons (ex_var 5 rfl (ax_nil (⟨_, _, _, _, _, _, _, rfl, rfl, ‹HOk _ _›, by omega, by walk_at "cm", by walk_at "od", fun e1_5_7a s1_5_7a he1_5_7a o1_5_7a => as_name 12 (?_) sc_law.nd⟩))))))))))))
        generalize e1_5_7a = eo at *
        generalize s1_5_7a = s9 at *
        obtain ⟨ho2, hel2⟩ := he1_5_7a
        have ok9 : HOk s9 (4000 * j + 50 + 900 * (i2 + 1)) := HOk.mono o1_5_7a (by omega)
        obtain ⟨hne2, hGd2, hb2⟩ := id ho2
        have hoc2 : Ord n r eo ∧ eo.length ≤ 100 := ⟨ho2, by omega⟩
        have hb242 : ∀ p ∈ eo, 0 ≤ p ∧ p ≤ 24 := fun p hp => by have := hb2 p hp; omega
        have hgr3 : ∀ p ∈ eo, e0 (sceq (D.int (e0 r)) (D.int 1)) ≤ p ∧ p ≤ n := by rw [hs1]; exact hb2
        refine gx_seq (g1_asg (ex_blt T.b_repr bb_repr (ax_cons (ca_Lfixed T (hr.mono (by decide)) (ax_cons (ex_var 4 rfl (ax_cons (ex_var 3 rfl (ax_cons (ex_var 12 rfl (ax_cons (ex_var 8 rfl (ax_nil (⟨_, _, _, _, rfl, by walk_at "cm", by walk_at "od", by walk_at "ag", by walk_at "sz", ax_nil (cd_repr hgd hr.units (by walk_at "gd") (by walk_at "wd") (by walk_at "dp") (as_name 13 (?_) sc_law.nd))⟩))))))))))))))
        refine gx_seq (g1_asg (cv_fixes_3_ring T (hr.mono (by decide)) (ax_cons (ex_var 4 rfl (ax_cons (ca_Lorder T (hr.mono (by decide)) (ax_cons (ex_var 12 rfl (ax_nil (⟨_, rfl, by walk_at "ne", by walk_at "gp", by walk_at "or", by walk_at "sz", ax_cons (ex_ix (ex_lst (ax_cons (ex_var 8 rfl (ax_cons (ex_ty T.b_tuple bb_tuple (ax_cons (ex_var 8 rfl (ax_nil (cd_tuple .lst (ax_nil (⟨le_b rfl, ex_bin (ex_var 7 rfl (ex_int (od_mod (by walk_at "cm") (id_all .lst (by walk_at "cm") (by walk_at "ix") (fun dz hdz => ax_nil (kx_cons (ex_cmp (ex_var 3 rfl (ex_int (od_eq rfl (kx_nil (⟨rfl, rfl, rfl, ⟨_, _, _, _, _, rfl, by walk_at "an", by walk_at "ne", by walk_at "gp", by walk_at "gr", by walk_at "cm", by walk_at "ao", by walk_at "sz", as_name 14 (?_) sc_law.nd⟩⟩))))))))))))⟩))))))))))))⟩))))))))))
        rw [hs1]
        refine gx_seq (g1_if (tx_pw (wx_or (tx_cmp (ex_blt T.b_repr bb_repr (ax_cons (ex_var 14 rfl (ax_nil (cd_repr hgd hr.units (by walk_at "gd") (by walk_at "wd") (by walk_at "dp") (ex_var 13 rfl (od_ne rfl (⟨_, rfl, ⟨fun q1_5_10b => wx_or1 (tx_cmp (ex_blt T.b_repr bb_repr (ax_cons (ex_var 8 rfl (ax_nil (cd_repr hgd hr.units (by walk_at "gd") (by walk_at "wd") (by walk_at "dp") (ex_var 11 rfl (od_ne rfl (⟨_, rfl, ⟨fun h => ?_, fun h => ?_⟩⟩))))))))), fun q1_5_10b => ⟨fun h => ?_, fun h => nomatch h⟩⟩⟩))))))))))))
        · simp [sceq] at h
        rotate_left
        · simp [sceq] at q1_5_10b
        exact gx_nil (gx_nil ⟨_, _, _, _, _, _, _, _, _, rfl, HOk.mono ok9 (by omega), rfl⟩)
    case hd2 =>
      rintro ρ' M' ⟨s4, x7, x8, x9, x10, x11, x12, x13, x14, rfl, hok4, rfl⟩
      exact gx_nil ⟨_, _, _, _, _, _, _, _, _, _, _, _, _, _, rfl, HOk.mono hok4 (by show (4000 * (j : Int) + 50 + 900 * ((4 : Nat) : Int)) ≤ _; omega), rfl⟩
  case hd =>
    rintro ρ' M' ⟨s, x2, x3, x4, x5, x6, x7, x8, x9, x10, x11, x12, x13, x14, rfl, hok, rfl⟩
    show GX _ _ _ _ _ _
    refine gx_seq (g1_ret (ex_bl (?_)))
    exact k _
theorem ca_law {X : Cx} {J : Gh} {e : Expr} {es : List Expr} {ρ : DEnv} {M : Mem} {P : D → Mem → Prop} {pos p : Pos} (T : Txt X.K X.mg) (hgd : X.A.guards = some []) (hr : Room 6 X.A) (h : AX X J (e :: es) ρ M fun ds M1 => tr_law (ds ++ []) M1 P) (hg : Gl X "law" := by rfl)
    (he : starEach (e :: es) X.env = (false, eval e X.env) :: starEach es X.env := by rfl) (hpl : (backTo pos (starEach es X.env)).any (·.1) = false := by rfl) : EX X J (.Call (.Name "law" p) (e :: es) [] pos) ρ M P :=
  ex_callG (ok_law T) hgd hr T.m_law T.d_law.choose_spec.kp (T.d_law.choose_spec.bindsN fun _ _ _ _ _ _ us hl => match us, hl with | [_], _ => rfl) .nil (fun _ => .nil) h hg (by decide) he hpl
def dd_is_between : He.DefD := ⟨("is_between", none), "is_between", "is_between", defArgs s_is_between, defBody s_is_between, defScope s_is_between, [], []⟩
def dd_state_at : He.DefD := ⟨("state_at", none), "state_at", "state_at", defArgs s_state_at, defBody s_state_at, defScope s_state_at, [], []⟩
def dd_carry_of : He.DefD := ⟨("carry_of", none), "carry_of", "carry_of", defArgs s_carry_of, defBody s_carry_of, defScope s_carry_of, [], []⟩
def dd_first_state : He.DefD := ⟨("first_state", none), "first_state", "first_state", defArgs s_first_state, defBody s_first_state, defScope s_first_state, [], []⟩
def dd_output_positions : He.DefD := ⟨("output_positions", none), "output_positions", "output_positions", defArgs s_output_positions, defBody s_output_positions, defScope s_output_positions, [], []⟩
def dd_others_at : He.DefD := ⟨("others_at", none), "others_at", "others_at", defArgs s_others_at, defBody s_others_at, defScope s_others_at, [], []⟩
def dd_is_given : He.DefD := ⟨("is_given", none), "is_given", "is_given", defArgs s_is_given, defBody s_is_given, defScope s_is_given, [], []⟩
def dd_fixes : He.DefD := ⟨("fixes", none), "fixes", "fixes", defArgs s_fixes, defBody s_fixes, defScope s_fixes, [], [("ring", .bl false)]⟩
def dd_first_ones : He.DefD := ⟨("first_ones", none), "first_ones", "first_ones", defArgs s_first_ones, defBody s_first_ones, defScope s_first_ones, [], []⟩
def dd_Order___init__ : He.DefD := ⟨("Order", some "__init__"), "__init__", "Order.__init__", defArgs s_Order___init__, defBody s_Order___init__, defScope s_Order___init__, [], []⟩
def dd_Order___add__ : He.DefD := ⟨("Order", some "__add__"), "__add__", "Order.__add__", defArgs s_Order___add__, defBody s_Order___add__, defScope s_Order___add__, [], []⟩
def dd_Order___call__ : He.DefD := ⟨("Order", some "__call__"), "__call__", "Order.__call__", defArgs s_Order___call__, defBody s_Order___call__, defScope s_Order___call__, [], []⟩
def dd_Ltap : He.DefD := ⟨("_law_tap", none), "_law_tap", "_law_tap", defArgs s_Ltap, defBody s_Ltap, defScope s_Ltap, [], []⟩
def dd_Lnext : He.DefD := ⟨("_law_next", none), "_law_next", "_law_next", defArgs s_Lnext, defBody s_Lnext, defScope s_Lnext, [], []⟩
def dd_Llook : He.DefD := ⟨("_law_look", none), "_law_look", "_law_look", defArgs s_Llook, defBody s_Llook, defScope s_Llook, [], []⟩
def dd_Lhidden : He.DefD := ⟨("_law_hidden", none), "_law_hidden", "_law_hidden", defArgs s_Lhidden, defBody s_Lhidden, defScope s_Lhidden, [], []⟩
def dd_Lplaced : He.DefD := ⟨("_law_placed", none), "_law_placed", "_law_placed", defArgs s_Lplaced, defBody s_Lplaced, defScope s_Lplaced, [], []⟩
def dd_Lset : He.DefD := ⟨("_law_set", none), "_law_set", "_law_set", defArgs s_Lset, defBody s_Lset, defScope s_Lset, [], []⟩
def dd_Lanswered : He.DefD := ⟨("_law_answered", none), "_law_answered", "_law_answered", defArgs s_Lanswered, defBody s_Lanswered, defScope s_Lanswered, [], []⟩
def dd_Lfixed : He.DefD := ⟨("_law_fixed", none), "_law_fixed", "_law_fixed", defArgs s_Lfixed, defBody s_Lfixed, defScope s_Lfixed, [], []⟩
def dd_Ldrawn : He.DefD := ⟨("_law_drawn", none), "_law_drawn", "_law_drawn", defArgs s_Ldrawn, defBody s_Ldrawn, defScope s_Ldrawn, [], []⟩
def dd_Lwithout : He.DefD := ⟨("_law_without", none), "_law_without", "_law_without", defArgs s_Lwithout, defBody s_Lwithout, defScope s_Lwithout, [], []⟩
def dd_Lnear : He.DefD := ⟨("_law_near", none), "_law_near", "_law_near", defArgs s_Lnear, defBody s_Lnear, defScope s_Lnear, [], []⟩
def dd_Lorder : He.DefD := ⟨("_law_order", none), "_law_order", "_law_order", defArgs s_Lorder, defBody s_Lorder, defScope s_Lorder, [], []⟩
def dd_law : He.DefD := ⟨("law", none), "law", "law", defArgs s_law, defBody s_law, defScope s_law, [], []⟩
def dp_Order_positions : DX.PrD := ⟨"Order", "positions", "Order.positions", defArgs s_Order_positions, defBody s_Order_positions, defScope s_Order_positions⟩
def fn : List He.DefD := [dd_is_between, dd_state_at, dd_carry_of, dd_first_state, dd_output_positions, dd_others_at, dd_is_given, dd_fixes, dd_first_ones, dd_Order___init__, dd_Order___add__, dd_Order___call__, dd_Ltap, dd_Lnext, dd_Llook, dd_Lhidden, dd_Lplaced, dd_Lset, dd_Lanswered, dd_Lfixed, dd_Ldrawn, dd_Lwithout, dd_Lnear, dd_Lorder, dd_law]
def fa : List He.Fa := [.glo "is_between", .glo "state_at", .glo "carry_of", .glo "first_state", .glo "output_positions", .glo "others_at", .glo "is_given", .glo "fixes", .glo "first_ones", .glo "_law_tap", .glo "_law_next", .glo "_law_look", .glo "_law_hidden", .glo "_law_placed", .glo "_law_set", .glo "_law_answered", .glo "_law_fixed", .glo "_law_drawn", .glo "_law_without", .glo "_law_near", .glo "_law_order", .glo "law", .glo "Order", .cls "Order", .mkr "Order", .noat "Order" "entries", .meth "Order" "__add__", .free "isinstance", .free "len", .free "abs", .free "int", .free "bool", .free "list", .free "range", .free "repr", .free "tuple", .free "enumerate", .free "all", .free "max", .str "GENERATE" "G", .str "PASS" "P", .str "END" "end"]
abbrev R : PySem.W.OpenRow := PySem.W.OpenLaw.row PySem.Challenge.rw_carryprobe_k56_answers_at_greater_sizes
def exq (K : PySem.W.Frag) : Bool := sfB K "Order" && DX.conB K "Order" "GREATEST" 24 && DX.callB K "Order"
def pr : List DX.PrD := [dp_Order_positions]
abbrev hk : PySem.W.Hook := DX.hookP 7 fa fn pr exq
def ob (s : PySem.W.SharedT) : He.AlD × Bool × List He.FnW := DX.lookP fa fn pr exq 7 (HandSHeadRun.getT s)
theorem ob_eq (s : PySem.W.SharedT) : ob s = hk.obs s.abs := DX.lookP_eq (HandSHeadRun.getT_eq s)
def loose : List PySem.Str := (["ProbeError", "InvalidPosition", "AbsentError", "NoPlace", "is_between", "GENERATE", "PASS", "state_at", "carry_of", "first_state", "output_positions", "END", "others_at", "is_given", "fixes", "first_ones", "Order", "_law_tap", "_law_next", "_law_look", "_law_hidden", "_law_placed", "_law_set", "_law_answered", "_law_fixed", "_law_drawn", "_law_without", "_law_near", "_law_order"] : List PySem.Str)
theorem run (w : World) : HandSHeadRun.RunEq R (PySem.W.view R.prog [36]) hk ob 6000 loose w := by
  intro os
  kernel_rfl
theorem txt {K : PySem.W.Frag} {h : Heap} {mg : Str → Option Value} (X : K.In h) (G : h.Ns mainGlobals mg) (c : He.SaysD fa fn K) (xq : exq K = true) (cc : DX.SaysP fa fn pr exq K) : Txt K mg :=
  ⟨c.def_ 0 (d := dd_is_between) rfl,
    He.glo_ok X G (c.fact 0 (f := .glo "is_between") rfl),
    c.def_ 1 (d := dd_state_at) rfl,
    He.glo_ok X G (c.fact 1 (f := .glo "state_at") rfl),
    c.def_ 2 (d := dd_carry_of) rfl,
    He.glo_ok X G (c.fact 2 (f := .glo "carry_of") rfl),
    c.def_ 3 (d := dd_first_state) rfl,
    He.glo_ok X G (c.fact 3 (f := .glo "first_state") rfl),
    c.def_ 4 (d := dd_output_positions) rfl,
    He.glo_ok X G (c.fact 4 (f := .glo "output_positions") rfl),
    c.def_ 5 (d := dd_others_at) rfl,
    He.glo_ok X G (c.fact 5 (f := .glo "others_at") rfl),
    c.def_ 6 (d := dd_is_given) rfl,
    He.glo_ok X G (c.fact 6 (f := .glo "is_given") rfl),
    c.def_ 7 (d := dd_fixes) rfl,
    He.glo_ok X G (c.fact 7 (f := .glo "fixes") rfl),
    c.def_ 8 (d := dd_first_ones) rfl,
    He.glo_ok X G (c.fact 8 (f := .glo "first_ones") rfl),
    c.def_ 9 (d := dd_Order___init__) rfl,
    (cc.pr_ 0 (d := dp_Order_positions) rfl).2,
    c.def_ 10 (d := dd_Order___add__) rfl,
    c.def_ 11 (d := dd_Order___call__) rfl,
    c.def_ 12 (d := dd_Ltap) rfl,
    He.glo_ok X G (c.fact 9 (f := .glo "_law_tap") rfl),
    c.def_ 13 (d := dd_Lnext) rfl,
    He.glo_ok X G (c.fact 10 (f := .glo "_law_next") rfl),
    c.def_ 14 (d := dd_Llook) rfl,
    He.glo_ok X G (c.fact 11 (f := .glo "_law_look") rfl),
    c.def_ 15 (d := dd_Lhidden) rfl,
    He.glo_ok X G (c.fact 12 (f := .glo "_law_hidden") rfl),
    c.def_ 16 (d := dd_Lplaced) rfl,
    He.glo_ok X G (c.fact 13 (f := .glo "_law_placed") rfl),
    c.def_ 17 (d := dd_Lset) rfl,
    He.glo_ok X G (c.fact 14 (f := .glo "_law_set") rfl),
    c.def_ 18 (d := dd_Lanswered) rfl,
    He.glo_ok X G (c.fact 15 (f := .glo "_law_answered") rfl),
    c.def_ 19 (d := dd_Lfixed) rfl,
    He.glo_ok X G (c.fact 16 (f := .glo "_law_fixed") rfl),
    c.def_ 20 (d := dd_Ldrawn) rfl,
    He.glo_ok X G (c.fact 17 (f := .glo "_law_drawn") rfl),
    c.def_ 21 (d := dd_Lwithout) rfl,
    He.glo_ok X G (c.fact 18 (f := .glo "_law_without") rfl),
    c.def_ 22 (d := dd_Lnear) rfl,
    He.glo_ok X G (c.fact 19 (f := .glo "_law_near") rfl),
    c.def_ 23 (d := dd_Lorder) rfl,
    He.glo_ok X G (c.fact 20 (f := .glo "_law_order") rfl),
    c.def_ 24 (d := dd_law) rfl,
    He.glo_ok X G (c.fact 21 (f := .glo "law") rfl),
    He.glo_ok X G (c.fact 22 (f := .glo "Order") rfl),
    He.cls_ok (c.fact 23 (f := .cls "Order") rfl),
    He.mkr_ok (c.fact 24 (f := .mkr "Order") rfl),
    He.noat_ok (c.fact 25 (f := .noat "Order" "entries") rfl),
    He.meth_ok (c.fact 26 (f := .meth "Order" "__add__") rfl),
    ((Bool.and_eq_true_iff.mp (Bool.and_eq_true_iff.mp xq).1).1),
    DX.conB_ok ((Bool.and_eq_true_iff.mp (Bool.and_eq_true_iff.mp xq).1).2) (by decide),
    DX.callB_ok ((Bool.and_eq_true_iff.mp xq).2),
    (cc.pr_ 0 (d := dp_Order_positions) rfl).1,
    He.free_ok X G (c.fact 27 (f := .free "isinstance") rfl),
    He.free_ok X G (c.fact 28 (f := .free "len") rfl),
    He.free_ok X G (c.fact 29 (f := .free "abs") rfl),
    He.free_ok X G (c.fact 30 (f := .free "int") rfl),
    He.free_ok X G (c.fact 31 (f := .free "bool") rfl),
    He.free_ok X G (c.fact 32 (f := .free "list") rfl),
    He.free_ok X G (c.fact 33 (f := .free "range") rfl),
    He.free_ok X G (c.fact 34 (f := .free "repr") rfl),
    He.free_ok X G (c.fact 35 (f := .free "tuple") rfl),
    He.free_ok X G (c.fact 36 (f := .free "enumerate") rfl),
    He.free_ok X G (c.fact 37 (f := .free "all") rfl),
    He.free_ok X G (c.fact 38 (f := .free "max") rfl),
    He.str_ok X G (c.fact 39 (f := .str "GENERATE" "G") rfl),
    He.str_ok X G (c.fact 40 (f := .str "PASS" "P") rfl),
    He.str_ok X G (c.fact 41 (f := .str "END" "end") rfl)⟩
end My
open PySem PySem.W PySem.Calls PyProof.Rows
set_option maxRecDepth 100000 in
set_option maxHeartbeats 0 in
theorem PySem.Challenge.cw_carryprobe_k56_answers_at_greater_sizes_holds : PySem.Challenge.rw_carryprobe_k56_answers_at_greater_sizes.Holds := by
  w_on; o_law
  refine HandSHeadRun.head_any (r := OpenLaw.row PySem.Challenge.rw_carryprobe_k56_answers_at_greater_sizes) (q := view (OpenLaw.row PySem.Challenge.rw_carryprobe_k56_answers_at_greater_sizes).prog [36]) (H := My.hk) (ob := My.ob) (M := 6000) (loose := My.loose) (d := HandSHeadRun.topDef (OpenLaw.row PySem.Challenge.rw_carryprobe_k56_answers_at_greater_sizes).prog 36) (kwd := []) My.ob_eq
    (by kernel_rfl) (fun s => by kernel_rfl) My.run (by kernel_rfl) (by kernel_rfl) (by kernel_rfl) (by rfl) (by first | assumption | decide +kernel) (by decide +kernel) ⟨rfl, rfl, rfl, rfl, rfl, by decide +kernel⟩ ?hw ?hc
  case hw => w_witness2
  case hc =>
    refine DX.walk_ofG (l := PySem.Challenge.rw_carryprobe_k56_answers_at_greater_sizes) (k := 6) (x := "_law_script") rfl (by kernel_rfl) ⟨rfl, by decide, by decide⟩ ?G
    intro w mg fa h Y G hmg0
    obtain ⟨K, KX, cc⟩ := Y
    have hmg : mg ("law" : PySem.Str) = some (.ref fa) := by
      have e : (HandSHeadRun.topDef (OpenLaw.row PySem.Challenge.rw_carryprobe_k56_answers_at_greater_sizes).prog 36).name = ("law" : PySem.Str) := by kernel_rfl
      rw [← e]
      exact hmg0
    have T := My.txt KX G cc.says cc.exx cc
    have e := hmg.symm.trans T.m_law
    cases e
    exact ⟨K, T.d_law.choose, My.tr_law, KX, fun s u => T.d_law.choose_spec.bindsA (ps := ["_law_script"]) (fun _ _ _ _ _ _ us hl => match us, hl with | [_], _ => rfl) s [u] rfl, fun H a ns hl hS => My.law_start hl hS, fun base _ _ => My.ok_law T⟩
