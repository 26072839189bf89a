import PyProof.Rows.All
import Wide.All
import OpenK.AllK
import Wide.FinOn
import HandS.ForMost
import HandS.Walk
import HandS.Flow
import HandS.Defaults
import HandS.Lambda
import HandS.TupAny
import HandS.TupMul
import HandS.Zip
import HandS.Deep
import PyProof.ReprRoads
import PyProof.ReprLen
import HandS.WideBits
import HandS.IsInst
import HandS.Iter
import HandS.Style
import HandS.Conv
import HandS.Text
import HandS.Codes
import HandS.List
import HandS.HeadHook1
import HandS.HeadHook2
import HandS.Dict
import HandS.Star
import HandS.Replace
import HandS.StrMore
import KE.KDictPairs
import PyProof.ListStr
import PyProof.StrBlock2
import PyProof.Rows.StrMul
import PyProof.Rows.StrCase
import HandS.Property
import HandS.ClsMeth
import KE.KIndexOf
import KE.GoesEnum
import PyProof.TupleOfStr
import HandS.TupLe
import KE.KRevSl
import HandS.FStr
import PyProof.NeKinds
import KE.GoesZip
import HandS.SetFor
import HandS.Exc
import HandS.ExcInit
import PyProof.InstNe
import PyProof.InstEq
import KE.KExcInit
import PyProof.ExcBaseAll.LookupError
import PyProof.ExcBaseAll.OverflowError
import HandS.ExcIs
import HandS.ExcField
import KE.KTryMore
import HandS.NoneIn
import HandS.EndTab
import KE.KNestM
import KE.KDictZip
import KE.KTurns
import PyProof.ListNew
import KE.GoesEnumKw
import KE.DataFind
import OpenK.KMore
import PyProof.CollectIter
import PyProof.Walks
import KE.KUnpack
import KE.KxField
import HandS.DictComp
import HandS.Nested
import KE.KSuper
import HandS.GenList
import KE.KStateDown
import Lean
import HandS.Head0
import HandS.Head1
import HandS.Head2
import HandS.HeadEnd
import PySem.Challenge.RW_carryprobe_k59_rows_refused
set_option Elab.async false
set_option linter.all false
set_option maxRecDepth 100000
set_option autoImplicit false
set_option maxHeartbeats 4000000
section
namespace DX
open PySem PySem.Spec L2

inductive D where
  | non | bl (b : Bool) | int (i : Int) | str (x : Str) | adr (a : Addr) | ty (n : String)
  | tup (ds : List D) | lst (ds : List D) | scr (ns : List Int)
  | ins (C : Addr) (fs : List (Str × D))
  | dct (kvs : List (Key × D))
  | stup (ds : List D)
  | exn (C : Addr) (fs : List (Str × D))
  | tbl (q : Str)

/-- at a: an error of the class at C that was caught, its dict at d -/
def exH (a C : Addr) (d : Option Addr) : HO := .ext fun h => ∃ (oe : Obj) (vs : Array Value), h.get? a = some oe ∧ oe.cls = .ref C ∧ oe.dict = d ∧ oe.data = .fields vs

mutual
inductive Rp (K : PySem.W.Frag) (F : Hp) : V → D → Prop
  | non : Rp K F .non .non
  | bl (b : Bool) : Rp K F (.bl b) (.bl b)
  | int (i : Int) : Rp K F (.int i) (.int i)
  | str (x : Str) : Rp K F (.str x) (.str x)
  | adr (a : Addr) : Rp K F (.ref a) (.adr a)
  | ty (n : String) : Rp K F (.ty n) (.ty n)
  | tup {a : Addr} {xs : List V} {ds : List D} : SqT K F a xs → Rps K F xs ds → Rp K F (.ref a) (.tup ds)
  | lst {a : Addr} {xs : List V} {ds : List D} : F a = some (.lst xs) → Rps K F xs ds → Rp K F (.ref a) (.lst ds)
  | scr {a : Addr} {ns : List Int} : SqL K F a (ns.map V.int) → Rp K F (.ref a) (.scr ns)
  | ins {a C dx : Addr} {fs : List (Str × V)} {gs : List (Str × D)} : F a = some (.ins C dx fs) → Rfs K F fs gs → Rp K F (.ref a) (.ins C gs)
  | dct {a : Addr} {kvs : List (Key × V)} {ds : List (Key × D)} : F a = some (.dK kvs) → Rks K F kvs ds → Rp K F (.ref a) (.dct ds)
  | stup {a : Addr} {o : Obj} {xs : List V} {ds : List D} : F a = some (.frz o (.tup xs)) → (o.cls = .type "tuple" ∧ o.dict = none) → Rps K F xs ds → Rp K F (.ref a) (.stup ds)
  | exn {a C : Addr} {d : Option Addr} {fs : List (Str × V)} {gs : List (Str × D)} : F a = some (exH a C d) → ((d = none ∧ fs = []) ∨ ∃ dd, d = some dd ∧ F dd = some (.xd fs)) → Rfs K F fs gs → Rp K F (.ref a) (.exn C gs)
inductive Rps (K : PySem.W.Frag) (F : Hp) : List V → List D → Prop
  | nil : Rps K F [] []
  | cons {v : V} {d : D} {vs : List V} {ds : List D} : Rp K F v d → Rps K F vs ds → Rps K F (v :: vs) (d :: ds)
inductive Rfs (K : PySem.W.Frag) (F : Hp) : List (Str × V) → List (Str × D) → Prop
  | nil : Rfs K F [] []
  | cons {x : Str} {v : V} {d : D} {vs : List (Str × V)} {ds : List (Str × D)} : Rp K F v d → Rfs K F vs ds → Rfs K F ((x, v) :: vs) ((x, d) :: ds)
inductive Rks (K : PySem.W.Frag) (F : Hp) : List (Key × V) → List (Key × D) → Prop
  | nil : Rks K F [] []
  | cons {x : Key} {v : V} {d : D} {vs : List (Key × V)} {ds : List (Key × D)} : Rp K F v d → Rks K F vs ds → Rks K F ((x, v) :: vs) ((x, d) :: ds)
end

section
variable {K : PySem.W.Frag} {F F' H H' : Hp}
theorem same_rd {a : Addr} {u : HO} (e : Same H H') (h : Rd H a u) : Rd H' a u := by
  rcases h with h | ⟨o, h⟩
  · exact .inl (e _ _ h)
  · exact .inr ⟨o, e _ _ h⟩
theorem same_l {a : Addr} {xs : List V} (e : Same H H') (h : SqL K H a xs) : SqL K H' a xs := by
  rcases h with h | h
  · exact .inl (same_rd e h)
  · exact .inr h
theorem same_t {a : Addr} {xs : List V} (e : Same H H') (h : SqT K H a xs) : SqT K H' a xs := by
  rcases h with h | h
  · exact .inl (same_rd e h)
  · exact .inr h
mutual
theorem Rp.mono (e : Same F F') : ∀ {v : V} {d : D}, Rp K F v d → Rp K F' v d
  | _, _, .non => .non
  | _, _, .bl b => .bl b
  | _, _, .int i => .int i
  | _, _, .str x => .str x
  | _, _, .adr a => .adr a
  | _, _, .ty n => .ty n
  | _, _, .tup h r => .tup (same_t e h) (Rps.mono e r)
  | _, _, .lst h r => .lst (e _ _ h) (Rps.mono e r)
  | _, _, .scr h => .scr (same_l e h)
  | _, _, .ins h r => .ins (e _ _ h) (Rfs.mono e r)
  | _, _, .dct h r => .dct (e _ _ h) (Rks.mono e r)
  | _, _, .stup h c r => .stup (e _ _ h) c (Rps.mono e r)
  | _, _, .exn h c r => .exn (e _ _ h) (c.imp id fun ⟨dd, h1, h2⟩ => ⟨dd, h1, e _ _ h2⟩) (Rfs.mono e r)
theorem Rps.mono (e : Same F F') : ∀ {v : List V} {d : List D}, Rps K F v d → Rps K F' v d
  | _, _, .nil => .nil
  | _, _, .cons h r => .cons (Rp.mono e h) (Rps.mono e r)
theorem Rfs.mono (e : Same F F') : ∀ {v : List (Str × V)} {d : List (Str × D)}, Rfs K F v d → Rfs K F' v d
  | _, _, .nil => .nil
  | _, _, .cons h r => .cons (Rp.mono e h) (Rfs.mono e r)
theorem Rks.mono (e : Same F F') : ∀ {v : List (Key × V)} {d : List (Key × D)}, Rks K F v d → Rks K F' v d
  | _, _, .nil => .nil
  | _, _, .cons h r => .cons (Rp.mono e h) (Rks.mono e r)
end
theorem Rps.length : ∀ {v : List V} {d : List D}, Rps K F v d → v.length = d.length
  | _, _, .nil => rfl
  | _, _, .cons _ r => congrArg Nat.succ (Rps.length r)
theorem Rps.append : ∀ {v w : List V} {d e : List D}, Rps K F v d → Rps K F w e → Rps K F (v ++ w) (d ++ e)
  | _, _, _, _, .nil, s => s
  | _, _, _, _, .cons h r, s => .cons h (Rps.append r s)
theorem Rps.get : ∀ {v : List V} {d : List D} {i : Nat} {x : D}, Rps K F v d → d[i]? = some x → ∃ y, v[i]? = some y ∧ Rp K F y x
  | _, _, i, _, .nil, e => by simp at e
  | _, _, 0, _, .cons h _, e => by simp at e; subst e; exact ⟨_, rfl, h⟩
  | _, _, i + 1, x, .cons _ r, e => by
    obtain ⟨y, h1, h2⟩ := Rps.get (i := i) (x := x) r (by simpa using e)
    exact ⟨y, by simpa using h1, h2⟩
theorem Rps.set : ∀ {v : List V} {d : List D} {y : V} {x : D} (i : Nat), Rps K F v d → Rp K F y x → Rps K F (v.set i y) (d.set i x)
  | _, _, _, _, _, .nil, _ => .nil
  | _, _, _, _, 0, .cons _ r, h => .cons h r
  | _, _, _, _, i + 1, .cons h' r, h => .cons h' (Rps.set i r h)
theorem Rps.drop : ∀ {v : List V} {d : List D} (i : Nat), Rps K F v d → Rps K F (v.drop i) (d.drop i)
  | _, _, 0, r => r
  | _, _, _ + 1, .nil => .nil
  | _, _, i + 1, .cons _ r => Rps.drop i r
end

abbrev DEnv := List (Option D)
def look : DEnv → Nat → Option D
  | [], _ => none
  | d :: _, 0 => d
  | _ :: r, n + 1 => look r n
def put : DEnv → Nat → D → DEnv
  | [], _, _ => []
  | _ :: r, 0, d => some d :: r
  | x :: r, n + 1, d => x :: put r n d
/-- a slot forgotten -/
def cut : DEnv → Nat → DEnv
  | [], _ => []
  | _ :: r, 0 => none :: r
  | x :: r, n + 1 => x :: cut r n
inductive En (K : PySem.W.Frag) (F : Hp) : St → DEnv → Prop
  | nil : En K F [] []
  | cons {v : Option V} {d : Option D} {σ : St} {ρ : DEnv} : (∀ x, d = some x → ∃ y, v = some y ∧ Rp K F y x) → En K F σ ρ → En K F (v :: σ) (d :: ρ)
section
variable {K : PySem.W.Frag} {F F' H H' : Hp}
theorem En.mono (e : Same F F') : ∀ {σ : St} {ρ : DEnv}, En K F σ ρ → En K F' σ ρ
  | _, _, .nil => .nil
  | _, _, .cons h r => .cons (fun x q => let ⟨y, a, b⟩ := h x q; ⟨y, a, b.mono e⟩) (En.mono e r)
theorem En.look : ∀ {σ : St} {ρ : DEnv} {i : Nat} {d : D}, En K F σ ρ → DX.look ρ i = some d → ∃ y, σ[i]? = some (some y) ∧ Rp K F y d
  | _, _, i, _, .nil, e => by simp [DX.look] at e
  | _, _, 0, d, .cons h r, e => by
    obtain ⟨y, a, b⟩ := h d e
    exact ⟨y, by rw [a]; rfl, b⟩
  | _, _, i + 1, d, .cons h r, e => by
    obtain ⟨y, a, b⟩ := En.look (i := i) r e
    exact ⟨y, by simpa using a, b⟩
theorem En.put : ∀ {σ : St} {ρ : DEnv} {y : V} {d : D} (i : Nat), En K F σ ρ → Rp K F y d → En K F (σ.set i (some y)) (DX.put ρ i d)
  | _, _, _, _, _, .nil, _ => .nil
  | _, _, y, d, 0, .cons _ r, h => .cons (fun x q => ⟨y, rfl, by cases q; exact h⟩) r
  | _, _, _, _, i + 1, .cons h' r, h => .cons h' (En.put i r h)
theorem En.cut : ∀ {σ : St} {ρ : DEnv} (i : Nat), En K F σ ρ → En K F (σ.set i none) (DX.cut ρ i)
  | _, _, _, .nil => .nil
  | _, _, 0, .cons _ r => .cons (fun x q => by cases q) r
  | _, _, i + 1, .cons h' r => .cons h' (En.cut i r)
end

abbrev Mem := Addr → Option D
def up (M : Mem) (a : Addr) (d : D) : Mem := fun b => if b = a then some d else M b
def rm (M : Mem) (a : Addr) : Mem := fun b => if b = a then none else M b
theorem up_same {M : Mem} {a : Addr} {d : D} : up M a d a = some d := if_pos rfl
theorem up_ne {M : Mem} {a b : Addr} {d : D} (h : b ≠ a) : up M a d b = M b := if_neg h
def Mt (K : PySem.W.Frag) (F H : Hp) (a : Addr) : D → Prop
  | .lst ds => ∃ xs, H a = some (.lst xs) ∧ Rps K F xs ds
  | .ins C gs => ∃ dx fs, H a = some (.ins C dx fs) ∧ Rfs K F fs gs
  | .dct ds => ∃ kvs, H a = some (.dK kvs) ∧ Rks K F kvs ds
  | .tbl q => ∃ ps : Array Value, H a = some (.tbl ps) ∧ TriplesOk ps.toList ∧ ∀ (pos : Pos) (cv : Value), codeAmong pos ps.toList = some cv → ∃ c, cv = .ref c ∧ F c = some (LamX.CodeO c q)
  | _ => False
structure Ok (K : PySem.W.Frag) (F : Hp) (M : Mem) (H : Hp) : Prop where
  ex : Same F H
  mt : ∀ a d, M a = some d → F a = none ∧ Mt K F H a d
section
variable {K : PySem.W.Frag} {F F' H H' : Hp} {M : Mem}
theorem Mt.there {a : Addr} {d : D} (m : Mt K F H a d) : ∃ o, H a = some o := by
  cases d <;> first
    | exact m.elim
    | (obtain ⟨_, h, _⟩ := m; exact ⟨_, h⟩)
    | (obtain ⟨_, _, h, _⟩ := m; exact ⟨_, h⟩)
theorem Mt.mono {a : Addr} {d : D} (e : Same F F') (h : H' a = H a) (m : Mt K F H a d) : Mt K F' H' a d := by
  cases d <;> first
    | exact m.elim
    | (obtain ⟨xs, p, r⟩ := m; exact ⟨xs, by rw [h]; exact p, r.mono e⟩)
    | (obtain ⟨dx, fs, p, r⟩ := m; exact ⟨dx, fs, by rw [h]; exact p, r.mono e⟩)
    | (obtain ⟨ps, p, t, r⟩ := m; exact ⟨ps, by rw [h]; exact p, t, fun pos cv z => let ⟨c, h1, h2⟩ := r pos cv z; ⟨c, h1, e _ _ h2⟩⟩)
theorem same_new {a : Addr} {o : HO} (h : H a = none) : Same H (upd H a o) := fun b u e => by
  rw [upd_ne (ne_of_none e h)]
  exact e
/-- it changes -/
theorem Ok.set (k : Ok K F M H) {a : Addr} {o : HO} {d d' : D} (h : M a = some d) (m : Mt K F (upd H a o) a d') : Ok K F (up M a d') (upd H a o) := by
  have h1 := (k.mt a d h).1
  refine ⟨fun b u e => ?_, fun b d' e => ?_⟩
  · rw [upd_ne (ne_of_none e h1)]
    exact k.ex b u e
  · by_cases hb : b = a
    · subst hb
      rw [up_same] at e; cases e
      exact ⟨h1, m⟩
    · rw [up_ne hb] at e
      obtain ⟨m1, m2⟩ := k.mt b d' e
      exact ⟨m1, m2.mono (Same.refl F) (upd_ne hb)⟩
/-- it is not to change any more -/
theorem Ok.freeze (k : Ok K F M H) {a : Addr} {o : HO} {d : D} (h : M a = some d) (ho : H a = some o) : Same F (upd F a o) ∧ Ok K (upd F a o) (rm M a) H := by
  have h1 := (k.mt a d h).1
  refine ⟨same_new h1, fun b u e => ?_, fun b d' e => ?_⟩
  · by_cases hb : b = a
    · subst hb; rw [upd_same] at e; cases e; exact ho
    · rw [upd_ne hb] at e; exact k.ex b u e
  · unfold rm at e
    by_cases hb : b = a
    · rw [if_pos hb] at e; cases e
    · rw [if_neg hb] at e
      obtain ⟨m1, m2⟩ := k.mt b d' e
      exact ⟨by rw [upd_ne hb]; exact m1, m2.mono (same_new h1) rfl⟩
end

/-- what stays known, whatever is added -/
structure Gh where
  p : Hp → Prop
  mono : ∀ F F', Same F F' → p F → p F'
structure Sts (K : PySem.W.Frag) (J : Gh) (F : Hp) (σ : St) (H : Hp) (ρ : DEnv) (M : Mem) : Prop where
  en : En K F σ ρ
  ok : Ok K F M H
  gh : J.p F
def Kt (K : PySem.W.Frag) (F : Hp) (P : D → Mem → Prop) (Q : VK) : Prop := ∀ d v M' F' H', P d M' → Same F F' → Ok K F' M' H' → Rp K F' v d → Q v H'
def Kb (K : PySem.W.Frag) (F : Hp) (P : Bool → Mem → Prop) (Q : Bool → Hp → Prop) : Prop := ∀ b M' F' H', P b M' → Same F F' → Ok K F' M' H' → Q b H'
def Ka (K : PySem.W.Frag) (F : Hp) (P : List D → Mem → Prop) (Q : List V → Hp → Prop) : Prop := ∀ ds vs M' F' H', P ds M' → Same F F' → Ok K F' M' H' → Rps K F' vs ds → Q vs H'
def tD (K : PySem.W.Frag) (J : Gh) (ρ : DEnv) (M : Mem) (P : D → Mem → Prop) : TE := fun σ H Q => ∃ F, Sts K J F σ H ρ M ∧ Kt K F P Q
def tT (K : PySem.W.Frag) (J : Gh) (ρ : DEnv) (M : Mem) (P : Bool → Mem → Prop) : TT := fun σ H Q => ∃ F, Sts K J F σ H ρ M ∧ Kb K F P Q
def tA (K : PySem.W.Frag) (J : Gh) (ρ : DEnv) (M : Mem) (P : List D → Mem → Prop) : TA := fun σ H Q => ∃ F, Sts K J F σ H ρ M ∧ Ka K F P Q
def EX (X : Cx) (J : Gh) (e : Expr) (ρ : DEnv) (M : Mem) (P : D → Mem → Prop) : Prop := PE X e (tD X.K J ρ M P)
def TX (X : Cx) (J : Gh) (e : Expr) (ρ : DEnv) (M : Mem) (P : Bool → Mem → Prop) : Prop := PT X e (tT X.K J ρ M P)
def WX (X : Cx) (J : Gh) (e : Expr) (ρ : DEnv) (M : Mem) (P : Bool → Mem → Prop) : Prop := PW X e (tT X.K J ρ M P)
def AX (X : Cx) (J : Gh) (es : List Expr) (ρ : DEnv) (M : Mem) (P : List D → Mem → Prop) : Prop := PA X es (tA X.K J ρ M P)
/-- the reading that any derivation may fill -/
def tE (X : Cx) (e : Expr) : TE := fun σ H Q => ∃ t, PE X e t ∧ t σ H Q
def tTe (X : Cx) (e : Expr) : TT := fun σ H Q => ∃ t, PT X e t ∧ t σ H Q
def tWe (X : Cx) (e : Expr) : TT := fun σ H Q => ∃ t, PW X e t ∧ t σ H Q
def tAe (X : Cx) (es : List Expr) : TA := fun σ H Q => ∃ t, PA X es t ∧ t σ H Q
section
variable {X : Cx} {J : Gh} {e : Expr} {es : List Expr} {ρ : DEnv} {M M' : Mem} {F F' H H' : Hp} {σ : St} {P : D → Mem → Prop} {K : PySem.W.Frag}
theorem Sts.to (s : Sts K J F σ H ρ M) (e : Same F F') (o : Ok K F' M' H') : Sts K J F' σ H' ρ M' := ⟨s.en.mono e, o, J.mono _ _ e s.gh⟩
theorem Kt.to {Q : VK} (k : Kt K F P Q) (e : Same F F') : Kt K F' P Q := fun d v M' F2 H' p e2 => k d v M' F2 H' p (e.trans e2)
theorem Kb.to {P : Bool → Mem → Prop} {Q : Bool → Hp → Prop} (k : Kb K F P Q) (e : Same F F') : Kb K F' P Q := fun b M' F2 H' p e2 => k b M' F2 H' p (e.trans e2)
theorem Ka.to {P : List D → Mem → Prop} {Q : List V → Hp → Prop} (k : Ka K F P Q) (e : Same F F') : Ka K F' P Q := fun b vs M' F2 H' p e2 => k b vs M' F2 H' p (e.trans e2)
theorem EX.go (h : EX X J e ρ M P) (s : Sts X.K J F σ H ρ M) {Q : VK} (k : Kt X.K F P Q) : tE X e σ H Q := ⟨_, h, F, s, k⟩
theorem TX.go {P : Bool → Mem → Prop} (h : TX X J e ρ M P) (s : Sts X.K J F σ H ρ M) {Q : Bool → Hp → Prop} (k : Kb X.K F P Q) : tTe X e σ H Q := ⟨_, h, F, s, k⟩
theorem WX.go {P : Bool → Mem → Prop} (h : WX X J e ρ M P) (s : Sts X.K J F σ H ρ M) {Q : Bool → Hp → Prop} (k : Kb X.K F P Q) : tWe X e σ H Q := ⟨_, h, F, s, k⟩
theorem AX.go {P : List D → Mem → Prop} (h : AX X J es ρ M P) (s : Sts X.K J F σ H ρ M) {Q : List V → Hp → Prop} (k : Ka X.K F P Q) : tAe X es σ H Q := ⟨_, h, F, s, k⟩
theorem ex_of {t : TE} (h : PE X e t) (k : ∀ F σ H Q, Sts X.K J F σ H ρ M → Kt X.K F P Q → t σ H Q) : EX X J e ρ M P := ⟨fun pins s σ H Q I ⟨F, st, q⟩ => h.run pins s σ H Q I (k F σ H Q st q)⟩
theorem tx_of {t : TT} {P : Bool → Mem → Prop} (h : PT X e t) (k : ∀ F σ H Q, Sts X.K J F σ H ρ M → Kb X.K F P Q → t σ H Q) : TX X J e ρ M P := ⟨fun pins s σ H Q I ⟨F, st, q⟩ => h.run pins s σ H Q I (k F σ H Q st q)⟩
theorem ax_of {t : TA} {P : List D → Mem → Prop} (h : PA X es t) (k : ∀ F σ H Q, Sts X.K J F σ H ρ M → Ka X.K F P Q → t σ H Q) : AX X J es ρ M P := ⟨fun pos pins s σ H Q I ⟨F, st, q⟩ => h.run pos pins s σ H Q I (k F σ H Q st q)⟩
theorem EX.imp {P' : D → Mem → Prop} (h : EX X J e ρ M P) (k : ∀ d M', P d M' → P' d M') : EX X J e ρ M P' := ex_of h fun F σ H Q st q => ⟨F, st, fun d v M' F' H' p => q d v M' F' H' (k d M' p)⟩
theorem TX.imp {P P' : Bool → Mem → Prop} (h : TX X J e ρ M P) (k : ∀ d M', P d M' → P' d M') : TX X J e ρ M P' := tx_of h fun F σ H Q st q => ⟨F, st, fun d M' F' H' p => q d M' F' H' (k d M' p)⟩
/-- the value as it is, nothing changed -/
theorem Kt.here {Q : VK} {d : D} {v : V} (k : Kt K F P Q) (p : P d M) (o : Ok K F M H) (r : Rp K F v d) : Q v H := k d v M F H p (Same.refl F) o r
theorem Kb.here {P : Bool → Mem → Prop} {Q : Bool → Hp → Prop} {b : Bool} (k : Kb K F P Q) (p : P b M) (o : Ok K F M H) : Q b H := k b M F H p (Same.refl F) o
end
end DX
namespace DX
open PySem PySem.Spec L2

section
variable {X : Cx} {J : Gh} {e a b c : Expr} {es : List Expr} {ρ : DEnv} {M M' : Mem} {F F' H H' : Hp} {σ : St} {P : D → Mem → Prop} {PB : Bool → Mem → Prop} {PA' : List D → Mem → Prop} {K : PySem.W.Frag} {pos : Pos} {x : Str}

def rAnyO (X : Cx) (f : Value → Value → Sem Value) : R2 := fun v u H Q => ∃ r, OpR X f r ∧ r v u H Q
/-- f at the data x, y: what comes -/
def OD (X : Cx) (f : Value → Value → Sem Value) (x y : D) (M : Mem) (P : D → Mem → Prop) : Prop :=
  ∃ r, OpR X f r ∧ ∀ F H v u Q, Ok X.K F M H → Rp X.K F v x → Rp X.K F u y → Kt X.K F P Q → r v u H Q
theorem OD.go {f : Value → Value → Sem Value} {x y : D} (h : OD X f x y M P) {v u : V} {Q : VK} (o : Ok X.K F M H) (rx : Rp X.K F v x) (ry : Rp X.K F u y) (k : Kt X.K F P Q) : rAnyO X f v u H Q := by
  obtain ⟨r, h1, h2⟩ := h
  exact ⟨r, h1, h2 F H v u Q o rx ry k⟩
variable {i j : Int}
inductive Sq (M : Mem) : D → List D → Prop
  | lst {ds : List D} : Sq M (.lst ds) ds
  | tup {ds : List D} : Sq M (.tup ds) ds
  | adr {p : Addr} {ds : List D} : M p = some (.lst ds) → Sq M (.adr p) ds
inductive Sl (M : Mem) : D → List D → Prop
  | lst {ds : List D} : Sl M (.lst ds) ds
  | adr {p : Addr} {ds : List D} : M p = some (.lst ds) → Sl M (.adr p) ds
theorem Sl.get {d : D} {ds : List D} {v : V} (s : Sl M d ds) (o : Ok K F M H) (r : Rp K F v d) : ∃ p xs, v = .ref p ∧ H p = some (.lst xs) ∧ Rps K F xs ds := by
  cases s with
  | lst =>
    cases r with
    | lst h r => exact ⟨_, _, rfl, o.ex _ _ h, r⟩
  | adr h =>
    cases r
    obtain ⟨_, xs, h1, h2⟩ := o.mt _ _ h
    exact ⟨_, xs, rfl, h1, h2⟩
theorem Sq.get {d : D} {ds : List D} {v : V} (s : Sq M d ds) (o : Ok K F M H) (r : Rp K F v d) : ∃ p xs, v = .ref p ∧ (SqL K H p xs ∨ SqT K H p xs) ∧ Rps K F xs ds := by
  cases s with
  | lst =>
    cases r with
    | lst h r => exact ⟨_, _, rfl, .inl (SqL.of (o.ex _ _ h)), r⟩
  | tup =>
    cases r with
    | tup h r => exact ⟨_, _, rfl, .inr (same_t o.ex h), r⟩
  | adr h =>
    cases r
    obtain ⟨_, xs, h1, h2⟩ := o.mt _ _ h
    exact ⟨_, xs, rfl, .inl (SqL.of h1), h2⟩
theorem Sl.sq {d : D} {ds : List D} (s : Sl M d ds) : Sq M d ds := by
  cases s with
  | lst => exact .lst
  | adr h => exact .adr h
end
end DX
namespace DX
open PySem PySem.Spec L2

structure Bd where
  nx : DEnv → Mem → Prop
  rt : D → Mem → Prop
  bk : DEnv → Mem → Prop := fun _ _ => False
  ct : DEnv → Mem → Prop := fun _ _ => False
structure Kd (K : PySem.W.Frag) (F : Hp) (B : Bd) (E : Ends) : Prop where
  nx : ∀ F' σ' H' ρ' M', B.nx ρ' M' → Same F F' → En K F' σ' ρ' → Ok K F' M' H' → E.nx σ' H'
  rt : Kt K F B.rt E.rt
  bk : ∀ F' σ' H' ρ' M', B.bk ρ' M' → Same F F' → En K F' σ' ρ' → Ok K F' M' H' → E.bk σ' H'
  ct : ∀ F' σ' H' ρ' M', B.ct ρ' M' → Same F F' → En K F' σ' ρ' → Ok K F' M' H' → E.ct σ' H'
def tSd (K : PySem.W.Frag) (J : Gh) (ρ : DEnv) (M : Mem) (B : Bd) : TS := fun E σ H => ∃ F, Sts K J F σ H ρ M ∧ Kd K F B E
def GX (X : Cx) (J : Gh) (st : List Stmt) (ρ : DEnv) (M : Mem) (B : Bd) : Prop := PSs X st (tSd X.K J ρ M B)
def G1 (X : Cx) (J : Gh) (st : Stmt) (ρ : DEnv) (M : Mem) (B : Bd) : Prop := PS X st (tSd X.K J ρ M B)
def tSe (X : Cx) (st : List Stmt) : TS := fun E σ H => ∃ t, PSs X st t ∧ t E σ H
def tS1 (X : Cx) (st : Stmt) : TS := fun E σ H => ∃ t, PS X st t ∧ t E σ H
section
variable {X : Cx} {J : Gh} {e a b c : Expr} {es : List Expr} {st : Stmt} {rest sts : List Stmt} {ρ ρ' : DEnv} {M M' : Mem} {F F' H H' : Hp} {σ : St} {B : Bd} {K : PySem.W.Frag} {pos p : Pos} {x : Str} {E : Ends}
theorem Kd.to (k : Kd K F B E) (e : Same F F') : Kd K F' B E :=
  ⟨fun F2 σ' H' ρ' M' p e2 => k.nx F2 σ' H' ρ' M' p (e.trans e2), k.rt.to e, fun F2 σ' H' ρ' M' p e2 => k.bk F2 σ' H' ρ' M' p (e.trans e2), fun F2 σ' H' ρ' M' p e2 => k.ct F2 σ' H' ρ' M' p (e.trans e2)⟩
theorem GX.go (h : GX X J sts ρ M B) (s : Sts X.K J F σ H ρ M) (k : Kd X.K F B E) : tSe X sts E σ H := ⟨_, h, F, s, k⟩
theorem G1.go (h : G1 X J st ρ M B) (s : Sts X.K J F σ H ρ M) (k : Kd X.K F B E) : tS1 X st E σ H := ⟨_, h, F, s, k⟩
theorem gx_of {t : TS} (h : PSs X sts t) (k : ∀ F σ H E, Sts X.K J F σ H ρ M → Kd X.K F B E → t E σ H) : GX X J sts ρ M B := ⟨fun pins s σ H D I ⟨F, st, q⟩ => h.run pins s σ H D I (k F σ H D st q)⟩
theorem GX.imp {B' : Bd} (h : GX X J sts ρ M B) (h1 : ∀ ρ' M', B.nx ρ' M' → B'.nx ρ' M') (h2 : ∀ d M', B.rt d M' → B'.rt d M') (h3 : ∀ ρ' M', B.bk ρ' M' → B'.bk ρ' M') (h4 : ∀ ρ' M', B.ct ρ' M' → B'.ct ρ' M') : GX X J sts ρ M B' :=
  gx_of h fun F σ H E st k => ⟨F, st, fun F' σ' H' ρ' M' q => k.nx F' σ' H' ρ' M' (h1 _ _ q), fun d v M' F' H' q => k.rt d v M' F' H' (h2 _ _ q), fun F' σ' H' ρ' M' q => k.bk F' σ' H' ρ' M' (h3 _ _ q), fun F' σ' H' ρ' M' q => k.ct F' σ' H' ρ' M' (h4 _ _ q)⟩
structure Wk (K : PySem.W.Frag) (F : Hp) (I : It) (ds : List D) : Prop where
  goes : ∀ i H, i < ds.length → Same F H → I.go i H
  stops : ∀ H, Same F H → I.stop ds.length H
  yields : ∀ i d H x H' F1 M, ds[i]? = some d → Same F F1 → Ok K F1 M H → I.yld i H x H' → ∃ F2, Same F1 F2 ∧ Ok K F2 M H' ∧ Rp K F2 x d
theorem Wk.mono {I : It} {ds : List D} (w : Wk K F I ds) (e : Same F F') : Wk K F' I ds :=
  ⟨fun i H hi s => w.goes i H hi (e.trans s), fun H s => w.stops H (e.trans s), fun i d H x H' F1 M hd s => w.yields i d H x H' F1 M hd (e.trans s)⟩
def Ki (K : PySem.W.Frag) (F : Hp) (P : List D → Mem → Prop) (R : It → Hp → Prop) : Prop := ∀ ds I M' F' H', P ds M' → Same F F' → Ok K F' M' H' → Wk K F' I ds → R I H'
/-- what a loop walks -/
def IX (X : Cx) (J : Gh) (tg iter : Expr) (ρ : DEnv) (M : Mem) (P : List D → Mem → Prop) : Prop := PI X tg iter fun σ H R => ∃ F, Sts X.K J F σ H ρ M ∧ Ki X.K F P R
def tIe (X : Cx) (tg iter : Expr) : TI := fun σ H R => ∃ t, PI X tg iter t ∧ t σ H R
theorem IX.go {tg iter : Expr} {P : List D → Mem → Prop} (h : IX X J tg iter ρ M P) (s : Sts X.K J F σ H ρ M) {R : It → Hp → Prop} (k : Ki X.K F P R) : tIe X tg iter σ H R := ⟨_, h, F, s, k⟩
end
end DX
namespace DX
open PySem PySem.Spec L2

section
variable {X : Cx} {J : Gh} {e a b c : Expr} {es : List Expr} {st : Stmt} {rest sts : List Stmt} {ρ ρ' : DEnv} {M M' : Mem} {F F' H H' : Hp} {σ : St} {B : Bd} {K : PySem.W.Frag} {pos p apos : Pos} {x : Str} {P : D → Mem → Prop}

variable {scope : Scope} {tg iter elt : Expr} {ifs : List Expr}
abbrev Tr := List D → Mem → (D → Mem → Prop) → Prop
mutual
def D.py : D → Option PyData
  | .non => some .none
  | .bl b => some (.bool b)
  | .int i => some (.int i)
  | .str x => some (.str x)
  | .tup ds => (pys ds).map .tuple
  | .lst ds => (pys ds).map .list
  | _ => none
def pys : List D → Option (List PyData)
  | [] => some []
  | d :: ds => (D.py d).bind fun z => (pys ds).map fun zs => z :: zs
end
end
end DX
namespace DX
open PySem PySem.Spec L2

structure FnG (pg : Program) (w : World) (K : PySem.W.Frag) (mg : Str → Option Value) (base : Heap) (k : Nat) (f : Addr) (fd : FuncData) (ps : List Str) (T : Tr) : Prop where
  len : ∀ ds M P, T ds M P → ds.length = ps.length
  go : ∀ (A : Around) (outer : List PySem.Env) (s : Shared) (H F : Hp) (M : Mem) (ds : List D) (P : D → Mem → Prop) (args : Args) (us : List Value) (vs : List V) (Q : VK), A.guards = some [] → Room k A → Env0 pg w K mg base A outer s H →
    BindsTo s fd args (ps.zip us) → Vals vs us → Ok K F M H → Rps K F vs ds → T ds M P → Kt K F P Q → codeAny (model pg w) A (.call (.ref f) args) (CR CX0 outer pg w H s Q E0) s
theorem FnG.mono {pg : Program} {w : World} {K : PySem.W.Frag} {mg : Str → Option Value} {base : Heap} {j k : Nat} {f : Addr} {fd : FuncData} {ps : List Str} {T : Tr} (G : FnG pg w K mg base j f fd ps T) (h : j ≤ k) : FnG pg w K mg base k f fd ps T :=
  ⟨G.len, fun A outer s H F M ds P args us vs Q g hr => G.go A outer s H F M ds P args us vs Q g (hr.mono h)⟩
end DX
namespace DX
open PySem PySem.Spec L2

section
variable {X : Cx} {J : Gh} {e a b c o : Expr} {es : List Expr} {ρ ρ' : DEnv} {M M' : Mem} {F F' H H' : Hp} {σ : St} {B : Bd} {K : PySem.W.Frag} {pos p apos cpos : Pos} {x : Str} {P : D → Mem → Prop}
def KX (X : Cx) (J : Gh) (kws : List Keyword) (ρ : DEnv) (M : Mem) (P : List D → Mem → Prop) : Prop := PK X kws (tA X.K J ρ M P)
def tKe (X : Cx) (kws : List Keyword) : TA := fun σ H Q => ∃ t, PK X kws t ∧ t σ H Q
theorem KX.go {kws : List Keyword} {P : List D → Mem → Prop} (h : KX X J kws ρ M P) (s : Sts X.K J F σ H ρ M) {Q : List V → Hp → Prop} (k : Ka X.K F P Q) : tKe X kws σ H Q := ⟨_, h, F, s, k⟩
end
end DX
namespace DX
open PySem PySem.Spec L2
structure Hs where
  cells : List Int
  at_ : Int
  gr : Int
structure HOk (s : Hs) (n : Int) : Prop where
  a0 : 0 ≤ s.at_
  an : s.at_ ≤ n
  g0 : 0 ≤ s.gr
theorem HOk.mono {s : Hs} {n m : Int} (h : HOk s n) (l : n ≤ m) : HOk s m := ⟨h.a0, by have := h.an; omega, h.g0⟩
end DX
namespace DX
open PySem PySem.Spec L2
def kn : D → String
  | .bl _ => "bool"
  | .int _ => "int"
  | .str _ => "str"
  | .tup _ => "tuple"
  | .lst _ => "list"
  | .dct _ => "dict"
  | _ => "NoneType"
def plain : D → Bool
  | .adr _ => false
  | .ty _ => false
  | .scr _ => false
  | .ins _ _ => false
  | .stup _ => false
  | .exn _ _ => false
  | _ => true
theorem kn_mem (d : D) : kn d ∈ ["NoneType", "bool", "int", "str", "tuple", "list", "dict"] := by
  cases d <;> simp [kn]
section
variable {X : Cx} {J : Gh} {e a b c o : Expr} {es : List Expr} {st : Stmt} {ρ ρ' : DEnv} {M M' : Mem} {F F' H H' : Hp} {σ : St} {B : Bd} {K : PySem.W.Frag} {pos p apos cpos : Pos} {x : Str} {P : D → Mem → Prop}
theorem ty_of {d : D} {v : V} (h : plain d = true) (hs : Same F H) (r : Rp K F v d) : TyX K H v (.type (kn d)) := by
  cases r with
  | non => exact .base .non
  | bl b => exact .base (.bl b)
  | int i => exact .base (.int i)
  | str x => exact .base (.str x)
  | lst h1 r => exact .base (.lst (hs _ _ h1))
  | tup h1 r =>
    rcases h1 with (h1 | ⟨o, h1⟩) | ⟨o, its, n, h1, h2, _⟩
    · exact .base (.tup (hs _ _ h1))
    · exact .fTuple (hs _ _ h1)
    · exact .kTuple h1 h2
  | dct h1 r => exact .base (.dK (hs _ _ h1))
  | adr a => cases h
  | ty n => cases h
  | scr h1 => cases h
  | exn h1 c r => cases h
  | ins h1 r => cases h
  | stup h1 c r => cases h
end
end DX
namespace DX
open PySem PySem.Spec L2
def bits (v : Int) (n : Nat) : List D := (List.range n).map fun i => D.int (v / 2 ^ i % 2)
end DX
namespace DX
open PySem PySem.Spec L2
open SX
section
variable {X : Cx} {J : Gh} {M : Mem} {P : D → Mem → Prop}
def acc (f : Nat → Int) : Nat → Int
  | 0 => 0
  | i + 1 => acc f i + 2 ^ i * f i
end
end DX
namespace DX
open PySem PySem.Spec L2 PyProof.Rows StX

/-- t looks names up in the dict at D, one behind another, and ends in what fin says -/
def KwChainE {α : Type} (D : Addr) (fin : Sem α → Prop) : List (Str × Value) → Sem α → Prop
  | [], t => fin t
  | q :: l, t => ∃ (β γ : Type) (k1 : Option Value → Sem β) (k2 : β → Sem γ) (k3 : γ → Sem α) (a : β), t = ((nsGet D q.1 >>= k1) >>= k2) >>= k3 ∧ k1 (some q.2) = pure a ∧ KwChainE D fin l (k2 a >>= k3)
theorem KwChainE.run {α : Type} {K : PySem.W.Frag} {M : Model} {A : Around} {s : Shared} {D : Addr} {fin : Sem α → Prop} {Q : α → Shared → Prop} {E : Value → Shared → Prop} (X : K.In s.heap) (hf : ∀ t, fin t → wpAny M A t Q E s) :
    ∀ {l : List (Str × Value)} {t : Sem α}, (∀ q ∈ l, PySem.W.nsIn K D q.1 = some (some q.2)) → KwChainE D fin l t → wpAny M A t Q E s
  | [], t, _, e => hf t e
  | q :: l, t, hl, e => by
    obtain ⟨β, γ, k1, k2, k3, a, e1, e2, e3⟩ := e
    have l1 : PySem.W.Looks M s.heap (nsGet D q.1 >>= k1) a := (PySem.W.looks_nsIn X (hl q (List.mem_cons_self ..))).andThen (PySem.W.Looks.of_pure e2)
    rw [e1, bind_assoc]
    exact wpAny_bind (l1.here (KwChainE.run X hf (fun p hp => hl p (List.mem_cons_of_mem _ hp)) e3))
section
variable {pg : Program} {w : World} {K : PySem.W.Frag} {mg : Str → Option Value} {base : Heap} {x qual : Str} {params : Arguments} {body : List Stmt} {scope : Scope} {kws : List (Str × V)} {f : Addr} {fd : FuncData} {N pn : List Str} {pv : Str} {k : Nat} {T : Tr} {gd : Bool}
theorem Rps.split {F : Hp} : ∀ {vs : List V} {d1 d2 : List D}, Rps K F vs (d1 ++ d2) → ∃ v1 v2, vs = v1 ++ v2 ∧ Rps K F v1 d1 ∧ Rps K F v2 d2
  | vs, [], d2, h => ⟨[], vs, rfl, .nil, h⟩
  | _, d :: d1, d2, h => by
    cases h with
    | cons a r =>
      obtain ⟨v1, v2, e, r1, r2⟩ := Rps.split r
      exact ⟨_ :: v1, v2, by rw [e]; rfl, .cons a r1, r2⟩
end

section
variable {X : Cx} {J : Gh} {e a b c o : Expr} {es : List Expr} {ρ ρ' : DEnv} {M M' : Mem} {F F' H H' : Hp} {σ : L2.St} {B : Bd} {K : PySem.W.Frag} {pos p apos cpos : Pos} {x : Str} {P : D → Mem → Prop}
def valD (kvs : List (Key × D)) (k : Key) : Option D := (kvs.find? fun kv => decide (kv.1 = k)).map (·.2)
def putD (kvs : List (Key × D)) (k : Key) (v : D) : List (Key × D) :=
  if (kvs.any fun kv => decide (kv.1 = k)) = true then kvs.map (fun kv => if kv.1 = k then (kv.1, v) else kv) else kvs ++ [(k, v)]
theorem Rks.get {k : Key} : ∀ {vs : List (Key × V)} {ds : List (Key × D)}, Rks K F vs ds → (valV vs k = none ∧ valD ds k = none) ∨ ∃ v d, valV vs k = some v ∧ valD ds k = some d ∧ Rp K F v d
  | _, _, .nil => .inl ⟨rfl, rfl⟩
  | _, _, .cons (x := y) h r => by
    by_cases e : y = k
    · exact .inr ⟨_, _, valV_pos e, by simp [valD, List.find?_cons, e], h⟩
    · rcases Rks.get (k := k) r with ⟨h1, h2⟩ | ⟨v, d, h1, h2, h3⟩
      · exact .inl ⟨by rw [valV_neg e]; exact h1, by simpa [valD, List.find?_cons, e] using h2⟩
      · exact .inr ⟨v, d, by rw [valV_neg e]; exact h1, by simpa [valD, List.find?_cons, e] using h2, h3⟩
theorem Rks.any {k : Key} : ∀ {vs : List (Key × V)} {ds : List (Key × D)}, Rks K F vs ds → (vs.any fun kv => decide (kv.1 = k)) = ds.any fun kv => decide (kv.1 = k)
  | _, _, .nil => rfl
  | _, _, .cons h r => by rw [List.any_cons, List.any_cons, Rks.any r]
theorem Rks.over {k : Key} {v : V} {d : D} (h : Rp K F v d) : ∀ {vs : List (Key × V)} {ds : List (Key × D)}, Rks K F vs ds → Rks K F (vs.map fun kv => if kv.1 = k then (kv.1, v) else kv) (ds.map fun kv => if kv.1 = k then (kv.1, d) else kv)
  | _, _, .nil => .nil
  | _, _, .cons (x := y) h' r => by
    rw [List.map_cons, List.map_cons]
    by_cases e : y = k
    · rw [if_pos e, if_pos e]; exact .cons h (Rks.over h r)
    · rw [if_neg e, if_neg e]; exact .cons h' (Rks.over h r)
theorem Rks.append : ∀ {v w : List (Key × V)} {d e : List (Key × D)}, Rks K F v d → Rks K F w e → Rks K F (v ++ w) (d ++ e)
  | _, _, _, _, .nil, s => s
  | _, _, _, _, .cons h r, s => .cons h (Rks.append r s)
theorem Rks.put {k : Key} {v : V} {d : D} {vs : List (Key × V)} {ds : List (Key × D)} (h : Rp K F v d) (r : Rks K F vs ds) : Rks K F (putK vs k v) (putD ds k d) := by
  unfold putK putD
  rw [r.any]
  split
  · exact r.over h
  · exact r.append (.cons h .nil)
end
end DX
namespace DX
open PySem PySem.Spec L2
/-- sys.modules' place holds a dict: read off the written part -/
def sysB (K : PySem.W.Frag) : Bool := match K.lookup sysModules with
  | some o => decide (o.cls = .type "dict")
  | none => false
end DX
namespace DX
open PySem PySem.Spec L2 StX PyProof.Rows
inductive Is (M : Mem) : D → Addr → List (Str × D) → Prop
  | frz {C : Addr} {gs : List (Str × D)} : Is M (.ins C gs) C gs
  | adr {p C : Addr} {gs : List (Str × D)} : M p = some (.ins C gs) → Is M (.adr p) C gs
section
variable {K : PySem.W.Frag} {F H : Hp} {M : Mem}
theorem Is.get {d : D} {C : Addr} {gs : List (Str × D)} {v : V} (s : Is M d C gs) (o : Ok K F M H) (r : Rp K F v d) : ∃ a dx fs, v = .ref a ∧ H a = some (.ins C dx fs) ∧ Rfs K F fs gs := by
  cases s with
  | frz =>
    cases r with
    | ins h r => exact ⟨_, _, _, rfl, o.ex _ _ h, r⟩
  | adr h =>
    cases r
    obtain ⟨_, dx, fs, h1, h2⟩ := o.mt _ _ h
    exact ⟨_, dx, fs, rfl, h1, h2⟩
theorem Rfs.look {f : Str} : ∀ {fs : List (Str × V)} {gs : List (Str × D)}, Rfs K F fs gs → (fs.lookup f = none ∧ gs.lookup f = none) ∨ ∃ v d, fs.lookup f = some v ∧ gs.lookup f = some d ∧ Rp K F v d
  | _, _, .nil => .inl ⟨rfl, rfl⟩
  | _, _, .cons (x := x) h r => by
    by_cases e : f = x
    · subst e; exact .inr ⟨_, _, by simp [List.lookup], by simp [List.lookup], h⟩
    · have e2 : (f == x) = false := by simpa using e
      rcases Rfs.look (f := f) r with ⟨h1, h2⟩ | ⟨v, d, h1, h2, h3⟩
      · exact .inl ⟨by simpa [List.lookup, e2] using h1, by simpa [List.lookup, e2] using h2⟩
      · exact .inr ⟨v, d, by simpa [List.lookup, e2] using h1, by simpa [List.lookup, e2] using h2, h3⟩
def putG (f : Str) (v : D) : List (Str × D) → List (Str × D)
  | [] => [(f, v)]
  | (g, x) :: r => if g = f then (g, v) :: r else (g, x) :: putG f v r
theorem Rfs.put {f : Str} {v : V} {d : D} (h : Rp K F v d) : ∀ {fs : List (Str × V)} {gs : List (Str × D)}, Rfs K F fs gs → Rfs K F (putF f v fs) (putG f d gs)
  | _, _, .nil => .cons h .nil
  | _, _, .cons (x := x) h' r => by
    unfold putF putG
    by_cases e : x = f
    · rw [if_pos e, if_pos e]; exact .cons h r
    · rw [if_neg e, if_neg e]; exact .cons h' (Rfs.put h r)
theorem Rfs.length : ∀ {fs : List (Str × V)} {gs : List (Str × D)}, Rfs K F fs gs → fs.length = gs.length
  | _, _, .nil => rfl
  | _, _, .cons _ r => congrArg Nat.succ r.length
/-- an object beside -/
theorem Ok.more (k : Ok K F M H) {a : Addr} {o : HO} (h : H a = none) : Ok K F M (upd H a o) := by
  refine ⟨fun b u e => ?_, fun b d e => ?_⟩
  · rw [upd_ne (ne_of_none (k.ex b u e) h)]; exact k.ex b u e
  · obtain ⟨m1, m2⟩ := k.mt b d e
    obtain ⟨o2, h2⟩ := m2.there
    exact ⟨m1, m2.mono (Same.refl F) (upd_ne (ne_of_none h2 h))⟩
end
end DX
namespace DX
open PySem PySem.Spec L2
def prAd (K : PySem.W.Frag) (C f : Str) : Addr × Addr := match PySem.W.findIn K (.ref (He.ga K C)) f with
  | some (some (.ref p)) => (match PySem.W.recIn K p "property" with
    | some (.ref g :: _) => (p, g)
    | _ => (match PySem.W.recIn K p "classmethod" with
      | some (.ref g :: _) => (p, g)
      | _ => (0, 0)))
  | _ => (0, 0)
def fnWA (K : PySem.W.Frag) (a : Addr) : He.FnW := match K.lookup a with
  | some ⟨_, _, .func fd, _⟩ => some (fd.name, fd.qualname, fd.params, fd.body, fd.scope, fd.globals, fd.closure, fd.builtins)
  | _ => none
/-- the same of a def that has captured a cell -/
def fnWS (K : PySem.W.Frag) (a : Addr) : He.FnW := match K.lookup a with
  | some ⟨_, _, .func fd, _⟩ => some (fd.name, fd.qualname, fd.params, fd.body, fd.scope, fd.globals, [], fd.builtins)
  | _ => none
/-- a property's getter: the class, the property's name; its def -/
def prB (K : PySem.W.Frag) (C f q : Str) : Bool :=
  He.eqO (PySem.W.findIn K (.ref (He.ga K C)) f) (some (some (.ref (prAd K C f).1))) && (He.eqO (PySem.W.specialIn K (.ref (prAd K C f).1) "__get__") (some (some (.builtin "property.__get__"))) &&
    (decide (PySem.W.takesIn K (.ref (prAd K C f).1) = some true) && ((match PySem.W.recIn K (prAd K C f).1 "property" with
      | some (v :: _) => decide (v = .ref (prAd K C f).2)
      | _ => false) && (PySem.W.keepIn K (.ref (prAd K C f).2) && (match K.lookup (prAd K C f).2 with
        | some ⟨_, _, .func fd, _⟩ => PySem.W.codeIn K fd.code q && (He.dflB K fd.defaults [] && He.kwdB K fd.kwdefaults [])
        | _ => false)))))
/-- a classmethod: the class, its name; its def -/
def cmB (K : PySem.W.Frag) (C f q : Str) : Bool :=
  PySem.W.readsIn K (He.ga K C) (.type "type") && (He.eqO (PySem.W.specialIn K (.ref (He.ga K C)) "__getattribute__") (some (some (.builtin "type.__getattribute__"))) &&
    ((match PySem.W.findCls K (.ref (He.ga K C)) (.type "type") f with
      | some (.get (.builtin g) (.ref p) .none (.ref D)) => decide (g = "classmethod.__get__") && (decide (p = (prAd K C f).1) && decide (D = He.ga K C))
      | _ => false) && ((match PySem.W.recIn K (prAd K C f).1 "classmethod" with
      | some (v :: _) => decide (v = .ref (prAd K C f).2)
      | _ => false) && (PySem.W.fnIn K (prAd K C f).2 && (PySem.W.keepIn K (.ref (prAd K C f).2) && (match K.lookup (prAd K C f).2 with
        | some ⟨_, _, .func fd, _⟩ => PySem.W.codeIn K fd.code q && (He.dflB K fd.defaults [] && He.kwdB K fd.kwdefaults [])
        | _ => false))))))
/-- a setter: the property's record, its second def -/
def psAd (K : PySem.W.Frag) (C f : Str) : Addr × Addr := match PySem.W.findIn K (.ref (He.ga K C)) f with
  | some (some (.ref p)) => (match PySem.W.recIn K p "property" with
    | some (_ :: .ref g :: _) => (p, g)
    | _ => (0, 0))
  | _ => (0, 0)
def psB (K : PySem.W.Frag) (C f q : Str) : Bool :=
  He.eqO (PySem.W.takerIn K (He.ga K C) f) (some (some (.ref (psAd K C f).1))) && (decide (PySem.W.typeIn K (.ref (psAd K C f).1) = some (.type "property")) &&
    ((match PySem.W.recIn K (psAd K C f).1 "property" with
      | some (_ :: v :: _) => decide (v = .ref (psAd K C f).2)
      | _ => false) && (PySem.W.keepIn K (.ref (psAd K C f).2) && (match K.lookup (psAd K C f).2 with
        | some ⟨_, _, .func fd, _⟩ => PySem.W.codeIn K fd.code q && (He.dflB K fd.defaults [] && He.kwdB K fd.kwdefaults [])
        | _ => false))))
/-- a getter's def (0; at_: the class, the property), a classmethod's (1), a setter's (2) -/
structure PrD where
  kd : Nat
  cls : Str
  nm : Str
  qual : Str
  params : Arguments
  body : List Stmt
  scope : Scope
def PrD.ad (K : PySem.W.Frag) (d : PrD) : Addr × Addr := match d.kd with
  | 2 => psAd K d.cls d.nm
  | 3 => (He.fAd K (d.cls, some d.nm), He.fAd K (d.cls, some d.nm))
  | _ => prAd K d.cls d.nm
/-- what is seen of it: a method that has captured a cell (3) without that cell -/
def PrD.fw (K : PySem.W.Frag) (d : PrD) : He.FnW := match d.kd with
  | 3 => fnWS K (d.ad K).2
  | _ => fnWA K (d.ad K).2
def PrD.okB (K : PySem.W.Frag) (d : PrD) : Bool := match d.kd with
  | 0 => prB K d.cls d.nm d.qual
  | 1 => cmB K d.cls d.nm d.qual
  | 2 => psB K d.cls d.nm d.qual
  | 3 => true
  | _ => false
def PrD.val (d : PrD) : He.FnW := some (d.nm, d.qual, d.params, .stmts d.body, d.scope, mainGlobals, [], builtinsNs)
def obsP (fa : List He.Fa) (fn : List He.DefD) (pr : List PrD) (ex : PySem.W.Frag → Bool) (K : PySem.W.Frag) : He.AlD × Bool × List He.FnW :=
  (He.obsD fa fn K, ex K && pr.all (fun d => d.okB K), pr.map fun d => d.fw K)
def SaysP (fa : List He.Fa) (fn : List He.DefD) (pr : List PrD) (ex : PySem.W.Frag → Bool) (K : PySem.W.Frag) : Prop := obsP fa fn pr ex K = (He.valD fn, true, pr.map PrD.val)
section
variable {fa : List He.Fa} {fn : List He.DefD} {pr : List PrD} {ex : PySem.W.Frag → Bool} {K : PySem.W.Frag}
theorem SaysP.says (c : SaysP fa fn pr ex K) : He.SaysD fa fn K := congrArg Prod.fst c
end
/-- a class that stands first among those that its instances are looked up in -/
def sfB (K : PySem.W.Frag) (C : Str) : Bool := PySem.W.selfFirst K (He.ga K C)
/-- a constant of a class, an int -/
def conB (K : PySem.W.Frag) (C f : Str) (i : Int) : Bool := match PySem.W.findIn K (.ref (He.ga K C)) f with
  | some (some (.int j t)) => decide (j = i) && He.eqO (PySem.W.specialIn K (.int j t) "__get__") (some none)
  | _ => false
end DX
namespace DX
open PySem PySem.Spec L2
section
variable {X : Cx} {J : Gh} {e a b c : Expr} {es : List Expr} {ρ ρ' : DEnv} {M M' : Mem} {F F' H H' : Hp} {σ : St} {B : Bd} {K : PySem.W.Frag} {pos p : Pos} {x : Str} {P : D → Mem → Prop}
variable {scope : Scope} {tg iter elt : Expr} {ifs : List Expr}
theorem En.frz : ∀ {σ : St} {ρ : DEnv} {i : Nat} {q : Addr} {d : D}, En K F σ ρ → DX.look ρ i = some (.adr q) → Rp K F (.ref q) d → En K F σ (DX.put ρ i d)
  | _, _, i, _, _, .nil, e, _ => by simp [DX.look] at e
  | _, _, 0, q, d, .cons h r, e, rq => .cons (fun x z => by
    obtain ⟨y, a, b⟩ := h (.adr q) e
    cases z
    cases b
    exact ⟨_, a, rq⟩) r
  | _, _, i + 1, q, d, .cons h r, e, rq => .cons h (En.frz r e rq)
end
end DX
namespace DX
open PySem PySem.Spec L2 SX

noncomputable section
theorem so {α : Type} {a b : α} (h : some a = some b) : a = b := Option.some.inj h
def frzD : D → Bool
  | .lst _ => true
  | .ins _ _ => true
  | .dct _ => true
  | _ => false
/-- x, as it stands in a name, is seen as d -/
inductive Vw (M : Mem) : D → D → Prop
  | id {d : D} : Vw M d d
  | ad {p : Addr} {d : D} : M p = some d → frzD d = true → Vw M (.adr p) d
section
variable {X : Cx} {J : Gh} {e a b c o : Expr} {es : List Expr} {ρ ρ' : DEnv} {M M' : Mem} {F F' H H' : Hp} {σ : L2.St} {B : Bd} {K : PySem.W.Frag} {pos p apos cpos : Pos} {x y dx dy z : D} {P : D → Mem → Prop} {t : Bool}
theorem Vw.sl {ds : List D} (v : Vw M x (.lst ds)) : Sl M x ds := by
  cases v with
  | id => exact .lst
  | ad h hf => exact .adr h
theorem Vw.sq {ds : List D} (v : Vw M x (.lst ds)) : Sq M x ds := v.sl.sq
theorem Vw.rtup {ds : List D} {v : V} (w : Vw M x (.tup ds)) (o : Ok K F M H) (r : Rp K F v x) : Rp K F v (.tup ds) := by
  cases w with
  | id => exact r
  | ad h hf => exact (o.mt _ _ h).2.elim
theorem Vw.int {i : Int} (w : Vw M x (.int i)) (o : Ok K F M H) : x = .int i := by
  cases w with
  | id => rfl
  | ad h hf => exact (o.mt _ _ h).2.elim
theorem Vw.str {i : Str} (w : Vw M x (.str i)) (o : Ok K F M H) : x = .str i := by
  cases w with
  | id => rfl
  | ad h hf => exact (o.mt _ _ h).2.elim
/-- a list, a tuple, as lists of V -/
theorem Vw.seq {ds : List D} {v : V} (w : Vw M x z) (hz : z = .lst ds ∨ z = .tup ds) (o : Ok K F M H) (r : Rp K F v x) : ∃ p xs, v = .ref p ∧ (SqL K H p xs ∨ SqT K H p xs) ∧ Rps K F xs ds := by
  rcases hz with rfl | rfl
  · exact w.sq.get o r
  · have r := w.rtup o r
    cases r with
    | tup h r => exact ⟨_, _, rfl, .inr (same_t o.ex h), r⟩
/-- plain data but in what changes -/
def imm : D → Bool
  | .lst _ => false
  | .ins _ _ => false
  | .dct _ => false
  | .tbl _ => false
  | _ => true
theorem Vw.rp {v : V} (w : Vw M x z) (hz : imm z = true) (o : Ok K F M H) (r : Rp K F v x) : Rp K F v z := by
  cases w with
  | id => exact r
  | ad h hf =>
    have := (o.mt _ _ h).2
    cases z <;> first | exact this.elim | cases hz

end
end
end DX
namespace DX
open PySem PySem.Spec L2 SX
noncomputable section
section
variable {X : Cx} {J : Gh} {e a b c o : Expr} {es : List Expr} {ρ ρ' : DEnv} {M M' M0 M1 : Mem} {F F' H H' : Hp} {σ : L2.St} {B : Bd} {K : PySem.W.Frag} {pos p apos cpos : Pos} {x y dx dy z : D} {P : D → Mem → Prop} {t : Bool}
def Sub (M0 M1 : Mem) : Prop := ∀ a d, M0 a = some d → M1 a = some d
def SubX (p : Addr) (M0 M1 : Mem) : Prop := ∀ a d, M0 a = some d → a ≠ p ∧ M1 a = some d
theorem Ok.sub (o : Ok K F M1 H) (s : Sub M0 M1) : Ok K F M0 H := ⟨o.ex, fun a d h => o.mt a d (s a d h)⟩
theorem Ok.frz {p : Addr} {u : HO} (o : Ok K F M1 H) (s : SubX p M0 M1) {d : D} (hp : M1 p = some d) (hH : H p = some u) : Same F (upd F p u) ∧ Ok K (upd F p u) M0 H := by
  obtain ⟨h1, h2⟩ := o.freeze hp hH
  refine ⟨h1, h2.sub fun a d' q => ?_⟩
  obtain ⟨q1, q2⟩ := s a d' q
  unfold rm; rw [if_neg q1]; exact q2
theorem Mt.rp {p : Addr} {d : D} {u : HO} (m : Mt K F H p d) (h : H p = some u) (s : Same F F') (hF : F' p = some u) (hf : frzD d = true) : Rp K F' (.ref p) d := by
  cases d <;> first
    | exact m.elim
    | (cases hf; done)
    | (obtain ⟨xs, g1, g2⟩ := m; rw [h] at g1; cases g1; first | exact .lst hF (g2.mono s) | exact .dct hF (g2.mono s))
    | (obtain ⟨dx, fs, g1, g2⟩ := m; rw [h] at g1; cases g1; exact .ins hF (g2.mono s))
theorem AX.imp {P' Q' : List D → Mem → Prop} (h : AX X J es ρ M P') (k : ∀ d M', P' d M' → Q' d M') : AX X J es ρ M Q' := ax_of h fun F σ H Q st q => ⟨F, st, fun d v M' F' H' p => q d v M' F' H' (k d M' p)⟩
end
end
end DX
namespace DX
open PySem PySem.Spec L2
open PyProof.Rows hiding St
section
variable {X : Cx} {J : Gh} {e a b c o : Expr} {es : List Expr} {ρ : DEnv} {M : Mem} {F F' H H' : Hp} {σ : St} {K : PySem.W.Frag} {pos p q apos cpos : Pos} {P : D → Mem → Prop} {f : Str}
/-- an instance, or the place of one that may change -/
inductive Iw (M : Mem) : D → D → Prop
  | id {d : D} : Iw M d d
  | ad {p : Addr} {d : D} : M p = some d → Iw M (.adr p) d
theorem Iw.is {d : D} {C : Addr} {gs : List (Str × D)} (w : Iw M d (.ins C gs)) : Is M d C gs := by
  cases w with
  | id => exact .frz
  | ad h => exact .adr h
end
end DX
namespace DX
open PySem PySem.Spec L2 PyProof.Rows StX
/-- what is let out: a class, the fields, what may change -/
abbrev RX := Addr → List (Str × D) → Mem → Prop
def noX : RX := fun _ _ _ => False
def ExR (K : PySem.W.Frag) (F : Hp) (C : Addr) (gs : List (Str × D)) (cls : Value) (d : Option Addr) : Prop :=
  cls = .ref C ∧ ((gs = [] ∧ d = none) ∨ ∃ dd fs, d = some dd ∧ F dd = some (.xd fs) ∧ Rfs K F fs gs)
def Kx (K : PySem.W.Frag) (F : Hp) (R : RX) (E : XK) : Prop := ∀ C gs M' F' H' cls d, R C gs M' → Same F F' → Ok K F' M' H' → ExR K F' C gs cls d → E cls d H'
theorem Kx.to {K : PySem.W.Frag} {F F' : Hp} {R : RX} {E : XK} (k : Kx K F R E) (e : Same F F') : Kx K F' R E := fun C gs M' F2 H' cls d r e2 => k C gs M' F2 H' cls d r (e.trans e2)
theorem Kx.no {K : PySem.W.Frag} {F : Hp} {E : XK} : Kx K F noX E := fun _ _ _ _ _ _ _ r => r.elim
abbrev TrX := List D → List D → Mem → (D → Mem → Prop) → RX → Prop
structure FnX (pg : Program) (w : World) (K : PySem.W.Frag) (mg : Str → Option Value) (base : Heap) (gd : Bool) (k : Nat) (f : Addr) (ks : List Str) (T : TrX) : Prop where
  go : ∀ (A : Around) (outer : List PySem.Env) (s : Shared) (H F : Hp) (M : Mem) (ds zs : List D) (P : D → Mem → Prop) (R : RX) (us ws : List Value) (vs xs : List V) (Q : VK) (E : XK), (gd = true → A.guards = some []) → Room k A → Env0 pg w K mg base A outer s H →
    Vals vs us → Vals xs ws → ws.length = ks.length → Ok K F M H → Rps K F vs ds → Rps K F xs zs → T ds zs M P R → Kt K F P Q → Kx K F R E → codeAny (model pg w) A (.call (.ref f) ⟨us, ks.zip ws⟩) (CR (L2.CX pg w) outer pg w H s Q E) s
theorem FnX.mono {pg : Program} {w : World} {K : PySem.W.Frag} {mg : Str → Option Value} {base : Heap} {gd : Bool} {j k : Nat} {f : Addr} {ks : List Str} {T : TrX} (G : FnX pg w K mg base gd j f ks T) (h : j ≤ k) : FnX pg w K mg base gd k f ks T :=
  ⟨fun A outer s H F M ds zs P R us ws vs xs Q E hg hr => G.go A outer s H F M ds zs P R us ws vs xs Q E hg (hr.mono h)⟩
/-- the context lets out what R tells -/
structure Lets (X : Cx) (J : Gh) (R : Addr → List (Str × D) → DEnv → Mem → Prop) : Prop where
  ex : ∃ W : L2.WX, Takes X W ∧ ∀ cls d σ H F ρ M C gs, Sts X.K J F σ H ρ M → ExR X.K F C gs cls d → R C gs ρ M → W cls d σ H
theorem takes_no {X : Cx} : Takes X (fun _ _ _ _ => False) := fun _ _ x => by
  obtain ⟨_, _, _, _, _, _, _, _, _, _, _, _, _, _, _, _, z⟩ := x
  exact z.elim
theorem Lets.no {X : Cx} {J : Gh} : Lets X J (fun _ _ _ _ => False) := ⟨_, takes_no, fun _ _ _ _ _ _ _ _ _ _ _ r => r⟩
end DX
namespace DX
open PySem PySem.Spec L2 PyProof.Rows StX
section
variable {X : Cx} {J : Gh} {e a b o : Expr} {es : List Expr} {kws : List Keyword} {ks : List Str} {ρ : DEnv} {M M1 M2 : Mem} {F F' H H' : Hp} {σ : L2.St} {K : PySem.W.Frag} {pos p apos : Pos} {x m f : Str} {P : D → Mem → Prop} {PA : List D → List D → Mem → Prop} {RR : Addr → List (Str × D) → DEnv → Mem → Prop}
/-- the arguments are ds by place, zs by the keywords ks -/
def EvA (X : Cx) (J : Gh) (pos : Pos) (args : List Expr) (kws : List Keyword) (ks : List Str) (ρ : DEnv) (M : Mem) (PA : List D → List D → Mem → Prop) : Prop :=
  ∀ (fv : Value) (pins : List (Addr × Obj)) (σ : L2.St) (H F : Hp) (s : Shared) (Qa : Args → Shared → Prop), L2.Inv X pins σ H s → Sts X.K J F σ H ρ M →
    (∀ us ws vs xs ds zs F2 M2 H2 s2, L2.Inv X pins σ H2 s2 → Same F F2 → Ok X.K F2 M2 H2 → Vals vs us → Vals xs ws → Rps X.K F2 vs ds → Rps X.K F2 xs zs → zs.length = ks.length → PA ds zs M2 → Qa ⟨us, ks.zip ws⟩ s2) →
    wpAny (model X.prog X.w) X.A (evalArgs fv true (backTo pos (starEach args X.env)) (backToKw pos (keywordEach kws X.env))) Qa X.xe s
end
end DX
namespace DX
open PySem PySem.Spec L2 PyProof.Rows StX
/-- a value, that of an instance that changes no more, or one that may change -/
theorem Iw.rp {K : PySem.W.Frag} {F H : Hp} {M : Mem} {d : D} {C : Addr} {gs : List (Str × D)} {v : V} (i : Iw M d (.ins C gs)) (o : Ok K F M H) (r : Rp K F v d) : ∃ a dx fs, v = .ref a ∧ H a = some (.ins C dx fs) ∧ Rfs K F fs gs := i.is.get o r
section
variable {X : Cx} {J : Gh} {e a b o : Expr} {es : List Expr} {kws : List Keyword} {ks : List Str} {ρ : DEnv} {M M1 M2 : Mem} {F F' H H' : Hp} {σ : L2.St} {K : PySem.W.Frag} {pos p apos : Pos} {x m f : Str} {P : D → Mem → Prop} {RR : Addr → List (Str × D) → DEnv → Mem → Prop}
/-- the other side of a comparison: a value of a built-in type, or an instance of a class that does not go first -/
def Other (K : PySem.W.Frag) (C : Addr) (M : Mem) (y : D) : Prop := (plain y = true ∧ ∀ n ∈ ["NoneType", "bool", "int", "str", "tuple", "list", "dict"], PySem.W.subIn K (.type n) (.ref C) = some false) ∨ ∃ C' hs, Is M y C' hs ∧ PySem.W.notFirst K C (.ref C') = true
theorem Other.ty {C : Addr} {y : D} {v : V} {u : Value} {pins : List (Addr × Obj)} {s : Shared} (h : Other X.K C M y) (I : L2.Inv X pins σ H s) (o : Ok X.K F M H) (r : Rp X.K F v y) (rv : RelV v u) : ∃ tb, PySem.W.Looks (model X.prog X.w) s.heap (typeOf u) tb ∧ PySem.W.notFirst X.K C tb = true := by
  rcases h with ⟨h, hn⟩ | ⟨C', hs, hi, hn⟩
  · have ty := ty_of h o.ex r
    refine ⟨.type (kn y), ?_, by unfold PySem.W.notFirst; rw [hn _ (kn_mem y)]; simp⟩
    obtain ⟨Pk, kx, hp, _⟩ := kit_of I rv ty
    exact kx.ty _ _ I.kIn hp
  · obtain ⟨b, dy, fs', rfl, h2, _⟩ := hi.get o r
    obtain rfl : u = Value.ref b := rv
    obtain ⟨oy, od', J1, _⟩ := insC_at (X := X) I (.inr ⟨dy, fs', h2⟩)
    exact ⟨.ref C', J1.type, hn⟩
end
end DX
namespace DX
open PySem PySem.Spec L2 PyProof.Rows StX
abbrev mroV : List Value := [.type "ValueError", .type "Exception", .type "BaseException", .type "object"]
abbrev mroL : List Value := [.type "LookupError", .type "Exception", .type "BaseException", .type "object"]
end DX
namespace DX
open PySem PySem.Spec L2 PyProof.Rows StX
def Zk (K : PySem.W.Frag) : Str → Addr := fun x => He.ga K x
def oexB (newId : String) (bmB : List Value) (K : PySem.W.Frag) (C : Addr) : Bool :=
  PySem.W.excInitIn K C bmB newId && (He.eqO (PySem.W.findIn K (.ref C) "__setattr__") (some (some (.builtin "object.__setattr__"))) && (decide (PySem.W.subIn K (.ref C) (.type "BaseException") = some true) && (decide (PySem.W.typeIn K (.ref C) = some (.type "type")) &&
    (PySem.W.keepIn K (.ref C) && (PySem.W.excOver K C bmB && PySem.W.hasDictIn K C)))))
def errB (newId : String) (bmB : List Value) (K : PySem.W.Frag) (C : Str) : Bool :=
  oexB newId bmB K (He.ga K C) && (He.eqO (PySem.W.findIn K (.ref (He.ga K C)) "__init__") (some (some (.ref (He.fAd K (C, some "__init__"))))) && decide (PySem.W.typeIn K (.ref (He.fAd K (C, some "__init__"))) = some (.type "function")))
/-- a property of each of some classes, checked -/
def allB (K : PySem.W.Frag) (L : List Str) (p : Addr → Bool) : Bool := L.all fun x => p (He.ga K x)
def excB (K : PySem.W.Frag) (C : Addr) : Bool :=
  He.eqO (PySem.W.findIn K (.ref C) "__getattribute__") (some (some (.builtin "BaseException.__getattribute__"))) && (He.eqO (PySem.W.findIn K (.ref C) "__getattr__") (some none) && (decide (PySem.W.subIn K (.ref C) (.type "BaseException") = some true) && (PySem.W.hasDictIn K C &&
    (He.eqO (PySem.W.findIn K (.ref C) "__class__") (some (some (.builtin "object.__class__"))) && (He.eqO (PySem.W.specialIn K (.builtin "object.__class__") "__get__") (some (some (.builtin "getset_descriptor.__get__"))) &&
      (decide (PySem.W.takesIn K (.builtin "object.__class__") = some true) && decide (PySem.W.mroIn K C (.type "object") = some true)))))))
end DX
namespace DX
open PySem PySem.Spec L2 PyProof.Rows StX LamX
/-- a def's code object and its table of code objects -/
def ctA (K : PySem.W.Frag) (x : Str × Option Str) : Addr × Addr := match K.lookup (He.fAd K x) with
  | some ⟨_, _, .func fd, _⟩ => (match fd.code with
    | .ref c => (match K.lookup c with
      | some ⟨_, _, .fields vs, _⟩ => (match (vs[11]? : Option Value) with
        | some (.ref P) => (c, P)
        | _ => (0, 0))
      | _ => (0, 0))
    | _ => (0, 0))
  | _ => (0, 0)
/-- the places of the tables and the names of what stands in them -/
abbrev TbL := List ((Str × Option Str) × Str)
end DX
namespace DX
open PySem PySem.Spec L2 PyProof.Rows StX LamX
abbrev TbN := List (Str × Option Str)
/-- what is known of the tables -/
structure TbK (K : PySem.W.Frag) (tn : TbN) (h : Heap) : Prop where
  ex : ∀ x ∈ tn, PySem.W.CodeHd h (ctA K x).1 (ctA K x).2 ∧ h.get? (ctA K x).2 = some { cls := .none, data := .fields #[] } ∧ K.lookup (ctA K x).2 = none
def tbOne (K : PySem.W.Frag) (tl : TbL) : Bool := tl.all fun x => match tl.find? fun y => (ctA K y.1).2 == (ctA K x.1).2 with
  | some y => decide (y.2 = x.2)
  | none => false
def cutK (K : PySem.W.Frag) (ps : List Addr) : PySem.W.Frag := K.filter fun p => !ps.contains p.1
theorem cutK_sub {ps : List Addr} {a : Addr} {o : Obj} : ∀ {K : PySem.W.Frag}, (cutK K ps).lookup a = some o → K.lookup a = some o
  | [], h => h
  | (b, ob) :: r, h => by
    unfold cutK at h
    rw [List.filter_cons] at h
    by_cases e : (!ps.contains b) = true
    · rw [if_pos (by exact e)] at h
      rw [List.lookup_cons] at h ⊢
      cases q : a == b with
      | true => rw [q] at h; exact h
      | false => rw [q] at h; exact cutK_sub (K := r) h
    · rw [if_neg (by exact e)] at h
      have h2 := cutK_sub (K := r) h
      rw [List.lookup_cons]
      cases q : a == b with
      | true =>
        have : a = b := beq_iff_eq.mp q
        subst this
        exfalso
        have hc : ps.contains a = true := by simpa using e
        have none_ : ∀ K : PySem.W.Frag, (cutK K ps).lookup a = none := fun K => by
          induction K with
          | nil => rfl
          | cons p r ih =>
            unfold cutK at ih ⊢
            rw [List.filter_cons]
            split
            · rename_i hq
              rw [List.lookup_cons]
              cases z : a == p.1 with
              | true =>
                have : a = p.1 := beq_iff_eq.mp z
                rw [← this, hc] at hq
                cases hq
              | false => exact ih
            · exact ih
        have := none_ r
        unfold cutK at this
        rw [this] at h; cases h
      | false => exact h2
def emptyTab (o : Option Obj) : Bool := match o with
  | some ⟨.none, none, .fields vs, sl⟩ => vs.size == 0 && sl.size == 0
  | _ => false
theorem emptyTab_eq {o : Option Obj} (h : emptyTab o = true) : o = some { cls := .none, data := .fields #[] } := by
  unfold emptyTab at h
  split at h
  · rename_i vs sl
    obtain ⟨h1, h2⟩ := He.ba h
    have e1 : vs = #[] := Array.eq_empty_of_size_eq_zero (beq_iff_eq.mp h1)
    have e2 : sl = #[] := Array.eq_empty_of_size_eq_zero (beq_iff_eq.mp h2)
    rw [e1, e2]
  · cases h
abbrev LookT := (He.AlD × Bool × List He.FnW) × Bool
def tabsB (K0 K : PySem.W.Frag) (tl : TbL) : Bool := tl.all (fun x => PySem.W.codeHdIn K (ctA K x.1).1 (ctA K x.1).2 && (emptyTab (K0.lookup (ctA K x.1).2) && (K.lookup (ctA K x.1).2).isNone)) && tbOne K tl
def addM : List Addr → List Addr → Nat → List Addr × Nat
  | [], acc, m => (acc, m)
  | a :: as, acc, m => match Nat.beq (Nat.land (Nat.shiftRight m a) 1) 1 with
    | true => addM as acc m
    | false => addM as (a :: acc) (Nat.lor m (Nat.shiftLeft 1 a))
def stepM (g : Addr → Option Obj) : List Addr → List Addr → Nat → List Addr × Nat
  | [], acc, m => (acc, m)
  | a :: as, acc, m => match g a with
    | some o => let r := addM (He.refsD o) acc m; stepM g as r.1 r.2
    | none => stepM g as acc m
def asM (g : Addr → Option Obj) : Nat → List Addr → Nat → List Addr
  | 0, fr, _ => fr
  | n + 1, fr, m => let r := stepM g fr [] m; fr ++ asM g n r.1 r.2
def asN (g : Addr → Option Obj) (n : Nat) : List Addr := asM g n [mainGlobals] (Nat.shiftLeft 1 mainGlobals)
def lookT (fa : List He.Fa) (fn : List He.DefD) (pr : List PrD) (ex : PySem.W.Frag → Bool) (tl : TbL) (n : Nat) (g : Addr → Option Obj) : LookT :=
  let K0 := He.frG g (cStatics :: sysModules :: asN g n)
  let K := cutK K0 (tl.map fun x => (ctA K0 x.1).2)
  (obsP fa fn pr ex K, tabsB K0 K tl)
def SaysT (fa : List He.Fa) (fn : List He.DefD) (pr : List PrD) (ex : PySem.W.Frag → Bool) (tl : TbL) (h : Heap) : Prop := ∃ K : PySem.W.Frag, K.In h ∧ SaysP fa fn pr ex K ∧ TbK K (tl.map (·.1)) h ∧ tbOne K tl = true
theorem saysT_of {fa : List He.Fa} {fn : List He.DefD} {pr : List PrD} {ex : PySem.W.Frag → Bool} {tl : TbL} {n : Nat} {h : Heap} (e : lookT fa fn pr ex tl n h.get? = ((He.valD fn, true, pr.map PrD.val), true)) : SaysT fa fn pr ex tl h := by
  have e1 := congrArg Prod.fst e
  have e2 : tabsB _ _ tl = true := congrArg Prod.snd e
  have in0 : PySem.W.Frag.In (He.frG h.get? (cStatics :: sysModules :: asN h.get? n)) h := He.frG_in
  refine ⟨_, fun b o z => in0 b o (cutK_sub z), e1, ⟨fun x hx => ?_⟩, (He.ba e2).2⟩
  obtain ⟨y, hy, rfl⟩ := List.mem_map.mp hx
  obtain ⟨q1, q⟩ := He.ba (List.all_eq_true.mp (He.ba e2).1 y hy)
  obtain ⟨q2, q3⟩ := He.ba q
  exact ⟨PySem.W.codeHd_of_K (fun b o z => in0 b o (cutK_sub z)) q1, in0 _ _ (emptyTab_eq q2), Option.isNone_iff_eq_none.mp q3⟩
def hookT (n : Nat) (fa : List He.Fa) (fn : List He.DefD) (pr : List PrD) (ex : PySem.W.Frag → Bool) (tl : TbL) : PySem.W.Hook where
  α := LookT
  obs := fun s => lookT fa fn pr ex tl n s.heap.get?
  val := fun _ => ((He.valD fn, true, pr.map PrD.val), true)
  says := fun _ h => SaysT fa fn pr ex tl h
  of := fun _ _ e => saysT_of e
  keeps := fun _ _ _ ⟨K, hK, c, t, u⟩ k => ⟨K, PySem.W.Frag.In.keeps hK k, c, ⟨fun x hx => let ⟨q1, q2, q3⟩ := t.ex x hx; ⟨q1.keeps k, k _ _ q2, q3⟩⟩, u⟩
end DX
namespace ZipL
open PySem PySem.Spec L2 PyProof.Rows
theorem zip_no_len : typeLookup (.type "zip") "__len__" = pure none := by rw [typeLookup_type, builtinLookup_eq_fast]; kernel_rfl
theorem zip_no_hint : typeLookup (.type "zip") "__length_hint__" = pure none := by rw [typeLookup_type, builtinLookup_eq_fast]; kernel_rfl
/-- the zip has given i pairs -/
def ZSt (z TI TO i1 i2 l1 l2 S : Addr) (xs ys : Array Value) (i : Nat) (h : Heap) : Prop :=
  IsPair h TI (.ref i1) (.ref i2) ∧ h.IsListIter i1 l1 i ∧ h.IsListIter i2 l2 i ∧ h.IsList l1 xs ∧ h.IsList l2 ys ∧ ((IsZip h z TI TO .none ∧ ∃ a b, IsPair h TO a b) ∨ ∃ T f oT, IsZipHeld h z TI TO T f ∧ h.get? T = some oT ∧ T ≠ z ∧ T ≠ i1 ∧ T ≠ i2 ∧ T ≠ S)
/-- the pairs given so far -/
def Acc (S : Addr) (xs ys : Array Value) (ts : List Addr) (h : Heap) : Prop :=
  (∀ T ∈ ts, S < T ∧ ∃ o, h.get? T = some o) ∧ ts.Pairwise (· < ·) ∧ ∀ (j : Nat) T, ts[j]? = some T → ∃ x y, xs[j]? = some x ∧ ys[j]? = some y ∧ IsPair h T x y
theorem Acc.keep {S : Addr} {xs ys : Array Value} {ts : List Addr} {h h' : Heap} (a : Acc S xs ys ts h) (k : ∀ b o, S < b → h.get? b = some o → h'.get? b = some o) : Acc S xs ys ts h' :=
  ⟨fun T hT => ⟨(a.1 T hT).1, let ⟨o, ho⟩ := (a.1 T hT).2; ⟨o, k _ _ (a.1 T hT).1 ho⟩⟩, a.2.1, fun j T hj => by
    obtain ⟨x, y, e1, e2, e3⟩ := a.2.2 j T hj
    exact ⟨x, y, e1, e2, k _ _ (a.1 T (List.mem_of_getElem? hj)).1 e3⟩⟩
theorem Acc.more {S T0 : Addr} {xs ys : Array Value} {ts : List Addr} {h : Heap} {x y : Value} (a : Acc S xs ys ts h) (hT : S < T0) (hl : ∀ T ∈ ts, T < T0) (ex : xs[ts.length]? = some x) (ey : ys[ts.length]? = some y) (e : IsPair h T0 x y) : Acc S xs ys (ts ++ [T0]) h := by
  refine ⟨fun T hm => ?_, ?_, fun j T hj => ?_⟩
  · rcases List.mem_append.mp hm with hm | hm
    · exact a.1 T hm
    · rw [List.mem_singleton] at hm; subst hm; exact ⟨hT, _, e⟩
  · rw [List.pairwise_append]
    exact ⟨a.2.1, List.pairwise_singleton _ _, fun u hu v hv => by rw [List.mem_singleton] at hv; subst hv; exact hl u hu⟩
  · by_cases hb : j < ts.length
    · rw [List.getElem?_append_left hb] at hj
      exact a.2.2 j T hj
    · rw [List.getElem?_append_right (by omega)] at hj
      have e1 : j - ts.length = 0 := by
        have := (List.getElem?_eq_some_iff.mp hj).1
        simp only [List.length_singleton] at this
        omega
      rw [e1] at hj
      have e2 : T0 = T := by simpa using hj
      subst e2
      have e3 : j = ts.length := by omega
      subst e3
      exact ⟨x, y, ex, ey, e⟩
section
variable {prog : Program} {w : World} {A : Around} {R : Result → Shared → Prop} {z TI TO i1 i2 l1 l2 S : Addr} {xs ys : Array Value}
/-- S stands behind all that the zip writes -/
structure Off (z TI TO i1 i2 l1 l2 S : Addr) : Prop where
  z : z < S
  TI : TI < S
  TO : TO < S
  i1 : i1 < S
  i2 : i2 < S
  l1 : l1 < S
  l2 : l2 < S
theorem loop (hh : A.in1.handled = none) (D : ZipApart z TI TO i1 i2 l1 l2) (O : Off z TI TO i1 i2 l1 l2 S) (hn : min xs.size ys.size ≤ sizeLine) (res : Value) :
    ∀ (k : Nat) (s : Shared) (ts : List Addr) (c : Nat), min xs.size ys.size - ts.length = k → ts.length ≤ min xs.size ys.size → ZSt z TI TO i1 i2 l1 l2 S xs ys ts.length s.heap →
    s.heap.get? S = some { cls := .type "list", dict := none, data := .seq (ts.map Value.ref).toArray c, slots := #[] } → Acc S xs ys ts s.heap →
    (∀ h' ts' c', (∀ b o, b ≠ S → b ≠ z → b ≠ TO → b ≠ i1 → b ≠ i2 → s.heap.get? b = some o → h'.get? b = some o) → h'.get? S = some { cls := .type "list", dict := none, data := .seq (ts'.map Value.ref).toArray c', slots := #[] } →
      ts'.length = min xs.size ys.size → Acc S xs ys ts' h' → R (.ok (.ret res)) { s with heap := h' }) →
    codeAny (model prog w) A (.builtin "list.extend.loop" ⟨[.ref S, .ref z, res], []⟩) R s := by
  intro k
  induction k with
  | zero =>
    intro s ts c hk hi hst hS hacc hR
    have hin : ts.length = min xs.size ys.size := by omega
    refine codeAny_builtin F.entry_extend_loop ?_
    rw [Around.under_plainId F.plain_extend_loop _]
    show wpAny _ A.in1 (pyNext (.ref z) >>= _) _ _ s
    obtain ⟨hTI, h1, h2, hl1, hl2, hz⟩ := hst
    have hend : xs[ts.length]? = none ∨ ys[ts.length]? = none := by
      rcases Nat.le_total xs.size ys.size with h | h
      · exact .inl (Array.getElem?_eq_none (by omega))
      · exact .inr (Array.getElem?_eq_none (by omega))
    have fin : ∀ h', (∀ b o, b ≠ z → b ≠ TO → b ≠ i1 → b ≠ i2 → s.heap.get? b = some o → h'.get? b = some o) → R (.ok (.ret res)) { s with heap := h' } := fun h' kp =>
      hR h' ts c (fun b o _ a1 a2 a3 a4 e => kp b o a1 a2 a3 a4 e) (kp _ _ (Nat.ne_of_gt O.z) (Nat.ne_of_gt O.TO) (Nat.ne_of_gt O.i1) (Nat.ne_of_gt O.i2) hS) hin (hacc.keep fun b o hb e => kp b o (Nat.ne_of_gt (Nat.lt_trans O.z hb)) (Nat.ne_of_gt (Nat.lt_trans O.TO hb)) (Nat.ne_of_gt (Nat.lt_trans O.i1 hb)) (Nat.ne_of_gt (Nat.lt_trans O.i2 hb)) e)
    rcases hz with ⟨hz, a, b, hTO⟩ | ⟨T, f, oT, hz, hT, r1, r2, r3, r4⟩
    · exact wpAny_bind (wpAny_pyNext_zip_end hh D hz hTI hTO h1 h2 hl1 hl2 hend fun h' hk => wpAny_pure (fin h' fun b o a1 a2 a3 a4 e => hk b o a1 a2 a3 a4 e))
    · exact wpAny_bind (wpAny_pyNext_zip_end_held hh D hz hT hTI h1 h2 hl1 hl2 hend fun h' hk => wpAny_pure (fin h' fun b o a1 a2 a3 a4 e => hk b o a1 a3 a4 e))
  | succ k ih =>
    intro s ts c hk hi hst hS hacc hR
    have hlt : ts.length < min xs.size ys.size := by omega
    refine codeAny_builtin F.entry_extend_loop ?_
    rw [Around.under_plainId F.plain_extend_loop _]
    show wpAny _ A.in1 (pyNext (.ref z) >>= _) _ _ s
    obtain ⟨hTI, h1, h2, hl1, hl2, hz⟩ := hst
    have hix : ts.length < xs.size := by omega
    have hiy : ts.length < ys.size := by omega
    have ex := Array.getElem?_eq_getElem hix
    have ey := Array.getElem?_eq_getElem hiy
    have Sl : S < s.heap.objs.size := Heap.lt_size hS
    have lt : ∀ {c o}, s.heap.get? c = some o → c < s.heap.objs.size := fun e => Heap.lt_size e
    -- one pair more
    have step : ∀ h', (∀ b o, b ≠ z → b ≠ TO → b ≠ i1 → b ≠ i2 → s.heap.get? b = some o → h'.get? b = some o) → h'.get? TI = some { cls := .type "tuple", data := .seq #[.ref i1, .ref i2] } → h'.IsListIter i1 l1 (ts.length + 1) → h'.IsListIter i2 l2 (ts.length + 1) →
        IsPair h' s.heap.objs.size xs[ts.length] ys[ts.length] → (∃ T f oT, IsZipHeld h' z TI TO T f ∧ h'.get? T = some oT ∧ T ≠ z ∧ T ≠ i1 ∧ T ≠ i2 ∧ T ≠ S) →
        wpAny (model prog w) A.in1 (updateSeq S (·.push (.ref s.heap.objs.size)) >>= fun _ => again (.builtin "list.extend.loop" ⟨[.ref S, .ref z, res], []⟩))
          (fun fin s' => match fin with | .done f => R (.ok f) s' | .again c' => c'.quiet = true ∧ codeAny (model prog w) A c' R s') (fun e s' => R (.error e) s') { s with heap := h' } := by
      intro h' kp qTI q1 q2 qT qz
      have hS' := kp _ _ (Nat.ne_of_gt O.z) (Nat.ne_of_gt O.TO) (Nat.ne_of_gt O.i1) (Nat.ne_of_gt O.i2) hS
      refine wpAny_bind ?_
      have hS2 := Heap.get?_update_self (Obj.mapSeq (·.push (Value.ref s.heap.objs.size))) hS' rfl
      obtain ⟨c2, hS3⟩ : ∃ c2, (h'.update S (Obj.mapSeq (·.push (Value.ref s.heap.objs.size)))).get? S = some { cls := .type "list", dict := none, data := .seq ((ts ++ [s.heap.objs.size]).map Value.ref).toArray c2, slots := #[] } :=
        ⟨if ((ts.map Value.ref).toArray.push (Value.ref s.heap.objs.size)).size == (ts.map Value.ref).toArray.size then c else c + 1, hS2.trans (by simp [Obj.mapSeq])⟩
      have oth : ∀ b o, b ≠ S → h'.get? b = some o → (h'.update S (Obj.mapSeq (·.push (Value.ref s.heap.objs.size)))).get? b = some o := fun b o hb e => (Heap.get?_update_other _ _ (Ne.symm hb)).trans e
      have a1 : Acc S xs ys ts h' := hacc.keep fun b o hb e => kp b o (Nat.ne_of_gt (Nat.lt_trans O.z hb)) (Nat.ne_of_gt (Nat.lt_trans O.TO hb)) (Nat.ne_of_gt (Nat.lt_trans O.i1 hb)) (Nat.ne_of_gt (Nat.lt_trans O.i2 hb)) e
      have a2 : Acc S xs ys (ts ++ [s.heap.objs.size]) h' := a1.more Sl (fun T hT => let ⟨o, ho⟩ := (hacc.1 T hT).2; lt ho) ex ey qT
      have a3 : Acc S xs ys (ts ++ [s.heap.objs.size]) (h'.update S (Obj.mapSeq (·.push (Value.ref s.heap.objs.size)))) := a2.keep fun b o hb e => oth b o (Nat.ne_of_gt hb) e
      refine wpAny_updateSeq hS' rfl (wpAny_pure ⟨plainId_quiet F.plain_extend_loop _, ih { s with heap := h'.update S (Obj.mapSeq (·.push (Value.ref s.heap.objs.size))) } (ts ++ [s.heap.objs.size]) c2 (by rw [List.length_append, List.length_singleton]; omega) (by rw [List.length_append, List.length_singleton]; omega) ?_ hS3 a3 fun h'' ts' c' kp2 e2 hl2 hA => ?_⟩)
        (by rw [List.size_toArray, List.length_map]; omega) (by rw [Array.size_push, List.size_toArray, List.length_map]; omega)
      · rw [List.length_append, List.length_singleton]
        refine ⟨oth _ _ (Nat.ne_of_lt O.TI) qTI, q1.at fun o e => oth _ o (Nat.ne_of_lt O.i1) e, q2.at fun o e => oth _ o (Nat.ne_of_lt O.i2) e, (hl1.at fun o e => kp _ o D.l1z D.l1TO D.l1i1 D.l1i2 e).at fun o e => oth _ o (Nat.ne_of_lt O.l1) e, (hl2.at fun o e => kp _ o D.l2z D.l2TO D.l2i1 D.l2i2 e).at fun o e => oth _ o (Nat.ne_of_lt O.l2) e, .inr ?_⟩
        obtain ⟨T, f, oT, w1, w2, w3, w4, w5, w6⟩ := qz
        exact ⟨T, f, oT, oth _ _ (Nat.ne_of_lt O.z) w1, oth _ _ w6 w2, w3, w4, w5, w6⟩
      · exact hR h'' ts' c' (fun b o b1 b2 b3 b4 b5 e => kp2 b o b1 b2 b3 b4 b5 (oth b o b1 (kp b o b2 b3 b4 b5 e))) e2 hl2 hA
    rcases hz with ⟨hz, a, b, hTO⟩ | ⟨T, f, oT, hz, hT, r1, r2, r3, r4⟩
    · refine wpAny_bind (wpAny_pyNext_zip_item D hz hTI hTO h1 h2 hl1 hl2 ex ey fun h' a1 a2 a3 a4 a5 a6 hk => ?_)
      refine step h' hk (hk _ _ D.TIz D.TITO D.TIi1 D.TIi2 hTI) a3 a4 a5 ⟨s.heap.objs.size, false, _, a1, a5, Nat.ne_of_gt (lt hz), ?_, ?_, Nat.ne_of_gt Sl⟩
      · obtain ⟨o, e, _⟩ := h1; exact Nat.ne_of_gt (lt e)
      · obtain ⟨o, e, _⟩ := h2; exact Nat.ne_of_gt (lt e)
    · refine wpAny_bind (wpAny_pyNext_zip_item_held D hz hT hTI h1 h2 hl1 hl2 ex ey fun h' a1 a3 a4 a5 a6 hk => ?_)
      exact step h' (fun b o b1 b2 b3 b4 e => hk b o b1 b3 b4 e) (hk _ _ D.TIz D.TIi1 D.TIi2 hTI) a3 a4 a5 ⟨T, true, oT, a1, hk _ _ r1 r2 r3 hT, r1, r2, r3, r4⟩
end
section
variable {prog : Program} {w : World} {A : Around} {R : Result → Shared → Prop} {E : Value → Shared → Prop} {s : Shared} {z TI TO i1 i2 l1 l2 S : Addr} {xs ys : Array Value}
theorem extend (hh : A.in1.handled = none) (D : ZipApart z TI TO i1 i2 l1 l2) (O : Off z TI TO i1 i2 l1 l2 S) (hn : min xs.size ys.size ≤ sizeLine) (res : Value) (c : Nat) (hz : IsZip s.heap z TI TO .none) (hst : ZSt z TI TO i1 i2 l1 l2 S xs ys 0 s.heap)
    (hS : s.heap.get? S = some { cls := .type "list", data := .seq #[] c })
    (hR : ∀ h' ts' c', (∀ b o, b ≠ S → b ≠ z → b ≠ TO → b ≠ i1 → b ≠ i2 → s.heap.get? b = some o → h'.get? b = some o) → h'.get? S = some { cls := .type "list", dict := none, data := .seq (ts'.map Value.ref).toArray c', slots := #[] } →
      ts'.length = min xs.size ys.size → Acc S xs ys ts' h' → R (.ok (.ret res)) { s with heap := h' }) :
    wpAny (model prog w) A.in1 (Builtin.List.listExtendWith (.ref S) (.ref z) res)
      (fun fin s' => match fin with | .done f => R (.ok f) s' | .again c' => c'.quiet = true ∧ codeAny (model prog w) A c' R s') (fun e s' => R (.error e) s') s := by
  have hT : s.TypeIs (.ref z) "zip" := ⟨_, hz, rfl⟩
  unfold Builtin.List.listExtendWith
  refine wpAny_bind (wpAny_typeOf hT ?_)
  have h1 : Builtin.List.listSameRef (.ref S) (.ref z) = false := by simp [Builtin.List.listSameRef, Nat.ne_of_gt O.z]
  have h2 : (Value.type "zip" == Value.type "list") = false := by decide
  have h3 : (Value.type "zip" == Value.type "tuple") = false := by decide
  simp only [h1, h2, h3, Bool.or_false, Bool.false_eq_true, if_false]
  refine wpAny_bind (wpAny_pyIter_zip hz ?_)
  refine wpAny_bind (wpAny_holding ?_)
  unfold Builtin.List.listLengthHint
  refine wpAny_bind (wpAny_specialOf hT zip_no_len ?_)
  show wpAny _ A.in1 (specialOf (Value.ref z) (Str.ofString "__length_hint__") >>= _) _ _ _
  refine wpAny_bind (wpAny_specialOf hT zip_no_hint ?_)
  refine wpAny_pure ?_
  show wpAny _ A.in1 (rule "list.extend.makes-room" >>= fun _ => Builtin.List.listTouch (.ref S) >>= fun _ =>
    again (.builtin "list.extend.loop" ⟨[.ref S, .ref z, res], []⟩)) _ _ _
  refine wpAny_bind (wpAny_rule ?_)
  refine wpAny_bind ?_
  show wpAny _ A.in1 (updateSeq S (·.push .none) >>= fun _ => updateSeq S (·.pop)) _ _ _
  refine wpAny_bind (wpAny_updateSeq hS rfl ?_)
  have hS₂ := Heap.get?_update_self (Obj.mapSeq (·.push Value.none)) hS rfl
  refine wpAny_updateSeq (hz := by seq_fits) hS₂ rfl ?_
  have hS₃ := Heap.get?_update_self (Obj.mapSeq (·.pop)) hS₂ rfl
  have oth : ∀ b o, b ≠ S → s.heap.get? b = some o → ((s.heap.update S (Obj.mapSeq (·.push Value.none))).update S (Obj.mapSeq (·.pop))).get? b = some o :=
    fun b o hb e => (Heap.get?_update_other _ _ (Ne.symm hb)).trans ((Heap.get?_update_other _ _ (Ne.symm hb)).trans e)
  have hst' : ZSt z TI TO i1 i2 l1 l2 S xs ys 0 ((s.heap.update S (Obj.mapSeq (·.push Value.none))).update S (Obj.mapSeq (·.pop))) := by
    obtain ⟨a1, a2, a3, a4, a5, a6⟩ := hst
    refine ⟨oth _ _ (Nat.ne_of_lt O.TI) a1, a2.at fun o e => oth _ o (Nat.ne_of_lt O.i1) e, a3.at fun o e => oth _ o (Nat.ne_of_lt O.i2) e, a4.at fun o e => oth _ o (Nat.ne_of_lt O.l1) e, a5.at fun o e => oth _ o (Nat.ne_of_lt O.l2) e, ?_⟩
    rcases a6 with ⟨q1, a, b, q2⟩ | ⟨T, f, oT, q1, q2, q3, q4, q5, q6⟩
    · exact .inl ⟨oth _ _ (Nat.ne_of_lt O.z) q1, a, b, oth _ _ (Nat.ne_of_lt O.TO) q2⟩
    · exact .inr ⟨T, f, oT, oth _ _ (Nat.ne_of_lt O.z) q1, oth _ _ q6 q2, q3, q4, q5, q6⟩
  exact wpAny_pure ⟨plainId_quiet F.plain_extend_loop _, loop hh D O hn res _ _ [] _ rfl (Nat.zero_le _) hst' hS₃ ⟨fun T hT => (nomatch hT), List.Pairwise.nil, fun j T hj => by simp at hj⟩ fun h' ts' c' kp e hl hA =>
    hR h' ts' c' (fun b o b1 b2 b3 b4 b5 e => kp b o b1 b2 b3 b4 b5 (oth b o b1 e)) e hl hA⟩
end
end ZipL
namespace DX
open PySem PySem.Spec L2 PyProof.Rows
section
variable {X : Cx} {J : Gh} {e o : Expr} {es : List Expr} {ρ ρ' : DEnv} {M M0 M1 : Mem} {F F' H H' : Hp} {σ : L2.St} {P : D → Mem → Prop} {K : PySem.W.Frag} {pos apos cpos : Pos}
def stillF (F H : Hp) (M : Mem) : Hp := fun a => if (M a).isSome = true then H a else F a
theorem still_same (k : Ok K F M H) : Same F (stillF F H M) := fun a u h => by
  unfold stillF
  split
  · rename_i q
    obtain ⟨d, hd⟩ := Option.isSome_iff_exists.mp q
    rw [(k.mt a d hd).1] at h; cases h
  · exact h
inductive StillE (M : Mem) : DEnv → DEnv → Prop
  | nil : StillE M [] []
  | same {d : Option D} {ρ ρ' : DEnv} : StillE M ρ ρ' → StillE M (d :: ρ) (d :: ρ')
  | ad {p : Addr} {d : D} {ρ ρ' : DEnv} : M p = some d → frzD d = true → StillE M ρ ρ' → StillE M (some (.adr p) :: ρ) (some d :: ρ')
theorem StillE.en (k : Ok K F M H) : ∀ {ρ ρ' : DEnv}, StillE M ρ ρ' → ∀ {σ : L2.St}, En K F σ ρ → En K (stillF F H M) σ ρ'
  | _, _, .nil, _, .nil => .nil
  | _, _, .same h, _, .cons x r => .cons (fun y q => let ⟨z, a, b⟩ := x y q; ⟨z, a, b.mono (still_same k)⟩) (h.en k r)
  | _, _, .ad (p := p) (d := d) hp hf h, _, .cons x r => .cons (fun y q => by
      cases q
      obtain ⟨z, a, b⟩ := x _ rfl
      cases b
      obtain ⟨u, hu⟩ := (k.mt p _ hp).2.there
      exact ⟨_, a, (k.mt p _ hp).2.rp hu (still_same k) (show stillF F H M p = some u by unfold stillF; rw [hp]; exact hu) hf⟩) (h.en k r)
end
end DX
namespace DX
open PySem PySem.Spec L2 PyProof.Rows StX LamX
mutual
/-- no instance of these classes within -/
def noI (L : List Addr) : D → Bool
  | .tup ds => noIs L ds
  | .lst ds => noIs L ds
  | .stup ds => noIs L ds
  | .ins C gs => decide (C ∉ L) && noIk L gs
  | .dct kvs => noId L kvs
  | .exn _ gs => noIk L gs
  | _ => true
def noIs (L : List Addr) : List D → Bool
  | [] => true
  | d :: ds => noI L d && noIs L ds
def noIk (L : List Addr) : List (Str × D) → Bool
  | [] => true
  | (_, d) :: ds => noI L d && noIk L ds
def noId (L : List Addr) : List (Key × D) → Bool
  | [] => true
  | (_, d) :: ds => noI L d && noId L ds
end
structure KeepsP (L : List Addr) (F F2 : Hp) : Prop where
  k : ∀ a u, F a = some u → (∀ C dx fs, u = .ins C dx fs → C ∉ L) → F2 a = some u
section
variable {K : PySem.W.Frag} {F F2 : Hp} {L : List Addr}
theorem KeepsP.rd (h : KeepsP L F F2) {a : Addr} {u : HO} (hu : ∀ C dx fs, u ≠ .ins C dx fs) (r : Rd F a u) : Rd F2 a u := by
  rcases r with r | ⟨o, r⟩
  · exact .inl (h.k _ _ r fun C dx fs e => absurd e (hu C dx fs))
  · exact .inr ⟨o, h.k _ _ r fun C dx fs e => by cases e⟩
theorem KeepsP.sl (h : KeepsP L F F2) {a : Addr} {xs : List V} (r : SqL K F a xs) : SqL K F2 a xs := by
  rcases r with r | r
  · exact .inl (h.rd (fun _ _ _ e => by cases e) r)
  · exact .inr r
theorem KeepsP.st (h : KeepsP L F F2) {a : Addr} {xs : List V} (r : SqT K F a xs) : SqT K F2 a xs := by
  rcases r with r | r
  · exact .inl (h.rd (fun _ _ _ e => by cases e) r)
  · exact .inr r
mutual
theorem rp_noI (h : KeepsP L F F2) : ∀ (d : D) (v : V), noI L d = true → Rp K F v d → Rp K F2 v d
  | .non, _, _, .non => .non
  | .bl b, _, _, .bl _ => .bl _
  | .int i, _, _, .int _ => .int _
  | .str x, _, _, .str _ => .str _
  | .adr a, _, _, .adr _ => .adr _
  | .ty n, _, _, .ty _ => .ty _
  | .scr ns, _, _, .scr r => .scr (h.sl r)
  | .tup ds, _, q, .tup h1 h2 => .tup (h.st h1) (rps_noI h ds _ (by rw [noI] at q; exact q) h2)
  | .lst ds, _, q, .lst h1 h2 => .lst (h.k _ _ h1 fun _ _ _ e => by cases e) (rps_noI h ds _ (by rw [noI] at q; exact q) h2)
  | .stup ds, _, q, .stup h1 h2 h3 => .stup (h.k _ _ h1 fun _ _ _ e => by cases e) h2 (rps_noI h ds _ (by rw [noI] at q; exact q) h3)
  | .ins C gs, _, q, .ins h1 h2 => by
    rw [noI, Bool.and_eq_true] at q
    exact .ins (h.k _ _ h1 fun _ _ _ e => by cases e; exact of_decide_eq_true q.1) (rfs_noI h gs _ q.2 h2)
  | .dct kvs, _, q, .dct h1 h2 => .dct (h.k _ _ h1 fun _ _ _ e => by cases e) (rks_noI h kvs _ (by rw [noI] at q; exact q) h2)
  | .exn C gs, _, q, .exn h1 h2 h3 => .exn (h.k _ _ h1 fun _ _ _ e => by cases e) (h2.imp id fun ⟨dd, e, r⟩ => ⟨dd, e, h.k _ _ r fun _ _ _ e => by cases e⟩) (rfs_noI h gs _ (by rw [noI] at q; exact q) h3)
  | .tbl _, _, _, r => nomatch r
theorem rps_noI (h : KeepsP L F F2) : ∀ (ds : List D) (vs : List V), noIs L ds = true → Rps K F vs ds → Rps K F2 vs ds
  | [], _, _, .nil => .nil
  | d :: ds, _, q, .cons h1 h2 => by
    rw [noIs, Bool.and_eq_true] at q
    exact .cons (rp_noI h d _ q.1 h1) (rps_noI h ds _ q.2 h2)
theorem rfs_noI (h : KeepsP L F F2) : ∀ (ds : List (Str × D)) (vs : List (Str × V)), noIk L ds = true → Rfs K F vs ds → Rfs K F2 vs ds
  | [], _, _, .nil => .nil
  | (x, d) :: ds, _, q, .cons h1 h2 => by
    rw [noIk, Bool.and_eq_true] at q
    exact .cons (rp_noI h d _ q.1 h1) (rfs_noI h ds _ q.2 h2)
theorem rks_noI (h : KeepsP L F F2) : ∀ (ds : List (Key × D)) (vs : List (Key × V)), noId L ds = true → Rks K F vs ds → Rks K F2 vs ds
  | [], _, _, .nil => .nil
  | (x, d) :: ds, _, q, .cons h1 h2 => by
    rw [noId, Bool.and_eq_true] at q
    exact .cons (rp_noI h d _ q.1 h1) (rks_noI h ds _ q.2 h2)
end
end
end DX
namespace DX
open PySem PySem.Spec L2 PyProof.Rows StX LamX
/-- besides: what stands at p is seen as d -/
def Gh.hold (J : Gh) (K : PySem.W.Frag) (p : Addr) (d : D) : Gh := ⟨fun F => J.p F ∧ Rp K F (.ref p) d, fun _ _ e h => ⟨J.mono _ _ e h.1, h.2.mono e⟩⟩
section
variable {X : Cx} {J : Gh} {ρ ρ' : DEnv} {M M0 : Mem} {P : D → Mem → Prop} {L : List Addr} {x : Str} {pos : Pos} {K : PySem.W.Frag} {F F2 : Hp} {σ : L2.St} {st : Stmt} {rest : List Stmt} {B : Bd}
/-- names behind the statement: their values hold no instance of these classes, or are forgotten -/
inductive NoE (L : List Addr) : DEnv → DEnv → Prop
  | nil : NoE L [] []
  | keep {d : D} {ρ ρ' : DEnv} : noI L d = true → NoE L ρ ρ' → NoE L (some d :: ρ) (some d :: ρ')
  | drop {d : Option D} {ρ ρ' : DEnv} : NoE L ρ ρ' → NoE L (d :: ρ) (none :: ρ')
theorem NoE.en (kp : KeepsP L F F2) : ∀ {ρ ρ' : DEnv}, NoE L ρ ρ' → ∀ {σ : L2.St}, En K F σ ρ → En K F2 σ ρ'
  | _, _, .nil, _, .nil => .nil
  | _, _, .keep hd h, _, .cons x r => .cons (fun y q => by
      obtain ⟨z, a, b⟩ := x y q
      cases q
      exact ⟨z, a, rp_noI kp _ z hd b⟩) (h.en kp r)
  | _, _, .drop h, _, .cons x r => .cons (fun y q => nomatch q) (h.en kp r)
end
end DX
namespace DX
open PySem PySem.Spec L2 PyProof.Rows StX
section
variable {X : Cx} {J : Gh} {e a b o : Expr} {es : List Expr} {kws : List Keyword} {ks : List Str} {ρ : DEnv} {M M1 M2 : Mem} {F F' H H' : Hp} {σ : L2.St} {K : PySem.W.Frag} {pos p apos : Pos} {x m f : Str} {P : D → Mem → Prop} {PA PA' : List D → List D → Mem → Prop} {RR : Addr → List (Str × D) → DEnv → Mem → Prop} {L : List Addr} {TU : TrX} {k : Nat}
theorem EvA.imp (h : EvA X J pos es kws ks ρ M PA) (kk : ∀ ds zs M', PA ds zs M' → PA' ds zs M') : EvA X J pos es kws ks ρ M PA' :=
  fun fv pins σ H F s Qa I st q => h fv pins σ H F s Qa I st fun us ws vs xs ds zs F2 M2 H2 s2 I2 e2 o2 r rx rd rz hl t => q us ws vs xs ds zs F2 M2 H2 s2 I2 e2 o2 r rx rd rz hl (kk _ _ _ t)
end
end DX
namespace DX
open PySem PySem.Spec L2
open PyProof.Rows hiding St
/-- a dict as a value, or the place of one that changes -/
inductive Kw (M : Mem) : D → List (Key × D) → Prop
  | id {kvs : List (Key × D)} : Kw M (.dct kvs) kvs
  | ad {p : Addr} {kvs : List (Key × D)} : M p = some (.dct kvs) → Kw M (.adr p) kvs
section
variable {X : Cx} {J : Gh} {e a b o : Expr} {es : List Expr} {ρ : DEnv} {M M1 : Mem} {F F' H H' : Hp} {σ : St} {K : PySem.W.Frag} {pos p apos : Pos} {x m f : Str} {P : D → Mem → Prop} {B : Bd}
theorem Kw.get {d : D} {kvs : List (Key × D)} {v : V} (w : Kw M d kvs) (k : Ok K F M H) (r : Rp K F v d) : ∃ q vs, v = .ref q ∧ H q = some (.dK vs) ∧ Rks K F vs kvs := by
  cases w with
  | id =>
    cases r with
    | dct h1 h2 => exact ⟨_, _, rfl, k.ex _ _ h1, h2⟩
  | ad h =>
    cases r
    obtain ⟨vs, h1, h2⟩ := (k.mt _ _ h).2
    exact ⟨_, vs, rfl, h1, h2⟩
theorem Rks.len : ∀ {vs : List (Key × V)} {ds : List (Key × D)}, Rks K F vs ds → vs.length = ds.length
  | _, _, .nil => rfl
  | _, _, .cons _ r => congrArg Nat.succ (Rks.len r)
end
end DX
namespace DX
open PySem PySem.Spec L2 PyProof.Rows StX
/-- its code, the cell that it has captured, the class in the cell -/
def supA (K : PySem.W.Frag) (a : Addr) : Addr × Addr × Addr := match K.lookup a with
  | some ⟨_, _, .func fd, _⟩ => (match fd.code with
    | .ref c => (match fd.closure with
      | [(_, cc)] => (match K.lookup cc with
        | some ⟨_, _, .cell (some (.ref D)), _⟩ => (c, cc, D)
        | _ => (0, 0, 0))
      | _ => (0, 0, 0))
    | _ => (0, 0, 0))
  | _ => (0, 0, 0)
def fileB (file : Str) : Option Value → Bool
  | some (.str fl _) => decide (fl = file)
  | _ => false
def supB (K : PySem.W.Frag) (a : Addr) (q file : Str) (dvs : List V) : Bool :=
  PySem.W.keepIn K (.ref a) && ((match K.lookup a with
    | some ⟨_, _, .func fd, _⟩ => decide (fd.code = .ref (supA K a).1) && (PySem.W.codeIn K fd.code q && (decide (fd.closure = [(("__class__" : Str), (supA K a).2.1)]) && He.dflB K fd.defaults dvs))
    | _ => false) && ((match K.lookup (supA K a).2.1 with
      | some ⟨_, _, .cell (some v), _⟩ => decide (v = .ref (supA K a).2.2)
      | _ => false) && ((match K.lookup (supA K a).1 with
        | some ⟨_, _, .fields vs, _⟩ => fileB file vs[2]?
        | _ => false) && (PySem.W.clsIn K (supA K a).2.2).isSome)))
/-- how super() finds a name, looked at -/
def supO (K : PySem.W.Frag) (C Dc : Addr) (name : Str) (g : Addr) : Bool :=
  He.eqO (PySem.W.ks_superIn K C Dc name) (some (some (.ref g))) && (decide (PySem.W.typeIn K (.ref g) = some (.type "function")) && (PySem.W.fnIn K g && (decide (PySem.W.mroIn K C (.ref Dc) = some true) && He.eqO (PySem.W.nsIn K cStatics "thirdparty.any") (some none))))
/-- an empty tuple -/
def tup0B (K : PySem.W.Frag) (a : Addr) : Bool := match K.lookup a with
  | some ⟨.type c, _, .seq its _, _⟩ => decide (c = "tuple") && decide (its.toList = [])
  | _ => false
end DX
namespace DX
open PySem PySem.Spec L2 GenW
open PyProof.Rows hiding St
/-- what is wanted behind a statement of a generator: what is out, the names, what may change -/
structure GBd where
  nx : List D → DEnv → Mem → Prop
  rt : List D → D → Mem → Prop := fun _ _ _ => False
  bk : List D → DEnv → Mem → Prop := fun _ _ _ => False
  ct : List D → DEnv → Mem → Prop := fun _ _ _ => False
def GBd.at (B : GBd) (ys : List D) : Bd := ⟨B.nx ys, B.rt ys, B.bk ys, B.ct ys⟩
structure KGd (K : PySem.W.Frag) (F : Hp) (B : GBd) (E : GEnds) : Prop where
  nx : ∀ F' σ' H' ρ' M' ys vs, B.nx ys ρ' M' → Same F F' → En K F' σ' ρ' → Ok K F' M' H' → Rps K F' vs ys → E.nx vs σ' H'
  rt : ∀ d v M' F' H' ys vs, B.rt ys d M' → Same F F' → Ok K F' M' H' → Rp K F' v d → Rps K F' vs ys → E.rt vs v H'
  bk : ∀ F' σ' H' ρ' M' ys vs, B.bk ys ρ' M' → Same F F' → En K F' σ' ρ' → Ok K F' M' H' → Rps K F' vs ys → E.bk vs σ' H'
  ct : ∀ F' σ' H' ρ' M' ys vs, B.ct ys ρ' M' → Same F F' → En K F' σ' ρ' → Ok K F' M' H' → Rps K F' vs ys → E.ct vs σ' H'
def tGd (K : PySem.W.Frag) (J : Gh) (ys : List D) (ρ : DEnv) (M : Mem) (B : GBd) : TGn := fun D vs σ H => ∃ F, Sts K J F σ H ρ M ∧ Rps K F vs ys ∧ KGd K F B D
def GGX (X : Cx) (J : Gh) (st : List Stmt) (ys : List D) (ρ : DEnv) (M : Mem) (B : GBd) : Prop := GSs X st (tGd X.K J ys ρ M B)
def GG1 (X : Cx) (J : Gh) (st : Stmt) (ys : List D) (ρ : DEnv) (M : Mem) (B : GBd) : Prop := GS X st (tGd X.K J ys ρ M B)
def tGSe (X : Cx) (st : List Stmt) : TGn := fun D vs σ H => ∃ t, GSs X st t ∧ t D vs σ H
def tGS1 (X : Cx) (st : Stmt) : TGn := fun D vs σ H => ∃ t, GS X st t ∧ t D vs σ H
section
variable {X : Cx} {J : Gh} {e a b c : Expr} {es : List Expr} {st : Stmt} {rest sts : List Stmt} {ys : List D} {ρ ρ' : DEnv} {M M0 M' : Mem} {F F' H H' : Hp} {σ : St} {B : GBd} {K : PySem.W.Frag} {pos p yp : Pos} {E : GEnds}
theorem KGd.to (k : KGd K F B E) (e : Same F F') : KGd K F' B E :=
  ⟨fun F2 σ' H' ρ' M' ys vs p e2 => k.nx F2 σ' H' ρ' M' ys vs p (e.trans e2), fun d v M' F2 H' ys vs p e2 => k.rt d v M' F2 H' ys vs p (e.trans e2), fun F2 σ' H' ρ' M' ys vs p e2 => k.bk F2 σ' H' ρ' M' ys vs p (e.trans e2), fun F2 σ' H' ρ' M' ys vs p e2 => k.ct F2 σ' H' ρ' M' ys vs p (e.trans e2)⟩
theorem GGX.go {vs : List V} (h : GGX X J sts ys ρ M B) (s : Sts X.K J F σ H ρ M) (r : Rps X.K F vs ys) (k : KGd X.K F B E) : tGSe X sts E vs σ H := ⟨_, h, F, s, r, k⟩
theorem GG1.go {vs : List V} (h : GG1 X J st ys ρ M B) (s : Sts X.K J F σ H ρ M) (r : Rps X.K F vs ys) (k : KGd X.K F B E) : tGS1 X st E vs σ H := ⟨_, h, F, s, r, k⟩
end
end DX
namespace DX
open PySem PySem.Spec L2 SX
section
variable {α β : Type} {f : D → Option D} {xs : List D}
/-- what holds of what comes -/
def Gives {α : Type} (o : Option α) (Q : α → Prop) : Prop := ∃ y, o = some y ∧ Q y
theorem Gives.bind {o : Option α} {f : α → Option β} {Q : β → Prop} (h : Gives o fun a => Gives (f a) Q) : Gives (o.bind f) Q := by
  obtain ⟨y, rfl, h⟩ := h
  exact h
theorem Gives.imp {o : Option α} {Q Q' : α → Prop} (h : Gives o Q) (k : ∀ a, Q a → Q' a) : Gives o Q' := by
  obtain ⟨y, e, h⟩ := h
  exact ⟨y, e, k y h⟩
end
end DX
namespace My
open PySem PySem.Spec L2 DX SX
noncomputable section
abbrev HzL : List PySem.Str := ["Network", "Ring", "Faulty", "NoOutput", "InvalidRow", "InvalidCells", "InvalidOutputs", "InvalidSize", "InvalidStuck", "InvalidPosition"]
def Hz (Z : Str → Addr) : Prop := (HzL.map Z).Nodup
instance {Z : Str → Addr} : Decidable (Hz Z) := inferInstanceAs (Decidable ((HzL.map Z).Nodup))
end
end My
namespace My
open PySem PySem.Spec L2 DX SX PyProof.Rows StX LamX
def topS (i : Nat) : Stmt := PySem.Challenge.pw_carryprobe_k59_rows_refused.main.body.getD i (.Pass ⟨0, 0, 0, 0⟩)
abbrev s_Lpen : Stmt := topS 84
abbrev s_Ldraw : Stmt := topS 85
abbrev s_Lbits : Stmt := topS 86
abbrev s_Lodd : Stmt := topS 89
abbrev s_Lheard : Stmt := topS 91
abbrev s_is_between : Stmt := topS 20
abbrev s_ends_with_letter : Stmt := topS 78
abbrev s_are_row_positions : Stmt := topS 79
abbrev s_need_row : Stmt := topS 80
abbrev s_ring_serial_wiring : Stmt := topS 67
abbrev s_serial_wiring : Stmt := topS 66
abbrev s_chained : Stmt := topS 81
abbrev s_is_sequence : Stmt := topS 22
abbrev s_is_row : Stmt := topS 21
abbrev s_is_cell : Stmt := topS 47
abbrev s_checked_cells : Stmt := topS 48
abbrev s_checked_outputs : Stmt := topS 49
abbrev s_Ring___init__ : Stmt := inClass (topS 69) 5
abbrev s_Network___init__ : Stmt := inClass (topS 69) 5
abbrev s_Faulty_base___init__ : Stmt := inClass (topS 69) 5
abbrev s_is_state : Stmt := topS 33
abbrev s_checked_stuck : Stmt := topS 71
abbrev s_Faulty___init__ : Stmt := inClass (topS 74) 1
abbrev s_network_with : Stmt := topS 82
abbrev s_Lis_number : Stmt := topS 87
abbrev s_Lis_right_row : Stmt := topS 88
abbrev s_joined_rows : Stmt := topS 72
abbrev s_node_rows : Stmt := topS 73
abbrev s_Faulty_held_states : Stmt := inClass (topS 69) 19
abbrev s_Faulty_rows : Stmt := inClass (topS 74) 3
abbrev s_Order_positions : Stmt := inClass (topS 45) 2
abbrev s_first_ones : Stmt := topS 44
abbrev s_Order___init__ : Stmt := inClass (topS 45) 1
abbrev s_Order___add__ : Stmt := inClass (topS 45) 9
abbrev s_node_orders : Stmt := topS 50
abbrev s_Network_orders : Stmt := inClass (topS 69) 11
abbrev s_Ring_orders : Stmt := inClass (topS 69) 11
abbrev s_Lright : Stmt := topS 92
abbrev s_Lentries : Stmt := topS 90
abbrev s_law : Stmt := topS 93
abbrev s_InvalidRow___init__ : Stmt := inClass (topS 10) 0
abbrev s_InvalidCells___init__ : Stmt := inClass (topS 7) 0
abbrev s_InvalidOutputs___init__ : Stmt := inClass (topS 8) 0
abbrev s_InvalidSize___init__ : Stmt := inClass (topS 3) 0
abbrev s_InvalidStuck___init__ : Stmt := inClass (topS 9) 0
abbrev s_NoOutput___init__ : Stmt := inClass (topS 14) 0
abbrev s_InvalidPosition___init__ : Stmt := inClass (topS 6) 0
abbrev tl : TbL := [(("_law_right", none), "_law_right.<locals>.<lambda>")]
def dd_Lpen : He.DefD := ⟨("_law_pen", none), "_law_pen", "_law_pen", defArgs s_Lpen, defBody s_Lpen, defScope s_Lpen, [], []⟩
def dd_Ldraw : He.DefD := ⟨("_law_draw", none), "_law_draw", "_law_draw", defArgs s_Ldraw, defBody s_Ldraw, defScope s_Ldraw, [], []⟩
def dd_Lbits : He.DefD := ⟨("_law_bits", none), "_law_bits", "_law_bits", defArgs s_Lbits, defBody s_Lbits, defScope s_Lbits, [], []⟩
def dd_Lodd : He.DefD := ⟨("_law_odd", none), "_law_odd", "_law_odd", defArgs s_Lodd, defBody s_Lodd, defScope s_Lodd, [], []⟩
def dd_Lheard : He.DefD := ⟨("_law_heard", none), "_law_heard", "_law_heard", defArgs s_Lheard, defBody s_Lheard, defScope s_Lheard, [], []⟩
def dd_is_between : He.DefD := ⟨("is_between", none), "is_between", "is_between", defArgs s_is_between, defBody s_is_between, defScope s_is_between, [], []⟩
def dd_ends_with_letter : He.DefD := ⟨("ends_with_letter", none), "ends_with_letter", "ends_with_letter", defArgs s_ends_with_letter, defBody s_ends_with_letter, defScope s_ends_with_letter, [], []⟩
def dd_are_row_positions : He.DefD := ⟨("are_row_positions", none), "are_row_positions", "are_row_positions", defArgs s_are_row_positions, defBody s_are_row_positions, defScope s_are_row_positions, [], []⟩
def dd_need_row : He.DefD := ⟨("need_row", none), "need_row", "need_row", defArgs s_need_row, defBody s_need_row, defScope s_need_row, [], []⟩
def dd_ring_serial_wiring : He.DefD := ⟨("ring_serial_wiring", none), "ring_serial_wiring", "ring_serial_wiring", defArgs s_ring_serial_wiring, defBody s_ring_serial_wiring, defScope s_ring_serial_wiring, [], []⟩
def dd_serial_wiring : He.DefD := ⟨("serial_wiring", none), "serial_wiring", "serial_wiring", defArgs s_serial_wiring, defBody s_serial_wiring, defScope s_serial_wiring, [], []⟩
def dd_chained : He.DefD := ⟨("chained", none), "chained", "chained", defArgs s_chained, defBody s_chained, defScope s_chained, [], []⟩
def dd_is_sequence : He.DefD := ⟨("is_sequence", none), "is_sequence", "is_sequence", defArgs s_is_sequence, defBody s_is_sequence, defScope s_is_sequence, [], []⟩
def dd_is_row : He.DefD := ⟨("is_row", none), "is_row", "is_row", defArgs s_is_row, defBody s_is_row, defScope s_is_row, [], []⟩
def dd_is_cell : He.DefD := ⟨("is_cell", none), "is_cell", "is_cell", defArgs s_is_cell, defBody s_is_cell, defScope s_is_cell, [], []⟩
def dd_checked_cells : He.DefD := ⟨("checked_cells", none), "checked_cells", "checked_cells", defArgs s_checked_cells, defBody s_checked_cells, defScope s_checked_cells, [], []⟩
def dd_checked_outputs : He.DefD := ⟨("checked_outputs", none), "checked_outputs", "checked_outputs", defArgs s_checked_outputs, defBody s_checked_outputs, defScope s_checked_outputs, [], []⟩
def dd_Ring___init__ : He.DefD := ⟨("Ring", some "__init__"), "__init__", "Network.__init__", defArgs s_Ring___init__, defBody s_Ring___init__, defScope s_Ring___init__, [], []⟩
def dd_Network___init__ : He.DefD := ⟨("Network", some "__init__"), "__init__", "Network.__init__", defArgs s_Network___init__, defBody s_Network___init__, defScope s_Network___init__, [], []⟩
def dd_Faulty_base___init__ : He.DefD := ⟨("Network", some "__init__"), "__init__", "Network.__init__", defArgs s_Faulty_base___init__, defBody s_Faulty_base___init__, defScope s_Faulty_base___init__, [], []⟩
def dd_is_state : He.DefD := ⟨("is_state", none), "is_state", "is_state", defArgs s_is_state, defBody s_is_state, defScope s_is_state, [], []⟩
def dd_checked_stuck : He.DefD := ⟨("checked_stuck", none), "checked_stuck", "checked_stuck", defArgs s_checked_stuck, defBody s_checked_stuck, defScope s_checked_stuck, [], []⟩
def dd_network_with : He.DefD := ⟨("network_with", none), "network_with", "network_with", defArgs s_network_with, defBody s_network_with, defScope s_network_with, [], [("ring", .bl false)]⟩
def dd_Lis_number : He.DefD := ⟨("_law_is_number", none), "_law_is_number", "_law_is_number", defArgs s_Lis_number, defBody s_Lis_number, defScope s_Lis_number, [], []⟩
def dd_Lis_right_row : He.DefD := ⟨("_law_is_right_row", none), "_law_is_right_row", "_law_is_right_row", defArgs s_Lis_right_row, defBody s_Lis_right_row, defScope s_Lis_right_row, [], []⟩
def dd_joined_rows : He.DefD := ⟨("joined_rows", none), "joined_rows", "joined_rows", defArgs s_joined_rows, defBody s_joined_rows, defScope s_joined_rows, [], []⟩
def dd_node_rows : He.DefD := ⟨("node_rows", none), "node_rows", "node_rows", defArgs s_node_rows, defBody s_node_rows, defScope s_node_rows, [], []⟩
def dd_Faulty_held_states : He.DefD := ⟨("Faulty", some "held_states"), "held_states", "Network.held_states", defArgs s_Faulty_held_states, defBody s_Faulty_held_states, defScope s_Faulty_held_states, [], []⟩
def dd_first_ones : He.DefD := ⟨("first_ones", none), "first_ones", "first_ones", defArgs s_first_ones, defBody s_first_ones, defScope s_first_ones, [], []⟩
def dd_Order___init__ : He.DefD := ⟨("Order", some "__init__"), "__init__", "Order.__init__", defArgs s_Order___init__, defBody s_Order___init__, defScope s_Order___init__, [], []⟩
def dd_Order___add__ : He.DefD := ⟨("Order", some "__add__"), "__add__", "Order.__add__", defArgs s_Order___add__, defBody s_Order___add__, defScope s_Order___add__, [], []⟩
def dd_node_orders : He.DefD := ⟨("node_orders", none), "node_orders", "node_orders", defArgs s_node_orders, defBody s_node_orders, defScope s_node_orders, [], []⟩
def dd_Lright : He.DefD := ⟨("_law_right", none), "_law_right", "_law_right", defArgs s_Lright, defBody s_Lright, defScope s_Lright, [], []⟩
def dd_Lentries : He.DefD := ⟨("_law_entries", none), "_law_entries", "_law_entries", defArgs s_Lentries, defBody s_Lentries, defScope s_Lentries, [], []⟩
def dd_law : He.DefD := ⟨("law", none), "law", "law", defArgs s_law, defBody s_law, defScope s_law, [], []⟩
def dd_InvalidRow___init__ : He.DefD := ⟨("InvalidRow", some "__init__"), "__init__", "InvalidRow.__init__", defArgs s_InvalidRow___init__, defBody s_InvalidRow___init__, defScope s_InvalidRow___init__, [], []⟩
def dd_InvalidCells___init__ : He.DefD := ⟨("InvalidCells", some "__init__"), "__init__", "InvalidCells.__init__", defArgs s_InvalidCells___init__, defBody s_InvalidCells___init__, defScope s_InvalidCells___init__, [], []⟩
def dd_InvalidOutputs___init__ : He.DefD := ⟨("InvalidOutputs", some "__init__"), "__init__", "InvalidOutputs.__init__", defArgs s_InvalidOutputs___init__, defBody s_InvalidOutputs___init__, defScope s_InvalidOutputs___init__, [], []⟩
def dd_InvalidSize___init__ : He.DefD := ⟨("InvalidSize", some "__init__"), "__init__", "InvalidSize.__init__", defArgs s_InvalidSize___init__, defBody s_InvalidSize___init__, defScope s_InvalidSize___init__, [], []⟩
def dd_InvalidStuck___init__ : He.DefD := ⟨("InvalidStuck", some "__init__"), "__init__", "InvalidStuck.__init__", defArgs s_InvalidStuck___init__, defBody s_InvalidStuck___init__, defScope s_InvalidStuck___init__, [], []⟩
def dd_NoOutput___init__ : He.DefD := ⟨("NoOutput", some "__init__"), "__init__", "NoOutput.__init__", defArgs s_NoOutput___init__, defBody s_NoOutput___init__, defScope s_NoOutput___init__, [], []⟩
def dd_InvalidPosition___init__ : He.DefD := ⟨("InvalidPosition", some "__init__"), "__init__", "InvalidPosition.__init__", defArgs s_InvalidPosition___init__, defBody s_InvalidPosition___init__, defScope s_InvalidPosition___init__, [], []⟩
def dp_Faulty___init__ : DX.PrD := ⟨3, "Faulty", "__init__", "Faulty.__init__", defArgs s_Faulty___init__, defBody s_Faulty___init__, defScope s_Faulty___init__⟩
def dp_Faulty_rows : DX.PrD := ⟨0, "Faulty", "rows", "Faulty.rows", defArgs s_Faulty_rows, defBody s_Faulty_rows, defScope s_Faulty_rows⟩
def dp_Order_positions : DX.PrD := ⟨0, "Order", "positions", "Order.positions", defArgs s_Order_positions, defBody s_Order_positions, defScope s_Order_positions⟩
def dp_Network_orders : DX.PrD := ⟨0, "Network", "orders", "Network.orders", defArgs s_Network_orders, defBody s_Network_orders, defScope s_Network_orders⟩
def dp_Ring_orders : DX.PrD := ⟨0, "Ring", "orders", "Network.orders", defArgs s_Ring_orders, defBody s_Ring_orders, defScope s_Ring_orders⟩
def fn : List He.DefD := [dd_Lpen, dd_Ldraw, dd_Lbits, dd_Lodd, dd_Lheard, dd_is_between, dd_ends_with_letter, dd_are_row_positions, dd_need_row, dd_ring_serial_wiring, dd_serial_wiring, dd_chained, dd_is_sequence, dd_is_row, dd_is_cell, dd_checked_cells, dd_checked_outputs, dd_Ring___init__, dd_Network___init__, dd_Faulty_base___init__, dd_is_state, dd_checked_stuck, dd_network_with, dd_Lis_number, dd_Lis_right_row, dd_joined_rows, dd_node_rows, dd_Faulty_held_states, dd_first_ones, dd_Order___init__, dd_Order___add__, dd_node_orders, dd_Lright, dd_Lentries, dd_law, dd_InvalidRow___init__, dd_InvalidCells___init__, dd_InvalidOutputs___init__, dd_InvalidSize___init__, dd_InvalidStuck___init__, dd_NoOutput___init__, dd_InvalidPosition___init__]
def fa : List He.Fa := [.glo "_law_pen", .glo "_law_draw", .glo "_law_bits", .glo "_law_odd", .glo "_law_heard", .glo "is_between", .glo "ends_with_letter", .glo "are_row_positions", .glo "need_row", .glo "ring_serial_wiring", .glo "serial_wiring", .glo "chained", .glo "is_sequence", .glo "is_row", .glo "is_cell", .glo "checked_cells", .glo "checked_outputs", .glo "is_state", .glo "checked_stuck", .glo "network_with", .glo "_law_is_number", .glo "_law_is_right_row", .glo "joined_rows", .glo "node_rows", .glo "first_ones", .glo "node_orders", .glo "_law_right", .glo "_law_entries", .glo "law", .glo "ProbeError", .glo "NoOutput", .glo "AbsentError", .glo "InvalidRow", .glo "TooMany", .glo "InvalidCells", .glo "InvalidOutputs", .glo "InvalidSize", .noat "Ring" "joins", .cls "Ring", .noat "Ring" "held", .noat "Ring" "ends", .noat "Ring" "bits", .noat "Network" "joins", .cls "Network", .noat "Network" "held", .noat "Network" "ends", .noat "Network" "bits", .noat "Faulty" "joins", .cls "Faulty", .noat "Faulty" "held", .noat "Faulty" "ends", .noat "Faulty" "bits", .glo "InvalidStuck", .mkr "Ring", .glo "Ring", .mkr "Network", .glo "Network", .mkr "Faulty", .glo "Faulty", .meth "Faulty" "held_states", .noat "Order" "entries", .cls "Order", .glo "InvalidPosition", .mkr "Order", .glo "Order", .meth "Order" "__add__", .free "LookupError", .free "ValueError", .free "abs", .free "all", .free "bool", .free "dict", .free "enumerate", .free "int", .free "isinstance", .free "len", .free "list", .free "min", .free "range", .free "repr", .free "set", .free "str", .free "super", .free "tuple", .str "GENERATE" "G", .str "KILL" "K", .int "MOST_CELLS" 150, .str "PASS" "P", .glo "STATES"]
abbrev R : PySem.W.OpenRow := PySem.W.OpenLaw.row PySem.Challenge.rw_carryprobe_k59_rows_refused
def exq (K : PySem.W.Frag) : Bool := (allB K (["InvalidRow", "InvalidCells", "InvalidOutputs", "InvalidSize", "InvalidStuck", "NoOutput", "InvalidPosition"] : List PySem.Str) fun C => decide (PySem.W.exmAny K (.ref C) [.ref (He.ga K "ProbeError"), .ref (He.ga K "AbsentError"), .ref (He.ga K "TooMany")] = some true)) && (allB K (["InvalidRow", "InvalidCells", "InvalidOutputs", "InvalidSize", "InvalidStuck", "NoOutput", "InvalidPosition"] : List PySem.Str) fun C => excB K C) && (allB K (["InvalidRow", "InvalidCells", "InvalidOutputs", "InvalidSize", "InvalidStuck", "NoOutput", "InvalidPosition"] : List PySem.Str) fun C => decide (PySem.W.kitOne K (.ref C) (.ref (He.ga K "NoOutput")) = some (decide (C ∈ (["NoOutput"] : List PySem.Str).map (Zk K))))) && ((["NoneType", "bool", "int", "str", "tuple", "list", "dict"] : List String).all fun n => decide (PySem.W.kitOne K (.type n) (.ref (He.ga K "NoOutput")) = some false)) && (allB K (["InvalidRow", "InvalidCells", "InvalidOutputs", "InvalidSize", "InvalidStuck", "NoOutput", "InvalidPosition"] : List PySem.Str) fun C => decide (PySem.W.kitOne K (.ref C) (.type "LookupError") = some (decide (C ∈ (["NoOutput"] : List PySem.Str).map (Zk K))))) && ((["NoneType", "bool", "int", "str", "tuple", "list", "dict"] : List String).all fun n => decide (PySem.W.kitOne K (.type n) (.type "LookupError") = some false)) && (allB K (["InvalidRow", "InvalidCells", "InvalidOutputs", "InvalidSize", "InvalidStuck", "NoOutput", "InvalidPosition"] : List PySem.Str) fun C => decide (PySem.W.kitOne K (.ref C) (.ref (He.ga K "ProbeError")) = some (decide (C ∈ (["InvalidRow", "InvalidCells", "InvalidOutputs", "InvalidSize", "InvalidStuck", "InvalidPosition"] : List PySem.Str).map (Zk K))))) && ((["NoneType", "bool", "int", "str", "tuple", "list", "dict"] : List String).all fun n => decide (PySem.W.kitOne K (.type n) (.ref (He.ga K "ProbeError")) = some false)) && (allB K (["NoOutput"] : List PySem.Str) fun C => (excB K C && He.eqO (PySem.W.findIn K (.ref C) "output") (some none))) && (allB K (["InvalidRow", "InvalidCells", "InvalidOutputs", "InvalidSize", "InvalidStuck", "NoOutput", "InvalidPosition"] : List PySem.Str) fun C => decide (PySem.W.kitOne K (.ref C) (.ref (He.ga K "InvalidRow")) = some (decide (C ∈ (["InvalidRow"] : List PySem.Str).map (Zk K))))) && ((["NoneType", "bool", "int", "str", "tuple", "list", "dict"] : List String).all fun n => decide (PySem.W.kitOne K (.type n) (.ref (He.ga K "InvalidRow")) = some false)) && (allB K (["InvalidRow", "InvalidCells", "InvalidOutputs", "InvalidSize", "InvalidStuck", "NoOutput", "InvalidPosition"] : List PySem.Str) fun C => decide (PySem.W.kitOne K (.ref C) (.type "ValueError") = some (decide (C ∈ (["InvalidRow", "InvalidCells", "InvalidOutputs", "InvalidSize", "InvalidStuck", "InvalidPosition"] : List PySem.Str).map (Zk K))))) && ((["NoneType", "bool", "int", "str", "tuple", "list", "dict"] : List String).all fun n => decide (PySem.W.kitOne K (.type n) (.type "ValueError") = some false)) && (allB K (["InvalidRow", "InvalidCells", "InvalidOutputs", "InvalidSize", "InvalidStuck", "NoOutput", "InvalidPosition"] : List PySem.Str) fun C => decide (PySem.W.kitOne K (.ref C) (.ref (He.ga K "AbsentError")) = some (decide (C ∈ (["NoOutput"] : List PySem.Str).map (Zk K))))) && ((["NoneType", "bool", "int", "str", "tuple", "list", "dict"] : List String).all fun n => decide (PySem.W.kitOne K (.type n) (.ref (He.ga K "AbsentError")) = some false)) && (allB K (["InvalidRow", "InvalidSize"] : List PySem.Str) fun C => (excB K C && He.eqO (PySem.W.findIn K (.ref C) "value") (some none))) && (errB "ValueError.__new__" mroV K "InvalidRow") && (He.eqO (PySem.W.findIn K (.ref (He.ga K "InvalidRow")) "value") (some none)) && ((["NoneType", "bool", "int", "str", "tuple", "list", "dict"] : List String).all fun n => decide (PySem.W.kitAny K (.type n) ((["tuple", "list"] : List String).map Value.type) = some ((["tuple", "list"] : List String).any fun m => (n == m) || (n == "bool" && m == "int")))) && (errB "ValueError.__new__" mroV K "InvalidCells") && (He.eqO (PySem.W.findIn K (.ref (He.ga K "InvalidCells")) "index") (some none)) && (errB "ValueError.__new__" mroV K "InvalidOutputs") && (He.eqO (PySem.W.findIn K (.ref (He.ga K "InvalidOutputs")) "index") (some none)) && (DX.conB K "Ring" "LEAST_BITS" 2) && (DX.conB K "Ring" "MOST_BITS" 24) && (errB "ValueError.__new__" mroV K "InvalidSize") && (He.eqO (PySem.W.findIn K (.ref (He.ga K "InvalidSize")) "value") (some none)) && (DX.conB K "Ring" "LOWEST" 1) && (DX.conB K "Network" "LEAST_BITS" 1) && (DX.conB K "Network" "MOST_BITS" 24) && (DX.conB K "Network" "LOWEST" 0) && (DX.conB K "Faulty" "LEAST_BITS" 1) && (DX.conB K "Faulty" "MOST_BITS" 24) && (DX.conB K "Faulty" "LOWEST" 0) && (errB "ValueError.__new__" mroV K "InvalidStuck") && (He.eqO (PySem.W.findIn K (.ref (He.ga K "InvalidStuck")) "index") (some none)) && (supB K (He.fAd K ("Faulty", some "__init__")) "Faulty.__init__" "/claim/cut.py" [L2.V.ref (He.dflAt ("Faulty", some "__init__") 0 K)]) && (supO K (He.ga K "Faulty") (supA K (He.fAd K ("Faulty", some "__init__"))).2.2 "__init__" (He.fAd K ("Network", some "__init__"))) && (tup0B K (He.dflAt ("Faulty", some "__init__") 0 K)) && (errB "LookupError.__new__" mroL K "NoOutput") && (He.eqO (PySem.W.findIn K (.ref (He.ga K "NoOutput")) "output") (some none)) && (DX.conB K "Order" "GREATEST" 24) && (errB "ValueError.__new__" mroV K "InvalidPosition") && (He.eqO (PySem.W.findIn K (.ref (He.ga K "InvalidPosition")) "index") (some none)) && (sfB K "Order") && (decide (Zk K "Ring" ≠ Zk K "Network")) && (decide (Hz (Zk K))) && sysB K && He.tupB K "STATES" [.str "G", .str "K", .str "P"]
def pr : List DX.PrD := [dp_Faulty___init__, dp_Faulty_rows, dp_Order_positions, dp_Network_orders, dp_Ring_orders]
abbrev hk : PySem.W.Hook := DX.hookT 5 fa fn pr exq tl
def ob (s : PySem.W.SharedT) : DX.LookT := DX.lookT fa fn pr exq tl 5 (HandSHeadRun.getT s)
def loose : List PySem.Str := (["_wall", "ProbeError", "InvalidSize", "InvalidNumber", "InvalidTrial", "InvalidPosition", "InvalidCells", "InvalidOutputs", "InvalidStuck", "InvalidRow", "InvalidText", "AbsentError", "NoNode", "NoOutput", "NoPlace", "TooMany", "MOST_BITS", "MOST_CELLS", "is_between", "is_row", "is_sequence", "GENERATE", "KILL", "PASS", "STATES", "has_states", "is_trial", "is_ring_trial", "state_at", "carry_of"] : List PySem.Str) ++ (["is_state", "worth_of", "need_numbers", "need_carry", "bit_at", "states_of", "trial_of", "ring_trial_of", "first_state", "first_ones", "Order", "is_cell", "checked_cells", "checked_outputs", "node_orders", "node_states", "sum_of", "RING", "FAULTY", "OUTPUTS", "DIGITS", "MOST_DIGITS", "number_in", "lines_in", "head_in", "cell_in", "outputs_in", "network_parts", "serial_wiring", "ring_serial_wiring"] : List PySem.Str) ++ (["Network", "checked_stuck", "joined_rows", "node_rows", "Faulty", "Ring", "ends_with_letter", "are_row_positions", "need_row", "chained", "network_with", "_law_pen", "_law_draw", "_law_bits", "_law_is_number", "_law_is_right_row", "_law_odd", "_law_entries", "_law_heard", "_law_right"] : List PySem.Str)
theorem run (w : World) : HandSHeadRun.RunEq R (PySem.W.view R.prog [93]) hk ob 12000 loose w := by
  intro os
  kernel_rfl
end My
end
namespace DX
open PySem PySem.Spec L2

section
variable {K : PySem.W.Frag} {F F' H H' : Hp}
theorem Rps.getV : ∀ {v : List V} {d : List D} {i : Nat} {y : V}, Rps K F v d → v[i]? = some y → ∃ x, d[i]? = some x ∧ Rp K F y x
  | _, _, i, _, .nil, e => by simp at e
  | _, _, 0, _, .cons h _, e => by simp at e; subst e; exact ⟨_, rfl, h⟩
  | _, _, i + 1, x, .cons _ r, e => by
    obtain ⟨y, h1, h2⟩ := Rps.getV (i := i) (y := x) r (by simpa using e)
    exact ⟨y, by simpa using h1, h2⟩
theorem Rps.take : ∀ {v : List V} {d : List D} (i : Nat), Rps K F v d → Rps K F (v.take i) (d.take i)
  | _, _, 0, _ => .nil
  | _, _, _ + 1, .nil => .nil
  | _, _, i + 1, .cons h r => .cons h (Rps.take i r)
theorem Rps.rep {v : List V} {d : List D} (r : Rps K F v d) : ∀ n : Nat, Rps K F (List.replicate n v).flatten (List.replicate n d).flatten
  | 0 => .nil
  | n + 1 => by
    rw [List.replicate_succ, List.replicate_succ, List.flatten_cons, List.flatten_cons]
    exact r.append (Rps.rep r n)
theorem Rps.reverse : ∀ {v : List V} {d : List D}, Rps K F v d → Rps K F v.reverse d.reverse
  | _, _, .nil => .nil
  | _, _, .cons h r => by
    rw [List.reverse_cons, List.reverse_cons]
    exact (Rps.reverse r).append (.cons h .nil)
theorem Rps.ints : ∀ {v : List V} {ns : List Int}, Rps K F v (ns.map D.int) → v = ns.map V.int
  | v, [], h => by cases h; rfl
  | v, n :: ns, h => by
    cases h with
    | cons a r =>
      cases a
      rw [Rps.ints r]; rfl
theorem Rps.ofInts : ∀ {ns : List Int}, Rps K F (ns.map V.int) (ns.map D.int)
  | [] => .nil
  | n :: ns => .cons (.int n) Rps.ofInts
theorem Rps.strs : ∀ {v : List V} {ns : List Str}, Rps K F v (ns.map D.str) → v = ns.map V.str
  | v, [], h => by cases h; rfl
  | v, n :: ns, h => by
    cases h with
    | cons a r =>
      cases a
      rw [Rps.strs r]; rfl
theorem Rps.ofStrs : ∀ {ns : List Str}, Rps K F (ns.map V.str) (ns.map D.str)
  | [] => .nil
  | n :: ns => .cons (.str n) Rps.ofStrs
theorem Rps.bls : ∀ {v : List V} {ns : List Bool}, Rps K F v (ns.map D.bl) → v = ns.map V.bl
  | v, [], h => by cases h; rfl
  | v, n :: ns, h => by
    cases h with
    | cons a r =>
      cases a
      rw [Rps.bls r]; rfl
end

def cuts (ρ : DEnv) : List Nat → DEnv
  | [] => ρ
  | v :: vs => cut (cuts ρ vs) v
section
variable {K : PySem.W.Frag} {F F' H H' : Hp}
theorem En.cuts {σ : St} {ρ : DEnv} (h : En K F σ ρ) : ∀ vs : List Nat, En K F (wipe σ vs) (DX.cuts ρ vs)
  | [] => h
  | v :: vs => En.cut v (En.cuts h vs)
def startD (n : Nat) (ds : List D) : DEnv := ds.map some ++ List.replicate n none
theorem En.rep : ∀ n : Nat, En K F (List.replicate n none) (List.replicate n none)
  | 0 => .nil
  | n + 1 => .cons (fun x q => by cases q) (En.rep n)
theorem En.start : ∀ {vs : List V} {ds : List D} (n : Nat), Rps K F vs ds → En K F (vs.map some ++ List.replicate n none) (startD n ds)
  | _, _, n, .nil => En.rep n
  | _, _, n, .cons h r => .cons (fun x q => ⟨_, rfl, by cases q; exact h⟩) (En.start n r)
end

theorem up_up {M : Mem} {a : Addr} {d e : D} : up (up M a d) a e = up M a e := by
  funext b; unfold up; split <;> rfl
theorem up_comm {M : Mem} {a b : Addr} {d e : D} (h : a ≠ b) : up (up M a d) b e = up (up M b e) a d := by
  funext c; unfold up
  by_cases h1 : c = a
  · subst h1
    rw [if_neg h]; simp
  · simp [h1]
theorem rm_up {M : Mem} {a : Addr} {d : D} (h : M a = none) : rm (up M a d) a = M := by
  funext c; unfold rm up
  by_cases h1 : c = a
  · subst h1; rw [if_pos rfl, h]
  · rw [if_neg h1, if_neg h1]
section
variable {K : PySem.W.Frag} {F F' H H' : Hp} {M : Mem}
theorem Ok.nn (k : Ok K F M H) {a : Addr} (h : H a = none) : F a = none ∧ M a = none := by
  refine ⟨k.ex.free h, ?_⟩
  cases q : M a with
  | none => rfl
  | some d =>
    obtain ⟨o, e⟩ := (k.mt a d q).2.there
    rw [h] at e; cases e
/-- a new object that is never to change -/
theorem Ok.fix (k : Ok K F M H) {a : Addr} {o : HO} (h : H a = none) : Ok K (upd F a o) M (upd H a o) := by
  obtain ⟨h1, h2⟩ := k.nn h
  refine ⟨fun b u e => ?_, fun b d e => ?_⟩
  · by_cases hb : b = a
    · subst hb; rw [upd_same] at e ⊢; exact e
    · rw [upd_ne hb] at e ⊢; exact k.ex b u e
  · have hb : b ≠ a := fun z => by subst z; rw [h2] at e; cases e
    obtain ⟨m1, m2⟩ := k.mt b d e
    exact ⟨by rw [upd_ne hb]; exact m1, m2.mono (same_new h1) (upd_ne hb)⟩
theorem Ok.fixSame (k : Ok K F M H) {a : Addr} {o : HO} (h : H a = Option.none) : Same F (upd F a o) := same_new (k.nn h).1
/-- a new object that may change -/
theorem Ok.lay (k : Ok K F M H) {a : Addr} {o : HO} {d : D} (h : H a = Option.none) (m : Mt K F (upd H a o) a d) : Ok K F (up M a d) (upd H a o) := by
  obtain ⟨h1, h2⟩ := k.nn h
  refine ⟨fun b u e => ?_, fun b d' e => ?_⟩
  · rw [upd_ne (ne_of_none e h1)]
    exact k.ex b u e
  · by_cases hb : b = a
    · subst hb
      rw [up_same] at e; cases e
      exact ⟨h1, m⟩
    · rw [up_ne hb] at e
      obtain ⟨m1, m2⟩ := k.mt b d' e
      exact ⟨m1, m2.mono (Same.refl F) (upd_ne hb)⟩
end

def Gh.triv : Gh := ⟨fun _ => True, fun _ _ _ h => h⟩
section
variable {X : Cx} {J : Gh} {e : Expr} {es : List Expr} {ρ : DEnv} {M M' : Mem} {F F' H H' : Hp} {σ : St} {P : D → Mem → Prop} {K : PySem.W.Frag}
theorem pe_any : PE X e (tE X e) := ⟨fun pins s σ H Q I ⟨t, h, q⟩ => h.run pins s σ H Q I q⟩
theorem pt_any : PT X e (tTe X e) := ⟨fun pins s σ H Q I ⟨t, h, q⟩ => h.run pins s σ H Q I q⟩
theorem pw_any : PW X e (tWe X e) := ⟨fun wh pins s σ H Q I ⟨t, h, q⟩ => h.run wh pins s σ H Q I q⟩
theorem pa_any : PA X es (tAe X es) := ⟨fun pos pins s σ H Q I ⟨t, h, q⟩ => h.run pos pins s σ H Q I q⟩
theorem wx_of {t : TT} {P : Bool → Mem → Prop} (h : PW X e t) (k : ∀ F σ H Q, Sts X.K J F σ H ρ M → Kb X.K F P Q → t σ H Q) : WX X J e ρ M P := ⟨fun wh pins s σ H Q I ⟨F, st, q⟩ => h.run wh pins s σ H Q I (k F σ H Q st q)⟩
end
end DX
namespace DX
open PySem PySem.Spec L2

section
variable {X : Cx} {J : Gh} {e a b c : Expr} {es : List Expr} {ρ : DEnv} {M M' : Mem} {F F' H H' : Hp} {σ : St} {P : D → Mem → Prop} {PB : Bool → Mem → Prop} {PA' : List D → Mem → Prop} {K : PySem.W.Frag} {pos : Pos} {x : Str}

theorem ex_var {d : D} (i : Nat) (h : look ρ i = some d) (p : P d M) (hN : X.N[i]? = some x := by rfl) (hv : Vis X.env.scope x := by first | exact Or.inl rfl | exact Or.inr (Or.inl rfl) | exact Or.inr (Or.inr rfl)) (hd : (x == ("__debug__" : Str)) = false := by decide)
    (hcd : (x == ("__classdict__" : Str)) = false := by decide) : EX X J (.Name x pos) ρ M P :=
  ex_of (pe_var hN hv hd hcd) fun F σ H Q st k => by
    obtain ⟨v, h1, h2⟩ := st.en.look h
    exact ⟨v, h1, k.here p st.ok h2⟩
theorem ex_int {i : Int} {j} (p : P (.int i) M) : EX X J (.Constant (.int i) j pos) ρ M P := ex_of pe_int fun F σ H Q st k => k.here p st.ok (.int i)
theorem ex_bl {i : Bool} {j} (p : P (.bl i) M) : EX X J (.Constant (.bool i) j pos) ρ M P := ex_of pe_bl fun F σ H Q st k => k.here p st.ok (.bl i)
theorem ex_non {j} (p : P .non M) : EX X J (.Constant .none j pos) ρ M P := ex_of pe_non fun F σ H Q st k => k.here p st.ok .non
theorem ex_str {i : Str} {j} (p : P (.str i) M) : EX X J (.Constant (.str i) j pos) ρ M P := ex_of pe_str fun F σ H Q st k => k.here p st.ok (.str i)
/-- a module's constant -/
theorem ex_glob {v : V} {u : Value} {d : D} (hg : Gl X x) (hm : X.mg x = some u) (r : RelV v u) (hr : ∀ F, Rp X.K F v d) (p : P d M) (hd : (x == ("__debug__" : Str)) = false := by decide) : EX X J (.Name x pos) ρ M P :=
  ex_of (pe_glob hg hm r hd) fun F σ H Q st k => k.here p st.ok (hr F)

theorem ax_nil (p : PA' [] M) : AX X J [] ρ M PA' := ax_of pa_nil fun F σ H Q st k => k [] [] M F H p (Same.refl F) st.ok .nil
theorem ax_cons (h : EX X J e ρ M fun d M1 => AX X J es ρ M1 fun ds M2 => PA' (d :: ds) M2) (hs : starEach (e :: es) X.env = (false, eval e X.env) :: starEach es X.env := by rfl) : AX X J (e :: es) ρ M PA' :=
  ax_of (pa_cons pe_any pa_any hs) fun F σ H Q st k => h.go st fun d v M1 F1 H1 p e1 o1 r1 => AX.go p (st.to e1 o1) fun ds vs M2 F2 H2 p2 e2 o2 r2 => k _ _ M2 F2 H2 p2 (e1.trans e2) o2 (.cons (r1.mono e2) r2)

theorem op_any {f : Value → Value → Sem Value} : OpR X f (rAnyO X f) := fun pins s σ H x y v u Q I rx ry ⟨r, h, q⟩ => h pins s σ H x y v u Q I rx ry q
theorem ex_bin {op : Operator} (h : EX X J a ρ M fun x M1 => EX X J b ρ M1 fun y M2 => OD X (binaryOp op) x y M2 P) : EX X J (.BinOp a op b pos) ρ M P :=
  ex_of (pe_op op_any pe_any pe_any) fun F σ H Q st k => h.go st fun d v M1 F1 H1 p e1 o1 r1 => EX.go p (st.to e1 o1) fun d2 v2 M2 F2 H2 p2 e2 o2 r2 => p2.go o2 (r1.mono e2) r2 (k.to (e1.trans e2))
/-- a comparison as a value; as a test -/
theorem ex_cmp {op : CmpOp} (h : EX X J a ρ M fun x M1 => EX X J b ρ M1 fun y M2 => OD X (compareOp op) x y M2 P) (hm : behindInMarks op b = false := by rfl) : EX X J (.Compare a [op] [b] pos) ρ M P :=
  ex_of (pe_cmpR op_any pe_any pe_any hm) fun F σ H Q st k => h.go st fun d v M1 F1 H1 p e1 o1 r1 => EX.go p (st.to e1 o1) fun d2 v2 M2 F2 H2 p2 e2 o2 r2 => p2.go o2 (r1.mono e2) r2 (k.to (e1.trans e2))
def PBl (PB : Bool → Mem → Prop) : D → Mem → Prop := fun d M => ∃ c, d = .bl c ∧ PB c M
theorem kt_bl {Q : Bool → Hp → Prop} (k : Kb K F PB Q) : Kt K F (PBl PB) (fun x H' => ∃ k, x = .bl k ∧ Q k H') := fun d v M' F' H' p e o r => by
  obtain ⟨c, rfl, p⟩ := p
  cases r
  exact ⟨c, rfl, k c M' F' H' p e o⟩
theorem tx_cmp {op : CmpOp} (h : EX X J a ρ M fun x M1 => EX X J b ρ M1 fun y M2 => OD X (compareOp op) x y M2 (PBl PB)) (hm : behindInMarks op b = false := by rfl) : TX X J (.Compare a [op] [b] pos) ρ M PB :=
  tx_of (pt_cmpR op_any pe_any pe_any hm) fun F σ H Q st k => h.go st fun d v M1 F1 H1 p e1 o1 r1 => EX.go p (st.to e1 o1) fun d2 v2 M2 F2 H2 p2 e2 o2 r2 => p2.go o2 (r1.mono e2) r2 ((kt_bl k).to (e1.trans e2))
/-- a op b op' c -/
theorem ex_chain {op op' : CmpOp} (h : EX X J a ρ M fun x M1 => EX X J b ρ M1 fun y M2 => OD X (compareOp op) x y M2 (PBl fun t M3 => (t = true → EX X J c ρ M3 fun z M4 => OD X (compareOp op') y z M4 P) ∧ (t = false → P (.bl false) M3)))
    (h1 : lastMarks [op, op'] [b, c] = false := by with_unfolding_all rfl) : EX X J (.Compare a [op, op'] [b, c] pos) ρ M P :=
  ex_of (pe_chain op_any op_any pe_any pe_any pe_any h1) fun F σ H Q st k => h.go st fun d v M1 F1 H1 p e1 o1 r1 => EX.go p (st.to e1 o1) fun d2 v2 M2 F2 H2 p2 e2 o2 r2 => p2.go o2 (r1.mono e2) r2 fun d3 v3 M3 F3 H3 p3 e3 o3 r3 => by
    obtain ⟨t, rfl, p4, p5⟩ := p3
    cases r3
    refine ⟨t, rfl, ?_⟩
    cases t with
    | true => exact iteT ((p4 rfl).go (st.to ((e1.trans e2).trans e3) o3) fun d4 v4 M4 F4 H4 p6 e4 o4 r4 => OD.go p6 o4 ((r2.mono e3).mono e4) r4 (k.to (((e1.trans e2).trans e3).trans e4)))
    | false => exact iteF (k _ _ _ _ _ (p5 rfl) ((e1.trans e2).trans e3) o3 (.bl false))
theorem od_int {f : Value → Value → Sem Value} {C : Int → Int → Prop} {g : Int → Int → V} {g' : Int → Int → D} (h : OpR X f (rI C g)) {i j : Int} (hc : C i j) (hr : ∀ F, Rp X.K F (g i j) (g' i j)) (p : P (g' i j) M) : OD X f (.int i) (.int j) M P :=
  ⟨_, h, fun F H v u Q o rx ry k => by
    cases rx; cases ry
    exact ⟨i, j, rfl, rfl, hc, k.here p o (hr F)⟩⟩
theorem od_int0 {f : Value → Value → Sem Value} {g : Int → Int → V} {g' : Int → Int → D} (h : OpR X f (rI0 g)) {i j : Int} (hr : ∀ F, Rp X.K F (g i j) (g' i j)) (p : P (g' i j) M) : OD X f (.int i) (.int j) M P :=
  ⟨_, h, fun F H v u Q o rx ry k => by
    cases rx; cases ry
    exact ⟨i, j, rfl, rfl, k.here p o (hr F)⟩⟩
variable {i j : Int}
theorem od_add (p : P (.int (i + j)) M) : OD X (binaryOp .Add) (.int i) (.int j) M P := od_int0 (g' := fun i j => .int (i + j)) op_add (fun F => .int _) p
theorem od_sub (p : P (.int (i - j)) M) : OD X (binaryOp .Sub) (.int i) (.int j) M P := od_int0 (g' := fun i j => .int (i - j)) op_sub (fun F => .int _) p
theorem od_mul (hc : CMul i j) (p : P (.int (i * j)) M) : OD X (binaryOp .Mult) (.int i) (.int j) M P := od_int (g' := fun i j => .int (i * j)) op_mul hc (fun F => .int _) p
theorem od_fdiv (hc : CDiv i j) (p : P (.int (i / j)) M) : OD X (binaryOp .FloorDiv) (.int i) (.int j) M P := od_int (g' := fun i j => .int (i / j)) op_fdiv hc (fun F => .int _) p
theorem od_mod (hc : 0 < j) (p : P (.int (i % j)) M) : OD X (binaryOp .Mod) (.int i) (.int j) M P := od_int (g' := fun i j => .int (i % j)) op_mod hc (fun F => .int _) p
theorem od_pow (hc : CPow i j) (p : P (.int (i ^ j.toNat)) M) : OD X (binaryOp .Pow) (.int i) (.int j) M P := od_int (g' := fun i j => .int (i ^ j.toNat)) op_pow hc (fun F => .int _) p
theorem od_lt (p : P (.bl (decide (i < j))) M) : OD X (compareOp .Lt) (.int i) (.int j) M P := od_int0 (g' := fun i j => .bl (decide (i < j))) op_lt (fun F => .bl _) p
theorem od_le (p : P (.bl (decide (i ≤ j))) M) : OD X (compareOp .LtE) (.int i) (.int j) M P := od_int0 (g' := fun i j => .bl (decide (i ≤ j))) op_le (fun F => .bl _) p
theorem od_gt (p : P (.bl (decide (j < i))) M) : OD X (compareOp .Gt) (.int i) (.int j) M P := od_int0 (g' := fun i j => .bl (decide (j < i))) op_gt (fun F => .bl _) p
theorem od_ge (p : P (.bl (decide (j ≤ i))) M) : OD X (compareOp .GtE) (.int i) (.int j) M P := od_int0 (g' := fun i j => .bl (decide (j ≤ i))) op_ge (fun F => .bl _) p
/-- scalars: == and != -/
def sc : D → D → Bool
  | .non, .non => true
  | .non, .int _ => true
  | .int _, .non => true
  | .non, .bl _ => true
  | .bl _, .non => true
  | .non, .str _ => true
  | .str _, .non => true
  | .int _, .int _ => true
  | .bl _, .bl _ => true
  | .str _, .str _ => true
  | .int _, .str _ => true
  | .str _, .int _ => true
  | .bl _, .str _ => true
  | .str _, .bl _ => true
  | _, _ => false
def sceq : D → D → Bool
  | .non, .non => true
  | .int i, .int j => decide (i = j)
  | .bl i, .bl j => decide (i = j)
  | .str i, .str j => decide (i = j)
  | _, _ => false
theorem sc_ok {x y : D} {v u : V} (h : sc x y = true) (rx : Rp K F v x) (ry : Rp K F u y) : scal v u = true ∧ decide (v = u) = sceq x y := by
  cases rx <;> cases ry <;> first
    | exact absurd h Bool.false_ne_true
    | exact ⟨rfl, by simp [sceq]⟩
theorem od_eq {x y : D} (h : sc x y = true) (p : P (.bl (sceq x y)) M) : OD X (compareOp .Eq) x y M P :=
  ⟨_, op_eq, fun F H v u Q o rx ry k => by
    obtain ⟨h1, h2⟩ := sc_ok h rx ry
    exact ⟨h1, by rw [h2]; exact k.here p o (.bl _)⟩⟩
theorem od_ne {x y : D} (h : sc x y = true) (p : P (.bl (!sceq x y)) M) : OD X (compareOp .NotEq) x y M P :=
  ⟨_, op_ne, fun F H v u Q o rx ry k => by
    obtain ⟨h1, h2⟩ := sc_ok h rx ry
    exact ⟨h1, by rw [h2]; exact k.here p o (.bl _)⟩⟩
theorem tx_pw (h : WX X J e ρ M PB) : TX X J e ρ M PB := PW.pt h
theorem wx_and1 (h : TX X J a ρ M PB) : WX X J (.BoolOp .And [a] pos) ρ M PB := pw_and1 h
theorem wx_or1 (h : TX X J a ρ M PB) : WX X J (.BoolOp .Or [a] pos) ρ M PB := pw_or1 h
theorem wx_and {rest : List Expr} (h : TX X J a ρ M fun t M1 => (t = true → WX X J (.BoolOp .And (b :: rest) pos) ρ M1 PB) ∧ (t = false → PB false M1)) : WX X J (.BoolOp .And (a :: b :: rest) pos) ρ M PB :=
  wx_of (pw_and pt_any pw_any) fun F σ H Q st k => h.go st fun t M1 F1 H1 p e1 o1 => by
    cases t with
    | true => exact iteT ((p.1 rfl).go (st.to e1 o1) (k.to e1))
    | false => exact iteF (k _ _ _ _ (p.2 rfl) e1 o1)
theorem wx_or {rest : List Expr} (h : TX X J a ρ M fun t M1 => (t = false → WX X J (.BoolOp .Or (b :: rest) pos) ρ M1 PB) ∧ (t = true → PB true M1)) : WX X J (.BoolOp .Or (a :: b :: rest) pos) ρ M PB :=
  wx_of (pw_or pt_any pw_any) fun F σ H Q st k => h.go st fun t M1 F1 H1 p e1 o1 => by
    cases t with
    | false => exact iteF ((p.1 rfl).go (st.to e1 o1) (k.to e1))
    | true => exact iteT (k _ _ _ _ (p.2 rfl) e1 o1)
theorem tx_not (h : TX X J a ρ M fun t M1 => PB (!t) M1) : TX X J (.UnaryOp .Not a pos) ρ M PB :=
  tx_of (pt_not pt_any) fun F σ H Q st k => h.go st fun t M1 F1 H1 p e1 o1 => k _ _ _ _ p e1 o1
/-- as values, bools -/
theorem ex_one {op} (h : EX X J a ρ M P) : EX X J (.BoolOp op [a] pos) ρ M P := pe_one h
theorem ex_if (h : TX X J c ρ M fun t M1 => (t = true → EX X J a ρ M1 P) ∧ (t = false → EX X J b ρ M1 P)) : EX X J (.IfExp c a b pos) ρ M P :=
  ex_of (pe_ifExp pt_any pe_any pe_any) fun F σ H Q st k => h.go st fun t M1 F1 H1 p e1 o1 => by
    cases t with
    | true => exact iteT ((p.1 rfl).go (st.to e1 o1) (k.to e1))
    | false => exact iteF ((p.2 rfl).go (st.to e1 o1) (k.to e1))

/-- a new tuple, a new list that is not to change -/
theorem ex_tup {x1} (h : AX X J es ρ M fun ds M1 => ds.length ≤ 1000000 ∧ P (.tup ds) M1) : EX X J (.Tuple es x1 pos) ρ M P :=
  ex_of (pe_tup pa_any) fun F σ H Q st k => h.go st fun ds vs M1 F1 H1 p e1 o1 r1 => ⟨by rw [r1.length, sizeLine_eq]; omega, fun q hq =>
    k _ _ _ _ _ p.2 (e1.trans (o1.fixSame hq)) (o1.fix hq) (.tup (SqT.of upd_same) (r1.mono (o1.fixSame hq)))⟩
theorem ex_lst (h : AX X J es ρ M fun ds M1 => ds.length ≤ 1000000 ∧ P (.lst ds) M1) : EX X J (.List es pos) ρ M P :=
  ex_of (pe_lst pa_any) fun F σ H Q st k => h.go st fun ds vs M1 F1 H1 p e1 o1 r1 => ⟨by rw [r1.length, sizeLine_eq]; omega, fun q hq =>
    k _ _ _ _ _ p.2 (e1.trans (o1.fixSame hq)) (o1.fix hq) (.lst upd_same (r1.mono (o1.fixSame hq)))⟩
/-- a new list that may change -/
theorem ex_lstM (h : AX X J es ρ M fun ds M1 => ds.length ≤ 1000000 ∧ ∀ p, M1 p = none → P (.adr p) (up M1 p (.lst ds))) : EX X J (.List es pos) ρ M P :=
  ex_of (pe_lst pa_any) fun F σ H Q st k => h.go st fun ds vs M1 F1 H1 p e1 o1 r1 => ⟨by rw [r1.length, sizeLine_eq]; omega, fun q hq =>
    k _ _ _ _ _ (p.2 q (o1.nn hq).2) e1 (o1.lay hq ⟨vs, upd_same, r1⟩) (.adr q)⟩
/-- x[i] -/
def rAnyI (X : Cx) : R2 := fun v u H Q => ∃ r, IxR X r ∧ r v u H Q
theorem ix_any : IxR X (rAnyI X) := fun value slice pins s σ H x y v u Q I rx ry ⟨r, h, q⟩ hs => h value slice pins s σ H x y v u Q I rx ry q hs
def ID (X : Cx) (x y : D) (M : Mem) (P : D → Mem → Prop) : Prop :=
  ∃ r, IxR X r ∧ ∀ F H v u Q, Ok X.K F M H → Rp X.K F v x → Rp X.K F u y → Kt X.K F P Q → r v u H Q
theorem ex_ix (h : EX X J a ρ M fun x M1 => EX X J b ρ M1 fun y M2 => ID X x y M2 P) (hs : PlainIx b := by intro _ _; rfl) : EX X J (.Subscript a b pos) ρ M P :=
  ex_of (pe_ix ix_any pe_any pe_any hs) fun F σ H Q st k => h.go st fun d v M1 F1 H1 p e1 o1 r1 => EX.go p (st.to e1 o1) fun d2 v2 M2 F2 H2 p2 e2 o2 r2 => by
    obtain ⟨r, h1, h2⟩ := p2
    exact ⟨r, h1, h2 F2 H2 v v2 Q o2 (r1.mono e2) r2 (k.to (e1.trans e2))⟩
theorem atI_of {ds : List D} {xs : List V} {i : Int} {d : D} (r : Rps K F xs ds) (h : atI ds i = some d) : ∃ v, atI xs i = some v ∧ Rp K F v d := by
  unfold atI at h ⊢
  rw [r.length]
  cases e : ixN ds.length i with
  | none => rw [e] at h; cases h
  | some j =>
    rw [e] at h
    obtain ⟨v, h1, h2⟩ := r.get (show ds[j]? = some d from h)
    exact ⟨v, h1, h2⟩
theorem id_seq {x d : D} {ds : List D} (s : Sq M x ds) (h : atI ds i = some d) (p : P d M) : ID X x (.int i) M P :=
  ⟨_, ix_list.or ix_tup, fun F H v u Q o rx ry k => by
    cases ry
    obtain ⟨q, xs, rfl, hs, r⟩ := s.get o rx
    obtain ⟨w, h1, h2⟩ := atI_of r h
    rcases hs with hs | hs
    · exact .inl ⟨q, xs, i, w, rfl, rfl, hs, h1, k.here p o h2⟩
    · exact .inr ⟨q, xs, i, w, rfl, rfl, hs, h1, k.here p o h2⟩⟩
theorem id_str {z : Str} {n : Nat} (hz : z.length ≤ 1000000) (h : atI z.cps.toList i = some n) (p : P (.str ⟨#[n]⟩) M) : ID X (.str z) (.int i) M P :=
  ⟨_, ix_str, fun F H v u Q o rx ry k => by
    cases rx; cases ry
    exact ⟨z, i, n, rfl, rfl, by rw [sizeLine_eq]; omega, h, k.here p o (.str _)⟩⟩
/-- x + y of texts, lists, tuples; x * n -/
theorem od_addS {x y : Str} (hz : x.length + y.length ≤ 1000000) (p : P (.str (x ++ y)) M) : OD X (binaryOp .Add) (.str x) (.str y) M P :=
  ⟨_, op_add_str, fun F H v u Q o rx ry k => by
    cases rx; cases ry
    exact ⟨x, y, rfl, rfl, by rw [sizeLine_eq]; omega, k.here p o (.str _)⟩⟩
theorem od_addL {x y : D} {ds es : List D} (sx : Sl M x ds) (sy : Sl M y es) (hz : ds.length + es.length ≤ 1000000) (p : P (.lst (ds ++ es)) M) : OD X (binaryOp .Add) x y M P :=
  ⟨_, op_cat, fun F H v u Q o rx ry k => by
    obtain ⟨a, xs, rfl, h1, r1⟩ := sx.get o rx
    obtain ⟨b, ys, rfl, h2, r2⟩ := sy.get o ry
    exact ⟨a, b, xs, ys, rfl, rfl, h1, h2, by rw [r1.length, r2.length, sizeLine_eq]; omega, fun q hq => k _ _ _ _ _ p (o.fixSame hq) (o.fix hq) (.lst upd_same ((r1.append r2).mono (o.fixSame hq)))⟩⟩
theorem od_addT {ds es : List D} (hz : ds.length + es.length ≤ 1000000) (p : P (.tup (ds ++ es)) M) : OD X (binaryOp .Add) (.tup ds) (.tup es) M P :=
  ⟨_, op_catA, fun F H v u Q o rx ry k => by
    cases rx with
    | @tup a xs _ h1 r1 =>
    cases ry with
    | @tup b ys _ h2 r2 =>
      have g1 := same_t o.ex h1
      have g2 := same_t o.ex h2
      refine ⟨a, b, xs, ys, rfl, rfl, g1, g2, by rw [r1.length, r2.length, sizeLine_eq]; omega, fun e => ?_, fun _ e => ?_, fun _ _ q hq => ?_⟩
      · subst e
        have : ds = [] := by cases r1; rfl
        subst this
        exact k.here p o (.tup h2 (by simpa using r2))
      · subst e
        have : es = [] := by cases r2; rfl
        subst this
        exact k.here p o (.tup h1 (by simpa using r1))
      · exact k _ _ _ _ _ p (o.fixSame hq) (o.fix hq) (.tup (SqT.of upd_same) ((r1.append r2).mono (o.fixSame hq)))⟩
theorem od_mulL {x : D} {ds : List D} {n : Int} (sx : Sl M x ds) (h0 : -(2 ^ 62) ≤ n ∧ n < 2 ^ 62) (hz : ds.length * n.toNat ≤ 1000000) (p : P (.lst (List.replicate n.toNat ds).flatten) M) : OD X (binaryOp .Mult) x (.int n) M P :=
  ⟨_, op_rep, fun F H v u Q o rx ry k => by
    cases ry
    obtain ⟨a, xs, rfl, h1, r1⟩ := sx.get o rx
    exact ⟨a, n, xs, rfl, rfl, h1, by omega, by omega, by rw [r1.length, sizeLine_eq]; omega, fun q hq => k _ _ _ _ _ p (o.fixSame hq) (o.fix hq) (.lst upd_same ((r1.rep _).mono (o.fixSame hq)))⟩⟩
/-- slices of lists, tuples, texts -/
def tOe (X : Cx) (e : Option Expr) : TO := fun σ H Q => ∃ t, PO X e t ∧ t σ H Q
theorem po_any {eo : Option Expr} : PO X eo (tOe X eo) := ⟨fun pins s σ H Q I ⟨t, h, q⟩ => h.run pins s σ H Q I q⟩
def Ko (K : PySem.W.Frag) (F : Hp) (P : Option Int → Mem → Prop) (Q : Option Int → Hp → Prop) : Prop := ∀ b M' F' H', P b M' → Same F F' → Ok K F' M' H' → Q b H'
def OX (X : Cx) (J : Gh) (eo : Option Expr) (ρ : DEnv) (M : Mem) (P : Option Int → Mem → Prop) : Prop := ∀ F σ H Q, Sts X.K J F σ H ρ M → Ko X.K F P Q → tOe X eo σ H Q
theorem ox_none {PO' : Option Int → Mem → Prop} (p : PO' none M) : OX X J none ρ M PO' := fun F σ H Q st k => ⟨_, po_none, k _ _ _ _ p (Same.refl F) st.ok⟩
def rAnyS (X : Cx) : V → Option Int → Option Int → Hp → VK → Prop := fun v l h H Q => ∃ r, SlR X r ∧ r v l h H Q
theorem sl_any : SlR X (rAnyS X) := fun pins s σ H x v vl vu lo hi sl Q I rx hs pl pu ⟨r, h1, h2⟩ => h1 pins s σ H x v vl vu lo hi sl Q I rx hs pl pu h2
def SD (X : Cx) (x : D) (l h : Option Int) (M : Mem) (P : D → Mem → Prop) : Prop :=
  ∃ r, SlR X r ∧ ∀ F H v Q, Ok X.K F M H → Rp X.K F v x → Kt X.K F P Q → r v l h H Q
theorem ex_slice {lo hi : Option Expr} {p2 : Pos} (h : EX X J e ρ M fun x M1 => OX X J lo ρ M1 fun l M2 => OX X J hi ρ M2 fun u M3 => SD X x l u M3 P) : EX X J (.Subscript e (.Slice lo hi none p2) pos) ρ M P :=
  ex_of (pe_slice sl_any pe_any po_any po_any) fun F σ H Q st k => h.go st fun d v M1 F1 H1 p e1 o1 r1 => p F1 σ H1 _ (st.to e1 o1) fun l M2 F2 H2 p2 e2 o2 => p2 F2 σ H2 _ (st.to (e1.trans e2) o2) fun u M3 F3 H3 p3 e3 o3 => by
    obtain ⟨r, h1, h2⟩ := p3
    exact ⟨r, h1, h2 F3 H3 v Q o3 ((r1.mono e2).mono e3) (k.to ((e1.trans e2).trans e3))⟩
def cutD (ds : List D) (lo hi : Option Int) : List D := (ds.drop (HT.sIx ds.length 0 lo)).take (HT.sIx ds.length ds.length hi - HT.sIx ds.length 0 lo)
theorem cut_of {ds : List D} {xs : List V} (r : Rps K F xs ds) (lo hi : Option Int) : Rps K F (cutV xs lo hi) (cutD ds lo hi) := by
  unfold cutV cutD
  rw [r.length]
  exact (r.drop _).take _
theorem sd_list {x : D} {ds : List D} {l u : Option Int} (s : Sl M x ds) (p : P (.lst (cutD ds l u)) M) : SD X x l u M P :=
  ⟨_, sl_list, fun F H v Q o rx k => by
    obtain ⟨a, xs, rfl, h1, r1⟩ := s.get o rx
    exact ⟨a, xs, rfl, SqL.of h1, fun q hq => k _ _ _ _ _ p (o.fixSame hq) (o.fix hq) (.lst upd_same ((cut_of r1 l u).mono (o.fixSame hq)))⟩⟩
end
end DX
namespace DX
open PySem PySem.Spec L2

section
variable {X : Cx} {J : Gh} {e a b c : Expr} {es : List Expr} {st : Stmt} {rest sts : List Stmt} {ρ ρ' : DEnv} {M M' : Mem} {F F' H H' : Hp} {σ : St} {B : Bd} {K : PySem.W.Frag} {pos p : Pos} {x : Str} {E : Ends}
theorem pss_any : PSs X sts (tSe X sts) := ⟨fun pins s σ H D I ⟨t, h, q⟩ => h.run pins s σ H D I q⟩
theorem ps_any : PS X st (tS1 X st) := ⟨fun pins s σ H D I ⟨t, h, q⟩ => h.run pins s σ H D I q⟩
theorem g1_of {t : TS} (h : PS X st t) (k : ∀ F σ H E, Sts X.K J F σ H ρ M → Kd X.K F B E → t E σ H) : G1 X J st ρ M B := ⟨fun pins s σ H D I ⟨F, st, q⟩ => h.run pins s σ H D I (k F σ H D st q)⟩
/-- the ends with another way on -/
def Bd.thn (B : Bd) (nx : DEnv → Mem → Prop) : Bd := { B with nx := nx }
theorem gx_nil (h : B.nx ρ M) : GX X J [] ρ M B := gx_of pss_nil fun F σ H E st k => k.nx F σ H ρ M h (Same.refl F) st.en st.ok
/-- a statement, then the rest -/
theorem gx_cons (h : G1 X J st ρ M (B.thn fun ρ' M' => GX X J rest ρ' M' B)) (hJ : ∀ F, J.p F → ∀ F', Same F F' → J.p F') : GX X J (st :: rest) ρ M B :=
  gx_of (pss_cons ps_any pss_any) fun F σ H E s k => h.go s
    ⟨fun F' σ' H' ρ' M' q e en o => GX.go q ⟨en, o, J.mono _ _ e s.gh⟩ (k.to e), k.rt, k.bk, k.ct⟩
theorem gx_seq (h : G1 X J st ρ M (B.thn fun ρ' M' => GX X J rest ρ' M' B)) : GX X J (st :: rest) ρ M B := gx_cons h fun F q F' e => J.mono F F' e q
/-- at d, into the names ρ: then P of the names -/
def AsD (X : Cx) (target : Expr) (d : D) (ρ : DEnv) (P : DEnv → Prop) : Prop :=
  ∃ g, PG X target g ∧ ∀ F M v σ H Q, Ok X.K F M H → Rp X.K F v d → En X.K F σ ρ → (∀ σ' ρ', P ρ' → En X.K F σ' ρ' → Q σ' H) → g v σ H Q
def AsDs (X : Cx) (ts : List Expr) (ds : List D) (ρ : DEnv) (P : DEnv → Prop) : Prop :=
  ∃ g, PGs X ts g ∧ ∀ F M vs σ H Q, Ok X.K F M H → Rps X.K F vs ds → En X.K F σ ρ → (∀ σ' ρ', P ρ' → En X.K F σ' ρ' → Q σ' H) → g vs σ H Q
def gE (X : Cx) (target : Expr) : TG := fun v σ H Q => ∃ g, PG X target g ∧ g v σ H Q
theorem pg_any {target : Expr} : PG X target (gE X target) := ⟨fun pins s σ H v u Q I r ⟨g, h, q⟩ => h.run pins s σ H v u Q I r q⟩
theorem as_name {d : D} {P : DEnv → Prop} (i : Nat) (h : P (put ρ i d)) (hN : X.N.Nodup := by rfl) (hi : X.N[i]? = some x := by rfl) (hx : Loc X.env.scope x := by first | exact Or.inl rfl | exact Or.inr rfl) (hf : X.fn x = true ∨ X.env.scope.names.lookup x = some .local := by first | exact .inl rfl | exact .inr rfl) : AsD X (.Name x pos) d ρ P :=
  ⟨_, pg_name hN hi hx hf, fun F M v σ H Q o r en k => k _ _ h (en.put i r)⟩
theorem as_tup {ds : List D} {k : Nat} {P : DEnv → Prop} (hc : X.calm = true) (hl : (assignEach es X.env).length = ds.length) (h : AsDs X es ds ρ P) (hst : (assignEach es X.env).findIdx? (·.1) = none := by rfl) : AsD X (.Tuple es k pos) (.tup ds) ρ P := by
  obtain ⟨g, hg, h⟩ := h
  refine ⟨_, pg_tup hc hg hl hst, fun F M v σ H Q o r en k => ?_⟩
  cases r with
  | tup h1 r1 => exact ⟨_, _, rfl, same_t o.ex h1, r1.length, h F M _ σ H Q o r1 en k⟩
theorem asd_go {target : Expr} {d : D} {P : DEnv → Prop} (h : AsD X target d ρ P) {v : V} {Q : St → Hp → Prop} (o : Ok X.K F M H) (r : Rp X.K F v d) (en : En X.K F σ ρ) (k : ∀ σ' ρ', P ρ' → En X.K F σ' ρ' → Q σ' H) : gE X target v σ H Q := by
  obtain ⟨g, hg, h⟩ := h
  exact ⟨g, hg, h F M v σ H Q o r en k⟩
theorem asd_nil {P : DEnv → Prop} (h : P ρ) : AsDs X [] [] ρ P := ⟨_, pgs_nil, fun F M vs σ H Q o r en k => by cases r; exact ⟨rfl, k _ _ h en⟩⟩
theorem asd_cons {t : Expr} {ts : List Expr} {d : D} {ds : List D} {P : DEnv → Prop} (h : AsD X t d ρ fun ρ' => AsDs X ts ds ρ' P)
    (hs : (assignEach (t :: ts) X.env).map (·.2) = assign t X.env :: (assignEach ts X.env).map (·.2) := by rfl) : AsDs X (t :: ts) (d :: ds) ρ P :=
  ⟨_, pgs_cons pg_any (⟨fun pins s σ H vs us Q I r ⟨g, h, q⟩ => h.run pins s σ H vs us Q I r q⟩ : PGs X ts (fun vs σ H Q => ∃ g, PGs X ts g ∧ g vs σ H Q)) hs, fun F M vs σ H Q o r en k => by
    cases r with
    | cons h1 r1 => exact ⟨_, _, rfl, asd_go h o h1 en fun σ' ρ' q en' => by
        obtain ⟨g, hg, q⟩ := q
        exact ⟨g, hg, q F M _ σ' H Q o r1 en' k⟩⟩⟩

theorem g1_asg {tg : Expr} (h : EX X J e ρ M fun d M1 => AsD X tg d ρ fun ρ' => B.nx ρ' M1) (hs : swapsWithSole [tg] e pos.line X.env = pure false := by rfl) (hw : swappedStores [tg] e X.env = pure none := by rfl)
    (h1 : (assignEach [tg] X.env).map (·.2) = [assign tg X.env] := by rfl) : G1 X J (.Assign [tg] e pos) ρ M B :=
  g1_of (ps_asg pe_any pg_any hs hw h1) fun F σ H E s k => h.go s fun d v M1 F1 H1 p e1 o1 r1 => asd_go p o1 r1 (s.en.mono e1) fun σ' ρ' q en => k.nx F1 σ' H1 ρ' M1 q e1 en o1
/-- a, b = x, y -/
theorem g1_par {x y : Str} {px py pt : Pos} {kt k2 pt2} (i j : Nat) (hc : X.calm = true) (hij : i ≠ j) (h : AX X J [a, b] ρ M fun ds M1 => ∃ d1 d2, ds = [d1, d2] ∧ B.nx (put (put ρ i d1) j d2) M1)
    (hN : X.N.Nodup := by rfl) (hi : X.N[i]? = some x := by rfl) (hj : X.N[j]? = some y := by rfl) (hx : X.env.scope.names.lookup x = some .local := by rfl) (hy : X.env.scope.names.lookup y = some .local := by rfl)
    (hw : swappedStores [.Tuple [.Name x px, .Name y py] kt pt] (.Tuple [a, b] k2 pt2) X.env = pure (some [x, y]) := by rfl)
    (hs : swapsWithSole [.Tuple [.Name x px, .Name y py] kt pt] (.Tuple [a, b] k2 pt2) pos.line X.env = pure false := by rfl) :
    G1 X J (.Assign [.Tuple [.Name x px, .Name y py] kt pt] (.Tuple [a, b] k2 pt2) pos) ρ M B :=
  g1_of (ps_par hc hN hi hj hij hx hy pa_any hw hs) fun F σ H E s k => h.go s fun ds vs M1 F1 H1 p e1 o1 r1 => by
    obtain ⟨d1, d2, rfl, p⟩ := p
    cases r1 with
    | cons h1 r1 =>
      cases r1 with
      | cons h2 r1 =>
        cases r1
        exact ⟨_, _, rfl, k.nx F1 _ H1 _ M1 p e1 (((s.en.mono e1).put i h1).put j h2) o1⟩
theorem g1_ret (h : EX X J e ρ M B.rt) : G1 X J (.Return (some e) pos) ρ M B := g1_of (ps_ret pe_any) fun F σ H E s k => h.go s k.rt
theorem g1_expr (h : EX X J e ρ M fun _ M1 => B.nx ρ M1) (hs : swapsWith e none pos.line X.env = pure false := by rfl) : G1 X J (.Expr e pos) ρ M B :=
  g1_of (ps_expr pe_any hs) fun F σ H E s k => h.go s fun d v M1 F1 H1 p e1 o1 r1 => k.nx F1 σ H1 ρ M1 p e1 (s.en.mono e1) o1
theorem g1_break (h : B.bk ρ M) : G1 X J (.Break pos) ρ M B := g1_of ps_break fun F σ H E s k => k.bk F σ H ρ M h (Same.refl F) s.en s.ok
theorem g1_if {s1 s2 : List Stmt} (h : TX X J c ρ M fun t M1 => (t = true → GX X J s1 ρ M1 B) ∧ (t = false → GX X J s2 ρ M1 B)) : G1 X J (.If c s1 s2 pos) ρ M B :=
  g1_of (ps_if pt_any pss_any pss_any) fun F σ H E s k => h.go s fun t M1 F1 H1 p e1 o1 => by
    cases t with
    | true => exact iteT ((p.1 rfl).go (s.to e1 o1) (k.to e1))
    | false => exact iteF ((p.2 rfl).go (s.to e1 o1) (k.to e1))

theorem pi_any {tg iter : Expr} : PI X tg iter (tIe X tg iter) := ⟨fun pins s σ H R I ⟨t, h, q⟩ => h.run pins s σ H R I q⟩
theorem ix_of {tg iter : Expr} {t : TI} {P : List D → Mem → Prop} (h : PI X tg iter t) (k : ∀ F σ H R, Sts X.K J F σ H ρ M → Ki X.K F P R → t σ H R) : IX X J tg iter ρ M P := ⟨fun pins s σ H R I ⟨F, st, q⟩ => h.run pins s σ H R I (k F σ H R st q)⟩
theorem wk_list {q : Addr} {xs : List V} {ds : List D} (h : F q = some (.lst xs)) (r : Rps K F xs ds) : Wk K F (Itl K q) ds :=
  ⟨fun i H hi s => ⟨xs, xs[i]'(by rw [r.length]; exact hi), SqL.of (s _ _ h), by simp⟩, fun H s => ⟨xs, SqL.of (s _ _ h), by rw [r.length]; exact Nat.le_refl _⟩,
    fun i d H x H' F1 M hd s o y => by
      obtain ⟨rfl, y⟩ := y
      obtain ⟨v, h1, h2⟩ := r.get hd
      have e1 := y xs (SqL.of (o.ex _ _ (s _ _ h)))
      rw [h1] at e1; cases e1
      exact ⟨F1, Same.refl _, o, h2.mono s⟩⟩
theorem wk_tup {q : Addr} {xs : List V} {ds : List D} (h : SqT K F q xs) (r : Rps K F xs ds) : Wk K F (Itt K q) ds :=
  ⟨fun i H hi s => ⟨xs, xs[i]'(by rw [r.length]; exact hi), same_t s h, by simp⟩, fun H s => ⟨xs, same_t s h, by rw [r.length]; exact Nat.le_refl _⟩,
    fun i d H x H' F1 M hd s o y => by
      obtain ⟨rfl, y⟩ := y
      obtain ⟨v, h1, h2⟩ := r.get hd
      have e1 := y xs (same_t o.ex (same_t s h))
      rw [h1] at e1; cases e1
      exact ⟨F1, Same.refl _, o, h2.mono s⟩⟩
theorem ix_lst {tg : Expr} {P : List D → Mem → Prop} (h : EX X J e ρ M fun d M1 => ∃ ds, d = .lst ds ∧ P ds M1) : IX X J tg e ρ M P :=
  ix_of (pi_list pe_any) fun F σ H R s k => h.go s fun d v M1 F1 H1 p e1 o1 r1 => by
    obtain ⟨ds, rfl, p⟩ := p
    cases r1 with
    | lst h1 r1 => exact ⟨_, rfl, ⟨_, SqL.of (o1.ex _ _ h1)⟩, k ds _ M1 F1 H1 p e1 o1 (wk_list h1 r1)⟩
theorem ix_tup {tg : Expr} {P : List D → Mem → Prop} (h : EX X J e ρ M fun d M1 => ∃ ds, d = .tup ds ∧ P ds M1) : IX X J tg e ρ M P :=
  ix_of (pi_tup pe_any) fun F σ H R s k => h.go s fun d v M1 F1 H1 p e1 o1 r1 => by
    obtain ⟨ds, rfl, p⟩ := p
    cases r1 with
    | tup h1 r1 => exact ⟨_, rfl, ⟨_, same_t o1.ex h1⟩, k ds _ M1 F1 H1 p e1 o1 (wk_tup h1 r1)⟩
def rngD (lo : Int) (n : Nat) : List D := (List.range n).map fun (i : Nat) => D.int (lo + (i : Int))
theorem rngD_len {lo : Int} {n : Nat} : (rngD lo n).length = n := by unfold rngD; simp
theorem rngD_at {lo : Int} {n i : Nat} {d : D} (h : (rngD lo n)[i]? = some d) : i < n ∧ d = .int (lo + (i : Int)) := by
  unfold rngD at h
  rw [List.getElem?_map] at h
  by_cases hi : i < n
  · rw [List.getElem?_range hi] at h
    cases h
    exact ⟨hi, rfl⟩
  · rw [List.getElem?_eq_none (by simp; omega)] at h
    cases h
theorem wk_rng {lo : Int} {n : Nat} : Wk K F (Itr lo n) (rngD lo n) :=
  ⟨fun i H hi s => by rw [rngD_len] at hi; exact hi, fun H s => by rw [rngD_len]; exact Nat.le_refl _, fun i d H x H' F1 M hd s o y => by
    obtain ⟨rfl, rfl⟩ := y
    obtain ⟨_, rfl⟩ := rngD_at hd
    exact ⟨F1, Same.refl _, o, .int _⟩⟩
theorem ix_range1 {tg : Expr} {P : List D → Mem → Prop} (hm : X.mg "range" = none) (h : AX X J [a] ρ M fun ds M1 => ∃ j, ds = [.int j] ∧ (-(2 ^ 62) ≤ j ∧ j < 2 ^ 62) ∧ P (rngD 0 j.toNat) M1) (hg : Gl X "range" := by rfl)
    (hs : starEach [a] X.env = [(false, eval a X.env)] := by rfl) : IX X J tg (.Call (.Name "range" p) [a] [] pos) ρ M P :=
  ix_of (pi_range1 hg hm pa_any hs) fun F σ H R s k => h.go s fun ds vs M1 F1 H1 q e1 o1 r1 => by
    obtain ⟨j, rfl, hj, q⟩ := q
    cases r1 with
    | cons h1 r1 =>
      cases r1
      cases h1
      exact ⟨j, rfl, hj.1, hj.2, k _ _ M1 F1 H1 q e1 o1 wk_rng⟩
theorem ix_range2 {tg : Expr} {P : List D → Mem → Prop} (hm : X.mg "range" = none) (h : AX X J [a, b] ρ M fun ds M2 => ∃ i j, ds = [.int i, .int j] ∧ (-(2 ^ 62) ≤ i ∧ i < 2 ^ 62 ∧ -(2 ^ 62) ≤ j ∧ j < 2 ^ 62) ∧ P (rngD i (j - i).toNat) M2) (hg : Gl X "range" := by rfl)
    (hs : starEach [a, b] X.env = [(false, eval a X.env), (false, eval b X.env)] := by rfl) (hs2 : starEach [b] X.env = [(false, eval b X.env)] := by rfl) : IX X J tg (.Call (.Name "range" p) [a, b] [] pos) ρ M P :=
  ix_of (pi_range2 hg hm pa_any hs hs2) fun F σ H R s k => h.go s fun ds vs M1 F1 H1 q e1 o1 r1 => by
    obtain ⟨i, j, rfl, hj, q2⟩ := q
    cases r1 with
    | cons h1 r1 =>
      cases r1 with
      | cons h2 r1 =>
        cases r1
        cases h1; cases h2
        exact ⟨i, j, rfl, hj, k _ _ M1 F1 H1 q2 e1 o1 wk_rng⟩
/-- zip of two lists, of two tuples -/
def zipD : List D → List D → List D
  | x :: xs, y :: ys => .tup [x, y] :: zipD xs ys
  | _, _ => []
theorem pair_new {x y d1 d2 : D} {v1 v2 : V} {T : Addr} (o : Ok K F M H) (h : H T = none) (r1 : Rp K F v1 d1) (r2 : Rp K F v2 d2) : ∃ F2, Same F F2 ∧ Ok K F2 M (upd H T (.tup [v1, v2])) ∧ Rp K F2 (.ref T) (.tup [d1, d2]) :=
  ⟨_, o.fixSame h, o.fix h, .tup (SqT.of upd_same) (.cons (r1.mono (o.fixSame h)) (.cons (r2.mono (o.fixSame h)) .nil))⟩
/-- both lists, or both tuples -/
inductive Zs : D → D → List D → List D → Prop
  | lst {ds es : List D} : Zs (.lst ds) (.lst es) ds es
  | tup {ds es : List D} : Zs (.tup ds) (.tup es) ds es
/-- enumerate of a list -/
def enumD (i : Nat) : List D → List D
  | [] => []
  | x :: xs => .tup [.int (i : Int), x] :: enumD (i + 1) xs
theorem enumD_len : ∀ (i : Nat) (xs : List D), (enumD i xs).length = xs.length
  | i, [] => rfl
  | i, x :: xs => by simp [enumD, enumD_len (i + 1) xs]
theorem enumD_at : ∀ {xs : List D} {k i : Nat} {d : D}, (enumD k xs)[i]? = some d → ∃ x, xs[i]? = some x ∧ d = .tup [.int ((k + i : Nat) : Int), x]
  | [], k, i, d, h => by simp [enumD] at h
  | x :: xs, k, 0, d, h => by simp [enumD] at h; exact ⟨x, rfl, h.symm⟩
  | x :: xs, k, i + 1, d, h => by
    obtain ⟨y, h1, h2⟩ := enumD_at (xs := xs) (k := k + 1) (i := i) (by simpa [enumD] using h)
    exact ⟨y, by simpa using h1, by rw [h2, Nat.add_assoc, Nat.add_comm 1 i]⟩
theorem wk_enum {q : Addr} {xs : List V} {ds : List D} (h : F q = some (.lst xs)) (hx : Rps K F xs ds) : Wk K F (Ite K q) (enumD 0 ds) := by
  refine ⟨fun i H hi s => ?_, fun H s => ⟨xs, SqL.of (s _ _ h), by rw [enumD_len, hx.length]; exact Nat.le_refl _⟩, fun i d H x H' F1 M hd s o y => ?_⟩
  · rw [enumD_len] at hi
    have h1 : i < xs.length := by rw [hx.length]; omega
    exact ⟨xs, xs[i], SqL.of (s _ _ h), by simp [h1]⟩
  · obtain ⟨T, v1, rfl, h2, rfl, h4⟩ := y
    obtain ⟨d1, g1, rfl⟩ := enumD_at hd
    obtain ⟨w1, k1, k2⟩ := hx.get g1
    have e1 := h4 xs (SqL.of (o.ex _ _ (s _ _ h)))
    rw [k1] at e1; cases e1
    rw [Nat.zero_add]
    exact pair_new (x := d1) (y := d1) o h2 (.int _) (k2.mono s)
theorem ix_enum {elts : List Expr} {kk : Nat} {tpos : Pos} {P : List D → Mem → Prop} (hm : X.mg "enumerate" = none) (h : AX X J [a] ρ M fun ws M1 => ∃ ds, ws = [.lst ds] ∧ P (enumD 0 ds) M1) (hg : Gl X "enumerate" := by rfl)
    (hs : starEach [a] X.env = [(false, eval a X.env)] := by rfl) : IX X J (.Tuple elts kk tpos) (.Call (.Name "enumerate" p) [a] [] pos) ρ M P :=
  ix_of (pi_enum hg hm pa_any hs) fun F σ H R s k => h.go s fun ws vs M1 F1 H1 q e1 o1 r1 => by
    obtain ⟨ds, rfl, q⟩ := q
    cases r1 with
    | cons h1 r1 =>
      cases r1
      cases h1 with
      | lst h1 k1 => exact ⟨_, _, rfl, SqL.of (o1.ex _ _ h1), k _ _ M1 F1 H1 q e1 o1 (wk_enum h1 k1)⟩
/-- the signs of a text -/
def signs (z : Str) : List D := z.cps.toList.map fun c => D.str ⟨#[c]⟩
theorem wk_str {z : Str} : Wk K F (Its z) (signs z) := by
  refine ⟨fun i H hi s => ?_, fun H s => ?_, fun i d H x H' F1 M hd s o y => ?_⟩
  · unfold signs at hi; simp at hi; exact hi
  · unfold signs; simp; exact Nat.le_refl _
  · obtain ⟨rfl, c, h1, rfl⟩ := y
    unfold signs at hd
    rw [List.getElem?_map] at hd
    have : z.cps.toList[i]? = some c := by simpa using h1
    rw [this] at hd
    cases hd
    exact ⟨F1, Same.refl _, o, .str _⟩
theorem ix_str {tg : Expr} {P : List D → Mem → Prop} (h : EX X J e ρ M fun d M1 => ∃ z, d = .str z ∧ P (signs z) M1) : IX X J tg e ρ M P :=
  ix_of (pi_str pe_any) fun F σ H R s k => h.go s fun d v M1 F1 H1 p e1 o1 r1 => by
    obtain ⟨z, rfl, p⟩ := p
    cases r1
    exact ⟨z, rfl, k _ _ M1 F1 H1 p e1 o1 wk_str⟩
/-- for -/
theorem g1_for {tg iter : Expr} {body : List Stmt} (hp : PassesOwn (model X.prog X.w) X.A X.env X.xe) (hc : X.calm = true)
    (h : IX X J tg iter ρ M fun ds M1 => ∃ Wd : Nat → DEnv → Mem → Prop, Wd 0 ρ M1 ∧
      (∀ i d ρ' M', ds[i]? = some d → Wd i ρ' M' → AsD X tg d ρ' fun ρ2 => GX X J body ρ2 M' ⟨Wd (i + 1), B.rt, B.nx, Wd (i + 1)⟩) ∧ ∀ ρ' M', Wd ds.length ρ' M' → B.nx ρ' M')
    (hs : ∀ x, foldedSetIterable iter X.env x = pure x := by intro _; rfl) : G1 X J (.For tg iter body [] pos) ρ M B :=
  g1_of (ps_for hp hc pi_any pg_any pss_any hs) fun F σ H E s k => h.go s fun ds I M1 F1 H1 ⟨Wd, h0, hs, hd⟩ e1 o1 w => by
    refine ⟨fun i m σ H => m = ds.length - i ∧ i ≤ ds.length ∧ ∃ F' ρ' M', Same F1 F' ∧ Sts X.K J F' σ H ρ' M' ∧ Wd i ρ' M', ⟨ds.length, by simp, Nat.zero_le _, F1, ρ, M1, Same.refl _, s.to e1 o1, h0⟩, ?_⟩
    rintro i m σ' H' ⟨rfl, hi, F', ρ', M', e2, s2, q⟩
    by_cases hlt : i < ds.length
    · refine .inr ⟨w.goes i H' hlt (e2.trans s2.ok.ex), _, fun σ3 H3 n3 => n3, fun x H3 y => ?_⟩
      · obtain ⟨F3, e3, o3, r3⟩ := w.yields i ds[i] H' x H3 F' M' (by simp [hlt]) e2 s2.ok y
        refine asd_go (hs i ds[i] ρ' M' (by simp [hlt]) q) o3 r3 (s2.en.mono e3) fun σ4 ρ4 q4 en4 => GX.go q4 ⟨en4, o3, J.mono _ _ e3 s2.gh⟩ ?_
        have nxt : ∀ F' σ' H' ρ' M', Wd (i + 1) ρ' M' → Same F3 F' → En X.K F' σ' ρ' → Ok X.K F' M' H' → ∃ m', m' < ds.length - i ∧ m' = ds.length - (i + 1) ∧ i + 1 ≤ ds.length ∧ ∃ F' ρ' M', Same F1 F' ∧ Sts X.K J F' σ' H' ρ' M' ∧ Wd (i + 1) ρ' M' :=
          fun F5 σ5 H5 ρ5 M5 q5 e5 en5 o5 => ⟨_, by omega, rfl, hlt, F5, ρ5, M5, (e2.trans e3).trans e5, ⟨en5, o5, J.mono _ _ (e3.trans e5) s2.gh⟩, q5⟩
        exact ⟨nxt, k.rt.to ((e1.trans e2).trans e3), fun F5 σ5 H5 ρ5 M5 q5 e5 en5 o5 => k.nx F5 σ5 H5 ρ5 M5 q5 (((e1.trans e2).trans e3).trans e5) en5 o5, nxt⟩
    · have e : i = ds.length := by omega
      subst e
      exact .inl ⟨w.stops H' (e2.trans s2.ok.ex), k.nx F' σ' H' ρ' M' (hd ρ' M' q) (e1.trans e2) s2.en s2.ok⟩
end
end DX
namespace DX
open PySem PySem.Spec L2

theorem wipe_get (σ : St) (i : Nat) : ∀ vs : List Nat, (wipe σ vs)[i]? = if i ∈ vs then (σ[i]?).map (fun _ => none) else σ[i]?
  | [] => by simp [wipe]
  | v :: vs => by
    unfold wipe
    rw [List.getElem?_set]
    by_cases h : v = i
    · subst h
      rw [if_pos rfl, wipe_length]
      by_cases hl : v < σ.length
      · rw [if_pos hl, if_pos List.mem_cons_self, List.getElem?_eq_getElem hl]; rfl
      · rw [if_neg hl, if_pos List.mem_cons_self, List.getElem?_eq_none (by omega)]; rfl
    · rw [if_neg h, wipe_get σ i vs]
      have e : (i ∈ v :: vs) = (i ∈ vs) := by simp [Ne.symm h]
      simp only [e]
theorem wipe_set {σ : St} {j : Nat} {x : Option V} {vs : List Nat} (h : j ∈ vs) : wipe (σ.set j x) vs = wipe σ vs := by
  apply List.ext_getElem?
  intro i
  rw [wipe_get, wipe_get]
  by_cases hi : i ∈ vs
  · rw [if_pos hi, if_pos hi, List.getElem?_set]
    by_cases hj : j = i
    · subst hj
      rw [if_pos rfl]
      by_cases hl : j < σ.length
      · rw [if_pos hl, List.getElem?_eq_getElem hl]; rfl
      · rw [if_neg hl, List.getElem?_eq_none (by omega)]
    · rw [if_neg hj]
  · rw [if_neg hi, if_neg hi, List.getElem?_set_ne]
    intro z; subst z; exact hi h
theorem wipe_wipe (σ : St) (vs : List Nat) : wipe (wipe σ vs) vs = wipe σ vs := by
  apply List.ext_getElem?
  intro i
  rw [wipe_get, wipe_get]
  by_cases hi : i ∈ vs
  · rw [if_pos hi, if_pos hi]
    cases σ[i]? <;> rfl
  · rw [if_neg hi, if_neg hi]

section
variable {X : Cx} {J : Gh} {e a b c : Expr} {es : List Expr} {st : Stmt} {rest sts : List Stmt} {ρ ρ' : DEnv} {M M' : Mem} {F F' H H' : Hp} {σ : St} {B : Bd} {K : PySem.W.Frag} {pos p apos : Pos} {x : Str} {P : D → Mem → Prop}

abbrev Blk (X : Cx) (scope : Scope) : Type := Shared × Hp × Addr × List (Str × Addr) × List Addr
abbrev Blk.cx {X : Cx} {scope : Scope} (b : Blk X scope) : Cx := X.blk b.1 b.2.1 scope (compEnvC scope b.2.2.2.1 b.2.2.1 X.env) b.2.2.2.2
def EXb (X : Cx) (J : Gh) (scope : Scope) (e : Expr) (ρ : DEnv) (M : Mem) (P : D → Mem → Prop) : Prop := ∀ (s : Shared) (H : Hp) (C : Addr) (cl : List (Str × Addr)) (fp : List Addr), EX (X.blk s H scope (compEnvC scope cl C X.env) fp) J e ρ M P
def TXb (X : Cx) (J : Gh) (scope : Scope) (ifs : List Expr) (ρ : DEnv) (M : Mem) (P : Bool → Mem → Prop) : Prop := ∃ t, (∀ (s : Shared) (H : Hp) (C : Addr) (cl : List (Str × Addr)) (fp : List Addr), PTs (X.blk s H scope (compEnvC scope cl C X.env) fp) ifs t) ∧ ∀ F σ H Q, Sts X.K J F σ H ρ M → Kb X.K F P Q → t σ H Q
def AsB (X : Cx) (scope : Scope) (vs : List Nat) (target : Expr) (d : D) (ρ : DEnv) (P : DEnv → Prop) : Prop :=
  ∃ g, (∀ (s : Shared) (H : Hp) (C : Addr) (cl : List (Str × Addr)) (fp : List Addr), PG (X.blk s H scope (compEnvC scope cl C X.env) fp) target g) ∧
    ∀ F M v σ H Q, Ok X.K F M H → Rp X.K F v d → En X.K F σ ρ → (∀ σ' ρ', P ρ' → En X.K F σ' ρ' → wipe σ' vs = wipe σ vs → Q σ' H) → g v σ H Q
def AsBs (X : Cx) (scope : Scope) (vs : List Nat) (ts : List Expr) (ds : List D) (ρ : DEnv) (P : DEnv → Prop) : Prop :=
  ∃ g, (∀ (s : Shared) (H : Hp) (C : Addr) (cl : List (Str × Addr)) (fp : List Addr), PGs (X.blk s H scope (compEnvC scope cl C X.env) fp) ts g) ∧
    ∀ F M xs σ H Q, Ok X.K F M H → Rps X.K F xs ds → En X.K F σ ρ → (∀ σ' ρ', P ρ' → En X.K F σ' ρ' → wipe σ' vs = wipe σ vs → Q σ' H) → g xs σ H Q
def tEb (X : Cx) (scope : Scope) (e : Expr) : TE := fun σ H Q => ∃ t, (∀ (s : Shared) (H : Hp) (C : Addr) (cl : List (Str × Addr)) (fp : List Addr), PE (X.blk s H scope (compEnvC scope cl C X.env) fp) e t) ∧ t σ H Q
def tTb (X : Cx) (scope : Scope) (ifs : List Expr) : TT := fun σ H Q => ∃ t, (∀ (s : Shared) (H : Hp) (C : Addr) (cl : List (Str × Addr)) (fp : List Addr), PTs (X.blk s H scope (compEnvC scope cl C X.env) fp) ifs t) ∧ t σ H Q
def gB (X : Cx) (scope : Scope) (target : Expr) : TG := fun v σ H Q => ∃ g, (∀ (s : Shared) (H : Hp) (C : Addr) (cl : List (Str × Addr)) (fp : List Addr), PG (X.blk s H scope (compEnvC scope cl C X.env) fp) target g) ∧ g v σ H Q
variable {scope : Scope} {tg iter elt : Expr} {ifs : List Expr}
theorem txb_nil {P : Bool → Mem → Prop} (h : P true M) : TXb X J scope [] ρ M P := ⟨tYes, fun _ _ _ _ _ => pts_nil, fun F σ H Q st k => k _ _ _ _ h (Same.refl F) st.ok⟩
theorem txb_one {P : Bool → Mem → Prop} (h : ∀ (s : Shared) (H : Hp) (C : Addr) (cl : List (Str × Addr)) (fp : List Addr), TX (X.blk s H scope (compEnvC scope cl C X.env) fp) J c ρ M P) : TXb X J scope [c] ρ M P :=
  ⟨tT X.K J ρ M P, fun s H C cl fp => pts_one (h s H C cl fp), fun F σ H Q st k => ⟨F, st, k⟩⟩
theorem pe_lcA {own : List (Str × Nat)} (hc : X.calm = true) (hN : X.N.Nodup) (ok : BlkOk X.N X.env.scope scope own) (hs : ∀ x, foldedSetIterable iter X.env x = pure x := by intro _; rfl) :
    PE X (.ListComp elt [⟨tg, iter, ifs, 0⟩] scope pos) (tLc (tIe X tg iter) (gB X scope tg) (tTb X scope ifs) (tEb X scope elt) (own.map (·.2))) :=
  pe_lc hc hN pi_any ok (fun s H C cl fp => ⟨fun pins s' σ H' v u Q I r ⟨g, h, q⟩ => (h s H C cl fp).run pins s' σ H' v u Q I r q⟩)
    (fun s H C cl fp => ⟨fun pins s' σ H' Q I ⟨t, h, q⟩ => (h s H C cl fp).run pins s' σ H' Q I q⟩) (fun s H C cl fp => ⟨fun pins s' σ H' Q I ⟨t, h, q⟩ => (h s H C cl fp).run pins s' σ H' Q I q⟩) hs
theorem asb_name {d : D} {vs : List Nat} {P : DEnv → Prop} (i : Nat) (h : P (put ρ i d)) (hv : i ∈ vs := by decide) (hN : X.N.Nodup := by rfl) (hi : X.N[i]? = some x := by rfl) (hx : ∀ (s : Shared) (H : Hp) (C : Addr) (cl : List (Str × Addr)) (fp : List Addr), Loc (X.blk s H scope (compEnvC scope cl C X.env) fp).env.scope x := by intros; first | exact Or.inl rfl | exact Or.inr rfl)
    (hf : ∀ (s : Shared) (H : Hp) (C : Addr) (cl : List (Str × Addr)) (fp : List Addr), (X.blk s H scope (compEnvC scope cl C X.env) fp).fn x = true ∨ (X.blk s H scope (compEnvC scope cl C X.env) fp).env.scope.names.lookup x = some .local := by intros; first | exact .inr rfl | exact .inl rfl) : AsB X scope vs (.Name x pos) d ρ P :=
  ⟨_, fun s H C cl fp => pg_name (X := X.blk s H scope (compEnvC scope cl C X.env) fp) hN hi (hx s H C cl fp) (hf s H C cl fp), fun F M v σ H Q o r en k => k _ _ h (en.put i r) (wipe_set hv)⟩
/-- [elt for tg in iter if ..]: the word by the turn, what is made so far, the memory (the new list, at Dl, in it while a turn runs) -/
def LcW (X : Cx) (J : Gh) (scope : Scope) (vs : List Nat) (tg : Expr) (ifs : List Expr) (elt : Expr) (ρ : DEnv) (P : D → Mem → Prop) (ds : List D) (M1 : Mem) : Prop := ∃ Wd : Nat → List D → Mem → Prop, Wd 0 [] M1 ∧
  (∀ i d acc M' Dl, ds[i]? = some d → Wd i acc M' → M' Dl = none → acc.length < 1000000 ∧ AsB X scope vs tg d (cuts ρ vs) fun ρ2 =>
    TXb X J scope ifs ρ2 (up M' Dl (.lst acc)) fun t M2 => (t = true → EXb X J scope elt ρ2 M2 fun y M3 => ∃ M4, M4 Dl = none ∧ M3 = up M4 Dl (.lst acc) ∧ Wd (i + 1) (acc ++ [y]) M4) ∧
      (t = false → ∃ M4, M4 Dl = none ∧ M2 = up M4 Dl (.lst acc) ∧ Wd (i + 1) acc M4)) ∧
  ∀ acc M', Wd ds.length acc M' → P (.lst acc) M'
theorem lc_go {vs : List Nat} {Q : VK} (st : Sts X.K J F σ H ρ M) (k : Kt X.K F P Q) (h : IX X J tg iter ρ M (LcW X J scope vs tg ifs elt ρ P)) :
    tLc (tIe X tg iter) (gB X scope tg) (tTb X scope ifs) (tEb X scope elt) vs σ H Q := by
  refine h.go st fun ds I M1 F1 H1 ⟨Wd, h0, hs, hd⟩ e1 o1 w Dl hD => ?_
  have hm1 := o1.nn hD
  refine ⟨fun i m H2 => m = ds.length - i ∧ i ≤ ds.length ∧ ∃ F' M' acc xs, Same F1 F' ∧ Ok X.K F' (up M' Dl (.lst acc)) H2 ∧ M' Dl = none ∧ H2 Dl = some (.lst xs) ∧ Wd i acc M', ⟨ds.length, by simp, Nat.zero_le _, F1, M1, [], [], Same.refl _, o1.lay hD ⟨[], upd_same, .nil⟩, hm1.2, upd_same, h0⟩, ?_⟩
  rintro i m H2 ⟨rfl, hi, F', M', acc, xs, e2, o2, hn, hx, q⟩
  by_cases hlt : i < ds.length
  · refine .inr ⟨w.goes i H2 hlt (e2.trans o2.ex), fun H3 => ∃ m', m' < ds.length - i ∧ m' = ds.length - (i + 1) ∧ i + 1 ≤ ds.length ∧ ∃ F' M' acc xs, Same F1 F' ∧ Ok X.K F' (up M' Dl (.lst acc)) H3 ∧ M' Dl = none ∧ H3 Dl = some (.lst xs) ∧ Wd (i + 1) acc M', fun H3 n3 => n3, fun x H3 y => ?_⟩
    obtain ⟨F3, e3, o3, r3⟩ := w.yields i ds[i] H2 x H3 F' _ (by simp [hlt]) e2 o2 y
    obtain ⟨ha, g, hg, hgo⟩ := hs i ds[i] acc M' Dl (by simp [hlt]) q hn
    have en3 : En X.K F3 (wipe σ vs) (cuts ρ vs) := (((st.en.cuts vs).mono e1).mono e2).mono e3
    refine ⟨g, hg, hgo F3 _ x _ H3 _ o3 r3 en3 fun σ4 ρ4 q4 en4 w4 => ⟨w4.trans (wipe_wipe σ vs), ?_⟩⟩
    obtain ⟨t, ht, q4⟩ := q4
    refine ⟨t, ht, q4 F3 σ4 H3 _ ⟨en4, o3, J.mono _ _ ((e1.trans e2).trans e3) st.gh⟩ fun tb M5 F5 H5 q5 e5 o5 => ?_⟩
    have fin : ∀ F6 M6 acc6 H6, Same F5 F6 → M6 Dl = none → Ok X.K F6 (up M6 Dl (.lst acc6)) H6 → Wd (i + 1) acc6 M6 → ∃ m', m' < ds.length - i ∧ m' = ds.length - (i + 1) ∧ i + 1 ≤ ds.length ∧ ∃ F' M' acc xs, Same F1 F' ∧ Ok X.K F' (up M' Dl (.lst acc)) H6 ∧ M' Dl = none ∧ H6 Dl = some (.lst xs) ∧ Wd (i + 1) acc M' := by
      intro F6 M6 acc6 H6 e6 n6 o6 q6
      obtain ⟨_, xs6, h6, _⟩ := o6.mt Dl _ up_same
      exact ⟨_, by omega, rfl, hlt, F6, M6, acc6, xs6, ((e2.trans e3).trans e5).trans e6, o6, n6, h6, q6⟩
    cases tb with
    | true =>
      refine iteT ⟨tD X.K J ρ4 M5 _, q5.1 rfl, F5, ⟨en4.mono e5, o5, J.mono _ _ (((e1.trans e2).trans e3).trans e5) st.gh⟩, fun y v M7 F7 H7 ⟨M4, n4, e4, q7⟩ e7 o7 r7 => ?_⟩
      subst e4
      obtain ⟨_, ys, hy, ry⟩ := o7.mt Dl _ up_same
      refine ⟨ys, hy, by rw [ry.length, sizeLine_eq]; omega, fin F7 M4 (acc ++ [y]) _ e7 n4 ?_ q7⟩
      have := o7.set (o := .lst (ys ++ [v])) (d' := .lst (acc ++ [y])) up_same ⟨_, upd_same, ry.append (.cons r7 .nil)⟩
      rwa [up_up] at this
    | false =>
      obtain ⟨M4, n4, e4, q7⟩ := q5.2 rfl
      subst e4
      exact iteF (fin F5 M4 acc H5 (Same.refl _) n4 o5 q7)
  · have e : i = ds.length := by omega
    subst e
    obtain ⟨_, ys, hy, ry⟩ := o2.mt Dl _ up_same
    obtain ⟨s1, o4⟩ := o2.freeze up_same hy
    rw [rm_up hn] at o4
    exact .inl ⟨w.stops H2 (e2.trans o2.ex), k _ _ _ _ _ (hd acc M' q) ((e1.trans e2).trans s1) o4 (.lst upd_same (ry.mono s1))⟩
theorem ex_lc {own : List (Str × Nat)} (hc : X.calm = true) (h : IX X J tg iter ρ M (LcW X J scope (own.map (·.2)) tg ifs elt ρ P)) (hN : X.N.Nodup := by rfl) (ok : blkC X.N X.env.scope scope own = true := by rfl) (hs : ∀ x, foldedSetIterable iter X.env x = pure x := by intro _; rfl) :
    EX X J (.ListComp elt [⟨tg, iter, ifs, 0⟩] scope pos) ρ M P :=
  ex_of (pe_lcA hc hN (blkOk_by ok) hs) fun F σ H Q st k => lc_go st k h
theorem g1_lc {y : Str} {py : Pos} {spos : Pos} {own : List (Str × Nat)} (i : Nat) (hc : X.calm = true) (h : IX X J tg iter ρ M (LcW X J scope (own.map (·.2)) tg ifs elt ρ fun d M1 => B.nx (put ρ i d) M1)) (hN : X.N.Nodup := by rfl) (hy : X.N[i]? = some y := by rfl) (hyl : X.env.scope.names.lookup y = some .local := by rfl)
    (hsw : swapsWith (.ListComp elt [⟨tg, iter, ifs, 0⟩] scope pos) (some (.Name y py)) spos.line X.env = pure true := by rfl) (ok : blkC X.N X.env.scope scope own = true := by rfl) (hs : ∀ x, foldedSetIterable iter X.env x = pure x := by intro _; rfl) :
    G1 X J (.Assign [.Name y py] (.ListComp elt [⟨tg, iter, ifs, 0⟩] scope pos) spos) ρ M B :=
  g1_of (ps_setLc hc hN hy hyl hsw pi_any (blkOk_by ok) (fun s H C cl fp => ⟨fun pins s' σ H' v u Q I r ⟨g, h, q⟩ => (h s H C cl fp).run pins s' σ H' v u Q I r q⟩)
    (fun s H C cl fp => ⟨fun pins s' σ H' Q I ⟨t, h, q⟩ => (h s H C cl fp).run pins s' σ H' Q I q⟩) (fun s H C cl fp => ⟨fun pins s' σ H' Q I ⟨t, h, q⟩ => (h s H C cl fp).run pins s' σ H' Q I q⟩) hs)
    fun F σ H E st k => lc_go st (P := fun d M1 => B.nx (put ρ i d) M1) (fun d v M' F' H' q e o r => k.nx F' _ H' _ M' q e ((st.en.mono e).put i r) o) h

def SpD (K : PySem.W.Frag) (T : Tr) : Sp := fun vs H Q _ => ∃ F M ds P, Ok K F M H ∧ Rps K F vs ds ∧ T ds M P ∧ Kt K F P Q
def rAnyC (X : Cx) (f : Value) : List V → Hp → VK → Prop := fun vs H Q => ∃ r, CallR X f r ∧ r vs H Q
theorem cr_anyR {f : Value} : CallR X f (rAnyC X f) := fun pins s σ H vs us Q I r ⟨t, h, q⟩ => h pins s σ H vs us Q I r q
def CD (X : Cx) (f : Value) (ds : List D) (M : Mem) (P : D → Mem → Prop) : Prop :=
  ∃ r, CallR X f r ∧ ∀ F H vs Q, Ok X.K F M H → Rps X.K F vs ds → Kt X.K F P Q → r vs H Q
theorem ex_blt {id : String} (hm : X.mg x = none) (hv : bootBuiltins x = some (.builtin id)) (h : AX X J (e :: es) ρ M fun ds M1 => CD X (.builtin id) ds M1 P) (hg : Gl X x := by rfl) (hn : x ≠ "__name__" := by decide) (hdb : (x == ("__debug__" : Str)) = false := by decide)
    (he : starEach (e :: es) X.env = (false, eval e X.env) :: starEach es X.env := by rfl) (hpl : (backTo pos (starEach es X.env)).any (·.1) = false := by rfl) : EX X J (.Call (.Name x p) (e :: es) [] pos) ρ M P :=
  ex_of (pe_callB cr_anyR hg hm hv pa_any hn hdb he hpl) fun F σ H Q st k => h.go st fun ds vs M1 F1 H1 q e1 o1 r1 => by
    obtain ⟨r, h1, h2⟩ := q
    exact ⟨r, h1, h2 F1 H1 vs Q o1 r1 (k.to e1)⟩
theorem ex_ty {T : String} (hm : X.mg x = none) (hv : bootBuiltins x = some (.type T)) (h : AX X J (e :: es) ρ M fun ds M1 => CD X (.type T) ds M1 P) (hg : Gl X x := by rfl) (hn : x ≠ "__name__" := by decide) (hdb : (x == ("__debug__" : Str)) = false := by decide)
    (he : starEach (e :: es) X.env = (false, eval e X.env) :: starEach es X.env := by rfl) (hpl : (backTo pos (starEach es X.env)).any (·.1) = false := by rfl) : EX X J (.Call (.Name x p) (e :: es) [] pos) ρ M P :=
  ex_of (pe_callTy cr_anyR hg hm hv pa_any hn hdb he hpl) fun F σ H Q st k => h.go st fun ds vs M1 F1 H1 q e1 o1 r1 => by
    obtain ⟨r, h1, h2⟩ := q
    exact ⟨r, h1, h2 F1 H1 vs Q o1 r1 (k.to e1)⟩
theorem bb_len : bootBuiltins "len" = some (.builtin "len") := by decide +kernel
theorem bb_abs : bootBuiltins "abs" = some (.builtin "abs") := by decide +kernel
theorem bb_repr : bootBuiltins "repr" = some (.builtin "repr") := by decide +kernel
theorem bb_isi : bootBuiltins "isinstance" = some (.builtin "isinstance") := by decide +kernel
theorem bb_min : bootBuiltins "min" = some (.builtin "min") := by decide +kernel
theorem bb_all : bootBuiltins "all" = some (.builtin "all") := by decide +kernel
theorem bb_int : bootBuiltins "int" = some (.type "int") := by decide +kernel
theorem bb_str : bootBuiltins "str" = some (.type "str") := by decide +kernel
theorem bb_list : bootBuiltins "list" = some (.type "list") := by decide +kernel
theorem bb_tuple : bootBuiltins "tuple" = some (.type "tuple") := by decide +kernel
theorem cd_len {d : D} {ds : List D} (s : Sq M d ds) (q : P (.int (ds.length : Int)) M) : CD X (.builtin "len") [d] M P :=
  ⟨_, call_len_seq, fun F H vs Q o r k => by
    cases r with
    | cons h1 r =>
      cases r
      obtain ⟨a, xs, rfl, h2, r2⟩ := s.get o h1
      refine ⟨a, xs, rfl, h2, ?_⟩
      rw [r2.length]
      exact k.here q o (.int _)⟩
theorem cd_lenS {z : Str} (hz : z.length ≤ 1000000) (q : P (.int (z.length : Int)) M) : CD X (.builtin "len") [.str z] M P :=
  ⟨_, call_len_str, fun F H vs Q o r k => by
    cases r with
    | cons h1 r =>
      cases r
      cases h1
      exact ⟨z, rfl, by rw [sizeLine_eq]; omega, k.here q o (.int _)⟩⟩
theorem cd_list {d : D} {ds : List D} (s : Sq M d ds) (q : P (.lst ds) M) : CD X (.type "list") [d] M P :=
  ⟨_, call_list_of, fun F H vs Q o r k => by
    cases r with
    | cons h1 r =>
      cases r
      obtain ⟨a, xs, rfl, h2, r2⟩ := s.get o h1
      exact ⟨a, xs, rfl, h2, fun l hl => k _ _ _ _ _ q (o.fixSame hl) (o.fix hl) (.lst upd_same (r2.mono (o.fixSame hl)))⟩⟩
theorem cd_tuple {d : D} {ds : List D} (s : Sl M d ds) (q : P (.tup ds) M) : CD X (.type "tuple") [d] M P :=
  ⟨_, call_tuple_of, fun F H vs Q o r k => by
    cases r with
    | cons h1 r =>
      cases r
      obtain ⟨a, xs, rfl, h2, r2⟩ := s.get o h1
      exact ⟨a, xs, rfl, .inl ⟨SqL.of h2, fun l hl => k _ _ _ _ _ q (o.fixSame hl) (o.fix hl) (.tup (SqT.of upd_same) (r2.mono (o.fixSame hl)))⟩⟩⟩
theorem cd_tupleT {ds : List D} (q : P (.tup ds) M) : CD X (.type "tuple") [.tup ds] M P :=
  ⟨_, call_tuple_of, fun F H vs Q o r k => by
    cases r with
    | cons h1 r =>
      cases r
      cases h1 with
      | tup h2 r2 => exact ⟨_, _, rfl, .inr ⟨same_t o.ex h2, k.here q o (.tup h2 r2)⟩⟩⟩
theorem cd_intB {t : Bool} (q : P (.int (if t = true then 1 else 0)) M) : CD X (.type "int") [.bl t] M P :=
  ⟨_, call_int1, fun F H vs Q o r k => by
    cases r with
    | cons h1 r =>
      cases r
      cases h1
      exact .inr ⟨t, rfl, k.here q o (.int _)⟩⟩
theorem cd_intI {t : Int} (q : P (.int t) M) : CD X (.type "int") [.int t] M P :=
  ⟨_, call_int1, fun F H vs Q o r k => by
    cases r with
    | cons h1 r =>
      cases r
      cases h1
      exact .inl ⟨t, rfl, k.here q o (.int _)⟩⟩
theorem cd_abs {t : Int} (q : P (.int (if t < 0 then -t else t)) M) : CD X (.builtin "abs") [.int t] M P :=
  ⟨_, call_abs, fun F H vs Q o r k => by
    cases r with
    | cons h1 r =>
      cases r
      cases h1
      exact ⟨t, rfl, k.here q o (.int _)⟩⟩
mutual
theorem Rp.dp (hs : Same F H) : ∀ {d : D} {v : V} {z : PyData}, Rp K F v d → d.py = some z → Dp K H v z
  | .non, _, z, .non, e => by simp [D.py] at e; subst e; exact .non
  | .bl b, _, z, .bl _, e => by simp [D.py] at e; subst e; exact .bl b
  | .int i, _, z, .int _, e => by simp [D.py] at e; subst e; exact .int i
  | .str x, _, z, .str _, e => by simp [D.py] at e; subst e; exact .str x
  | .tup ds, _, z, .tup h r, e => by
    rw [D.py] at e
    obtain ⟨zs, h1, rfl⟩ := Option.map_eq_some_iff.mp e
    exact .tup (same_t hs h) (Rps.dps hs r h1)
  | .lst ds, _, z, .lst h r, e => by
    rw [D.py] at e
    obtain ⟨zs, h1, rfl⟩ := Option.map_eq_some_iff.mp e
    exact .lst (SqL.of (hs _ _ h)) (Rps.dps hs r h1)
  | .adr _, _, z, _, e => by simp [D.py] at e
  | .ty _, _, z, _, e => by simp [D.py] at e
  | .ins _ _, _, z, _, e => by simp [D.py] at e
  | .scr _, _, z, _, e => by simp [D.py] at e
  | .dct _, _, z, _, e => by simp [D.py] at e
  | .stup _, _, z, _, e => by simp [D.py] at e
theorem Rps.dps (hs : Same F H) : ∀ {ds : List D} {vs : List V} {zs : List PyData}, Rps K F vs ds → pys ds = some zs → DpAll K H vs zs
  | [], _, zs, .nil, e => by simp [pys] at e; subst e; exact .nil
  | d :: ds, _, zs, .cons h r, e => by
    rw [pys] at e
    obtain ⟨z, h1, e⟩ := Option.bind_eq_some_iff.mp e
    obtain ⟨ws, h2, rfl⟩ := Option.map_eq_some_iff.mp e
    exact .cons (Rp.dp hs h h1) (Rps.dps hs r h2)
end
end
end DX
namespace DX
open PySem PySem.Spec L2

section
variable {X : Cx} {J : Gh} {e a b c : Expr} {es : List Expr} {ρ ρ' : DEnv} {M M' : Mem} {F F' H H' : Hp} {σ : St} {B : Bd} {K : PySem.W.Frag} {pos p apos : Pos} {x : Str} {P : D → Mem → Prop}
end
end DX
namespace DX
open PySem PySem.Spec L2

mutual
/-- ints below 2^200, texts of signs, lists and tuples of such -/
def good : D → Prop
  | .non => True
  | .bl _ => True
  | .int i => -(2 ^ 200) ≤ i ∧ i ≤ 2 ^ 200
  | .str x => PyData.strOk x = true
  | .tup ds => goods ds
  | .lst ds => goods ds
  | _ => False
def goods : List D → Prop
  | [] => True
  | d :: ds => good d ∧ goods ds
end
mutual
/-- at least as much as its text is long -/
def wt : D → Nat
  | .str x => 10 * x.length + 2
  | .tup ds => wts ds + 3
  | .lst ds => wts ds + 3
  | _ => 64
def wts : List D → Nat
  | [] => 0
  | d :: ds => wt d + 2 + wts ds
end
mutual
def dep : D → Nat
  | .tup ds => deps ds + 1
  | .lst ds => deps ds + 1
  | _ => 0
def deps : List D → Nat
  | [] => 0
  | d :: ds => max (dep d) (deps ds)
end
mutual
def pyd : D → PyData
  | .bl b => .bool b
  | .int i => .int i
  | .str x => .str x
  | .tup ds => .tuple (pyds ds)
  | .lst ds => .list (pyds ds)
  | _ => .none
def pyds : List D → List PyData
  | [] => []
  | d :: ds => pyd d :: pyds ds
end
/-- the text that repr gives -/
def txt (d : D) : Str := (pyd d).shown
theorem small_log {i : Int} (h : -(2 ^ 200) ≤ i ∧ i ≤ 2 ^ 200) : i.natAbs.log2 < 1920 := by
  have h1 : i.natAbs ≤ 2 ^ 200 := by omega
  by_cases h0 : i.natAbs = 0
  · rw [h0]; decide
  · rw [Nat.log2_lt h0]
    exact Nat.lt_of_le_of_lt h1 (by decide)
mutual
theorem good_py : ∀ {d : D}, good d → d.py = some (pyd d)
  | .non, _ => rfl
  | .bl _, _ => rfl
  | .int _, _ => rfl
  | .str _, _ => rfl
  | .tup ds, h => by rw [D.py, goods_py h]; rfl
  | .lst ds, h => by rw [D.py, goods_py h]; rfl
theorem goods_py : ∀ {ds : List D}, goods ds → pys ds = some (pyds ds)
  | [], _ => rfl
  | d :: ds, h => by rw [pys, good_py h.1, goods_py h.2]; rfl
end
mutual
theorem good_lay : ∀ {d : D}, good d → (pyd d).canLay0 = true
  | .non, _ => by simp [pyd, PyData.canLay0]
  | .bl _, _ => by simp [pyd, PyData.canLay0]
  | .int _, _ => by simp [pyd, PyData.canLay0]
  | .str _, h => by simp only [pyd, PyData.canLay0]; exact h
  | .tup ds, h => by simp only [pyd, PyData.canLay0]; exact goods_lay h
  | .lst ds, h => by simp only [pyd, PyData.canLay0]; exact goods_lay h
theorem goods_lay : ∀ {ds : List D}, goods ds → PyData.canLayAll0 (pyds ds) = true
  | [], _ => by simp [pyds, PyData.canLayAll0]
  | d :: ds, h => by simp only [pyds, PyData.canLayAll0, good_lay h.1, goods_lay h.2, Bool.and_self]
end
mutual
theorem good_show : ∀ {d : D}, good d → (pyd d).showable = true
  | .non, _ => by simp [pyd, PyData.showable]
  | .bl _, _ => by simp [pyd, PyData.showable]
  | .int i, h => by simp only [pyd, PyData.showable]; exact decide_eq_true (small_log h)
  | .str _, h => by simp [pyd, PyData.showable]
  | .tup ds, h => by simp only [pyd, PyData.showable]; exact goods_show h
  | .lst ds, h => by simp only [pyd, PyData.showable]; exact goods_show h
theorem goods_show : ∀ {ds : List D}, goods ds → PyData.showableAll (pyds ds) = true
  | [], _ => by simp [pyds, PyData.showableAll]
  | d :: ds, h => by simp only [pyds, PyData.showableAll, good_show h.1, goods_show h.2, Bool.and_self]
end
mutual
theorem dep_py : ∀ {d : D}, good d → (pyd d).depth ≤ dep d + 1
  | .non, _ => by simp [pyd, PyData.depth]
  | .bl _, _ => by simp [pyd, PyData.depth]
  | .int i, h => by simp [pyd, PyData.depth]
  | .str _, h => by simp [pyd, PyData.depth]
  | .tup ds, h => by simp only [pyd, PyData.depth, dep]; have := deps_py (ds := ds) h; omega
  | .lst ds, h => by simp only [pyd, PyData.depth, dep]; have := deps_py (ds := ds) h; omega
theorem deps_py : ∀ {ds : List D}, goods ds → PyData.depthAll (pyds ds) ≤ deps ds + 1
  | [], _ => by simp [pyds, PyData.depthAll]
  | d :: ds, h => by
    simp only [pyds, PyData.depthAll, deps]
    have h1 := dep_py h.1
    have h2 := deps_py h.2
    omega
end
mutual
theorem wt_py : ∀ {d : D}, good d → (pyd d).shown.length ≤ wt d
  | .non, _ => by simp only [pyd, PyData.shown, wt]; decide +kernel
  | .bl b, _ => by cases b <;> (simp only [pyd, PyData.shown, wt]; decide +kernel)
  | .int i, h => by
    simp only [pyd, PyData.shown, wt]
    have h0 : -(2 ^ 200) ≤ i ∧ i ≤ 2 ^ 200 := h
    have h1 : i.natAbs < 10 ^ 61 := Nat.lt_of_le_of_lt (show i.natAbs ≤ 2 ^ 200 by omega) (by decide)
    have h2 := int_text_length_le10 (a := i) (k := 61) (by decide) h1
    rw [← PySem.ofString_length] at h2
    omega
  | .str x, h => by
    simp only [pyd, PyData.shown, wt]
    refine StrLaws.reprText_len x fun c hc => ?_
    have h1 : x.cps.all (· < 0x110000) = true := h
    have h2 := Array.all_eq_true_iff_forall_mem.mp h1 c (by simpa using hc)
    have h3 : c < 0x110000 := by simpa using h2
    exact Nat.lt_trans h3 (by decide)
  | .tup ds, h => by
    simp only [pyd, PyData.shown, wt]
    have h1 := tupleText_len_le (PyData.shownAll (pyds ds))
    have h2 := wts_py (ds := ds) h
    omega
  | .lst ds, h => by
    simp only [pyd, PyData.shown, wt]
    have h1 := listText_len_le (PyData.shownAll (pyds ds))
    have h2 := wts_py (ds := ds) h
    omega
theorem wts_py : ∀ {ds : List D}, goods ds → ((PyData.shownAll (pyds ds)).map (·.length)).sum + 2 * (PyData.shownAll (pyds ds)).length ≤ wts ds
  | [], _ => by simp [pyds, PyData.shownAll, wts]
  | d :: ds, h => by
    simp only [pyds, PyData.shownAll, wts, List.map_cons, List.sum_cons, List.length_cons]
    have h1 := wt_py h.1
    have h2 := wts_py h.2
    omega
end
mutual
theorem eqv_refl : ∀ {d : D}, good d → PyData.eqv (pyd d) (pyd d) = true
  | .non, _ => by simp [pyd, PyData.eqv]
  | .bl b, _ => by cases b <;> simp [pyd, PyData.eqv]
  | .int i, h => by simp [pyd, PyData.eqv]
  | .str _, h => by simp [pyd, PyData.eqv]
  | .tup ds, h => by simp only [pyd, PyData.eqv]; exact eqvs_refl h
  | .lst ds, h => by simp only [pyd, PyData.eqv]; exact eqvs_refl h
theorem eqvs_refl : ∀ {ds : List D}, goods ds → PyData.eqvAll (pyds ds) (pyds ds) = true
  | [], _ => by simp [pyds, PyData.eqvAll]
  | d :: ds, h => by simp only [pyds, PyData.eqvAll, eqv_refl h.1, eqvs_refl h.2, Bool.and_self]
end

section
variable {X : Cx} {J : Gh} {e a b c o : Expr} {es : List Expr} {ρ ρ' : DEnv} {M M' : Mem} {F F' H H' : Hp} {σ : St} {B : Bd} {K : PySem.W.Frag} {pos p apos cpos : Pos} {x : Str} {P : D → Mem → Prop}
def rReprD (K : PySem.W.Frag) : List V → Hp → VK → Prop := fun xs H Q => ∃ y z, xs = [y] ∧ Dp K H y z ∧ z.showable = true ∧ z.hasDict = false ∧ z.depth ≤ 60 ∧ z.shown.length ≤ sizeLine ∧ Q (.str z.shown) H
theorem shaped_good {d : D} (h : good d) (hd : dep d ≤ 50) : SeqAt.shaped (pyd d) = true := by
  have := dep_py h
  unfold SeqAt.shaped
  rw [good_lay h, Bool.true_and]
  exact decide_eq_true (by omega)
/-- == of data -/
def eqD (d1 d2 : D) : Bool := PyData.eqv (pyd d1) (pyd d2)
theorem eqD_refl {d : D} (h : good d) : eqD d d = true := eqv_refl h
/-- at h stands d; with another in its place the memory is f of it -/
structure At (M : Mem) (h : Addr) (d : D) (f : D → Mem) : Prop where
  get : M h = some d
  set : ∀ d', f d' = up M h d'
theorem at0 {h : Addr} {d : D} : At (up M h d) h d (fun d' => up M h d') := ⟨up_same, fun _ => up_up.symm⟩
theorem at1 {h q : Addr} {d l : D} {f : D → Mem} (hq : h ≠ q) (A : At M h d f) : At (up M q l) h d (fun d' => up (f d') q l) :=
  ⟨by rw [up_ne hq]; exact A.get, fun d' => by rw [A.set, up_comm hq]⟩
/-- x.append(e) -/
theorem tyV_lst {K : PySem.W.Frag} {a : Addr} {xs : List V} {H : Hp} (h : H a = some (.lst xs)) : tyV K "list" (.ref a) H := Or.inl ⟨rfl, _, Or.inl (Or.inl h)⟩
theorem ex_append (h : EX X J o ρ M fun d M1 => ∃ q ds1, d = .adr q ∧ M1 q = some (.lst ds1) ∧ AX X J [e] ρ M1 fun ys M2 => ∃ y ds f, ys = [y] ∧ At M2 q (.lst ds) f ∧ ds.length < 1000000 ∧ P .non (f (.lst (ds ++ [y]))))
    (hbase : attributeBase o "append" X.env (eval o X.env) = eval o X.env := by rfl)
    (few : ((backTo cpos (starEach [e] X.env)).all (fun x => !x.1) && (backToKw cpos (keywordEach [] X.env)).all (fun x => x.1.isSome) && decide ([e].length + ([] : List Keyword).length + (if ([] : List Keyword).isEmpty then 0 else 1) < 30)) = true := by rfl)
    (line : (apos.endLine == cpos.line) = true := by rfl) (hst : starEach [e] X.env = (false, eval e X.env) :: starEach [] X.env := by rfl) (hpl : (backTo cpos (starEach [] X.env)).any (·.1) = false := by rfl) :
    EX X J (.Call (.Attribute o "append" apos) [e] [] cpos) ρ M P :=
  ex_of (pe_bm PySem.F.plainAttrs_list PySem.F.slot_list_append PySem.F.type_list_append mt_append pe_any pa_any hbase few line hst hpl) fun F σ H Q st k => h.go st fun d v M1 F1 H1 q1 e1 o1 r1 => by
    obtain ⟨q, ds1, rfl, hq, q2⟩ := q1
    cases r1
    obtain ⟨_, xs1, hx1, _⟩ := o1.mt _ _ hq
    refine ⟨tyV_lst hx1, q2.go (st.to e1 o1) fun ys vs M2 F2 H2 q3 e2 o2 r2 => ?_⟩
    obtain ⟨y, ds, f, rfl, hA, hz, q3⟩ := q3
    cases r2 with
    | cons r2 r3 =>
      cases r3
      obtain ⟨_, xs, hx, rx⟩ := o2.mt _ _ hA.get
      refine ⟨q, xs, _, rfl, rfl, hx, by rw [rx.length, sizeLine_eq]; omega, k _ _ _ _ _ q3 (e1.trans e2) ?_ .non⟩
      rw [hA.set]
      exact o2.set (o := .lst (xs ++ [_])) hA.get ⟨_, upd_same, rx.append (.cons r2 .nil)⟩
/-- x[i] = e -/
theorem g1_setIx {tp : Pos} (h : EX X J e ρ M fun y M1 => EX X J o ρ M1 fun d M2 => EX X J a ρ M2 fun i M3 => ∃ q ds f n m, d = .adr q ∧ i = .int n ∧ At M3 q (.lst ds) f ∧ ixN ds.length n = some m ∧ B.nx ρ (f (.lst (ds.set m y))))
    (hs : swapsWithSole [.Subscript o a tp] e pos.line X.env = pure false := by rfl) (hw : swappedStores [.Subscript o a tp] e X.env = pure none := by rfl)
    (h1 : (assignEach [.Subscript o a tp] X.env).map (·.2) = [assign (.Subscript o a tp) X.env] := by rfl)
    (ha : ∀ v, assign (.Subscript o a tp) X.env v = (do let ov ← holding [v] (eval o X.env); let iv ← holding [v, ov] (eval a X.env); standAt tp; holding [v, ov, iv] (setItem ov iv v); release [v, ov, iv] []) := by intro _; rfl) : G1 X J (.Assign [.Subscript o a tp] e pos) ρ M B :=
  g1_of (ps_asg pe_any (pg_sub pe_any pe_any set_list ha) hs hw h1) fun F σ H E s k => h.go s fun y v M1 F1 H1 q1 e1 o1 r1 => q1.go (s.to e1 o1) fun d w M2 F2 H2 q2 e2 o2 r2 => q2.go (s.to (e1.trans e2) o2) fun i u M3 F3 H3 q3 e3 o3 r3 => by
    obtain ⟨q, ds, f, n, m, rfl, rfl, hA, hm, q3⟩ := q3
    cases r2; cases r3
    obtain ⟨_, xs, hx, rx⟩ := o3.mt _ _ hA.get
    refine ⟨q, xs, n, m, rfl, rfl, hx, by rw [rx.length]; exact hm, k.nx F3 _ _ _ _ q3 ((e1.trans e2).trans e3) (((s.en.mono e1).mono e2).mono e3) ?_⟩
    rw [hA.set]
    exact o3.set (o := .lst (xs.set m v)) hA.get ⟨_, upd_same, rx.set m ((r1.mono e2).mono e3)⟩

def pick {α : Type} (l : List α) (ix : List Nat) : List α := ix.filterMap fun i => l[i]?
theorem pick_vals {vs : List V} {us : List Value} (r : Vals vs us) : ∀ ix : List Nat, Vals (pick vs ix) (pick us ix)
  | [] => .nil
  | i :: ix => by
    unfold pick
    rw [List.filterMap_cons, List.filterMap_cons]
    cases e : vs[i]? with
    | none => rw [Vals.none_of r e]; exact pick_vals r ix
    | some v =>
      obtain ⟨u, h1, h2⟩ := r.get e
      rw [h1]
      exact .cons h2 (pick_vals r ix)
theorem pick_rps {vs : List V} {ds : List D} (r : Rps K F vs ds) : ∀ ix : List Nat, Rps K F (pick vs ix) (pick ds ix)
  | [] => .nil
  | i :: ix => by
    unfold pick
    rw [List.filterMap_cons, List.filterMap_cons]
    cases e : vs[i]? with
    | none =>
      have : ds[i]? = none := by
        rw [List.getElem?_eq_none_iff] at e ⊢
        rw [← r.length]; exact e
      rw [this]; exact pick_rps r ix
    | some v =>
      obtain ⟨d, h1, h2⟩ := r.getV e
      rw [h1]
      exact .cons h2 (pick_rps r ix)
theorem pk_any {kws : List Keyword} : PK X kws (tKe X kws) := ⟨fun pos pins s σ H Q I ⟨t, h, q⟩ => h.run pos pins s σ H Q I q⟩
theorem kx_nil {P : List D → Mem → Prop} (q : P [] M) : KX X J [] ρ M P := ⟨fun pos pins s σ H Q I ⟨F, st, k⟩ => pk_nil.run pos pins s σ H Q I (k [] [] M F H q (Same.refl F) st.ok .nil)⟩
theorem kx_cons {kws : List Keyword} {nm : Option Str} {kpos : Pos} {P : List D → Mem → Prop} (h : EX X J e ρ M fun d M1 => KX X J kws ρ M1 fun ds M2 => P (d :: ds) M2) : KX X J (⟨nm, e, kpos⟩ :: kws) ρ M P :=
  ⟨fun pos pins s σ H Q I ⟨F, st, k⟩ => (pk_cons pe_any pk_any).run pos pins s σ H Q I (h.go st fun d v M1 F1 H1 q e1 o1 r1 => KX.go q (st.to e1 o1) fun ds vs M2 F2 H2 q2 e2 o2 r2 => k _ _ M2 F2 H2 q2 (e1.trans e2) o2 (.cons (r1.mono e2) r2))⟩
theorem cd_min2 {i j : Int} (hc : X.calm = true) (q : P (.int (if j < i then j else i)) M) : CD X (.builtin "min") [.int i, .int j] M P :=
  ⟨_, call_min2 hc, fun F H vs Q o r k => by
    cases r with
    | cons h1 r =>
      cases r with
      | cons h2 r => cases r; cases h1; cases h2; exact ⟨i, j, rfl, k.here q o (.int _)⟩⟩
theorem cd_all {d : D} {bs : List Bool} (hc : X.calm = true) (s : Sl M d (bs.map D.bl)) (q : P (.bl (bs.all id)) M) : CD X (.builtin "all") [d] M P :=
  ⟨_, cr_all hc, fun F H vs Q o r k => by
    cases r with
    | cons h1 r =>
      cases r
      obtain ⟨a, xs, rfl, h2, r2⟩ := s.get o h1
      exact ⟨a, bs, rfl, by rw [← r2.bls]; exact SqL.of h2, k.here q o (.bl _)⟩⟩
end
end DX
namespace DX
open PySem PySem.Spec L2
theorem le_b {m n : Nat} (h : Nat.ble m n = true) : m ≤ n := Nat.le_of_ble_eq_true h
section
variable {X : Cx} {J : Gh} {e a b c o : Expr} {es : List Expr} {st : Stmt} {ρ ρ' : DEnv} {M M' : Mem} {F F' H H' : Hp} {σ : St} {B : Bd} {K : PySem.W.Frag} {pos p apos cpos : Pos} {x : Str} {P : D → Mem → Prop}
/-- a word between a statement and the rest -/
theorem g1_mid (Mid : DEnv → Mem → Prop) (h : G1 X J st ρ M (B.thn Mid)) (k : ∀ ρ' M', Mid ρ' M' → B.nx ρ' M') : G1 X J st ρ M B :=
  g1_of h fun F σ H E st kd => ⟨F, st, fun F' σ' H' ρ' M' q => kd.nx F' σ' H' ρ' M' (k _ _ q), kd.rt, kd.bk, kd.ct⟩
/-- the script's first items, as a list -/
theorem sd_scr {ns : List Int} {k : Nat} (q : P (.lst ((ns.take k).map D.int)) M) : SD X (.scr ns) none (some (k : Int)) M P :=
  ⟨_, sl_list, fun F H v Q o rx kt => by
    cases rx with
    | scr h =>
      refine ⟨_, _, rfl, same_l o.ex h, fun q' hq => kt _ _ _ _ _ q (o.fixSame hq) (o.fix hq) (.lst upd_same ?_)⟩
      have e1 : cutV (ns.map V.int) none (some (k : Int)) = (ns.take k).map V.int := by
        unfold cutV
        rw [HT.sIx_none, HT.sIx_nat, Nat.sub_zero, List.drop_zero, List.map_take, List.length_map]
        by_cases hk : k ≤ ns.length
        · rw [Nat.min_eq_left hk]
        · rw [Nat.min_eq_right (by omega), List.take_of_length_le (by simp), List.take_of_length_le (by simp; omega)]
      rw [e1]
      exact Rps.ofInts⟩
theorem pyds_ints : ∀ ns : List Int, pys (ns.map D.int) = some (ns.map PyData.int)
  | [] => rfl
  | n :: ns => by rw [List.map_cons, pys, pyds_ints ns]; rfl
theorem lay_ints : ∀ ns : List Int, PyData.canLayAll0 (ns.map PyData.int) = true
  | [] => by simp [PyData.canLayAll0]
  | n :: ns => by simp only [List.map_cons, PyData.canLayAll0, PyData.canLay0, lay_ints ns, Bool.and_self]
theorem dep_ints : ∀ ns : List Int, PyData.depthAll (ns.map PyData.int) ≤ 1
  | [] => by simp [PyData.depthAll]
  | n :: ns => by have := dep_ints ns; simp only [List.map_cons, PyData.depthAll, PyData.depth]; omega
theorem shaped_ints (ns : List Int) : SeqAt.shaped (.list (ns.map PyData.int)) = true := by
  have := dep_ints ns
  unfold SeqAt.shaped
  rw [Bool.and_eq_true]
  exact ⟨by simp only [PyData.canLay0]; exact lay_ints ns, decide_eq_true (by simp only [PyData.depth]; omega)⟩
end

def hand (s : Hs) : D := .lst [.lst (s.cells.map D.int), .int s.at_, .int s.gr]
/-- a draw: any number below the bound -/
def trTake : Tr := fun ds M P => ∃ h s b M0 n, ds = [.adr h, .int b] ∧ M = up M0 h (hand s) ∧ HOk s n ∧ n ≤ 1000000 ∧ (0 < b ∧ b < 1000000000) ∧ ∀ k s', 0 ≤ k → k < b → HOk s' (n + 1) → P (.int k) (up M0 h (hand s'))
def trBegin : Tr := fun ds M P => ∃ ns, ds = [.scr ns] ∧ ∀ h s, M h = none → HOk s 0 → P (.adr h) (up M h (hand s))
theorem law_start {T : Tr} (hT : ∀ ns M P, (∀ M', P (.bl true) M') → T [.scr ns] M P) {K : PySem.W.Frag} {H : Hp} {a : Addr} {ns : List Int} (hS : SqL K H a (ns.map V.int)) : ∃ F M ds, Ok K F M H ∧ Rps K F [.ref a] ds ∧ T ds M fun d _ => d = .bl true :=
  ⟨H, fun _ => none, [.scr ns], ⟨Same.refl H, fun a d e => by cases e⟩, .cons (.scr hS) .nil, hT ns _ _ fun _ => rfl⟩
end DX
namespace DX
open PySem PySem.Spec L2
def isi (n : String) (d : D) : Bool := (kn d == n) || (kn d == "bool" && n == "int")
theorem kit_names : ∀ a ∈ ["NoneType", "bool", "int", "str", "tuple", "list", "dict"], ∀ n ∈ ["int", "bool", "str", "tuple", "list", "dict"], kitB a n = some ((a == n) || (a == "bool" && n == "int")) := by decide +kernel
section
variable {X : Cx} {J : Gh} {e a b c o : Expr} {es : List Expr} {st : Stmt} {ρ ρ' : DEnv} {M M' : Mem} {F F' H H' : Hp} {σ : St} {B : Bd} {K : PySem.W.Frag} {pos p apos cpos : Pos} {x : Str} {P : D → Mem → Prop}
theorem cd_isi {d : D} {n : String} (hn : n ∈ ["int", "bool", "str", "tuple", "list", "dict"]) (h : plain d = true) (q : P (.bl (isi n d)) M) : CD X (.builtin "isinstance") [d, .ty n] M P :=
  ⟨_, call_isi, fun F H vs Q ok r k => by
    cases r with
    | cons h1 r =>
      cases r with
      | cons h2 r =>
        cases r
        cases h2
        exact ⟨_, _, _, _, _, rfl, .ty n, ty_of h ok.ex h1, kit_ty (kit_names _ (kn_mem d) _ hn), k.here q ok (.bl _)⟩⟩
/-- a built-in type by its name -/
theorem ex_tyn {n : String} (hm : X.mg x = none) (hv : bootBuiltins x = some (.type n)) (q : P (.ty n) M) (hg : Gl X x := by rfl) (hn : x ≠ "__name__" := by decide) (hd : (x == ("__debug__" : Str)) = false := by decide) : EX X J (.Name x pos) ρ M P :=
  ex_of (pe_bltn (v := .ty n) hg hm hv rfl hn hd) fun F σ H Q st k => k.here q st.ok (.ty n)
theorem bb_bool : bootBuiltins "bool" = some (.type "bool") := by decide +kernel
/-- a text, a tuple of the module by its name -/
theorem ex_gstr {z : Str} (hm : ∃ t, X.mg x = some (.str z t)) (q : P (.str z) M) (hg : Gl X x := by rfl) (hd : (x == ("__debug__" : Str)) = false := by decide) : EX X J (.Name x pos) ρ M P := by
  obtain ⟨t, h⟩ := hm
  exact ex_glob (v := .str z) hg h ⟨t, rfl⟩ (fun F => .str z) q hd
theorem ex_gint {z : Int} (hm : ∃ t, X.mg x = some (.int z t)) (q : P (.int z) M) (hg : Gl X x := by rfl) (hd : (x == ("__debug__" : Str)) = false := by decide) : EX X J (.Name x pos) ρ M P := by
  obtain ⟨t, h⟩ := hm
  exact ex_glob (v := .int z) hg h ⟨t, rfl⟩ (fun F => .int z) q hd
theorem ex_gtup {a : Addr} {xs : List V} {ds : List D} (hm : X.mg x = some (.ref a)) (ht : ∀ F, SqT X.K F a xs) (hr : ∀ F, Rps X.K F xs ds) (q : P (.tup ds) M) (hg : Gl X x := by rfl) (hd : (x == ("__debug__" : Str)) = false := by decide) : EX X J (.Name x pos) ρ M P :=
  ex_glob (v := .ref a) hg hm rfl (fun F => .tup (ht F) (hr F)) q hd
end
end DX
namespace DX
open PySem PySem.Spec L2
section
variable {X : Cx} {J : Gh} {e : Expr} {ρ : DEnv} {M : Mem} {P : D → Mem → Prop}
end
/-- adding bit by bit: the sum of the low parts -/
def low (a b c : Int) (i : Nat) : Int := a % 2 ^ i + b % 2 ^ i + c
end DX
namespace DX
open PySem PySem.Spec L2
open PyProof.Rows hiding St
section
variable {X : Cx} {J : Gh} {e a b c o : Expr} {es : List Expr} {ρ : DEnv} {M : Mem} {F F' H H' : Hp} {σ : St} {K : PySem.W.Frag} {pos p apos cpos : Pos} {P : D → Mem → Prop}
def toS : D → Str
  | .str z => z
  | _ => Str.empty
def AllS (ds : List D) : Prop := (ds.map toS).map D.str = ds
def sizeJ (ds : List D) : Nat := ((ds.map toS).map (·.length)).sum
theorem ex_revL {k : Nat} {p1 p2 p3 : Pos} (h : EX X J e ρ M fun d M1 => ∃ ds, Sl M1 d ds ∧ P (.lst ds.reverse) M1) : EX X J (.Subscript e (.Slice none none (some (.UnaryOp .USub (.Constant (.int 1) k p1) p2)) p3) pos) ρ M P :=
  ex_of (pe_revL pe_any) fun F σ H Q st k => h.go st fun d v M1 F1 H1 q e1 o1 r1 => by
    obtain ⟨ds, s, q⟩ := q
    obtain ⟨p, xs, rfl, h2, r2⟩ := s.get o1 r1
    exact ⟨p, xs, rfl, SqL.of h2, fun l hl => k _ _ _ _ _ q (e1.trans (o1.fixSame hl)) (o1.fix hl) (.lst upd_same (Rps.mono (o1.fixSame hl) (rps_rev r2)))⟩
where
  rps_rev {K : PySem.W.Frag} {F : Hp} : ∀ {xs : List V} {ds : List D}, Rps K F xs ds → Rps K F xs.reverse ds.reverse
    | _, _, .nil => .nil
    | _, _, .cons h r => by
      rw [List.reverse_cons, List.reverse_cons]
      exact Rps.append (rps_rev r) (.cons h .nil)
def rngC (a c : Int) (n : Nat) : List D := (List.range n).map fun (i : Nat) => D.int (a + (i : Int) * c)
theorem rngC_one {a : Int} {n : Nat} : rngC a 1 n = rngD a n := by unfold rngC rngD; simp only [Int.mul_one]
def PRc (X : Cx) (e : Expr) (t : St → Hp → (Int → Int → Nat → Hp → Prop) → Prop) : Prop :=
  ∀ (pins : List (Addr × Obj)) (s : Shared) (σ : St) (H : Hp) (Q : Int → Int → Nat → Hp → Prop), Inv X pins σ H s → t σ H Q →
    wpAny (model X.prog X.w) X.A (eval e X.env) (fun x s' => ∃ r a b c n t u v H', x = .ref r ∧ IsRange s'.heap r a b c t u v ∧ RgC a b c n ∧ n ≤ 2 ^ 24 ∧ Inv X pins σ H' s' ∧ Q a c n H') X.xe s
def tRc (ta : TA) : St → Hp → (Int → Int → Nat → Hp → Prop) → Prop := fun σ H Q => ta σ H fun vs H1 => ∃ i j c n, (vs = [.int i, .int j, .int c] ∨ (vs = [.int i, .int j] ∧ c = 1) ∨ (vs = [.int j] ∧ i = 0 ∧ c = 1)) ∧ RgC i j c n ∧ n ≤ 2 ^ 24 ∧ Q i c n H1
theorem rgc_pos {i j : Int} (ha : -(2 ^ 62) ≤ i) (ha' : i < 2 ^ 62) (hb : -(2 ^ 62) ≤ j) (hb' : j < 2 ^ 62) : RgC i j 1 (j - i).toNat :=
  ⟨by decide, by decide, small_one ha ha' hb hb', rangeSize_nat i j⟩
theorem prc {ta : TA} (hg : Gl X "range") (hm : X.mg "range" = none) (ha : PA X (a :: es) ta)
    (hs : starEach (a :: es) X.env = (false, eval a X.env) :: starEach es X.env := by rfl) (hpl : (backTo pos (starEach es X.env)).any (·.1) = false := by rfl) :
    PRc X (.Call (.Name "range" p) (a :: es) [] pos) (tRc ta) := by
  intro pins s σ H Q I h
  refine Call_ (ld_blt I hg hm boot_range (callWith_type1 (thn (ha.run pos pins s σ H _ I h) fun us s1 ⟨vs, H1, I1, r1, q1⟩ => ?_) hs hpl))
  obtain ⟨i, j, c, n, e, hc, hn, q⟩ := q1
  rcases e with e | ⟨e, ec⟩ | ⟨e, ei, ec⟩
  · subst e
    cases r1 with
    | cons r rr =>
      cases rr with
      | cons r' rr =>
        cases rr with
        | cons r'' rr =>
          cases rr
          obtain ⟨t, rfl⟩ := r
          obtain ⟨t', rfl⟩ := r'
          obtain ⟨t'', rfl⟩ := r''
          exact call_range_3 hc.1 ⟨_, i, j, c, n, _, _, _, H1, rfl, IsRange.new .., hc, hn, I1.kept (t' := s1.toks) fun b o e => Heap.get?_push_of_some _ e, q⟩ (.inl (PyProof.noPylong_small hc.2.1))
  · subst e ec
    cases r1 with
    | cons r rr =>
      cases rr with
      | cons r' rr =>
        cases rr
        obtain ⟨t, rfl⟩ := r
        obtain ⟨t', rfl⟩ := r'
        exact call_range_2 ⟨_, i, j, 1, n, _, _, _, H1, rfl, IsRange.new .., hc, hn, I1.kept fun b o e => Heap.get?_push_of_some _ e, q⟩
  · subst e ei ec
    cases r1 with
    | cons r rr =>
      cases rr
      obtain ⟨t, rfl⟩ := r
      exact call_range_1 ⟨_, 0, j, 1, n, _, _, _, H1, rfl, IsRange.new .., hc, hn, I1.kept fun b o e => Heap.get?_push_of_some _ e, q⟩
def rgC (a c : Int) (n : Nat) : List V := (List.range n).map fun (i : Nat) => V.int (a + (i : Int) * c)
theorem rps_rgC {a c : Int} {n : Nat} : Rps K F (rgC a c n) (rngC a c n) := by
  unfold rgC rngC
  induction (List.range n) with
  | nil => exact .nil
  | cons i r ih => exact .cons (.int _) ih
theorem vals_rgC {a c : Int} {n : Nat} {acc : Array Value} (h : ItemsOf (fun i v => ∃ t, v = .int (a + i * c) t) acc n) : Vals (rgC a c n) acc.toList := by
  have e : acc.toList.length = n := by rw [Array.length_toList]; exact h.1
  unfold rgC
  rw [← e]
  refine vals_of_get acc.toList _ fun j u hj => ?_
  obtain ⟨t, rfl⟩ := h.2 j u (by rw [← hj, Array.getElem?_toList])
  exact ⟨t, rfl⟩
theorem rgC_len {a c : Int} {n : Nat} : (rgC a c n).length = n := by simp [rgC]
def tLstRc (te : St → Hp → (Int → Int → Nat → Hp → Prop) → Prop) : TE := fun σ H Q => te σ H fun a c n H1 => ∀ q, H1 q = none → Q (.ref q) (upd H1 q (.lst (rgC a c n)))
def tTupRc (te : St → Hp → (Int → Int → Nat → Hp → Prop) → Prop) : TE := fun σ H Q => te σ H fun a c n H1 => ∀ q, H1 q = none → Q (.ref q) (upd H1 q (.tup (rgC a c n)))
variable {te : St → Hp → (Int → Int → Nat → Hp → Prop) → Prop}
theorem pe_lstRc (hc : X.calm = true) (hg : Gl X "list") (hm : X.mg "list" = none) (he : PRc X e te) (na : starEach [e] X.env = (false, eval e X.env) :: starEach [] X.env := by rfl) : PE X (.Call (.Name "list" p) [e] [] pos) (tLstRc te) := by
  refine ⟨fun pins s σ H Q I h => ?_⟩
  refine Call_ (ld_blt I hg hm boot_list (callWith_type1 (args_cons (thn (he pins s σ H _ I h) fun x s1 ⟨r, a, b, c, n, t, u, v, H1, ex, hr, ok, hn, I1, q⟩ => args_nil ?_) na) na))
  subst ex
  refine call_list_range (n := n) (I1.ok.hd hc) hr ok.2.2.1 ok.2.2.2 hn fun h' tk acc c' hk e' hi => ?_
  refine ⟨.ref s1.heap.objs.size, upd H1 s1.heap.objs.size (.lst (rgC a c n)), I1.laid hk (Nat.le_refl _) (show ObjOk X.prog X.w _ _ _ (.lst (rgC a c n)) from ⟨?_, acc.toList, c', vals_rgC hi, ?_⟩), rfl, q _ (I1.hok.fresh (Nat.le_refl _))⟩
  · rw [rgC_len, sizeLine_eq]; omega
  · rw [Array.toArray_toList]; exact e'
/-- what range is asked -/
def Rg (ds : List D) (i c : Int) (n : Nat) : Prop := ∃ j, (ds = [.int i, .int j, .int c] ∨ (ds = [.int i, .int j] ∧ c = 1) ∨ (ds = [.int j] ∧ i = 0 ∧ c = 1)) ∧ RgC i j c n ∧ n ≤ 2 ^ 24
theorem rg1 {j : Int} (h : -16777216 ≤ j ∧ j ≤ 16777216) : Rg [.int j] 0 1 j.toNat := ⟨j, .inr (.inr ⟨rfl, rfl, rfl⟩), by have := rgc_pos (i := 0) (j := j) (by omega) (by omega) (by omega) (by omega); rwa [Int.sub_zero] at this, by omega⟩
theorem rg2 {i j : Int} (h : (0 ≤ i ∧ i ≤ 16777216) ∧ -16777216 ≤ j ∧ j ≤ 16777216) : Rg [.int i, .int j] i 1 (j - i).toNat := ⟨j, .inr (.inl ⟨rfl, rfl⟩), rgc_pos (by omega) (by omega) (by omega) (by omega), by omega⟩
theorem rg3 {i j : Int} (h : (-1000000 ≤ i ∧ i ≤ 1000000) ∧ -1000000 ≤ j ∧ j ≤ 1000000) : Rg [.int i, .int j, .int (-1)] i (-1) (i - j).toNat := ⟨j, .inl rfl, RgC.neg (by omega) (by omega) (by omega) (by omega), by omega⟩
theorem Rg.raw {ds : List D} {vs : List V} {i c : Int} {n : Nat} (h : Rg ds i c n) (r : Rps K F vs ds) : ∃ i' j c' n', (vs = [.int i', .int j, .int c'] ∨ (vs = [.int i', .int j] ∧ c' = 1) ∨ (vs = [.int j] ∧ i' = 0 ∧ c' = 1)) ∧ RgC i' j c' n' ∧ n' ≤ 2 ^ 24 ∧ i' = i ∧ c' = c ∧ n' = n := by
  obtain ⟨j, h, hr, hn⟩ := h
  rcases h with rfl | ⟨rfl, hc⟩ | ⟨rfl, hi, hc⟩
  · cases r with | cons h1 r => cases r with | cons h2 r => cases r with | cons h3 r => cases r; cases h1; cases h2; cases h3; exact ⟨i, j, c, n, .inl rfl, hr, hn, rfl, rfl, rfl⟩
  · cases r with | cons h1 r => cases r with | cons h2 r => cases r; cases h1; cases h2; exact ⟨i, j, c, n, .inr (.inl ⟨rfl, hc⟩), hr, hn, rfl, rfl, rfl⟩
  · cases r with | cons h1 r => cases r; cases h1; exact ⟨i, j, c, n, .inr (.inr ⟨rfl, hi, hc⟩), hr, hn, rfl, rfl, rfl⟩
end
end DX
namespace DX
open PySem PySem.Spec L2
open SX
section
variable {X : Cx} {J : Gh} {M : Mem} {P : D → Mem → Prop}
def isS (c : Nat) : Prop := c = 71 ∨ c = 75 ∨ c = 80
def sgl (L : List Nat) : List D := L.map fun c => D.str (S [c])
theorem tl_S {l : List Nat} : (S l).cps.toList = l := rfl
def stp (l : List Nat) (p : Int) : Nat := l.getD (l.length - 1 - p.toNat) 0
def firstS (l : List Nat) : List Int → Nat
  | [] => 80
  | p :: ps => if stp l p = 80 then firstS l ps else stp l p
def carryS (c : Nat) : Int := if c = 71 then 1 else 0
def down (a b : Int) : List Int := (List.range (a - b).toNat).map fun (i : Nat) => a + (i : Int) * (-1)
def dueP (n o : Int) (r : Bool) : List Int := if r then down o 0 ++ down n o else down o (-1)
def upto (a b : Int) : List Int := (List.range (b - a).toNat).map fun (i : Nat) => a + (i : Int)
def isRing (l : List Nat) : Bool := decide (stp l 0 = 80)
def trueS (l : List Nat) (o : Int) : Int := carryS (firstS l (dueP ((l.length : Int) - 1) o (isRing l)))
def trueAll (l : List Nat) : List Int := (upto (if isRing l then 1 else 0) ((l.length : Int) - 1 + 1)).map (trueS l)
theorem lit_G : ("G" : Str) = S [71] := by decide
theorem lit_K : ("K" : Str) = S [75] := by decide
theorem lit_P : ("P" : Str) = S [80] := by decide
end
end DX
namespace DX
open PySem PySem.Spec L2
open SX
section
variable {X : Cx} {J : Gh} {M : Mem} {P : D → Mem → Prop}
def cutA {α : Type} (xs : List α) (lo hi : Option Int) : List α := (xs.drop (HT.sIx xs.length 0 lo)).take (HT.sIx xs.length xs.length hi - HT.sIx xs.length 0 lo)
theorem sd_str {z : Str} {l u : Option Int} (hz : z.cps.toList.length ≤ 1000000) (p : P (.str (S (cutA z.cps.toList l u))) M) : SD X (.str z) l u M P :=
  ⟨_, sl_str, fun F H v Q o rx k => by
    cases rx
    have hl : z.length = z.cps.toList.length := by unfold Str.length; rw [Array.length_toList]
    refine ⟨z, rfl, by rw [sizeLine_eq]; omega, ?_⟩
    have e : cutS z l u = S (cutA z.cps.toList l u) := by unfold cutS cutA; rw [hl]
    rw [e]
    exact k.here p o (.str _)⟩
/-- the state that two bits make -/
def ltr (x y : Int) : Nat := if x ≠ y then 80 else if x = 1 then 71 else 75
def stL (a b : Int) (n : Nat) : List Nat := (List.range n).map fun i => ltr (a / 2 ^ i % 2) (b / 2 ^ i % 2)
def fA (L : List Nat) (i : Nat) : Int := if L.getD i 0 = 75 then 0 else 1
def fB (L : List Nat) (i : Nat) : Int := if L.getD i 0 = 71 then 1 else 0
end
end DX
namespace DX
open PySem PySem.Spec L2
open SX
section
variable {X : Cx} {J : Gh} {M : Mem} {P : D → Mem → Prop}
def inS (z : Str) (ds : List D) : Bool := ds.any fun d => decide (toS d = z)
theorem inV_strs {z : Str} : ∀ zs : List Str, inV (.str z) (zs.map V.str) = zs.any fun y => decide (y = z)
  | [] => rfl
  | y :: zs => by
    have ih := inV_strs (z := z) zs
    unfold inV at ih ⊢
    rw [List.map_cons, List.any_cons, List.any_cons, ih]
    rfl
end
def lookY (fa : List He.Fa) (fn : List He.DefD) (ex : PySem.W.Frag → Bool) (n : Nat) (g : Addr → Option Obj) : He.AlD × Bool :=
  (He.obsDG n fa fn g, ex (He.frG g (He.asD g n)))
def hookY (n : Nat) (fa : List He.Fa) (fn : List He.DefD) (ex : PySem.W.Frag → Bool) : PySem.W.Hook where
  α := He.AlD × Bool
  obs := fun s => lookY fa fn ex n s.heap.get?
  val := fun _ => (He.valD fn, true)
  says := fun _ h => ∃ K : PySem.W.Frag, K.In h ∧ He.SaysD fa fn K ∧ ex K = true
  of := fun _ _ e => ⟨_, He.frG_in, congrArg Prod.fst e, congrArg Prod.snd e⟩
  keeps := fun _ _ _ ⟨K, hK, c, d⟩ k => ⟨K, PySem.W.Frag.In.keeps hK k, c, d⟩
end DX
namespace DX
open PySem PySem.Spec L2 PyProof.Rows StX

abbrev TrV := List D → List D → Mem → (D → Mem → Prop) → Prop
structure FnV (pg : Program) (w : World) (K : PySem.W.Frag) (mg : Str → Option Value) (base : Heap) (gd : Bool) (k : Nat) (f : Addr) (ks : List Str) (T : TrV) : Prop where
  go : ∀ (A : Around) (outer : List PySem.Env) (s : Shared) (H F : Hp) (M : Mem) (ds zs : List D) (P : D → Mem → Prop) (us ws : List Value) (vs xs : List V) (Q : VK), (gd = true → A.guards = some []) → Room k A → Env0 pg w K mg base A outer s H →
    Vals vs us → Vals xs ws → ws.length = ks.length → Ok K F M H → Rps K F vs ds → Rps K F xs zs → T ds zs M P → Kt K F P Q → codeAny (model pg w) A (.call (.ref f) ⟨us, ks.zip ws⟩) (CR CX0 outer pg w H s Q E0) s
/-- a def's body keeps the promise T of what stands in its parameters -/
def BodyOk (pg : Program) (w : World) (K : PySem.W.Frag) (mg : Str → Option Value) (base : Heap) (gd : Bool) (k : Nat) (f : Addr) (qual : Str) (body : List Stmt) (scope : Scope) (N ps : List Str) (T : Tr) : Prop :=
  ∀ (cdv : Value) (A : Around) (outer : List PySem.Env) (s : Shared) (H : Hp) (ds : List D) (M : Mem) (P : D → Mem → Prop), (gd = true → A.guards = some []) → Room k (A.deeper (PyProof.Rows.envOfC qual scope s.heap.objs.size f cdv)) → T ds M P →
      GX (cxOf CX0 pg w K mg base N qual scope f cdv A outer s H E0).nox Gh.triv body (startD (N.length - ps.length) ds) M ⟨fun _ M' => P .non M', P, fun _ _ => False, fun _ _ => False⟩
section
variable {pg : Program} {w : World} {K : PySem.W.Frag} {mg : Str → Option Value} {base : Heap} {x qual : Str} {params : Arguments} {body : List Stmt} {scope : Scope} {kws : List (Str × V)} {f : Addr} {fd : FuncData} {N pn : List Str} {pv : Str} {k : Nat} {T : Tr} {gd : Bool}
end

section
variable {X : Cx} {J : Gh} {e a b c o : Expr} {es : List Expr} {ρ ρ' : DEnv} {M M' : Mem} {F F' H H' : Hp} {σ : L2.St} {B : Bd} {K : PySem.W.Frag} {pos p apos cpos : Pos} {x : Str} {P : D → Mem → Prop}
def kD : Key → D
  | .inl i => .int i
  | .inr z => .str z
theorem kD_rp {k : Key} {v : V} (r : Rp K F v (kD k)) : v = kV k := by cases k <;> (cases r; rfl)
def mergeD (kvs more : List (Key × D)) : List (Key × D) := more.foldl (fun acc kv => putD acc kv.1 kv.2) kvs
theorem Rks.merge : ∀ {more : List (Key × V)} {rs : List (Key × D)} {vs : List (Key × V)} {ds : List (Key × D)}, Rks K F more rs → Rks K F vs ds → Rks K F (mergeK vs more) (mergeD ds rs)
  | _, _, _, _, .nil, q => q
  | _, _, _, _, .cons (x := kk) h r, q => by have := Rks.merge r (q.put (k := kk) h); exact this
/-- pairs of keys and values -/
def prsD (kvs : List (Key × D)) : List D := kvs.map fun kv => .tup [kD kv.1, kv.2]
theorem prs_of : ∀ {kvs : List (Key × D)} {vs : List V}, Rps K F vs (prsD kvs) → ∃ (ps : List Addr) (ws : List (Key × V)), vs = ps.map V.ref ∧ Paired (fun q kv => SqT K F q [kV kv.1, kv.2]) ps ws ∧ Rks K F ws kvs
  | [], _, .nil => ⟨[], [], rfl, .nil, .nil⟩
  | kv :: kvs, _, .cons h r => by
    obtain ⟨ps, ws, e1, e2, e3⟩ := prs_of r
    cases h with
    | tup h1 r1 =>
      cases r1 with
      | cons a r1 =>
        cases r1 with
        | cons b r1 =>
          cases r1
          rw [kD_rp a] at h1
          exact ⟨_ :: ps, (kv.1, _) :: ws, by rw [e1]; rfl, .cons h1 e2, .cons b e3⟩
theorem paired_mono {R R' : Addr → (Key × V) → Prop} (i : ∀ a b, R a b → R' a b) : ∀ {xs : List Addr} {ys : List (Key × V)}, Paired R xs ys → Paired R' xs ys
  | _, _, .nil => .nil
  | _, _, .cons h r => .cons (i _ _ h) (paired_mono i r)
/-- the values of pairs, as they stand -/
def PW (h : Heap) (prs : List (Key × Value)) (Ts : List Addr) : Prop := True
/-- dict(xs) of a tuple of pairs whose object is known -/
theorem call_dictT (hcalm : X.calm = true) : CallR X (.type "dict") (fun xs H Q => ∃ (a : Addr) (ob : Obj) (ps : List Addr) (kvs : List (Key × V)), xs = [.ref a] ∧ H a = some (.frz ob (.tup (ps.map V.ref))) ∧ ob.cls = .type "tuple" ∧ ob.dict = none ∧ Paired (fun p kv => SqT X.K H p [kV kv.1, kv.2]) ps kvs ∧
    ∀ p, H p = none → Q (.ref p) (upd H p (.dK (mergeK [] kvs)))) := by
  intro pins s σ H xs us Q I r q
  obtain ⟨a, ob, ps, kvs, ex, hq, hoc, hod, hp, q⟩ := q
  subst ex
  obtain ⟨u, eu, rx⟩ := vals1 r
  subst eu
  cases rx
  obtain ⟨hget, hz, its, rv, ⟨o2, ho2, hc2, n, hdat⟩⟩ := I.hok a _ hq
  rw [hget] at ho2
  cases ho2
  have ei := refs_at rv
  subst ei
  rw [List.length_map] at hz
  obtain ⟨prs, rel, hl, hpr⟩ := pairs_of I hp
  have hpr' : ∀ (j : Nat) (q : Key × Value), prs[j]? = some q → ∃ u : Value, (ps.map Value.ref).toArray[j]? = some (.ref (ps.getD j 0)) ∧ IsTup s.heap (ps.getD j 0) #[u, q.2] ∧ keyIs q.1 u = true := by
    intro j q e
    obtain ⟨b, u, e1, e2, e3⟩ := hpr j q e
    have eb : ps.getD j 0 = b := by rw [List.getD_eq_getElem?_getD, e1]; rfl
    exact ⟨u, by simp [e1, eb], by rw [eb]; exact e2, e3⟩
  have key : ∃ pv : List (Value × Value), pv.length = prs.length ∧ ∀ (j : Nat) (kk v : Value), pv[j]? = some (kk, v) → ∃ kx, prs[j]? = some (kx, v) ∧ keyIs kx kk = true ∧ IsTup s.heap (ps.getD j 0) #[kk, v] := by
    have : ∀ (L : List (Key × Value)) (i0 : Nat), (∀ j q, L[j]? = some q → ∃ u : Value, IsTup s.heap (ps.getD (i0 + j) 0) #[u, q.2] ∧ keyIs q.1 u = true) →
        ∃ pv : List (Value × Value), pv.length = L.length ∧ ∀ (j : Nat) (kk v : Value), pv[j]? = some (kk, v) → ∃ kx, L[j]? = some (kx, v) ∧ keyIs kx kk = true ∧ IsTup s.heap (ps.getD (i0 + j) 0) #[kk, v] := by
      intro L
      induction L with
      | nil => exact fun i0 _ => ⟨[], rfl, fun j kk v e => by simp at e⟩
      | cons q L ih =>
        intro i0 h
        obtain ⟨u, h1, h2⟩ := h 0 q rfl
        obtain ⟨pv, h3, h4⟩ := ih (i0 + 1) fun j q' e => by
          obtain ⟨u, h5, h6⟩ := h (j + 1) q' (by simpa using e)
          exact ⟨u, by rw [show i0 + 1 + j = i0 + (j + 1) by omega]; exact h5, h6⟩
        refine ⟨(u, q.2) :: pv, by simp [h3], fun j kk v e => ?_⟩
        cases j with
        | zero =>
          simp only [List.getElem?_cons_zero, Option.some.injEq, Prod.mk.injEq] at e
          obtain ⟨rfl, rfl⟩ := e
          exact ⟨q.1, rfl, h2, h1⟩
        | succ j =>
          obtain ⟨kx, h5, h6, h7⟩ := h4 j kk v (by simpa using e)
          exact ⟨kx, by simpa using h5, h6, by rw [show i0 + (j + 1) = i0 + 1 + j by omega]; exact h7⟩
    obtain ⟨pv, h1, h2⟩ := this prs 0 fun j q e => by
      obtain ⟨u, _, h3, h4⟩ := hpr' j q e
      exact ⟨u, by rw [Nat.zero_add]; exact h3, h4⟩
    exact ⟨pv, h1, fun j kk v e => by
      obtain ⟨kx, h3, h4, h5⟩ := h2 j kk v e
      exact ⟨kx, h3, h4, by rw [Nat.zero_add] at h5; exact h5⟩⟩
  obtain ⟨pv, hpl, hpv⟩ := key
  refine PySem.call_dict_pairs (knd := mixKind X.prog X.w) (kvs := prs) (PairArg.tuple a (ps.map Value.ref).toArray (fun j => ps.getD j 0) pv) (I.ok.hd hcalm) ⟨⟨ob, n, hget, hoc, hod, hdat⟩, ⟨by simp [hpl, hl], fun j kk v e => ?_⟩⟩ ⟨by rw [hpl], fun i kk v e => ?_⟩ (by rw [hpl, hl]; exact hz) fun h' tk hd' k => ?_
  · obtain ⟨kx, h1, h2, h3⟩ := hpv j kk v e
    obtain ⟨_, h4, _⟩ := hpr' j _ h1
    exact ⟨h4, .inl h3⟩
  · obtain ⟨kx, h1, h2, h3⟩ := hpv i kk v e
    exact ⟨kx, h1, h2⟩
  · have hm : (s.heap.objs.size == sysModules) = false := beq_eq_false_iff_ne.mpr (Nat.ne_of_gt I.big)
    have hlen : (mergeK [] kvs).length ≤ sizeLine := by
      refine Nat.le_trans (length_mergeK kvs []) ?_
      rw [List.length_nil, Nat.zero_add, rel.length, hl]
      exact hz
    exact ⟨.ref s.heap.objs.size, upd H s.heap.objs.size (.dK (mergeK [] kvs)), I.laid (t' := tk) (fun b o => k b o (by simp)) (Nat.le_refl _) (show ObjOk X.prog X.w _ _ _ (.dK (mergeK [] kvs)) from ⟨hlen, hm, merged [] prs, KV.merge rel .nil, hd'⟩), rfl, q _ (I.hok.fresh (Nat.le_refl _))⟩
theorem bb_dict : bootBuiltins "dict" = some (.type "dict") := by decide +kernel
theorem cd_dict {kvs : List (Key × D)} (hc : X.calm = true) (q : P (.dct (mergeD [] kvs)) M) : CD X (.type "dict") [.stup (prsD kvs)] M P :=
  ⟨_, call_dictT hc, fun F H vs Q o r k => by
    cases r with
    | cons h1 r =>
      cases r
      cases h1 with
      | stup h2 hc r2 =>
        obtain ⟨ps, ws, e1, e2, e3⟩ := prs_of r2
        subst e1
        exact ⟨_, _, ps, ws, rfl, o.ex _ _ h2, hc.1, hc.2, paired_mono (fun _ _ z => same_t o.ex z) e2, fun l hl => k _ _ _ _ _ q (o.fixSame hl) (o.fix hl) (.dct upd_same ((e3.merge .nil).mono (o.fixSame hl)))⟩⟩
/-- xs.pop(i) -/
theorem Rps.eraseIdx : ∀ {v : List V} {d : List D} (i : Nat), Rps K F v d → Rps K F (v.eraseIdx i) (d.eraseIdx i)
  | _, _, _, .nil => .nil
  | _, _, 0, .cons _ r => r
  | _, _, i + 1, .cons h r => .cons h (Rps.eraseIdx i r)
theorem ex_pop (h : EX X J o ρ M fun d M1 => ∃ q ds1, d = .adr q ∧ M1 q = some (.lst ds1) ∧ AX X J [e] ρ M1 fun ys M2 => ∃ i ds f y n, ys = [.int i] ∧ At M2 q (.lst ds) f ∧ (-(2 ^ 63) ≤ i ∧ i < 2 ^ 63) ∧ ixN ds.length i = some n ∧ ds[n]? = some y ∧ P y (f (.lst (ds.eraseIdx n))))
    (hbase : attributeBase o "pop" X.env (eval o X.env) = eval o X.env := by rfl)
    (few : ((backTo cpos (starEach [e] X.env)).all (fun x => !x.1) && (backToKw cpos (keywordEach [] X.env)).all (fun x => x.1.isSome) && decide ([e].length + ([] : List Keyword).length + (if ([] : List Keyword).isEmpty then 0 else 1) < 30)) = true := by rfl)
    (line : (apos.endLine == cpos.line) = true := by rfl) (hst : starEach [e] X.env = (false, eval e X.env) :: starEach [] X.env := by rfl) (hpl : (backTo cpos (starEach [] X.env)).any (·.1) = false := by rfl) :
    EX X J (.Call (.Attribute o "pop" apos) [e] [] cpos) ρ M P :=
  ex_of (pe_bm PySem.F.plainAttrs_list PySem.F.slot_list_pop PySem.F.type_list_pop mt_popAt pe_any pa_any hbase few line hst hpl) fun F σ H Q st k => h.go st fun d v M1 F1 H1 q1 e1 o1 r1 => by
    obtain ⟨q, ds1, rfl, hq, q2⟩ := q1
    cases r1
    obtain ⟨_, xs1, hx1, _⟩ := o1.mt _ _ hq
    refine ⟨tyV_lst hx1, q2.go (st.to e1 o1) fun ys vs M2 F2 H2 q3 e2 o2 r2 => ?_⟩
    obtain ⟨i, ds, f, y, n, rfl, hA, hi, hn, hy, q3⟩ := q3
    cases r2 with
    | cons r2 r3 =>
      cases r3
      cases r2
      obtain ⟨_, xs, hx, rx⟩ := o2.mt _ _ hA.get
      obtain ⟨w, hw, rw'⟩ := rx.get hy
      refine ⟨q, xs, i, n, w, rfl, rfl, hx, hi.1, hi.2, (ixN_seq (by rw [rx.length]; exact hn)).1, hw, k _ _ _ _ _ q3 (e1.trans e2) ?_ rw'⟩
      rw [hA.set]
      exact o2.set (o := .lst (xs.eraseIdx n)) hA.get ⟨_, upd_same, rx.eraseIdx n⟩
/-- *e among the arguments -/
theorem ax_star {PA' : List D → Mem → Prop} {sp : Pos} (h : EX X J e ρ M fun d M1 => ∃ ds, Sq M1 d ds ∧ AX X J es ρ M1 fun ds2 M2 => PA' (ds ++ ds2) M2) (hs : starEach (.Starred e sp :: es) X.env = (true, eval e X.env) :: starEach es X.env := by rfl) : AX X J (.Starred e sp :: es) ρ M PA' :=
  ax_of (pa_star pe_any pa_any hs) fun F σ H Q st k => h.go st fun d v M1 F1 H1 q1 e1 o1 r1 => by
    obtain ⟨ds, sq, q1⟩ := q1
    obtain ⟨q, xs, rfl, hx, rx⟩ := sq.get o1 r1
    exact ⟨q, xs, rfl, hx.symm, q1.go (st.to e1 o1) fun ds2 vs M2 F2 H2 q2 e2 o2 r2 => k _ _ M2 F2 H2 q2 (e1.trans e2) o2 ((rx.mono e2).append r2)⟩
end
end DX
namespace DX
open PySem PySem.Spec L2
section
variable {X : Cx} {J : Gh} {e a b c o : Expr} {es : List Expr} {ρ ρ' : DEnv} {M M' : Mem} {F F' H H' : Hp} {σ : St} {B : Bd} {K : PySem.W.Frag} {pos p apos cpos : Pos} {x : Str} {P : D → Mem → Prop}
/-- list(range(..)) that may change -/
theorem ex_lstRM {p' pos' : Pos} (hc : X.calm = true) (hmt : X.mg "list" = none) (hm : X.mg "range" = none) (h : AX X J (a :: es) ρ M fun ds M1 => ∃ i c n, Rg ds i c n ∧ ∀ q, M1 q = none → P (.adr q) (up M1 q (.lst (rngC i c n)))) (hgt : Gl X "list" := by rfl) (hg : Gl X "range" := by rfl)
    (hs : starEach (a :: es) X.env = (false, eval a X.env) :: starEach es X.env := by rfl) (hpl : (backTo pos (starEach es X.env)).any (·.1) = false := by rfl) (na : starEach [.Call (.Name "range" p) (a :: es) [] pos] X.env = (false, eval (.Call (.Name "range" p) (a :: es) [] pos) X.env) :: starEach [] X.env := by rfl) :
    EX X J (.Call (.Name "list" p') [.Call (.Name "range" p) (a :: es) [] pos] [] pos') ρ M P :=
  ex_of (pe_lstRc hc hgt hmt (prc hg hm pa_any hs hpl) na) fun F σ H Q st k => h.go st fun ds vs M1 F1 H1 q e1 o1 r1 => by
    obtain ⟨i, c, n, hr, q⟩ := q
    obtain ⟨i', j, c', n', h1, h2, h3, rfl, rfl, rfl⟩ := hr.raw r1
    exact ⟨i', j, c', n', h1, h2, h3, fun l hl => k _ _ _ _ _ (q l (o1.nn hl).2) e1 (o1.lay hl ⟨_, upd_same, rps_rgC⟩) (.adr l)⟩
/-- xs + ys, a list that may change -/
theorem od_addLM {x y : D} {ds es : List D} (sx : Sl M x ds) (sy : Sl M y es) (hz : ds.length + es.length ≤ 1000000) (p : ∀ q, M q = none → P (.adr q) (up M q (.lst (ds ++ es)))) : OD X (binaryOp .Add) x y M P :=
  ⟨_, op_cat, fun F H v u Q o rx ry k => by
    obtain ⟨a, xs, rfl, h1, r1⟩ := sx.get o rx
    obtain ⟨b, ys, rfl, h2, r2⟩ := sy.get o ry
    exact ⟨a, b, xs, ys, rfl, rfl, h1, h2, by rw [r1.length, r2.length, sizeLine_eq]; omega, fun q hq => k _ _ _ _ _ (p q (o.nn hq).2) (Same.refl _) (o.lay hq ⟨_, upd_same, r1.append r2⟩) (.adr q)⟩⟩
variable {scope : Scope} {tg iter elt : Expr} {ifs : List Expr}
def lcR (n : Nat) (t : Nat → Bool) (g : Nat → D) : List D := ((List.range n).filter t).map g
end
end DX
namespace DX
open PySem PySem.Spec L2
def keyP : Key → PyData
  | .inl i => .int i
  | .inr x => .str x
mutual
def pydR : D → PyData
  | .bl b => .bool b
  | .int i => .int i
  | .str x => .str x
  | .tup ds => .tuple (pydRs ds)
  | .lst ds => .list (pydRs ds)
  | .dct kvs => .dict (pydRk kvs)
  | _ => .none
def pydRs : List D → List PyData
  | [] => []
  | d :: ds => pydR d :: pydRs ds
def pydRk : List (Key × D) → List (PyData × PyData)
  | [] => []
  | (k, d) :: ds => (keyP k, pydR d) :: pydRk ds
end
mutual
/-- what may be shown -/
def shw : D → Bool
  | .non => true
  | .bl _ => true
  | .int _ => true
  | .str _ => true
  | .tup ds => shws ds
  | .lst ds => shws ds
  | .dct kvs => shwk kvs
  | _ => false
def shws : List D → Bool
  | [] => true
  | d :: ds => shw d && shws ds
def shwk : List (Key × D) → Bool
  | [] => true
  | (_, d) :: ds => shw d && shwk ds
end
/-- the text that repr gives -/
def txtR (d : D) : Str := (pydR d).shown
/-- all that repr asks of the data (to be shown by computation or by rules below) -/
structure ROk (d : D) : Prop where
  sh : shw d = true
  ok : (pydR d).showable = true
  dp : (pydR d).depth ≤ 60
  sz : (pydR d).shown.length ≤ 16000000
section
variable {X : Cx} {pins : List (Addr × Obj)} {σ : L2.St} {F H : Hp} {s : Shared}
theorem sys_dict (hS : sysB X.K = true) (I : L2.Inv X pins σ H s) : ∃ o, s.heap.get? sysModules = some o ∧ o.cls = .type "dict" := by
  unfold sysB at hS
  cases e : X.K.lookup sysModules with
  | none => rw [e] at hS; cases hS
  | some o =>
    rw [e] at hS
    exact ⟨o, I.kIn _ _ e, of_decide_eq_true hS⟩
theorem not_sys (hS : sysB X.K = true) (I : L2.Inv X pins σ H s) {a : Addr} {o : Obj} (h : s.heap.get? a = some o) (hc : o.cls = .type "list") : sysModules ≠ a := by
  intro e
  obtain ⟨o2, h2, h3⟩ := sys_dict hS I
  rw [e, h] at h2
  cases h2
  rw [hc] at h3
  exact absurd h3 (by decide)
theorem pairs_reads {h : Heap} {vs : List (Key × Value)} {es : List DictEntry} (ps : Pairs (mixKind X.prog X.w) es vs) : ReadsAll h (es.map (·.key)) (vs.map fun q => keyP q.1) [] ∧ es.map (·.val) = vs.map (·.2) := by
  induction ps with
  | nil => exact ⟨.nil, rfl⟩
  | @cons e kv es kvs hk hv _ ih =>
    refine ⟨?_, by rw [List.map_cons, List.map_cons, ih.2, hv]⟩
    rw [List.map_cons, List.map_cons]
    have hr : Reads h e.key (keyP kv.1) [] := by
      rcases keyIs_shape (show keyIs kv.1 e.key = true from hk) with ⟨i, t, e1, e2⟩ | ⟨x, t, e1, e2⟩
      · rw [e1, e2]; exact .int i t
      · rw [e1, e2]; exact .str x t
    exact ReadsAll.cons (as := []) (bs := []) hr ih.1
mutual
theorem Rp.reads (hS : sysB X.K = true) (I : L2.Inv X pins σ H s) (hs : Same F H) : ∀ (d : D) (v : V) (u : Value), shw d = true → Rp X.K F v d → RelV v u → ∃ as, Reads s.heap u (pydR d) as ∧ sysModules ∉ as
  | .non, _, _, _, .non, r => by cases r; exact ⟨_, .none, by simp⟩
  | .bl b, _, _, _, .bl _, r => by cases r; exact ⟨_, .bool b, by simp⟩
  | .int i, _, _, _, .int _, r => by obtain ⟨t, rfl⟩ := r; exact ⟨_, .int i t, by simp⟩
  | .str x, _, _, _, .str _, r => by obtain ⟨t, rfl⟩ := r; exact ⟨_, .str x t, by simp⟩
  | .lst ds, _, _, h, .lst h1 h2, r => by
    cases r
    obtain ⟨its, rv, ⟨o, n, ho, hc, _, hd⟩, _⟩ := I.list (SqL.of (hs _ _ h1))
    obtain ⟨as, hr, hn⟩ := Rps.readsAll hS I hs ds _ its (by rw [shw] at h; exact h) h2 rv
    have q := Reads.list ho hc hd hr
    rw [show pydR (.lst ds) = .list (pydRs ds) by rw [pydR]]
    exact ⟨_, q, by rw [List.mem_cons, not_or]; exact ⟨not_sys hS I ho hc, hn⟩⟩
  | .tup ds, _, _, h, .tup h1 h2, r => by
    cases r
    obtain ⟨its, rv, ⟨o, ho, hc, n, hd⟩, _⟩ := I.tuple (same_t hs h1)
    obtain ⟨as, hr, hn⟩ := Rps.readsAll hS I hs ds _ its (by rw [shw] at h; exact h) h2 rv
    have q := Reads.tuple ho hc hd hr
    rw [show pydR (.tup ds) = .tuple (pydRs ds) by rw [pydR]]
    exact ⟨_, q, hn⟩
  | .dct kvs, _, _, h, .dct h1 h2, r => by
    cases r
    obtain ⟨_, hne, vs, rel, o, es, ep, ho, hx, hd, _, hp, _⟩ := I.hok _ _ (hs _ _ h1)
    obtain ⟨k1, k2⟩ := pairs_reads (h := s.heap) hp
    obtain ⟨bs, hr, hn⟩ := Rks.readsAll hS I hs kvs _ vs (by rw [shw] at h; exact h) h2 rel
    have e : (pydRk kvs).map (·.1) = vs.map fun q => keyP q.1 := hr.2
    have k3 : ReadsAll s.heap (es.toList.map (·.key)) ((pydRk kvs).map (·.1)) [] := by rw [e]; exact k1
    have k4 : ReadsAll s.heap (es.toList.map (·.val)) ((pydRk kvs).map (·.2)) bs := by rw [k2]; exact hr.1
    have q := Reads.dict (as := []) ho hx.1 hd k3 k4
    rw [show pydR (.dct kvs) = .dict (pydRk kvs) by rw [pydR]]
    refine ⟨_, q, ?_⟩
    simp only [List.append_nil, List.cons_append, List.nil_append, List.mem_cons, not_or]
    exact ⟨fun z => by rw [← z] at hne; simp at hne, hn⟩
  | .adr _, _, _, h, _, _ => by simp [shw] at h
  | .ty _, _, _, h, _, _ => by simp [shw] at h
  | .scr _, _, _, h, _, _ => by simp [shw] at h
  | .ins _ _, _, _, h, _, _ => by simp [shw] at h
  | .stup _, _, _, h, _, _ => by simp [shw] at h
theorem Rps.readsAll (hS : sysB X.K = true) (I : L2.Inv X pins σ H s) (hs : Same F H) : ∀ (ds : List D) (vs : List V) (us : List Value), shws ds = true → Rps X.K F vs ds → Vals vs us → ∃ as, ReadsAll s.heap us (pydRs ds) as ∧ sysModules ∉ as
  | [], _, _, _, .nil, .nil => ⟨_, .nil, by simp⟩
  | d :: ds, _, _, h, .cons h1 h2, .cons r1 r2 => by
    rw [shws, Bool.and_eq_true] at h
    obtain ⟨as, q1, n1⟩ := Rp.reads hS I hs d _ _ h.1 h1 r1
    obtain ⟨bs, q2, n2⟩ := Rps.readsAll hS I hs ds _ _ h.2 h2 r2
    exact ⟨_, ReadsAll.cons q1 q2, by rw [List.mem_append, not_or]; exact ⟨n1, n2⟩⟩
theorem Rks.readsAll (hS : sysB X.K = true) (I : L2.Inv X pins σ H s) (hs : Same F H) : ∀ (ds : List (Key × D)) (vs : List (Key × V)) (us : List (Key × Value)), shwk ds = true → Rks X.K F vs ds → KV vs us →
    ∃ as, (ReadsAll s.heap (us.map (·.2)) ((pydRk ds).map (·.2)) as ∧ (pydRk ds).map (·.1) = us.map fun q => keyP q.1) ∧ sysModules ∉ as
  | [], _, _, _, .nil, .nil => ⟨_, ⟨.nil, rfl⟩, by simp⟩
  | (k, d) :: ds, _, _, h, .cons h1 h2, .cons (b := q) r1 r2 => by
    rw [shwk, Bool.and_eq_true] at h
    obtain ⟨as, q1, n1⟩ := Rp.reads hS I hs d _ _ h.1 h1 r1.2
    obtain ⟨bs, ⟨q2, q3⟩, n2⟩ := Rks.readsAll hS I hs ds _ _ h.2 h2 r2
    refine ⟨_, ⟨ReadsAll.cons q1 q2, ?_⟩, by rw [List.mem_append, not_or]; exact ⟨n1, n2⟩⟩
    rw [pydRk, List.map_cons, List.map_cons, q3, ← r1.1]
end
end
section
variable {X : Cx} {J : Gh} {e a b c o : Expr} {es : List Expr} {ρ ρ' : DEnv} {M M' : Mem} {F F' H H' : Hp} {σ : L2.St} {B : Bd} {K : PySem.W.Frag} {pos p apos cpos : Pos} {x : Str} {P : D → Mem → Prop}
theorem repr_allR {pins : List (Addr × Obj)} {s : Shared} {d : D} {v : V} {u : Value} {Q : Value → Shared → Prop} (hS : sysB X.K = true) (hg : X.A.guards = some []) (hu : X.A.units + 64 < cLine) (I : L2.Inv X pins σ H s) (hs : Same F H) (hR : ROk d) (h : Rp X.K F v d) (r : RelV v u)
    (k : ∀ t s', L2.Inv X pins σ H s' → Q (.str (txtR d) t) s') : wpAny (model X.prog X.w) X.A (call (.builtin "repr") [u]) Q X.xe s := by
  have hz : (pydR d).shown.length ≤ sizeLine := by rw [sizeLine_eq]; have := hR.sz; omega
  have hd := hR.dp
  unfold txtR at k
  obtain ⟨as, rd, hn⟩ := Rp.reads hS I hs d v u hR.sh h r
  have big : ∀ a, u = .ref a → wpAny (model X.prog X.w) X.A (call (.builtin "repr") [u]) Q X.xe s := by
    rintro a rfl
    exact repr_of_reads' rd hR.ok (fun _ => hn) hg (by omega) (fun b ob z => z) (fun h' t tk hk => k t _ (I.kept hk)) hz
  have hsh := hR.ok
  clear rd hn
  cases h with
  | non => cases r; exact PySem.P.repr_of_none (by simpa [pydR, PyData.shown] using k _ _ (I.tok _))
  | bl b => cases r; exact PySem.P.repr_of_bool (by simpa [pydR, PyData.shown] using k _ _ (I.tok _))
  | int i =>
    obtain ⟨t, rfl⟩ := r
    exact PySem.P.repr_of_int (by simpa [pydR, PyData.showable] using hsh) (by simpa [pydR, PyData.shown] using k _ _ (I.tok _))
  | str y =>
    obtain ⟨t, rfl⟩ := r
    exact PySem.P.repr_of_str (by simpa [pydR, PyData.shown] using k _ _ (I.tok _)) (by simpa [pydR, PyData.shown] using hz)
  | lst _ _ => exact big _ r
  | tup _ _ => exact big _ r
  | dct _ _ => exact big _ r
  | adr _ => have := hR.sh; simp [shw] at this
  | ty _ => have := hR.sh; simp [shw] at this
  | scr _ => have := hR.sh; simp [shw] at this
  | ins _ _ => have := hR.sh; simp [shw] at this
  | stup _ _ _ => have := hR.sh; simp [shw] at this
  | exn _ _ _ => have := hR.sh; simp [shw] at this
theorem call_reprR (hS : sysB X.K = true) (hg : X.A.guards = some []) (hu : X.A.units + 64 < cLine) : CallR X (.builtin "repr") (fun xs H Q => ∃ F v d, xs = [v] ∧ Same F H ∧ ROk d ∧ Rp X.K F v d ∧ Q (.str (txtR d)) H) := by
  intro pins s σ H xs us Q I r h
  obtain ⟨F, v, d, rfl, hs, hR, h, q⟩ := h
  obtain ⟨u, rfl, rx⟩ := vals1 r
  exact repr_allR hS hg hu I hs hR h rx fun t s' I' => ⟨.str (txtR d), H, I', ⟨t, rfl⟩, q⟩
theorem cd_reprR {d : D} (hS : sysB X.K = true) (hg : X.A.guards = some []) (hu : X.A.units + 64 < cLine) (hR : ROk d) (q : P (.str (txtR d)) M) : CD X (.builtin "repr") [d] M P :=
  ⟨_, call_reprR hS hg hu, fun F H vs Q o r k => by
    cases r with
    | cons h1 r =>
      cases r
      exact ⟨F, _, d, rfl, o.ex, hR, h1, k.here q o (.str _)⟩⟩
theorem call_list_text (hc : X.calm = true) : CallR X (.type "list") (fun xs H Q => ∃ z : Str, xs = [.str z] ∧ z.length ≤ 1000000 ∧ ∀ l, H l = none → Q (.ref l) (upd H l (.lst (z.cps.toList.map fun c => V.str ⟨#[c]⟩)))) := by
  intro pins s σ H xs us Q I r h
  obtain ⟨z, rfl, hz, q⟩ := h
  obtain ⟨u, rfl, rx⟩ := vals1 r
  obtain ⟨t, rfl⟩ := rx
  have hz2 : z.cps.size ≤ 1000000 := hz
  refine call_list_str (I.ok.hd hc) z t (hn := by rw [sizeLine_eq]; omega) fun h' tk acc c' kp e hi => ?_
  refine ⟨.ref s.heap.objs.size, _, I.laid (t' := tk) kp (Nat.le_refl _) (show ObjOk X.prog X.w _ h' _ (.lst (z.cps.toList.map fun c => V.str ⟨#[c]⟩)) from ⟨?_, acc.toList, c', ?_, e⟩), rfl, q _ (I.hok.fresh (Nat.le_refl _))⟩
  · rw [List.length_map, Array.length_toList, sizeLine_eq]; omega
  · have e1 : acc.toList.length = z.cps.toList.length := by rw [Array.length_toList, Array.length_toList]; exact hi.1
    have e2 : (z.cps.toList.map fun c => V.str ⟨#[c]⟩) = (List.range acc.toList.length).map fun j => V.str ⟨#[z.cps.toList.getD j 0]⟩ := by
      rw [e1]
      apply List.ext_getElem
      · simp
      · intro j h1 h2
        rw [List.length_map] at h1
        rw [List.getElem_map, List.getElem_map, List.getElem_range, List.getD_eq_getElem?_getD, List.getElem?_eq_getElem h1]; rfl
    rw [e2]
    refine vals_of_get _ _ fun j w hj => ?_
    obtain ⟨c, u, h1, h2⟩ := hi.2 j w (by rw [← hj, Array.getElem?_toList])
    have : z.cps.toList[j]? = some c := by rw [Array.getElem?_toList]; exact h1
    rw [List.getD_eq_getElem?_getD, this]
    exact ⟨u, h2⟩
theorem cd_listS {z : Str} (hc : X.calm = true) (hz : z.cps.toList.length ≤ 1000000) (q : P (.lst (signs z)) M) : CD X (.type "list") [.str z] M P :=
  ⟨_, call_list_text hc, fun F H vs Q o r k => by
    cases r with
    | cons h1 r =>
      cases r
      cases h1
      refine ⟨z, rfl, ?_, fun l hl => ?_⟩
      · show z.cps.size ≤ _
        rw [← Array.length_toList]; exact hz
      · refine k _ _ _ _ _ q (o.fixSame hl) (o.fix hl) (.lst upd_same ?_)
        have e : (z.cps.toList.map fun c => V.str ⟨#[c]⟩) = (z.cps.toList.map fun c => (⟨#[c]⟩ : Str)).map V.str := by rw [List.map_map]; rfl
        have e2 : signs z = (z.cps.toList.map fun c => (⟨#[c]⟩ : Str)).map D.str := by unfold signs; rw [List.map_map]; rfl
        rw [e, e2]
        exact Rps.ofStrs⟩
theorem ex_dct0 (p : P (.dct []) M) : EX X J (.Dict [] [] pos) ρ M P :=
  ex_of pe_dnewK fun F σ H Q st k => fun l hl => k _ _ _ _ _ p (st.ok.fixSame hl) (st.ok.fix hl) (.dct upd_same .nil)
end
end DX
namespace DX
open PySem PySem.Spec L2 SX
def lookS (fa : List He.Fa) (fn : List He.DefD) (ex : PySem.W.Frag → Bool) (n : Nat) (g : Addr → Option Obj) : He.AlD × Bool :=
  (He.obsD fa fn (He.frG g (sysModules :: He.asD g n)), ex (He.frG g (sysModules :: He.asD g n)))
def hookS (n : Nat) (fa : List He.Fa) (fn : List He.DefD) (ex : PySem.W.Frag → Bool) : PySem.W.Hook where
  α := He.AlD × Bool
  obs := fun s => lookS fa fn ex n s.heap.get?
  val := fun _ => (He.valD fn, true)
  says := fun _ h => ∃ K : PySem.W.Frag, K.In h ∧ He.SaysD fa fn K ∧ ex K = true
  of := fun _ _ e => ⟨_, He.frG_in, congrArg Prod.fst e, congrArg Prod.snd e⟩
  keeps := fun _ _ _ ⟨K, hK, c, d⟩ k => ⟨K, PySem.W.Frag.In.keeps hK k, c, d⟩
section
variable {X : Cx} {M : Mem} {P : D → Mem → Prop}
theorem op_mul_str : OpR X (binaryOp .Mult) (fun x y H Q => ∃ z n, x = .str z ∧ y = .int n ∧ z.length ≤ 1000 ∧ -(2 ^ 62) ≤ n ∧ n ≤ 10000 ∧ Q (.str (Txt.mul z n)) H) := by
  intro pins s σ H x y v u Q I rx ry h
  obtain ⟨z, n, rfl, rfl, hz, h1, h2, q⟩ := h
  obtain ⟨t, rfl⟩ := rx
  obtain ⟨t', rfl⟩ := ry
  exact PySem.SB.mul (PyProof.Rows.mulOk_of 1000 10000 hz h2 (by omega) (by decide) (by decide)) fun t' k => ⟨.str (Txt.mul z n), H, I.tok _, ⟨_, rfl⟩, q⟩
end
mutual
theorem good_R : ∀ {d : D}, good d → pydR d = pyd d ∧ shw d = true
  | .non, _ => ⟨by simp [pydR, pyd], by simp [shw]⟩
  | .bl _, _ => ⟨by simp [pydR, pyd], by simp [shw]⟩
  | .int _, _ => ⟨by simp [pydR, pyd], by simp [shw]⟩
  | .str _, _ => ⟨by simp [pydR, pyd], by simp [shw]⟩
  | .tup ds, h => by have := goods_R (ds := ds) h; exact ⟨by rw [pydR, pyd, this.1], by rw [shw, this.2]⟩
  | .lst ds, h => by have := goods_R (ds := ds) h; exact ⟨by rw [pydR, pyd, this.1], by rw [shw, this.2]⟩
theorem goods_R : ∀ {ds : List D}, goods ds → pydRs ds = pyds ds ∧ shws ds = true
  | [], _ => ⟨by simp [pydRs, pyds], by simp [shws]⟩
  | d :: ds, h => by
    have h1 := good_R h.1
    have h2 := goods_R h.2
    exact ⟨by rw [pydRs, pyds, h1.1, h2.1], by rw [shws, h1.2, h2.2]; rfl⟩
end
def tx (l : List Nat) : Prop := ∀ c ∈ l, c < 128
theorem tx_isS {l : List Nat} (h : ∀ c ∈ l, isS c) : tx l := fun c hc => by rcases h c hc with rfl | rfl | rfl <;> decide
theorem tx_ok {l : List Nat} (h : tx l) : PyData.strOk (S l) = true := by
  show (l.toArray).all (· < 0x110000) = true
  rw [Array.all_eq_true_iff_forall_mem]
  intro c hc
  have := h c (by simpa using hc)
  simp; omega
/-- a text, if it is one, is short and of such signs -/
def txz (d : D) : Prop := ∀ z, d = .str z → tx z.cps.toList ∧ z.cps.toList.length ≤ 1000
/-- values that laws hand in: shown, asked for their kind, short if texts -/
structure Th (d : D) : Prop where
  pl : plain d = true
  ro : ROk d
  tz : txz d
end DX
namespace DX
open PySem PySem.Spec L2 StX PyProof.Rows
theorem looks_fills {K : PySem.W.Frag} {M : Model} {h : Heap} {C f : Addr} {nm : String} (X : K.In h) (hsf : PySem.W.selfFirst K C = true) (hs : PySem.W.findIn K (.ref C) (dunder nm) = some (some (.ref f))) : PySem.W.Looks M h (fillsNumberSlot (.ref C) nm) true := by
  unfold PySem.W.selfFirst at hsf
  cases hc : PySem.W.clsIn K C with
  | none => rw [hc] at hsf; cases hsf
  | some cd =>
    rw [hc] at hsf
    have hh : cd.mro.head? = some (.ref C) := by simpa using hsf
    cases hm : cd.mro with
    | nil => rw [hm] at hh; cases hh
    | cons v rest =>
      rw [hm] at hh
      cases hh
      have L1 : PySem.W.Looks M h (mroOf (.ref C)) (.ref C :: rest) := by
        show PySem.W.Looks M h (classData C >>= fun d => pure d.mro) _
        exact (PySem.W.looks_clsIn X hc).andThen (by rw [hm]; exact PySem.W.Looks.now)
      show PySem.W.Looks M h (mroOf (.ref C) >>= fun l => l.anyM _) true
      refine L1.andThen ?_
      rw [List.anyM]
      refine PySem.W.Looks.andThen (a := true) ?_ PySem.W.Looks.now
      show PySem.W.Looks M h ([dunder nm, dunderR nm].anyM _) true
      rw [List.anyM]
      refine PySem.W.Looks.andThen (a := true) ?_ PySem.W.Looks.now
      refine (PySem.W.looks_findIn X hs).andThen ?_
      exact PySem.W.Looks.now
section
variable {prog : Program} {w : World} {A : Around} {E : Value → Shared → Prop} {s : Shared} {K : PySem.W.Frag} {x y C f : Addr} {ox oy : Obj} {od od' : Option Obj}
theorem special_K {name : Str} {args : List Value} {Q : Option Value → Shared → Prop} (X : K.In s.heap) (I : PySem.W.InstAt s.heap x ox C od) (hs : PySem.W.findIn K (.ref C) name = some (some (.ref f))) (hf : PySem.W.isFn K (.ref f) = true)
    (h : wpAny (model prog w) A (call (.ref f) (.ref x :: args)) (fun v => Q (some v)) E s) : wpAny (model prog w) A (callSpecial? (.ref x) name args) Q E s := by
  unfold callSpecial? specialOf
  refine wpAny_bind (wpAny_bind (I.type.here ((PySem.W.looks_findIn X hs).here ?_)))
  refine wpAny_holding (wpAny_bind ((PySem.W.bind_fn X _ (beq_iff_eq.mp hf)).here ?_))
  exact wpAny_bind (wpAny_mono h (fun v s' h' => wpAny_pure h') fun _ _ h' => h')
theorem add_own {Q : Value → Shared → Prop} (X : K.In s.heap) (I : PySem.W.InstAt s.heap x ox C od) (J : PySem.W.InstAt s.heap y oy C od') (hsf : PySem.W.selfFirst K C = true) (hs : PySem.W.findIn K (.ref C) "__add__" = some (some (.ref f))) (hf : PySem.W.isFn K (.ref f) = true)
    (h : wpAny (model prog w) A (call (.ref f) [.ref x, .ref y]) (fun v s' => v ≠ .notImplemented ∧ Q v s') E s) : wpAny (model prog w) A (binaryOp .Add (.ref x) (.ref y)) Q E s := by
  have one : wpAny (model prog w) A (binaryOp1 "add" (.ref x) (.ref y)) (fun r s' => ∃ v, r = some v ∧ Q v s') E s := by
    simp only [binaryOp1]
    refine wpAny_bind (I.type.here (wpAny_bind (J.type.here (wpAny_bind ((looks_fills (nm := "add") X hsf (by exact hs)).here ?_)))))
    simp only [beq_self_eq_true, if_true, pure_bind, Bool.and_false, Bool.false_and, Bool.false_eq_true, if_false]
    refine wpAny_bind ?_
    unfold tryMethod
    refine wpAny_bind (special_K (args := [.ref y]) X I (by exact hs) hf (wpAny_mono h (fun v s' h' => ?_) fun _ _ h' => h'))
    obtain ⟨h1, h2⟩ := h'
    cases v <;> first | exact absurd rfl h1 | exact wpAny_pure (wpAny_pure ⟨_, rfl, h2⟩)
  show wpAny (model prog w) A (holding [.ref x, .ref y] _) Q E s
  refine wpAny_holding (wpAny_bind (wpAny_mono one (fun r s' z => ?_) fun _ _ h' => h'))
  obtain ⟨v, rfl, hq⟩ := z
  exact wpAny_pure hq
end

section
variable {K : PySem.W.Frag} {F H : Hp} {M : Mem}
end
section
variable {X : Cx} {J : Gh} {e a b c o : Expr} {es : List Expr} {ρ ρ' : DEnv} {M M' : Mem} {F F' H H' : Hp} {σ : L2.St} {B : Bd} {K : PySem.W.Frag} {pos p apos cpos : Pos} {x f : Str} {P : D → Mem → Prop}
/-- e.f, a field -/
theorem ex_fld (h : EX X J e ρ M fun d M1 => ∃ C gs y, Is M1 d C gs ∧ Cls X.K C ∧ NoAttr X.K C f ∧ gs.lookup f = some y ∧ P y M1) (hb : attributeBase e f X.env (eval e X.env) = eval e X.env := by rfl) : EX X J (.Attribute e f pos) ρ M P :=
  ex_of (pe_fld pe_any hb) fun F σ H Q st k => h.go st fun d v M1 F1 H1 q1 e1 o1 r1 => by
    obtain ⟨C, gs, y, hi, hc, hn, hl, q⟩ := q1
    obtain ⟨a, dx, fs, rfl, h1, h2⟩ := hi.get o1 r1
    rcases h2.look (f := f) with ⟨_, h3⟩ | ⟨w, d', h3, h4, h5⟩
    · rw [h3] at hl; cases hl
    · rw [h4] at hl; cases hl
      exact ⟨a, C, dx, fs, w, rfl, h1, hc, hn, h3, k _ _ _ _ _ q e1 o1 h5⟩
/-- e.f, a constant of the class -/
theorem ex_con (h : EX X J e ρ M fun d M1 => ∃ C gs v u y, Is M1 d C gs ∧ Cls X.K C ∧ Con X.K C f v u ∧ gs.lookup f = none ∧ (∀ F, Rp X.K F v y) ∧ P y M1) (hb : attributeBase e f X.env (eval e X.env) = eval e X.env := by rfl) : EX X J (.Attribute e f pos) ρ M P :=
  ex_of (pe_con pe_any hb) fun F σ H Q st k => h.go st fun d v M1 F1 H1 q1 e1 o1 r1 => by
    obtain ⟨C, gs, v, u, y, hi, hc, hk, hl, hy, q⟩ := q1
    obtain ⟨a, dx, fs, rfl, h1, h2⟩ := hi.get o1 r1
    rcases h2.look (f := f) with ⟨h3, _⟩ | ⟨w, d', h3, h4, h5⟩
    · exact ⟨a, C, dx, fs, v, u, rfl, h1, hc, hk, h3, k _ _ _ _ _ q e1 o1 (hy _)⟩
    · rw [h4] at hl; cases hl
/-- o.f = e, o an instance that may change -/
theorem g1_setFld {fp : Pos} (h : EX X J e ρ M fun y M1 => EX X J o ρ M1 fun d M2 => ∃ q C gs, d = .adr q ∧ M2 q = some (.ins C gs) ∧ Cls X.K C ∧ NoAttr X.K C f ∧ gs.length < 1000 ∧ B.nx ρ (up M2 q (.ins C (putG f y gs))))
    (hs : swapsWith e (some (.Attribute o f fp)) pos.line X.env = pure false := by rfl) : G1 X J (.Assign [.Attribute o f fp] e pos) ρ M B :=
  g1_of (ps_fld pe_any pe_any hs) fun F σ H E s k => h.go s fun y v M1 F1 H1 q1 e1 o1 r1 => q1.go (s.to e1 o1) fun d w M2 F2 H2 q2 e2 o2 r2 => by
    obtain ⟨q, C, gs, rfl, hq, hc, hn, hl, q3⟩ := q2
    cases r2
    obtain ⟨_, dx, fs, h1, h2⟩ := o2.mt _ _ hq
    refine ⟨q, C, dx, fs, rfl, h1, hc, hn, by rw [h2.length]; exact hl, k.nx F2 _ _ _ _ q3 (e1.trans e2) ((s.en.mono e1).mono e2) ?_⟩
    exact o2.set (o := .ins C dx (putF f v fs)) hq ⟨dx, _, upd_same, h2.put (r1.mono e2)⟩
/-- what is made by C(..), told of its values -/
def TMk (C : Addr) (T : TrV) (ds : List D) (M : Mem) (P : D → Mem → Prop) : Prop := ∀ a, M a = none → T (.adr a :: ds) [] (up M a (.ins C [])) fun d M2 => d = .non ∧ ∃ gs M0, M0 a = none ∧ M2 = up M0 a (.ins C gs) ∧ P (.ins C gs) M0
theorem evalArgs_two {Mo : Model} {A : Around} {E : Value → Shared → Prop} {s : Shared} {fv : Value} {u1 u2 : Bool × Sem Value} {rest : List (Bool × Sem Value)} {Q : Args → Shared → Prop}
    (h : wpAny Mo A (spliced (u1 :: u2 :: rest)) (fun vs s' => Q ⟨vs, []⟩ s') E s) : wpAny Mo A (evalArgs fv true (u1 :: u2 :: rest) []) Q E s := by
  unfold evalArgs
  obtain ⟨b1, x1⟩ := u1
  cases b1 <;>
  · show wpAny Mo A (spliced _ >>= _) Q E s
    refine wpAny_bind (wpAny_mono h (fun vs s' h' => ?_) fun _ _ x => x)
    refine wpAny_holding ?_
    exact wpAny_bind (wpAny_pure (wpAny_bind (wpAny_pure (wpAny_pure h'))))
def SpV (K : PySem.W.Frag) (T : TrV) : Sp := fun vs H Q _ => ∃ F M ds P, Ok K F M H ∧ Rps K F vs ds ∧ T ds [] M P ∧ Kt K F P Q
end
end DX
namespace DX
open PySem PySem.Spec L2
theorem prB_prop {K : PySem.W.Frag} {C f q : Str} (h : prB K C f q = true) : PropOf K (He.ga K C) f (prAd K C f).1 (prAd K C f).2 := by
  obtain ⟨h1, h⟩ := He.ba h
  obtain ⟨h2, h⟩ := He.ba h
  obtain ⟨h3, h⟩ := He.ba h
  obtain ⟨h4, h⟩ := He.ba h
  refine ⟨He.eqO_ok h1, He.eqO_ok h2, of_decide_eq_true h3, ?_⟩
  cases e : PySem.W.recIn K (prAd K C f).1 "property" with
  | none => rw [e] at h4; cases h4
  | some l =>
    cases l with
    | nil => rw [e] at h4; cases h4
    | cons v r =>
      rw [e] at h4
      rw [of_decide_eq_true h4]
      exact ⟨r, rfl⟩
theorem prB_fun {K : PySem.W.Frag} {C f : Str} {name qual : Str} {params : Arguments} {body : List Stmt} {scope : Scope} (h : prB K C f qual = true) (e : fnWA K (prAd K C f).2 = some (name, qual, params, .stmts body, scope, mainGlobals, [], builtinsNs)) :
    ∃ fd, FunD K name qual params body scope [] [] (prAd K C f).2 fd := by
  obtain ⟨_, h⟩ := He.ba h
  obtain ⟨_, h⟩ := He.ba h
  obtain ⟨_, h⟩ := He.ba h
  obtain ⟨_, h⟩ := He.ba h
  obtain ⟨kp, c2⟩ := He.ba h
  unfold fnWA at e
  cases q : K.lookup (prAd K C f).2 with
  | none => rw [q] at c2; cases c2
  | some o =>
    obtain ⟨oc, od, dt, osl⟩ := o
    rw [q] at c2 e
    cases dt with
    | func fd =>
      obtain ⟨n1, n2, n3, n4, n5, n6, n7, n8, n9, n10, n11, n12, n13, n14, n15⟩ := fd
      have e2 : (some (n1, n2, n3, n4, n5, n6, n7, n15) : He.FnW) = some (name, qual, params, .stmts body, scope, mainGlobals, [], builtinsNs) := e
      simp only [Option.some.injEq, Prod.mk.injEq] at e2
      obtain ⟨h1, h2, h3, h4, h5, h6, h7, h8⟩ := e2
      subst h1 h2 h3 h4 h5 h6 h7 h8
      have c3 : (PySem.W.codeIn K n13 _ && (He.dflB K n8 [] && He.kwdB K n9 [])) = true := c2
      obtain ⟨k1, k2⟩ := He.ba c3
      obtain ⟨k3, k4⟩ := He.ba k2
      exact ⟨_, ⟨oc, od, n8, n9, n10, n11, n12, n13, n14, osl, rfl, q, k1, He.dflB_ok k3, He.kwdB_ok k4⟩, kp⟩
    | _ => cases c2
structure PSetOf (K : PySem.W.Frag) (C : Addr) (f : Str) (p g : Addr) : Prop where
  tak : PySem.W.takerIn K C f = some (some (.ref p))
  ty : PySem.W.typeIn K (.ref p) = some (.type "property")
  rec_ : ∃ a rest, PySem.W.recIn K p "property" = some (a :: .ref g :: rest)
def lookP (fa : List He.Fa) (fn : List He.DefD) (pr : List PrD) (ex : PySem.W.Frag → Bool) (n : Nat) (g : Addr → Option Obj) : He.AlD × Bool × List He.FnW := obsP fa fn pr ex (He.frG g (cStatics :: sysModules :: He.asD g n))
def hookP (n : Nat) (fa : List He.Fa) (fn : List He.DefD) (pr : List PrD) (ex : PySem.W.Frag → Bool) : PySem.W.Hook where
  α := He.AlD × Bool × List He.FnW
  obs := fun s => lookP fa fn pr ex n s.heap.get?
  val := fun _ => (He.valD fn, true, pr.map PrD.val)
  says := fun _ h => ∃ K : PySem.W.Frag, K.In h ∧ SaysP fa fn pr ex K
  of := fun _ _ e => ⟨_, He.frG_in, e⟩
  keeps := fun _ _ _ ⟨K, hK, c⟩ k => ⟨K, PySem.W.Frag.In.keeps hK k, c⟩
section
variable {fa : List He.Fa} {fn : List He.DefD} {pr : List PrD} {ex : PySem.W.Frag → Bool} {K : PySem.W.Frag}
theorem SaysP.exx (c : SaysP fa fn pr ex K) : ex K = true := (He.ba (congrArg (fun z => z.2.1) c)).1
theorem SaysP.wr_ (c : SaysP fa fn pr ex K) (i : Nat) {d : PrD} (h : pr[i]? = some d) : d.okB K = true ∧ d.fw K = d.val := by
  have c2 := (He.ba (congrArg (fun z => z.2.1) c)).2
  have e : pr.map (fun d => d.fw K) = pr.map PrD.val := congrArg (fun z => z.2.2) c
  have e2 : (pr.map fun d => d.fw K)[i]? = (pr.map PrD.val)[i]? := by rw [e]
  rw [List.getElem?_map, List.getElem?_map, h] at e2
  exact ⟨List.all_eq_true.mp c2 d (List.mem_of_getElem? h), Option.some.inj e2⟩
theorem SaysP.pr_ (c : SaysP fa fn pr ex K) (i : Nat) {d : PrD} (h : pr[i]? = some d := by rfl) (hc : d.kd = 0 := by rfl) : PropOf K (He.ga K d.cls) d.nm (prAd K d.cls d.nm).1 (prAd K d.cls d.nm).2 ∧ ∃ fd, FunD K d.nm d.qual d.params d.body d.scope [] [] (prAd K d.cls d.nm).2 fd := by
  obtain ⟨hb, e⟩ := c.wr_ i h
  unfold PrD.okB at hb
  unfold PrD.fw PrD.ad at e
  rw [hc] at hb e
  exact ⟨prB_prop hb, prB_fun hb e⟩
theorem SaysP.sp_ (c : SaysP fa fn pr ex K) (i : Nat) {d : PrD} (h : pr[i]? = some d := by rfl) (hc : d.kd = 3 := by rfl) : fnWS K (He.fAd K (d.cls, some d.nm)) = d.val := by
  obtain ⟨_, e⟩ := c.wr_ i h
  unfold PrD.fw PrD.ad at e
  rw [hc] at e
  exact e
end
theorem conB_ok {K : PySem.W.Frag} {C f : Str} {i : Int} (h : conB K C f i = true) (hc : PySem.W.copiedNames.contains f = false) : ∃ u, Con K (He.ga K C) f (.int i) u := by
  unfold conB at h
  cases e : PySem.W.findIn K (.ref (He.ga K C)) f with
  | none => rw [e] at h; cases h
  | some v =>
    cases v with
    | none => rw [e] at h; cases h
    | some w =>
      rw [e] at h
      cases w with
      | int j t =>
        obtain ⟨h1, h2⟩ := He.ba h
        have := of_decide_eq_true h1
        subst this
        exact ⟨_, e, ⟨t, rfl⟩, He.eqO_ok h2, hc⟩
      | _ => cases h
/-- its instances may be called -/
def callB (K : PySem.W.Frag) (C : Str) : Bool := He.eqO (PySem.W.findIn K (.ref (He.ga K C)) "__call__") (some (some (.ref (He.ma K (He.ga K C) "__call__")))) && (PySem.W.isFn K (.ref (He.ma K (He.ga K C) "__call__")) && PySem.W.fnIn K (He.ma K (He.ga K C) "__call__"))
end DX
namespace DX
open PySem PySem.Spec L2
open SX
section
variable {X : Cx} {J : Gh} {M : Mem} {P : D → Mem → Prop} {ρ : DEnv} {o e : Expr} {pos apos cpos : Pos}
theorem inV_ints {i : Int} : ∀ ns : List Int, inV (.int i) (ns.map V.int) = decide (i ∈ ns)
  | [] => by simp [inV]
  | y :: ns => by
    have ih := inV_ints (i := i) ns
    unfold inV at ih ⊢
    rw [List.map_cons, List.any_cons, ih]
    show (y == i || decide (i ∈ ns)) = decide (i ∈ y :: ns)
    by_cases h : y = i
    · subst h; simp
    · have h' : ¬ i = y := fun z => h z.symm
      simp [h, h']
theorem od_inC {y z : Str} {c : Nat} (e : y = ⟨#[c]⟩) (p : P (.bl (decide (c ∈ z.cps.toList))) M) : OD X (compareOp .In) (.str y) (.str z) M P :=
  ⟨_, op_in_sign, fun F H v u Q o rx ry k => by
    subst e
    cases rx; cases ry
    exact ⟨c, z, rfl, rfl, k.here p o (.bl _)⟩⟩
theorem od_notInC {y z : Str} {c : Nat} (e : y = ⟨#[c]⟩) (p : P (.bl (!decide (c ∈ z.cps.toList))) M) : OD X (compareOp .NotIn) (.str y) (.str z) M P :=
  ⟨_, op_notIn_sign, fun F H v u Q o rx ry k => by
    subst e
    cases rx; cases ry
    exact ⟨c, z, rfl, rfl, k.here p o (.bl _)⟩⟩
end
end DX
namespace EnT
open PySem PySem.Spec L2 PyProof.Rows
theorem meets1 {v : Value} {o : Obj} {Hh : Heap → Prop} (B : Begins v o Hh) :
    Meets (Builtin.«enumerate.__new__» ⟨[.type "enumerate", v], []⟩) (fun _ R s => Hh s.heap ∧
      R (.ok (.ret (.ref (s.heap.push o).objs.size))) { s with heap := (s.heap.push o).push { cls := .type "enumerate", data := .fields #[.none, .bool false, .ref s.heap.objs.size, rawInt 0, .none, .none] } }) :=
  .of_wp fun prog w A R s h => by
    obtain ⟨hp, g, d, tk, os⟩ := s
    obtain ⟨h1, h⟩ := h
    have hsub := sub_enumerate
    have it1 : ∀ {A' : Around} {E : Value → Shared → Prop} {Q : Value → Shared → Prop}, Q (.ref hp.objs.size) ⟨hp.push o, g, d, tk, os⟩ → wpAny (model prog w) A' (pyIter v) Q E ⟨hp, g, d, tk, os⟩ :=
      fun q => B.iter prog w _ _ ⟨hp, g, d, tk, os⟩ _ h1 q
    wp_walk using it1
    refine wpAny_stack_any fun st => wpAny_pure ?_
    split
    · rename_i c _ _ _ _ _
      by_cases z : (c == Value.type "enumerate") = true
      · rw [z]; wp_walk using it1
        exact ⟨_, rfl, h⟩
      · rw [Bool.not_eq_true] at z
        rw [z]; wp_walk using it1
        exact ⟨_, rfl, h⟩
    · wp_walk using it1
      exact ⟨_, rfl, h⟩
section
variable {prog : Program} {w : World} {A : Around} {E : Value → Shared → Prop} {s : Shared}
theorem begins1 {v : Value} {o : Obj} {Hh : Heap → Prop} {Q : Value → Shared → Prop} (B : Begins v o Hh) (h1 : Hh s.heap)
    (h : ∀ h', IsEnum h' (s.heap.objs.size + 1) s.heap.objs.size 0 .none → h'.get? s.heap.objs.size = some o → h'.objs.size = s.heap.objs.size + 2 →
      (∀ b ob, s.heap.get? b = some ob → h'.get? b = some ob) → Q (.ref (s.heap.objs.size + 1)) { s with heap := h' }) : wpAny (model prog w) A (call (.type "enumerate") [v]) Q E s := by
  refine callType_new F.called_enumerate (by decide) (F.typeCall_enumerate_1 _) (F.newCall_enumerate_1 _) (fun obj => F.args_object_init_2 obj _) F.entry_enumerate_new (meets1 B) ⟨h1, ?_⟩
  have n1 : (s.heap.push o).objs.size = s.heap.objs.size + 1 := Heap.size_push ..
  have g0 := Heap.get?_push_size (s.heap.push o) (o := { cls := .type "enumerate", data := .fields #[.none, .bool false, .ref s.heap.objs.size, rawInt 0, .none, .none] }) rfl
  show _ ∧ _
  rw [n1] at g0 ⊢
  exact ⟨⟨_, g0, rfl⟩, h _ g0 (Heap.get?_push_of_some _ (Heap.get?_push_size _ B.free)) (by rw [Heap.size_push, n1]) fun b ob z => Heap.get?_push_of_some _ (Heap.get?_push_of_some _ z)⟩
end
/-- the tuple at a, its items in new pairs -/
def IteT (K : PySem.W.Frag) (a : Addr) : It :=
  ⟨fun i H => ∃ (xs : List V) (x : V), SqT K H a xs ∧ xs[i]? = some x, fun i H v H' => ∃ T x, v = .ref T ∧ H T = none ∧ H' = upd H T (.tup [.int (i : Nat), x]) ∧ ∀ xs, SqT K H a xs → xs[i]? = some x, fun i H => ∃ xs : List V, SqT K H a xs ∧ xs.length ≤ i⟩
theorem turnT {P : Program} {w : World} {K : PySem.W.Frag} {elts : List Expr} {kk : Nat} {tpos : Pos} (a e it : Addr) (hai : a ≠ it) (hae : a ≠ e) :
    Turn P w K (.Tuple elts kk tpos) (IteT K a) [e, it] e (fun i h => (∃ old, IsEnum h e it ((i : Nat) : Int) old) ∧ h.IsTupleIter it a i ∧ e ≠ it) where
  mem := by simp
  obj := fun i h st b hb => by
    obtain ⟨⟨old, he⟩, ⟨o, ho, hc, hd⟩, _⟩ := st
    rcases (show b = e ∨ b = it by simpa using hb) with z | z
    · rw [z]; exact ⟨_, he, fun v q => nomatch q⟩
    · rw [z]; exact ⟨o, ho, fun v q => by rw [hd] at q; cases q⟩
  keep := fun i h h' st k => let ⟨⟨old, he⟩, hi, hne⟩ := st; ⟨⟨old, k e (by simp) _ he⟩, hi.at fun o q => k it (by simp) o q, hne⟩
  item := by
    intro X hP hw hK hc i pins s σ H E I hf st hg
    subst hP hw hK
    obtain ⟨⟨old, he⟩, hit, hne⟩ := st
    obtain ⟨xs, x, hq, hx⟩ := hg
    obtain ⟨its, rv, p, hz⟩ := I.tuple hq
    obtain ⟨u, hu, ru⟩ := rv.get hx
    have hel : e < s.heap.objs.size := Heap.lt_size he
    have hil : it < s.heap.objs.size := by obtain ⟨_, q, _⟩ := hit; exact Heap.lt_size q
    have hin : i < its.toArray.size := by simpa using (List.getElem?_eq_some_iff.mp hu).1
    have D := Draws.tuple (prog := X.prog) (w := X.w) (A := X.A.in1) (show X.A.in1.handled = none from I.ok.hd hc) it a hai its.toArray
    refine wpAny_pyNext_enum_itemD D he ⟨hit, p⟩ hin hne (by simp [hne, Ne.symm hae]) fun y h' tk hy ho hst hT hsz hk => ?_
    obtain rfl : u = y := Option.some.inj ((by simpa using hu : its.toArray[i]? = some u).symm.trans hy)
    refine ⟨_, rfl, wpAny_letOwnedTupleGo_enum (s := { s with heap := h', toks := tk + 1 }) ho fun h'' he' sb => ?_⟩
    have hT2 : h''.get? s.heap.objs.size = some { cls := .type "tuple", data := .seq #[.int i tk, u] } := (sb.2 _ (Nat.ne_of_gt hel)).trans hT
    have new : ObjOk X.prog X.w (upd H s.heap.objs.size (.tup [.int (i : Nat), x])) h'' s.heap.objs.size (.tup [.int (i : Nat), x]) :=
      ⟨by show 2 ≤ sizeLine; decide, [.int i tk, u], .cons ⟨_, rfl⟩ (.cons ru .nil), ⟨_, hT2, rfl, _, rfl⟩⟩
    have I1 : Inv X pins σ (upd H s.heap.objs.size (.tup [.int (i : Nat), x])) { s with heap := h'', toks := tk + 1 } :=
      I.turnedNew (ch := [e, it]) (fun b ob hb q => (sb.2 b (fun z => hb (by simp [z]))).trans (hk b ob (fun z => hb (by simp [z])) (fun z => hb (by simp [z])) q)) hf (Nat.le_refl _) new
    refine ⟨.ref s.heap.objs.size, _, I1, rfl, ⟨_, x, rfl, I.hok.fresh (Nat.le_refl _), rfl, fun ys hy => by rw [I.tuple_inj hy hq]; exact hx⟩, ⟨⟨u, ?_⟩, hst.1.at fun o q => (sb.2 it (Ne.symm hne)).trans q, hne⟩, fun b hb => ?_⟩
    · rw [show ((i + 1 : Nat) : Int) = (i : Int) + 1 by omega]; exact he'
    · have hb' : b < s.heap.objs.size := by
        rcases (show b = e ∨ b = it by simpa using hb) with z | z
        · rw [z]; exact hel
        · rw [z]; exact hil
      rw [upd_ne (Nat.ne_of_lt hb')]
      exact (hf b hb).1
  done := by
    intro X hP hw hK hc i pins s σ H E I hf st hg
    subst hP hw hK
    obtain ⟨⟨old, he⟩, hit, hne⟩ := st
    obtain ⟨xs, hq, hx⟩ := hg
    obtain ⟨its, rv, p, hz⟩ := I.tuple hq
    obtain ⟨f0, f1, f2, f3, f4, f5⟩ := hf it (by simp)
    have hl := rv.length
    have hT : s.TypeIs (.ref e) "enumerate" := ⟨_, he, rfl⟩
    unfold pyNext
    refine wpAny_bind (wpAny_attempt (wpAny_callSpecial?_slot (name := Str.ofString "__next__") hT F.slot_enumerate_next
      (wpAny_call_entry F.slot_enumerate_next hT F.entry_enumerate_next ?_ (F.args_enumerate_next_1 _))))
    show wpAny _ _ (field (.ref e) 2 >>= _) _ _ _
    refine wpAny_bind (wpAny_field he rfl (x := .ref it) rfl ?_)
    refine wpAny_bind (wpAny_nextOf_tuple_end (I.ok.hd hc) hit p (by simp; omega) fun h' y eb hy => ?_)
    obtain ⟨o, ho, hc'⟩ := hy
    refine wpAny_bind (wpAny_isInstance (T := "StopIteration") (b := true) ⟨o, ho, hc'⟩ isSubtype_stop ?_)
    exact wpAny_pure ⟨rfl, I.turned (t' := s.toks) (fun b o hb q => eb b o hb q) f0 f1 f3 f4 f5⟩
  self := fun A i s Q E st h => let ⟨⟨_, he⟩, _⟩ := st; wpAny_pyIter_enum he h
def iEnumT (K : PySem.W.Frag) (ta : TA) : TI := fun σ H R => ta σ H fun vs H1 => ∃ a xs, vs = [.ref a] ∧ SqT K H1 a xs ∧ R (IteT K a) H1
theorem pi_enumT {X : Cx} {e : Expr} {ta : TA} {p pos tpos : Pos} {elts : List Expr} {kk : Nat} (hg : Gl X "enumerate") (hm : X.mg "enumerate" = none) (ha : PA X [e] ta) (hs : starEach [e] X.env = [(false, eval e X.env)] := by rfl) :
    PI X (.Tuple elts kk tpos) (.Call (.Name "enumerate" p) [e] [] pos) (iEnumT X.K ta) := by
  refine ⟨fun pins s σ H R I h => ?_⟩
  refine Call_ (ld_blt I hg hm boot_enumerate (PyProof.Rows.callWith_type1 (thn (ha.run pos pins s σ H _ I h) fun us s1 ⟨vs, H1, I1, r1, q1⟩ => ?_) hs rfl))
  obtain ⟨a, xs, ex, hq, q⟩ := q1
  subst ex
  cases r1 with
  | cons r rr =>
    cases rr
    cases r
    obtain ⟨its, rv, p', hz⟩ := I1.tuple hq
    have hal : a < s1.heap.objs.size := p'.lt
    refine begins1 (begins_tuple a its.toArray) p' fun h' he hit hsz hk => wpAny_pyIter_enum he ?_
    have I2 : Inv X pins σ H1 { s1 with heap := h' } := I1.kept (t' := s1.toks) hk
    refine ⟨s1.heap.objs.size + 1, [s1.heap.objs.size + 1, s1.heap.objs.size], _, _, H1, rfl, I2, turnT a (s1.heap.objs.size + 1) s1.heap.objs.size (Nat.ne_of_lt hal) (Nat.ne_of_lt (Nat.lt_succ_of_lt hal)), ⟨⟨.none, he⟩, ⟨_, hit, rfl, rfl⟩, Nat.succ_ne_self _⟩, fun b hb => ?_, q⟩
    have hle : s1.heap.objs.size ≤ b := by
      rcases (show b = s1.heap.objs.size + 1 ∨ b = s1.heap.objs.size by simpa using hb) with z | z
      · rw [z]; exact Nat.le_add_right _ _
      · rw [z]; exact Nat.le_refl _
    exact I1.fpOk hle (I1.hok.fresh hle)
end EnT
namespace DX
open PySem PySem.Spec L2
variable {X : Cx} {J : Gh} {M : Mem} {F : Hp} {K : PySem.W.Frag} {ρ : DEnv} {a : Expr} {p pos : Pos}
def tIfT (t ta tb : TT) : TT := fun σ H Q => t σ H fun c H1 => if c = true then ta σ H1 Q else tb σ H1 Q
theorem wk_enumT {q : Addr} {xs : List V} {ds : List D} (h : SqT K F q xs) (hx : Rps K F xs ds) : Wk K F (EnT.IteT K q) (enumD 0 ds) := by
  refine ⟨fun i H hi s => ?_, fun H s => ⟨xs, same_t s h, by rw [enumD_len, hx.length]; exact Nat.le_refl _⟩, fun i d H x H' F1 M hd s o y => ?_⟩
  · rw [enumD_len] at hi
    have h1 : i < xs.length := by rw [hx.length]; omega
    exact ⟨xs, xs[i], same_t s h, by simp [h1]⟩
  · obtain ⟨T, v1, rfl, h2, rfl, h4⟩ := y
    obtain ⟨d1, g1, rfl⟩ := enumD_at hd
    obtain ⟨w1, k1, k2⟩ := hx.get g1
    have e1 := h4 xs (same_t o.ex (same_t s h))
    rw [k1] at e1; cases e1
    rw [Nat.zero_add]
    exact pair_new (x := d1) (y := d1) o h2 (.int _) (k2.mono s)
theorem ix_enumT {elts : List Expr} {kk : Nat} {tpos : Pos} {P : List D → Mem → Prop} (hm : X.mg "enumerate" = none) (h : AX X J [a] ρ M fun ws M1 => ∃ ds, ws = [.tup ds] ∧ P (enumD 0 ds) M1) (hg : Gl X "enumerate" := by rfl)
    (hs : starEach [a] X.env = [(false, eval a X.env)] := by rfl) : IX X J (.Tuple elts kk tpos) (.Call (.Name "enumerate" p) [a] [] pos) ρ M P :=
  ix_of (EnT.pi_enumT hg hm pa_any hs) fun F σ H R s k => h.go s fun ws vs M1 F1 H1 q e1 o1 r1 => by
    obtain ⟨ds, rfl, q⟩ := q
    cases r1 with
    | cons h1 r1 =>
      cases r1
      cases h1 with
      | tup h1 k1 => exact ⟨_, _, rfl, same_t o1.ex h1, k _ _ M1 F1 H1 q e1 o1 (wk_enumT h1 k1)⟩
open PyProof.Rows in
theorem call_tuple_text (hc : X.calm = true) : CallR X (.type "tuple") (fun xs H Q => ∃ z : Str, xs = [.str z] ∧ z.length ≤ 1000000 ∧ ∀ l, H l = none → Q (.ref l) (upd H l (.tup (z.cps.toList.map fun c => V.str ⟨#[c]⟩)))) := by
  intro pins s σ H xs us Q I r h
  obtain ⟨z, rfl, hz, q⟩ := h
  obtain ⟨u, rfl, rx⟩ := vals1 r
  obtain ⟨t, rfl⟩ := rx
  have hz2 : z.cps.size ≤ 1000000 := hz
  refine call_tuple_str (I.ok.hd hc) z t (fun h' tk acc kp hi => ?_) (hsz := by rw [sizeLine_eq]; omega)
  have I1 : Inv X pins σ H { s with heap := h', toks := tk } := I.kept (t' := tk) kp
  have e1 : acc.toList.length = z.cps.toList.length := by rw [Array.length_toList, Array.length_toList]; exact hi.1
  have hv : Vals (z.cps.toList.map fun c => V.str ⟨#[c]⟩) acc.toList := by
    have e2 : (z.cps.toList.map fun c => V.str ⟨#[c]⟩) = (List.range acc.toList.length).map fun j => V.str ⟨#[z.cps.toList.getD j 0]⟩ := by
      rw [e1]
      apply List.ext_getElem
      · simp
      · intro j h1 h2
        rw [List.length_map] at h1
        rw [List.getElem_map, List.getElem_map, List.getElem_range, List.getD_eq_getElem?_getD, List.getElem?_eq_getElem h1]; rfl
    rw [e2]
    refine vals_of_get _ _ fun j w hj => ?_
    obtain ⟨c, u, h1, h2⟩ := hi.2 j w (by rw [← hj, Array.getElem?_toList])
    have : z.cps.toList[j]? = some c := by rw [Array.getElem?_toList]; exact h1
    rw [List.getD_eq_getElem?_getD, this]
    exact ⟨u, h2⟩
  have I2 : Inv X pins σ (upd H h'.objs.size (.tup (z.cps.toList.map fun c => V.str ⟨#[c]⟩))) { s with heap := h'.push { cls := .type "tuple", data := .seq acc }, toks := tk } :=
    I1.laid (t' := tk) (fun b o e => Heap.get?_push_of_some _ e) (Nat.le_refl _) (show ObjOk X.prog X.w _ _ _ (.tup (z.cps.toList.map fun c => V.str ⟨#[c]⟩)) from ⟨by rw [List.length_map, Array.length_toList, sizeLine_eq]; omega, acc.toList, hv, IsTup.new _ _⟩)
  exact ⟨.ref h'.objs.size, _, I2, rfl, q _ (I1.hok.fresh (Nat.le_refl _))⟩
theorem cd_tupleS {P : D → Mem → Prop} {z : Str} (hc : X.calm = true) (hz : z.cps.toList.length ≤ 1000000) (q : P (.tup (signs z)) M) : CD X (.type "tuple") [.str z] M P :=
  ⟨_, call_tuple_text hc, fun F H vs Q o r k => by
    cases r with
    | cons h1 r =>
      cases r
      cases h1
      refine ⟨z, rfl, ?_, fun l hl => ?_⟩
      · show z.cps.size ≤ _
        rw [← Array.length_toList]; exact hz
      · refine k _ _ _ _ _ q (o.fixSame hl) (o.fix hl) (.tup (SqT.of upd_same) ?_)
        have e : (z.cps.toList.map fun c => V.str ⟨#[c]⟩) = (z.cps.toList.map fun c => (⟨#[c]⟩ : Str)).map V.str := by rw [List.map_map]; rfl
        have e2 : signs z = (z.cps.toList.map fun c => (⟨#[c]⟩ : Str)).map D.str := by unfold signs; rw [List.map_map]; rfl
        rw [e, e2]
        exact Rps.ofStrs⟩
end DX
namespace DX
open PySem PySem.Spec L2
/-- what a look at the module tells of the class C -/
def isiB (K : PySem.W.Frag) (C : Str) : Bool :=
  He.eqO (PySem.W.findIn K (.ref (He.ga K C)) "__class__") (some (some (.builtin "object.__class__"))) && (He.eqO (PySem.W.specialIn K (.builtin "object.__class__") "__get__") (some (some (.builtin "getset_descriptor.__get__"))) &&
    (decide (PySem.W.takesIn K (.builtin "object.__class__") = some true) && (decide (PySem.W.mroIn K (He.ga K C) (.type "object") = some true) &&
      (["NoneType", "bool", "int", "str", "tuple", "list", "dict"].all fun n => decide (PySem.W.kitOne K (.type n) (.ref (He.ga K C)) = some false)))))
structure IsiC (K : PySem.W.Frag) (C : Addr) : Prop where
  ha : PySem.W.findIn K (.ref C) "__class__" = some (some (.builtin "object.__class__"))
  hn : PySem.W.specialIn K (.builtin "object.__class__") "__get__" = some (some (.builtin "getset_descriptor.__get__"))
  htk : PySem.W.takesIn K (.builtin "object.__class__") = some true
  hm : PySem.W.mroIn K C (.type "object") = some true
  no : ∀ n ∈ ["NoneType", "bool", "int", "str", "tuple", "list", "dict"], PySem.W.kitOne K (.type n) (.ref C) = some false
section
variable {X : Cx} {J : Gh} {M : Mem} {P : D → Mem → Prop} {ρ : DEnv} {pos : Pos} {x : Str}
end
end DX
namespace RevT
open PySem PySem.Spec L2 PyProof.Rows HT
theorem fm_congr {α β : Type} {f g : α → Option β} : ∀ {l : List α}, (∀ a ∈ l, f a = g a) → l.filterMap f = l.filterMap g
  | [], _ => rfl
  | a :: l, h => by rw [List.filterMap_cons, List.filterMap_cons, h a List.mem_cons_self, fm_congr (fun b hb => h b (List.mem_cons_of_mem _ hb))]
theorem rev_pick (xs : Array Value) : ((List.range xs.size).filterMap fun (k : Nat) => xs[(((xs.size : Int) - 1) + (k : Int) * (-1)).toNat]?) = xs.toList.reverse := by
  have e : ((List.range xs.size).filterMap fun (k : Nat) => xs[(((xs.size : Int) - 1) + (k : Int) * (-1)).toNat]?) = ((List.range xs.size).map fun k => xs.size - 1 - k).filterMap (xs[·]?) := by
    rw [List.filterMap_map]
    refine fm_congr fun k hk => ?_
    have := List.mem_range.mp hk
    have e3 : (((xs.size : Int) - 1) + (k : Int) * (-1)).toNat = xs.size - 1 - k := by omega
    show xs[(((xs.size : Int) - 1) + (k : Int) * (-1)).toNat]? = xs[xs.size - 1 - k]?
    rw [e3]
  have e2 : ((List.range xs.size).map fun k => xs.size - 1 - k) = (List.range xs.size).reverse := by
    apply List.ext_getElem
    · simp
    · intro i h1 h2
      simp at h1 h2 ⊢
  rw [e, e2, List.filterMap_reverse, PySem.W.krv_all]
section
variable {prog : Program} {w : World} {A : Around} {E : Value → Shared → Prop} {s : Shared}
theorem getItem_rev {t sl : Addr} {items : Array Value} {vs : Value} {Q : Value → Shared → Prop} (ht : IsTup s.heap t items) (hs : s.heap.IsSliceOf sl .none .none vs) (ps : IsPart vs (some (-1)))
    (h : Q (.ref s.heap.objs.size) { s with heap := s.heap.push { cls := .type "tuple", data := .seq items.toList.reverse.toArray } }) (hsz : items.size ≤ sizeLine) : wpAny (model prog w) A (getItem (.ref t) (.ref sl)) Q E s := by
  have hok : sizeOk (.seq items.toList.reverse.toArray) := by
    show items.toList.reverse.toArray.size ≤ sizeLine
    rw [List.size_toArray, List.length_reverse, Array.length_toList]
    exact hsz
  obtain ⟨os, hos, hcs, hds⟩ := id hs
  have hTs : s.TypeIs (.ref sl) "slice" := ⟨os, hos, hcs⟩
  unfold getItem
  try with_reducible refine wpAny_holding ?_
  first | refine wpAny_bind (wpAny_pure ?_) | skip
  refine wpAny_bind (wpAny_sequenceKey ht.typeIs (by decide) ?_)
  refine wpAny_bind (wpAny_callSpecial?_slot (name := Str.ofString "__getitem__") ht.typeIs PyProof.Rows.slot_tuple_getitem
    (wpAny_call_entry PyProof.Rows.slot_tuple_getitem ht.typeIs entry_tuple_getitem ?_ (args_tuple_getitem _ _)))
  show wpAny _ _ (Builtin.Tuple.tupleItemsOf (.ref t) >>= _) _ _ s
  refine wpAny_bind (tupleItemsOf_ ht ?_)
  refine wpAny_bind (wpAny_typeOf hTs ?_)
  rw [if_pos (by decide)]
  refine wpAny_bind ?_
  · unfold Builtin.Slice.sliceApplied Builtin.Slice.sliceFields
    refine wpAny_bind (wpAny_bind (wpAny_field hos hds (x := .none) rfl (wpAny_bind (wpAny_field hos hds (x := .none) rfl (wpAny_bind (wpAny_field hos hds (x := vs) rfl (wpAny_pure ?_)))))))
    refine wpAny_bind (slicePart_ ps ?_)
    show wpAny _ _ (if ((-1 : Int) == 0) = true then _ else _) _ _ s
    rw [if_neg (by decide)]
    refine wpAny_bind (slicePart_none (wpAny_bind (slicePart_none (wpAny_bind (wpAny_pure ?_)))))
    show wpAny _ _ (pure ((items.size : Int) - 1, (-1 : Int), Builtin.Slice.slicePlaces ((items.size : Int) - 1) (-1) (-1))) _ _ s
    have e : Builtin.Slice.slicePlaces ((items.size : Int) - 1) (-1) (-1) = items.size := by
      unfold Builtin.Slice.slicePlaces
      rw [if_neg (by decide), show (-(-1) : Int) = 1 from rfl, Int.ediv_one]
      split <;> omega
    rw [e]
    refine wpAny_pure ?_
    have hno : ¬ ((((items.size : Int) - 1) == 0 && (-1 : Int) == 1 && items.size == items.size) = true) := by simp
    show wpAny _ _ (if (((items.size : Int) - 1) == 0 && (-1 : Int) == 1 && items.size == items.size) = true then _ else _) _ _ s
    rw [if_neg hno, rev_pick]
    first
      | exact wpAny_bind (m := Builtin.Tuple.tupleExact _) (wpAny_newObj_type (wpAny_pure ⟨_, rfl, wpAny_pure h⟩) hok)
      | exact wpAny_bind (m := Builtin.Tuple.tupleExact _) (wpAny_newObj_type (wpAny_bind (wpAny_pure (wpAny_pure ⟨_, rfl, wpAny_pure h⟩))) hok)
      | exact wpAny_bind (wpAny_bind (m := Builtin.Tuple.tupleExact _) (wpAny_newObj_type (wpAny_pure (wpAny_pure ⟨_, rfl, wpAny_pure h⟩)) hok))
      | exact wpAny_bind (wpAny_bind (m := Builtin.Tuple.tupleExact _) (wpAny_newObj_type (wpAny_pure ⟨_, rfl, wpAny_pure h⟩) hok))
end
end RevT
namespace RevT
open PySem PySem.Spec L2 PyProof.Rows HT
def tRevT (K : PySem.W.Frag) (te : TE) : TE := fun σ H Q => te σ H fun x H1 => ∃ a xs, x = .ref a ∧ SqT K H1 a xs ∧ ∀ p (ob : Obj), H1 p = none → (ob.cls = .type "tuple" ∧ ob.dict = none) → Q (.ref p) (upd H1 p (.frz ob (.tup xs.reverse)))
theorem pe_revT {X : Cx} {e : Expr} {te : TE} {k : Nat} {p1 p2 p3 pos : Pos} (he : PE X e te) : PE X (.Subscript e (.Slice none none (some (.UnaryOp .USub (.Constant (.int 1) k p1) p2)) p3) pos) (tRevT X.K te) := by
  refine ⟨fun pins s σ H Q I h => ?_⟩
  refine Subscript_ (thn (he.run pins s σ H _ I h) fun v s1 ⟨x, H1, I1, r1, q1⟩ => ?_)
  obtain ⟨a, xs, ex, hx, q⟩ := q1
  subst ex
  cases r1
  have hst : PO X (some (.UnaryOp .USub (.Constant (.int 1) k p1) p2)) (tPart (tUn (rU fun i => .int (-i)) (tC (.int 1)))) := po_some (pe_un un_neg pe_int)
  refine wpAny_Slice (thn (po_none.run pins s1 σ H1 (fun o H2 => o = none ∧ H2 = H1) I1 ⟨rfl, rfl⟩) fun vl s2 ⟨l, H2, I2, pl, el, e2⟩ => ?_)
  subst el e2
  refine thn (po_none.run pins s2 σ H2 (fun o H3 => o = none ∧ H3 = H2) I2 ⟨rfl, rfl⟩) fun vu s3 ⟨u, H3, I3, pu, eu, e3⟩ => ?_
  subst eu e3
  refine thn (hst.run pins s3 σ H3 (fun o H4 => o = some (-1) ∧ H4 = H3) I3 ⟨1, rfl, -1, rfl, rfl, rfl⟩) fun vs s4 ⟨o, H4, I4, ps, eo, e4⟩ => ?_
  subst eo e4
  cases pl
  cases pu
  have I5 : Inv X pins σ H4 { s4 with heap := s4.heap.push { cls := .type "slice", data := .fields #[.none, .none, vs] } } := I4.kept (t' := s4.toks) fun b ob q => Heap.get?_push_of_some _ q
  obtain ⟨its, r, ht, hz⟩ := I5.tuple hx
  have hlen := r.length
  show wpAny (model X.prog X.w) X.A (subscriptTail e (.Slice none none (some (.UnaryOp .USub (.Constant (.int 1) k p1) p2)) p3) (.ref a) (.ref s4.heap.objs.size)) (EP X pins σ Q) X.xe { s4 with heap := s4.heap.push { cls := .type "slice", data := .fields #[.none, .none, vs] } }
  refine tail_any (ops := [.ref a, .ref s4.heap.objs.size]) ht.typeIs (PyProof.Rows.slot_tuple_getitem.lookup) ?_ (by with_unfolding_all rfl)
  refine getItem_rev ht (Heap.IsSliceOf.new _ .none .none vs) ps ?_ (by rw [List.size_toArray]; omega)
  have e1 : its.toArray.toList.reverse.toArray = its.reverse.toArray := by simp
  rw [e1]
  refine ⟨.ref _, _, I5.laid (t' := s4.toks) (o := .frz { cls := .type "tuple", data := .seq its.reverse.toArray } (.tup xs.reverse)) (fun b ob q => Heap.get?_push_of_some _ q) (Nat.le_refl _) ?_, rfl, q _ _ (I5.hok.fresh (Nat.le_refl _)) ⟨rfl, rfl⟩⟩
  exact ⟨Heap.get?_push_size _ rfl, by rw [List.length_reverse]; exact hz, its.reverse, r.reverse, IsTup.new _ _⟩
/-- o.m(e, ..) of an object that is known -/
def tBMK (T : String) (r : V → List V → Hp → VK → Prop) (to : TE) (t : TA) : TE := fun σ H Q => to σ H fun x H1 => (∃ p ob u, x = .ref p ∧ H1 p = some (.frz ob u) ∧ ob.cls = .type T ∧ ob.dict = none) ∧ t σ H1 fun xs H2 => r x xs H2 Q
end RevT
namespace DX
open PySem PySem.Spec L2
section
variable {X : Cx} {J : Gh} {M : Mem} {P : D → Mem → Prop} {ρ : DEnv} {o e : Expr} {pos apos cpos : Pos} {F H : Hp} {K : PySem.W.Frag}
theorem rps_rev : ∀ {xs : List V} {ds : List D}, Rps K F xs ds → Rps K F xs.reverse ds.reverse
  | _, _, .nil => .nil
  | _, _, .cons h r => by
    rw [List.reverse_cons, List.reverse_cons]
    exact Rps.append (rps_rev r) (.cons h .nil)
theorem ex_revT {k : Nat} {p1 p2 p3 : Pos} (h : EX X J e ρ M fun d M1 => ∃ ds, d = .tup ds ∧ P (.stup ds.reverse) M1) : EX X J (.Subscript e (.Slice none none (some (.UnaryOp .USub (.Constant (.int 1) k p1) p2)) p3) pos) ρ M P :=
  ex_of (RevT.pe_revT pe_any) fun F σ H Q st k => h.go st fun d v M1 F1 H1 q e1 o1 r1 => by
    obtain ⟨ds, rfl, q⟩ := q
    cases r1 with
    | tup h2 r2 => exact ⟨_, _, rfl, same_t o1.ex h2, fun l ob hl hc => k _ _ _ _ _ q (e1.trans (o1.fixSame hl)) (o1.fix hl) (.stup upd_same hc (Rps.mono (o1.fixSame hl) (rps_rev r2)))⟩
/-- a tuple whose object is known is a tuple -/
theorem Rp.unst {v : V} {ds : List D} (r : Rp K F v (.stup ds)) : Rp K F v (.tup ds) := by
  cases r with
  | stup h c r => exact .tup (.inl (.inr ⟨_, h⟩)) r
theorem ex_unst (h : EX X J e ρ M fun d M1 => ∃ ds, d = .stup ds ∧ P (.tup ds) M1) : EX X J e ρ M P :=
  ex_of h fun F σ H Q st k => ⟨F, st, fun d v M' F' H' q e1 o r => by
    obtain ⟨ds, rfl, q⟩ := q
    exact k _ _ _ _ _ q e1 o r.unst⟩
theorem En.unst : ∀ {σ : St} {ρ : DEnv} {i : Nat} {ds : List D}, En K F σ ρ → DX.look ρ i = some (.stup ds) → En K F σ (DX.put ρ i (.tup ds))
  | _, _, i, _, .nil, e => by simp [DX.look] at e
  | _, _, 0, ds, .cons h r, e => .cons (fun x q => by
    obtain ⟨y, a, b⟩ := h (.stup ds) e
    cases q
    exact ⟨y, a, b.unst⟩) r
  | _, _, i + 1, ds, .cons h r, e => .cons h (En.unst r e)
/-- t[l:u], also where it is the whole of t -/
theorem sd_tupA {ds : List D} {l u : Option Int} (p : P (.tup (cutD ds l u)) M) : SD X (.tup ds) l u M P :=
  ⟨_, sl_tupA, fun F H v Q o rx k => by
    cases rx with
    | tup h1 r1 =>
      refine ⟨_, _, rfl, same_t o.ex h1, fun hw => ?_, fun hw q hq => k _ _ _ _ _ p (o.fixSame hq) (o.fix hq) (.tup (.inl (.inl upd_same)) ((cut_of r1 l u).mono (o.fixSame hq)))⟩
      rw [r1.length] at hw
      have e : cutD ds l u = ds := by
        unfold cutD
        rw [hw.1, hw.2, Nat.sub_zero, List.drop_zero, List.take_length]
      rw [e] at p
      exact k.here p o (.tup h1 r1)⟩
end
end DX
namespace DX
open PySem PySem.Spec L2
section
variable {X : Cx} {J : Gh} {M : Mem} {P : D → Mem → Prop} {ρ : DEnv} {a b c o e : Expr} {p pos apos cpos : Pos} {K : PySem.W.Frag} {F : Hp}
/-- how many numbers range(i, j, c) has -/
def cntP (i j c : Int) : Nat := if i < j then ((j - i - 1) / c + 1).toNat else 0
end
end DX
namespace DX
open PySem PySem.Spec L2
section
variable {X : Cx} {J : Gh} {e a b c : Expr} {es : List Expr} {ρ ρ' : DEnv} {M M' : Mem} {F F' H H' : Hp} {σ : St} {B : Bd} {K : PySem.W.Frag} {pos p : Pos} {x : Str} {P : D → Mem → Prop}
variable {scope : Scope} {tg iter elt : Expr} {ifs : List Expr}
/-- LcW, where the list goes on changing -/
def LcWM (X : Cx) (J : Gh) (scope : Scope) (vs : List Nat) (tg : Expr) (ifs : List Expr) (elt : Expr) (ρ : DEnv) (P : D → Mem → Prop) (ds : List D) (M1 : Mem) : Prop := ∃ Wd : Nat → List D → Mem → Prop, Wd 0 [] M1 ∧
  (∀ i d acc M' Dl, ds[i]? = some d → Wd i acc M' → M' Dl = none → acc.length < 1000000 ∧ AsB X scope vs tg d (cuts ρ vs) fun ρ2 =>
    TXb X J scope ifs ρ2 (up M' Dl (.lst acc)) fun t M2 => (t = true → EXb X J scope elt ρ2 M2 fun y M3 => ∃ M4, M4 Dl = none ∧ M3 = up M4 Dl (.lst acc) ∧ Wd (i + 1) (acc ++ [y]) M4) ∧
      (t = false → ∃ M4, M4 Dl = none ∧ M2 = up M4 Dl (.lst acc) ∧ Wd (i + 1) acc M4)) ∧
  ∀ acc M' Dl, Wd ds.length acc M' → M' Dl = none → P (.adr Dl) (up M' Dl (.lst acc))
theorem lc_goM {vs : List Nat} {Q : VK} (st : Sts X.K J F σ H ρ M) (k : Kt X.K F P Q) (h : IX X J tg iter ρ M (LcWM X J scope vs tg ifs elt ρ P)) :
    tLc (tIe X tg iter) (gB X scope tg) (tTb X scope ifs) (tEb X scope elt) vs σ H Q := by
  refine h.go st fun ds I M1 F1 H1 ⟨Wd, h0, hs, hd⟩ e1 o1 w Dl hD => ?_
  have hm1 := o1.nn hD
  refine ⟨fun i m H2 => m = ds.length - i ∧ i ≤ ds.length ∧ ∃ F' M' acc xs, Same F1 F' ∧ Ok X.K F' (up M' Dl (.lst acc)) H2 ∧ M' Dl = none ∧ H2 Dl = some (.lst xs) ∧ Wd i acc M', ⟨ds.length, by simp, Nat.zero_le _, F1, M1, [], [], Same.refl _, o1.lay hD ⟨[], upd_same, .nil⟩, hm1.2, upd_same, h0⟩, ?_⟩
  rintro i m H2 ⟨rfl, hi, F', M', acc, xs, e2, o2, hn, hx, q⟩
  by_cases hlt : i < ds.length
  · refine .inr ⟨w.goes i H2 hlt (e2.trans o2.ex), fun H3 => ∃ m', m' < ds.length - i ∧ m' = ds.length - (i + 1) ∧ i + 1 ≤ ds.length ∧ ∃ F' M' acc xs, Same F1 F' ∧ Ok X.K F' (up M' Dl (.lst acc)) H3 ∧ M' Dl = none ∧ H3 Dl = some (.lst xs) ∧ Wd (i + 1) acc M', fun H3 n3 => n3, fun x H3 y => ?_⟩
    obtain ⟨F3, e3, o3, r3⟩ := w.yields i ds[i] H2 x H3 F' _ (by simp [hlt]) e2 o2 y
    obtain ⟨ha, g, hg, hgo⟩ := hs i ds[i] acc M' Dl (by simp [hlt]) q hn
    have en3 : En X.K F3 (wipe σ vs) (cuts ρ vs) := (((st.en.cuts vs).mono e1).mono e2).mono e3
    refine ⟨g, hg, hgo F3 _ x _ H3 _ o3 r3 en3 fun σ4 ρ4 q4 en4 w4 => ⟨w4.trans (wipe_wipe σ vs), ?_⟩⟩
    obtain ⟨t, ht, q4⟩ := q4
    refine ⟨t, ht, q4 F3 σ4 H3 _ ⟨en4, o3, J.mono _ _ ((e1.trans e2).trans e3) st.gh⟩ fun tb M5 F5 H5 q5 e5 o5 => ?_⟩
    have fin : ∀ F6 M6 acc6 H6, Same F5 F6 → M6 Dl = none → Ok X.K F6 (up M6 Dl (.lst acc6)) H6 → Wd (i + 1) acc6 M6 → ∃ m', m' < ds.length - i ∧ m' = ds.length - (i + 1) ∧ i + 1 ≤ ds.length ∧ ∃ F' M' acc xs, Same F1 F' ∧ Ok X.K F' (up M' Dl (.lst acc)) H6 ∧ M' Dl = none ∧ H6 Dl = some (.lst xs) ∧ Wd (i + 1) acc M' := by
      intro F6 M6 acc6 H6 e6 n6 o6 q6
      obtain ⟨_, xs6, h6, _⟩ := o6.mt Dl _ up_same
      exact ⟨_, by omega, rfl, hlt, F6, M6, acc6, xs6, ((e2.trans e3).trans e5).trans e6, o6, n6, h6, q6⟩
    cases tb with
    | true =>
      refine iteT ⟨tD X.K J ρ4 M5 _, q5.1 rfl, F5, ⟨en4.mono e5, o5, J.mono _ _ (((e1.trans e2).trans e3).trans e5) st.gh⟩, fun y v M7 F7 H7 ⟨M4, n4, e4, q7⟩ e7 o7 r7 => ?_⟩
      subst e4
      obtain ⟨_, ys, hy, ry⟩ := o7.mt Dl _ up_same
      refine ⟨ys, hy, by rw [ry.length, sizeLine_eq]; omega, fin F7 M4 (acc ++ [y]) _ e7 n4 ?_ q7⟩
      have := o7.set (o := .lst (ys ++ [v])) (d' := .lst (acc ++ [y])) up_same ⟨_, upd_same, ry.append (.cons r7 .nil)⟩
      rwa [up_up] at this
    | false =>
      obtain ⟨M4, n4, e4, q7⟩ := q5.2 rfl
      subst e4
      exact iteF (fin F5 M4 acc H5 (Same.refl _) n4 o5 q7)
  · have e : i = ds.length := by omega
    subst e
    exact .inl ⟨w.stops H2 (e2.trans o2.ex), k _ _ _ _ _ (hd acc M' Dl q hn) (e1.trans e2) o2 (.adr Dl)⟩
theorem g1_lcM {y : Str} {py : Pos} {spos : Pos} {own : List (Str × Nat)} (i : Nat) (hc : X.calm = true) (h : IX X J tg iter ρ M (LcWM X J scope (own.map (·.2)) tg ifs elt ρ fun d M1 => B.nx (put ρ i d) M1)) (hN : X.N.Nodup := by rfl) (hy : X.N[i]? = some y := by rfl) (hyl : X.env.scope.names.lookup y = some .local := by rfl)
    (hsw : swapsWith (.ListComp elt [⟨tg, iter, ifs, 0⟩] scope pos) (some (.Name y py)) spos.line X.env = pure true := by rfl) (ok : blkC X.N X.env.scope scope own = true := by rfl) (hs : ∀ x, foldedSetIterable iter X.env x = pure x := by intro _; rfl) :
    G1 X J (.Assign [.Name y py] (.ListComp elt [⟨tg, iter, ifs, 0⟩] scope pos) spos) ρ M B :=
  g1_of (ps_setLc hc hN hy hyl hsw pi_any (blkOk_by ok) (fun s H C cl fp => ⟨fun pins s' σ H' v u Q I r ⟨g, h, q⟩ => (h s H C cl fp).run pins s' σ H' v u Q I r q⟩)
    (fun s H C cl fp => ⟨fun pins s' σ H' Q I ⟨t, h, q⟩ => (h s H C cl fp).run pins s' σ H' Q I q⟩) (fun s H C cl fp => ⟨fun pins s' σ H' Q I ⟨t, h, q⟩ => (h s H C cl fp).run pins s' σ H' Q I q⟩) hs)
    fun F σ H E st k => lc_goM st (P := fun d M1 => B.nx (put ρ i d) M1) (fun d v M' F' H' q e o r => k.nx F' _ H' _ M' q e ((st.en.mono e).put i r) o) h
theorem cd_allE {d : D} {ds : List D} {bs : List Bool} (hc : X.calm = true) (s : Sl M d ds) (e : ds = bs.map D.bl) (q : P (.bl (bs.all id)) M) : CD X (.builtin "all") [d] M P := by
  subst e; exact cd_all hc s q
end
end DX
namespace DX
open PySem PySem.Spec L2
section
variable {X : Cx} {J : Gh} {M : Mem} {P : D → Mem → Prop} {ρ : DEnv} {o e : Expr} {apos cpos : Pos} {K : PySem.W.Frag} {F : Hp}
end
end DX
namespace DX
open PySem PySem.Spec L2 SX

noncomputable section
open Classical in
def chk {α : Type} (p : Prop) (x : α) : Option α := if p then some x else none
theorem chk_inv {α : Type} {p : Prop} {x y : α} (h : chk p x = some y) : p ∧ x = y := by
  unfold chk at h
  split at h
  · exact ⟨by assumption, Option.some.inj h⟩
  · cases h
theorem chk_pos {α : Type} {p : Prop} {x : α} (h : p) : chk p x = some x := if_pos h
theorem bi {α β : Type} {o : Option α} {f : α → Option β} {r : β} {C : Prop} (h : o.bind f = some r) (k : ∀ v, o = some v → f v = some r → C) : C := by
  cases o with
  | none => cases h
  | some v => exact k v rfl h
theorem iT {α : Type} {c : Bool} {a b r : α} (q : c = true) (h : (if c = true then a else b) = r) : a = r := by rwa [if_pos q] at h
theorem iF {α : Type} {c : Bool} {a b r : α} (q : c = false) (h : (if c = true then a else b) = r) : b = r := by rwa [if_neg (by rw [q]; decide)] at h

section
variable {X : Cx} {J : Gh} {e a b c o : Expr} {es : List Expr} {ρ ρ' : DEnv} {M M' : Mem} {F F' H H' : Hp} {σ : L2.St} {B : Bd} {K : PySem.W.Frag} {pos p apos cpos : Pos} {x y dx dy z : D} {P : D → Mem → Prop} {t : Bool}
theorem od_by {f : Value → Value → Sem Value} (hx : imm dx = true) (hy : imm dy = true) (vx : Vw M x dx) (vy : Vw M y dy) (h : OD X f dx dy M P) : OD X f x y M P := by
  obtain ⟨r, h1, h2⟩ := h
  exact ⟨r, h1, fun F H v u Q o rx ry k => h2 F H v u Q o (vx.rp hx o rx) (vy.rp hy o ry) k⟩
def dAdd : D → D → Option D
  | .int i, .int j => some (.int (i + j))
  | .str a, .str b => chk (a.length + b.length ≤ 1000000) (.str (a ++ b))
  | .lst a, .lst b => chk (a.length + b.length ≤ 1000000) (.lst (a ++ b))
  | .tup a, .tup b => chk (a.length + b.length ≤ 1000000) (.tup (a ++ b))
  | _, _ => none
theorem od_dAdd (vx : Vw M x dx) (vy : Vw M y dy) (h : dAdd dx dy = some z) (p : P z M) : OD X (binaryOp .Add) x y M P := by
  unfold dAdd at h
  split at h
  · cases h; exact od_by rfl rfl vx vy (od_add p)
  · obtain ⟨h1, rfl⟩ := chk_inv h; exact od_by rfl rfl vx vy (od_addS h1 p)
  · obtain ⟨h1, rfl⟩ := chk_inv h; exact od_addL vx.sl vy.sl h1 p
  · obtain ⟨h1, rfl⟩ := chk_inv h; exact od_by rfl rfl vx vy (od_addT h1 p)
  · cases h
/-- the same, of lists, the new one may change -/
def lAdd : D → D → Option (List D)
  | .lst a, .lst b => chk (a.length + b.length ≤ 1000000) (a ++ b)
  | _, _ => none
theorem od_lAdd {l : List D} (vx : Vw M x dx) (vy : Vw M y dy) (h : lAdd dx dy = some l) (p : ∀ q, M q = none → P (.adr q) (up M q (.lst l))) : OD X (binaryOp .Add) x y M P := by
  unfold lAdd at h
  split at h
  · obtain ⟨h1, rfl⟩ := chk_inv h; exact od_addLM vx.sl vy.sl h1 p
  · cases h
def dSub : D → D → Option D
  | .int i, .int j => some (.int (i - j))
  | _, _ => none
theorem od_dSub (vx : Vw M x dx) (vy : Vw M y dy) (h : dSub dx dy = some z) (p : P z M) : OD X (binaryOp .Sub) x y M P := by
  unfold dSub at h
  split at h
  · cases h; exact od_by rfl rfl vx vy (od_sub p)
  · cases h
def dMul : D → D → Option D
  | .int i, .int j => chk (CMul i j) (.int (i * j))
  | .str a, .int n => chk (a.length ≤ 1000 ∧ -(2 ^ 62) ≤ n ∧ n ≤ 10000) (.str (Txt.mul a n))
  | .lst a, .int n => chk ((-(2 ^ 62) ≤ n ∧ n < 2 ^ 62) ∧ a.length * n.toNat ≤ 1000000) (.lst (List.replicate n.toNat a).flatten)
  | .tup a, .int n => chk (a ≠ [] ∧ 2 ≤ n ∧ n ≤ 1000 ∧ a.length ≤ 1000) (.tup (List.replicate n.toNat a).flatten)
  | _, _ => none
theorem od_dMul (vx : Vw M x dx) (vy : Vw M y dy) (h : dMul dx dy = some z) (p : P z M) : OD X (binaryOp .Mult) x y M P := by
  unfold dMul at h
  split at h
  · obtain ⟨h1, rfl⟩ := chk_inv h; exact od_by rfl rfl vx vy (od_mul h1 p)
  · obtain ⟨h1, rfl⟩ := chk_inv h
    refine od_by rfl rfl vx vy ⟨_, op_mul_str, fun F H v u Q o rx ry k => ?_⟩
    cases rx; cases ry
    exact ⟨_, _, rfl, rfl, h1.1, h1.2.1, h1.2.2, k.here p o (.str _)⟩
  · rename_i a n
    obtain ⟨h1, rfl⟩ := chk_inv h
    obtain ⟨r, g1, g2⟩ := od_mulL (X := X) vx.sl h1.1 h1.2 p
    exact ⟨r, g1, fun F H v u Q o rx ry k => g2 F H v u Q o rx (vy.rp rfl o ry) k⟩
  · obtain ⟨h1, rfl⟩ := chk_inv h
    refine od_by rfl rfl vx vy ⟨_, op_repT, fun F H v u Q o rx ry k => ?_⟩
    cases ry
    cases rx with
    | @tup a xs _ g1 r1 =>
    refine ⟨a, _, xs, rfl, rfl, same_t o.ex g1, fun e => ?_, h1.2.1, h1.2.2.1, by rw [r1.length]; exact h1.2.2.2, fun q hq => k _ _ _ _ _ p (o.fixSame hq) (o.fix hq) (.tup (SqT.of upd_same) ((r1.rep _).mono (o.fixSame hq)))⟩
    subst e
    cases r1
    exact h1.1 rfl
  · cases h
def lMul : D → D → Option (List D)
  | .lst a, .int n => chk ((-(2 ^ 62) ≤ n ∧ n < 2 ^ 62) ∧ a.length * n.toNat ≤ 1000000) (List.replicate n.toNat a).flatten
  | _, _ => none
def dFdiv : D → D → Option D
  | .int i, .int j => chk (CDiv i j) (.int (i / j))
  | _, _ => none
theorem od_dFdiv (vx : Vw M x dx) (vy : Vw M y dy) (h : dFdiv dx dy = some z) (p : P z M) : OD X (binaryOp .FloorDiv) x y M P := by
  unfold dFdiv at h
  split at h
  · obtain ⟨h1, rfl⟩ := chk_inv h; exact od_by rfl rfl vx vy (od_fdiv h1 p)
  · cases h
def dMod : D → D → Option D
  | .int i, .int j => chk (0 < j) (.int (i % j))
  | _, _ => none
theorem od_dMod (vx : Vw M x dx) (vy : Vw M y dy) (h : dMod dx dy = some z) (p : P z M) : OD X (binaryOp .Mod) x y M P := by
  unfold dMod at h
  split at h
  · obtain ⟨h1, rfl⟩ := chk_inv h; exact od_by rfl rfl vx vy (od_mod h1 p)
  · cases h
def dPow : D → D → Option D
  | .int i, .int j => chk (CPow i j) (.int (i ^ j.toNat))
  | _, _ => none
theorem od_dPow (vx : Vw M x dx) (vy : Vw M y dy) (h : dPow dx dy = some z) (p : P z M) : OD X (binaryOp .Pow) x y M P := by
  unfold dPow at h
  split at h
  · obtain ⟨h1, rfl⟩ := chk_inv h; exact od_by rfl rfl vx vy (od_pow h1 p)
  · cases h
def dShl : D → D → Option D
  | .int i, .int j => chk (CPow i j) (.int (i * 2 ^ j.toNat))
  | _, _ => none
def dShr : D → D → Option D
  | .int i, .int j => chk (0 ≤ j) (.int (i / 2 ^ j.toNat))
  | _, _ => none
def dBand : D → D → Option D
  | .int i, .int j => some (.int (Builtin.bitAnd i j))
  | _, _ => none
def dBor : D → D → Option D
  | .int i, .int j => some (.int (Builtin.bitOr i j))
  | _, _ => none
def dBxor : D → D → Option D
  | .int i, .int j => some (.int (Builtin.bitXor i j))
  | _, _ => none
def dNeg : D → Option D
  | .int i => some (.int (-i))
  | _ => none
theorem ex_dNeg (h : EX X J a ρ M fun x M1 => ∃ dx z, Vw M1 x dx ∧ dNeg dx = some z ∧ P z M1) : EX X J (.UnaryOp .USub a pos) ρ M P :=
  ex_of (pe_un un_neg pe_any) fun F σ H Q st k => h.go st fun d v M1 F1 H1 p e1 o1 r1 => by
    obtain ⟨dx, z, w, g, p⟩ := p
    unfold dNeg at g
    split at g
    · cases g
      have r2 := w.rp rfl o1 r1
      cases r2
      exact ⟨_, rfl, k _ _ _ _ _ p e1 o1 (.int _)⟩
    · cases g
def dInv : D → Option D
  | .int i => some (.int (Builtin.bitNot i))
  | _ => none
def cLt : D → D → Option Bool
  | .int i, .int j => some (decide (i < j))
  | _, _ => none
def cLe : D → D → Option Bool
  | .int i, .int j => some (decide (i ≤ j))
  | _, _ => none
def cGt : D → D → Option Bool
  | .int i, .int j => some (decide (j < i))
  | _, _ => none
def cGe : D → D → Option Bool
  | .int i, .int j => some (decide (j ≤ i))
  | _, _ => none
theorem od_cLt (vx : Vw M x dx) (vy : Vw M y dy) (h : cLt dx dy = some t) (p : P (.bl t) M) : OD X (compareOp .Lt) x y M P := by
  unfold cLt at h
  split at h
  · cases h; exact od_by rfl rfl vx vy (od_lt p)
  · cases h
theorem od_cLe (vx : Vw M x dx) (vy : Vw M y dy) (h : cLe dx dy = some t) (p : P (.bl t) M) : OD X (compareOp .LtE) x y M P := by
  unfold cLe at h
  split at h
  · cases h; exact od_by rfl rfl vx vy (od_le p)
  · cases h
theorem od_cGt (vx : Vw M x dx) (vy : Vw M y dy) (h : cGt dx dy = some t) (p : P (.bl t) M) : OD X (compareOp .Gt) x y M P := by
  unfold cGt at h
  split at h
  · cases h; exact od_by rfl rfl vx vy (od_gt p)
  · cases h
theorem od_cGe (vx : Vw M x dx) (vy : Vw M y dy) (h : cGe dx dy = some t) (p : P (.bl t) M) : OD X (compareOp .GtE) x y M P := by
  unfold cGe at h
  split at h
  · cases h; exact od_by rfl rfl vx vy (od_ge p)
  · cases h
/-- == of data; a list that changes against data by its content -/
def isLst : D → Bool
  | .lst _ => true
  | _ => false
/-- lists of ints of any size against [] -/
def intsB : List D → Bool
  | [] => true
  | .int _ :: ds => intsB ds
  | _ => false
def nilB : D → D → Bool
  | .lst ds, .lst [] => intsB ds
  | _, _ => false
def empB : D → Bool
  | .lst ds => ds.isEmpty
  | _ => false
theorem intsB_eq : ∀ {ds : List D}, intsB ds = true → ∃ ns : List Int, ds = ns.map D.int
  | [], _ => ⟨[], rfl⟩
  | .int i :: ds, h => by
    obtain ⟨ns, e⟩ := intsB_eq (ds := ds) h
    exact ⟨i :: ns, by rw [e]; rfl⟩
theorem intsB_map : ∀ ns : List Int, intsB (ns.map D.int) = true
  | [] => rfl
  | n :: ns => intsB_map ns
/-- lists of unlike lengths; a tuple against the empty one -/
def lenB : D → D → Bool
  | .lst ds, .lst es => ds.length != es.length
  | .tup (_ :: _), .tup [] => true
  | _, _ => false
def strsL : D → Option (List Str)
  | .lst ds => ds.mapM fun d => match d with
    | .str z => some z
    | _ => none
  | _ => none
theorem strsL_eq {d : D} {xs : List Str} (h : strsL d = some xs) : d = .lst (xs.map D.str) := by
  have main : ∀ (ds : List D) (xs : List Str), (ds.mapM fun d => match d with | .str z => some z | _ => none) = some xs → ds = xs.map D.str := by
    intro ds
    induction ds with
    | nil => intro xs h; cases h; rfl
    | cons d ds ih =>
      intro xs h
      rw [List.mapM_cons] at h
      obtain ⟨z, h1, h2⟩ := Option.bind_eq_some_iff.mp h
      obtain ⟨zs, h3, h4⟩ := Option.bind_eq_some_iff.mp h2
      cases h4
      rw [List.map_cons, ← ih zs h3]
      cases d <;> first | (cases h1; rfl) | cases h1
  cases d <;> first
    | (rename_i ds; exact congrArg D.lst (main ds xs h))
    | cases h
theorem all_eq {xs ys : List Str} (hl : xs.length = ys.length) : ((List.range xs.length).all fun j => xs.getD j Str.empty == ys.getD j Str.empty) = decide (xs = ys) := by
  by_cases h : xs = ys
  · subst h
    rw [decide_eq_true rfl, List.all_eq_true]
    intro j _
    simp
  · rw [decide_eq_false h, List.all_eq_false]
    by_cases g : ∃ j, j < xs.length ∧ xs.getD j Str.empty ≠ ys.getD j Str.empty
    · obtain ⟨j, h1, h2⟩ := g
      exact ⟨j, List.mem_range.mpr h1, by simpa using h2⟩
    · refine absurd (List.ext_getElem hl fun j h1 h2 => ?_) h
      have e : xs.getD j Str.empty = ys.getD j Str.empty := Decidable.byContradiction fun q => g ⟨j, h1, q⟩
      rw [List.getD_eq_getElem?_getD, List.getD_eq_getElem?_getD, List.getElem?_eq_getElem h1, List.getElem?_eq_getElem h2] at e
      exact e
theorem vals_strT {xs : List Str} {us : List Value} (r : Vals (xs.map V.str) us) : us.length = xs.length ∧ ∀ j (h : j < us.length), ∃ t, us[j] = .str (xs.getD j Str.empty) t := by
  induction xs generalizing us with
  | nil => cases r; exact ⟨rfl, fun j h => absurd h (Nat.not_lt_zero _)⟩
  | cons x xs ih =>
    cases r with
    | cons r1 r2 =>
      obtain ⟨t, rfl⟩ := r1
      obtain ⟨h1, h2⟩ := ih r2
      refine ⟨by simp [h1], fun j h => ?_⟩
      cases j with
      | zero => exact ⟨t, rfl⟩
      | succ j =>
        obtain ⟨t2, e⟩ := h2 j (by simpa using h)
        exact ⟨t2, by simpa using e⟩
theorem op_strsEq (hu : X.A.units + 64 < cLine) : OpR X (compareOp .Eq) (fun x y H Q => ∃ (a b : Addr) (xs ys : List Str), x = .ref a ∧ y = .ref b ∧ H a = some (.lst (xs.map V.str)) ∧ H b = some (.lst (ys.map V.str)) ∧ xs.length = ys.length ∧ Q (.bl (decide (xs = ys))) H) := by
  intro pins s σ H x y v u Q I rx ry ⟨a, b, xs, ys, e1, e2, h1, h2, hn, q⟩
  subst e1 e2
  cases (show v = Value.ref a from rx)
  cases (show u = Value.ref b from ry)
  obtain ⟨us, r1, p1, _⟩ := I.list (SqL.of h1)
  obtain ⟨ws, r2, p2, _⟩ := I.list (SqL.of h2)
  obtain ⟨l1, g1⟩ := vals_strT r1
  obtain ⟨l2, g2⟩ := vals_strT r2
  refine SeqAt.RcAt.lists (e := fun j => xs.getD j Str.empty == ys.getD j Str.empty) p1.isList p2.isList (by rw [List.size_toArray, List.size_toArray, l1, l2, hn]) (by omega) (fun j h3 h4 => ?_) _ _ _ _ ?_
  · obtain ⟨t1, e1⟩ := g1 j (by simpa using h3)
    obtain ⟨t2, e2⟩ := g2 j (by simpa using h4)
    rw [show us.toArray[j] = us[j]'(by simpa using h3) from by simp, show ws.toArray[j] = ws[j]'(by simpa using h4) from by simp, e1, e2]
    exact SeqAt.EqAt.str_str _ _ _ _
  · rw [List.size_toArray, l1, all_eq hn]
    exact ⟨.bl _, H, I, rfl, q⟩
theorem op_strsNe (hu : X.A.units + 64 < cLine) : OpR X (compareOp .NotEq) (fun x y H Q => ∃ (a b : Addr) (xs ys : List Str), x = .ref a ∧ y = .ref b ∧ H a = some (.lst (xs.map V.str)) ∧ H b = some (.lst (ys.map V.str)) ∧ xs.length = ys.length ∧ Q (.bl (!decide (xs = ys))) H) := by
  intro pins s σ H x y v u Q I rx ry ⟨a, b, xs, ys, e1, e2, h1, h2, hn, q⟩
  subst e1 e2
  cases (show v = Value.ref a from rx)
  cases (show u = Value.ref b from ry)
  obtain ⟨us, r1, p1, _⟩ := I.list (SqL.of h1)
  obtain ⟨ws, r2, p2, _⟩ := I.list (SqL.of h2)
  obtain ⟨l1, g1⟩ := vals_strT r1
  obtain ⟨l2, g2⟩ := vals_strT r2
  refine SeqAt.RcNeAt.lists (e := fun j => xs.getD j Str.empty == ys.getD j Str.empty) p1.isList p2.isList (by rw [List.size_toArray, List.size_toArray, l1, l2, hn]) (by omega) (fun j h3 h4 => ?_) _ _ _ _ ?_
  · obtain ⟨t1, e1⟩ := g1 j (by simpa using h3)
    obtain ⟨t2, e2⟩ := g2 j (by simpa using h4)
    rw [show us.toArray[j] = us[j]'(by simpa using h3) from by simp, show ws.toArray[j] = ws[j]'(by simpa using h4) from by simp, e1, e2]
    exact SeqAt.EqAt.str_str _ _ _ _
  · rw [List.size_toArray, l1, all_eq hn]
    exact ⟨.bl _, H, I, rfl, q⟩
def cEq (a b : D) : Option Bool :=
  if sc a b = true then some (sceq a b) else if nilB a b = true then some (empB a) else match chk (good a ∧ good b ∧ dep a ≤ 50 ∧ dep b ≤ 50) (eqD a b) with
    | some t => some t
    | none => if lenB a b = true then some false else match strsL a, strsL b with
      | some xs, some ys => some (decide (xs = ys))
      | _, _ => none
theorem op_lenEq (hu : X.A.units + 64 < cLine) : OpR X (compareOp .Eq) (fun x y H Q => ∃ a b xs ys, x = .ref a ∧ y = .ref b ∧ H a = some (.lst xs) ∧ H b = some (.lst ys) ∧ xs.length ≠ ys.length ∧ Q (.bl false) H) := by
  intro pins s σ H x y v u Q I rx ry ⟨a, b, xs, ys, e1, e2, h1, h2, hn, q⟩
  subst e1 e2
  cases (show v = Value.ref a from rx)
  cases (show u = Value.ref b from ry)
  obtain ⟨us, r1, p1, _⟩ := I.list (SqL.of h1)
  obtain ⟨ws, r2, p2, _⟩ := I.list (SqL.of h2)
  refine SeqAt.RcAt.lists_lengths p1.isList p2.isList ?_ (by omega) _ _ _ _ ⟨.bl false, H, I, rfl, q⟩
  rw [List.size_toArray, List.size_toArray, ← r1.length, ← r2.length]
  simpa using hn
theorem op_lenNe (hu : X.A.units + 64 < cLine) : OpR X (compareOp .NotEq) (fun x y H Q => ∃ a b xs ys, x = .ref a ∧ y = .ref b ∧ H a = some (.lst xs) ∧ H b = some (.lst ys) ∧ xs.length ≠ ys.length ∧ Q (.bl true) H) := by
  intro pins s σ H x y v u Q I rx ry ⟨a, b, xs, ys, e1, e2, h1, h2, hn, q⟩
  subst e1 e2
  cases (show v = Value.ref a from rx)
  cases (show u = Value.ref b from ry)
  obtain ⟨us, r1, p1, _⟩ := I.list (SqL.of h1)
  obtain ⟨ws, r2, p2, _⟩ := I.list (SqL.of h2)
  refine SeqAt.RcNeAt.lists_lengths p1.isList p2.isList ?_ (by omega) _ _ _ _ ⟨.bl true, H, I, rfl, q⟩
  rw [List.size_toArray, List.size_toArray, ← r1.length, ← r2.length]
  simpa using hn
theorem op_tupNilEq (hu : X.A.units + 64 < cLine) : OpR X (compareOp .Eq) (fun x y H Q => ∃ a b xs, x = .ref a ∧ y = .ref b ∧ SqT X.K H a xs ∧ SqT X.K H b [] ∧ xs ≠ [] ∧ Q (.bl false) H) := by
  intro pins s σ H x y v u Q I rx ry ⟨a, b, xs, e1, e2, h1, h2, hn, q⟩
  subst e1 e2
  cases (show v = Value.ref a from rx)
  cases (show u = Value.ref b from ry)
  obtain ⟨us, r1, p1, _⟩ := I.tuple h1
  obtain ⟨ws, r2, p2, _⟩ := I.tuple h2
  cases r2
  have hl := r1.length
  have hne : us.length ≠ 0 := fun z => hn (List.eq_nil_of_length_eq_zero (by omega))
  have key := SeqAt.RcAt.tuples (A := X.A) (e := fun _ => true) (show s.heap.IsTuple a us.toArray from p1) (show s.heap.IsTuple b ([] : List Value).toArray from p2) (by omega) (fun j h1 h2 => absurd h2 (by simp))
  rw [show ((List.range (min us.toArray.size ([] : List Value).toArray.size)).all (fun _ => true) && us.toArray.size == ([] : List Value).toArray.size) = false by simp; exact fun z => hne (by rw [z]; rfl)] at key
  exact key _ _ _ _ ⟨.bl false, H, I, rfl, q⟩
theorem op_tupNilNe (hu : X.A.units + 64 < cLine) : OpR X (compareOp .NotEq) (fun x y H Q => ∃ a b xs, x = .ref a ∧ y = .ref b ∧ SqT X.K H a xs ∧ SqT X.K H b [] ∧ xs ≠ [] ∧ Q (.bl true) H) := by
  intro pins s σ H x y v u Q I rx ry ⟨a, b, xs, e1, e2, h1, h2, hn, q⟩
  subst e1 e2
  cases (show v = Value.ref a from rx)
  cases (show u = Value.ref b from ry)
  obtain ⟨us, r1, p1, _⟩ := I.tuple h1
  obtain ⟨ws, r2, p2, _⟩ := I.tuple h2
  cases r2
  have hl := r1.length
  have hne : us.length ≠ 0 := fun z => hn (List.eq_nil_of_length_eq_zero (by omega))
  have key := SeqAt.RcNeAt.tuples (A := X.A) (e := fun _ => true) (show s.heap.IsTuple a us.toArray from p1) (show s.heap.IsTuple b ([] : List Value).toArray from p2) (by omega) (fun j h1 h2 => absurd h2 (by simp))
  rw [show (!((List.range (min us.toArray.size ([] : List Value).toArray.size)).all (fun _ => true) && us.toArray.size == ([] : List Value).toArray.size)) = true by simp; exact fun z => hne (by rw [z]; rfl)] at key
  exact key _ _ _ _ ⟨.bl true, H, I, rfl, q⟩
theorem tupnil_at {v w : V} {d : D} {ds : List D} (vx : Vw M x (.tup (d :: ds))) (vy : Vw M y (.tup [])) (o : Ok K F M H) (rx : Rp K F v x) (ry : Rp K F w y) :
    ∃ a b xs, v = .ref a ∧ w = .ref b ∧ SqT K H a xs ∧ SqT K H b [] ∧ xs ≠ [] := by
  cases vx.rp rfl o rx with
  | tup h1 k1 =>
    cases vy.rp rfl o ry with
    | tup h2 k2 =>
      cases k2
      exact ⟨_, _, _, rfl, rfl, same_t o.ex h1, same_t o.ex h2, fun z => by rw [z] at k1; cases k1⟩
theorem cEq_inv {a b : D} {t : Bool} (h : (match chk (good a ∧ good b ∧ dep a ≤ 50 ∧ dep b ≤ 50) (eqD a b) with
    | some t => some t
    | none => if lenB a b = true then some false else match strsL a, strsL b with
      | some xs, some ys => some (decide (xs = ys))
      | _, _ => none) = some t) : ((good a ∧ good b ∧ dep a ≤ 50 ∧ dep b ≤ 50) ∧ t = eqD a b) ∨ (t = false ∧ ((∃ ds es, a = .lst ds ∧ b = .lst es ∧ ds.length ≠ es.length) ∨ ∃ d ds, a = .tup (d :: ds) ∧ b = .tup [])) ∨
      ∃ xs ys : List Str, a = .lst (xs.map D.str) ∧ b = .lst (ys.map D.str) ∧ xs.length = ys.length ∧ t = decide (xs = ys) := by
  split at h
  · rename_i t' e
    cases h
    obtain ⟨g, e⟩ := chk_inv e
    exact .inl ⟨g, by rw [e]⟩
  · split at h
    · rename_i hl
      cases h
      refine .inr (.inl ⟨rfl, ?_⟩)
      unfold lenB at hl
      split at hl
      · exact .inl ⟨_, _, rfl, rfl, by simpa using hl⟩
      · exact .inr ⟨_, _, rfl, rfl⟩
      · cases hl
    · rename_i hl
      split at h
      · rename_i xs ys h1 h2
        cases h
        have e1 := strsL_eq h1
        have e2 := strsL_eq h2
        subst e1 e2
        refine .inr (.inr ⟨xs, ys, rfl, rfl, ?_, rfl⟩)
        simpa [lenB] using hl
      · cases h
theorem strs_at {v w : V} {xs ys : List Str} (vx : Vw M x (.lst (xs.map D.str))) (vy : Vw M y (.lst (ys.map D.str))) (o : Ok K F M H) (rx : Rp K F v x) (ry : Rp K F w y) :
    ∃ a b, v = .ref a ∧ w = .ref b ∧ H a = some (.lst (xs.map V.str)) ∧ H b = some (.lst (ys.map V.str)) := by
  obtain ⟨q, us, rfl, h1, r1⟩ := vx.sl.get o rx
  obtain ⟨q2, ws, rfl, h2, r2⟩ := vy.sl.get o ry
  rw [Rps.strs r1] at h1
  rw [Rps.strs r2] at h2
  exact ⟨q, q2, rfl, rfl, h1, h2⟩
theorem lenat_v {v w : V} {ds es : List D} (vx : Vw M x (.lst ds)) (vy : Vw M y (.lst es)) (o : Ok K F M H) (rx : Rp K F v x) (ry : Rp K F w y) (hn : ds.length ≠ es.length) :
    ∃ a b xs ys, v = .ref a ∧ w = .ref b ∧ H a = some (.lst xs) ∧ H b = some (.lst ys) ∧ xs.length ≠ ys.length := by
  obtain ⟨q, xs, rfl, h1, r1⟩ := vx.sl.get o rx
  obtain ⟨q2, ys, rfl, h2, r2⟩ := vy.sl.get o ry
  exact ⟨q, q2, xs, ys, rfl, rfl, h1, h2, by rw [r1.length, r2.length]; exact hn⟩
theorem nil_dp {v w : V} (h : nilB dx dy = true) (vx : Vw M x dx) (vy : Vw M y dy) (o : Ok K F M H) (rx : Rp K F v x) (ry : Rp K F w y) :
    ∃ z1, Dp K H v z1 ∧ Dp K H w (.list []) ∧ SeqAt.shaped z1 = true ∧ SeqAt.shaped (.list []) = true ∧ PyData.eqv z1 (.list []) = empB dx := by
  unfold nilB at h
  split at h
  · obtain ⟨ns, rfl⟩ := intsB_eq h
    obtain ⟨q, xs, rfl, h1, r1⟩ := vx.sl.get o rx
    obtain ⟨q2, ys, rfl, h2, r2⟩ := vy.sl.get o ry
    have e2 : ys = [] := by cases r2; rfl
    subst e2
    refine ⟨.list (ns.map PyData.int), .lst (SqL.of h1) (r1.dps o.ex (pyds_ints ns)), .lst (SqL.of h2) .nil, shaped_ints ns, shaped_ints [], ?_⟩
    cases ns with
    | nil => simp [PyData.eqv, PyData.eqvAll, empB]
    | cons n ns => simp [PyData.eqv, PyData.eqvAll, empB]
  · cases h
theorem sc_imm (h : sc dx dy = true) : imm dx = true ∧ imm dy = true := by
  cases dx <;> cases dy <;> first | exact ⟨rfl, rfl⟩ | cases h
theorem Vw.dp {v : V} (w : Vw M x dx) (g : good dx) (o : Ok K F M H) (r : Rp K F v x) : Dp K H v (pyd dx) := by
  cases w with
  | id => exact r.dp o.ex (good_py g)
  | ad h hf =>
    obtain ⟨_, hm⟩ := o.mt _ _ h
    cases dx with
    | lst ds =>
      obtain ⟨xs, h1, h2⟩ := hm
      cases r
      rw [pyd]
      exact .lst (SqL.of h1) (h2.dps o.ex (goods_py (by simpa [good] using g)))
    | _ => first | exact hm.elim | exact g.elim
theorem od_cEq (hu : X.A.units + 64 < cLine) (vx : Vw M x dx) (vy : Vw M y dy) (h : cEq dx dy = some t) (p : P (.bl t) M) : OD X (compareOp .Eq) x y M P := by
  unfold cEq at h
  split at h
  · rename_i hs
    cases h
    exact od_by (sc_imm hs).1 (sc_imm hs).2 vx vy (od_eq hs p)
  split at h
  · rename_i hs
    cases h
    refine ⟨_, op_eqD hu, fun F H v u Q o rx ry k => ?_⟩
    obtain ⟨z1, g1, g2, s1, s2, e⟩ := nil_dp hs vx vy o rx ry
    exact ⟨_, _, g1, g2, s1, s2, by rw [e]; exact k.here p o (.bl _)⟩
  rcases cEq_inv h with ⟨⟨g1, g2, d1, d2⟩, rfl⟩ | ⟨rfl, ⟨ds, es, rfl, rfl, hn⟩ | ⟨d, ds, rfl, rfl⟩⟩ | ⟨xs, ys, rfl, rfl, hn, rfl⟩
  rotate_left
  rotate_left
  rotate_left
  · refine ⟨_, op_strsEq hu, fun F H v u Q o rx ry k => ?_⟩
    obtain ⟨a, b, e1, e2, h1, h2⟩ := strs_at vx vy o rx ry
    exact ⟨a, b, xs, ys, e1, e2, h1, h2, hn, k.here p o (.bl _)⟩
  rotate_left
  · refine ⟨_, op_lenEq hu, fun F H v u Q o rx ry k => ?_⟩
    obtain ⟨a, b, xs, ys, e1, e2, h1, h2, h3⟩ := lenat_v vx vy o rx ry hn
    exact ⟨a, b, xs, ys, e1, e2, h1, h2, h3, k.here p o (.bl _)⟩
  · refine ⟨_, op_tupNilEq hu, fun F H v u Q o rx ry k => ?_⟩
    obtain ⟨a, b, xs, e1, e2, h1, h2, h3⟩ := tupnil_at vx vy o rx ry
    exact ⟨a, b, xs, e1, e2, h1, h2, h3, k.here p o (.bl _)⟩
  · exact ⟨_, op_eqD hu, fun F H v u Q o rx ry k => ⟨_, _, vx.dp g1 o rx, vy.dp g2 o ry, shaped_good g1 d1, shaped_good g2 d2, k.here p o (.bl _)⟩⟩
def cNe (a b : D) : Option Bool := (cEq a b).map (!·)
theorem od_cNe (hu : X.A.units + 64 < cLine) (vx : Vw M x dx) (vy : Vw M y dy) (h : cNe dx dy = some t) (p : P (.bl t) M) : OD X (compareOp .NotEq) x y M P := by
  unfold cNe at h
  obtain ⟨t2, h', e'⟩ := Option.map_eq_some_iff.mp h
  subst e'
  clear h
  have h := h'
  unfold cEq at h
  split at h
  · rename_i hs
    cases h
    exact od_by (sc_imm hs).1 (sc_imm hs).2 vx vy (od_ne hs p)
  split at h
  · rename_i hs
    cases h
    refine ⟨_, op_neD hu, fun F H v u Q o rx ry k => ?_⟩
    obtain ⟨z1, g1, g2, s1, s2, e⟩ := nil_dp hs vx vy o rx ry
    exact ⟨_, _, g1, g2, s1, s2, by rw [e]; exact k.here p o (.bl _)⟩
  rcases cEq_inv h with ⟨⟨g1, g2, d1, d2⟩, rfl⟩ | ⟨rfl, ⟨ds, es, rfl, rfl, hn⟩ | ⟨d, ds, rfl, rfl⟩⟩ | ⟨xs, ys, rfl, rfl, hn, rfl⟩
  rotate_left
  rotate_left
  rotate_left
  · refine ⟨_, op_strsNe hu, fun F H v u Q o rx ry k => ?_⟩
    obtain ⟨a, b, e1, e2, h1, h2⟩ := strs_at vx vy o rx ry
    exact ⟨a, b, xs, ys, e1, e2, h1, h2, hn, k.here p o (.bl _)⟩
  rotate_left
  · refine ⟨_, op_lenNe hu, fun F H v u Q o rx ry k => ?_⟩
    obtain ⟨a, b, xs, ys, e1, e2, h1, h2, h3⟩ := lenat_v vx vy o rx ry hn
    exact ⟨a, b, xs, ys, e1, e2, h1, h2, h3, k.here p o (.bl _)⟩
  · refine ⟨_, op_tupNilNe hu, fun F H v u Q o rx ry k => ?_⟩
    obtain ⟨a, b, xs, e1, e2, h1, h2, h3⟩ := tupnil_at vx vy o rx ry
    exact ⟨a, b, xs, e1, e2, h1, h2, h3, k.here p o (.bl _)⟩
  · exact ⟨_, op_neD hu, fun F H v u Q o rx ry k => ⟨_, _, vx.dp g1 o rx, vy.dp g2 o ry, shaped_good g1 d1, shaped_good g2 d2, k.here p o (.bl _)⟩⟩
/-- is, is not: with None; of bools -/
def isNonD : D → Option Bool
  | .non => some true
  | .int _ => some false
  | .bl _ => some false
  | .str _ => some false
  | .tup _ => some false
  | .lst _ => some false
  | .ins _ _ => some false
  | .dct _ => some false
  | .exn _ _ => some false
  | _ => none
def cIs : D → D → Option Bool
  | .bl a, .bl b => some (decide (a = b))
  | x, .non => isNonD x
  | _, _ => none
def cIsnt (a b : D) : Option Bool := (cIs a b).map (!·)
/-- flat data as values -/
def flD : D → Option V
  | .non => some .non
  | .bl b => some (.bl b)
  | .int i => some (.int i)
  | .str z => some (.str z)
  | _ => none
def flDs : List D → Option (List V)
  | [] => some []
  | d :: ds => (flD d).bind fun v => (flDs ds).map fun vs => v :: vs
theorem flD_rp {d : D} {v w : V} (h : flD d = some w) (r : Rp K F v d) : v = w := by
  cases r <;> cases h <;> rfl
theorem flDs_rps : ∀ {ds : List D} {vs ws : List V}, flDs ds = some ws → Rps K F vs ds → vs = ws
  | [], _, _, h, .nil => by cases h; rfl
  | d :: ds, _, _, h, .cons r rs => by
    rw [flDs] at h
    obtain ⟨v, h1, h⟩ := Option.bind_eq_some_iff.mp h
    obtain ⟨vs, h2, rfl⟩ := Option.map_eq_some_iff.mp h
    rw [flD_rp h1 r, flDs_rps h2 rs]
theorem flD_flat {d : D} {v : V} (h : flD d = some v) : flatV v = true := by
  cases d <;> cases h <;> rfl
theorem flDs_flat : ∀ {ds : List D} {vs : List V}, flDs ds = some vs → vs.all flatV = true
  | [], _, h => by cases h; rfl
  | d :: ds, _, h => by
    rw [flDs] at h
    obtain ⟨v, h1, h⟩ := Option.bind_eq_some_iff.mp h
    obtain ⟨vs, h2, rfl⟩ := Option.map_eq_some_iff.mp h
    rw [List.all_cons, flD_flat h1, flDs_flat h2]; rfl
theorem flDs_ints : ∀ ns : List Int, flDs (ns.map D.int) = some (ns.map V.int)
  | [] => rfl
  | n :: ns => by rw [List.map_cons, flDs, flDs_ints ns]; rfl
theorem flDs_strs : ∀ ns : List Str, flDs (ns.map D.str) = some (ns.map V.str)
  | [] => rfl
  | n :: ns => by rw [List.map_cons, flDs, flDs_strs ns]; rfl
def itemsD : D → Option (List D)
  | .lst ds => some ds
  | .tup ds => some ds
  | _ => none
theorem items_eq {d : D} {ds : List D} (h : itemsD d = some ds) : d = .lst ds ∨ d = .tup ds := by
  cases d <;> cases h
  · exact .inr rfl
  · exact .inl rfl
/-- x in c: flat x among flat items; a sign in a text; a key in a dict -/
def cIn (a c : D) : Option Bool := match a, c with
  | .str y, .str z => match y.cps.toList with
    | [n] => some (decide (n ∈ z.cps.toList))
    | _ => none
  | a, c => (flD a).bind fun v => (itemsD c).bind fun ds => (flDs ds).bind fun vs => some (inV v vs)
theorem od_cIn (vx : Vw M x dx) (vy : Vw M y dy) (h : cIn dx dy = some t) (p : P (.bl t) M) : OD X (compareOp .In) x y M P := by
  unfold cIn at h
  split at h
  · rename_i y z
    split at h
    · rename_i n e
      cases h
      have e2 : y = ⟨#[n]⟩ := by
        cases y with | mk a => simp at e; cases a; simp at e; subst e; rfl
      exact od_by rfl rfl vx vy (od_inC e2 p)
    · cases h
  · obtain ⟨v0, h1, h⟩ := Option.bind_eq_some_iff.mp h
    obtain ⟨ds, h2, h⟩ := Option.bind_eq_some_iff.mp h
    obtain ⟨vs, h3, h⟩ := Option.bind_eq_some_iff.mp h
    cases h
    refine ⟨_, op_in_seq, fun F H v u Q o rx ry k => ?_⟩
    have i1 : imm dx = true := by cases dx <;> first | rfl | cases h1
    have rx := vx.rp i1 o rx
    obtain rfl := flD_rp h1 rx
    obtain ⟨q, xs, rfl, hs, rs⟩ := vy.seq (items_eq h2) o ry
    obtain rfl := flDs_rps h3 rs
    exact ⟨q, xs, rfl, hs, flD_flat h1, flDs_flat h3, k.here p o (.bl _)⟩
def cNin (a c : D) : Option Bool := (cIn a c).map (!·)
theorem od_cNin (vx : Vw M x dx) (vy : Vw M y dy) (h : cNin dx dy = some t) (p : P (.bl t) M) : OD X (compareOp .NotIn) x y M P := by
  unfold cNin at h
  obtain ⟨t2, h', e'⟩ := Option.map_eq_some_iff.mp h
  subst e'
  clear h
  have h := h'
  unfold cIn at h
  split at h
  · rename_i y z
    split at h
    · rename_i n e
      cases h
      have e2 : y = ⟨#[n]⟩ := by
        cases y with | mk a => simp at e; cases a; simp at e; subst e; rfl
      exact od_by rfl rfl vx vy (od_notInC e2 p)
    · cases h
  · obtain ⟨v0, h1, h⟩ := Option.bind_eq_some_iff.mp h
    obtain ⟨ds, h2, h⟩ := Option.bind_eq_some_iff.mp h
    obtain ⟨vs, h3, h⟩ := Option.bind_eq_some_iff.mp h
    cases h
    refine ⟨_, op_notIn_seq, fun F H v u Q o rx ry k => ?_⟩
    have i1 : imm dx = true := by cases dx <;> first | rfl | cases h1
    have rx := vx.rp i1 o rx
    obtain rfl := flD_rp h1 rx
    obtain ⟨q, xs, rfl, hs, rs⟩ := vy.seq (items_eq h2) o ry
    obtain rfl := flDs_rps h3 rs
    exact ⟨q, xs, rfl, hs, flD_flat h1, flDs_flat h3, k.here p o (.bl _)⟩
def dTru : D → Option Bool
  | .non => some false
  | .bl b => some b
  | .int i => some (i != 0)
  | .str y => chk (y.length ≤ 1000000) ((y.length : Int) != 0)
  | .lst ds => some (!ds.isEmpty)
  | .tup ds => some (!ds.isEmpty)
  | _ => none
theorem rps_empty {xs : List V} {ds : List D} (r : Rps K F xs ds) : xs.isEmpty = ds.isEmpty := by cases r <;> rfl
theorem Vw.tru {v : V} (w : Vw M x dx) (h : dTru dx = some t) (o : Ok K F M H) (r : Rp K F v x) : TruV K v H t := by
  unfold dTru at h
  split at h
  · have r := w.rp rfl o r; cases r; cases h; rfl
  · have r := w.rp rfl o r; cases r; cases h; rfl
  · have r := w.rp rfl o r; cases r; cases h; rfl
  · have r := w.rp rfl o r; cases r
    obtain ⟨h1, rfl⟩ := chk_inv h
    exact ⟨by rw [sizeLine_eq]; omega, rfl⟩
  · cases h
    obtain ⟨q, xs, rfl, h1, r1⟩ := w.sl.get o r
    exact .inl ⟨xs, SqL.of h1, by rw [rps_empty r1]⟩
  · cases h
    have r := w.rp rfl o r
    cases r with
    | tup h1 r1 => exact .inr (.inl ⟨_, same_t o.ex h1, by rw [rps_empty r1]⟩)
  · cases h
theorem tx_tru {PB : Bool → Mem → Prop} (h : EX X J e ρ M fun x M1 => ∃ dx t, Vw M1 x dx ∧ dTru dx = some t ∧ PB t M1) (he : ∀ whole, isTrue e X.env whole = (do let v ← whole; standAt e.pos; holding [v] (truthy v)) := by intro _; rfl) : TX X J e ρ M PB :=
  tx_of (pt_truth pe_any he) fun F σ H Q st k => h.go st fun d v M1 F1 H1 p e1 o1 r1 => by
    obtain ⟨dx, t, w, g, p⟩ := p
    exact ⟨t, w.tru g o1 r1, k _ _ _ _ p e1 o1⟩
theorem ex_notT (h : EX X J a ρ M fun x M1 => ∃ dx t, Vw M1 x dx ∧ dTru dx = some t ∧ P (.bl (!t)) M1) : EX X J (.UnaryOp .Not a pos) ρ M P :=
  ex_of (pe_notT pe_any) fun F σ H Q st k => h.go st fun d v M1 F1 H1 p e1 o1 r1 => by
    obtain ⟨dx, t, w, g, p⟩ := p
    exact ⟨t, w.tru g o1 r1, k _ _ _ _ _ p e1 o1 (.bl _)⟩
theorem ex_andT {rest : List Expr} (h : EX X J a ρ M fun x M1 => ∃ dx t, Vw M1 x dx ∧ dTru dx = some t ∧ (t = true → EX X J (.BoolOp .And (b :: rest) pos) ρ M1 P) ∧ (t = false → P x M1)) : EX X J (.BoolOp .And (a :: b :: rest) pos) ρ M P :=
  ex_of (pe_andT pe_any pe_any) fun F σ H Q st k => h.go st fun d v M1 F1 H1 p e1 o1 r1 => by
    obtain ⟨dx, t, w, g, p⟩ := p
    refine ⟨t, w.tru g o1 r1, ?_⟩
    cases t with
    | true => exact iteT ((p.1 rfl).go (st.to e1 o1) (k.to e1))
    | false => exact iteF (k _ _ _ _ _ (p.2 rfl) e1 o1 r1)
theorem ex_orT {rest : List Expr} (h : EX X J a ρ M fun x M1 => ∃ dx t, Vw M1 x dx ∧ dTru dx = some t ∧ (t = false → EX X J (.BoolOp .Or (b :: rest) pos) ρ M1 P) ∧ (t = true → P x M1)) : EX X J (.BoolOp .Or (a :: b :: rest) pos) ρ M P :=
  ex_of (pe_orT pe_any pe_any) fun F σ H Q st k => h.go st fun d v M1 F1 H1 p e1 o1 r1 => by
    obtain ⟨dx, t, w, g, p⟩ := p
    refine ⟨t, w.tru g o1 r1, ?_⟩
    cases t with
    | true => exact iteT (k _ _ _ _ _ (p.2 rfl) e1 o1 r1)
    | false => exact iteF ((p.1 rfl).go (st.to e1 o1) (k.to e1))
/-- what is known of the end is shown once -/
theorem ex_fix (v : D) (M1 : Mem) (h : EX X J e ρ M fun d M' => d = v ∧ M' = M1) (k : P v M1) : EX X J e ρ M P := h.imp fun d M' q => by rw [q.1, q.2]; exact k
theorem tx_fix {PB : Bool → Mem → Prop} (v : Bool) (M1 : Mem) (h : TX X J e ρ M fun d M' => d = v ∧ M' = M1) (k : PB v M1) : TX X J e ρ M PB := h.imp fun d M' q => by rw [q.1, q.2]; exact k
def dIx : D → D → Option D
  | .lst ds, .int i => atI ds i
  | .tup ds, .int i => atI ds i
  | .str z, .int i => (atI z.cps.toList i).bind fun n => chk (z.length ≤ 1000000) (.str ⟨#[n]⟩)
  | _, _ => none
theorem id_dIx (vx : Vw M x dx) (vy : Vw M y dy) (h : dIx dx dy = some z) (p : P z M) : ID X x y M P := by
  unfold dIx at h
  split at h
  · rename_i ds i
    obtain ⟨r, h1, h2⟩ := id_seq (X := X) vx.sq h p
    exact ⟨r, h1, fun F H v u Q o rx ry k => h2 F H v u Q o rx (vy.rp rfl o ry) k⟩
  · rename_i ds i
    obtain ⟨r, h1, h2⟩ := id_seq (X := X) (.tup : Sq M (.tup ds) ds) h p
    exact ⟨r, h1, fun F H v u Q o rx ry k => h2 F H v u Q o (vx.rp rfl o rx) (vy.rp rfl o ry) k⟩
  · obtain ⟨n, h1, h⟩ := Option.bind_eq_some_iff.mp h
    obtain ⟨h2, rfl⟩ := chk_inv h
    obtain ⟨r, g1, g2⟩ := id_str (X := X) h2 h1 p
    exact ⟨r, g1, fun F H v u Q o rx ry k => g2 F H v u Q o (vx.rp rfl o rx) (vy.rp rfl o ry) k⟩
  · cases h
/-- a slice's end -/
def dEnd : D → Option Int
  | .int i => some i
  | _ => none
theorem ox_d {PO' : Option Int → Mem → Prop} (h : EX X J e ρ M fun x M1 => ∃ dx i, Vw M1 x dx ∧ dEnd dx = some i ∧ PO' (some i) M1) : OX X J (some e) ρ M PO' := fun F σ H Q st k => ⟨_, po_some pe_any, h.go st fun d v M1 F1 H1 p e1 o1 r1 => by
  obtain ⟨dx, i, w, g, p⟩ := p
  unfold dEnd at g
  split at g
  · cases g
    have r2 := w.rp rfl o1 r1
    cases r2
    exact ⟨_, rfl, k _ _ _ _ p e1 o1⟩
  · cases g⟩
def dCut (d : D) (l u : Option Int) : Option D := match d, l, u with
  | .lst ds, l, u => some (.lst (cutD ds l u))
  | .tup ds, l, u => some (.tup (cutD ds l u))
  | .str z, l, u => chk (z.cps.toList.length ≤ 1000000) (.str (S (cutA z.cps.toList l u)))
  | .scr ns, none, some (.ofNat k) => some (.lst ((ns.take k).map D.int))
  | _, _, _ => none
theorem sd_by {l u : Option Int} (w : Vw M x dx) (hz : imm dx = true) (h : SD X dx l u M P) : SD X x l u M P := by
  obtain ⟨r, h1, h2⟩ := h
  exact ⟨r, h1, fun F H v Q o rx k => h2 F H v Q o (w.rp hz o rx) k⟩
theorem sd_dCut {l u : Option Int} (w : Vw M x dx) (h : dCut dx l u = some z) (p : P z M) : SD X x l u M P := by
  unfold dCut at h
  split at h
  · cases h; exact sd_list w.sl p
  · cases h; exact sd_by w rfl (sd_tupA p)
  · obtain ⟨h1, rfl⟩ := chk_inv h; exact sd_by w rfl (sd_str h1 p)
  · cases h; exact sd_by w rfl (sd_scr p)
  · cases h
theorem cd_by {f : Value} (w : Vw M x dx) (hz : imm dx = true) (h : CD X f [dx] M P) : CD X f [x] M P := by
  obtain ⟨r, h1, h2⟩ := h
  exact ⟨r, h1, fun F H vs Q o rs k => by
    cases rs with
    | cons r1 rs => exact h2 F H _ Q o (.cons (w.rp hz o r1) rs) k⟩
theorem cd_by2 {f : Value} (w : Vw M x dx) (hz : imm dx = true) (w2 : Vw M y dy) (hz2 : imm dy = true) (h : CD X f [dx, dy] M P) : CD X f [x, y] M P := by
  obtain ⟨r, h1, h2⟩ := h
  exact ⟨r, h1, fun F H vs Q o rs k => by
    cases rs with
    | cons r1 rs =>
      cases rs with
      | cons r2 rs => exact h2 F H _ Q o (.cons (w.rp hz o r1) (.cons (w2.rp hz2 o r2) rs)) k⟩
def dLen : D → Option D
  | .lst ds => some (.int (ds.length : Int))
  | .tup ds => some (.int (ds.length : Int))
  | .str z => chk (z.length ≤ 1000000) (.int (z.length : Int))
  | _ => none
theorem cd_dLen (w : Vw M x dx) (h : dLen dx = some z) (p : P z M) : CD X (.builtin "len") [x] M P := by
  unfold dLen at h
  split at h
  · cases h; exact cd_len w.sq p
  · cases h; exact cd_by w rfl (cd_len .tup p)
  · obtain ⟨h1, rfl⟩ := chk_inv h; exact cd_by w rfl (cd_lenS h1 p)
  · cases h
def dAbs : D → Option D
  | .int t => some (.int (if t < 0 then -t else t))
  | _ => none
theorem cd_dAbs (w : Vw M x dx) (h : dAbs dx = some z) (p : P z M) : CD X (.builtin "abs") [x] M P := by
  unfold dAbs at h
  split at h
  · cases h; exact cd_by w rfl (cd_abs p)
  · cases h
def dInt : D → Option D
  | .int t => some (.int t)
  | .bl t => some (.int (if t = true then 1 else 0))
  | _ => none
theorem cd_dInt (w : Vw M x dx) (h : dInt dx = some z) (p : P z M) : CD X (.type "int") [x] M P := by
  unfold dInt at h
  split at h
  · cases h; exact cd_by w rfl (cd_intI p)
  · cases h; exact cd_by w rfl (cd_intB p)
  · cases h
def dStr : D → Option D
  | .int i => chk (i.natAbs.log2 < 1920) (.str (toString i))
  | _ => none
/-- list(x), tuple(x) -/
def lList : D → Option (List D)
  | .lst ds => some ds
  | .tup ds => some ds
  | .str z => chk (z.cps.toList.length ≤ 1000000) (signs z)
  | _ => none
theorem cd_lList {l : List D} (hc : X.calm = true) (w : Vw M x dx) (h : lList dx = some l) (p : P (.lst l) M) : CD X (.type "list") [x] M P := by
  unfold lList at h
  split at h
  · cases h; exact cd_list w.sq p
  · cases h; exact cd_by w rfl (cd_list .tup p)
  · obtain ⟨h1, rfl⟩ := chk_inv h; exact cd_by w rfl (cd_listS hc h1 p)
  · cases h
def lListM : D → Option (List D)
  | .lst ds => some ds
  | .tup ds => some ds
  | _ => none
theorem cd_lTuple {l : List D} (hc : X.calm = true) (w : Vw M x dx) (h : lList dx = some l) (p : P (.tup l) M) : CD X (.type "tuple") [x] M P := by
  unfold lList at h
  split at h
  · cases h; exact cd_tuple w.sl p
  · cases h; exact cd_by w rfl (cd_tupleT p)
  · obtain ⟨h1, rfl⟩ := chk_inv h; exact cd_by w rfl (cd_tupleS hc h1 p)
  · cases h
/-- lists of ints, of bools -/
def intsD : List D → Option (List Int)
  | [] => some []
  | .int i :: ds => (intsD ds).map fun l => i :: l
  | _ => none
theorem ints_eq : ∀ {ds : List D} {ns : List Int}, intsD ds = some ns → ds = ns.map D.int
  | [], _, h => by cases h; rfl
  | .int i :: ds, _, h => by
    rw [intsD] at h
    obtain ⟨l, h1, rfl⟩ := Option.map_eq_some_iff.mp h
    rw [ints_eq h1]; rfl
theorem intsD_map : ∀ ns : List Int, intsD (ns.map D.int) = some ns
  | [] => rfl
  | n :: ns => by rw [List.map_cons, intsD, intsD_map ns]; rfl
def blsD : List D → Option (List Bool)
  | [] => some []
  | .bl i :: ds => (blsD ds).map fun l => i :: l
  | _ => none
theorem bls_eq : ∀ {ds : List D} {ns : List Bool}, blsD ds = some ns → ds = ns.map D.bl
  | [], _, h => by cases h; rfl
  | .bl i :: ds, _, h => by
    rw [blsD] at h
    obtain ⟨l, h1, rfl⟩ := Option.map_eq_some_iff.mp h
    rw [bls_eq h1]; rfl
theorem blsD_map : ∀ ns : List Bool, blsD (ns.map D.bl) = some ns
  | [] => rfl
  | n :: ns => by rw [List.map_cons, blsD, blsD_map ns]; rfl
def lstD : D → Option (List D)
  | .lst ds => some ds
  | _ => none
theorem lstD_eq {d : D} {ds : List D} (h : lstD d = some ds) : d = .lst ds := by cases d <;> cases h; rfl
def maxI : List Int → Int
  | [] => 0
  | n :: ns => ns.foldl max n
def minI : List Int → Int
  | [] => 0
  | n :: ns => ns.foldl min n
def dMax (d : D) : Option D := (lstD d).bind fun ds => (intsD ds).bind fun ns => chk (0 < ns.length) (.int (maxI ns))
def dMin (d : D) : Option D := (lstD d).bind fun ds => (intsD ds).bind fun ns => chk (0 < ns.length) (.int (minI ns))
def dSum (d : D) : Option D := (lstD d).bind fun ds => (intsD ds).bind fun ns => some (.int ns.sum)
def dAll (d : D) : Option D := (lstD d).bind fun ds => (blsD ds).bind fun ns => some (.bl (ns.all id))
def dAny (d : D) : Option D := (lstD d).bind fun ds => (blsD ds).bind fun ns => some (.bl (ns.any id))
theorem cd_dAll (hc : X.calm = true) (w : Vw M x dx) (h : dAll dx = some z) (p : P z M) : CD X (.builtin "all") [x] M P := by
  obtain ⟨ds, h1, h⟩ := Option.bind_eq_some_iff.mp h
  obtain ⟨ns, h2, h⟩ := Option.bind_eq_some_iff.mp h
  cases h
  obtain rfl := lstD_eq h1
  exact cd_allE hc w.sl (bls_eq h2) p
def dMax2 : D → D → Option D
  | .int i, .int j => some (.int (if j > i then j else i))
  | _, _ => none
def dMin2 : D → D → Option D
  | .int i, .int j => some (.int (if j < i then j else i))
  | _, _ => none
theorem cd_dMin2 (hc : X.calm = true) (w : Vw M x dx) (w2 : Vw M y dy) (h : dMin2 dx dy = some z) (p : P z M) : CD X (.builtin "min") [x, y] M P := by
  unfold dMin2 at h
  split at h
  · cases h; exact cd_by2 w rfl w2 rfl (cd_min2 hc p)
  · cases h
/-- repr of data without dicts -/
def dRepr (d : D) : Option D := chk (good d ∧ wt d ≤ 16000000 ∧ dep d ≤ 50) (.str (txt d))
/-- isinstance with a built-in class -/
def dIsi (n : String) (d : D) : Option Bool := chk (plain d = true) (isi n d)
theorem cd_dIsi {n : String} (hn : n ∈ ["int", "bool", "str", "tuple", "list", "dict"]) (w : Vw M x dx) (hi : x = dx) (h : dIsi n dx = some t) (p : P (.bl t) M) : CD X (.builtin "isinstance") [x, .ty n] M P := by
  obtain ⟨h1, rfl⟩ := chk_inv h
  subst hi
  exact cd_isi hn h1 p
end
end
end DX
namespace ZMix
open PySem PySem.Spec L2 PyProof.Rows
def SeqK : Bool → Heap → Addr → Array Value → Prop
  | true, h, a, its => h.IsTuple a its
  | false, h, a, its => h.IsList a its
def WalkK : Bool → Heap → Addr → Addr → Nat → Prop
  | true, h, it, a, i => h.IsTupleIter it a i
  | false, h, it, a, i => h.IsListIter it a i
def SqK : Bool → PySem.W.Frag → Hp → Addr → List V → Prop
  | true, K, H, a, xs => SqT K H a xs
  | false, K, H, a, xs => SqL K H a xs
def objK : Bool → Addr → Obj
  | true, a => { cls := .type "tuple_iterator", data := .fields #[.ref a, .int 0 0] }
  | false, a => { cls := .type "list_iterator", data := .fields #[.ref a, .int 0 0] }
/-- both walked side by side, in new pairs -/
def ItM (t u : Bool) (K : PySem.W.Frag) (a b : Addr) : It :=
  ⟨fun i H => ∃ xs ys : List V, ∃ x y : V, SqK t K H a xs ∧ SqK u K H b ys ∧ xs[i]? = some x ∧ ys[i]? = some y,
   fun i H v H' => ∃ n : Addr, ∃ x y : V, v = .ref n ∧ H n = none ∧ H' = upd H n (.tup [x, y]) ∧ (∀ xs, SqK t K H a xs → xs[i]? = some x) ∧ (∀ ys, SqK u K H b ys → ys[i]? = some y),
   fun i H => ∃ xs ys : List V, SqK t K H a xs ∧ SqK u K H b ys ∧ i ≤ xs.length ∧ i ≤ ys.length ∧ (i = xs.length ∨ i = ys.length)⟩
structure Far (z TI TO i1 i2 a b : Addr) : Prop where
  s : ZipSep2 z TI TO i1 i2 [i1, a] [i2, b]
  a1 : a ≠ i1
  b1 : b ≠ i2
  i12 : i1 ≠ i2
def iZipM (t u : Bool) (K : PySem.W.Frag) (ta : TA) : TI := fun σ H R => ta σ H fun vs H1 => ∃ a b : Addr, ∃ xs ys : List V, vs = [.ref a, .ref b] ∧ SqK t K H1 a xs ∧ SqK u K H1 b ys ∧ R (ItM t u K a b) H1
end ZMix
namespace DX
open PySem PySem.Spec L2 ZMix
variable {X : Cx} {J : Gh} {M : Mem} {F : Hp} {K : PySem.W.Frag} {ρ : DEnv} {a b : Expr} {p pos : Pos}
end DX
namespace DX
open PySem PySem.Spec L2 SX
noncomputable section
inductive Ctl (S R : Type) where
  | go (s : S) | brk (s : S) | ret (r : R)
def foldO {S : Type} (f : S → D → Option S) : S → List D → Option S
  | s, [] => some s
  | s, x :: xs => (f s x).bind fun s' => foldO f s' xs
/-- how a loop that may be left ends: brk never -/
def loopC {S R : Type} (f : S → D → Option (Ctl S R)) : S → List D → Option (Ctl S R)
  | s, [] => some (.go s)
  | s, x :: xs => (f s x).bind fun
    | .go s' => loopC f s' xs
    | .brk s' => some (.go s')
    | .ret r => some (.ret r)
def ctl {S R T : Type} (c : Ctl S R) (f : S → Option T) (g : R → Option T) : Option T := match c with
  | .go s => f s
  | .brk s => f s
  | .ret r => g r
theorem ctl_retS {S R : Type} {c : Ctl S R} {f : S → Option R} {v z : R} (h : ctl c f (fun v => some v) = some z) (e : c = .ret v) : some v = some z := by subst e; exact h
theorem ctl_go {S R T : Type} {c : Ctl S R} {f : S → Option T} {g : R → Option T} {v : S} {z : T} (h : ctl c f g = some z) (e : c = .go v) : f v = some z := by subst e; exact h
def whileO {S : Type} (c : S → Option Bool) (f : S → Option S) : Nat → S → Option S
  | 0, _ => none
  | n + 1, s => (c s).bind fun t => if t = true then (f s).bind fun s' => whileO c f n s' else some s
def mapO (f : D → Option D) : List D → Option (List D)
  | [] => some []
  | x :: xs => (f x).bind fun y => (mapO f xs).map fun ys => y :: ys
def filtO (f : D → Option (Option D)) : List D → Option (List D)
  | [] => some []
  | x :: xs => (f x).bind fun o => (filtO f xs).map fun ys => match o with
    | some y => y :: ys
    | none => ys
def mapS {S : Type} (f : S → D → Option (D × S)) : S → List D → Option (List D × S)
  | s, [] => some ([], s)
  | s, x :: xs => (f s x).bind fun p => (mapS f p.2 xs).map fun q => (p.1 :: q.1, q.2)
def filtS {S : Type} (f : S → D → Option (Option D × S)) : S → List D → Option (List D × S)
  | s, [] => some ([], s)
  | s, x :: xs => (f s x).bind fun p => (filtS f p.2 xs).map fun q => (match p.1 with
    | some y => y :: q.1
    | none => q.1, q.2)
/-- the tuple's parts -/
def un1 : D → Option D
  | .tup [a] => some a
  | _ => none
def un2 : D → Option (D × D)
  | .tup [a, b] => some (a, b)
  | _ => none
def un3 : D → Option (D × D × D)
  | .tup [a, b, c] => some (a, b, c)
  | _ => none
def un4 : D → Option (D × D × D × D)
  | .tup [a, b, c, d] => some (a, b, c, d)
  | _ => none
def un5 : D → Option (D × D × D × D × D)
  | .tup [a, b, c, d, e] => some (a, b, c, d, e)
  | _ => none
theorem un2_eq {d : D} {p : D × D} (h : un2 d = some p) : d = .tup [p.1, p.2] := by unfold un2 at h; split at h <;> cases h; rfl
/-- what is walked -/
def dIter : D → Option (List D)
  | .lst ds => some ds
  | .tup ds => some ds
  | .str z => some (signs z)
  | _ => none
def dZip : D → D → Option (List D)
  | .lst a, .lst b => some (zipD a b)
  | .tup a, .tup b => some (zipD a b)
  | .tup a, .lst b => some (zipD a b)
  | .lst a, .tup b => some (zipD a b)
  | _, _ => none
def dEnum : D → Option (List D)
  | .lst a => some (enumD 0 a)
  | .tup a => some (enumD 0 a)
  | _ => none
def dRange : List D → Option (List D)
  | [.int j] => chk (-1000000 ≤ j ∧ j ≤ 1000000) (rngD 0 j.toNat)
  | [.int i, .int j] => chk ((0 ≤ i ∧ i ≤ 1000000) ∧ -1000000 ≤ j ∧ j ≤ 1000000) (rngD i (j - i).toNat)
  | [.int i, .int j, .int c] => if c = -1 then chk ((-1000000 ≤ i ∧ i ≤ 1000000) ∧ -1000000 ≤ j ∧ j ≤ 1000000) (rngC i (-1) (i - j).toNat)
    else chk ((-1000000 ≤ i ∧ i ≤ 1000000) ∧ (-1000000 ≤ j ∧ j ≤ 1000000) ∧ 1 ≤ c ∧ c ≤ 1000) (rngC i c (cntP i j c))
  | _ => none
/-- x[i] = v; x.pop(i); x.pop() -/
def lSet (l : List D) (i v : D) : Option (List D) := match i with
  | .int n => (ixN l.length n).map fun m => l.set m v
  | _ => none
def lPopAt (l : List D) (i : D) : Option (D × List D) := match i with
  | .int n => (chk (-(2 ^ 62) ≤ n ∧ n < 2 ^ 62) ()).bind fun _ => (ixN l.length n).bind fun m => (l[m]?).map fun v => (v, l.eraseIdx m)
  | _ => none
def lPop (l : List D) : Option (D × List D) := (l[l.length - 1]?).map fun v => (v, l.dropLast)
def dJoin (z d : D) : Option D := match z, itemsD d with
  | .str z, some ds => chk (AllS ds ∧ sizeJ ds + ds.length * z.length ≤ 16777216) (.str (Txt.join z (ds.map toS)))
  | _, _ => none
section
variable {X : Cx} {J : Gh} {e a b c o : Expr} {es : List Expr} {ρ ρ' : DEnv} {M M' M0 M1 : Mem} {F F' H H' : Hp} {σ : L2.St} {B : Bd} {K : PySem.W.Frag} {pos p apos cpos : Pos} {x y dx dy z : D} {P : D → Mem → Prop} {t : Bool}
theorem up_none {a b : Addr} {d : D} (h : up M a d b = none) : a ≠ b ∧ M b = none := by
  unfold up at h
  split at h
  · cases h
  · rename_i q; exact ⟨fun e => q e.symm, h⟩
theorem nn {a b : Addr} {d : D} (q : a ≠ b) (h : M b = none) : up M a d b = none := by rw [up_ne (Ne.symm q)]; exact h
theorem At.ne {h b : Addr} {d : D} {f : D → Mem} (A : At M h d f) (q : M b = none) : h ≠ b := by rintro rfl; rw [A.get] at q; cases q
theorem fresh1 {W : D → Mem} {p b : Addr} (hW : ∀ x, At (W x) p x W) {x : D} (h : W x b = none) (y : D) : W y b = none := by
  rw [(hW x).set y, up_ne (Ne.symm ((hW x).ne h))]; exact h
theorem sub_refl : Sub M M := fun _ _ h => h
theorem sub_drop {a : Addr} {d : D} (s : Sub M0 M1) (h : M1 a = none) : Sub M0 (up M1 a d) := fun b d' q => by
  have q1 := s b d' q
  rw [up_ne (fun e => by rw [e, h] at q1; cases q1)]; exact q1
theorem sub_keep {a : Addr} {d : D} (s : Sub M0 M1) : Sub (up M0 a d) (up M1 a d) := fun b d' q => by
  unfold up at q ⊢
  split at q
  · rename_i e; rw [if_pos e]; exact q
  · rename_i e; rw [if_neg e]; exact s b d' q
theorem subx_here {p : Addr} {d : D} (h : M p = none) : SubX p M (up M p d) := fun a d' q => by
  have : a ≠ p := fun e => by rw [e, h] at q; cases q
  exact ⟨this, by rw [up_ne this]; exact q⟩
theorem subx_keep {p a : Addr} {d : D} (n : p ≠ a) (s : SubX p M0 M1) : SubX p (up M0 a d) (up M1 a d) := fun b d' q => by
  unfold up at q ⊢
  split at q
  · rename_i e; rw [if_pos e]; exact ⟨fun z => n (z.symm.trans e), q⟩
  · rename_i e; rw [if_neg e]; exact s b d' q
theorem ex_less (h : EX X J e ρ M fun d M1 => ∃ M0, Sub M0 M1 ∧ P d M0) : EX X J e ρ M P :=
  ex_of h fun F σ H Q st k => ⟨F, st, fun d v M' F' H' q e1 o1 r1 => by
    obtain ⟨M0, s, q⟩ := q
    exact k d v M0 F' H' q e1 (o1.sub s) r1⟩
theorem gx_frzA {sts : List Stmt} {p : Addr} {d : D} (i : Nat) (hi : DX.look ρ i = some (.adr p)) (hp : M p = some d) (sx : SubX p M0 M) (h : GX X J sts (DX.put ρ i d) M0 B) (hf : frzD d = true := by rfl) : GX X J sts ρ M B :=
  ⟨fun pins s σ H E I ⟨F, st, k⟩ => by
    obtain ⟨u, hu⟩ := (st.ok.mt p _ hp).2.there
    obtain ⟨s1, o4⟩ := st.ok.frz sx hp hu
    exact h.run pins s σ H E I ⟨_, ⟨(st.en.mono s1).frz hi ((st.ok.mt p _ hp).2.rp hu s1 upd_same hf), o4, J.mono _ _ s1 st.gh⟩, ⟨fun F' σ' H' ρ' M' q z1 z2 z3 => k.nx F' σ' H' ρ' M' q (s1.trans z1) z2 z3, k.rt.to s1, fun F' σ' H' ρ' M' q z1 z2 z3 => k.bk F' σ' H' ρ' M' q (s1.trans z1) z2 z3, fun F' σ' H' ρ' M' q z1 z2 z3 => k.ct F' σ' H' ρ' M' q (s1.trans z1) z2 z3⟩⟩⟩
theorem ret0 {v r : D} (e : v = r) (k : P r M) : P v M := by subst e; exact k
theorem ret1 {v : D} {r : D × List D} {l : List D} {W : D → Mem} (e : (v, l) = r) (k : P r.1 (W (.lst r.2))) : P v (W (.lst l)) := by subst e; exact k
theorem as_eq {tg : Expr} {d d' : D} {Q : DEnv → Prop} (e : d = d') (h : AsD X tg d' ρ Q) : AsD X tg d ρ Q := by subst e; exact h
theorem ix_seqU {tg : Expr} {v : D} {ds : List D} {M2 : Mem} {P : List D → Mem → Prop} (h : EX X J e ρ M fun d M' => d = v ∧ M' = M2) (hv : dIter v = some ds) (k : P ds M2) : IX X J tg e ρ M P := by
  cases v <;> cases hv
  · exact ix_str (h.imp fun d M' q => ⟨_, q.1, by rw [q.2]; exact k⟩)
  · exact ix_tup (h.imp fun d M' q => ⟨_, q.1, by rw [q.2]; exact k⟩)
  · exact ix_lst (h.imp fun d M' q => ⟨_, q.1, by rw [q.2]; exact k⟩)
theorem ix_enumU {elts : List Expr} {kk : Nat} {tpos : Pos} {v : D} {ds : List D} {M2 : Mem} {P : List D → Mem → Prop} (hm : X.mg "enumerate" = none) (h : AX X J [a] ρ M fun ws M' => ws = [v] ∧ M' = M2) (hv : dEnum v = some ds) (k : P ds M2) (hg : Gl X "enumerate" := by rfl)
    (hs : starEach [a] X.env = [(false, eval a X.env)] := by rfl) : IX X J (.Tuple elts kk tpos) (.Call (.Name "enumerate" p) [a] [] pos) ρ M P := by
  cases v <;> cases hv
  · exact ix_enumT hm (h.imp fun d M' q => ⟨_, q.1, by rw [q.2]; exact k⟩) hg hs
  · exact ix_enum hm (h.imp fun d M' q => ⟨_, q.1, by rw [q.2]; exact k⟩) hg hs
theorem ix_range1U {tg : Expr} {v : D} {ds : List D} {M2 : Mem} {P : List D → Mem → Prop} (hm : X.mg "range" = none) (h : AX X J [a] ρ M fun ws M' => ws = [v] ∧ M' = M2) (hv : dRange [v] = some ds) (k : P ds M2) (hg : Gl X "range" := by rfl)
    (hs : starEach [a] X.env = [(false, eval a X.env)] := by rfl) : IX X J tg (.Call (.Name "range" p) [a] [] pos) ρ M P := by
  cases v <;> first | (cases hv; done) | skip
  obtain ⟨h1, rfl⟩ := chk_inv hv
  exact ix_range1 hm (h.imp fun d M' q => ⟨_, q.1, ⟨by omega, by omega⟩, by rw [q.2]; exact k⟩) hg hs
theorem ix_range2U {tg : Expr} {v w : D} {ds : List D} {M2 : Mem} {P : List D → Mem → Prop} (hm : X.mg "range" = none) (h : AX X J [a, b] ρ M fun ws M' => ws = [v, w] ∧ M' = M2) (hv : dRange [v, w] = some ds) (k : P ds M2) (hg : Gl X "range" := by rfl)
    (hs : starEach [a, b] X.env = [(false, eval a X.env), (false, eval b X.env)] := by rfl) (hs2 : starEach [b] X.env = [(false, eval b X.env)] := by rfl) : IX X J tg (.Call (.Name "range" p) [a, b] [] pos) ρ M P := by
  cases v <;> first | (cases hv; done) | skip
  cases w <;> first | (cases hv; done) | skip
  obtain ⟨h1, rfl⟩ := chk_inv hv
  exact ix_range2 hm (h.imp fun d M' q => ⟨_, _, q.1, ⟨by omega, by omega, by omega, by omega⟩, by rw [q.2]; exact k⟩) hg hs hs2
theorem rg_d {vs ds : List D} (h : dRange vs = some ds) (hc : ∀ i j c, vs = [.int i, .int j, .int c] → c = -1) : ∃ i c n, Rg vs i c n ∧ ds = rngC i c n := by
  unfold dRange at h
  split at h
  · obtain ⟨h1, rfl⟩ := chk_inv h; exact ⟨_, _, _, rg1 (by omega), rngC_one.symm⟩
  · obtain ⟨h1, rfl⟩ := chk_inv h; exact ⟨_, _, _, rg2 (by omega), rngC_one.symm⟩
  · rename_i i j c
    obtain rfl := hc _ _ _ rfl
    rw [if_pos rfl] at h
    obtain ⟨h1, rfl⟩ := chk_inv h; exact ⟨_, _, _, rg3 h1, rfl⟩
  · cases h
section
variable {S R : Type} {xs : List D} {tg : Expr} {stm : List Stmt}
theorem drop_at {i : Nat} {d : D} (h : xs[i]? = some d) : xs.drop i = d :: xs.drop (i + 1) := by
  have hi : i < xs.length := by
    by_cases q : i < xs.length
    · exact q
    · rw [List.getElem?_eq_none (by omega)] at h; cases h
  rw [List.getElem?_eq_getElem hi] at h
  cases h
  exact List.drop_eq_getElem_cons hi
theorem forF {f : S → D → Option S} {s0 sN : S} (hl : foldO f s0 xs = some sN) (V : S → DEnv → Mem → Prop) (h0 : V s0 ρ M)
    (hs : ∀ d s s', f s d = some s' → ∀ ρ' M', V s ρ' M' → AsD X tg d ρ' fun ρ2 => GX X J stm ρ2 M' ⟨V s', B.rt, B.nx, V s'⟩) (hd : ∀ ρ' M', V sN ρ' M' → B.nx ρ' M') :
    ∃ Wd : Nat → DEnv → Mem → Prop, Wd 0 ρ M ∧ (∀ i d ρ' M', xs[i]? = some d → Wd i ρ' M' → AsD X tg d ρ' fun ρ2 => GX X J stm ρ2 M' ⟨Wd (i + 1), B.rt, B.nx, Wd (i + 1)⟩) ∧ ∀ ρ' M', Wd xs.length ρ' M' → B.nx ρ' M' := by
  refine ⟨fun i ρ' M' => ∃ s, foldO f s (xs.drop i) = some sN ∧ V s ρ' M', ⟨s0, hl, h0⟩, fun i d ρ' M' hi ⟨s, h1, h2⟩ => ?_, fun ρ' M' ⟨s, h1, h2⟩ => ?_⟩
  · rw [drop_at hi, foldO] at h1
    obtain ⟨s', h3, h4⟩ := Option.bind_eq_some_iff.mp h1
    obtain ⟨g, hg, h⟩ := hs d s s' h3 ρ' M' h2
    exact ⟨g, hg, fun F M v σ H Q o r en k => h F M v σ H Q o r en fun σ' ρ2 q en2 => k σ' ρ2 (q.imp (fun _ _ z => ⟨s', h4, z⟩) (fun _ _ z => z) (fun _ _ z => z) (fun _ _ z => ⟨s', h4, z⟩)) en2⟩
  · rw [List.drop_length, foldO] at h1
    cases h1
    exact hd ρ' M' h2
theorem forC {f : S → D → Option (Ctl S R)} {s0 : S} {c : Ctl S R} (hl : loopC f s0 xs = some c) (V : S → DEnv → Mem → Prop) (h0 : V s0 ρ M)
    (hs : ∀ d s b, f s d = some b → (∀ r, b = .ret r → c = .ret r) → ∀ ρ' M', V s ρ' M' → AsD X tg d ρ' fun ρ2 => GX X J stm ρ2 M' ⟨fun ρ M => ∃ s', b = .go s' ∧ V s' ρ M, B.rt, fun ρ M => ∃ s', b = .brk s' ∧ V s' ρ M, fun ρ M => ∃ s', b = .go s' ∧ V s' ρ M⟩)
    (hd : ∀ s', c = .go s' → ∀ ρ' M', V s' ρ' M' → B.nx ρ' M') :
    ∃ Wd : Nat → DEnv → Mem → Prop, Wd 0 ρ M ∧ (∀ i d ρ' M', xs[i]? = some d → Wd i ρ' M' → AsD X tg d ρ' fun ρ2 => GX X J stm ρ2 M' ⟨Wd (i + 1), B.rt, B.nx, Wd (i + 1)⟩) ∧ ∀ ρ' M', Wd xs.length ρ' M' → B.nx ρ' M' := by
  refine ⟨fun i ρ' M' => ∃ s, loopC f s (xs.drop i) = some c ∧ V s ρ' M', ⟨s0, hl, h0⟩, fun i d ρ' M' hi ⟨s, h1, h2⟩ => ?_, fun ρ' M' ⟨s, h1, h2⟩ => ?_⟩
  · rw [drop_at hi, loopC] at h1
    obtain ⟨b, h3, h4⟩ := Option.bind_eq_some_iff.mp h1
    obtain ⟨g, hg, h⟩ := hs d s b h3 (fun r e => by subst e; cases h4; rfl) ρ' M' h2
    refine ⟨g, hg, fun F M v σ H Q o r en k => h F M v σ H Q o r en fun σ' ρ2 q en2 => k σ' ρ2 (q.imp (fun _ _ z => ?_) (fun _ _ z => z) (fun _ _ z => ?_) (fun _ _ z => ?_)) en2⟩
    · obtain ⟨s', e, z⟩ := z; subst e; exact ⟨s', h4, z⟩
    · obtain ⟨s', e, z⟩ := z; subst e; exact hd s' (so h4).symm _ _ z
    · obtain ⟨s', e, z⟩ := z; subst e; exact ⟨s', h4, z⟩
  · rw [List.drop_length, loopC] at h1
    exact hd s (so h1).symm ρ' M' h2
end
section
variable {S : Type} {scope : Scope} {tg elt : Expr} {ifs : List Expr} {vs : List Nat} {xs ys : List D}
theorem len_at {i : Nat} {d : D} (h : xs[i]? = some d) : i < xs.length := by
  by_cases q : i < xs.length
  · exact q
  · rw [List.getElem?_eq_none (by omega)] at h; cases h
theorem lcF {f : D → Option D} (hl : mapO f xs = some ys) (hz : xs.length ≤ 1000000)
    (hs : ∀ d y acc Dl, f d = some y → M Dl = none → AsB X scope vs tg d (cuts ρ vs) fun ρ2 => EXb X J scope elt ρ2 (up M Dl (.lst acc)) fun y' M3 => y' = y ∧ M3 = up M Dl (.lst acc)) (k : P (.lst ys) M) : LcW X J scope vs tg [] elt ρ P xs M := by
  refine ⟨fun i acc M' => M' = M ∧ acc.length = i ∧ ∃ r, mapO f (xs.drop i) = some r ∧ acc ++ r = ys, ⟨rfl, rfl, ys, hl, rfl⟩, fun i d acc M' Dl hi ⟨e, ha, r, h1, h2⟩ hD => ?_, fun acc M' ⟨e, ha, r, h1, h2⟩ => ?_⟩
  · subst e
    have hi2 := len_at hi
    refine ⟨by omega, ?_⟩
    rw [drop_at hi, mapO] at h1
    obtain ⟨y, h3, h1⟩ := Option.bind_eq_some_iff.mp h1
    obtain ⟨r', h4, rfl⟩ := Option.map_eq_some_iff.mp h1
    obtain ⟨g, hg, h⟩ := hs d y acc Dl h3 hD
    refine ⟨g, hg, fun F M v σ H Q o r en k => h F M v σ H Q o r en fun σ' ρ2 q en2 w => k σ' ρ2 ?_ en2 w⟩
    refine txb_nil ⟨fun _ => fun s H C cl fp => (q s H C cl fp).imp fun y' M3 z => ?_, fun h => nomatch h⟩
    obtain ⟨rfl, rfl⟩ := z
    exact ⟨M', hD, rfl, rfl, by rw [List.length_append, ha]; rfl, r', h4, by rw [List.append_assoc]; exact h2⟩
  · rw [List.drop_length, mapO] at h1
    cases h1
    subst e
    rw [List.append_nil] at h2
    subst h2
    exact k
theorem filtF {f : D → Option (Option D)} (hl : filtO f xs = some ys) (hz : xs.length ≤ 1000000)
    (hs : ∀ d y acc Dl, f d = some y → M Dl = none → AsB X scope vs tg d (cuts ρ vs) fun ρ2 => TXb X J scope ifs ρ2 (up M Dl (.lst acc)) fun t M2 => (t = true → EXb X J scope elt ρ2 M2 fun y' M3 => y = some y' ∧ M3 = up M Dl (.lst acc)) ∧ (t = false → y = none ∧ M2 = up M Dl (.lst acc))) (k : P (.lst ys) M) : LcW X J scope vs tg ifs elt ρ P xs M := by
  refine ⟨fun i acc M' => M' = M ∧ acc.length ≤ i ∧ ∃ r, filtO f (xs.drop i) = some r ∧ acc ++ r = ys, ⟨rfl, Nat.le_refl _, ys, hl, rfl⟩, fun i d acc M' Dl hi ⟨e, ha, r, h1, h2⟩ hD => ?_, fun acc M' ⟨e, ha, r, h1, h2⟩ => ?_⟩
  · subst e
    have hi2 := len_at hi
    refine ⟨by omega, ?_⟩
    rw [drop_at hi, filtO] at h1
    obtain ⟨y, h3, h1⟩ := Option.bind_eq_some_iff.mp h1
    obtain ⟨r', h4, rfl⟩ := Option.map_eq_some_iff.mp h1
    obtain ⟨g, hg, h⟩ := hs d y acc Dl h3 hD
    refine ⟨g, hg, fun F M v σ H Q o r en k => h F M v σ H Q o r en fun σ' ρ2 q en2 w => k σ' ρ2 ?_ en2 w⟩
    obtain ⟨tt, h5, h6⟩ := q
    refine ⟨tt, h5, fun F σ H Q st kb => h6 F σ H Q st fun tb M2 F' H' q e o => kb tb M2 F' H' ?_ e o⟩
    refine ⟨fun ht => fun s H C cl fp => (q.1 ht s H C cl fp).imp fun y' M3 z => ?_, fun ht => ?_⟩
    · obtain ⟨rfl, rfl⟩ := z
      exact ⟨M', hD, rfl, rfl, by rw [List.length_append, List.length_singleton]; omega, r', h4, by rw [List.append_assoc]; exact h2⟩
    · obtain ⟨rfl, e2⟩ := q.2 ht
      exact ⟨M', hD, e2, rfl, by omega, r', h4, h2⟩
  · rw [List.drop_length, filtO] at h1
    cases h1
    subst e
    rw [List.append_nil] at h2
    subst h2
    exact k
theorem mapSF {f : S → D → Option (D × S)} {s0 sN : S} (hl : mapS f s0 xs = some (ys, sN)) (hz : xs.length ≤ 1000000) (W : S → Mem) (hM : M = W s0)
    (hs : ∀ d s q acc Dl, f s d = some q → W s Dl = none → AsB X scope vs tg d (cuts ρ vs) fun ρ2 => EXb X J scope elt ρ2 (up (W s) Dl (.lst acc)) fun y' M3 => y' = q.1 ∧ W q.2 Dl = none ∧ M3 = up (W q.2) Dl (.lst acc)) (k : P (.lst ys) (W sN)) : LcW X J scope vs tg [] elt ρ P xs M := by
  refine ⟨fun i acc M' => acc.length = i ∧ ∃ s r, M' = W s ∧ mapS f s (xs.drop i) = some (r, sN) ∧ acc ++ r = ys, ⟨rfl, s0, ys, hM, hl, rfl⟩, fun i d acc M' Dl hi ⟨ha, s, r, e, h1, h2⟩ hD => ?_, fun acc M' ⟨ha, s, r, e, h1, h2⟩ => ?_⟩
  · subst e
    have hi2 := len_at hi
    refine ⟨by omega, ?_⟩
    rw [drop_at hi, mapS] at h1
    obtain ⟨q, h3, h1⟩ := Option.bind_eq_some_iff.mp h1
    obtain ⟨q', h4, e4⟩ := Option.map_eq_some_iff.mp h1
    obtain ⟨r', s'⟩ := q'
    cases e4
    obtain ⟨g, hg, h⟩ := hs d s q acc Dl h3 hD
    refine ⟨g, hg, fun F M v σ H Q o r en k => h F M v σ H Q o r en fun σ' ρ2 q en2 w => k σ' ρ2 ?_ en2 w⟩
    refine txb_nil ⟨fun _ => fun s H C cl fp => (q s H C cl fp).imp fun y' M3 z => ?_, fun h => nomatch h⟩
    obtain ⟨rfl, z2, rfl⟩ := z
    exact ⟨W _, z2, rfl, by rw [List.length_append, ha]; rfl, _, r', rfl, h4, by rw [List.append_assoc]; exact h2⟩
  · rw [List.drop_length, mapS] at h1
    cases h1
    subst e
    rw [List.append_nil] at h2
    subst h2
    exact k
end
/-- the comprehension's list goes on changing -/
theorem lc_mut {scope : Scope} {tg elt : Expr} {ifs : List Expr} {vs : List Nat} {xs ys : List D} {M2 : Mem} (h : LcW X J scope vs tg ifs elt ρ (fun d M' => d = .lst ys ∧ M' = M2) xs M) (k : ∀ Dl, M2 Dl = none → P (.adr Dl) (up M2 Dl (.lst ys))) : LcWM X J scope vs tg ifs elt ρ P xs M := by
  obtain ⟨Wd, h0, hs, hd⟩ := h
  refine ⟨Wd, h0, hs, fun acc M' Dl q hD => ?_⟩
  obtain ⟨e1, e2⟩ := hd acc M' q
  cases e1
  subst e2
  exact k Dl hD
def strD : D → Option Str
  | .str z => some z
  | _ => none
def dJoinS (z : Str) (d : D) : Option D := (itemsD d).bind fun ds => chk (AllS ds ∧ sizeJ ds + ds.length * z.length ≤ 16777216) (.str (Txt.join z (ds.map toS)))
def lExt (l : List D) (v : D) : Option (List D) := (lstD v).bind fun es => chk (l.length + es.length ≤ 1000000) (l ++ es)
theorem g1_setIxF {tp : Pos} (h : EX X J e ρ M fun y M1 => EX X J o ρ M1 fun d M2 => EX X J a ρ M2 fun i M3 => ∃ q l f l', d = .adr q ∧ At M3 q (.lst l) f ∧ lSet l i y = some l' ∧ B.nx ρ (f (.lst l')))
    (hs : swapsWithSole [.Subscript o a tp] e pos.line X.env = pure false := by rfl) (hw : swappedStores [.Subscript o a tp] e X.env = pure none := by rfl)
    (h1 : (assignEach [.Subscript o a tp] X.env).map (·.2) = [assign (.Subscript o a tp) X.env] := by rfl)
    (ha : ∀ v, assign (.Subscript o a tp) X.env v = (do let ov ← holding [v] (eval o X.env); let iv ← holding [v, ov] (eval a X.env); standAt tp; holding [v, ov, iv] (setItem ov iv v); release [v, ov, iv] []) := by intro _; rfl) : G1 X J (.Assign [.Subscript o a tp] e pos) ρ M B :=
  g1_setIx (h.imp fun y M1 q => q.imp fun d M2 q => q.imp fun i M3 q => by
    obtain ⟨q, l, f, l', e1, hA, h1, k⟩ := q
    unfold lSet at h1
    split at h1
    · obtain ⟨m, h2, rfl⟩ := Option.map_eq_some_iff.mp h1
      exact ⟨q, l, f, _, m, e1, rfl, hA, h2, k⟩
    · cases h1) hs hw h1 ha
end
end
end DX
namespace DX
open PySem PySem.Spec L2 SX
noncomputable section
def iOp (f : Int → Int → Int) : D → D → Option D
  | .int i, .int j => some (.int (f i j))
  | _, _ => none
def keyD : D → Option Key
  | .int i => some (.inl i)
  | .str z => some (.inr z)
  | _ => none
theorem keyD_eq {d : D} {k : Key} (h : keyD d = some k) : d = kD k := by cases d <;> cases h <;> rfl
def dctD : D → Option (List (Key × D))
  | .dct l => some l
  | _ => none
theorem dctD_eq {d : D} {l : List (Key × D)} (h : dctD d = some l) : d = .dct l := by cases d <;> cases h; rfl
def kvsD : List D → Option (List (Key × D))
  | [] => some []
  | .tup [a, b] :: ds => (keyD a).bind fun k => (kvsD ds).map fun l => (k, b) :: l
  | _ => none
theorem kvs_eq : ∀ {ds : List D} {l : List (Key × D)}, kvsD ds = some l → ds = prsD l := by
  intro ds
  induction ds with
  | nil => intro l h; cases h; rfl
  | cons d ds ih =>
    intro l h
    unfold kvsD at h
    split at h
    · rename_i e; cases e
    · rename_i a b ds' e
      cases e
      obtain ⟨k, h1, h⟩ := Option.bind_eq_some_iff.mp h
      obtain ⟨l', h2, rfl⟩ := Option.map_eq_some_iff.mp h
      rw [ih h2, keyD_eq h1]; rfl
    · cases h
section
variable {X : Cx} {J : Gh} {e a b c o : Expr} {es : List Expr} {ρ ρ' : DEnv} {M M' M0 M1 : Mem} {F F' H H' : Hp} {σ : L2.St} {B : Bd} {K : PySem.W.Frag} {pos p apos cpos : Pos} {x y dx dy z : D} {P : D → Mem → Prop} {t : Bool}
theorem sqOf {l : List D} (w : Vw M x dx) (h : itemsD dx = some l) : Sq M x l := by
  rcases items_eq h with rfl | rfl
  · exact w.sq
  · cases w with
    | id => exact .tup
    | ad q hf => cases hf
theorem rgkM {vs ds : List D} (h : dRange vs = some ds) (hc : ∀ i j c, vs = [.int i, .int j, .int c] → c = -1) (p : ∀ q, M q = none → P (.adr q) (up M q (.lst ds))) : ∃ i c n, Rg vs i c n ∧ ∀ q, M q = none → P (.adr q) (up M q (.lst (rngC i c n))) := by
  obtain ⟨i, c, n, h1, rfl⟩ := rg_d h hc
  exact ⟨i, c, n, h1, p⟩
theorem popK {l : List D} {r : D × List D} {q : Addr} {f : D → Mem} (h : lPopAt l x = some r) (A : At M q (.lst l) f) (k : P r.1 (f (.lst r.2))) : ∃ i ds f y n, [x] = [.int i] ∧ At M q (.lst ds) f ∧ (-(2 ^ 63) ≤ i ∧ i < 2 ^ 63) ∧ ixN ds.length i = some n ∧ ds[n]? = some y ∧ P y (f (.lst (ds.eraseIdx n))) := by
  unfold lPopAt at h
  split at h
  · obtain ⟨_, h1, h⟩ := Option.bind_eq_some_iff.mp h
    obtain ⟨m, h2, h⟩ := Option.bind_eq_some_iff.mp h
    obtain ⟨v, h3, rfl⟩ := Option.map_eq_some_iff.mp h
    have h1 := (chk_inv h1).1
    exact ⟨_, l, f, v, m, rfl, A, ⟨by omega, by omega⟩, h2, h3, k⟩
  · cases h
theorem cd_dictK {l : List D} {kvs : List (Key × D)} (h : kvsD l = some kvs) (q : P (.dct (mergeD [] kvs)) M) (hc : X.calm = true := by rfl) : CD X (.type "dict") [.stup l] M P := by
  rw [kvs_eq h]; exact cd_dict hc q
def dLstrip (z : Str) : D → Option D
  | .str y => chk (z.length ≤ 1000000) (.str (Txt.lstripChars z y))
  | _ => none
theorem cwS {M : Model} {A : Around} {E : Value → Shared → Prop} {s : Shared} {f : Value} {first : List Value} {pos : Pos} {Q : Value → Shared → Prop} {Ph : Heap → Prop} {args : List (Bool × Sem Value)} {kw : List (Option Str × Sem Value)} (hst : (args.any (·.1) || kw.any (·.1.isNone)) = true)
    (hk : ∀ h, Ph h → ∃ k, (k = Keeper.frame ∨ k = Keeper.machine ∨ k = Keeper.boundFrame) ∧ PySem.W.Looks M h (keeperOf f) k)
    (h : wpAny M A (evalArgs f true args kw) (fun a s1 => Ph s1.heap ∧ wpAny M A (call f (first ++ a.pos) a.kw) Q E s1) E s) : wpAny M A (callWith pos f first args kw) Q E s := by
  unfold callWith
  refine wpAny_bind (wpAny_holding (wpAny_mono h (fun a s1 g => wpAny_bind (wpAny_standAt ?_)) fun _ _ x => x))
  obtain ⟨k, hk', L⟩ := hk _ g.1
  simp only [hst]
  refine wpAny_bind (L.here ?_)
  have fin : ∀ {z : Sem Value}, wpAny M A z Q E s1 → wpAny M A (z >>= fun r => holding [r] point >>= fun _ => pure r) Q E s1 := by
    intro z hz
    exact wpAny_bind (wpAny_mono hz (fun r s2 hr => wpAny_bind (wpAny_holding (wpAny_point (wpAny_pure hr)))) fun _ _ x => x)
  rcases hk' with rfl | rfl | rfl
  · refine fin ?_
    show wpAny M A (callMarked _ f (first ++ a.pos) a.kw) Q E s1
    unfold callMarked
    exact Calls.wpAny_keep g.2
  · exact fin (wpAny_operating g.2)
  · exact fin (wpAny_operating g.2)
theorem ex_popF (h : EX X J o ρ M fun d M1 => ∃ q l, d = .adr q ∧ M1 q = some (.lst l) ∧ EX X J e ρ M1 fun y M2 => ∃ l f r, At M2 q (.lst l) f ∧ lPopAt l y = some r ∧ P r.1 (f (.lst r.2)))
    (hbase : attributeBase o "pop" X.env (eval o X.env) = eval o X.env := by rfl)
    (few : ((backTo cpos (starEach [e] X.env)).all (fun x => !x.1) && (backToKw cpos (keywordEach [] X.env)).all (fun x => x.1.isSome) && decide ([e].length + ([] : List Keyword).length + (if ([] : List Keyword).isEmpty then 0 else 1) < 30)) = true := by rfl)
    (line : (apos.endLine == cpos.line) = true := by rfl) (hst : starEach [e] X.env = (false, eval e X.env) :: starEach [] X.env := by rfl) (hpl : (backTo cpos (starEach [] X.env)).any (·.1) = false := by rfl) :
    EX X J (.Call (.Attribute o "pop" apos) [e] [] cpos) ρ M P :=
  ex_pop (h.imp fun d M1 q => by
    obtain ⟨a, l, e1, h1, q⟩ := q
    refine ⟨a, l, e1, h1, ax_cons (q.imp fun y M2 q => ax_nil ?_) hst⟩
    obtain ⟨l, f, r, A, h2, k⟩ := q
    exact popK h2 A k) hbase few line hst hpl
theorem ex_lstRMF {p' pos' : Pos} (hc : X.calm = true) (hmt : X.mg "list" = none) (hm : X.mg "range" = none) (h : AX X J (a :: es) ρ M fun vs M1 => ∃ ds, dRange vs = some ds ∧ (∀ i j c, vs = [.int i, .int j, .int c] → c = -1) ∧ ∀ q, M1 q = none → P (.adr q) (up M1 q (.lst ds))) (hgt : Gl X "list" := by rfl) (hg : Gl X "range" := by rfl)
    (na : starEach [.Call (.Name "range" p') (a :: es) [] pos'] X.env = (false, eval (.Call (.Name "range" p') (a :: es) [] pos') X.env) :: starEach [] X.env := by rfl) (he : starEach (a :: es) X.env = (false, eval a X.env) :: starEach es X.env := by rfl) (hpl : (backTo pos' (starEach es X.env)).any (·.1) = false := by rfl) : EX X J (.Call (.Name "list" p) [.Call (.Name "range" p') (a :: es) [] pos'] [] pos) ρ M P :=
  ex_lstRM hc hmt hm (h.imp fun vs M1 q => by
    obtain ⟨ds, h1, h2, k⟩ := q
    exact rgkM h1 h2 k) (hgt := hgt) (hg := hg) (hs := he) (hpl := hpl) (na := na)
end
end
end DX
namespace DX
open PySem PySem.Spec L2
open PyProof.Rows hiding St
section
variable {X : Cx} {J : Gh} {e a b c o : Expr} {es : List Expr} {ρ : DEnv} {M : Mem} {F F' H H' : Hp} {σ : St} {K : PySem.W.Frag} {pos p q apos cpos : Pos} {P : D → Mem → Prop}
/-- the numbers, each once -/
def difI : List Int → List Int
  | [] => []
  | n :: ns => if n ∈ ns then difI ns else n :: difI ns
theorem difI_mem : ∀ {ns : List Int} {k : Int}, k ∈ difI ns ↔ k ∈ ns
  | [], k => Iff.rfl
  | n :: ns, k => by
    unfold difI
    split
    · rename_i h
      rw [difI_mem, List.mem_cons]
      exact ⟨.inr, fun q => q.elim (fun e => e ▸ h) id⟩
    · rw [List.mem_cons, List.mem_cons, difI_mem]
theorem difI_nd : ∀ {ns : List Int}, (difI ns).Nodup
  | [] => List.nodup_nil
  | n :: ns => by
    unfold difI
    split
    · exact difI_nd
    · rename_i h
      exact List.nodup_cons.mpr ⟨fun q => h (difI_mem.mp q), difI_nd⟩
theorem nd_len : ∀ {l m : List Int}, l.Nodup → (∀ k ∈ l, k ∈ m) → l.length ≤ m.length
  | [], m, _, _ => Nat.zero_le _
  | a :: l, m, h, s => by
    have h := List.nodup_cons.mp h
    have ha := s a List.mem_cons_self
    have := nd_len (m := m.erase a) h.2 fun k hk => (List.mem_erase_of_ne (a := k) (b := a) (fun e => h.1 (by rw [← e]; exact hk))).mpr (s k (List.mem_cons_of_mem _ hk))
    have h3 := List.length_erase_of_mem ha
    have h4 := List.length_pos_of_mem ha
    rw [List.length_cons]; omega
theorem nd_eq {l m : List Int} (hl : l.Nodup) (hm : m.Nodup) (h : ∀ k, k ∈ l ↔ k ∈ m) : l.length = m.length := Nat.le_antisymm (nd_len hl fun k hk => (h k).mp hk) (nd_len hm fun k hk => (h k).mpr hk)
theorem met_spec (val : Nat → Int) : ∀ n, (firstMet val n).Nodup ∧ ∀ k, k ∈ firstMet val n ↔ ∃ j, j < n ∧ val j = k
  | 0 => ⟨List.nodup_nil, fun k => ⟨fun h => absurd h List.not_mem_nil, fun ⟨j, h, _⟩ => absurd h (Nat.not_lt_zero j)⟩⟩
  | n + 1 => by
    obtain ⟨h1, h2⟩ := met_spec val n
    rw [firstMet_succ]
    unfold step_dedup
    split
    · rename_i hb
      obtain ⟨y, hy, ey⟩ := List.any_eq_true.mp hb
      have ey := eq_of_beq ey
      refine ⟨h1, fun k => ⟨fun h => ?_, fun ⟨j, hj, e⟩ => ?_⟩⟩
      · obtain ⟨j, hj, e⟩ := (h2 k).mp h
        exact ⟨j, Nat.lt_succ_of_lt hj, e⟩
      · rcases Nat.lt_succ_iff_lt_or_eq.mp hj with hj | rfl
        · exact (h2 k).mpr ⟨j, hj, e⟩
        · rw [← e, ← ey]; exact hy
    · rename_i hb
      have hno : val n ∉ firstMet val n := fun q => hb (List.any_eq_true.mpr ⟨_, q, by simp⟩)
      refine ⟨List.nodup_append.mpr ⟨h1, by simp, fun a ha b hb => ?_⟩, fun k => ?_⟩
      · rw [List.mem_singleton] at hb
        rw [hb]; exact fun e => hno (e ▸ ha)
      · rw [List.mem_append, h2, List.mem_singleton]
        constructor
        · rintro (⟨j, hj, e⟩ | rfl)
          · exact ⟨j, Nat.lt_succ_of_lt hj, e⟩
          · exact ⟨n, Nat.lt_succ_self n, rfl⟩
        · rintro ⟨j, hj, e⟩
          rcases Nat.lt_succ_iff_lt_or_eq.mp hj with hj | rfl
          · exact .inl ⟨j, hj, e⟩
          · exact .inr e.symm
theorem met_len {ns : List Int} : (firstMet (fun i => ns.getD i 0) ns.length).length = (difI ns).length :=
  nd_eq (met_spec _ _).1 difI_nd fun k => by
    rw [(met_spec _ _).2, difI_mem, List.mem_iff_getElem?]
    constructor
    · rintro ⟨j, hj, e⟩
      exact ⟨j, by rw [← e, List.getD_eq_getElem?_getD, List.getElem?_eq_getElem hj]; rfl⟩
    · rintro ⟨j, e⟩
      obtain ⟨hj, e2⟩ := List.getElem?_eq_some_iff.mp e
      exact ⟨j, hj, by rw [List.getD_eq_getElem?_getD, e]; rfl⟩
def tDif (K : PySem.W.Frag) (ta : TE) : TE := fun σ H Q => ta σ H fun x H1 => ∃ l : Addr, ∃ ns : List Int, x = .ref l ∧ (SqL K H1 l (ns.map V.int) ∨ SqT K H1 l (ns.map V.int)) ∧ ns.length ≤ 4000 ∧ Q (.int ((difI ns).length : Nat)) H1
theorem pe_dif {p2 : Pos} {ta : TE} (hg : Gl X "len") (hm : X.mg "len" = none) (hg2 : Gl X "set") (hm2 : X.mg "set" = none) (ha : PE X a ta) (hc : X.calm = true)
    (hs : starEach [a] X.env = (false, eval a X.env) :: starEach [] X.env) : PE X (.Call (.Name "len" p) [.Call (.Name "set" p2) [a] [] q] [] pos) (tDif X.K ta) := by
  constructor
  intro pins s σ H Q I h
  refine Call_ (ld_blt I hg hm boot_len (PyProof.Rows.callWith_builtin1 (PyProof.Rows.args_cons ?_ rfl) rfl rfl))
  refine Call_ (ld_blt I hg2 hm2 boot_set (PyProof.Rows.callWith_type1 (PyProof.Rows.args_cons (thn (ha.run pins s σ H _ I h) ?_) hs) hs rfl))
  intro v s1 hq
  obtain ⟨x, H1, I1, r1, l, ns, rfl, hq, hl, q1⟩ := hq
  cases r1
  refine PyProof.Rows.args_nil ?_
  rcases hq with hq | hq
  · obtain ⟨its, r, pl, hz⟩ := I1.list hq
    have hn : its.toArray.size = ns.length := by rw [List.size_toArray, ← r.length, List.length_map]
    have hb : its.toArray.size + 1 < scanBound := by rw [hn]; unfold scanBound; omega
    refine call_set_list (I1.ok.hd hc) pl.isList (by simpa using RZ.intsAre_vals r) hb fun h' tk hS hk => ?_
    rw [hn] at hS
    obtain ⟨o, es, ep, t, ho, hex, hd, _, _, _, hf, hk2⟩ := hS
    have hle := firstMet_length_le (fun i => ns.getD i 0) ns.length
    refine PyProof.Rows.args_nil (call_len_set ho hex hd hf (by rw [hk2]; omega) ?_)
    exact ⟨.int (difI ns).length, H1, (I1.kept fun b o e => hk b o (Heap.lt_size e) e).tok _, ⟨_, by rw [hk2, met_len]⟩, q1⟩
  · obtain ⟨its, r, pl, hz⟩ := I1.tuple hq
    refine call_set_tupI ns (I1.ok.hd hc) pl (by simpa using RZ.intsAre_vals r) (by unfold scanBound; omega) fun h' tk c hS hcn hk => ?_
    obtain ⟨o, es, ep, t, ho, hex, hd, _, hnd, hmem, _, hf, hk2, _⟩ := hS
    have hlen : es.size = (difI ns).length := by
      have := nd_eq hnd (difI_nd (ns := ns)) fun k => by rw [← hmem k, difI_mem, decide_eq_true_eq]
      rw [List.length_map] at this
      simpa using this
    refine PyProof.Rows.args_nil (call_len_set ho hex hd hf (by omega) ?_)
    exact ⟨.int (difI ns).length, H1, (I1.kept hk).tok _, ⟨_, by rw [hlen]⟩, q1⟩
/-- len(set(x)) -/
noncomputable def dLenSet : D → Option D
  | .lst ds => (intsD ds).bind fun ns => chk (ns.length ≤ 4000) (.int ((difI ns).length : Int))
  | .tup ds => (intsD ds).bind fun ns => chk (ns.length ≤ 4000) (.int ((difI ns).length : Int))
  | _ => none
theorem ex_lenSetF {p2 : Pos} (hc : X.calm = true) (hm : X.mg "len" = none) (hm2 : X.mg "set" = none) (h : EX X J a ρ M fun d M1 => ∃ dx z, Vw M1 d dx ∧ dLenSet dx = some z ∧ P z M1) (hg : Gl X "len" := by rfl) (hg2 : Gl X "set" := by rfl)
    (hs : starEach [a] X.env = (false, eval a X.env) :: starEach [] X.env := by rfl) : EX X J (.Call (.Name "len" p) [.Call (.Name "set" p2) [a] [] q] [] pos) ρ M P :=
  ex_of (pe_dif hg hm hg2 hm2 pe_any hc hs) fun F σ H Q st k => h.go st fun d v M1 F1 H1 q e1 o1 r1 => by
    obtain ⟨dx, z, w, hz, q⟩ := q
    unfold dLenSet at hz
    split at hz
    · obtain ⟨ns, h1, h2⟩ := Option.bind_eq_some_iff.mp hz
      obtain ⟨hl, rfl⟩ := chk_inv h2
      rw [ints_eq h1] at w
      obtain ⟨l, xs, rfl, g1, r2⟩ := w.sl.get o1 r1
      rw [Rps.ints r2] at g1
      exact ⟨l, ns, rfl, .inl (SqL.of g1), hl, k _ _ _ _ _ q e1 o1 (.int _)⟩
    · obtain ⟨ns, h1, h2⟩ := Option.bind_eq_some_iff.mp hz
      obtain ⟨hl, rfl⟩ := chk_inv h2
      rw [ints_eq h1] at w
      have r1 := w.rtup o1 r1
      cases r1 with
      | tup g1 r2 =>
        rw [Rps.ints r2] at g1
        exact ⟨_, ns, rfl, .inr (same_t o1.ex g1), hl, k _ _ _ _ _ q e1 o1 (.int _)⟩
    · cases hz
/-- x[::-1] -/
def dRev : D → Option D
  | .lst ds => some (.lst ds.reverse)
  | .tup ds => some (.tup ds.reverse)
  | _ => none
theorem ex_revF {kk : Nat} {p1 p2 p3 : Pos} {v dx z : D} {M2 : Mem} (w : Vw M2 v dx) (h : EX X J e ρ M fun d M1 => d = v ∧ M1 = M2) (hz : dRev dx = some z) (k : P z M2) :
    EX X J (.Subscript e (.Slice none none (some (.UnaryOp .USub (.Constant (.int 1) kk p1) p2)) p3) pos) ρ M P := by
  unfold dRev at hz
  split at hz
  · rename_i ds; cases hz; exact ex_revL (h.imp fun d M1 q => ⟨ds, by rw [q.1, q.2]; exact w.sl, by rw [q.2]; exact k⟩)
  · cases hz
    cases w with
    | id => rename_i ds; exact ex_unst (ex_revT (h.imp fun d M1 q => ⟨ds, q.1, _, rfl, by rw [q.2]; exact k⟩))
    | ad h1 h2 => cases h2
  · cases hz
end
end DX
namespace DX
open PySem PySem.Spec L2
open PyProof.Rows hiding St
section
variable {X : Cx} {J : Gh} {e a b c o : Expr} {es : List Expr} {ρ : DEnv} {M : Mem} {F F' H H' : Hp} {σ : St} {K : PySem.W.Frag} {pos p q apos cpos : Pos} {P : D → Mem → Prop} {f : Str}
/-- e.f, a field of an instance of one of the classes L -/
def dFld (L : List Addr) (f : Str) : D → Option D
  | .ins C gs => if C ∈ L then gs.lookup f else none
  | _ => none
/-- e.f, a constant of the class: for each class its value -/
def dCon (L : List (Addr × D)) (f : Str) : D → Option D
  | .ins C gs => if gs.lookup f = none then L.lookup C else none
  | _ => none
end
end DX
namespace DX
open PySem PySem.Spec L2 PyProof.Rows StX
abbrev TrB := List D → Mem → (D → Mem → Prop) → RX → Prop
/-- what stood at the beginning stands -/
def ghF (F0 : Hp) : Gh := ⟨fun F => Same F0 F, fun F F' e h => Same.trans h e⟩
/-- the def at f has the code cdv -/
def CodeAt (K : PySem.W.Frag) (f : Addr) (cdv : Value) : Prop := ∃ oc od osl fd, K.lookup f = some ⟨oc, od, .func fd, osl⟩ ∧ fd.code = cdv
def BodyX (pg : Program) (w : World) (K : PySem.W.Frag) (mg : Str → Option Value) (base : Heap) (gd : Bool) (k : Nat) (f : Addr) (qual : Str) (body : List Stmt) (scope : Scope) (N ps : List Str) (T : TrB) : Prop :=
  ∀ (cdv : Value), CodeAt K f cdv → ∀ (A : Around) (outer : List PySem.Env) (s : Shared) (H F0 : Hp) (E : XK) (ds : List D) (M : Mem) (P : D → Mem → Prop) (R : RX), (gd = true → A.guards = some []) → Room k (A.deeper (PyProof.Rows.envOfC qual scope s.heap.objs.size f cdv)) → T ds M P R →
      Lets (cxOf (L2.CX pg w) pg w K mg base N qual scope f cdv A outer s H E) (ghF F0) (fun C gs _ M' => R C gs M') →
      PassesOwn (model pg w) (cxOf (L2.CX pg w) pg w K mg base N qual scope f cdv A outer s H E).A (cxOf (L2.CX pg w) pg w K mg base N qual scope f cdv A outer s H E).env (cxOf (L2.CX pg w) pg w K mg base N qual scope f cdv A outer s H E).xe →
      Kx K F0 R E →
      GX (cxOf (L2.CX pg w) pg w K mg base N qual scope f cdv A outer s H E) (ghF F0) body (startD (N.length - ps.length) ds) M ⟨fun _ M' => P .non M', P, fun _ _ => False, fun _ _ => False⟩
section
variable {pg : Program} {w : World} {K : PySem.W.Frag} {mg : Str → Option Value} {base : Heap} {x qual : Str} {params : Arguments} {body : List Stmt} {scope : Scope} {kws : List (Str × V)} {f : Addr} {fd : FuncData} {N pn : List Str} {pv : Str} {k : Nat} {T : TrB} {gd : Bool}
theorem lets_body {F0 : Hp} {R : RX} {E : XK} {cdv : Value} {A : Around} {outer : List PySem.Env} {s : Shared} {H : Hp} (kx : Kx K F0 R E) :
    Lets (cxOf (L2.CX pg w) pg w K mg base N qual scope f cdv A outer s H E) (ghF F0) (fun C gs _ M' => R C gs M') :=
  ⟨fun cls d _ H => E cls d H, takes_of rfl rfl rfl rfl, fun cls d σ H' F ρ M C gs st x r => kx C gs M F H' cls d r st.gh st.ok x⟩
theorem body_runX {ps : List Str} (B : BodyX pg w K mg base gd k f qual body scope N ps T) (cdv : Value) (hcv : CodeAt K f cdv) {A : Around} {outer : List PySem.Env} {s2 : Shared} {H2 F : Hp} {M : Mem} {ds : List D} {vs : List V} {P : D → Mem → Prop} {R : RX} {Q : VK} {E : XK}
    (hg : gd = true → A.guards = some []) (hr : Room k (A.deeper (PyProof.Rows.envOfC qual scope s2.heap.objs.size f cdv))) (hl : vs.length = ps.length) (o : Ok K F M H2) (rd : Rps K F vs ds) (t : T ds M P R) (kt : Kt K F P Q) (kx : Kx K F R E) :
    ∃ t, PSs (cxOf (L2.CX pg w) pg w K mg base N qual scope f cdv A outer s2 H2 E) body t ∧ t { nx := fun _ H' => Q .non H', rt := Q } (L2.start N vs) H2 := by
  have hb := B cdv hcv A outer s2 H2 F E ds M P R hg hr t (lets_body kx) (passes_of rfl) kx
  refine ⟨_, hb, F, ⟨?_, o, Same.refl F⟩, ⟨fun F' σ' H' ρ' M' p e en o' => kt _ _ _ _ _ p e o' .non, kt, fun F' σ' H' ρ' M' p => p.elim, fun F' σ' H' ρ' M' p => p.elim⟩⟩
  unfold L2.start
  rw [hl]
  exact En.start _ rd
end
end DX
namespace DX
open PySem PySem.Spec L2 PyProof.Rows StX
section
variable {pg : Program} {w : World} {K : PySem.W.Frag} {mg : Str → Option Value} {base : Heap} {x qual : Str} {params : Arguments} {body : List Stmt} {scope : Scope} {kws : List (Str × V)} {f : Addr} {fd : FuncData} {N pn : List Str} {pv : Str} {k : Nat} {T : TrB} {gd : Bool}
/-- no defaults by place: values, keywords, keyword-only defaults -/
theorem fn_kwX (F : FunD K x qual params body scope [] kws f fd) (S : FnScope N pn scope) (B : BodyX pg w K mg base gd k f qual body scope N pn T) (np : Nat) (ks : List Str) (ms : List (Str × V)) (mds : List D) (ix : List Nat)
    (hms : ∀ q ∈ ms, q ∈ kws) (hmd : ∀ F, Rps K F (ms.map (·.2)) mds)
    (h : ∀ (kV : Value) (D : Addr) (doc pm : Value) (an : Option Addr) (cdv ct : Value) (us mv ws : List Value), (kws ≠ [] → kV = .ref D) → us.length = np → mv.length = ms.length → ws.length = ks.length →
      KwChainE D (fun t => t = pure (pn.zip (pick (us ++ (mv ++ ws)) ix))) ((ms.map (·.1)).zip mv) (bindArgs (PySem.W.fnOf x qual params body scope .none kV doc pm an cdv ct) ⟨us, ks.zip ws⟩))
    (hix : ∀ (us mv ws : List V), us.length = np → mv.length = ms.length → ws.length = ks.length → (pick (us ++ (mv ++ ws)) ix).length = pn.length) :
    FnX pg w K mg base gd (k + 1) f ks (fun ds zs M P R => ds.length = np ∧ zs.length = ks.length ∧ T (pick (ds ++ (mds ++ zs)) ix) M P R) := by
  obtain ⟨oc, od, dV, kV, doc, pm, an, cdv, ct, osl, rfl, lk, hcd, hD, hK⟩ := F.ex
  obtain rfl : dV = .none := by
    rcases hD with ⟨_, e⟩ | ⟨e, _⟩
    · exact e
    · exact absurd rfl e
  obtain ⟨D, hkV, hq⟩ : ∃ D : Addr, (kws ≠ [] → kV = .ref D) ∧ ∀ q ∈ kws, ∃ u, PySem.W.nsIn K D q.1 = some (some u) ∧ RelV q.2 u := by
    rcases hK with e | ⟨D, e, hq⟩
    · exact ⟨0, fun z => absurd e z, fun q hq => by rw [e] at hq; cases hq⟩
    · exact ⟨D, fun _ => e, hq⟩
  obtain ⟨mv, hml, rmv, hmk⟩ := kwd_vals (ms := ms) fun q hm => hq q (hms q hm)
  refine ⟨fun A outer s H F0 M ds zs P R us ws vs xs Q E hg hr e0 rv rx hw o rd rz t kt kx => ?_⟩
  obtain ⟨hd0, hzl, t⟩ := t
  have l1 : us.length = np := by rw [← rv.length, rd.length]; exact hd0
  have lm : mv.length = ms.length := hml
  have vl : (pick (vs ++ (ms.map (·.2) ++ xs)) ix).length = pn.length := hix _ _ _ (by rw [rv.length]; exact l1) (by rw [List.length_map]) (by rw [rx.length]; exact hw)
  have vr : Vals (pick (vs ++ (ms.map (·.2) ++ xs)) ix) (pick (us ++ (mv ++ ws)) ix) := pick_vals (rv.append (rmv.append rx)) ix
  refine run_bnd (CX := L2.CX pg w) (E := E) lk hcd S hr e0 (G := fun ys H2 => ys = pick (vs ++ (ms.map (·.2) ++ xs)) ix ∧ H2 = H) (fun A' Ex Q' hh => ?_) fun s2 H2 ys ⟨ey, eH⟩ hr' => ?_
  · refine KwChainE.run (K := K) (e0.mod.kin.keeps fun b o e => (e0.bs b o e).1) (fun t et => ?_) (fun q hq => hmk q hq) (h kV D doc pm an cdv ct us mv ws hkV l1 lm hw)
    subst et
    exact wpAny_pure (hh s H _ _ e0 Un.refl rfl (fun e s' z => z) vr vl ⟨rfl, rfl⟩)
  · subst ey eH
    exact body_runX B cdv ⟨_, _, _, _, lk, rfl⟩ hg hr' vl o (pick_rps (rd.append ((hmd _).append rz)) ix) t kt kx
/-- a star parameter -/
theorem fn_starX (F : FunD K x qual params body scope [] kws f fd) (S : FnScope N (pn ++ [pv]) scope) (B : BodyX pg w K mg base gd k f qual body scope N (pn ++ [pv]) T) (np : Nat) (ks : List Str) (ms : List (Str × V)) (mds : List D) (ix : List Nat)
    (hms : ∀ q ∈ ms, q ∈ kws) (hmd : ∀ F, Rps K F (ms.map (·.2)) mds) (tp : List D → D) (htp : tp = .tup ∨ tp = .stup) (r0 : Bool)
    (h : ∀ (kV : Value) (D : Addr) (doc pm : Value) (an : Option Addr) (cdv ct : Value) (us rest mv ws : List Value), (kws ≠ [] → kV = .ref D) → (r0 = true → rest = []) → us.length = np → mv.length = ms.length → ws.length = ks.length →
      KwChainE D (fun t => t = (newTuple rest >>= fun t => pure (pn.zip (pick (us ++ (mv ++ ws)) ix) ++ [(pv, t)]))) ((ms.map (·.1)).zip mv) (bindArgs (PySem.W.fnOf x qual params body scope .none kV doc pm an cdv ct) ⟨us ++ rest, ks.zip ws⟩))
    (hix : ∀ (us mv ws : List V), us.length = np → mv.length = ms.length → ws.length = ks.length → (pick (us ++ (mv ++ ws)) ix).length = pn.length) :
    FnX pg w K mg base gd (k + 1) f ks (fun ds zs M P R => ∃ d0 dr, ds = d0 ++ dr ∧ d0.length = np ∧ zs.length = ks.length ∧ dr.length ≤ 1000000 ∧ (r0 = true → dr = []) ∧ T (pick (d0 ++ (mds ++ zs)) ix ++ [tp dr]) M P R) := by
  obtain ⟨oc, od, dV, kV, doc, pm, an, cdv, ct, osl, rfl, lk, hcd, hD, hK⟩ := F.ex
  obtain rfl : dV = .none := by
    rcases hD with ⟨_, e⟩ | ⟨e, _⟩
    · exact e
    · exact absurd rfl e
  obtain ⟨D, hkV, hq⟩ : ∃ D : Addr, (kws ≠ [] → kV = .ref D) ∧ ∀ q ∈ kws, ∃ u, PySem.W.nsIn K D q.1 = some (some u) ∧ RelV q.2 u := by
    rcases hK with e | ⟨D, e, hq⟩
    · exact ⟨0, fun z => absurd e z, fun q hq => by rw [e] at hq; cases hq⟩
    · exact ⟨D, fun _ => e, hq⟩
  obtain ⟨mv, hml, rmv, hmk⟩ := kwd_vals (ms := ms) fun q hm => hq q (hms q hm)
  refine ⟨fun A outer s H F0 M ds zs P R us0 ws vs xs Q E hg hr e0 rv rx hw o rd rz t kt kx => ?_⟩
  obtain ⟨d0, dr, rfl, hd0, hzl, hdr, hd00, t⟩ := t
  obtain ⟨v1, v2, rfl, rd1, rd2⟩ := Rps.split rd
  obtain ⟨us, rest, rfl, r1, r2⟩ := vals_split rv
  have l1 : us.length = np := by rw [← r1.length, rd1.length]; exact hd0
  have hz : rest.length ≤ sizeLine := by rw [← r2.length, rd2.length, sizeLine_eq]; omega
  have hn : H s.heap.objs.size = Option.none := e0.hok.fresh (Nat.le_refl _)
  have lm : mv.length = ms.length := hml
  have vl : (pick (v1 ++ (ms.map (·.2) ++ xs)) ix).length = pn.length := hix _ _ _ (by rw [r1.length]; exact l1) (by rw [List.length_map]) (by rw [rx.length]; exact hw)
  have vr : Vals (pick (v1 ++ (ms.map (·.2) ++ xs)) ix) (pick (us ++ (mv ++ ws)) ix) := pick_vals (r1.append (rmv.append rx)) ix
  refine run_bnd (CX := L2.CX pg w) (E := E) lk hcd S hr e0 (G := fun ys H2 => ∃ p, H p = Option.none ∧ ys = pick (v1 ++ (ms.map (·.2) ++ xs)) ix ++ [V.ref p] ∧ H2 = upd H p (.frz { cls := .type "tuple", data := .seq rest.toArray } (.tup v2))) (fun A' Ex Q' hh => ?_) fun s2 H2 ys ⟨p, hp, ey, eH⟩ hr' => ?_
  · refine KwChainE.run (K := K) (e0.mod.kin.keeps fun b o e => (e0.bs b o e).1) (fun t et => ?_) (fun q hq => hmk q hq) (h kV D doc pm an cdv ct us rest mv ws hkV (fun z => List.eq_nil_of_length_eq_zero (by rw [← r2.length, rd2.length, hd00 z]; rfl)) l1 lm hw)
    subst et
    refine wpAny_bind (wpAny_newTuple (wpAny_pure ?_) hz)
    have new : ObjOk pg w (upd H s.heap.objs.size (.frz { cls := .type "tuple", data := .seq rest.toArray } (.tup v2))) (s.heap.push ({ cls := .type "tuple", data := .seq rest.toArray } : Obj)) s.heap.objs.size (.frz { cls := .type "tuple", data := .seq rest.toArray } (.tup v2)) := ⟨Heap.get?_push_size _ rfl, by rw [r2.length]; exact hz, rest, r2, ⟨_, Heap.get?_push_size _ rfl, rfl, _, rfl⟩⟩
    have un := un_laid (fs := frs outer) (s := s) (o := ({ cls := .type "tuple", data := .seq rest.toArray } : Obj)) (u := .frz { cls := .type "tuple", data := .seq rest.toArray } (.tup v2)) hn
    have z := hh _ _ (pick (v1 ++ (ms.map (·.2) ++ xs)) ix ++ [V.ref s.heap.objs.size]) (pick (us ++ (mv ++ ws)) ix ++ [Value.ref s.heap.objs.size]) (env0_laid e0 new) un rfl (fun e s' z => cxUp outer s H _ _ E e s' un (fun b o q => Heap.get?_push_of_some _ q) (by rfl) z) (vr.append (.cons rfl .nil))
      (by rw [List.length_append, List.length_append, vl] <;> rfl) ⟨_, hn, rfl, rfl⟩
    rw [List.zip_append (by rw [← vr.length, vl])] at z
    exact z
  · subst ey eH
    have k0 := o.fixSame (o := .frz { cls := .type "tuple", data := .seq rest.toArray } (.tup v2)) hp
    have rt : Rp K (upd F0 p (.frz { cls := .type "tuple", data := .seq rest.toArray } (.tup v2))) (.ref p) (tp dr) := by
      rcases htp with e | e <;> rw [e]
      · exact .tup (.inl (.inr ⟨_, upd_same⟩)) (rd2.mono k0)
      · exact .stup upd_same ⟨rfl, rfl⟩ (rd2.mono k0)
    refine body_runX B cdv ⟨_, _, _, _, lk, rfl⟩ hg hr' (by rw [List.length_append, List.length_append, vl] <;> rfl) (o.fix hp) ((pick_rps ((rd1.mono k0).append ((hmd _).append (rz.mono k0))) ix).append (.cons rt .nil)) t (kt.to k0) (kx.to k0)
end
end DX
namespace DX
open PySem PySem.Spec L2 PyProof.Rows StX
section
variable {X : Cx} {J : Gh} {e a b o : Expr} {es : List Expr} {kws : List Keyword} {ks : List Str} {ρ : DEnv} {M M1 M2 : Mem} {F F' H H' : Hp} {σ : L2.St} {K : PySem.W.Frag} {pos p apos : Pos} {x m f : Str} {P : D → Mem → Prop} {PA : List D → List D → Mem → Prop} {RR : Addr → List (Str × D) → DEnv → Mem → Prop}
theorem ev_a (h : AX X J (e :: es) ρ M fun ds M1 => KX X J kws ρ M1 fun zs M2 => zs.length = ks.length ∧ PA ds zs M2) (hall : (backToKw pos (keywordEach kws X.env)).all (·.1.isSome) = true := by rfl) (hks : (backToKw pos (keywordEach kws X.env)).filterMap (·.1) = ks := by rfl)
    (he : starEach (e :: es) X.env = (false, eval e X.env) :: starEach es X.env := by rfl) : EvA X J pos (e :: es) kws ks ρ M PA := by
  intro fv pins σ H F s Qa I st k
  refine PyProof.Rows.evalArgs_kw2 hall (thn ((pa_any (X := X) (es := e :: es)).run pos pins s σ H (fun vs H1 => ∃ F1 M1 ds, Same F F1 ∧ Ok X.K F1 M1 H1 ∧ Rps X.K F1 vs ds ∧ KX X J kws ρ M1 fun zs M2 => zs.length = ks.length ∧ PA ds zs M2) I
    (h.go st fun ds vs M1 F1 H1 q e1 o1 r1 => ⟨F1, M1, ds, e1, o1, r1, q⟩)) fun us s1 ⟨vs, H1, I1, r, F1, M1, ds, e1, o1, rd, q⟩ => ?_) he
  refine thn ((pk_any (X := X) (kws := kws)).run pos pins s1 σ H1 (fun xs H2 => ∃ F2 M2 zs, Same F1 F2 ∧ Ok X.K F2 M2 H2 ∧ Rps X.K F2 xs zs ∧ zs.length = ks.length ∧ PA ds zs M2) I1 (q.go (st.to e1 o1) fun zs xs M2 F2 H2 q2 e2 o2 r2 => ⟨F2, M2, zs, e2, o2, r2, q2.1, q2.2⟩)) fun ws s2 ⟨xs, H2, I2, rx, F2, M2, zs, e2, o2, rz, hl, t⟩ => ?_
  rw [hks]
  exact k us ws vs xs ds zs F2 M2 H2 s2 I2 (e1.trans e2) o2 r rx (rd.mono e2) rz hl t
theorem ev_0 (h : KX X J kws ρ M fun zs M2 => zs.length = ks.length ∧ PA [] zs M2) (hall : (backToKw pos (keywordEach kws X.env)).all (·.1.isSome) = true := by rfl) (hks : (backToKw pos (keywordEach kws X.env)).filterMap (·.1) = ks := by rfl) : EvA X J pos [] kws ks ρ M PA := by
  intro fv pins σ H F s Qa I st k
  refine PyProof.Rows.evalArgs_kw2_nil hall (thn ((pk_any (X := X) (kws := kws)).run pos pins s σ H (fun xs H2 => ∃ F2 M2 zs, Same F F2 ∧ Ok X.K F2 M2 H2 ∧ Rps X.K F2 xs zs ∧ zs.length = ks.length ∧ PA [] zs M2) I (h.go st fun zs xs M2 F2 H2 q2 e2 o2 r2 => ⟨F2, M2, zs, e2, o2, r2, q2.1, q2.2⟩)) fun ws s2 ⟨xs, H2, I2, rx, F2, M2, zs, e2, o2, rz, hl, t⟩ => ?_)
  rw [hks]
  exact k [] ws [] xs [] zs F2 M2 H2 s2 I2 e2 o2 .nil rx .nil rz hl t
/-- ( *a, *b) -/
theorem ev_s2 {p1 p2 : Pos} (h : AX X J [.Starred a p1, .Starred b p2] ρ M fun ds M1 => PA ds [] M1) (he : starEach [.Starred a p1, .Starred b p2] X.env = [(true, eval a X.env), (true, eval b X.env)] := by rfl) : EvA X J pos [.Starred a p1, .Starred b p2] [] [] ρ M PA := by
  intro fv pins σ H F s Qa I st k
  have hh := (pa_any (X := X) (es := [.Starred a p1, .Starred b p2])).run pos pins s σ H (fun vs H1 => ∃ F1 M1 ds, Same F F1 ∧ Ok X.K F1 M1 H1 ∧ Rps X.K F1 vs ds ∧ PA ds [] M1) I
    (h.go st fun ds vs M1 F1 H1 q e1 o1 r1 => ⟨F1, M1, ds, e1, o1, r1, q⟩)
  rw [he] at hh ⊢
  exact evalArgs_two (thn hh fun us s1 ⟨vs, H1, I1, r, F1, M1, ds, e1, o1, rd, q⟩ => k us [] vs [] ds [] F1 M1 H1 s1 I1 e1 o1 r .nil rd .nil rfl q)
end
end DX
namespace DX
open PySem PySem.Spec L2 PyProof.Rows StX
/-- what a context lets out, told where the names are known -/
def Rof (RR : Addr → List (Str × D) → DEnv → Mem → Prop) (ρ : DEnv) : RX := fun C gs M' => ∃ M2, Sub M2 M' ∧ RR C gs ρ M2
section
variable {X : Cx} {J : Gh} {e a b o : Expr} {es : List Expr} {kws : List Keyword} {ks : List Str} {ρ : DEnv} {M M1 M2 : Mem} {F F' H H' : Hp} {σ : L2.St} {K : PySem.W.Frag} {pos p apos : Pos} {x m f : Str} {P : D → Mem → Prop} {RR : Addr → List (Str × D) → DEnv → Mem → Prop}
theorem run_fnX {k : Nat} {gd : Bool} {g : Addr} {T : TrX} {pins : List (Addr × Obj)} {s : Shared} {Q : VK} {us ws : List Value} {vs xs : List V} {ds zs : List D} (G : FnX X.prog X.w X.K X.mg X.base gd k g ks T) (L : Lets X J RR) (hg : gd = true → X.A.guards = some []) (hr : Room k X.A)
    (I : L2.Inv X pins σ H s) (st : Sts X.K J F σ H ρ M) (r : Vals vs us) (rx : Vals xs ws) (hw : zs.length = ks.length) (rd : Rps X.K F vs ds) (rz : Rps X.K F xs zs) (t : T ds zs M P (Rof RR ρ)) (kt : Kt X.K F P Q) :
    wpAny (model X.prog X.w) X.A (call (.ref g) us (ks.zip ws)) (EP X pins σ Q) X.xe s := by
  obtain ⟨W, tk, hW⟩ := L.ex
  refine wpAny_call (codeAny_mono (G.go X.A X.stack s H F M ds zs P (Rof RR ρ) us ws vs xs Q (fun cls d H' => W cls d σ H') hg hr I.env0 r rx (by rw [← rx.length, rz.length]; exact hw) st.ok rd rz t kt (fun C gs M' F' H' cls d q e o x => ?_)) fun res s' end_ => ?_)
  · obtain ⟨M2, sb, q⟩ := q
    exact hW _ _ _ _ _ _ _ _ _ ⟨st.en.mono e, o.sub sb, J.mono _ _ e st.gh⟩ x q
  · match res, end_ with
    | .error _, end_ => exact tk _ _ (XE.of_call I (fun _ _ _ h => h) end_)
    | .ok (.ret _), end_ => exact I.after end_
    | .ok .next, end_ => exact end_.elim
    | .ok .brk, end_ => exact end_.elim
    | .ok .cont, end_ => exact end_.elim
theorem cwAny {Mo : Model} {A : Around} {E : Value → Shared → Prop} {s : Shared} {fv : Value} {first : List Value} {Q : Value → Shared → Prop} {Ph : Heap → Prop} {args : List (Bool × Sem Value)} {kw : List (Option Str × Sem Value)}
    (hk : ∀ h, Ph h → ∃ k, (k = Keeper.frame ∨ k = Keeper.machine ∨ k = Keeper.boundFrame) ∧ PySem.W.Looks Mo h (keeperOf fv) k)
    (h : wpAny Mo A (evalArgs fv true args kw) (fun a s1 => Ph s1.heap ∧ wpAny Mo A (call fv (first ++ a.pos) a.kw) Q E s1) E s) : wpAny Mo A (callWith pos fv first args kw) Q E s := by
  cases hst : (args.any (·.1) || kw.any (·.1.isNone)) with
  | false => exact PySem.W.callWith_of hst hk h
  | true => exact cwS hst hk h
/-- f(..) -/
theorem ex_callX {k : Nat} {gd : Bool} {g : Addr} {T : TrX} (G : FnX X.prog X.w X.K X.mg X.base gd k g ks T) (L : Lets X J RR) (hgd : gd = true → X.A.guards = some []) (hr : Room k X.A) (hm : X.mg x = some (.ref g)) (hk : PySem.W.keepIn X.K (.ref g) = true)
    (h : EvA X J pos es kws ks ρ M fun ds zs M1 => T ds zs M1 P (Rof RR ρ)) (hg : Gl X x := by rfl) (hdb : (x == ("__debug__" : Str)) = false := by decide) : EX X J (.Call (.Name x p) es kws pos) ρ M P := by
  refine ⟨fun pins s σ H Q I ⟨F, st, kt⟩ => ?_⟩
  refine wpAny_Call_Name_kw (ld_glob I hg hm ?_ hdb)
  refine cwAny (PySem.W.keeps_K hk) (h _ pins σ H F s _ I st fun us ws vs xs ds zs F2 M2 H2 s2 I2 e2 o2 r rx rd rz hl t => ⟨I2.kIn, ?_⟩)
  exact run_fnX G L hgd hr I2 (st.to e2 o2) r rx hl rd rz t (kt.to e2)
/-- what is made by C(..) -/
def TMkX (C : Addr) (T : TrX) (ds zs : List D) (M : Mem) (P : D → Mem → Prop) (R : RX) : Prop := ∀ a, M a = none → T (.adr a :: ds) zs (up M a (.ins C [])) (fun d M2 => d = .non ∧ ∃ gs M0, M0 a = none ∧ M2 = up M0 a (.ins C gs) ∧ P (.ins C gs) M0) R
theorem run_makeX {k : Nat} {C g : Addr} {T : TrX} {pins : List (Addr × Obj)} {s : Shared} {Q : VK} {us ws : List Value} {vs xs : List V} {ds zs : List D} (Mk0 : Mk X.K C g) (G : FnX X.prog X.w X.K X.mg X.base false k g ks T) (L : Lets X J RR) (hr : Room (k + 1) X.A)
    (I : L2.Inv X pins σ H s) (st : Sts X.K J F σ H ρ M) (r : Vals vs us) (rx : Vals xs ws) (hw : zs.length = ks.length) (rd : Rps X.K F vs ds) (rz : Rps X.K F xs zs) (t : TMkX C T ds zs M P (Rof RR ρ)) (kt : Kt X.K F P Q) : wpAny (model X.prog X.w) X.A (call (.ref C) us (ks.zip ws)) (EP X pins σ Q) X.xe s := by
  obtain ⟨W, tk, hW⟩ := L.ex
  have o := st.ok
  have h1 : H (s.heap.objs.size + 1) = none := I.hok.fresh (Nat.le_succ _)
  have h0 : H s.heap.objs.size = none := I.hok.fresh (Nat.le_refl _)
  have I2 := Inv.made (C := C) I
  have o1 := o.more (o := .own (s.heap.objs.size + 1)) h0
  have h2 : upd H s.heap.objs.size (.own (s.heap.objs.size + 1)) (s.heap.objs.size + 1) = none := by rw [upd_ne (Nat.succ_ne_self _)]; exact h1
  have o2 := o1.lay (o := .ins C s.heap.objs.size []) (d := .ins C []) h2 ⟨_, [], upd_same, .nil⟩
  have hM := (o.nn h1).2
  have r2 : Vals (V.ref (s.heap.objs.size + 1) :: vs) (Value.ref (s.heap.objs.size + 1) :: us) := .cons rfl r
  refine wpAny_call (make_map (f := g) I.kIn Mk0.makes Mk0.init (beq_iff_eq.mp Mk0.fn) (codeAny_mono (G.go _ X.stack _ _ F _ (_ :: ds) zs _ (Rof RR ρ) (Value.ref (s.heap.objs.size + 1) :: us) ws _ xs (fun v H2 => v = .non ∧ Q (.ref (s.heap.objs.size + 1)) H2) (fun cls d H' => W cls d σ H') (fun z => nomatch z) (hr.make C us _) (I2.env0.make C us _) r2 rx (by rw [← rx.length, rz.length]; exact hw) o2 (.cons (.adr _) rd) rz (t _ hM) ?_ ?_) fun r s' hq' => ?_))
  · rintro d v M' F' H' ⟨rfl, gs, M0, hn, rfl, q⟩ e' o' r'
    cases r'
    refine ⟨rfl, ?_⟩
    obtain ⟨_, dx, fs, h3, h4⟩ := o'.mt _ _ up_same
    obtain ⟨s1, o5⟩ := o'.freeze up_same h3
    rw [rm_up hn] at o5
    exact kt _ _ _ _ _ q (e'.trans s1) o5 (.ins upd_same (h4.mono s1))
  · rintro C gs M' F' H' cls d ⟨M2, sb, q⟩ e' o' x
    exact hW _ _ _ _ _ _ _ _ _ ⟨st.en.mono e', o'.sub sb, J.mono _ _ e' st.gh⟩ x q
  · cases r with
    | error e => exact tk _ _ (XE.of_call I2 (fun _ _ _ h => h) hq')
    | ok fl =>
      cases fl with
      | ret u =>
        obtain ⟨v, H', I3, rv, ev, q3⟩ := I2.after hq'
        subst ev
        exact ⟨rv, ⟨V.ref (s.heap.objs.size + 1), H', I3, rfl, q3⟩⟩
      | next => exact False.elim hq'
      | brk => exact False.elim hq'
      | cont => exact False.elim hq'
/-- C(..) -/
theorem ex_makeX {k : Nat} {C g : Addr} {T : TrX} (Mk0 : Mk X.K C g) (G : FnX X.prog X.w X.K X.mg X.base false k g ks T) (L : Lets X J RR) (hr : Room (k + 1) X.A) (hm : X.mg x = some (.ref C))
    (h : EvA X J pos es kws ks ρ M fun ds zs M1 => TMkX C T ds zs M1 P (Rof RR ρ)) (hg : Gl X x := by rfl) (hdb : (x == ("__debug__" : Str)) = false := by decide) : EX X J (.Call (.Name x p) es kws pos) ρ M P := by
  refine ⟨fun pins s σ H Q I ⟨F, st, kt⟩ => ?_⟩
  refine wpAny_Call_Name_kw (ld_glob I hg hm ?_ hdb)
  refine cwAny (PySem.W.keeps_K Mk0.kp) (h _ pins σ H F s _ I st fun us ws vs xs ds zs F2 M2 H2 s2 I2 e2 o2 r rx rd rz hl t => ⟨I2.kIn, ?_⟩)
  exact run_makeX Mk0 G L hr I2 (st.to e2 o2) r rx hl rd rz t (kt.to e2)
/-- o.m(..), m a method of o's class -/
theorem ex_methX {gd : Bool} {pl : Sem Bool} (L : Lets X J RR) (hgd : gd = true → X.A.guards = some [])
    (h : EX X J o ρ M fun d M1 => ∃ (C : Addr) (gs : List (Str × D)) (k : Nat) (g : Addr) (T : TrX), Is M1 d C gs ∧ gs.lookup m = none ∧ Cls X.K C ∧ Meth X.K C m g ∧ FnX X.prog X.w X.K X.mg X.base gd k g ks T ∧ Room k X.A ∧
      EvA X J pos es kws ks ρ M1 fun ds zs M2 => T (d :: ds) zs M2 P (Rof RR ρ))
    (ht : eval (.Call (.Attribute o m apos) es kws pos) X.env = (do let ov ← eval o X.env; standAt apos.atName; let (u, first) ← holding [ov] (getMethod ov m pl); callWith pos u first (backTo pos (starEach es X.env)) (backToKw pos (keywordEach kws X.env))) := by rfl) :
    EX X J (.Call (.Attribute o m apos) es kws pos) ρ M P := by
  refine ⟨fun pins s σ H Q I ⟨F, st, kt⟩ => ?_⟩
  refine PySem.W.methodCall_KW (pl := pl) (thn ((pe_any (X := X) (e := o)).run pins s σ H (fun v H1 => ∃ F1 M1 d, Same F F1 ∧ Ok X.K F1 M1 H1 ∧ Rp X.K F1 v d ∧ ∃ (C : Addr) (gs : List (Str × D)) (k : Nat) (g : Addr) (T : TrX), Is M1 d C gs ∧ gs.lookup m = none ∧ Cls X.K C ∧ Meth X.K C m g ∧ FnX X.prog X.w X.K X.mg X.base gd k g ks T ∧ Room k X.A ∧
      EvA X J pos es kws ks ρ M1 fun ds zs M2 => T (d :: ds) zs M2 P (Rof RR ρ)) I (h.go st fun d v M1 F1 H1 q e1 o1 r1 => ⟨F1, M1, d, e1, o1, r1, q⟩)) fun u s1 ⟨y, H1, I1, ry, F1, M1, d, e1, o1, rd0, C, gs, k, g, T, hi, hl0, hc, hm, G, hr, hE⟩ => ?_) ht
  obtain ⟨q, dx, fs, rfl, h1, h2⟩ := hi.get o1 rd0
  obtain rfl : u = Value.ref q := ry
  have hn : fs.lookup m = none := by
    rcases h2.look (f := m) with ⟨h3, _⟩ | ⟨w, d', h3, h4, h5⟩
    · exact h3
    · rw [h4] at hl0; cases hl0
  refine getmeth_ok I1 h1 hc hm hn ?_
  refine cwAny (first := [.ref q]) (PySem.W.keeps_K hm.kp) (hE _ pins σ H1 F1 s1 _ I1 (st.to e1 o1) fun us ws vs xs ds zs F2 M2 H2 s2 I2 e2 o2 r rx rd rz hl t => ⟨I2.kIn, ?_⟩)
  exact run_fnX (us := .ref q :: us) (vs := .ref q :: vs) G L hgd hr I2 ((st.to e1 o1).to e2 o2) (.cons rfl r) rx hl (.cons (rd0.mono e2) rd) rz t (kt.to (e1.trans e2))
end
end DX
namespace DX
open PySem PySem.Spec L2 PyProof.Rows StX
section
variable {prog : Program} {w : World} {A : Around} {E : Value → Shared → Prop} {s : Shared} {K : PySem.W.Frag} {x C L f : Addr} {h₀ : Heap} {m : Str → Option Value} {ox : Obj} {od : Option Obj} {b tb : Value}
end
def SpXR (K : PySem.W.Frag) (T : TrX) : Sp := fun vs H Q E => ∃ F M ds P R, Ok K F M H ∧ Rps K F vs ds ∧ T ds [] M P R ∧ Kt K F P Q ∧ Kx K F R E
theorem fnR_ofX {pg : Program} {w : World} {K : PySem.W.Frag} {mg : Str → Option Value} {base : Heap} {k : Nat} {g : Addr} {T : TrX} (G : FnX pg w K mg base false k g [] T) : FnR pg w K mg base (L2.CX pg w) k g (SpXR K T) := by
  intro A outer s H us vs Q E hr e0 r ⟨F, M, ds, P, R, o, rd, t, kt, kx⟩
  exact G.go A outer s H F M ds [] P R us [] vs [] Q E (fun z => nomatch z) hr e0 r .nil rfl o rd .nil t kt kx
theorem pass_no {X : Cx} : Passes (L2.CX X.prog X.w) X (fun _ _ _ => False) := fun pins σ H s e s' I c => takes_no e s' (XE.of_call (W := fun _ _ _ _ => False) I (fun _ _ _ h => h) c)
/-- who may be asked: the class, its names -/
def clsD (L : List (Addr × List Str)) : D → Option Addr
  | .ins C gs => if (C, gs.map (·.1)) ∈ L then some C else none
  | _ => none
section
variable {X : Cx} {J : Gh} {e a b o : Expr} {es : List Expr} {kws : List Keyword} {ks : List Str} {ρ : DEnv} {M M1 M2 : Mem} {F F' H H' : Hp} {σ : L2.St} {K : PySem.W.Frag} {pos p apos : Pos} {x m f : Str} {P : D → Mem → Prop} {RR : Addr → List (Str × D) → DEnv → Mem → Prop}
/-- x + y by the class's __add__ -/
theorem od_addX {k : Nat} {C g : Addr} {T : TrX} {x y : D} {gs hs : List (Str × D)} (G : FnX X.prog X.w X.K X.mg X.base false k g [] T) (hr : Room k X.A) (hsf : PySem.W.selfFirst X.K C = true) (hm : Meth X.K C "__add__" g) (hx : Is M x C gs) (hy : Is M y C hs)
    (t : T [x, y] [] M (fun d M2 => (∃ C' gs', d = .ins C' gs') ∧ P d M2) noX) : OD X (binaryOp .Add) x y M P :=
  ⟨fun v u H Q => ∃ F, Ok X.K F M H ∧ Rp X.K F v x ∧ Rp X.K F u y ∧ Kt X.K F P Q, fun pins s σ H v0 u0 v u Q I rv ru ⟨F, o, rx, ry, kt⟩ => by
    obtain ⟨a, dx, fs, rfl, h1, _⟩ := hx.get o rx
    obtain ⟨b, dy, fs', rfl, h2, _⟩ := hy.get o ry
    obtain rfl : v = Value.ref a := rv
    obtain rfl : u = Value.ref b := ru
    obtain ⟨ox, od, J0, _⟩ := insC_at (X := X) I (.inr ⟨dx, fs, h1⟩)
    obtain ⟨oy, od', J1, _⟩ := insC_at (X := X) I (.inr ⟨dy, fs', h2⟩)
    have hc : wpAny (model X.prog X.w) X.A (call (.ref g) [.ref a, .ref b]) (EP X pins σ fun v H' => (∃ a, v = .ref a) ∧ Q v H') X.xe s := wpAny_call (run_fnR (us := [.ref a, .ref b]) (vs := [V.ref a, V.ref b]) (fnR_ofX G) hr pass_no I (.cons rfl (.cons rfl .nil)) ⟨F, M, _, _, noX, o, .cons rx (.cons ry .nil), t, fun d v M' F' H' q e o' r => by
      obtain ⟨⟨C', gs', rfl⟩, q⟩ := q
      exact ⟨by cases r; exact ⟨_, rfl⟩, kt _ _ _ _ _ q e o' r⟩, Kx.no⟩)
    refine add_own I.kIn J0 J1 hsf hm.at_ hm.fn (wpAny_mono hc (fun v' s' h => ?_) fun _ _ z => z)
    obtain ⟨v, H', I', rv', ⟨a', rfl⟩, q⟩ := h
    obtain rfl : v' = Value.ref a' := rv'
    exact ⟨fun z => (nomatch z), V.ref a', H', I', rfl, q⟩, fun F H v u Q o rx ry kt => ⟨F, o, rx, ry, kt⟩⟩
end
end DX
namespace DX
open PySem PySem.Spec L2 PyProof.Rows StX
section
variable {X : Cx} {J : Gh} {e a b o : Expr} {es : List Expr} {kws : List Keyword} {ks : List Str} {ρ : DEnv} {M M1 M2 : Mem} {F F' H H' : Hp} {σ : L2.St} {K : PySem.W.Frag} {pos p apos : Pos} {x m f : Str} {P : D → Mem → Prop} {RR : Addr → List (Str × D) → DEnv → Mem → Prop}
/-- the method at g called with an instance and further values, somewhere within: nothing is let out -/
theorem run_inner {k : Nat} {g : Addr} {T : TrX} {A : Around} {pins : List (Addr × Obj)} {s : Shared} {Q : VK} {us : List Value} {vs : List V} {ds : List D} (G : FnX X.prog X.w X.K X.mg X.base false k g [] T) (hr : Room k A) (e0 : Env0 X.prog X.w X.K X.mg X.base A X.stack s H) (I : L2.Inv X pins σ H s) (r : Vals vs us) (o : Ok X.K F M H) (rd : Rps X.K F vs ds)
    (t : T ds [] M P noX) (kt : Kt X.K F P Q) {E' : Value → Shared → Prop} : wpAny (model X.prog X.w) A (call (.ref g) us) (EP X pins σ Q) E' s := by
  refine wpAny_call (codeAny_mono (fnR_ofX G A X.stack s H us vs Q (fun _ _ _ => False) hr e0 r ⟨F, M, ds, P, noX, o, rd, t, kt, Kx.no⟩) fun res s' end_ => ?_)
  match res, end_ with
  | .error e, end_ => exact (XE_no I end_).elim
  | .ok (.ret _), end_ => exact I.after end_
  | .ok .next, end_ => exact end_.elim
  | .ok .brk, end_ => exact end_.elim
  | .ok .cont, end_ => exact end_.elim
where
  XE_no {pins : List (Addr × Obj)} {s s' : Shared} {er : Value} (I : L2.Inv X pins σ H s) (h : L2.CX X.prog X.w X.stack H s (fun _ _ _ => False) er s') : False := by
    obtain ⟨_, _, _, _, _, _, _, _, _, _, _, _, _, z⟩ := h
/-- o.f, a property: the getter lets nothing out -/
theorem ex_propX {k : Nat} {C q g : Addr} {T : TrX} (c : Cls X.K C) (hp : PropOf X.K C f q g) (G : FnX X.prog X.w X.K X.mg X.base false k g [] T) (hr : Room (k + 1) X.A)
    (h : EX X J e ρ M fun d M1 => ∃ gs, Is M1 d C gs ∧ T [d] [] M1 P noX) (hab : attributeBase e f X.env (eval e X.env) = eval e X.env := by rfl) : EX X J (.Attribute e f pos) ρ M P := by
  refine ⟨fun pins s σ H Q I ⟨F, st, kt⟩ => ?_⟩
  refine attr_of hab (thn ((pe_any (X := X) (e := e)).run pins s σ H (fun v H1 => ∃ F1 M1 d, Same F F1 ∧ Ok X.K F1 M1 H1 ∧ Rp X.K F1 v d ∧ ∃ gs, Is M1 d C gs ∧ T [d] [] M1 P noX) I (h.go st fun d v M1 F1 H1 q e1 o1 r1 => ⟨F1, M1, d, e1, o1, r1, q⟩)) fun u s1 ⟨y, H1, I1, ry, F1, M1, d, e1, o1, rd, gs, hi, t⟩ => ?_)
  obtain ⟨q1, dx, fs, rfl, h1, h2⟩ := hi.get o1 rd
  obtain rfl : u = Value.ref q1 := ry
  obtain ⟨mA, O, _, _, _, _⟩ := ins_get I1.hok h1
  obtain ⟨od, J0, _⟩ := O.look
  obtain ⟨rest, hrec⟩ := hp.rec_
  have I2 := I1.tok (s1.toks + 1)
  have hc : (PySem.W.clsIn X.K C).isSome = true := by
    obtain ⟨cd, hc, _⟩ := PySem.W.any_some c.hd
    rw [hc]; rfl
  refine PySem.W.get_bind I1.kIn J0 (PySem.W.plainGet_of (c.get f)).1 (PySem.W.findObj_data hc hp.at_ hp.get hp.tak) (PySem.W.plainGet_of (c.get f)).2 (wpAny_call (PySem.W.prop_get (s := { s1 with toks := s1.toks + 1 }) I1.kIn hrec ?_))
  refine codeAny_mono (fnR_ofX G X.A.in1 X.stack { s1 with toks := s1.toks + 1 } H1 [.ref q1] [V.ref q1] Q (fun _ _ _ => False) hr.in1 I2.env0.in1 (.cons rfl .nil) ⟨F1, M1, [d], P, noX, o1, .cons rd .nil, t, kt.to e1, Kx.no⟩) fun res s' end_ => ?_
  match res, end_ with
  | .error er, end_ => exact (run_inner.XE_no I2 end_).elim
  | .ok (.ret u), end_ =>
    obtain ⟨v, H', I3, rv, q3⟩ := I2.after end_
    show wpAny _ _ (handedOut u) _ _ _
    rw [PySem.W.handedOut_of (handed_of rv)]
    exact wpAny_pure ⟨v, H', I3, rv, q3⟩
  | .ok .next, end_ => exact end_.elim
  | .ok .brk, end_ => exact end_.elim
  | .ok .cont, end_ => exact end_.elim
end
end DX
namespace DX
open PySem PySem.Spec L2 PyProof.Rows StX
open PySem.W PySem.Calls Builtin Builtin.ObjectAttr in
section
variable {prog : Program} {w : World} {A : Around} {E : Value → Shared → Prop} {R : Result → Shared → Prop} {hp : Heap} {g : Array GenState} {d : Drawn} {t : Nat} {os : OsState} {K : PySem.W.Frag} {name : Str} {tk : Tok} {v : Value} {x C dx : Addr} {fv : Array Value} {B : String} {bmB : List Value}
theorem taker_no (ha : PySem.W.findIn K (.ref C) name = some none) : PySem.W.takerIn K C name = some none := by
  unfold PySem.W.takerIn
  rw [ha]
  rfl
/-- the first field -/
theorem osaN (SF : StoreFacts B bmB "object.__setattr__" "object") (X : K.In hp) (hx : hp.get? x = some { cls := .ref C, data := .fields fv }) (ho : PySem.W.excOver K C bmB = true) (hh : PySem.W.hasDictIn K C = true) (ha : PySem.W.findIn K (.ref C) name = some none)
    (hq : ∀ h' tk' dx, (∀ b o, b ≠ x → hp.get? b = some o → h'.get? b = some o) → hp.objs.size ≤ dx → dx ≠ x → h'.get? x = some { cls := .ref C, dict := some dx, data := .fields fv } → h'.Ns1 dx (fun y => if y = name then some v else none) → R (.ok (.ret .none)) ⟨h', g, d, tk', os⟩) :
    codeAny (model prog w) A (.call (.builtin "object.__setattr__") ⟨[.ref x, .str name tk, v], []⟩) R ⟨hp, g, d, t, os⟩ := by
  have I : PySem.W.InstAt hp x { cls := .ref C, data := .fields fv } C none := ⟨hx, rfl, rfl, trivial⟩
  obtain ⟨cd, hcd, hd⟩ := PySem.W.any_some hh
  have far : x ≠ hp.objs.size := Nat.ne_of_lt (Heap.lt_size hx)
  have kcls : PySem.W.Looks (model prog w) hp (classData C) cd := PySem.W.looks_clsIn X hcd
  refine PySem.W.osa_openX (s := ⟨hp, g, d, t, os⟩) (r := none) SF X I ho (taker_no ha) fun b => ?_
  show wpAny _ _ (Builtin.ObjectAttr.storeInOwnDict (.ref x) (.ref C) (.str name tk) name v b) _ _ _
  obtain ⟨nm, bs, mro, ns, qn, hd0, sn, sb, ab, col, del⟩ := cd
  dsimp only at hd
  subst hd
  unfold Builtin.ObjectAttr.storeInOwnDict Builtin.ObjectAttr.ownDictForStores
  repeat (first | with_reducible refine PySem.HandSPX.store_in_new ?_ ?_ | with_reducible refine wpAny_loadPart_at hx ?_ | with_reducible refine kcls.at ?_ | wp_step)
  · exact ⟨_, #[], _, (Heap.get?_update_ne _ _ _ _ far.symm).trans (Heap.get?_push_at rfl rfl), rfl, fun e he => absurd he (by simp), fun _ => rfl⟩
  · intro h' tk' hn same
    have up : (hp.push { cls := .type "dict", data := .dict #[] }).get? x = some { cls := .ref C, data := .fields fv } := Heap.get?_push_of_some _ hx
    refine hq h' tk' hp.objs.size (fun b o hb e => ?_) (Nat.le_refl _) far.symm ?_ hn
    · exact (same.2 b (Nat.ne_of_lt (Heap.lt_size e))).trans ((Heap.get?_update_ne _ _ _ _ hb).trans (Heap.get?_push_of_some _ e))
    · exact (same.2 x far).trans (Heap.get?_update_self _ up rfl)
/-- a further field -/
theorem osaM {m0 : Str → Option Value} {nl : List Str} (SF : StoreFacts B bmB "object.__setattr__" "object") (X : K.In hp) (hx : hp.get? x = some { cls := .ref C, dict := some dx, data := .fields fv }) (hns : hp.Ns1 dx m0) (hw : Within m0 nl) (hz : nl.length ≤ 1000) (ho : PySem.W.excOver K C bmB = true) (hh : PySem.W.hasDictIn K C = true)
    (ha : PySem.W.findIn K (.ref C) name = some none) (hq : ∀ h' tk', (∀ b o, b ≠ dx → hp.get? b = some o → h'.get? b = some o) → h'.Ns1 dx (fun y => if y = name then some v else m0 y) → R (.ok (.ret .none)) ⟨h', g, d, tk', os⟩) :
    codeAny (model prog w) A (.call (.builtin "object.__setattr__") ⟨[.ref x, .str name tk, v], []⟩) R ⟨hp, g, d, t, os⟩ := by
  obtain ⟨oD, esD, epD, hoD, hdD, _⟩ := hns.count hw
  have I : PySem.W.InstAt hp x { cls := .ref C, dict := some dx, data := .fields fv } C (some oD) := ⟨hx, rfl, rfl, hoD⟩
  obtain ⟨cd, hcd, hd⟩ := PySem.W.any_some hh
  have kcls : PySem.W.Looks (model prog w) hp (classData C) cd := PySem.W.looks_clsIn X hcd
  refine PySem.W.osa_openX (s := ⟨hp, g, d, t, os⟩) (r := none) SF X I ho (taker_no ha) fun b => ?_
  show wpAny _ _ (Builtin.ObjectAttr.storeInOwnDict (.ref x) (.ref C) (.str name tk) name v b) _ _ _
  obtain ⟨nm, bs, mro, ns, qn, hd0, sn, sb, ab, col, del⟩ := cd
  dsimp only at hd
  subst hd
  unfold Builtin.ObjectAttr.storeInOwnDict Builtin.ObjectAttr.ownDictForStores
  repeat (first | with_reducible refine PySem.OEX.store_in_old hns hw hz ?_ | with_reducible refine wpAny_loadPart_at hx ?_ | with_reducible refine kcls.at ?_ | wp_step)
  intro h' tk' hn same
  exact hq h' tk' (fun b o hb e => (same.2 b hb).trans e) hn
end
end DX
namespace DX
open PySem PySem.Spec L2 PyProof.Rows StX
structure OexG (newId : String) (bmB : List Value) (K : PySem.W.Frag) (C : Addr) : Prop where
  cls : ∃ nm q N bs bm sn sub ab col dd k0 k1 k2 k3 k5, K.lookup C = some (excClassObj nm q C N bs bm true sn sub ab col dd k0 k1 k2 k3 k5 newId) ∧ PySem.W.excTail bmB bm = true
  sa : PySem.W.findIn K (.ref C) "__setattr__" = some (some (.builtin "object.__setattr__"))
  exC : PySem.W.subIn K (.ref C) (.type "BaseException") = some true
  tyC : PySem.W.typeIn K (.ref C) = some (.type "type")
  kC : PySem.W.keepIn K (.ref C) = true
  ov : PySem.W.excOver K C bmB = true
  hd : PySem.W.hasDictIn K C = true
/-- a built-in error class over which own ones stand -/
structure Bas (newId : String) (bmB : List Value) : Prop where
  ex : ∃ B initId, ExcBaseFacts B newId initId bmB ∧ StoreFacts B bmB "object.__setattr__" "object"
abbrev mroO : List Value := [.type "OverflowError", .type "ArithmeticError", .type "Exception", .type "BaseException", .type "object"]
theorem basV : Bas "ValueError.__new__" mroV := ⟨_, _, F.excBase_ValueError, F.store_ValueError⟩
theorem basL : Bas "LookupError.__new__" mroL := ⟨_, _, F.excBase_LookupError, F.store_LookupError⟩
section
variable {X : Cx} {pins : List (Addr × Obj)} {σ : L2.St} {H : Hp} {s : Shared} {a C dx : Addr} {f : Str} {y : V} {u : Value} {fs : List (Str × V)} {Q : Unit → Shared → Prop} {E : Value → Shared → Prop} {A : Around} {newId : String} {bmB : List Value}
theorem ostN (T : OexG newId bmB X.K C) (B : Bas newId bmB) (I : L2.Inv X pins σ H s) (e : H a = some (exo a C none)) (hno : PySem.W.findIn X.K (.ref C) f = some none) (ry : RelV y u)
    (h : ∀ dx s', H dx = none → dx ≠ a → L2.Inv X pins σ (upd (upd H dx (exd dx [(f, y)])) a (exo a C (some dx))) s' → Q () s') : wpAny (model X.prog X.w) A (setAttr (.ref a) f u) Q E s := by
  obtain ⟨_, _, _, SF⟩ := B.ex
  obtain ⟨tp, at_⟩ := exo_at I.hok e
  obtain ⟨hp, g, d, t, os⟩ := s
  refine PySem.W.set_plain I.kIn (od := none) ⟨at_, rfl, rfl, trivial⟩ T.sa ?_
  refine osaN SF I.kIn at_ T.ov T.hd hno fun h' tk' dx keep new ne now dict => ?_
  have nD : H dx = none := I.hok.fresh new
  have old : ∀ {b : Addr} {o : Obj}, hp.get? b = some o → b ≠ dx := fun z => Nat.ne_of_lt (Nat.lt_of_lt_of_le (Heap.lt_size z) new)
  have away : ∀ {b : Addr}, H b = none → b ≠ a := fun n z => by rw [z, e] at n; cases n
  have un : Un X.fs [] H (upd (upd H dx (exd dx [(f, y)])) a (exo a C (some dx))) hp h' := by
    refine ⟨fun b o z n _ _ => keep b o (away n) z, fun b o z n _ _ => ⟨o.slots, keep b o (away n) z⟩, fun b o z n _ => ?_, fun b o z _ => ?_, fun b xs z => ?_, fun b o v z => ?_, fun b ps z => ⟨#[], ?_⟩⟩
    · rw [upd_ne (away n), upd_ne (old z)]; exact n
    · rcases Decidable.em (b = a) with rfl | q
      · exact ⟨_, now⟩
      · exact ⟨o, keep b o q z⟩
    · rw [upd_ne (at_ne e z exo_tup), upd_ne (ne_of_none z nD)]; exact z
    · rw [upd_ne (at_ne e z exo_frz), upd_ne (ne_of_none z nD)]; exact z
    · rw [upd_ne (at_ne e z exo_tbl), upd_ne (ne_of_none z nD), z]; simp
  refine h dx _ nD ne (I.un (t' := tk') un fun b o z => ?_)
  rcases Decidable.em (b = a) with rfl | hb
  · rw [upd_same] at z; cases z
    exact exo_ok now
  · rw [upd_ne hb] at z
    rcases Decidable.em (b = dx) with rfl | hd
    · rw [upd_same] at z; cases z
      exact exd_ok dict (relO_put (fs := []) ry fun g => True.intro)
    · rw [upd_ne hd] at z
      refine (I.hok b o z).stay (fun c v hc q => keep c v ?_ q) (fun c hc => by rw [upd_ne (at_ne e hc exo_own), upd_ne (ne_of_none hc nD)]; exact hc) fun c xs hc => by rw [upd_ne (at_ne e hc exo_tup), upd_ne (ne_of_none hc nD)]; exact hc
      rcases hc with rfl | hc
      · exact hb
      · exact at_ne e hc exo_own
theorem ostM (T : OexG newId bmB X.K C) (B : Bas newId bmB) (I : L2.Inv X pins σ H s) (e : H a = some (exo a C (some dx))) (ed : H dx = some (exd dx fs)) (hl : fs.length ≤ 900) (hno : PySem.W.findIn X.K (.ref C) f = some none) (ry : RelV y u)
    (h : ∀ s', L2.Inv X pins σ (upd H dx (exd dx ((f, y) :: fs))) s' → Q () s') : wpAny (model X.prog X.w) A (setAttr (.ref a) f u) Q E s := by
  obtain ⟨_, _, _, SF⟩ := B.ex
  obtain ⟨tp, at_⟩ := exo_at I.hok e
  obtain ⟨mA, hns, rel⟩ := exd_at I.hok ed
  have wi := within_of rel
  obtain ⟨hp, g, d, t, os⟩ := s
  obtain ⟨oD, _, _, hoD, _, _⟩ := hns.count wi
  refine PySem.W.set_plain I.kIn (od := some oD) ⟨at_, rfl, rfl, hoD⟩ T.sa ?_
  refine osaM SF I.kIn at_ hns wi (by rw [List.length_map]; omega) T.ov T.hd hno fun h' tk' keep dict => ?_
  have there : ∃ o, h'.get? dx = some o := dict.imp fun o z => by
    obtain ⟨_, _, z, _⟩ := z
    exact z
  exact h _ (I.write (t' := tk') (x := dx) (e := dx) (o := exd dx ((f, y) :: fs)) (by rw [ed]; exact True.intro) (.inl rfl) keep there (exd_ok dict (relO_put ry rel)))
end
/-- self.f = e, self an error that is being made -/
def tOstG (newId : String) (bmB : List Value) (K : PySem.W.Frag) (f : Str) (to te : TE) : TS := fun D σ H => te σ H fun y H1 => to σ H1 fun x H2 => ∃ a C : Addr, x = .ref a ∧ OexG newId bmB K C ∧ Bas newId bmB ∧ PySem.W.findIn K (.ref C) f = some none ∧
  ((H2 a = some (exo a C none) ∧ ∀ dx, H2 dx = none → dx ≠ a → D.nx σ (upd (upd H2 dx (exd dx [(f, y)])) a (exo a C (some dx)))) ∨
    ∃ (dx : Addr) (fs : List (Str × V)), H2 a = some (exo a C (some dx)) ∧ H2 dx = some (exd dx fs) ∧ fs.length ≤ 900 ∧ D.nx σ (upd H2 dx (exd dx ((f, y) :: fs))))
section
variable {X : Cx} {o e : Expr} {es : List Expr} {to te : TE} {ta : TA} {f : Str} {p p' p1 p2 pos : Pos} {newId : String} {bmB : List Value}
theorem ps_ostG (ho : PE X o to) (he : PE X e te) (hs : swapsWith e (some (.Attribute o f p')) pos.line X.env = pure false := by rfl) : PS X (.Assign [.Attribute o f p'] e pos) (tOstG newId bmB X.K f to te) := by
  refine ⟨fun pins s σ H D I h => ?_⟩
  refine plainObj_wpAny_Assign_Attribute (thn (he.run pins s σ H _ I h) fun v s1 ⟨y, H1, I1, ry, q1⟩ => thn (ho.run pins s1 σ H1 _ I1 q1) fun u s2 ⟨x, H2, I2, rx, a, C, ex, T, B, hno, q⟩ => ?_) hs
  subst ex
  obtain rfl : u = Value.ref a := rx
  rcases q with ⟨ea, q⟩ | ⟨dx, fs, ea, ed, hl, q⟩
  · exact ostN T B I2 ea hno ry fun dx s' n ne J => ⟨σ, _, J, q dx n ne⟩
  · exact ostM T B I2 ea ed hl hno ry fun s' J => ⟨σ, _, J, q⟩
end
end DX
namespace DX
open PySem PySem.Spec L2 PyProof.Rows StX
def spI1 (C : Addr) (f : Str) : Sp := fun vs H Q _ => ∃ a y, vs = [.ref a, y] ∧ H a = some (exo a C none) ∧ ∀ dx, H dx = none → dx ≠ a → Q .non (upd (upd H dx (exd dx [(f, y)])) a (exo a C (some dx)))
def spI2 (C : Addr) (f1 f2 : Str) : Sp := fun vs H Q _ => ∃ a y z, vs = [.ref a, y, z] ∧ H a = some (exo a C none) ∧ ∀ dx, H dx = none → dx ≠ a → Q .non (upd (upd (upd H dx (exd dx [(f1, y)])) a (exo a C (some dx))) dx (exd dx [(f2, z), (f1, y)]))
section
variable {P : Program} {w : World} {K : PySem.W.Frag} {mg : Str → Option Value} {base : Heap} {x qual : Str} {params : Arguments} {body : List Stmt} {scope : Scope} {g C : Addr} {fd : FuncData} {newId : String} {bmB : List Value} {CX : CXT} {sf v1 v2 f1 f2 : Str}
theorem vis_of {N ps : List Str} (S : FnScope N ps scope) {n : Str} (h : n ∈ ps) : Vis scope n := (S.par n h).elim (fun z => .inl z) fun z => .inr (.inl z)
theorem init1 (F : FunD K x qual params body scope [] [] g fd) (S : FnScope [sf, v1] [sf, v1] scope) (hb : ∃ p1 p2 p3 p4, body = [.Assign [.Attribute (.Name sf p1) f1 p2] (.Name v1 p3) p4]) (T : OexG newId bmB K C) (B : Bas newId bmB) (hno : PySem.W.findIn K (.ref C) f1 = some none)
    (n1 : (sf == ("__debug__" : Str)) = false := by decide) (n2 : (v1 == ("__debug__" : Str)) = false := by decide) (n3 : (sf == ("__classdict__" : Str)) = false := by decide) (n4 : (v1 == ("__classdict__" : Str)) = false := by decide) :
    FnOk P w K mg base CX 1 g fd [sf, v1] (spI1 C f1) := by
  obtain ⟨p1, p2, p3, p4, rfl⟩ := hb
  refine F.ok S (fun vs H Q E h => ?_) fun cdv A outer s H vs Q E hr h => ?_
  · obtain ⟨a, y, rfl, _⟩ := h; rfl
  · obtain ⟨a, y, rfl, ha, q⟩ := h
    refine ⟨_, pss_one (ps_ostG (newId := newId) (bmB := bmB) (pe_var (i := 0) rfl (vis_of S (by simp)) n1 n3) (pe_var (i := 1) rfl (vis_of S (by simp)) n2 n4)), ?_⟩
    exact ⟨y, rfl, .ref a, rfl, a, C, rfl, T, B, hno, .inl ⟨ha, q⟩⟩
end
section
variable {X : Cx} {J : Gh} {e a b o : Expr} {es : List Expr} {ρ : DEnv} {M M1 M2 : Mem} {F F' H H' : Hp} {σ : L2.St} {K : PySem.W.Frag} {pos p rpos : Pos} {x f f1 f2 : Str} {B : Bd} {RR : Addr → List (Str × D) → DEnv → Mem → Prop} {newId : String} {bmB : List Value} {C g : Addr} {fd : FuncData} {ps : List Str}
/-- C(e, ..), an error that is made to be raised -/
theorem pmkG {CX : CXT} {k : Nat} {sp : Sp} {ta : TA} (T : OexG newId bmB X.K C) (Ba : Bas newId bmB) (iC : PySem.W.findIn X.K (.ref C) "__init__" = some (some (.ref g))) (tI : PySem.W.typeIn X.K (.ref g) = some (.type "function")) (G : FnOk X.prog X.w X.K X.mg X.base CX k g fd ps sp) (hr : Room (k + 1) X.A)
    (hb : Binds X.K fd ps []) (hx : Passes CX X (fun _ _ _ => False)) (hg : Gl X x) (hm : X.mg x = some (.ref C)) (ha : PA X (e :: es) ta) (hdb : (x == ("__debug__" : Str)) = false := by decide) (he : starEach (e :: es) X.env = (false, eval e X.env) :: starEach es X.env := by rfl)
    (hpl : (backTo pos (starEach es X.env)).any (·.1) = false := by rfl) : PMk X (.Call (.Name x p) (e :: es) [] pos) (tMkO C sp [] ta) := by
  intro pins s σ H Q I h
  obtain ⟨BN, initId, EB, _⟩ := Ba.ex
  obtain ⟨nm, q, N, bs, bm, sn, sub, ab, col, dd, k0, k1, k2, k3, k5, hC, tl⟩ := T.cls
  refine wpAny_Call_Name_kw (ld_glob I hg hm ?_ hdb)
  refine PySem.W.callWith_K (h₀ := X.base) I.ok.mod.kin T.kC (thn (ha.run pos pins s σ H _ I h) fun us s1 ⟨vs, H1, I1, r1, hz, q1⟩ => ⟨I1.kIn, ?_⟩) he hpl
  show wpAny _ _ (call (.ref C) us) _ _ _
  obtain ⟨hp, gg, dr, tk, os⟩ := s1
  have up : hp.objs.size ≤ hp.objs.size + 1 := Nat.le_succ _
  have hn : H1 (hp.objs.size + 1) = none := I1.hok.fresh up
  have want := q1 (hp.objs.size + 1) hn
  have keep : ∀ b o, hp.get? b = some o → ((hp.push (PySem.W.kdv_tup us)).push (PySem.HandSPX.excO C hp.objs.size)).get? b = some o := fun b o z => Heap.get?_push_of_some _ (Heap.get?_push_of_some _ z)
  have there : ((hp.push (PySem.W.kdv_tup us)).push (PySem.HandSPX.excO C hp.objs.size)).get? (hp.objs.size + 1) = some (PySem.HandSPX.excO C hp.objs.size) := by heap_get
  have I2 : L2.Inv X pins σ (upd H1 (hp.objs.size + 1) (exo (hp.objs.size + 1) C none)) ⟨(hp.push (PySem.W.kdv_tup us)).push (PySem.HandSPX.excO C hp.objs.size), gg, dr, tk, os⟩ :=
    I1.laid (t' := tk) (a := hp.objs.size + 1) (o := exo (hp.objs.size + 1) C none) keep up (exo_ok there)
  rw [List.append_nil] at want
  have r2 : Vals (V.ref (hp.objs.size + 1) :: vs) (Value.ref (hp.objs.size + 1) :: us) := .cons rfl r1
  have hl : (Value.ref (hp.objs.size + 1) :: us ++ []).length = ps.length := by
    rw [List.append_nil, ← r2.length]
    exact G.len _ _ _ _ want
  have hus : us.length ≤ sizeLine := by
    rw [← r1.length, sizeLine_eq]; omega
  have bd := hb _ (Value.ref (hp.objs.size + 1) :: us) I2.kIn hl
  rw [List.append_nil] at bd
  refine wpAny_call (PySem.HandSPX.call_own EB (fun Y => PySem.W.excTail_contains Y bm tl) (I1.kIn _ _ hC) (PySem.W.looks_findIn I1.kIn iC) (fun self => PySem.W.bind_fn I1.kIn self tI) hus
    (codeAny_mono (G.run _ X.stack _ _ ⟨Value.ref (hp.objs.size + 1) :: us, []⟩ _ _ _ (fun _ _ _ => False) (hr.make C us []) (I2.env0.make C us []) bd r2 want) fun res s' end_ => ?_))
  match res, end_ with
  | .error er, end_ => exact hx pins σ _ _ er s' I2 end_
  | .ok (.ret u), end_ =>
    obtain ⟨v, H2, os2, bare2, un2, hok2, rv, ev, d, fs, ea, ed, hd1, q2⟩ := end_
    subst ev
    obtain ⟨h2, g2, d2, t2, os'⟩ := s'
    exact ⟨rv, mk_end (raises_own T.exC T.tyC) I1 up keep un2 hok2 os2 bare2 ea ed hd1 q2⟩
  | .ok .next, end_ => exact end_.elim
  | .ok .brk, end_ => exact end_.elim
  | .ok .cont, end_ => exact end_.elim
theorem backG {H1 : Hp} {q dx : Addr} {u u2 u3 : HO} {fs : List (Str × V)} (hn : H1 q = none) : upd (del (upd (upd (upd H1 q u) dx u2) q u3) q) dx (.xd fs) = upd H1 dx (.xd fs) := by
  funext b
  by_cases h1 : b = dx
  · subst h1; rw [upd_same, upd_same]
  · rw [upd_ne h1, upd_ne h1]
    by_cases h2 : b = q
    · subst h2; rw [del_same, hn]
    · rw [del_ne h2, upd_ne h2, upd_ne h1, upd_ne h2]
/-- raise C(e), one field -/
theorem g1_raise1 {CX : CXT} {s1 v1 : Str} (L : Lets X J RR) (hc : X.calm = true) (T : OexG newId bmB X.K C) (Ba : Bas newId bmB) (iC : PySem.W.findIn X.K (.ref C) "__init__" = some (some (.ref g))) (tI : PySem.W.typeIn X.K (.ref g) = some (.type "function")) (G : FnOk X.prog X.w X.K X.mg X.base CX 1 g fd [s1, v1] (spI1 C f)) (hr : Room 2 X.A)
    (hb : Binds X.K fd [s1, v1] []) (hx : Passes CX X (fun _ _ _ => False)) (hm : X.mg x = some (.ref C)) (h : EX X J e ρ M fun d M1 => Rof RR ρ C [(f, d)] M1) (hg : Gl X x := by rfl) (hdb : (x == ("__debug__" : Str)) = false := by decide)
    (he : starEach [e] X.env = (false, eval e X.env) :: starEach [] X.env := by rfl) : G1 X J (.Raise (some (.Call (.Name x p) [e] [] pos)) none rpos) ρ M B := by
  obtain ⟨W, tk, hW⟩ := L.ex
  refine g1_of (ps_raise hc tk (pmkG (ta := tAe X [e]) T Ba iC tI G hr hb hx hg hm pa_any hdb he (by rfl))) fun F σ H E st k => ?_
  have hA : AX X J [e] ρ M (fun ds M1 => ∃ d, ds = [d] ∧ Rof RR ρ C [(f, d)] M1) := ax_cons (h.imp fun d M1 q => ax_nil ⟨d, rfl, q⟩) he
  refine hA.go st fun ds vs M1 F1 H1 q e1 o1 r1 => ?_
  obtain ⟨d, rfl, M2, sb, q⟩ := q
  cases r1 with
  | cons rd rn =>
    cases rn
    refine ⟨by simp, fun q1 hq => ⟨q1, _, rfl, upd_same, fun dx hd ne => ⟨rfl, dx, _, upd_same, by rw [upd_ne ne, upd_same], by rw [upd_ne ne] at hd; exact hd, ?_⟩⟩⟩
    rw [upd_ne ne] at hd
    rw [backG hq]
    exact hW _ _ _ _ _ _ _ _ _ ⟨(st.en.mono e1).mono (o1.fixSame hd), (o1.fix hd).sub sb, J.mono _ _ (e1.trans (o1.fixSame hd)) st.gh⟩ ⟨rfl, .inr ⟨dx, _, rfl, upd_same, .cons (rd.mono (o1.fixSame hd)) .nil⟩⟩ q
end
end DX
namespace DX
open PySem PySem.Spec L2 PyProof.Rows StX
section
variable {prog : Program} {w : World} {A : Around} {E : Value → Shared → Prop} {s : Shared} {K : PySem.W.Frag} {x C : Addr} {ox : Obj} {od : Option Obj}
open PySem.W PySem.Calls Builtin in
theorem classE {Q : Option Value → Shared → Prop} (T : ExcC K C) (X : K.In s.heap) (I : PySem.W.InstAt s.heap x ox C od) (h : Q (some (.ref C)) { s with toks := s.toks + 1 }) : wpAny (model prog w) A (getAttr? (.ref x) "__class__") Q E s := by
  have hc : (PySem.W.clsIn K C).isSome = true := by
    obtain ⟨cd, z, _⟩ := PySem.W.any_some T.hd
    rw [z]; rfl
  have hf : PySem.W.findObj K C od "__class__" = some (.bind (.builtin "getset_descriptor.__get__") (.builtin "object.__class__")) := by
    cases od with
    | none => exact PySem.W.findObj_dataN hc T.ha T.hn T.ht
    | some o => exact PySem.W.findObj_data hc T.ha T.hn T.ht
  obtain ⟨hp, g, d, t, os⟩ := s
  have K0 := I.type (M := model prog w)
  have K1 := PySem.W.looks_findIn (M := model prog w) X T.hg
  have K2 := PySem.W.looks_findIn (M := model prog w) X T.hk
  have K3 := PySem.W.looks_find (M := model prog w) X I hf
  have isE : PySem.W.Looks (model prog w) hp (isInstance (.ref x) (.type "BaseException")) true := K0.andThen (PySem.W.looks_subIn X T.hs)
  have n0 : (false && onTheHeap (Value.builtin "BaseException.__getattribute__")) = false := rfl
  have n2 : (Value.builtin "BaseException.__getattribute__" == Value.builtin "object.__getattribute__") = false := by decide +kernel
  have n1 : (onTheHeap (Value.ref C) && Value.builtin "BaseException.__getattribute__" == Value.builtin "object.__getattribute__") = false := by rw [n2]; rfl
  unfold getAttr? getAttrBy? getAttrBy
  refine wpAny_bind (wpAny_mkText (wpAny_bind (wpAny_attempt (wpAny_holding (wpAny_bind (K0.at (wpAny_bind (K1.at ?_))))))))
  show wpAny _ _ (if (onTheHeap (Value.ref C) && Value.builtin "BaseException.__getattribute__" == Value.builtin "object.__getattribute__") = true then _ else _) _ _ _
  rw [n1, if_neg Bool.false_ne_true]
  unfold getAttrByItsOwn hookBefore
  refine wpAny_bind ?_
  rw [if_pos (show onTheHeap (Value.ref C) = true from rfl)]
  refine K2.at ?_
  refine wpAny_bind (wpAny_attempt (wpAny_holding ?_))
  unfold callGetattribute
  rw [n0, if_neg Bool.false_ne_true]
  unfold boundAndCalled
  rw [PySem.F.excAttr_ValueError.ga.bind (.ref x)]
  refine wpAny_bind (wpAny_pure ?_)
  show wpAny _ _ (call (.builtin "BaseException.__getattribute__") [.ref x, .str "__class__" t]) _ _ _
  refine wpAny_call (codeAny_call_builtin PySem.F.excAttr_ValueError.ga.plain PySem.F.entry_bexc_ga ?_)
  refine @PySem.W.check_slot (model prog w) _ _ ⟨hp, g, d, t + 1, os⟩ "BaseException.__getattribute__" "BaseException" "__getattribute__" (.ref x) [.str "__class__" t] [] _ (by decide +kernel) (by decide +kernel) isE (PySem.F.args_bexc_ga (.ref x) (.str "__class__" t)) ?_
  unfold Builtin.«object.__getattribute__»
  refine wpAny_bind (wpAny_of_eq (a := ((Value.ref x : Value), [Value.str "__class__" t])) (by first | rfl | (simp only [Builtin.slotArgs]; rfl)) ?_)
  refine wpAny_bind (wpAny_pure (wpAny_bind (K0.at (wpAny_bind (K3.at ?_)))))
  show wpAny _ _ (holding [Value.builtin "object.__class__"] (call (.builtin "getset_descriptor.__get__") [.builtin "object.__class__", .ref x, .ref C]) >>= ret) _ _ _
  refine wpAny_bind (wpAny_holding (wpAny_call (PySem.W.class_get (s := ⟨hp, g, d, t + 1, os⟩) (ox := ox) (od := od) X I T.hm ?_)))
  refine wpAny_pure ?_
  show wpAny _ _ (handedOut (.ref C)) _ _ _
  rw [PySem.W.handedOut_of (v := .ref C) rfl]
  first
    | exact wpAny_pure (wpAny_pure h)
    | exact wpAny_pure h
    | exact wpAny_pure (wpAny_bind (wpAny_pure (wpAny_pure h)))
theorem kitE (T : ExcC K C) : PySem.W.KitX K (.ref x) (.ref C) (fun h => ∃ ox od, PySem.W.InstAt h x ox C od) where
  ty := fun _ _ _ ⟨_, _, I⟩ => I.type
  it := fun _ _ X _ => by
    obtain ⟨cdD, hcD, _⟩ := PySem.W.any_some T.hd
    unfold PySem.W.clsIn at hcD
    split at hcD
    · rename_i c' d' cd' sl' ho
      intro A' Q' E' s' k q
      unfold isType loadHead
      exact wpAny_bind (wpAny_loadPart (k _ _ (X _ _ ho)) (wpAny_pure q))
    · cases hcD
  ne := fun h tp dd its n sl X htp => by
    obtain ⟨cdD, hcD, _⟩ := PySem.W.any_some T.hd
    unfold PySem.W.clsIn at hcD
    split at hcD
    · rename_i c' d' cd' sl' ho
      refine Bool.eq_false_iff.mpr fun q => ?_
      obtain rfl : C = tp := Value.ref.inj (beq_iff_eq.mp q)
      have z := (X _ _ ho).symm.trans htp
      cases z
    · cases hcD
  ca := fun X ⟨_, _, I⟩ k => classE T X I k
end
section
variable {X : Cx} {J : Gh} {e a b o : Expr} {es : List Expr} {ρ : DEnv} {M M1 M2 : Mem} {F F' H H' : Hp} {σ : L2.St} {K : PySem.W.Frag} {pos p rpos : Pos} {x f : Str} {P : D → Mem → Prop} {C : Addr}
/-- the object of a caught error -/
theorem exn_inst {gs : List (Str × D)} {v : V} {pins : List (Addr × Obj)} {s : Shared} (I : L2.Inv X pins σ H s) (o : Ok X.K F M H) (r : Rp X.K F v (.exn C gs)) :
    ∃ q ox od fs, v = .ref q ∧ PySem.W.InstAt s.heap q ox C od ∧ Rfs X.K F fs gs ∧ ∀ n y, fs.lookup n = some y → ∃ u o', od = some o' ∧ RelV y u ∧ PySem.W.lookIn n o' = some (some u) := by
  cases r with
  | exn h1 c r1 =>
    rename_i q dd fs
    have h2 := o.ex _ _ h1
    obtain ⟨⟨oe, vs, g1, g2, g3, g4⟩, _, _⟩ := (show ObjOk X.prog X.w H s.heap q (exH q C dd) from I.hok q _ h2)
    have nc : PySem.W.notCls oe = true := by unfold PySem.W.notCls; rw [g4]
    rcases c with ⟨rfl, rfl⟩ | ⟨d1, rfl, hd⟩
    · exact ⟨q, oe, none, [], rfl, ⟨g1, g2, nc, by rw [g3]; trivial⟩, r1, fun n y z => by cases z⟩
    · obtain ⟨mA, hns, hr⟩ := (show ObjOk X.prog X.w H s.heap d1 (.xd fs) from I.hok d1 _ (o.ex _ _ hd))
      obtain ⟨od, ho, hl⟩ := lookIn_ns hns
      refine ⟨q, oe, some od, fs, rfl, ⟨g1, g2, nc, by rw [g3]; exact ho⟩, r1, fun n y z => ?_⟩
      obtain ⟨u, hu, ru⟩ := RelO.some_of (v := y) (o := mA n) (by rw [← z]; exact hr n)
      exact ⟨u, od, rfl, ru, by rw [hl, hu]⟩
/-- what a caught error is: of the classes subs, by the classes L that may come -/
def isiE (L subs : List Addr) : D → Option Bool
  | .exn C _ => if C ∈ L then some (decide (C ∈ subs)) else none
  | d => if plain d = true then some false else none
theorem isiE_inv {L subs : List Addr} {d : D} {t : Bool} (h : isiE L subs d = some t) : (∃ C gs, d = .exn C gs ∧ C ∈ L ∧ t = decide (C ∈ subs)) ∨ (plain d = true ∧ t = false) := by
  have pl : ∀ {d : D}, (if plain d = true then some false else none) = some t → plain d = true ∧ t = false := by
    intro d h
    split at h
    · rename_i q; cases h; exact ⟨q, rfl⟩
    · cases h
  cases d with
  | exn C gs =>
    have h : (if C ∈ L then some (decide (C ∈ subs)) else none) = some t := h
    split at h
    · rename_i q; cases h; exact .inl ⟨C, gs, rfl, q, rfl⟩
    · cases h
  | _ => exact .inr (pl h)
/-- isinstance(o, c) -/
theorem cd_isiE {d : D} {cd : D} {cv : Value} {L subs : List Addr} {t : Bool} (hT : ∀ C ∈ L, ExcC X.K C) (hk : ∀ C ∈ L, PySem.W.kitOne X.K (.ref C) cv = some (decide (C ∈ subs))) (hp : ∀ n ∈ ["NoneType", "bool", "int", "str", "tuple", "list", "dict"], PySem.W.kitOne X.K (.type n) cv = some false)
    (hc : ∀ F v, Rp X.K F v cd → ClsV v cv) (h : isiE L subs d = some t) (q : P (.bl t) M) : CD X (.builtin "isinstance") [d, cd] M P :=
  ⟨fun vs H Q => ∃ F, Ok X.K F M H ∧ Rps X.K F vs [d, cd] ∧ Kt X.K F P Q, fun pins s σ H xs us Q I r ⟨F, o, rd, kt⟩ => (by
    cases rd with
    | cons rd rn =>
      cases rn with
      | cons rc rn =>
        cases rn
        obtain ⟨u1, u2, rfl, r1, r2⟩ := vals2 r
        have cl := hc _ _ rc
        have e2 : u2 = cv := cl.eq r2
        subst e2
        rcases isiE_inv h with ⟨C, gs, rfl, hC, rfl⟩ | ⟨hpl, rfl⟩
        · obtain ⟨q1, ox, od, fs, rfl, J0, _, _⟩ := exn_inst I o rd
          obtain rfl : u1 = Value.ref q1 := r1
          exact PySem.W.kia_one (kitE (hT C hC)) I.kIn ⟨ox, od, J0⟩ (hk C hC) (fun z => nomatch z) fun tk => ⟨.bl _, H, I.tok tk, rfl, kt.here q o (.bl _)⟩
        · obtain ⟨Pk, kx, hp1, hx⟩ := kit_of I r1 (ty_of hpl o.ex rd)
          exact PySem.W.kia_one kx I.kIn hp1 (hp _ (kn_mem _)) hx fun tk => ⟨.bl _, H, I.tok tk, rfl, kt.here q o (.bl _)⟩), fun F H vs Q o r kt => ⟨F, o, r, kt⟩⟩
end
end DX
namespace DX
open PySem PySem.Spec L2 PyProof.Rows StX
theorem flyZ {base h h' : Heap} {l : List PySem.Env} {e : Addr} {Z : Obj → Prop} (x : HandSPX.FlyingZ base l e Z h) (k : ∀ b o, h.get? b = some o → h'.get? b = some o) : HandSPX.FlyingZ base l e Z h' := by
  obtain ⟨f1, f2, f3, oe, vs, T, oT, ts, he, hz, hd, h1, hn, hne, hT, hdT, h3⟩ := x
  exact ⟨fun b o q => k b o (f1 b o q), f2, f3.of_keeps fun b o q _ => ⟨o, k b o q, rfl⟩, oe, vs, T, oT, ts, k _ _ he, hz, hd, h1, hn, hne, k _ _ hT, hdT, h3⟩
/-- what an except clause asks: of which classes -/
def ExT (X : Cx) (t : Expr) (cs : List Value) : Prop := ∀ (a : Addr) (pins : List (Addr × Obj)) (σ : L2.St) (H : Hp) (s : Shared) (e : Addr) (cls : Value) (b : Bool) (Q : Bool → Shared → Prop) (E : Value → Shared → Prop),
  L2.Inv { X with A := X.A.mark (some (.ref a)), calm := false, xe := fun _ _ => False } pins σ H s → PySem.W.Looks (model X.prog X.w) s.heap (typeOf (.ref e)) cls → PySem.W.exmAny X.K cls cs = some b →
  (∀ h', (∀ q o, s.heap.get? q = some o → h'.get? q = some o) → Q b { s with heap := h' }) →
  wpAny (model X.prog X.w) (X.A.mark (some (.ref a))) (eval t X.env) (fun c s1 => wpAny (model X.prog X.w) (X.A.mark (some (.ref a))) (excMatches (.ref e) c) Q E s1) E s
section
variable {X : Cx} {x1 x2 x3 : Str} {C1 C2 C3 : Addr} {p1 p2 p3 tpos : Pos} {kk : Nat}
theorem exT3 (g1 : Gl X x1) (m1 : X.mg x1 = some (.ref C1)) (g2 : Gl X x2) (m2 : X.mg x2 = some (.ref C2)) (g3 : Gl X x3) (m3 : X.mg x3 = some (.ref C3)) (d1 : (x1 == ("__debug__" : Str)) = false := by decide) (d2 : (x2 == ("__debug__" : Str)) = false := by decide) (d3 : (x3 == ("__debug__" : Str)) = false := by decide) :
    ExT X (.Tuple [.Name x1 p1, .Name x2 p2, .Name x3 p3] kk tpos) [.ref C1, .ref C2, .ref C3] := by
  intro a pins σ H s e cls b Q E I LT hx k
  refine wpAny_Tuple (wpAny_items_cons (ld_glob (X := { X with A := X.A.mark (some (.ref a)), calm := false, xe := fun _ _ => False }) I g1 m1 ?_ d1))
  refine wpAny_items_cons (ld_glob (X := { X with A := X.A.mark (some (.ref a)), calm := false, xe := fun _ _ => False }) I g2 m2 ?_ d2)
  refine wpAny_items_cons (ld_glob (X := { X with A := X.A.mark (some (.ref a)), calm := false, xe := fun _ _ => False }) I g3 m3 ?_ d3)
  refine wpAny_items_nil ⟨by size_fits, ?_⟩
  have up : ∀ q o, s.heap.get? q = some o → (s.heap.push { cls := .type "tuple", data := .seq [Value.ref C1, Value.ref C2, Value.ref C3].toArray }).get? q = some o := fun _ _ z => Heap.get?_push_of_some _ z
  exact (PySem.W.exm_tup3 (I.kIn.keeps up) (LT.keeps up) (Heap.get?_push_size s.heap rfl) hx).here (k _ up)
end
/-- the suite's context: the error stands as a thing of ours -/
abbrev sui (X : Cx) (a : Addr) : Cx := { X with A := X.A.mark (some (.ref a)), calm := false, xe := fun _ _ => False }
section
variable {X : Cx} {J : Gh} {ρ : DEnv} {M : Mem} {F H : Hp} {σ : L2.St} {s : Shared} {pins : List (Addr × Obj)} {B : Bd} {RR : Addr → List (Str × D) → DEnv → Mem → Prop} {a C : Addr} {d : Option Addr}
theorem toSui (I : L2.Inv X pins σ H s) : L2.Inv (sui X a) pins σ H s :=
  ⟨⟨I.ok.mod, I.ok.kind, I.ok.glob, I.ok.blt, I.ok.above, I.ok.inj, I.ok.has, I.ok.cab, (fun z => absurd (show false = true from z) Bool.false_ne_true), I.ok.frames, I.ok.stk, I.ok.exf, I.ok.bs, I.ok.bsz, I.ok.noex, I.ok.exfs, I.ok.funs, I.ok.frf⟩,
    I.os, I.bare, I.base, I.loc, I.cell, I.free, I.freeC, I.pin, I.hok, I.len⟩
theorem ofSui (I : L2.Inv (sui X a) pins σ H s) (ok : X.Ok) : L2.Inv X pins σ H s := ⟨ok, I.os, I.bare, I.base, I.loc, I.cell, I.free, I.freeC, I.pin, I.hok, I.len⟩
theorem exH_ok {P : Program} {w : World} {H' : Hp} {h : Heap} {oe : Obj} {vs : Array Value} (e : h.get? a = some oe) (hc : oe.cls = .ref C) (hd : oe.dict = d) (hv : oe.data = .fields vs) : ObjOk P w H' h a (exH a C d) :=
  ⟨⟨oe, vs, e, hc, hd, hv⟩, ⟨_, e⟩, fun h1 h2 ⟨oe, vs, e, z⟩ k => ⟨oe, vs, k _ e, z⟩⟩
/-- an object that was not there at the beginning becomes one of ours -/
theorem adopt {oe : Obj} {vs : Array Value} (I : L2.Inv X pins σ H s) (e : s.heap.get? a = some oe) (hc : oe.cls = .ref C) (hd : oe.dict = d) (hv : oe.data = .fields vs) (na : H a = none) (n0 : X.s_0.heap.get? a = none) (nL : a ≠ X.env.locals) (np : ∀ p ∈ X.pn ++ pins, p.1 ≠ a) :
    L2.Inv X pins σ (upd H a (exH a C d)) s := by
  refine ⟨I.ok, I.os, I.bare, ⟨fun b o z n hf hx => I.base.keep b o z n hf hx, fun b o z n hf hx => I.base.slot b o z n hf hx, fun b o z n hx => ?_, fun b o z hx => I.base.there b o z hx, fun b xs z => ?_, fun b o u z => ?_, fun b ps z => ?_⟩, I.loc, I.cell, ?_, fun y c z => ?_, fun p hp => ?_, fun b o z => ?_, I.len⟩
  · have : b ≠ a := fun q => by rw [q, n0] at z; cases z
    rw [upd_ne this]; exact I.base.free b o z n hx
  · have := I.base.tups b xs z
    rw [upd_ne (ne_of_none this na)]; exact this
  · have := I.base.frzs b o u z
    rw [upd_ne (ne_of_none this na)]; exact this
  · obtain ⟨more, q⟩ := I.base.tbls b ps z
    exact ⟨more, by rw [upd_ne (ne_of_none q na)]; exact q⟩
  · rw [upd_ne (Ne.symm nL)]; exact I.free
  · obtain ⟨v, oc, ho, hcl⟩ := I.cell y c z
    have : c ≠ a := fun q => by
      rw [q, e] at ho; cases ho
      rw [hv] at hcl; cases hcl
    rw [upd_ne this]; exact I.freeC y c z
  · obtain ⟨h1, h2, h3⟩ := I.pin p hp
    exact ⟨h1, by rw [upd_ne (np p hp)]; exact h2, h3⟩
  · rcases Decidable.em (b = a) with rfl | hb
    · rw [upd_same] at z; cases z
      exact exH_ok e hc hd hv
    · rw [upd_ne hb] at z
      exact (I.hok b o z).stay (fun _ _ _ q => q) (fun c q => by rw [upd_ne (ne_of_none q na)]; exact q) fun c xs q => by rw [upd_ne (ne_of_none q na)]; exact q
end
end DX
namespace DX
open PySem PySem.Spec L2 PyProof.Rows StX
section
variable {X : Cx} {J : Gh} {ρ : DEnv} {M : Mem} {B : Bd} {RR : Addr → List (Str × D) → DEnv → Mem → Prop}
def Bd.cuts (B : Bd) (i : Nat) : Bd := ⟨fun ρ' M' => B.nx (cut ρ' i) M', B.rt, fun ρ' M' => B.bk (cut ρ' i) M', fun ρ' M' => B.ct (cut ρ' i) M'⟩
/-- what the body may let out -/
def RTry (X : Cx) (cs : List Value) (i : Nat) (suite : List Stmt) (B : Bd) (RR : Addr → List (Str × D) → DEnv → Mem → Prop) : Addr → List (Str × D) → DEnv → Mem → Prop :=
  fun C gs ρ' M' => ∃ b, PySem.W.exmAny X.K (.ref C) cs = some b ∧ (b = true → ∀ (a : Addr) (J2 : Gh), GX (sui X a) J2 suite (put ρ' i (.exn C gs)) M' (B.cuts i)) ∧ (b = false → RR C gs ρ' M')
theorem g1_try {n : Str} {cs : List Value} {t : Expr} {body suite : List Stmt} {b₀ : Stmt} {pos hp : Pos} (i : Nat) (L : Lets X J RR) (ht : ExT X t cs)
    (hb : ∀ (pn : List (Addr × Obj)) (xe : Value → Shared → Prop) (J2 : Gh), (∀ F, J2.p F → J.p F) → Lets (X.tr pn xe) J2 (RTry X cs i (b₀ :: suite) B RR) → PassesOwn (model X.prog X.w) X.A X.env xe → GX (X.tr pn xe) J2 body ρ M B)
    (hs : X.stack = X.env :: X.outer := by rfl) (hf : X.env.frame = some X.env.locals := by rfl) (hex : X.ex = [] := by rfl) (hN : X.N.Nodup) (hi : X.N[i]? = some n := by rfl) (hln : X.env.kindOf n = some .local := by rfl) :
    G1 X J (.Try body [.ExceptHandler (some t) (some n) (b₀ :: suite) hp] [] [] pos) ρ M B := by
  obtain ⟨W0, tk0, hW0⟩ := L.ex
  refine ⟨fun pins s σ H D I ⟨F, st, kd⟩ => ?_⟩
  have ok := I.ok
  have hfr : X.A.frames = some (X.env :: X.outer) := by rw [ok.frames, hs]
  have hloc : Loc X.env.scope n := .inl hln
  refine wpAny_Try_except ?_
  -- the ghost: F stands, and what J says
  let J2 : Gh := ⟨fun F' => Same F F' ∧ J.p F', fun F1 F2 e q => ⟨q.1.trans e, J.mono _ _ e q.2⟩⟩
  let W : L2.WX := fun cls d σ' H' => ∃ F' ρ' M' C gs, Sts X.K J2 F' σ' H' ρ' M' ∧ ExR X.K F' C gs cls d ∧ RTry X cs i (b₀ :: suite) B RR C gs ρ' M'
  have body_ := fun (tk : Takes (X.tr (X.pn ++ pins) (fun e s₁ => wpAny (model X.prog X.w) X.A (noteFrame e X.env) (fun _ s₂ => wpAny (model X.prog X.w) X.A (setFlight e none) (fun _ s₃ =>
      wpAny (model X.prog X.w) X.A (handleBy e X.env [.ExceptHandler (some t) (some n) (b₀ :: suite) hp]) (SP X pins D) X.xe s₃) X.xe s₂) X.xe s₁)) W) =>
    (hb (X.pn ++ pins) _ J2 (fun F' q => q.2) ⟨W, tk, fun cls d σ' H' F' ρ' M' C gs st' x r => ⟨F', ρ', M', C, gs, st', x, r⟩⟩ PassesOwn.looking).run [] s σ H D (I.toTry _) ⟨F, ⟨st.en, st.ok, ⟨Same.refl F, st.gh⟩⟩, kd⟩
  refine wpAny_mono (body_ fun u s' xx => ?_) (fun f s1 hsp => ?_) (fun e s1 he => he)
  · obtain ⟨a, Bh, sI, pins', σ', H', cls, d, rfl, J', nb, up, sky, na, os, ag, F', ρ', M', C, gs, st', x, b, hb1, hyes, hno⟩ := xx
    have Jn : L2.Inv X pins σ' H' sI := J'.ofTry ok
    have sky' : Sky Bh (X.env :: X.outer) a (Zc cls d) X.env.locals s'.heap := by rw [← hs]; exact sky
    show wpAny (model X.prog X.w) X.A (noteFrame (.ref a) X.env) _ _ _
    refine Sky.land Zc.steady hfr hf sky' fun h3 fl3 up3 => ?_
    have J3 : L2.Inv X pins σ' H' { s' with heap := h3 } := Jn.landed nb fl3.1 (up.trans up3) os ag
    obtain ⟨oe3, vs3, he3, hz3, hd3⟩ := fl3.there
    have farF : ∀ {h : Heap} {o : Obj} {vs : Array Value}, h.FunFrames Bh (X.env :: X.outer) → h.get? a = some o → o.data = .fields vs → a ∉ frs (X.env :: X.outer) := fun ff e dd hm => by
      obtain ⟨_, o', e', hnf⟩ := ff.mem hm
      rw [e] at e'; cases e'
      exact hnf _ dd
    have nfr := farF fl3.2.2.1 he3 hd3
    have nL : a ≠ X.env.locals := fun z => nfr (List.mem_filterMap.mpr ⟨X.env, List.mem_cons_self, by rw [hf, z]⟩)
    have nI : sI.heap.get? a = none := by
      cases q : sI.heap.get? a with
      | none => rfl
      | some o =>
        have := nb a o q (by rw [hs]; exact nfr)
        rw [fl3.2.1] at this; cases this
    have n0 : X.s_0.heap.get? a = none := by
      cases q : X.s_0.heap.get? a with
      | none => rfl
      | some o =>
        have hx : a ∉ X.ex := fun m => by rw [hex] at m; cases m
        obtain ⟨o', q'⟩ := Jn.base.there a o q hx
        rw [nI] at q'; cases q'
    have np : ∀ p ∈ X.pn ++ pins, p.1 ≠ a := fun p hp z => by
      have := (Jn.pin p hp).1
      rw [z, nI] at this; cases this
    refine wpAny_handleBy_cons (codeAny_handlers_test ?_) (by intro q; cases q)
    have LT : PySem.W.Looks (model X.prog X.w) h3 (typeOf (.ref a)) cls := fun A Q E s k q => wpAny_typeOf_ref (k _ _ he3) (by rw [hz3.1]; exact q)
    have hcls : cls = .ref C := x.1
    have hb1 : PySem.W.exmAny X.K cls cs = some b := by rw [hcls]; exact hb1
    refine ht a pins σ' H' _ a cls b _ _ (toSui J3) LT hb1 fun h4 kp => ?_
    have J4 : L2.Inv X pins σ' H' { s' with heap := h4 } := J3.kept (t' := s'.toks) kp
    have fl4 := flyZ fl3 kp
    cases b with
    | true =>
      refine codeAny_handlers_suite_as ?_
      refine HandSPX.lands_againZ fl4 fun h5 fl5 up5 => ?_
      have J5 : L2.Inv X pins σ' H' { s' with heap := h5 } := Jn.landed nb fl5.1 (((up.trans up3).trans (Heap.UpToSlots.of_keeps kp)).trans up5) os ag
      obtain ⟨oe5, vs5, he5, hz5, hd5⟩ := fl5.there
      have A5 := adopt (C := C) (d := d) J5 he5 (by rw [hz5.1, hcls]) hz5.2 hd5 na n0 nL np
      refine store_ok (X := sui X a) (v := .ref a) (toSui (a := a) A5) hN hi hloc rfl (fun s5 S5 => ?_) (.inr hln)
      have sm := st'.ok.fixSame (o := exH a C d) na
      have rp : Rp X.K (upd F' a (exH a C d)) (.ref a) (.exn C gs) := by
        rcases x.2 with ⟨rfl, rfl⟩ | ⟨dd, fs, rfl, hdd, rf⟩
        · exact .exn (fs := []) upd_same (.inl ⟨rfl, rfl⟩) .nil
        · exact .exn upd_same (.inr ⟨dd, rfl, sm _ _ hdd⟩) (rf.mono sm)
      have suite_ := hyes rfl a J
      have kd' : Kd X.K (upd F' a (exH a C d)) (B.cuts i) { nx := fun σ' H' => D.nx (σ'.set i none) H', rt := D.rt, bk := fun σ' H' => D.bk (σ'.set i none) H', ct := fun σ' H' => D.ct (σ'.set i none) H' } := by
        have e0 : Same F (upd F' a (exH a C d)) := st'.gh.1.trans sm
        exact ⟨fun F2 σ2 H2 ρ2 M2 q e en o => kd.nx F2 _ H2 _ M2 q (e0.trans e) (en.cut i) o, kd.rt.to e0, fun F2 σ2 H2 ρ2 M2 q e en o => kd.bk F2 _ H2 _ M2 q (e0.trans e) (en.cut i) o, fun F2 σ2 H2 ρ2 M2 q e en o => kd.ct F2 _ H2 _ M2 q (e0.trans e) (en.cut i) o⟩
      refine wpAny_mono (suite_.run pins s5 _ _ _ S5 ⟨upd F' a (exH a C d), ⟨(st'.en.mono sm).put i rp, st'.ok.fix na, J.mono _ _ sm st'.gh.2⟩, kd'⟩) (fun f s6 hsp => ?_) (fun _ _ z => False.elim z)
      have end_ : ∀ {σ6 : L2.St} {H6 : Hp} {Q : Shared → Prop}, L2.Inv (sui X a) pins σ6 H6 s6 → (∀ s7, L2.Inv X pins (σ6.set i none) H6 s7 → Q s7) → wpAny (model X.prog X.w) X.A (do bindName X.env n .none; unbindBehindTheSuite X.env n hp) (fun _ s7 => Q s7) X.xe s6 := fun S6 hq => gone_ok (ofSui S6 ok) hN hi hln hq
      cases f with
      | next =>
        obtain ⟨σ6, H6, S6, q6⟩ := hsp
        exact end_ S6 fun s7 J7 => ⟨_, _, J7, q6⟩
      | brk =>
        obtain ⟨σ6, H6, S6, q6⟩ := hsp
        exact end_ S6 fun s7 J7 => ⟨_, _, J7, q6⟩
      | cont =>
        obtain ⟨σ6, H6, S6, q6⟩ := hsp
        exact end_ S6 fun s7 J7 => ⟨_, _, J7, q6⟩
      | ret u =>
        obtain ⟨v6, σ6, H6, S6, r6, q6⟩ := hsp
        exact end_ S6 fun s7 J7 => ⟨_, _, _, J7, r6, q6⟩
    | false =>
      show wpAny _ X.A (handleBy (.ref a) X.env []) _ _ _
      refine wpAny_handleBy_nil ?_
      obtain ⟨k1, k2, k3, oe, vs, T, oT, ts', he, hz, hd, h1, hr⟩ := id fl4
      unfold PySem.passOn
      refine wpAny_bind (wpAny_field he hd h1 ?_)
      rw [if_neg (show ¬ ((Value.ref T == Value.none) = true) from by simp)]
      have up4 := (up.trans up3).trans (Heap.UpToSlots.of_keeps kp)
      have fin : wpAny (model X.prog X.w) X.A (setFlight (.ref a) X.env.frame) (fun _ s4 => wpAny (model X.prog X.w) X.A (throw (.ref a) : Sem Flow) (SP X pins D) X.xe s4) X.xe { s' with heap := h4 } := by
        rw [hf]
        refine HandSPX.setFlight_upZ fl4 fun h5 hh5 up5 => wpAny_throw (tk0 _ _ ?_)
        exact ⟨a, Bh, sI, pins, σ', H', cls, d, rfl, Jn, nb, up4.trans up5, .inr (.inr (by rw [hs]; exact hh5)), na, os, ag, hW0 _ _ _ _ _ _ _ _ _ ⟨st'.en, st'.ok, st'.gh.2⟩ x (hno rfl)⟩
      first
        | exact wpAny_bind (wpAny_pure (wpAny_bind fin))
        | exact wpAny_bind fin
  · cases f with
    | next =>
      obtain ⟨σ', H', J', q⟩ := hsp
      exact wpAny_execs_nil ⟨σ', H', J'.ofTry ok, q⟩
    | brk =>
      obtain ⟨σ', H', J', q⟩ := hsp
      exact ⟨σ', H', J'.ofTry ok, q⟩
    | cont =>
      obtain ⟨σ', H', J', q⟩ := hsp
      exact ⟨σ', H', J'.ofTry ok, q⟩
    | ret u =>
      obtain ⟨v, σ', H', J', r, q⟩ := hsp
      exact ⟨v, σ', H', J'.ofTry ok, r, q⟩
end
end DX
namespace DX
open PySem PySem.Spec L2 PyProof.Rows StX
abbrev Er := Addr × List (Str × D)
def exC {A B : Type} (r : Except Er A) (ke : Er → Option B) (kv : A → Option B) : Option B := match r with
  | .error e => ke e
  | .ok v => kv v
def resX {A : Type} (r : Except Er A) (p : A → Prop) (q : Er → Prop) : Prop := match r with
  | .error e => q e
  | .ok v => p v
theorem exc_i {A B : Type} {r : Except Er A} {ke : Er → Option B} {kv : A → Option B} {o : B} {p : A → Prop} {q : Er → Prop} (hF : exC r ke kv = some o) (h1 : ∀ e, r = .error e → ke e = some o → q e) (h2 : ∀ v, r = .ok v → kv v = some o → p v) : resX r p q := by
  cases r with
  | error e => exact h1 e rfl hF
  | ok v => exact h2 v rfl hF
/-- an instance of the class C -/
def isC (C : Addr) : D → Option (List (Str × D))
  | .ins C' gs => if C' = C then some gs else none
  | _ => none
theorem isC_eq {C : Addr} {d : D} {gs : List (Str × D)} (h : isC C d = some gs) : d = .ins C gs := by
  unfold isC at h
  split at h
  · split at h
    · rename_i q; cases h; rw [q]
    · cases h
  · cases h
/-- an instance of the class C that has no field m of its own -/
def mthC (C : Addr) (m : Str) (d : D) : Option (List (Str × D)) := (isC C d).bind fun gs => if gs.lookup m = none then some gs else none
theorem mthC_eq {C : Addr} {m : Str} {d : D} {gs : List (Str × D)} (h : mthC C m d = some gs) : d = .ins C gs ∧ gs.lookup m = none := by
  unfold mthC at h
  obtain ⟨g, h1, h2⟩ := Option.bind_eq_some_iff.mp h
  split at h2
  · rename_i q; cases h2; exact ⟨isC_eq h1, q⟩
  · cases h2
def insA : D → Option Unit
  | .ins _ _ => some ()
  | _ => none
theorem insA_eq {d : D} (h : insA d = some ()) : ∃ C gs, d = .ins C gs := by
  cases d with
  | ins C gs => exact ⟨C, gs, rfl⟩
  | _ => cases h
def blD : D → Option Bool
  | .bl b => some b
  | _ => none
def natD : D → Option Int
  | .int i => if 0 ≤ i ∧ i < 2 ^ 63 then some i else none
  | _ => none
def txtD : D → Option Str
  | .str y => some y
  | _ => none
/-- the other side of a comparison -/
def othD (L : List Addr) (d : D) : Option Unit := if plain d = true then some () else match d with
  | .ins C _ => if C ∈ L then some () else none
  | _ => none
/-- isinstance(o, C), C an own class that is no error -/
def isiC (C : Addr) (d : D) : Option Bool := match d with
  | .ins C' _ => if C' = C then some true else none
  | d => if plain d = true then some false else none
section
variable {X : Cx} {M : Mem} {P : D → Mem → Prop}
end
/-- a field of a caught error of one of the classes L -/
def xflD (L : List Addr) (f : Str) : D → Option D
  | .exn C gs => if C ∈ L then gs.lookup f else none
  | _ => none
theorem xflD_eq {L : List Addr} {f : Str} {d z : D} (h : xflD L f d = some z) : ∃ C gs, d = .exn C gs ∧ C ∈ L ∧ gs.lookup f = some z := by
  unfold xflD at h
  split at h
  · split at h
    · rename_i C gs q; exact ⟨C, gs, rfl, q, h⟩
    · cases h
  · cases h
theorem ifS {p : Prop} [Decidable p] {B : Type} {x : Option B} {o : B} (h : (if p then x else none) = some o) : p ∧ x = some o := by
  split at h
  · rename_i q; exact ⟨q, h⟩
  · cases h
section
variable {X : Cx} {J : Gh} {e : Expr} {ρ : DEnv} {M : Mem} {pos : Pos} {f : Str} {P : D → Mem → Prop}
theorem ex_xflL {L : List Addr} (hL : ∀ C ∈ L, XfC X.K C ∧ PySem.W.findIn X.K (.ref C) f = some none) (h : EX X J e ρ M fun d M1 => ∃ z, xflD L f d = some z ∧ P z M1) (hb : attributeBase e f X.env (eval e X.env) = eval e X.env := by rfl) : EX X J (.Attribute e f pos) ρ M P := by
  refine ⟨fun pins s σ H Q I ⟨F, st, kt⟩ => ?_⟩
  refine attr_of hb (thn ((pe_any (X := X) (e := e)).run pins s σ H (fun v H1 => ∃ F1 M1 d, Same F F1 ∧ Ok X.K F1 M1 H1 ∧ Rp X.K F1 v d ∧ ∃ z, xflD L f d = some z ∧ P z M1) I (h.go st fun d v M1 F1 H1 q e1 o1 r1 => ⟨F1, M1, d, e1, o1, r1, q⟩)) fun u s1 ⟨v, H1, I1, rv, F1, M1, d, e1, o1, rd, y, hy, q⟩ => ?_)
  obtain ⟨C, gs, rfl, hC, hl⟩ := xflD_eq hy
  obtain ⟨T, hno⟩ := hL C hC
  obtain ⟨q1, ox, od, fs, rfl, J0, r2, look⟩ := exn_inst I1 o1 rd
  obtain rfl : u = Value.ref q1 := rv
  rcases r2.look (f := f) with ⟨_, h4⟩ | ⟨v', d', h3, h4, h5⟩
  · rw [h4] at hl; cases hl
  · rw [h4] at hl; cases hl
    obtain ⟨u, o', rfl, ru, hu⟩ := look f v' h3
    exact HandSPX.exc_get I1.kIn J0 T.ga T.gg T.exC (PySem.W.findObj_own T.hdC hno rfl hu) (handed_of ru) ⟨v', H1, I1.tok _, ru, kt _ _ _ _ _ q e1 o1 h5⟩
/-- e.f, a field of an instance of C -/
theorem ex_fldC {C : Addr} (c : Cls X.K C) (n : NoAttr X.K C f) (h : EX X J e ρ M fun d M1 => ∃ dx gs z, Iw M1 d dx ∧ isC C dx = some gs ∧ gs.lookup f = some z ∧ P z M1) (hb : attributeBase e f X.env (eval e X.env) = eval e X.env := by rfl) : EX X J (.Attribute e f pos) ρ M P :=
  ex_fld (h.imp fun d M1 q => by
    obtain ⟨dx, gs, z, w, h1, h2, q⟩ := q
    rw [isC_eq h1] at w
    exact ⟨C, gs, z, w.is, c, n, h2, q⟩) hb
/-- e.f, a constant of the class C -/
theorem ex_conC {C : Addr} {y : D} (c : Cls X.K C) (hc : ∃ v u, Con X.K C f v u ∧ ∀ F, Rp X.K F v y) (h : EX X J e ρ M fun d M1 => ∃ dx gs, Iw M1 d dx ∧ mthC C f dx = some gs ∧ P y M1) (hb : attributeBase e f X.env (eval e X.env) = eval e X.env := by rfl) : EX X J (.Attribute e f pos) ρ M P :=
  ex_con (h.imp fun d M1 q => by
    obtain ⟨dx, gs, w, h1, q⟩ := q
    obtain ⟨h2, h3⟩ := mthC_eq h1
    rw [h2] at w
    obtain ⟨v, u, k1, k2⟩ := hc
    exact ⟨C, gs, v, u, y, w.is, c, k1, h3, k2, q⟩) hb
/-- a class by its name -/
theorem ex_cls {C : Addr} {x : Str} (hm : X.mg x = some (.ref C)) (q : P (.adr C) M) (hg : Gl X x := by rfl) (hd : (x == ("__debug__" : Str)) = false := by decide) : EX X J (.Name x pos) ρ M P := ex_glob (v := .ref C) hg hm rfl (fun F => .adr C) q hd
end
structure ErrC (newId : String) (bmB : List Value) (K : PySem.W.Frag) (C : Str) : Prop where
  oex : OexG newId bmB K (He.ga K C)
  ini : PySem.W.findIn K (.ref (He.ga K C)) "__init__" = some (some (.ref (He.fAd K (C, some "__init__"))))
  fn : PySem.W.typeIn K (.ref (He.fAd K (C, some "__init__"))) = some (.type "function")
theorem oexB_ok {newId : String} {bmB : List Value} {K : PySem.W.Frag} {C : Addr} (h : oexB newId bmB K C = true) : OexG newId bmB K C := by
  obtain ⟨h1, h⟩ := He.ba h
  obtain ⟨h2, h⟩ := He.ba h
  obtain ⟨h3, h⟩ := He.ba h
  obtain ⟨h4, h⟩ := He.ba h
  obtain ⟨h5, h⟩ := He.ba h
  obtain ⟨h6, h7⟩ := He.ba h
  refine ⟨?_, He.eqO_ok h2, of_decide_eq_true h3, of_decide_eq_true h4, h5, h6, h7⟩
  unfold PySem.W.excInitIn at h1
  split at h1
  · rename_i dd cd sl ho
    split at h1
    · rename_i C' bm k0 k1 k2 k3 n k5 hm hs
      simp only [Bool.and_eq_true, beq_iff_eq, Bool.not_eq_true'] at h1
      obtain ⟨⟨⟨rfl, rfl⟩, hdel⟩, tl⟩ := h1
      obtain ⟨cd2, hc2, hd2⟩ := PySem.W.any_some h7
      unfold PySem.W.clsIn at hc2
      rw [ho] at hc2
      obtain rfl : cd = cd2 := Option.some.inj hc2
      obtain ⟨nm, bs, mro, ns, qn, hd, sn, sub, ab, col, del⟩ := cd
      dsimp only at hm hdel hd2
      subst hm hdel hd2
      have hsl : sl = #[k0, k1, k2, k3, some (.builtin n), k5] := by
        obtain ⟨l⟩ := sl
        dsimp only at hs
        rw [hs]
      subst hsl
      exact ⟨nm, qn, ns, bs, bm, sn, sub, ab, col, dd, k0, k1, k2, k3, k5, ho, tl⟩
    · cases h1
  · cases h1
theorem errB_ok {newId : String} {bmB : List Value} {K : PySem.W.Frag} {C : Str} (h : errB newId bmB K C = true) : ErrC newId bmB K C := by
  obtain ⟨h1, h⟩ := He.ba h
  obtain ⟨h2, h3⟩ := He.ba h
  exact ⟨oexB_ok h1, He.eqO_ok h2, of_decide_eq_true h3⟩
theorem allB_ok {K : PySem.W.Frag} {L : List Str} {p : Addr → Bool} {q : Addr → Prop} (h : allB K L p = true) (hp : ∀ C, p C = true → q C) : ∀ C ∈ L.map (Zk K), q C := fun C hC => by
  obtain ⟨x, hx, rfl⟩ := List.mem_map.mp hC
  exact hp _ (List.all_eq_true.mp h x hx)
theorem excB_ok {K : PySem.W.Frag} {C : Addr} (h : excB K C = true) : ExcC K C := by
  obtain ⟨h1, h⟩ := He.ba h
  obtain ⟨h2, h⟩ := He.ba h
  obtain ⟨h3, h⟩ := He.ba h
  obtain ⟨h4, h⟩ := He.ba h
  obtain ⟨h5, h⟩ := He.ba h
  obtain ⟨h6, h⟩ := He.ba h
  obtain ⟨h7, h8⟩ := He.ba h
  exact ⟨He.eqO_ok h1, He.eqO_ok h2, of_decide_eq_true h3, h4, He.eqO_ok h5, He.eqO_ok h6, of_decide_eq_true h7, of_decide_eq_true h8⟩
theorem excB_xf {K : PySem.W.Frag} {C : Addr} (h : excB K C = true) : XfC K C := by
  have T := excB_ok h
  exact ⟨T.hg, T.hk, T.hs, T.hd⟩
end DX
namespace DX
open PySem PySem.Spec L2 PyProof.Rows StX
theorem no_err {pg : Program} {w : World} {outer : List PySem.Env} {H : Hp} {s s' : Shared} {er : Value} (h : L2.CX pg w outer H s (fun _ _ _ => False) er s') : False := by
  obtain ⟨_, _, _, _, _, _, _, _, _, _, _, _, _, z⟩ := h
section
variable {X : Cx} {J : Gh} {e a b : Expr} {ρ : DEnv} {M : Mem} {pos p rpos : Pos} {f f1 f2 : Str} {B : Bd} {RR : Addr → List (Str × D) → DEnv → Mem → Prop} {newId : String} {bmB : List Value} {C : Str} {fd : FuncData} {qual : Str} {params : Arguments} {body : List Stmt} {scope : Scope} {s1 v1 v2 : Str}
/-- raise C(e) -/
theorem g1_rs1 (L : Lets X J RR) (hc : X.calm = true) (T : ErrC newId bmB X.K C) (Ba : Bas newId bmB) (F : FunD X.K "__init__" qual params body scope [] [] (He.fAd X.K (C, some "__init__")) fd) (S : FnScope [s1, v1] [s1, v1] scope)
    (hb : ∃ p1 p2 p3 p4, body = [.Assign [.Attribute (.Name s1 p1) f p2] (.Name v1 p3) p4]) (hno : PySem.W.findIn X.K (.ref (He.ga X.K C)) f = some none) (hr : Room 2 X.A) (hbi : L2.Binds X.K fd [s1, v1] []) (hm : X.mg C = some (.ref (He.ga X.K C)))
    (h : EX X J e ρ M fun d M1 => Rof RR ρ (He.ga X.K C) [(f, d)] M1) (hg : Gl X C := by rfl) (hdb : (C == ("__debug__" : Str)) = false := by decide)
    (he : starEach [e] X.env = (false, eval e X.env) :: starEach [] X.env := by rfl) (n1 : (s1 == ("__debug__" : Str)) = false := by decide) (n2 : (v1 == ("__debug__" : Str)) = false := by decide) (n3 : (s1 == ("__classdict__" : Str)) = false := by decide) (n4 : (v1 == ("__classdict__" : Str)) = false := by decide) :
    G1 X J (.Raise (some (.Call (.Name C p) [e] [] pos)) none rpos) ρ M B :=
  g1_raise1 (CX := L2.CX X.prog X.w) L hc T.oex Ba T.ini T.fn (init1 F S hb T.oex Ba hno n1 n2 n3 n4) hr hbi pass_no hm h hg hdb he
end
end DX
namespace DX
open PySem PySem.Spec L2 PyProof.Rows StX
theorem is_of {C : Addr} {d : D} {gs : List (Str × D)} {M : Mem} (h : isC C d = some gs) : Is M d C gs := by rw [isC_eq h]; exact .frz
theorem is_mt {C : Addr} {m : Str} {d : D} {gs : List (Str × D)} {M : Mem} (h : mthC C m d = some gs) : Is M d C gs := by rw [(mthC_eq h).1]; exact .frz
theorem retX {A : Type} {r : Except Er A} {v : A} {p : A → Prop} {q : Er → Prop} (h : Except.ok v = r) (k : resX r p q) : p v := by subst h; exact k
theorem errX {A : Type} {r : Except Er A} {e : Er} {p : A → Prop} {q : Er → Prop} (h : Except.error e = r) (k : resX r p q) : q e := by subst h; exact k
section
variable {X : Cx} {J : Gh} {e o : Expr} {ρ : DEnv} {M : Mem} {pos fp : Pos} {f : Str} {B : Bd}
theorem g1_setFldF (h : EX X J e ρ M fun y M1 => EX X J o ρ M1 fun d M2 => ∃ q C gs g, d = .adr q ∧ At M2 q (.ins C gs) g ∧ Cls X.K C ∧ NoAttr X.K C f ∧ gs.length < 1000 ∧ B.nx ρ (g (.ins C (putG f y gs))))
    (hs : swapsWith e (some (.Attribute o f fp)) pos.line X.env = pure false := by rfl) : G1 X J (.Assign [.Attribute o f fp] e pos) ρ M B :=
  g1_setFld (h.imp fun y M1 q => q.imp fun d M2 q => by
    obtain ⟨q, C, gs, g, h1, h2, h3, h4, h5, h6⟩ := q
    exact ⟨q, C, gs, h1, h2.get, h3, h4, h5, by rw [h2.set] at h6; exact h6⟩) hs
end
end DX
namespace DX
open PySem PySem.Spec L2 PyProof.Rows StX
section
variable {X : Cx} {J : Gh} {e a b o : Expr} {es : List Expr} {ρ : DEnv} {M M1 : Mem} {F F' H H' : Hp} {σ : L2.St} {K : PySem.W.Frag} {pos p : Pos} {f x : Str} {P : D → Mem → Prop}
def unl2 : D → Option (D × D)
  | .lst [a, b] => some (a, b)
  | _ => none
def unl3 : D → Option (D × D × D)
  | .lst [a, b, c] => some (a, b, c)
  | _ => none
def unl4 : D → Option (D × D × D × D)
  | .lst [a, b, c, d] => some (a, b, c, d)
  | _ => none
/-- repr of data, dicts among them -/
noncomputable def dReprR (d : D) : Option D := chk (shw d = true ∧ (pydR d).showable = true ∧ (pydR d).depth ≤ 60 ∧ (pydR d).shown.length ≤ 16000000) (.str (txtR d))
theorem cd_dReprR {d z : D} (hS : sysB X.K = true) (hg : X.A.guards = some []) (hu : X.A.units + 64 < cLine) (h : dReprR d = some z) (q : P z M) : CD X (.builtin "repr") [d] M P := by
  obtain ⟨⟨h1, h2, h3, h4⟩, rfl⟩ := chk_inv h
  exact cd_reprR hS hg hu ⟨h1, h2, h3, h4⟩ q
/-- what {..} shows -/
noncomputable def fmtD : D → Option Str
  | .str y => chk (y.length ≤ 1000000) y
  | .int i => chk (i.natAbs.log2 < 1920) (toString i)
  | _ => none
/-- the parts of an f-string -/
def JX (X : Cx) (J : Gh) (es : List Expr) (acc : Str) (ρ : DEnv) (M : Mem) (P : Str → Mem → Prop) : Prop :=
  ∀ F H σ Q, Sts X.K J F σ H ρ M → (∀ out M' F' H', P out M' → Same F F' → Ok X.K F' M' H' → Q out H') → tJs (es.map (tE X)) acc σ H Q
end
def cvalB (K : PySem.W.Frag) (C f : Str) (i : Int) : Bool := PySem.W.readsIn K (He.ga K C) (.type "type") && (He.eqO (PySem.W.specialIn K (.ref (He.ga K C)) "__getattribute__") (some (some (.builtin "type.__getattribute__"))) && match PySem.W.findCls K (.ref (He.ga K C)) (.type "type") f with
  | some (.val (.int j t)) => decide (j = i)
  | _ => false)
end DX
namespace DX
open PySem PySem.Spec L2 PyProof.Rows StX
noncomputable def dIsiT (ns : List String) (d : D) : Option Bool := chk (plain d = true) (ns.any fun m => isi m d)
theorem clsv_tys {K : PySem.W.Frag} {F : Hp} : ∀ {ns : List String} {vs : List V}, Rps K F vs (ns.map D.ty) → Paired ClsV vs (ns.map Value.type)
  | [], _, r => by cases r; exact .nil
  | n :: ns, _, r => by
    cases r with
    | cons a r => cases a; exact .cons (.ty _) (clsv_tys r)
section
variable {X : Cx} {M : Mem} {P : D → Mem → Prop}
theorem cd_isiTT {d : D} {ns : List String} {t : Bool} (hk : ∀ n ∈ ["NoneType", "bool", "int", "str", "tuple", "list", "dict"], PySem.W.kitAny X.K (.type n) (ns.map Value.type) = some (ns.any fun m => (n == m) || (n == "bool" && m == "int"))) (h : dIsiT ns d = some t) (q : P (.bl t) M) : CD X (.builtin "isinstance") [d, .tup (ns.map D.ty)] M P :=
  ⟨fun vs H Q => ∃ F, Ok X.K F M H ∧ Rps X.K F vs [d, .tup (ns.map D.ty)] ∧ Kt X.K F P Q, fun pins s σ H xs us Q I r ⟨F, o, rd, kt⟩ => (by
    obtain ⟨hpl, rfl⟩ := chk_inv h
    cases rd with
    | cons rd rn =>
      cases rn with
      | cons rc rn =>
        cases rn
        cases rc with
        | tup hq rcs =>
          obtain ⟨u1, u2, rfl, r1, r2⟩ := vals2 r
          obtain rfl : u2 = Value.ref _ := r2
          obtain ⟨its, rv, ⟨ob, g1, g2, n, g3⟩, _⟩ := I.tuple (same_t o.ex hq)
          have e2 : its = ns.map Value.type := ClsV.all (clsv_tys rcs) rv
          subst e2
          obtain ⟨oc, od0, dt, sl⟩ := ob
          dsimp only at g2 g3
          subst g2 g3
          obtain ⟨Pk, kx, hp1, hx⟩ := kit_of I r1 (ty_of hpl o.ex rd)
          exact PySem.W.kia_tup kx I.kIn hp1 g1 (hk _ (kn_mem _)) hx fun tk => ⟨.bl _, H, I.tok tk, rfl, kt.here q o (.bl _)⟩), fun F H vs Q o r kt => ⟨F, o, r, kt⟩⟩
end
def conSB (K : PySem.W.Frag) (C f x : Str) : Bool := match PySem.W.findIn K (.ref (He.ga K C)) f with
  | some (some (.str y t)) => decide (y = x) && He.eqO (PySem.W.specialIn K (.str y t) "__get__") (some none)
  | _ => false
def cvalSB (K : PySem.W.Frag) (C f x : Str) : Bool := PySem.W.readsIn K (He.ga K C) (.type "type") && (He.eqO (PySem.W.specialIn K (.ref (He.ga K C)) "__getattribute__") (some (some (.builtin "type.__getattribute__"))) && match PySem.W.findCls K (.ref (He.ga K C)) (.type "type") f with
  | some (.val (.str y t)) => decide (y = x)
  | _ => false)
end DX
namespace DX
open PySem PySem.Spec L2 PyProof.Rows StX LamX
theorem code_ref {K : PySem.W.Frag} {x : Str × Option Str} {cdv : Value} (h : CodeAt K (He.fAd K x) cdv) (hne : (ctA K x).1 ≠ (ctA K x).2) : cdv = .ref (ctA K x).1 := by
  obtain ⟨oc, od, osl, fd, lk, rfl⟩ := h
  unfold ctA at hne ⊢
  rw [lk] at hne ⊢
  cases hc : fd.code with
  | ref c =>
    simp only [hc] at hne ⊢
    cases h1 : K.lookup c with
    | none => simp only [h1] at hne; exact absurd rfl hne
    | some o =>
      obtain ⟨k1, k2, k3, k4⟩ := o
      simp only [h1] at hne ⊢
      cases k3 with
      | fields vs =>
        simp only at hne ⊢
        cases h2 : (vs[11]? : Option Value) with
        | none => simp only [h2] at hne; exact absurd rfl hne
        | some v =>
          simp only [h2] at hne ⊢
          cases v <;> first | rfl | exact absurd rfl hne
      | _ => exact absurd rfl hne
  | _ => simp only [hc] at hne; exact absurd rfl hne
theorem tab_ne {K : PySem.W.Frag} {x : Str × Option Str} {base : Heap} {mg : Str → Option Value} (h : TabB base mg (ctA K x).1 (ctA K x).2) : (ctA K x).1 ≠ (ctA K x).2 := by
  obtain ⟨_, _, _, _, _, _, _, _, _, _, _, _, _, _, _, _, _, _, n⟩ := h.code
  exact n
def TbM (K : PySem.W.Frag) (tl : TbL) (M : Mem) : Prop := ∀ x ∈ tl, M (ctA K x.1).2 = some (.tbl x.2)
theorem tbm_up {K : PySem.W.Frag} {tl : TbL} {M : Mem} {a : Addr} {d : D} (h : TbM K tl M) (n : M a = none) : TbM K tl (up M a d) := fun x hx => by
  have e := h x hx
  rw [up_ne (fun z => by rw [z, n] at e; cases e)]
  exact e
section
variable {K : PySem.W.Frag} {F H : Hp} {M : Mem}
/-- a table grows by a code object -/
theorem Ok.grow (k : Ok K F M H) {P c : Addr} {q : Str} {ps : Array Value} {p1 : Pos} (hM : M P = some (.tbl q)) (hP : H P = some (.tbl ps)) (hc : H c = none) :
    Same F (upd F c (CodeO c q)) ∧ Ok K (upd F c (CodeO c q)) M (upd (upd H P (.tbl (ps ++ #[rawInt p1.line, rawInt p1.col, .ref c]))) c (CodeO c q)) := by
  obtain ⟨nF, nM⟩ := k.nn hc
  have sm : Same F (upd F c (CodeO c q)) := same_new nF
  obtain ⟨fP, ps', hP', tr, ht⟩ := k.mt P _ hM
  rw [hP] at hP'; cases hP'
  have nPc : P ≠ c := ne_of_none hP hc
  refine ⟨sm, fun b u e => ?_, fun b d e => ?_⟩
  · by_cases hb : b = c
    · subst hb; rw [upd_same] at e ⊢; exact e
    · rw [upd_ne hb] at e ⊢
      rw [upd_ne (ne_of_none e fP)]
      exact k.ex b u e
  · have hb : b ≠ c := fun z => by rw [z, nM] at e; cases e
    obtain ⟨m1, m2⟩ := k.mt b d e
    refine ⟨by rw [upd_ne hb]; exact m1, ?_⟩
    by_cases hp : b = P
    · subst hp
      rw [hM] at e; cases e
      refine ⟨_, by rw [upd_ne hb, upd_same], ?_, fun pos cv z => ?_⟩
      · have el : (ps ++ #[rawInt p1.line, rawInt p1.col, Value.ref c]).toList = ps.toList ++ [rawInt p1.line, rawInt p1.col, .ref c] := by simp
        rw [el]; exact PySem.TriplesOk_snoc _ _ _ _ tr
      · have el : (ps ++ #[rawInt p1.line, rawInt p1.col, Value.ref c]).toList = ps.toList ++ [rawInt p1.line, rawInt p1.col, .ref c] := by simp
        rw [el] at z
        rcases among_app _ tr z with z | z
        · obtain ⟨c0, h1, h2⟩ := ht pos cv z
          exact ⟨c0, h1, sm _ _ h2⟩
        · exact ⟨c, z, upd_same⟩
    · exact m2.mono sm (by rw [upd_ne hb, upd_ne hp])
end
section
variable {X : Cx} {pins : List (Addr × Obj)} {σ : L2.St} {H F : Hp} {M : Mem} {s : Shared}
abbrev lamO (X : Cx) (params : Arguments) (body : Expr) (scope : Scope) (pm : Value) (c' : Addr) (ctv : Value) : Obj :=
  PySem.W.kla_obj "<lambda>" (X.env.qual ++ "<lambda>") params body scope (cloFrom X.env.cells scope.names []) pm c' ctv
/-- the lambda is made -/
theorem lam_made {c P : Addr} {params : Arguments} {body : Expr} {scope : Scope} {pos : Pos} {E : Value → Shared → Prop} {Q : Value → Shared → Prop} (I : L2.Inv X pins σ H s) (o : Ok X.K F M H) (TB : TabB X.base X.mg c P) (hcode : X.env.code = .ref c)
    (hM : M P = some (.tbl (X.env.qual ++ "<lambda>"))) (hdef : defaultsOf params X.env = ([], [])) (hfree : ∀ y ∈ scope.names, y.2 = .free → ∃ c, X.env.cells.lookup y.1 = some c)
    (h : ∀ (f c' : Addr) (pm ctv : Value) (H1 F1 : Hp) (s' : Shared), L2.Inv X pins σ H1 s' → Same F F1 → Ok X.K F1 M H1 → s'.heap.get? f = some (lamO X params body scope pm c' ctv) → H1 f = none → f ∉ frs X.stack → F1 c' = some (CodeO c' (X.env.qual ++ "<lambda>")) → Q (.ref f) s') :
    wpAny (model X.prog X.w) X.A (eval (.Lambda params body scope pos) X.env) Q E s := by
  obtain ⟨fP, ps, hP, tr, ht⟩ := o.mt P _ hM
  have here : s.heap.get? P = some { cls := .none, data := .fields ps } := I.hok P _ hP
  have bB : s.heap.BuiltinsAt X.mg P := TB.bm.keeps I.bk
  have far : ∀ f, s.heap.objs.size ≤ f → f ∉ frs X.stack := fun f hf z => (List.mem_cons.mp (I.stkSub _ z)).elim (fun e => by
    have := I.lt
    rw [← e] at this
    exact absurd (Nat.lt_of_lt_of_le this hf) (Nat.lt_irrefl _)) fun e => I.nofs hf e
  refine PySem.W.kla_eval hdef ?_
  cases hc : codeAmong pos ps.toList with
  | some cv =>
    obtain ⟨c', rfl, hco⟩ := ht pos cv hc
    refine PySem.W.kla_makeFunctionHit (mg := X.mg) (c := c) (P := P) (ps := ps) (closure_ok hfree) I.ok.glob (I.mod.glob.keeps I.bk) hcode (TB.code.keeps I.bk) here tr hc bB fun ctv h' tk hx hsz => ?_
    exact h _ c' _ ctv H F _ (I.kept (t' := tk) fun b ob e => Heap.get?_push_of_some _ (hx b ob e)) (Same.refl F) o (Heap.get?_push_size _ rfl) (I.hok.fresh hsz) (far _ hsz) hco
  | none =>
    refine PySem.W.kla_makeFunction (mg := X.mg) (c := c) (P := P) (ps := ps) (closure_ok hfree) I.ok.glob (I.mod.glob.keeps I.bk) hcode (TB.code.keeps I.bk) here tr hc TB.gP bB fun c' ctv h' tk hx hge hlt hrec htb => ?_
    obtain ⟨_, oc, vs, t, e2, hoc, hd, hv⟩ := hrec
    cases e2
    have nC : H c' = none := I.hok.fresh hge
    have hsz : s.heap.objs.size ≤ h'.objs.size := Nat.le_of_lt (Nat.lt_of_le_of_lt hge hlt)
    obtain ⟨sm, o1⟩ := o.grow (p1 := pos) hM hP nC
    refine h h'.objs.size c' _ ctv _ _ _ (inv_table (t' := tk) (more := #[rawInt pos.line, rawInt pos.col, .ref c']) I hP (fun b ob hb e => Heap.get?_push_of_some _ (hx b ob hb e)) (Heap.get?_push_of_some _ htb) hge ⟨oc, vs, t, Heap.get?_push_of_some _ hoc, hd, hv⟩) sm o1 (Heap.get?_push_size _ rfl) ?_ (far _ hsz) upd_same
    rw [upd_ne (Nat.ne_of_gt hlt), upd_ne (Nat.ne_of_gt (Nat.lt_of_lt_of_le (Heap.lt_size here) hsz))]
    exact I.hok.fresh hsz
/-- what the call of a name that holds the lambda does, in the def that got it -/
def LamAt (Z : Cx) (a : Str) (i : Nat) (f : Addr) (F0 : Hp) (M : Mem) (T : (D → Mem → Prop) → RX → Prop) : Prop :=
  ∀ (pn : List (Addr × Obj)) (xe : Value → Shared → Prop) (J : Gh) (ρ : DEnv) (P : D → Mem → Prop) (RR : Addr → List (Str × D) → DEnv → Mem → Prop) (p1 p2 : Pos), (∀ F, J.p F → Same F0 F) → Lets (Z.tr pn xe) J RR → look ρ i = some (.adr f) → T P (Rof RR ρ) → EX (Z.tr pn xe) J (.Call (.Name a p1) [] [] p2) ρ M P
theorem lets_lam {A : Around} {outer : List PySem.Env} {s1 : Shared} {HZ F0 : Hp} {scope : Scope} {f c' : Addr} {R : RX} {E : XK} (kx : Kx X.K F0 R E) :
    Lets (lamCx X A outer s1 HZ E scope f c') (ghF F0) (fun C gs _ M' => R C gs M') :=
  ⟨fun cls d _ H => E cls d H, takes_of rfl rfl rfl rfl, fun cls d σ H' F ρ M C gs st x r => kx C gs M F H' cls d r st.gh st.ok x⟩
theorem lam_at {Ng : List Str} {qg : Str} {sg : Scope} {g f c' : Addr} {cdg pm ctv : Value} {params : Arguments} {body : Expr} {scope : Scope} {k i : Nat} {a : Str} {Eg : XK} {ρX : DEnv} {M0 : Mem} {JX : Gh} {T : (D → Mem → Prop) → RX → Prop}
    (I : L2.Inv X pins σ H s) (en : En X.K F σ ρX) (L : LamS X.env.scope scope) (hf : s.heap.get? f = some (lamO X params body scope pm c' ctv)) (hfn : H f = none) (hfr : f ∉ frs X.stack) (hco : F c' = some (CodeO c' (X.env.qual ++ "<lambda>")))
    (hbind : bindArgs (PySem.W.kla_fn "<lambda>" (X.env.qual ++ "<lambda>") params body scope (cloFrom X.env.cells scope.names []) pm (.ref c') ctv) ⟨[], []⟩ = pure []) (hr : Room (k + 1) (X.A.deeper (envOfC qg sg s.heap.objs.size g cdg)))
    (hbody : ∀ (A : Around) (outer : List PySem.Env) (s : Shared) (H : Hp) (E : XK) (f c' : Addr) (J : Gh) (P : D → Mem → Prop) (R : RX), A.guards = X.A.guards → Room k (A.deeper (lamEnv X scope s.heap.objs.size f c')) → Lets (lamCx X A outer s H E scope f c') J (fun C gs _ M' => R C gs M') → T P R → EX (lamCx X A outer s H E scope f c') J body ρX M0 P)
    (hN : Ng[i]? = some a) (hv : Vis sg a) (hd : (a == ("__debug__" : Str)) = false) (hcd : (a == ("__classdict__" : Str)) = false) :
    LamAt (cxOf (L2.CX X.prog X.w) X.prog X.w X.K X.mg X.base Ng qg sg g cdg X.A X.stack s H Eg) a i f F M0 T := by
  intro pn xe J ρ P RR p1 p2 hJ LZ hl hT
  obtain ⟨W, tk, hW⟩ := LZ.ex
  refine ⟨fun pinsZ sZ σZ HZ Q IZ ⟨FZ, stZ, kt⟩ => ?_⟩
  have sF : Same F FZ := hJ FZ stZ.gh
  obtain ⟨y, h1, h2⟩ := stZ.en.look hl
  cases h2
  refine wpAny_Call_Name_kw (thn ((pe_var (pos := p1) (i := i) hN hv hd hcd).run pinsZ sZ σZ HZ (fun v H1 => v = .ref f ∧ H1 = HZ) IZ ⟨.ref f, h1, rfl, rfl⟩) fun u s1 ⟨v, H1, I1, r1, q1⟩ => ?_)
  obtain ⟨rfl, rfl⟩ := q1
  obtain rfl : u = Value.ref f := r1
  have at1 : s1.heap.get? f = some (lamO X params body scope pm c' ctv) := I1.base.keep f _ hf hfn hfr (fun z => nomatch (show f ∈ ([] : List Addr) from z))
  refine PySem.W.callWith_F0 ⟨_, _, _, _, at1⟩ ?_
  have un : Un (frs X.stack) [] H H1 s.heap s1.heap := I1.base
  obtain ⟨⟨oc, vs, t, hoc, hdc, hvc⟩, _, _⟩ := I1.hok c' _ (stZ.ok.ex _ _ (sF _ _ hco))
  have kx : Kx X.K FZ (Rof RR ρ) (fun cls d H' => W cls d σZ H') := fun C gs M' F' H' cls d q e o x => by
    obtain ⟨M2, sb, q⟩ := q
    exact hW _ _ _ _ _ _ _ _ _ ⟨stZ.en.mono e, o.sub sb, J.mono _ _ e stZ.gh⟩ x q
  have rc : codeAny (model X.prog X.w) (X.A.deeper (envOfC qg sg s.heap.objs.size g cdg)) (.call (.ref f) ⟨[], []⟩) (CR (L2.CX X.prog X.w) (envOfC qg sg s.heap.objs.size g cdg :: X.stack) X.prog X.w H1 s1 Q (fun cls d H' => W cls d σZ H')) s1 := by
    refine PySem.W.kla_callFunE hr.depth at1 rfl L.co L.gen rfl ⟨c', oc, vs, t, rfl, hoc, hdc, hvc⟩ ?_
    rw [hbind]
    refine wpAny_pure (wpAny_newFunctionEnv (fun y hy => (L.own y hy).2) (fun y hy => absurd hy (by simp)) (fun h₁ hns hsb => ⟨I1.nolimit.fresh _ hsb, ?_⟩) L.kind)
    show codeAny _ _ (.expr body (lamEnv X scope s1.heap.objs.size f c')) _ _
    have J0 := lam_start2 (A := X.A.deeper (envOfC qg sg s.heap.objs.size g cdg)) (outer := envOfC qg sg s.heap.objs.size g cdg :: X.stack) (E := fun cls d H' => W cls d σZ H') (f := f) (c' := c') (h₁ := h₁) (tk := s1.toks + ([] : List (Str × Value)).length) I L I1.env0 hr.hd un hns (fun b o e => hsb.extBut b o (Nat.ne_of_lt (Heap.lt_size e)) (Heap.get?_push_of_some _ e))
    have hb := hbody (X.A.deeper (envOfC qg sg s.heap.objs.size g cdg)) (envOfC qg sg s.heap.objs.size g cdg :: X.stack) s1 H1 (fun cls d H' => W cls d σZ H') f c' (ghF FZ) P (Rof RR ρ) rfl (hr.deeper _) (lets_lam kx) hT
    refine PySem.W.kla_codeExpr (wpAny_mono (hb.run [] _ _ H1 Q J0 ⟨FZ, ⟨en.mono sF, stZ.ok, Same.refl FZ⟩, kt⟩) (fun v s' hq => ?_) fun e s' hq => hq)
    obtain ⟨w', H', J', rv, q⟩ := hq
    exact ⟨w', H', J'.os, J'.bare, J'.base, J'.hok, rv, q⟩
  refine wpAny_call (codeAny_mono rc fun r s' hq => ?_)
  match r, hq with
  | .error _, hq => exact tk _ _ (XE.of_call I1 (fun _ _ _ h => h) hq)
  | .ok (.ret _), hq => exact I1.after hq
  | .ok .next, hq => exact hq.elim
  | .ok .brk, hq => exact hq.elim
  | .ok .cont, hq => exact hq.elim
end
/-- the body of a def that gets a lambda (its one parameter a) and calls it -/
def BodyL (pg : Program) (w : World) (K : PySem.W.Frag) (mg : Str → Option Value) (base : Heap) (gd : Bool) (k : Nat) (g : Addr) (qual : Str) (body : List Stmt) (scope : Scope) (N : List Str) (a : Str) (T' : ((D → Mem → Prop) → RX → Prop) → Mem → (D → Mem → Prop) → Prop) : Prop :=
  ∀ (cdv : Value) (A : Around) (outer : List PySem.Env) (s : Shared) (H F0 : Hp) (E : XK) (f : Addr) (M : Mem) (T : (D → Mem → Prop) → RX → Prop) (P : D → Mem → Prop), (gd = true → A.guards = some []) → Room k (A.deeper (envOfC qual scope s.heap.objs.size g cdv)) → T' T M P →
    LamAt (cxOf (L2.CX pg w) pg w K mg base N qual scope g cdv A outer s H E) a 0 f F0 M T →
    PassesOwn (model pg w) (cxOf (L2.CX pg w) pg w K mg base N qual scope g cdv A outer s H E).A (cxOf (L2.CX pg w) pg w K mg base N qual scope g cdv A outer s H E).env (cxOf (L2.CX pg w) pg w K mg base N qual scope g cdv A outer s H E).xe →
    GX (cxOf (L2.CX pg w) pg w K mg base N qual scope g cdv A outer s H E) (ghF F0) body (startD (N.length - 1) [.adr f]) M ⟨fun _ M' => P .non M', P, fun _ _ => False, fun _ _ => False⟩
section
variable {X : Cx} {J : Gh} {ρ : DEnv} {M : Mem} {P : D → Mem → Prop} {x a qg : Str} {g c Pt : Addr} {k kb : Nat} {gd : Bool} {pg : Arguments} {bg : List Stmt} {sg : Scope} {fd : FuncData} {Ng : List Str} {params : Arguments} {body : Expr} {scope : Scope} {p lpos pos : Pos}
  {T : (D → Mem → Prop) → RX → Prop} {T' : ((D → Mem → Prop) → RX → Prop) → Mem → (D → Mem → Prop) → Prop}
/-- x(lambda: body) -/
theorem ex_lamcall (B : BodyL X.prog X.w X.K X.mg X.base gd k g x bg sg Ng a T') (FD : FunD X.K x x pg bg sg [] [] g fd) (Sg : FnScope Ng [a] sg) (hm : X.mg x = some (.ref g)) (hgd : gd = true → X.A.guards = some [])
    (TB : TabB X.base X.mg c Pt) (hcode : X.env.code = .ref c) (hM : M Pt = some (.tbl (X.env.qual ++ "<lambda>"))) (hr : Room (k + 1) X.A) (hkb : kb + 1 ≤ k)
    (hT : T' T M P)
    (hbody : ∀ (A : Around) (outer : List PySem.Env) (s : Shared) (H : Hp) (E : XK) (f c' : Addr) (J : Gh) (P : D → Mem → Prop) (R : RX), A.guards = X.A.guards → Room kb (A.deeper (lamEnv X scope s.heap.objs.size f c')) → Lets (lamCx X A outer s H E scope f c') J (fun C gs _ M' => R C gs M') → T P R → EX (lamCx X A outer s H E scope f c') J body ρ M P)
    (L : LamS X.env.scope scope := by exact lamS_by rfl) (hdef : defaultsOf params X.env = ([], []) := by rfl)
    (hbind : ∀ (q : Str) (cl : List (Str × Addr)) (pm cv ctv : Value), bindArgs (PySem.W.kla_fn "<lambda>" q params body scope cl pm cv ctv) ⟨[], []⟩ = pure [] := by intro _ _ _ _ _; rfl)
    (hbn : ∀ (kV doc pm : Value) (an : Option Addr) (cdv ct : Value) (u : Value), bindArgs (PySem.W.fnOf x x pg bg sg .none kV doc pm an cdv ct) ⟨[u], []⟩ = pure [(a, u)] := by intro _ _ _ _ _ _ _; rfl)
    (hg : Gl X x := by rfl) (hdb : (x == ("__debug__" : Str)) = false := by decide) (hNa : Ng[0]? = some a := by rfl) (hd : (a == ("__debug__" : Str)) = false := by decide) (hcd : (a == ("__classdict__" : Str)) = false := by decide) :
    EX X J (.Call (.Name x p) [.Lambda params body scope lpos] [] pos) ρ M P := by
  obtain ⟨oc, od, dV, kV, doc, pm, an, cdv, ct, osl, rfl, lk, hcdg, hD, hK⟩ := FD.ex
  obtain rfl : dV = .none := by
    rcases hD with ⟨_, e⟩ | ⟨e, _⟩
    · exact e
    · exact absurd rfl e
  refine ⟨fun pins s σ H Q I ⟨F, st, kt⟩ => ?_⟩
  refine wpAny_Call_Name_kw (ld_glob I hg hm ?_ hdb)
  refine PySem.W.callWith_K (h₀ := X.base) I.ok.mod.kin FD.kp ?_ (by rfl) (by rfl)
  show wpAny _ _ (spliced ((false, eval (.Lambda params body scope lpos) X.env) :: backTo pos (starEach [] X.env))) _ _ s
  refine Calls.spliced_cons (lam_made I st.ok TB hcode hM hdef (L.has I.ok) fun f c' pm' ctv H1 F1 s' I1 sm o1 hf hfn hfr hco => ?_)
  refine Calls.spliced_nil ⟨I1.kIn, ?_⟩
  have rc : codeAny (model X.prog X.w) X.A (.call (.ref g) ⟨[.ref f], []⟩) (CR (L2.CX X.prog X.w) X.stack X.prog X.w H1 s' Q (fun _ _ _ => False)) s' := by
    refine run_ofS (N := Ng) (ps := [a]) (us := [.ref f]) (vs := [.ref f]) lk hcdg Sg hr I1.env0 (FD.bindsN (fun _ _ _ _ _ _ us hl => match us, hl with | [_], _ => hbn _ _ _ _ _ _ _) s' [.ref f] I1.kIn rfl) (.cons rfl .nil) rfl fun hr' => ?_
    have la := lam_at (i := 0) (Ng := Ng) (qg := x) (sg := sg) (g := g) (cdg := cdv) (k := kb) (a := a) (Eg := fun _ _ _ => False) (JX := J) (T := T) (M0 := M) (ρX := ρ) I1 (st.en.mono sm) L hf hfn hfr hco (hbind _ _ _ _ _) (hr'.mono hkb) hbody hNa (vis_of Sg (by simp)) hd hcd
    have hb := B cdv X.A X.stack s' H1 F1 (fun _ _ _ => False) f M T P hgd hr' hT la (passes_of rfl)
    refine ⟨_, hb, F1, ⟨En.start _ (.cons (.adr f) .nil), o1, Same.refl F1⟩, ⟨fun F' σ' H' ρ' M' q e en o' => kt _ _ _ _ _ q (sm.trans e) o' .non, kt.to sm, fun F' σ' H' ρ' M' q => q.elim, fun F' σ' H' ρ' M' q => q.elim⟩⟩
  refine wpAny_call (codeAny_mono rc fun r s2 hq => ?_)
  match r, hq with
  | .error _, hq => exact (no_err hq).elim
  | .ok (.ret _), hq => exact I1.after hq
  | .ok .next, hq => exact hq.elim
  | .ok .brk, hq => exact hq.elim
  | .ok .cont, hq => exact hq.elim
end
end DX
namespace DX
open PySem PySem.Spec L2 PyProof.Rows StX LamX
/-- the names of the lambdas, at their tables -/
def tbMem (K : PySem.W.Frag) (tl : TbL) : Mem := fun a => (tl.find? fun x => (ctA K x.1).2 == a).map fun x => .tbl x.2
theorem tbMem_ok {K : PySem.W.Frag} {tl : TbL} (h : tbOne K tl = true) : TbM K tl (tbMem K tl) := fun x hx => by
  have := List.all_eq_true.mp h x hx
  unfold tbMem
  cases e : tl.find? fun y => (ctA K y.1).2 == (ctA K x.1).2 with
  | none => rw [e] at this; cases this
  | some y => rw [e] at this; rw [Option.map_some, of_decide_eq_true this]
theorem tbMem_in {K : PySem.W.Frag} {tl : TbL} {a : Addr} {d : D} (h : tbMem K tl a = some d) : ∃ x ∈ tl, (ctA K x.1).2 = a ∧ d = .tbl x.2 := by
  unfold tbMem at h
  cases e : tl.find? fun y => (ctA K y.1).2 == a with
  | none => rw [e] at h; cases h
  | some y =>
    rw [e] at h; cases h
    have hy := List.find?_some e
    exact ⟨y, List.mem_of_find?_eq_some e, beq_iff_eq.mp hy, rfl⟩
def hid (K : PySem.W.Frag) (tl : TbL) (H : Hp) : Hp := fun b => if (tl.any fun x => (ctA K x.1).2 == b) = true then none else H b
theorem law_goT {pg : Program} {w : World} {K : PySem.W.Frag} {mg mb : Str → Option Value} {k : Nat} {fa a : Addr} {T : TrX} {s1 : Shared} {vs : List Value} {ns : List Int} {tn : TbN}
    (KX : K.In s1.heap) (gN : s1.heap.Ns mainGlobals mg) (bN : s1.heap.Ns builtinsNs mb) (bA : ∀ y : Str, y ≠ "__name__" → mb y = bootBuiltins y) (lim : s1.heap.NoLimit) (gens : s1.gens = #[])
    (bM : ∃ (bm : Addr) (ob : Obj), mg "__builtins__" = some (.ref bm) ∧ bm ≠ builtinsNs ∧ s1.heap.get? bm = some ob ∧ ob.cls = .type "module" ∧ ob.dict = some builtinsNs ∧ ob.data = .plain) (TK : TbK K tn s1.heap)
    (ha : s1.heap.get? a = some { cls := .type "list", data := .seq vs.toArray }) (hi : PyProof.Rows.IntsAre vs ns) (hl : ns.length ≤ sizeLine) (hr : Room k callerA)
    (G : ∀ base : Heap, K.In base → base.Ns mainGlobals mg → (∀ x ∈ tn, TabB base mg (ctA K x).1 (ctA K x).2) → FnX pg w K mg base true k fa [] T)
    (ht : ∀ H : Hp, SqL K H a (ns.map V.int) → (∀ x ∈ tn, H (ctA K x).2 = some (.tbl #[])) → ∃ F M ds, Ok K F M H ∧ Rps K F [.ref a] ds ∧ T ds [] M (fun d _ => d = .bl true) noX) :
    codeAny (model pg w) callerA (.call (.ref fa) ⟨[.ref a], []⟩) (fun r s' => r = .ok (.ret (.bool true)) ∧ OldK s1.heap s'.heap ∧ s'.os = s1.os ∧ PyProof.Rows.AllBare s'.gens) s1 := by
  have vals := vals_ints hi
  let isP : Addr → Prop := fun b => ∃ x ∈ tn, (ctA K x).2 = b
  have tabAt : ∀ {b}, isP b → s1.heap.get? b = some { cls := .none, data := .fields #[] } := fun ⟨x, hx, e⟩ => e ▸ (TK.ex x hx).2.1
  have tabK : ∀ {b}, isP b → K.lookup b = none := fun ⟨x, hx, e⟩ => e ▸ (TK.ex x hx).2.2
  have naP : ¬ isP a := fun z => by
    have q := tabAt z
    rw [ha] at q
    have q : Data.seq vs.toArray _ = Data.fields #[] := congrArg Obj.data (Option.some.inj q)
    cases q
  have main : ∀ H : Hp, (∀ b u, H b = some u → (b = a ∧ K.lookup a = none ∧ u = .frz { cls := .type "list", data := .seq vs.toArray } (.lst (ns.map V.int))) ∨ (isP b ∧ u = .tbl #[])) → (∀ b, isP b → H b = some (.tbl #[])) → SqL K H a (ns.map V.int) → L2.HOk pg w H s1.heap →
      codeAny (model pg w) callerA (.call (.ref fa) ⟨[.ref a], []⟩) (fun r s' => r = .ok (.ret (.bool true)) ∧ OldK s1.heap s'.heap ∧ s'.os = s1.os ∧ PyProof.Rows.AllBare s'.gens) s1 := by
    intro H only tabs seq hok
    have seen : ∀ {b : Addr} {ob : Obj}, s1.heap.get? b = some ob → (∀ l n, ob.data ≠ .seq l n) → ob.data ≠ .fields #[] → (hidT s1.heap H).get? b = some ob := by
      intro b ob e n1 n2
      refine hidT_get e ?_
      cases q : H b with
      | none => rfl
      | some u =>
        rcases only b u q with ⟨rfl, _, _⟩ | ⟨z, _⟩
        · rw [ha] at e; cases e
          exact absurd rfl (n1 _ _)
        · rw [tabAt z] at e; cases e
          exact absurd rfl n2
    have kept : ∀ {b : Addr} {m : Str → Option Value}, s1.heap.Ns b m → (hidT s1.heap H).Ns b m := by
      rintro b m ⟨ob, es, ep, h1, h2, h3⟩
      exact ⟨ob, es, ep, seen h1 (fun l n z => by rw [h2] at z; cases z) (fun z => by rw [h2] at z; cases z), h2, h3⟩
    have kin : K.In (hidT s1.heap H) := by
      intro b ob h1
      refine hidT_get (KX b ob h1) ?_
      cases q : H b with
      | none => rfl
      | some u =>
        rcases only b u q with ⟨rfl, h2, _⟩ | ⟨z, _⟩
        · rw [h2] at h1; cases h1
        · rw [tabK z] at h1; cases h1
    have tb : ∀ x ∈ tn, TabB (hidT s1.heap H) mg (ctA K x).1 (ctA K x).2 := fun x hx => by
      obtain ⟨C, hP, _⟩ := TK.ex x hx
      obtain ⟨oc, us, fl, tf, fg, tg, bf, tx, tt, c1, c2, c3, c4, c5⟩ := C
      refine ⟨⟨oc, us, fl, tf, fg, tg, bf, tx, tt, seen c1 (fun l n z => by rw [c3] at z; cases z) (fun z => by rw [c3] at z; cases z; simp at c4), c2, c3, c4, c5⟩, ?_, fun z => ?_⟩
      · obtain ⟨bm, ob, m1, m2, m3, m4, m5, m6⟩ := bM
        refine ⟨bm, ob, m1, m2, fun z => ?_, fun z => ?_, seen m3 (fun l n z => by rw [m6] at z; cases z) (fun z => by rw [m6] at z; cases z), m4, m5, m6⟩
        · obtain ⟨o2, es, ep, g1, g2, _⟩ := gN
          rw [z, g1] at m3; cases m3
          rw [g2] at m6; cases m6
        · rw [z, hP] at m3; cases m3
          cases m6
      · obtain ⟨o2, es, ep, g1, g2, _⟩ := gN
        rw [z, hP] at g1; cases g1
        cases g2
    have start_ : Env0 pg w K mg (hidT s1.heap H) callerA [] s1 H :=
      ⟨rfl, ⟨kin, kept gN, ⟨mb, kept bN, bA⟩, let ⟨mc, z1, z2⟩ := lim; ⟨mc, kept z1, z2⟩⟩, fun b ob z => of_hidT z, Nat.le_of_eq (hidT_size _ _), trivial, fun b z => (List.not_mem_nil z).elim, hok, .of_eq gens⟩
    obtain ⟨F, M, ds, o, rd, t⟩ := ht H seq fun x hx => tabs _ ⟨x, hx, rfl⟩
    refine codeAny_mono ((G _ kin (kept gN) tb).go callerA [] s1 H F M ds [] _ noX [.ref a] [] [.ref a] [] (fun v _ => v = .bl true) (fun _ _ _ => False) (fun _ => rfl) hr start_ (.cons rfl .nil) .nil rfl o rd .nil t (fun d v M' F' H' z1 _ _ z2 => by subst z1; cases z2; rfl) Kx.no) fun res s' end_ => ?_
    match res, end_ with
    | .error _, end_ => exact (no_err end_).elim
    | .ok .next, end_ => exact end_.elim
    | .ok .brk, end_ => exact end_.elim
    | .ok .cont, end_ => exact end_.elim
    | .ok (.ret u), ⟨v, H', h1, h2, h3, h4, h5, h6⟩ =>
      subst h6
      cases (show u = Value.bool true from h5)
      have now : ∀ b ob, s1.heap.get? b = some ob → s'.heap.get? b = some ob ∨ (isP b ∧ ∃ more : Array Value, s'.heap.get? b = some { cls := .none, data := .fields more }) := fun b ob z => by
        cases q : H b with
        | none => exact .inl (h3.keep b ob z q List.not_mem_nil List.not_mem_nil)
        | some u =>
          rcases only b u q with ⟨rfl, _, rfl⟩ | ⟨hp, rfl⟩
          · obtain ⟨e1, _⟩ := h4 b _ (h3.frzs b _ _ q)
            rw [ha] at z; cases z
            exact .inl e1
          · obtain ⟨more, e⟩ := h3.tbls b #[] q
            exact .inr ⟨hp, _, h4 b _ e⟩
      refine ⟨rfl, ⟨fun b ob z => ?_, fun b ob z => ?_⟩, h1, h2⟩
      · rcases now b ob z with e | ⟨⟨x, hx, rfl⟩, more, e⟩
        · exact .inl e
        · obtain ⟨C, hP, _⟩ := TK.ex x hx
          rw [hP] at z; cases z
          exact .inr (.inl ⟨(C.tab hP).isCodeTable, rfl, #[], more, rfl, by rw [Array.empty_append]; exact e⟩)
      · rcases now b ob z with e | ⟨_, more, e⟩
        · exact ⟨_, e⟩
        · exact ⟨_, e⟩
  classical
  cases q : K.lookup a with
  | some ob =>
    have e1 := KX a ob q
    rw [ha] at e1; cases e1
    have own : ∀ b u, (if isP b then some (HO.tbl #[]) else none) = some u → isP b ∧ u = .tbl #[] := fun b u z => by
      by_cases e : isP b
      · rw [if_pos e] at z; cases z; exact ⟨e, rfl⟩
      · rw [if_neg e] at z; cases z
    refine main (fun b => if isP b then some (.tbl #[]) else none) (fun b u z => .inr (own b u z)) (fun b z => if_pos z) (.inr ⟨_, vs.toArray, _, q, rfl, rfl, rfl, by simpa [hi.length] using hl, by simpa using vals⟩) fun b u z => ?_
    obtain ⟨h1, rfl⟩ := own b u z
    exact tabAt h1
  | none =>
    have own : ∀ b u, (if b = a then some (HO.frz { cls := .type "list", data := .seq vs.toArray } (.lst (ns.map V.int))) else if isP b then some (HO.tbl #[]) else none) = some u → (b = a ∧ u = .frz { cls := .type "list", data := .seq vs.toArray } (.lst (ns.map V.int))) ∨ (isP b ∧ u = .tbl #[]) := by
      intro b u z
      by_cases e : b = a
      · rw [if_pos e] at z; cases z; exact .inl ⟨e, rfl⟩
      · rw [if_neg e] at z
        by_cases e2 : isP b
        · rw [if_pos e2] at z; cases z; exact .inr ⟨e2, rfl⟩
        · rw [if_neg e2] at z; cases z
    refine main (fun b => if b = a then some (.frz { cls := .type "list", data := .seq vs.toArray } (.lst (ns.map V.int))) else if isP b then some (.tbl #[]) else none) (fun b u z => (own b u z).imp (fun z => ⟨z.1, q, z.2⟩) id) (fun b z => (if_neg (fun e : b = a => naP (by rw [e] at z; exact z))).trans (if_pos z)) (.inl (.inr ⟨_, if_pos rfl⟩)) fun b u z => ?_
    rcases own b u z with ⟨rfl, rfl⟩ | ⟨h1, rfl⟩
    · exact ⟨ha, by rw [List.length_map]; exact hl, vs, _, vals, ha⟩
    · exact tabAt h1
theorem walk_ofT {l : PySem.W.OpenLaw} {k : Nat} {q : Program} {loose : List Str} {XP : (Str → Option Value) → Heap → Prop} {YP : World → Heap → Prop} {d : DefRec} {tn : TbN} (hn : l.most = some 63) (hdf : d.params.defaults = []) (hr : Room k callerA)
    (G : ∀ (w : World) (mg : Str → Option Value) (fa : Addr) (h : Heap), YP w h → h.Ns mainGlobals mg → mg d.name = some (.ref fa) →
      ∃ (K : PySem.W.Frag) (T : TrX), K.In h ∧ TbK K tn h ∧
        (∀ (H : Hp) (a : Addr) (ns : List Int), ns.length ≤ 63 → SqL K H a (ns.map V.int) → (∀ x ∈ tn, H (ctA K x).2 = some (.tbl #[])) → ∃ F M ds, Ok K F M H ∧ Rps K F [.ref a] ds ∧ T ds [] M (fun d _ => d = .bl true) noX) ∧
        ∀ base : Heap, K.In base → base.Ns mainGlobals mg → (∀ x ∈ tn, TabB base mg (ctA K x).1 (ctA K x).2) → FnX l.prog w K mg base true k fa [] T) :
    PySem.W.WalkO q loose XP YP l.row.toRowW d [] (fun f vs => PySem.call f vs) :=
  Att.attach_call hn hdf fun w s0 s1 mg mb fa o pm cd doc a vs ns Gr Y ho hd hcd hmg hobj hints hlen hgens => by
    obtain ⟨K, T, KX, TK, ht, hF⟩ := G w mg fa _ Y Gr.T.g hmg
    exact law_goT KX Gr.T.g Gr.T.b Gr.T.builtins Gr.T.nolimit hgens Gr.T.bmain TK hobj hints (Nat.le_trans hlen (by decide)) hr hF fun H hS hP => ht H a ns hlen hS hP
theorem lookT_eq {n : Nat} {fa : List He.Fa} {fn : List He.DefD} {pr : List PrD} {ex : PySem.W.Frag → Bool} {tl : TbL} {g : Addr → Option Obj} {s : Shared} (h : ∀ a, g a = s.heap.get? a) : lookT fa fn pr ex tl n g = (hookT n fa fn pr ex tl).obs s := by
  have e : g = s.heap.get? := funext h
  subst e
  rfl
end DX
namespace DX
open PySem PySem.Spec L2 PyProof.Rows StX
noncomputable def dLower : D → Option D
  | .str z => chk (z.length ≤ 1000000) (.str (Txt.lower z))
  | _ => none
def unstD : D → D
  | .stup ds => .tup ds
  | d => d
def stupD : D → Option (List D)
  | .stup ds => some ds
  | _ => none
theorem stupD_eq {d : D} {l : List D} (h : stupD d = some l) : d = .stup l := by
  cases d <;> first | (cases h; rfl) | cases h
section
variable {X : Cx} {J : Gh} {e o : Expr} {ρ : DEnv} {M : Mem} {P : D → Mem → Prop} {pos apos cpos : Pos} {k : Nat} {K : PySem.W.Frag} {F : Hp}
theorem rp_unst {v : V} {d : D} (r : Rp K F v d) : Rp K F v (unstD d) := by
  cases d <;> first | exact r | exact r.unst
theorem ex_unstD (h : EX X J e ρ M fun d M1 => P (unstD d) M1) : EX X J e ρ M P :=
  ex_of h fun F σ H Q st k => ⟨F, st, fun d v M' F' H' q e1 o r => k _ _ _ _ _ q e1 o (rp_unst r)⟩
theorem cd_dictSt {d : D} {l : List D} {kvs : List (Key × D)} (h1 : stupD d = some l) (h : kvsD l = some kvs) (q : P (.dct (mergeD [] kvs)) M) (hc : X.calm = true := by rfl) : CD X (.type "dict") [d] M P := by
  rw [stupD_eq h1]; exact cd_dictK h q hc
/-- () with its object known -/
theorem ex_tup0S (p : P (.stup []) M) : EX X J (.Tuple [] k pos) ρ M P := by
  refine ⟨fun pins s σ H Q I ⟨F, st, kt⟩ => ?_⟩
  refine wpAny_Tuple (wpAny_items_nil ⟨by size_fits, ?_⟩)
  have hn : H s.heap.objs.size = none := I.hok.fresh (Nat.le_refl _)
  have new : ObjOk X.prog X.w (upd H s.heap.objs.size (.frz { cls := .type "tuple", data := .seq #[] } (.tup []))) (s.heap.push ({ cls := .type "tuple", data := .seq #[] } : Obj)) s.heap.objs.size (.frz { cls := .type "tuple", data := .seq #[] } (.tup [])) :=
    ⟨Heap.get?_push_size _ rfl, Nat.zero_le _, [], .nil, ⟨_, Heap.get?_push_size _ rfl, rfl, _, rfl⟩⟩
  have I2 := I.laid (t' := s.toks) (fun b o e => Heap.get?_push_of_some _ e) (Nat.le_refl _) new
  exact ⟨.ref s.heap.objs.size, _, I2, rfl, kt _ _ _ _ _ p (st.ok.fixSame hn) (st.ok.fix hn) (.stup upd_same ⟨rfl, rfl⟩ .nil)⟩
end
end DX
namespace ZipL
open PySem PySem.Spec L2 PyProof.Rows
section
variable {prog : Program} {w : World} {A : Around} {R : Result → Shared → Prop} {z TI TO i1 i2 l1 l2 S : Addr} {xs ys : Array Value}
end
section
variable {prog : Program} {w : World} {A : Around} {R : Result → Shared → Prop} {E : Value → Shared → Prop} {s : Shared} {z TI TO i1 i2 l1 l2 S : Addr} {xs ys : Array Value}
theorem init (hh : A.in1.handled = none) (D : ZipApart z TI TO i1 i2 l1 l2) (O : Off z TI TO i1 i2 l1 l2 S) (hn : min xs.size ys.size ≤ sizeLine) (hz : IsZip s.heap z TI TO .none) (hst : ZSt z TI TO i1 i2 l1 l2 S xs ys 0 s.heap)
    (hS : s.heap.get? S = some { cls := .type "list", data := .seq #[] })
    (hR : ∀ h' ts' c', (∀ b o, b ≠ S → b ≠ z → b ≠ TO → b ≠ i1 → b ≠ i2 → s.heap.get? b = some o → h'.get? b = some o) → h'.get? S = some { cls := .type "list", dict := none, data := .seq (ts'.map Value.ref).toArray c', slots := #[] } →
      ts'.length = min xs.size ys.size → Acc S xs ys ts' h' → R (.ok (.ret .none)) { s with heap := h' }) :
    wpAny (model prog w) A.in1 (Builtin.«list.__init__» ⟨[.ref S, .ref z], []⟩)
      (fun fin s' => match fin with | .done f => R (.ok f) s' | .again c' => c'.quiet = true ∧ codeAny (model prog w) A c' R s') (fun e s' => R (.error e) s') s := by
  show wpAny _ A.in1 (do let old ← Builtin.List.listItems (.ref S); Builtin.List.listUpdate (.ref S) (fun _ => #[]); letGo old.toList.reverse; Builtin.List.listExtendWith (.ref S) (.ref z) .none) _ _ s
  refine wpAny_bind ?_
  unfold Builtin.List.listItems
  refine wpAny_bind (wpAny_seqItems hS rfl (wpAny_pure ?_))
  show wpAny _ A.in1 (updateSeq S (fun _ => #[]) >>= fun _ => letGo (#[] : Array Value).toList.reverse >>= fun _ => Builtin.List.listExtendWith (.ref S) (.ref z) .none) _ _ s
  refine wpAny_bind (wpAny_updateSeq hS rfl ?_)
  have hS₂ := Heap.get?_update_self (Obj.mapSeq (fun _ => (#[] : Array Value))) hS rfl
  have oth : ∀ b o, b ≠ S → s.heap.get? b = some o → (s.heap.update S (Obj.mapSeq (fun _ => (#[] : Array Value)))).get? b = some o :=
    fun b o hb e => (Heap.get?_update_other _ _ (Ne.symm hb)).trans e
  have hst' : ZSt z TI TO i1 i2 l1 l2 S xs ys 0 (s.heap.update S (Obj.mapSeq (fun _ => (#[] : Array Value)))) := by
    obtain ⟨a1, a2, a3, a4, a5, a6⟩ := hst
    refine ⟨oth _ _ (Nat.ne_of_lt O.TI) a1, a2.at fun o e => oth _ o (Nat.ne_of_lt O.i1) e, a3.at fun o e => oth _ o (Nat.ne_of_lt O.i2) e, a4.at fun o e => oth _ o (Nat.ne_of_lt O.l1) e, a5.at fun o e => oth _ o (Nat.ne_of_lt O.l2) e, ?_⟩
    rcases a6 with ⟨q1, a, b, q2⟩ | ⟨T, f, oT, q1, q2, q3, q4, q5, q6⟩
    · exact .inl ⟨oth _ _ (Nat.ne_of_lt O.z) q1, a, b, oth _ _ (Nat.ne_of_lt O.TO) q2⟩
    · exact .inr ⟨T, f, oT, oth _ _ (Nat.ne_of_lt O.z) q1, oth _ _ q6 q2, q3, q4, q5, q6⟩
  refine wpAny_bind (wpAny_letGo ?_)
  exact extend hh D O hn .none _ (oth _ _ (Nat.ne_of_lt O.z) hz) hst' hS₂ fun h' ts' c' kp e hl hA => hR h' ts' c' (fun b o b1 b2 b3 b4 b5 e => kp b o b1 b2 b3 b4 b5 (oth b o b1 e)) e hl hA
end
def zH : Hp → List (Addr × V × V) → Hp
  | H, [] => H
  | H, (T, x, y) :: r => zH (upd H T (.tup [x, y])) r
def FrL : Hp → List (Addr × V × V) → Prop
  | _, [] => True
  | H, (T, x, y) :: r => H T = none ∧ FrL (upd H T (.tup [x, y])) r
section
variable {X : Cx} {pins : List (Addr × Obj)} {σ : L2.St} {H H' : Hp} {s : Shared} {h' : Heap}
end
def tLZ (K : PySem.W.Frag) (ta : TA) : TE := fun σ H Q => ta σ H fun vs H1 => ∃ a b xs ys, vs = [.ref a, .ref b] ∧ SqL K H1 a xs ∧ SqL K H1 b ys ∧
  ∀ (l : List (Addr × V × V)) (S : Addr), l.map (·.2) = xs.zip ys → FrL H1 l → zH H1 l S = none → Q (.ref S) (upd (zH H1 l) S (.lst (l.map fun t => V.ref t.1)))
end ZipL
namespace DX
open PySem PySem.Spec L2 PyProof.Rows ZipL
section
variable {X : Cx} {J : Gh} {M : Mem} {F : Hp} {K : PySem.W.Frag} {ρ : DEnv} {a b : Expr} {p pos p' pos' : Pos} {P : D → Mem → Prop}
def dZipL : D → D → Option (List D)
  | .lst ds, .lst es => some (zipD ds es)
  | _, _ => none
end
end DX
namespace EnK
open PySem PySem.Spec L2 PyProof.Rows
section
variable {M : Model} {A : Around} {E : Value → Shared → Prop} {s : Shared} {env : Env}
end
/-- the tuple at a, its items in new pairs, counted from k -/
def IteK (K : PySem.W.Frag) (a : Addr) (k : Nat) : It :=
  ⟨fun i H => ∃ (xs : List V) (x : V), SqT K H a xs ∧ xs[i]? = some x, fun i H v H' => ∃ T x, v = .ref T ∧ H T = none ∧ H' = upd H T (.tup [.int (k + i : Nat), x]) ∧ ∀ xs, SqT K H a xs → xs[i]? = some x, fun i H => ∃ xs : List V, SqT K H a xs ∧ xs.length ≤ i⟩
def iEnumK (K : PySem.W.Frag) (ta tk : TA) : TI := fun σ H R => ta σ H fun vs H1 => tk σ H1 fun zs H2 => ∃ a xs, ∃ k : Nat, vs = [.ref a] ∧ zs = [.int (k : Int)] ∧ k < 1000000 ∧ SqT K H2 a xs ∧ R (IteK K a k) H2
end EnK
namespace DX
open PySem PySem.Spec L2 EnK
def dEnumK : D → D → Option (List D)
  | .tup ds, .int k => if 0 ≤ k ∧ k < 1000000 then some (enumD k.toNat ds) else none
  | _, _ => none
section
variable {X : Cx} {J : Gh} {M : Mem} {F : Hp} {K : PySem.W.Frag} {ρ : DEnv} {a b : Expr} {p pos kp : Pos}
end
end DX
namespace DX
open PySem PySem.Spec L2 PyProof.Rows
def isFl : D → Bool
  | .int _ => true
  | .str _ => true
  | _ => false
def isI (i : Int) : D → Bool
  | .int j => decide (j = i)
  | _ => false
def isSt (z : Str) : D → Bool
  | .str w => decide (w = z)
  | _ => false
def dLidx : D → D → Option D
  | .lst ds, .str z => if ds.all isFl = true then (ds.findIdx? (isSt z)).map fun (j : Nat) => .int (j : Int) else none
  | .lst ds, .int i => if ds.all isFl = true then (ds.findIdx? (isI i)).map fun (j : Nat) => .int (j : Int) else none
  | _, _ => none
theorem flat_all {K : PySem.W.Frag} {F : Hp} : ∀ {xs : List V} {ds : List D}, Rps K F xs ds → ds.all isFl = true → xs.all flatV = true
  | _, _, .nil, _ => rfl
  | _, _, .cons r rs, h => by
    rw [List.all_cons, Bool.and_eq_true] at h
    rw [List.all_cons, flat_all rs h.2, Bool.and_true]
    cases r <;> first | rfl | (cases h.1; done)
theorem flat_eq {K : PySem.W.Frag} {F : Hp} {v : V} {d : D} {i : Int} (r : Rp K F v d) (h : isFl d = true) : eqV v (.int i) = isI i d := by
  cases r <;> first | (cases h; done) | (simp [eqV, isI]; done) | (simp only [eqV, isI]; rfl)
theorem flat_eqS {K : PySem.W.Frag} {F : Hp} {v : V} {d : D} {z : Str} (r : Rp K F v d) (h : isFl d = true) : eqV v (.str z) = isSt z d := by
  cases r <;> first | (cases h; done) | (simp [eqV, isSt]; done) | (simp only [eqV, isSt]; rfl)
section
variable {X : Cx} {J : Gh} {M : Mem} {ρ : DEnv} {o e : Expr} {apos cpos : Pos} {P : D → Mem → Prop}
theorem ex_lindexF (h : EX X J o ρ M fun d M1 => ∃ ds, d = .lst ds ∧ AX X J [e] ρ M1 fun ys M2 => ∃ y r, ys = [y] ∧ dLidx (.lst ds) y = some r ∧ P r M2)
    (hbase : attributeBase o "index" X.env (eval o X.env) = eval o X.env := by rfl)
    (few : ((backTo cpos (starEach [e] X.env)).all (fun x => !x.1) && (backToKw cpos (keywordEach [] X.env)).all (fun x => x.1.isSome) && decide ([e].length + ([] : List Keyword).length + (if ([] : List Keyword).isEmpty then 0 else 1) < 30)) = true := by rfl)
    (line : (apos.endLine == cpos.line) = true := by rfl) (hst : starEach [e] X.env = (false, eval e X.env) :: starEach [] X.env := by rfl) (hpl : (backTo cpos (starEach [] X.env)).any (·.1) = false := by rfl) :
    EX X J (.Call (.Attribute o "index" apos) [e] [] cpos) ρ M P :=
  ex_of (pe_bm PySem.F.plainAttrs_list PySem.F.slot_list_index PySem.F.type_list_index mt_index pe_any pa_any hbase few line hst hpl) fun F σ H Q st k => h.go st fun d v M1 F1 H1 q1 e1 o1 r1 => by
    obtain ⟨ds, rfl, q1⟩ := q1
    cases r1 with
    | lst h1 rs =>
      refine ⟨tyV_lst (o1.ex _ _ h1), q1.go (st.to e1 o1) fun ys vs M2 F2 H2 q3 e2 o2 r2 => ?_⟩
      obtain ⟨y, r, rfl, hr, q3⟩ := q3
      cases r2 with
      | cons r2 r3 =>
        cases r3
        unfold dLidx at hr
        split at hr
        · rename_i _ _ ds' z hd
          cases hd
          split at hr
          · rename_i hf
            obtain ⟨j, hj, rfl⟩ := Option.map_eq_some_iff.mp hr
            cases r2
            rw [List.findIdx?_eq_some_iff_getElem] at hj
            obtain ⟨hlt, hp, hno⟩ := hj
            have fl : ∀ (m : Nat) (hm : m < ds.length), isFl ds[m] = true := fun m hm => List.all_eq_true.mp hf _ (List.getElem_mem hm)
            obtain ⟨w, k1, k2⟩ := rs.get (List.getElem?_eq_getElem hlt)
            refine ⟨_, _, .str z, j, w, rfl, rfl, SqL.of (o2.ex _ _ (e2 _ _ h1)), rfl, flat_all rs hf, k1, by rw [flat_eqS k2 (fl j hlt)]; exact hp, fun m z' hm hz => ?_, k _ _ _ _ _ q3 (e1.trans e2) o2 (.int _)⟩
            obtain ⟨w2, k3, k4⟩ := rs.get (List.getElem?_eq_getElem (show m < ds.length by omega))
            rw [k3] at hz
            cases hz
            rw [flat_eqS k4 (fl m (by omega))]
            exact Bool.eq_false_iff.mpr (hno m hm)
          · cases hr
        · rename_i _ _ ds' i hd
          cases hd
          split at hr
          · rename_i hf
            obtain ⟨j, hj, rfl⟩ := Option.map_eq_some_iff.mp hr
            cases r2
            rw [List.findIdx?_eq_some_iff_getElem] at hj
            obtain ⟨hlt, hp, hno⟩ := hj
            have fl : ∀ (m : Nat) (hm : m < ds.length), isFl ds[m] = true := fun m hm => List.all_eq_true.mp hf _ (List.getElem_mem hm)
            obtain ⟨w, k1, k2⟩ := rs.get (List.getElem?_eq_getElem hlt)
            refine ⟨_, _, .int i, j, w, rfl, rfl, SqL.of (o2.ex _ _ (e2 _ _ h1)), rfl, flat_all rs hf, k1, by rw [flat_eq k2 (fl j hlt)]; exact hp, fun m z' hm hz => ?_, k _ _ _ _ _ q3 (e1.trans e2) o2 (.int _)⟩
            obtain ⟨w2, k3, k4⟩ := rs.get (List.getElem?_eq_getElem (show m < ds.length by omega))
            rw [k3] at hz
            cases hz
            rw [flat_eq k4 (fl m (by omega))]
            exact Bool.eq_false_iff.mpr (hno m hm)
          · cases hr
        · cases hr
end
end DX
namespace DX
open PySem PySem.Spec L2 PyProof.Rows
section
variable {X : Cx} {J : Gh} {e o : Expr} {es : List Expr} {ρ ρ' : DEnv} {M M0 M1 : Mem} {F F' H H' : Hp} {σ : L2.St} {P : D → Mem → Prop} {K : PySem.W.Frag} {pos apos cpos : Pos}
theorem sub_up {a : Addr} {d : D} (s : Sub M0 M1) (h : M1 a = some d) : Sub (up M0 a d) M1 := fun b d' q => by
  unfold up at q
  split at q
  · rename_i e; cases q; rw [e]; exact h
  · exact s b d' q
def Mz : Mem := fun _ => none
theorem still_ok (k : Ok K F M H) : Ok K (stillF F H M) Mz H := ⟨fun a u h => by
  unfold stillF at h
  split at h
  · exact h
  · exact k.ex a u h, fun a d h => nomatch h⟩
def flatD : D → Bool
  | .int _ => true
  | .bl _ => true
  | .str _ => true
  | .non => true
  | _ => false
noncomputable def dLcnt : D → D → Option D
  | .lst ds, y => chk (goods ds ∧ good y ∧ dep y ≤ 50) (.int ((ds.countP fun z => eqD z y : Nat) : Int))
  | _, _ => none
end
end DX
namespace DX
open PySem PySem.Spec L2 PyProof.Rows StX LamX
/-- no instance changes here -/
def NoIns (M : Mem) : Prop := ∀ a C gs, M a ≠ some (.ins C gs)
theorem noins_up {M : Mem} {a : Addr} {l : List D} (h : NoIns M) : NoIns (up M a (.lst l)) := fun b C gs q => by
  unfold up at q
  split at q
  · cases q
  · exact h b C gs q
theorem noins_tb {K : PySem.W.Frag} {tl : TbL} : NoIns (tbMem K tl) := fun a C gs q => by
  obtain ⟨x, _, _, e⟩ := tbMem_in q
  cases e
mutual
/-- without lists and dicts -/
def lf : D → Bool
  | .non => true
  | .bl _ => true
  | .int _ => true
  | .str _ => true
  | .tup ds => lfs ds
  | .stup ds => lfs ds
  | .ins _ gs => lfk gs
  | _ => false
def lfs : List D → Bool
  | [] => true
  | d :: ds => lf d && lfs ds
def lfk : List (Str × D) → Bool
  | [] => true
  | (_, d) :: ds => lf d && lfk ds
end
structure Keeps (K : PySem.W.Frag) (F F2 : Hp) : Prop where
  t : ∀ a xs, SqT K F a xs → SqT K F2 a xs
  i : ∀ a C dx fs, F a = some (.ins C dx fs) → F2 a = some (.ins C dx fs)
  s : ∀ a o xs, F a = some (.frz o (.tup xs)) → F2 a = some (.frz o (.tup xs))
section
variable {K : PySem.W.Frag} {F F2 : Hp}
mutual
theorem rp_lf (h : Keeps K F F2) : ∀ (d : D) (v : V), lf d = true → Rp K F v d → Rp K F2 v d
  | .non, _, _, .non => .non
  | .bl b, _, _, .bl _ => .bl _
  | .int i, _, _, .int _ => .int _
  | .str x, _, _, .str _ => .str _
  | .tup ds, _, q, .tup h1 h2 => .tup (h.t _ _ h1) (rps_lf h ds _ (by rw [lf] at q; exact q) h2)
  | .stup ds, _, q, .stup h1 h2 h3 => .stup (h.s _ _ _ h1) h2 (rps_lf h ds _ (by rw [lf] at q; exact q) h3)
  | .ins C gs, _, q, .ins h1 h2 => .ins (h.i _ _ _ _ h1) (rfs_lf h gs _ (by rw [lf] at q; exact q) h2)
  | .lst _, _, q, _ => by simp [lf] at q
  | .dct _, _, q, _ => by simp [lf] at q
  | .adr _, _, q, _ => by simp [lf] at q
  | .ty _, _, q, _ => by simp [lf] at q
  | .scr _, _, q, _ => by simp [lf] at q
  | .exn _ _, _, q, _ => by simp [lf] at q
  | .tbl _, _, q, _ => by simp [lf] at q
theorem rps_lf (h : Keeps K F F2) : ∀ (ds : List D) (vs : List V), lfs ds = true → Rps K F vs ds → Rps K F2 vs ds
  | [], _, _, .nil => .nil
  | d :: ds, _, q, .cons h1 h2 => by
    rw [lfs, Bool.and_eq_true] at q
    exact .cons (rp_lf h d _ q.1 h1) (rps_lf h ds _ q.2 h2)
theorem rfs_lf (h : Keeps K F F2) : ∀ (ds : List (Str × D)) (vs : List (Str × V)), lfk ds = true → Rfs K F vs ds → Rfs K F2 vs ds
  | [], _, _, .nil => .nil
  | (x, d) :: ds, _, q, .cons h1 h2 => by
    rw [lfk, Bool.and_eq_true] at q
    exact .cons (rp_lf h d _ q.1 h1) (rfs_lf h ds _ q.2 h2)
end
end
section
variable {X : Cx} {J : Gh} {e : Expr} {ρ ρ' : DEnv} {M : Mem} {F F' H H' : Hp} {P : D → Mem → Prop} {K : PySem.W.Frag}
/-- what was held still may change again -/
def freeF (F' : Hp) (M : Mem) : Hp := fun a => if (M a).isSome = true then none else F' a
theorem free_eq {a : Addr} (h : M a = none) : freeF F' M a = F' a := by unfold freeF; rw [h]; rfl
theorem still_kind (k : Ok K F M H) (e : Same (stillF F H M) F') {a : Addr} {d : D} (h : M a = some d) : ∃ u, F' a = some u ∧ H a = some u ∧ Mt K F H a d := by
  obtain ⟨_, m2⟩ := k.mt a d h
  obtain ⟨u, hu⟩ := m2.there
  exact ⟨u, e _ _ (show stillF F H M a = some u by unfold stillF; rw [h]; exact hu), hu, m2⟩
theorem free_keeps (hn : NoIns M) (k : Ok K F M H) (e : Same (stillF F H M) F') : Keeps K F' (freeF F' M) := by
  have no : ∀ a u, F' a = some u → (∀ d, Mt K F H a d → H a = some u → M a ≠ some d) → freeF F' M a = some u := fun a u h q => by
    cases hm : M a with
    | none => rw [free_eq hm]; exact h
    | some d =>
      obtain ⟨u2, h1, h2, h3⟩ := still_kind k e hm
      rw [h] at h1; cases h1
      exact absurd hm (q d h3 h2)
  have notT : ∀ {a : Addr} {xs : List V} {d : D}, Mt K F H a d → H a ≠ some (.tup xs) := fun {a xs d} m h => by
    cases d <;> first
      | exact m.elim
      | (obtain ⟨_, q, _⟩ := m; rw [h] at q; cases q; done)
      | (obtain ⟨_, _, q, _⟩ := m; rw [h] at q; cases q; done)
  have notF : ∀ {a : Addr} {o : Obj} {v : HO} {d : D}, Mt K F H a d → H a ≠ some (.frz o v) := fun {a o v d} m h => by
    cases d <;> first
      | exact m.elim
      | (obtain ⟨_, q, _⟩ := m; rw [h] at q; cases q; done)
      | (obtain ⟨_, _, q, _⟩ := m; rw [h] at q; cases q; done)
  refine ⟨fun a xs h => ?_, fun a C dx fs h => ?_, fun a o xs h => ?_⟩
  · rcases h with (h | ⟨o, h⟩) | h
    · exact .inl (.inl (no a _ h fun d m z => absurd z (notT m)))
    · exact .inl (.inr ⟨o, no a _ h fun d m z => absurd z (notF m)⟩)
    · exact .inr h
  · refine no a _ h fun d m z q => ?_
    cases d <;> first
      | exact m.elim
      | exact hn _ _ _ q
      | (obtain ⟨_, y, _⟩ := m; rw [z] at y; cases y; done)
      | (obtain ⟨_, _, y, _⟩ := m; rw [z] at y; cases y; done)
  · exact no a _ h fun d m z => absurd z (notF m)
theorem free_same (k : Ok K F M H) (e : Same (stillF F H M) F') : Same F (freeF F' M) := fun a u h => by
  have : M a = none := by
    cases hm : M a with
    | none => rfl
    | some d => rw [(k.mt a d hm).1] at h; cases h
  rw [free_eq this]
  exact e _ _ (still_same k _ _ h)
theorem free_ok (k : Ok K F M H) (e : Same (stillF F H M) F') {M' : Mem} (k' : Ok K F' M' H') : Ok K (freeF F' M) M H' := by
  refine ⟨fun a u h => ?_, fun a d hd => ?_⟩
  · cases hm : M a with
    | none => rw [free_eq hm] at h; exact k'.ex _ _ h
    | some d => unfold freeF at h; rw [hm] at h; cases h
  · obtain ⟨u, h1, h2, h3⟩ := still_kind k e hd
    refine ⟨by unfold freeF; rw [hd]; rfl, h3.mono (free_same k e) ((k'.ex _ _ h1).trans h2.symm)⟩
theorem ex_stillN (hn : NoIns M) (hs : StillE M ρ ρ') (h : EX X J e ρ' Mz fun d _ => lf d = true ∧ P d M) : EX X J e ρ M P :=
  ex_of h fun F σ H Q st k => ⟨stillF F H M, ⟨hs.en st.ok st.en, still_ok st.ok, J.mono _ _ (still_same st.ok) st.gh⟩, fun d v M' F' H' p e1 o1 r1 => k d v M _ H' p.2 (free_same st.ok e1) (free_ok st.ok e1 o1) (rp_lf (free_keeps hn st.ok e1) d v p.1 r1)⟩
end
theorem law_startTN {T : TrX} {K : PySem.W.Frag} {tl : TbL} {H : Hp} {a : Addr} {ns : List Int} (h1 : tbOne K tl = true) (hS : SqL K H a (ns.map V.int)) (hT : ∀ x ∈ tl, H (ctA K x.1).2 = some (.tbl #[])) (ht : ∀ M, TbM K tl M → NoIns M → T [.scr ns] [] M (fun d _ => d = .bl true) noX) :
    ∃ F M ds, Ok K F M H ∧ Rps K F [.ref a] ds ∧ T ds [] M (fun d _ => d = .bl true) noX := by
  have nT : ∀ b, (∀ x ∈ tl, (ctA K x.1).2 ≠ b) → hid K tl H b = H b := fun b h => if_neg (fun z => by
    obtain ⟨x, hx, e⟩ := List.any_eq_true.mp z
    exact h x hx (beq_iff_eq.mp e))
  refine ⟨hid K tl H, tbMem K tl, [.scr ns], ⟨fun b u e => ?_, fun b d e => ?_⟩, .cons (.scr ?_) .nil, ht _ (tbMem_ok h1) noins_tb⟩
  · unfold hid at e
    split at e
    · cases e
    · exact e
  · obtain ⟨x, hx, rfl, rfl⟩ := tbMem_in e
    have hh : (tl.any fun y => (ctA K y.1).2 == (ctA K x.1).2) = true := List.any_eq_true.mpr ⟨x, hx, beq_iff_eq.mpr rfl⟩
    refine ⟨if_pos hh, #[], hT x hx, trivial, fun pos cv z => ?_⟩
    have z : codeAmong pos [] = some cv := z
    simp [codeAmong] at z
  · rcases hS with hS | hS
    · refine .inl ?_
      rcases hS with hS | ⟨o, hS⟩
      · exact .inl ((nT a fun x hx e => by rw [← e, hT x hx] at hS; cases hS).trans hS)
      · exact .inr ⟨o, (nT a fun x hx e => by rw [← e, hT x hx] at hS; cases hS).trans hS⟩
    · exact .inr hS
end DX
namespace DX
open PySem PySem.Spec L2 PyProof.Rows StX LamX
/-- the instances that change here are of these classes -/
def InsIn (L : List Addr) (M : Mem) : Prop := ∀ a C gs, M a = some (.ins C gs) → C ∈ L
mutual
/-- without lists and dicts, and without instances of these classes -/
def lfN (L : List Addr) : D → Bool
  | .non => true
  | .bl _ => true
  | .int _ => true
  | .str _ => true
  | .tup ds => lfsN L ds
  | .stup ds => lfsN L ds
  | .ins C gs => decide (C ∉ L) && lfkN L gs
  | _ => false
def lfsN (L : List Addr) : List D → Bool
  | [] => true
  | d :: ds => lfN L d && lfsN L ds
def lfkN (L : List Addr) : List (Str × D) → Bool
  | [] => true
  | (_, d) :: ds => lfN L d && lfkN L ds
end
structure KeepsN (L : List Addr) (K : PySem.W.Frag) (F F2 : Hp) : Prop where
  t : ∀ a xs, SqT K F a xs → SqT K F2 a xs
  i : ∀ a C dx fs, C ∉ L → F a = some (.ins C dx fs) → F2 a = some (.ins C dx fs)
  s : ∀ a o xs, F a = some (.frz o (.tup xs)) → F2 a = some (.frz o (.tup xs))
section
variable {K : PySem.W.Frag} {F F2 : Hp} {L : List Addr}
mutual
theorem rp_lfN (h : KeepsN L K F F2) : ∀ (d : D) (v : V), lfN L d = true → Rp K F v d → Rp K F2 v d
  | .non, _, _, .non => .non
  | .bl b, _, _, .bl _ => .bl _
  | .int i, _, _, .int _ => .int _
  | .str x, _, _, .str _ => .str _
  | .tup ds, _, q, .tup h1 h2 => .tup (h.t _ _ h1) (rps_lfN h ds _ (by rw [lfN] at q; exact q) h2)
  | .stup ds, _, q, .stup h1 h2 h3 => .stup (h.s _ _ _ h1) h2 (rps_lfN h ds _ (by rw [lfN] at q; exact q) h3)
  | .ins C gs, _, q, .ins h1 h2 => by
    rw [lfN, Bool.and_eq_true] at q
    exact .ins (h.i _ _ _ _ (of_decide_eq_true q.1) h1) (rfs_lfN h gs _ q.2 h2)
  | .lst _, _, q, _ => by simp [lfN] at q
  | .dct _, _, q, _ => by simp [lfN] at q
  | .adr _, _, q, _ => by simp [lfN] at q
  | .ty _, _, q, _ => by simp [lfN] at q
  | .scr _, _, q, _ => by simp [lfN] at q
  | .exn _ _, _, q, _ => by simp [lfN] at q
  | .tbl _, _, q, _ => by simp [lfN] at q
theorem rps_lfN (h : KeepsN L K F F2) : ∀ (ds : List D) (vs : List V), lfsN L ds = true → Rps K F vs ds → Rps K F2 vs ds
  | [], _, _, .nil => .nil
  | d :: ds, _, q, .cons h1 h2 => by
    rw [lfsN, Bool.and_eq_true] at q
    exact .cons (rp_lfN h d _ q.1 h1) (rps_lfN h ds _ q.2 h2)
theorem rfs_lfN (h : KeepsN L K F F2) : ∀ (ds : List (Str × D)) (vs : List (Str × V)), lfkN L ds = true → Rfs K F vs ds → Rfs K F2 vs ds
  | [], _, _, .nil => .nil
  | (x, d) :: ds, _, q, .cons h1 h2 => by
    rw [lfkN, Bool.and_eq_true] at q
    exact .cons (rp_lfN h d _ q.1 h1) (rfs_lfN h ds _ q.2 h2)
end
end
section
variable {X : Cx} {J : Gh} {e o : Expr} {es : List Expr} {kws : List Keyword} {ks : List Str} {ρ ρ' : DEnv} {M : Mem} {F F' H H' : Hp} {P : D → Mem → Prop} {K : PySem.W.Frag} {L : List Addr} {pos fp p : Pos} {x f : Str} {σ : L2.St} {B : Bd} {RR : Addr → List (Str × D) → DEnv → Mem → Prop}
def TMkM (C : Addr) (T : TrX) (ds zs : List D) (M : Mem) (P : D → Mem → Prop) (R : RX) : Prop := ∀ a, M a = none → T (.adr a :: ds) zs (up M a (.ins C [])) (fun d M2 => d = .non ∧ P (.adr a) M2) R
end
end DX
namespace DX
open PySem PySem.Spec L2 PyProof.Rows StX LamX
section
variable {K : PySem.W.Frag} {F F2 : Hp} {L : List Addr}
end
/-- what changes here holds no instance of these classes -/
def NoIc (L : List Addr) (M : Mem) : Prop := ∀ a d, M a = some d → (∃ ds, d = .lst ds ∧ noIs L ds = true) ∨ ∃ q, d = .tbl q
def Bare (M : Mem) : Prop := ∀ a d, M a = some d → ∃ q, d = .tbl q
section
variable {X : Cx} {J : Gh} {e : Expr} {ρ : DEnv} {M M0 : Mem} {P : D → Mem → Prop} {L : List Addr}
/-- M1 is M0 and what stands at p -/
def InsX (p : Addr) (M0 M1 : Mem) : Prop := ∀ a, a ≠ p → M1 a = M0 a
def rmF (F : Hp) (p : Addr) : Hp := fun a => if a = p then none else F a
end
section
variable {X : Cx} {M : Mem} {P : D → Mem → Prop}
end
end DX
namespace DX
open PySem PySem.Spec L2 PyProof.Rows StX LamX
section
variable {X : Cx} {J : Gh} {ρ ρ' : DEnv} {M M0 : Mem} {P : D → Mem → Prop} {L : List Addr} {x : Str} {pos : Pos} {K : PySem.W.Frag} {F F2 : Hp} {σ : L2.St} {st : Stmt} {rest : List Stmt} {B : Bd}
/-- what comes behind -/
abbrev HoldNx (X : Cx) (J : Gh) (L : List Addr) (p C : Addr) (gs : List (Str × D)) (rest : List Stmt) (B : Bd) (ρ' : DEnv) (M' : Mem) : Prop := ∃ ρ2, NoE L ρ' ρ2 ∧ NoIc L M' ∧ ∃ M2, InsX p M' M2 ∧ M2 p = some (.ins C gs) ∧ GX X J rest ρ2 M2 B
end
section
variable {X : Cx} {M : Mem} {P : D → Mem → Prop} {x dx : D}
def lCut (d : D) (l u : Option Int) : Option (List D) := match d with
  | .lst ds => some (cutD ds l u)
  | _ => none
end
section
variable {X : Cx} {J : Gh} {e o : Expr} {es : List Expr} {kws : List Keyword} {ks : List Str} {ρ : DEnv} {M : Mem} {P : D → Mem → Prop} {pos : Pos} {RR : Addr → List (Str × D) → DEnv → Mem → Prop}
end
end DX
namespace DX
open PySem PySem.Spec L2 PyProof.Rows StX
open Sem (wp)
section
variable {prog : Program} {w : World} {A : Around} {E : Value → Shared → Prop} {s : Shared}
end
def gStar (X : Cx) (k : Nat) (t : TGs) : TG := fun v σ H Q => ∃ a xs, v = .ref a ∧ SqL X.K H a xs ∧ k ≤ xs.length ∧ ∀ q, H q = none → t (xs.take k ++ [.ref q]) σ (upd H q (.lst (xs.drop k))) Q
section
variable {X : Cx} {pos : Pos} {es : List Expr}
end
end DX
namespace DX
open PySem PySem.Spec L2 PyProof.Rows StX
noncomputable section
def dSplit : D → D → Option D
  | .str x, .str y => chk ((y.length == 0) = false ∧ x.length ≤ 1000000) (.lst ((Txt.split x y).map D.str))
  | _, _ => none
/-- int(x), of a text too -/
def dIntT : D → Option D
  | .str x => (PySem.intText? x).bind fun n => chk (x.length ≤ 640) (.int n)
  | d => dInt d
end
def stD1 : D → Option (D × D)
  | .lst (a :: r) => some (a, .lst r)
  | _ => none
def stD2 : D → Option (D × D × D)
  | .lst (a :: b :: r) => some (a, b, .lst r)
  | _ => none
/-- the first k, then the list of the rest -/
def stD (k : Nat) : D → Option (List D)
  | .lst ds => if k ≤ ds.length then some (ds.take k ++ [.lst (ds.drop k)]) else none
  | _ => none
section
variable {X : Cx} {J : Gh} {e o : Expr} {es : List Expr} {ρ : DEnv} {M : Mem} {P : D → Mem → Prop} {B : Bd} {pos apos cpos : Pos} {K : PySem.W.Frag} {F : Hp} {x dx dy z : D}
end
end DX
namespace DX
open PySem PySem.Spec L2 PyProof.Rows StX
def clsIs (C : Addr) : D → Bool
  | .ins C' _ => decide (C' = C)
  | _ => false
def isU (L : List Addr) : D → Option (List (Str × D))
  | .ins C gs => if C ∈ L then some gs else none
  | _ => none
theorem clsIs_pos {C : Addr} {gs : List (Str × D)} : clsIs C (.ins C gs) = true := by unfold clsIs; exact decide_eq_true rfl
theorem clsIs_neg {C C' : Addr} {gs : List (Str × D)} (h : C' ≠ C) : ¬ clsIs C (.ins C' gs) = true := by
  unfold clsIs
  intro q
  exact h (of_decide_eq_true q)
theorem isU_eq {L : List Addr} {d : D} {gs : List (Str × D)} (h : isU L d = some gs) : ∃ C, C ∈ L ∧ d = .ins C gs := by
  unfold isU at h
  split at h
  · rename_i C gs'
    split at h
    · rename_i q; cases h; exact ⟨C, q, rfl⟩
    · cases h
  · cases h
/-- the other side of a comparison -/
def othU (L : List (Addr × Addr)) (x d : D) : Option Unit := if plain d = true then some () else match x, d with
  | .ins C _, .ins C' _ => if (C, C') ∈ L then some () else none
  | _, _ => none
def mthU (L : List Addr) (m : Str) (d : D) : Option (List (Str × D)) := (isU L d).bind fun gs => if gs.lookup m = none then some gs else none
/-- for each class of L the def that is meant -/
def UFn (pg : Program) (w : World) (K : PySem.W.Frag) (mg : Str → Option Value) (base : Heap) (gd : Bool) (ks : List Str) (k : Nat) (L : List Addr) (W : Addr → Addr → Prop) (TU : TrX) : Prop :=
  ∀ C ∈ L, ∃ (g : Addr) (T : TrX), W C g ∧ FnX pg w K mg base gd k g ks T ∧ ∀ gs ds zs M P R, TU (.ins C gs :: ds) zs M P R → T (.ins C gs :: ds) zs M P R
theorem ufn_nil {pg : Program} {w : World} {K : PySem.W.Frag} {mg : Str → Option Value} {base : Heap} {gd : Bool} {ks : List Str} {k : Nat} {W : Addr → Addr → Prop} {TU : TrX} : UFn pg w K mg base gd ks k [] W TU := fun _ h => nomatch h
theorem ufn_cons {pg : Program} {w : World} {K : PySem.W.Frag} {mg : Str → Option Value} {base : Heap} {gd : Bool} {ks : List Str} {j k : Nat} {L : List Addr} {W : Addr → Addr → Prop} {TU T : TrX} {C g : Addr} (h1 : W C g) (G : FnX pg w K mg base gd j g ks T) (hj : j ≤ k) (h2 : ∀ gs ds zs M P R, TU (.ins C gs :: ds) zs M P R → T (.ins C gs :: ds) zs M P R)
    (h : UFn pg w K mg base gd ks k L W TU) : UFn pg w K mg base gd ks k (C :: L) W TU := fun C' hC => by
  rcases List.mem_cons.mp hC with rfl | hC
  · exact ⟨g, T, h1, G.mono hj, h2⟩
  · exact h C' hC
section
variable {X : Cx} {J : Gh} {e a b o : Expr} {es : List Expr} {kws : List Keyword} {ks : List Str} {ρ : DEnv} {M M1 M2 : Mem} {F F' H H' : Hp} {σ : L2.St} {K : PySem.W.Frag} {pos p apos : Pos} {x m f : Str} {P : D → Mem → Prop} {PA PA' : List D → List D → Mem → Prop} {RR : Addr → List (Str × D) → DEnv → Mem → Prop} {L : List Addr} {TU : TrX} {k : Nat}
/-- o.f, a property, o of one of the classes L -/
theorem ex_propU (hU : UFn X.prog X.w X.K X.mg X.base false [] k L (fun C g => Cls X.K C ∧ ∃ q, PropOf X.K C f q g) TU) (hr : Room (k + 1) X.A)
    (h : EX X J e ρ M fun d M1 => ∃ gs, isU L d = some gs ∧ TU [d] [] M1 P noX) (hab : attributeBase e f X.env (eval e X.env) = eval e X.env := by rfl) : EX X J (.Attribute e f pos) ρ M P := by
  refine ⟨fun pins s σ H Q I ⟨F, st, kt⟩ => ?_⟩
  refine attr_of hab (thn ((pe_any (X := X) (e := e)).run pins s σ H (fun v H1 => ∃ F1 M1 d, Same F F1 ∧ Ok X.K F1 M1 H1 ∧ Rp X.K F1 v d ∧ ∃ gs, isU L d = some gs ∧ TU [d] [] M1 P noX) I (h.go st fun d v M1 F1 H1 q e1 o1 r1 => ⟨F1, M1, d, e1, o1, r1, q⟩)) fun u s1 ⟨y, H1, I1, ry, F1, M1, d, e1, o1, rd, gs, hi, t⟩ => ?_)
  obtain ⟨C, hC, rfl⟩ := isU_eq hi
  obtain ⟨g, T, ⟨c, q, hp⟩, G, hT⟩ := hU C hC
  have t := hT _ _ _ _ _ _ t
  obtain ⟨q1, dx, fs, rfl, h1, h2⟩ := (Is.frz (M := M1)).get o1 rd
  obtain rfl : u = Value.ref q1 := ry
  obtain ⟨mA, O, _, _, _, _⟩ := ins_get I1.hok h1
  obtain ⟨od, J0, _⟩ := O.look
  obtain ⟨rest, hrec⟩ := hp.rec_
  have I2 := I1.tok (s1.toks + 1)
  have hc : (PySem.W.clsIn X.K C).isSome = true := by
    obtain ⟨cd, hc, _⟩ := PySem.W.any_some c.hd
    rw [hc]; rfl
  refine PySem.W.get_bind I1.kIn J0 (PySem.W.plainGet_of (c.get f)).1 (PySem.W.findObj_data hc hp.at_ hp.get hp.tak) (PySem.W.plainGet_of (c.get f)).2 (wpAny_call (PySem.W.prop_get (s := { s1 with toks := s1.toks + 1 }) I1.kIn hrec ?_))
  refine codeAny_mono (fnR_ofX G X.A.in1 X.stack { s1 with toks := s1.toks + 1 } H1 [.ref q1] [V.ref q1] Q (fun _ _ _ => False) hr.in1 I2.env0.in1 (.cons rfl .nil) ⟨F1, M1, [.ins C gs], P, noX, o1, .cons rd .nil, t, kt.to e1, Kx.no⟩) fun res s' end_ => ?_
  match res, end_ with
  | .error er, end_ => exact (run_inner.XE_no I2 end_).elim
  | .ok (.ret u), end_ =>
    obtain ⟨v, H', I3, rv, q3⟩ := I2.after end_
    show wpAny _ _ (handedOut u) _ _ _
    rw [PySem.W.handedOut_of (handed_of rv)]
    exact wpAny_pure ⟨v, H', I3, rv, q3⟩
  | .ok .next, end_ => exact end_.elim
  | .ok .brk, end_ => exact end_.elim
  | .ok .cont, end_ => exact end_.elim
/-- isinstance(o, C) for values of some own classes: what is told of each -/
def isiL (L : List (Addr × Bool)) (d : D) : Option Bool := match d with
  | .ins C' _ => L.lookup C'
  | d => if plain d = true then some false else none
end
end DX
namespace DX
open PySem PySem.Spec L2 PyProof.Rows StX
/-- what is asked of a specification -/
structure ColS (sp : Str) (f : Builtin.Float.FormatSpec) (W : Nat) : Prop where
  ne : (sp.length == 0) = false
  few : sp.length ≤ 10
  asc : ((sp.cps.toList.drop 1).any (· ≥ 128) || (sp.cps.getD 0 0 ≥ 128 && !([60, 62, 61, 94] : List Nat).contains (sp.cps.getD 1 0))) = false
  ps : ∀ name, Builtin.Float.parseFormatSpec sp.cps.toList name 62 = .ok f
  ty : f.type.getD (if (sp.cps.back? == some 0) = true then 0 else 100) = 100
  pr : f.precision = none
  nz : f.noNeg0 = false
  al : f.alt = false
  wi : f.width = some W
  sm : W ≤ 100
  gr : f.grouping = none
  sg : f.sign = none
  fi : f.fill = 32
  an : f.align = 62
open Builtin Builtin.Str Builtin.Int in
/-- {x:>4} -/
noncomputable def fmtW (d : D) (sp : Str) : Option Str := match d with
  | .int i => chk (i.natAbs.log2 < 1920) (intSpecTextOf sp i)
  | _ => none
section
variable {X : Cx} {J : Gh} {e sp1 : Expr} {ρ : DEnv} {M : Mem} {P : D → Mem → Prop} {pos p2 : Pos} {sp : Str}
end
end DX
namespace DX
open PySem PySem.Spec L2
open PyProof.Rows hiding St
section
variable {X : Cx} {J : Gh} {e a b o : Expr} {es : List Expr} {ρ : DEnv} {M M1 : Mem} {F F' H H' : Hp} {σ : St} {K : PySem.W.Frag} {pos p apos : Pos} {x m f : Str} {P : D → Mem → Prop} {B : Bd}
theorem kD_rpJ {k : Key} {v : V} (r : Rp K F v (kD k)) : v = kV k := by
  cases k <;> (cases r; rfl)
/-- d[k] -/
def dGetK (kvs : List (Key × D)) (d : D) : Option D := (keyD d).bind fun k => valD kvs k
theorem ex_getK (hu : X.A.units + 64 < cLine) (h : EX X J a ρ M fun d M1 => EX X J b ρ M1 fun y M2 => ∃ kvs z, Kw M2 d kvs ∧ dGetK kvs y = some z ∧ P z M2) (hs : NoSl b := by intro _ _; rfl) : EX X J (.Subscript a b pos) ρ M P :=
  ex_of (pe_dget (by omega) pe_any pe_any hs) fun F σ H Q st k => h.go st fun d v M1 F1 H1 q e1 o1 r1 => q.go (st.to e1 o1) fun y u M2 F2 H2 q2 e2 o2 r2 => by
    obtain ⟨kvs, z, w, hz, q2⟩ := q2
    obtain ⟨ky, hk, hz⟩ := Option.bind_eq_some_iff.mp hz
    rw [keyD_eq hk] at r2
    obtain rfl := kD_rpJ r2
    obtain ⟨q, vs, rfl, h1, h2⟩ := w.get o2 (r1.mono e2)
    rcases Rks.get (k := ky) h2 with ⟨_, h3⟩ | ⟨v', d', h3, h4, h5⟩
    · rw [h3] at hz; cases hz
    · rw [h4] at hz; cases hz
      exact ⟨q, v', rfl, by rw [← h3]; exact DGet.k h1, k _ _ _ _ _ q2 (e1.trans e2) o2 h5⟩
/-- k in d -/
def dInK (kvs : List (Key × D)) (d : D) : Option Bool := (keyD d).map fun k => (valD kvs k).isSome
theorem od_inK (hu : X.A.units + 64 < cLine) {x y : D} {kvs : List (Key × D)} {t : Bool} (w : Kw M y kvs) (h : dInK kvs x = some t) (q : P (.bl t) M) : OD X (compareOp .In) x y M P :=
  ⟨fun v u H Q => ∃ F, Ok X.K F M H ∧ Rp X.K F v x ∧ Rp X.K F u y ∧ Kt X.K F P Q, fun pins s σ H v0 u0 v u Q I rv ru ⟨F, o, rx, ry, kt⟩ => by
    obtain ⟨ky, hk, rfl⟩ := Option.map_eq_some_iff.mp h
    rw [keyD_eq hk] at rx
    obtain rfl := kD_rpJ rx
    obtain ⟨a, vs, rfl, h1, h2⟩ := w.get o ry
    obtain rfl : u = Value.ref a := ru
    have e : (valV vs ky).isSome = (valD kvs ky).isSome := by
      rcases Rks.get (k := ky) h2 with ⟨h3, h4⟩ | ⟨v', d', h3, h4, h5⟩
      · rw [h3, h4]; rfl
      · rw [h3, h4]; rfl
    exact d_in (by omega) I (DGet.k h1) rv fun s3 I3 => ⟨.bl (valV vs ky).isSome, H, I3, rfl, by rw [e]; exact kt _ _ _ _ _ q (Same.refl F) o (.bl _)⟩, fun F H v u Q o rx ry kt => ⟨F, o, rx, ry, kt⟩⟩
/-- d[k] = v -/
noncomputable def dPutK (kvs : List (Key × D)) (d v : D) : Option (List (Key × D)) := (keyD d).bind fun k => chk (kvs.length < 1000000) (putD kvs k v)
end
def mapKO (f : D → Option (Key × D)) : List D → Option (List (Key × D))
  | [] => some []
  | d :: ds => (f d).bind fun p => (mapKO f ds).map fun r => p :: r
section
variable {X : Cx} {J : Gh} {ρ : DEnv} {M : Mem} {F F' H H' : Hp} {σ : St} {K : PySem.W.Frag} {pos p : Pos} {P : D → Mem → Prop}
variable {scope : Scope} {tg iter kx vx : Expr}
/-- {kx: vx for tg in iter}: the pairs one by one, nothing else changes -/
def DcW (X : Cx) (J : Gh) (scope : Scope) (vs : List Nat) (tg kx vx : Expr) (ρ : DEnv) (PE : List (Key × D) → Mem → Prop) (ds : List D) (M1 : Mem) : Prop := ∃ (f : D → Option (Key × D)) (ps : List (Key × D)), mapKO f ds = some ps ∧ ds.length ≤ 1000000 ∧
  (∀ d kv acc Dl, f d = some kv → M1 Dl = none → AsB X scope vs tg d (cuts ρ vs) fun ρ2 => EXb X J scope kx ρ2 (up M1 Dl (.dct acc)) fun y M3 => y = kD kv.1 ∧ M3 = up M1 Dl (.dct acc) ∧ EXb X J scope vx ρ2 (up M1 Dl (.dct acc)) fun z M4 => z = kv.2 ∧ M4 = up M1 Dl (.dct acc)) ∧ PE (mergeD [] ps) M1
variable {B : Bd}
theorem kw_vw {M : Mem} {x : D} {l : List (Key × D)} (w : Vw M x (.dct l)) : Kw M x l := by
  cases w with
  | id => exact .id
  | ad h _ => exact .ad h
theorem kw_of {M : Mem} {x y : D} {l : List (Key × D)} (w : Vw M x y) (h : dctD y = some l) : Kw M x l := by
  rw [dctD_eq h] at w
  exact kw_vw w
end
end DX
namespace DX
open PySem PySem.Spec L2
open PyProof.Rows hiding St
section
variable {X : Cx} {J : Gh} {ρ : DEnv} {M M1 : Mem} {F F' H H' : Hp} {σ : St} {K : PySem.W.Frag} {P : D → Mem → Prop}
def dDictL (d : D) : Option (List (Key × D)) := (lstD d).bind fun l => (kvsD l).bind fun kv => some (mergeD [] kv)
end
end DX
namespace DX
open PySem PySem.Spec L2 PyProof.Rows StX
/-- a def that says super(): it has captured its class Dc in the cell cc -/
structure FunC (K : PySem.W.Frag) (x qual : Str) (params : Arguments) (body : List Stmt) (scope : Scope) (dvs : List V) (file : Str) (f c cc Dc : Addr) : Prop where
  ex : ∃ (oc : Value) (od : Option Addr) (dV kV doc pm : Value) (an : Option Addr) (ct : Value) (osl : Array (Option Value)),
    K.lookup f = some ⟨oc, od, .func (PySem.W.ksFn x qual params body scope dV kV doc pm an (.ref c) ct cc), osl⟩ ∧ PySem.W.codeIn K (.ref c) qual = true ∧ DflV K dV dvs
  kp : PySem.W.keepIn K (.ref f) = true
  cell : ∃ (cl : Value) (cld : Option Addr) (csl : Array (Option Value)), K.lookup cc = some ⟨cl, cld, .cell (some (.ref Dc)), csl⟩
  code : ∃ (cl : Value) (cld : Option Addr) (vs : Array Value) (csl : Array (Option Value)) (tf : Tok), K.lookup c = some ⟨cl, cld, .fields vs, csl⟩ ∧ vs[2]? = some (.str file tf)
  cls : ∃ cd, PySem.W.clsIn K Dc = some cd
/-- how super() finds the name in an instance of C -/
structure SupOf (K : PySem.W.Frag) (C Dc : Addr) (name : Str) (g : Addr) : Prop where
  at_ : PySem.W.ks_superIn K C Dc name = some (some (.ref g))
  ty : PySem.W.typeIn K (.ref g) = some (.type "function")
  fi : PySem.W.fnIn K g = true
  sub : PySem.W.mroIn K C (.ref Dc) = some true
  opq : PySem.W.nsIn K cStatics "thirdparty.any" = some none
/-- what the program says of super and of its own file -/
structure SupP (pg : Program) (file : Str) : Prop where
  file : ((pg.main.file : Str) == file) = true
  top : (pg.main.scope.names.lookup ("super" : Str)).isSome = false
def GXA (X : Cx) (J : Gh) (b0 : List Stmt) (st : List Stmt) (ρ : DEnv) (M : Mem) (B : Bd) : Prop :=
  ∀ (pins : List (Addr × Obj)) (s : Shared) (σ : L2.St) (H : Hp) (E : Ends), L2.Inv X pins σ H s → tSd X.K J ρ M B E σ H → PySem.wpAt (model X.prog X.w) X.A (.func b0 X.env) (execs st X.env) (SP X pins E) X.xe s
theorem bb_super : bootBuiltins "super" = some (.type "super") := by decide +kernel
section
variable {X : Cx} {J : Gh} {e : Expr} {es : List Expr} {rest b0 : List Stmt} {ρ : DEnv} {M : Mem} {B : Bd} {p0 p1 apos pos spos : Pos} {RR : Addr → List (Str × D) → DEnv → Mem → Prop}
theorem gxa_super {x qual sf : Str} {params : Arguments} {body : List Stmt} {scope : Scope} {dvs : List V} {file : Str} {f c cc Dc C g p : Addr} {gs : List (Str × D)} {ar : Arg} {k : Nat} {T : TrX} {pl : Sem Bool}
    (FC : FunC X.K x qual params body scope dvs file f c cc Dc) (SO : SupOf X.K C Dc "__init__" g) (PG : SupP X.prog file) (hm : X.mg "super" = none)
    (hfn : X.env.func = some f) (hcode : X.env.code = .ref c) (hcell : X.env.cells.lookup ("__class__" : Str) = some cc)
    (hks : X.env.kindOf "super" = some .globalImplicit) (hkc : X.env.kindOf "__class__" = some .free) (hka : X.env.kindOf sf = some .local)
    (hp : (params.posonlyargs ++ params.args).head? = some ar) (har : ar.arg = sf) (hN : X.N[0]? = some sf)
    (hρ : look ρ 0 = some (.adr p)) (hM : M p = some (.ins C gs))
    (G : FnX X.prog X.w X.K X.mg X.base false k g [] T) (L : Lets X J RR) (hr : Room k X.A)
    (h : EvA X J pos (e :: es) [] [] ρ M fun ds zs M2 => T (.adr p :: ds) zs M2 (fun d M3 => GX X J rest ρ M3 B) (Rof RR ρ))
    (hi : interactive X.env = false := by rfl) (hs : swapsWith (.Call (.Attribute (.Call (.Name "super" p0) [] [] p1) "__init__" apos) (e :: es) [] pos) none spos.line X.env = pure false := by rfl)
    (he : eval (.Call (.Attribute (.Call (.Name "super" p0) [] [] p1) "__init__" apos) (e :: es) [] pos) X.env = (do
      let ov ← attributeBase (.Call (.Name "super" p0) [] [] p1) "__init__" X.env (eval (.Call (.Name "super" p0) [] [] p1) X.env)
      standAt apos.atName
      let (f, first) ← holding [ov] (getMethod ov "__init__" pl)
      callWith pos f first (backTo pos (starEach (e :: es) X.env)) []) := by rfl) :
    GXA X J b0 (.Expr (.Call (.Attribute (.Call (.Name "super" p0) [] [] p1) "__init__" apos) (e :: es) [] pos) spos :: rest) ρ M B := by
  intro pins s σ H E I ⟨F, st, kd⟩
  obtain ⟨oc, od, dV, kV, doc, pm, an, ct, osl, lk, hcd, _⟩ := FC.ex
  obtain ⟨cl, cld, csl, lcc⟩ := FC.cell
  obtain ⟨cl2, cld2, vs2, csl2, tf, lc, hvs⟩ := FC.code
  obtain ⟨cdD, hcD⟩ := FC.cls
  refine ks_wpAt_execs_cons (ks_wpAt_Expr_any ?_ hi hs)
  refine ks_wpAt_MethodCall ?_ he
  refine ks_wpAt_super_base (ar := ar) hks hkc (by decide) hfn (I.kIn _ _ lk) rfl hp hcode (I.kIn _ _ lc) rfl hvs PG.file PG.top ?_
  obtain ⟨mb, hb1, hb2⟩ := I.mod.blt
  refine PySem.W.ks_loadName_global I.ok.kind hks (Calls.loadGlobal_builtin (by rw [I.ok.glob]; exact I.mod.glob.keeps I.bk) hm (by rw [I.ok.blt]; exact hb1.keeps I.bk) ((hb2 "super" (by decide)).trans bb_super) ⟨rfl, ?_⟩)
  refine wpAny_loadName_free I.ok.kind hkc hcell ⟨_, I.kIn _ _ lcc, rfl⟩ ?_
  obtain ⟨m, hn, hl⟩ := I.loc
  obtain ⟨vp, hσ, rp⟩ := st.en.look hρ
  cases rp
  obtain ⟨u, ru, lu⟩ := hl 0 sf (.ref p) hN hσ (.inl hka)
  obtain rfl : u = Value.ref p := ru
  have hmu : m sf = some (.ref p) := by
    rcases lu with ⟨_, z⟩ | ⟨z, _⟩
    · exact z
    · rcases z with z | z <;> (rw [hka] at z; cases z)
  rw [har]
  refine wpAny_loadName_local I.ok.kind hka hn hmu ?_
  obtain ⟨oD, hD1, hD2⟩ : ∃ oD, s.heap.get? Dc = some oD ∧ oD.data = .cls cdD := by
    unfold PySem.W.clsIn at hcD
    split at hcD
    · rename_i c d cd' sl ho
      cases hcD
      exact ⟨_, I.kIn _ _ ho, rfl⟩
    · cases hcD
  obtain ⟨_, dx, fs, hHp, _⟩ := st.ok.mt _ _ hM
  obtain ⟨mA, O, _, _, _, _⟩ := ins_get I.hok hHp
  have hox := O.obj
  refine ks_wpAny_isType_cls hD1 hD2 ⟨rfl, ?_⟩
  obtain ⟨hh, gg, dd, tt, oss⟩ := s
  refine ks_wpAny_call_super hD1 hD2 hox rfl (fun c z => nomatch z) (PySem.W.looks_mroIn I.kIn SO.sub) (fun h' eso kp => ?_)
  have I1 : L2.Inv X pins σ H ⟨h', gg, dd, tt, oss⟩ := I.kept (s := ⟨hh, gg, dd, tt, oss⟩) (t' := tt) kp
  obtain ⟨cdC, hcC, hal⟩ := Option.bind_eq_some_iff.mp SO.at_
  obtain ⟨og, hog, hogc⟩ : ∃ og, h'.get? g = some og ∧ og.cls = .type "function" := by
    have ht' : (X.K.lookup g).map (·.cls) = some (.type "function") := SO.ty
    cases z : X.K.lookup g with
    | none => rw [z] at ht'; cases ht'
    | some og => rw [z] at ht'; exact ⟨og, I1.kIn _ _ z, Option.some.inj ht'⟩
  have hxC : p ≠ C := by
    rintro rfl
    unfold PySem.W.clsIn at hcC
    split at hcC
    · rename_i c d cd' sl ho
      have e1 := Option.some.inj (hox.symm.trans (I.kIn _ _ ho))
      exact nomatch (congrArg Obj.data e1)
    · cases hcC
  refine ks_wpAny_getMethod_super eso (PySem.W.looks_opaque I1.kIn SO.opq) (l₀ := cdC.mro) ?_ rfl I1.kIn hal hog hogc hxC (by decide) ?_
  · exact fun A Q E s k q => wpAny_bind ((PySem.W.looks_clsIn I1.kIn hcC) A _ E s k (wpAny_pure q))
  have I2 : L2.Inv X ((h'.objs.size, PySem.W.methodObj (.ref g) (.ref p)) :: pins) σ H ⟨h'.push (PySem.W.methodObj (.ref g) (.ref p)), gg, dd, tt + 1, oss⟩ :=
    ClX.pin_new (s := ⟨h', gg, dd, tt, oss⟩) I1 (fun _ _ z => Heap.get?_push_of_some _ z) (Nat.le_refl _) (Heap.get?_push_size h' rfl) (fun v z => nomatch z)
  refine cwAny (first := []) (kw := backToKw pos (keywordEach [] X.env)) (PySem.W.keeps_M (q := h'.objs.size) (f := g) (self := .ref p) SO.fi) (h _ _ σ H F _ _ I2 st fun us ws vs xs ds zs F2 M2 H2 s3 I3 e2 o2 r rx rd rz hlz t => ⟨⟨ClX.pin_at I3, I3.kIn⟩, ?_⟩)
  obtain ⟨W, tk, hW⟩ := L.ex
  have st2 := st.to e2 o2
  have z : wpAny (model X.prog X.w) X.A (call (.ref h'.objs.size) us ([].zip ws)) (EP X ((h'.objs.size, PySem.W.methodObj (.ref g) (.ref p)) :: pins) σ (fun _ H' => ∃ F' M', Same F2 F' ∧ Ok X.K F' M' H' ∧ GX X J rest ρ M' B)) X.xe s3 := by
    refine wpAny_call (PySem.W.method_call (ClX.pin_at I3) (codeAny_mono (G.go X.A X.stack s3 H2 F2 M2 (.adr p :: ds) zs (fun d M3 => GX X J rest ρ M3 B) (Rof RR ρ) (.ref p :: us) ws (.ref p :: vs) xs (fun _ H' => ∃ F' M', Same F2 F' ∧ Ok X.K F' M' H' ∧ GX X J rest ρ M' B) (fun cls d H' => W cls d σ H') (fun z => nomatch z) hr I3.env0 (.cons rfl r) rx (by rw [← rx.length, rz.length]; exact hlz) o2 (.cons (.adr p) rd) rz t (fun d v M' F' H' q e1 o1 _ => ⟨F', M', e1, o1, q⟩) (fun C' gs M' F' H' cls d q e o x => ?_)) fun res s' end_ => ?_))
    · obtain ⟨M3, sb, q⟩ := q
      exact hW _ _ _ _ _ _ _ _ _ ⟨st2.en.mono e, o.sub sb, J.mono _ _ e st2.gh⟩ x q
    · match res, end_ with
      | .error _, end_ => exact tk _ _ (XE.of_call I3 (fun _ _ _ h => h) end_)
      | .ok (.ret _), end_ => exact I3.after end_
      | .ok .next, end_ => exact end_.elim
      | .ok .brk, end_ => exact end_.elim
      | .ok .cont, end_ => exact end_.elim
  refine thn z fun uu s4 ⟨v, H4, I4, rv, F', M', e4, o4, q⟩ => ?_
  refine PySem.wpAt_of_wpAny ?_
  have I6 : L2.Inv X pins σ H4 s4 := I4.pins_of fun q hq => I4.pin q (List.mem_append_right _ (List.mem_cons_of_mem _ hq))
  exact q.run pins s4 σ H4 E I6 ⟨F', ⟨(st2.en.mono e4), o4, J.mono _ _ e4 st2.gh⟩, (kd.to (e2.trans e4))⟩
end
section
variable {pg : Program} {w : World} {K : PySem.W.Frag} {mg : Str → Option Value} {base : Heap} {x qual file : Str} {params : Arguments} {body : List Stmt} {scope : Scope} {f c cc Dc : Addr} {N pn : List Str} {k : Nat} {T : TrB}
abbrev nfS (x qual : Str) (params : Arguments) (body : List Stmt) (scope : Scope) (c cc : Addr) : NdefX.NF := ⟨x, qual, params, body, scope, [("__class__", cc)], c⟩
abbrev cxS (pg : Program) (w : World) (K : PySem.W.Frag) (mg : Str → Option Value) (base : Heap) (N : List Str) (x qual : Str) (params : Arguments) (body : List Stmt) (scope : Scope) (f c cc : Addr) (A : Around) (outer : List PySem.Env) (s : Shared) (H : Hp) (E : XK) : Cx :=
  NdefX.ncx (L2.CX pg w) pg w K mg base N (nfS x qual params body scope c cc) f A outer s H E
def BodyS (pg : Program) (w : World) (K : PySem.W.Frag) (mg : Str → Option Value) (base : Heap) (k : Nat) (x qual : Str) (params : Arguments) (body : List Stmt) (scope : Scope) (f c cc : Addr) (N ps : List Str) (T : TrB) : Prop :=
  ∀ (A : Around) (outer : List PySem.Env) (s : Shared) (H F0 : Hp) (E : XK) (ds : List D) (M : Mem) (P : D → Mem → Prop) (R : RX), Room k (A.deeper (NdefX.envF (nfS x qual params body scope c cc) f s.heap.objs.size)) → T ds M P R →
      Lets (cxS pg w K mg base N x qual params body scope f c cc A outer s H E) (ghF F0) (fun C gs _ M' => R C gs M') →
      PassesOwn (model pg w) (cxS pg w K mg base N x qual params body scope f c cc A outer s H E).A (cxS pg w K mg base N x qual params body scope f c cc A outer s H E).env (cxS pg w K mg base N x qual params body scope f c cc A outer s H E).xe →
      Kx K F0 R E →
      GXA (cxS pg w K mg base N x qual params body scope f c cc A outer s H E) (ghF F0) body body (startD (N.length - ps.length) ds) M ⟨fun _ M' => P .non M', P, fun _ _ => False, fun _ _ => False⟩
theorem fn_dflS {dvs : List V} {dds : List D} (FC : FunC K x qual params body scope dvs file f c cc Dc) (S : NdefX.NScope N pn ["__class__"] scope) (B : BodyS pg w K mg base k x qual params body scope f c cc N pn T) (hd : dvs ≠ []) (np : Nat) (ks : List Str) (ix : List Nat) (hdd : ∀ F, Rps K F dvs dds)
    (h : ∀ (T : Addr) (kV doc pm : Value) (an : Option Addr) (cdv ct : Value) (us its ws : List Value), us.length = np → its.length = dvs.length → ws.length = ks.length →
      ∃ k, bindArgs (PySem.W.ksFn x qual params body scope (.ref T) kV doc pm an cdv ct cc) ⟨us, ks.zip ws⟩ = seqItems? (.ref T) >>= k ∧ k (some its.toArray) = pure (pn.zip (pick (us ++ (its ++ ws)) ix)))
    (hix : ∀ (us its ws : List V), us.length = np → its.length = dvs.length → ws.length = ks.length → (pick (us ++ (its ++ ws)) ix).length = pn.length) :
    FnX pg w K mg base false (k + 1) f ks (fun ds zs M P R => ds.length = np ∧ zs.length = ks.length ∧ T (pick (ds ++ (dds ++ zs)) ix) M P R) := by
  obtain ⟨oc, od, dV, kV, doc, pm, an, ct, osl, lk, hcd, hD⟩ := FC.ex
  obtain ⟨cl, cld, csl, lcc⟩ := FC.cell
  rcases hD with ⟨e, _⟩ | ⟨_, TA, o, its, m, rfl, lT, oT, rT⟩
  · exact absurd e hd
  refine ⟨fun A outer s H F0 M ds zs P R us ws vs xs Q E hg hr e0 rv rx hw o1 rd rz t kt kx => ?_⟩
  obtain ⟨hd0, hzl, t⟩ := t
  have l1 : us.length = np := by rw [← rv.length, rd.length]; exact hd0
  have l2 : its.length = dvs.length := rT.length.symm
  have vl : (pick (vs ++ (dvs ++ xs)) ix).length = pn.length := hix _ _ _ (by rw [rv.length]; exact l1) rfl (by rw [rx.length]; exact hw)
  have vr : Vals (pick (vs ++ (dvs ++ xs)) ix) (pick (us ++ (its ++ ws)) ix) := pick_vals (rv.append (rT.append rx)) ix
  have rds := pick_rps (rd.append ((hdd F0).append rz)) ix
  have KX : K.In s.heap := e0.mod.kin.keeps fun b o e => (e0.bs b o e).1
  have hccB : base.get? cc = some ⟨cl, cld, .cell (some (.ref Dc)), csl⟩ := e0.mod.kin _ _ lcc
  refine codeAny_call_function hr.depth (KX _ _ lk) rfl S.co S.gen rfl (PySem.W.codeRec_of KX hcd) ?_
  obtain ⟨kk, e1, e2⟩ := h TA kV doc pm an (.ref c) ct us its ws l1 l2 hw
  have lo := looks_items (M := model pg w) KX lT oT (.of_pure e2)
  rw [e1]
  refine lo.here ?_
  have lim : s.heap.NoLimit := e0.mod.nolimit.keeps fun b o e => (e0.bs b o e).1
  refine wpAny_newFunctionEnv S.nocell (fun ⟨n, _⟩ hy => S.par n (List.of_mem_zip hy).1) (fun h₁ hns hsb => ⟨lim.fresh _ hsb, ?_⟩) S.kind
  show codeAny _ _ (.func body (NdefX.envF (nfS x qual params body scope c cc) f s.heap.objs.size)) _ _
  refine ks_codeAny_funcAt ?_
  have kp : ∀ b o, s.heap.get? b = some o → h₁.get? b = some o := fun b o e => hsb.extBut b o (Nat.ne_of_lt (Heap.lt_size e)) (Heap.get?_push_of_some _ e)
  have CA : NdefX.CellsAt [(("__class__" : Str), cc)] ["__class__"] [none] s.heap H := by
    have key : ∀ y a, [(("__class__" : Str), cc)].lookup y = some a → y = "__class__" ∧ a = cc := fun y a e => by
      have := PySem.mem_of_lookup e
      rw [List.mem_singleton] at this
      exact ⟨congrArg Prod.fst this, congrArg Prod.snd this⟩
    refine ⟨rfl, fun y a e => ?_, fun y z a e1 e2 => (key _ _ e1).1.trans (key _ _ e2).1.symm, fun i y e => ?_⟩
    · obtain ⟨_, rfl⟩ := key _ _ e
      exact ⟨(e0.bs _ _ hccB).2, _, _, (e0.bs _ _ hccB).1, rfl⟩
    · cases i with
      | zero =>
        cases e
        exact ⟨cc, rfl, fun v ev => nomatch ev⟩
      | succ i => simp at e
  have I : L2.Inv (cxS pg w K mg base N x qual params body scope f c cc A outer s H E) [] (NdefX.startF N (pick (vs ++ (dvs ++ xs)) ix) [none]) H { s with heap := h₁, toks := s.toks + (pn.zip (pick (us ++ (its ++ ws)) ix)).length } := NdefX.inv_startN S hr.hd e0 vl vr CA hns kp
  have hN1 : pn.length + 1 ≤ N.length := by
    have q := congrArg List.length S.pre
    rw [List.length_take, List.length_append] at q
    simp at q
    omega
  have hst : NdefX.startF N (pick (vs ++ (dvs ++ xs)) ix) [none] = (pick (vs ++ (dvs ++ xs)) ix).map some ++ List.replicate (N.length - pn.length) none := by
    unfold NdefX.startF
    rw [vl, show N.length - pn.length = (N.length - pn.length - 1) + 1 by omega, List.replicate_succ]
    rfl
  have hB := B A outer s H F0 E _ M P R (hr.deeper _) t ⟨fun cls d _ H => E cls d H, takes_of rfl rfl rfl rfl, fun cls d σ H' F ρ M C gs st x r => kx C gs M F H' cls d r st.gh st.ok x⟩ (passes_of rfl) kx
  have En0 := En.start (N.length - pn.length) rds
  rw [← hst] at En0
  refine ks_wpAt_mono (hB [] _ _ H { nx := fun _ H' => Q .non H', rt := Q } I ⟨F0, ⟨En0, o1, Same.refl F0⟩, ⟨fun F' σ' H' ρ' M' p e en o' => kt _ _ _ _ _ p e o' .non, kt, fun F' σ' H' ρ' M' p => p.elim, fun F' σ' H' ρ' M' p => p.elim⟩⟩) (fun fl s' hs => ?_) fun e s' hs => hs
  have fin : ∀ {σ' : L2.St} {H' : Hp} {v : V} {u : Value}, L2.Inv (cxS pg w K mg base N x qual params body scope f c cc A outer s H E) [] σ' H' s' → L2.RelV v u → Q v H' → CE outer pg w H s Q u s' :=
    fun {σ' H' v u} J rv q => ⟨v, H', J.os, J.bare, J.base, J.hok, rv, q⟩
  cases fl with
  | ret u =>
    obtain ⟨v, σ', H', J, rv, q⟩ := hs
    exact fin J rv q
  | next =>
    obtain ⟨σ', H', J, q⟩ := hs
    exact fin (v := V.non) (u := Value.none) J rfl q
  | brk =>
    obtain ⟨_, _, _, q⟩ := hs
    exact False.elim q
  | cont =>
    obtain ⟨_, _, _, q⟩ := hs
    exact False.elim q
end
end DX
namespace DX
open PySem PySem.Spec L2 PyProof.Rows StX
theorem supB_ok {K : PySem.W.Frag} {a : Addr} {name qual file : Str} {params : Arguments} {body : List Stmt} {scope : Scope} {dvs : List V} (h : supB K a qual file dvs = true) (e : fnWS K a = some (name, qual, params, .stmts body, scope, mainGlobals, [], builtinsNs)) :
    FunC K name qual params body scope dvs file a (supA K a).1 (supA K a).2.1 (supA K a).2.2 := by
  obtain ⟨kp, h⟩ := He.ba h
  obtain ⟨h1, h⟩ := He.ba h
  obtain ⟨h2, h⟩ := He.ba h
  obtain ⟨h3, h4⟩ := He.ba h
  refine ⟨?_, kp, ?_, ?_, Option.isSome_iff_exists.mp h4⟩
  · unfold fnWS at e
    cases q : K.lookup a with
    | none => rw [q] at h1; cases h1
    | some o =>
      obtain ⟨oc, od, dt, osl⟩ := o
      rw [q] at h1 e
      cases dt with
      | func fd =>
        obtain ⟨n1, n2, n3, n4, n5, n6, n7, n8, n9, n10, n11, n12, n13, n14, n15⟩ := fd
        have e2 : (some (n1, n2, n3, n4, n5, n6, ([] : List (Str × Addr)), n15) : He.FnW) = some (name, qual, params, .stmts body, scope, mainGlobals, [], builtinsNs) := e
        simp only [Option.some.injEq, Prod.mk.injEq] at e2
        obtain ⟨h1', h2', h3', h4', h5', h6', _, h8'⟩ := e2
        subst h1' h2' h3' h4' h5' h6' h8'
        have c3 : (decide (n13 = .ref (supA K a).1) && (PySem.W.codeIn K n13 _ && (decide (n7 = [(("__class__" : Str), (supA K a).2.1)]) && He.dflB K n8 dvs))) = true := h1
        obtain ⟨k1, c4⟩ := He.ba c3
        obtain ⟨k2, c5⟩ := He.ba c4
        obtain ⟨k3, k4⟩ := He.ba c5
        have k1 := of_decide_eq_true k1
        have k3 := of_decide_eq_true k3
        subst k1 k3
        exact ⟨oc, od, n8, n9, n10, n11, n12, n14, osl, rfl, k2, He.dflB_ok k4⟩
      | _ => cases h1
  · cases q : K.lookup (supA K a).2.1 with
    | none => rw [q] at h2; cases h2
    | some o =>
      obtain ⟨oc, od, dt, osl⟩ := o
      rw [q] at h2
      cases dt with
      | cell v =>
        cases v with
        | none => cases h2
        | some v =>
          have h2' : decide (v = .ref (supA K a).2.2) = true := h2
          rw [of_decide_eq_true h2']
          exact ⟨oc, od, osl, rfl⟩
      | _ => cases h2
  · cases q : K.lookup (supA K a).1 with
    | none => rw [q] at h3; cases h3
    | some o =>
      obtain ⟨oc, od, dt, osl⟩ := o
      rw [q] at h3
      cases dt with
      | fields vs =>
        have h3' : fileB file vs[2]? = true := h3
        cases r : vs[2]? with
        | none => rw [r] at h3'; cases h3'
        | some v =>
          rw [r] at h3'
          cases v with
          | str fl tf =>
            have h5 : decide (fl = file) = true := h3'
            have h6 := of_decide_eq_true h5
            subst h6
            exact ⟨oc, od, vs, osl, tf, rfl, r⟩
          | _ => cases h3'
      | _ => cases h3
theorem supO_ok {K : PySem.W.Frag} {C Dc : Addr} {name : Str} {g : Addr} (h : supO K C Dc name g = true) : SupOf K C Dc name g := by
  obtain ⟨h1, h⟩ := He.ba h
  obtain ⟨h2, h⟩ := He.ba h
  obtain ⟨h3, h⟩ := He.ba h
  obtain ⟨h4, h5⟩ := He.ba h
  exact ⟨He.eqO_ok h1, of_decide_eq_true h2, h3, of_decide_eq_true h4, He.eqO_ok h5⟩
theorem tup0B_ok {K : PySem.W.Frag} {a : Addr} (h : tup0B K a = true) (F : Hp) : Rps K F [V.ref a] [.tup []] := by
  unfold tup0B at h
  cases q : K.lookup a with
  | none =>
    rw [q] at h
    cases h
  | some o =>
    obtain ⟨oc, od, dt, osl⟩ := o
    rw [q] at h
    cases oc with
    | type c =>
      cases dt with
      | seq its n =>
        obtain ⟨h1, h2⟩ := He.ba (show (decide (c = "tuple") && decide (its.toList = [])) = true from h)
        have e := of_decide_eq_true h2
        refine .cons (.tup (xs := []) (.inr ⟨_, its, n, q, congrArg Value.type (of_decide_eq_true h1), rfl, ?_, ?_⟩) .nil) .nil
        · rw [← Array.length_toList, e]
          exact Nat.zero_le _
        · rw [e]
          exact .nil
      | _ => cases h
    | _ => cases dt <;> cases h
end DX
namespace DX
open PySem PySem.Spec L2 GenW
open PyProof.Rows hiding St
section
variable {M : Model} {A : Around} {R : GenEnd} {Y : Protocol} {n : Nat} {s₀ : Shared} {c : Code} {fs : List Frame} {s : Shared} {env : Env}
  {K : Flow → Sem PySem.Fin} {J : Value → Sem PySem.Fin} {gd : Bool → Bool} {lv : List Value → List Value}
end
section
variable {prog : Program} {w : World} {A : Around} {R : GenEnd} {Y : Protocol} {n : Nat} {s₀ : Shared} {fs : List Frame} {s : Shared} {env : Env}
abbrev noted (env : Env) (e : Value) : Sem PySem.Fin := (do noteFrame e env; theTreesLotGoes e : Sem Unit).wrap (fun _ => .raise e) .raise id id
end
section
variable {X : Cx}
def tGIf (tc : TT) (ta tb : TGn) : TGn := fun D ys σ H => tc σ H fun b H1 => if b = true then ta D ys σ H1 else tb D ys σ H1
def tGFor (wi : TI) (g : TG) (tb : TGn) : TGn := fun D ys σ H => wi σ H fun J H1 => ∃ W : Nat → Nat → List V → St → Hp → Prop, (∃ m, W 0 m ys σ H1) ∧ ∀ i m ys σ H, W i m ys σ H →
  (J.stop i H ∧ D.nx ys σ H) ∨ (J.go i H ∧ ∃ N : List V → St → Hp → Prop, (∀ ys' σ' H', N ys' σ' H' → ∃ m', m' < m ∧ W (i + 1) m' ys' σ' H') ∧ ∀ x H', J.yld i H x H' → g x σ H' fun σ2 H2 => tb { D with nx := N, ct := N, bk := D.nx } ys σ2 H2)
end
end DX
namespace DX
open PySem PySem.Spec L2 GenW
open PyProof.Rows hiding St
def GBd.thn (B : GBd) (nx : List D → DEnv → Mem → Prop) : GBd := { B with nx := nx }
section
variable {X : Cx} {J : Gh} {e a b c : Expr} {es : List Expr} {st : Stmt} {rest sts : List Stmt} {ys : List D} {ρ ρ' : DEnv} {M M0 M' : Mem} {F F' H H' : Hp} {σ : St} {B : GBd} {K : PySem.W.Frag} {pos p yp : Pos} {E : GEnds}
end
abbrev TrG := List D → Mem → (List D → Mem → Prop) → Prop
abbrev TrGX := List D → List D → Mem → (List D → Mem → Prop) → Prop
def noK : XK := fun _ _ _ => False
structure GFnX (pg : Program) (w : World) (K : PySem.W.Frag) (mg : Str → Option Value) (base : Heap) (k : Nat) (f : Addr) (ks : List Str) (T : TrGX) : Prop where
  go : ∀ (A : Around) (outer : List PySem.Env) (s : Shared) (H F : Hp) (M : Mem) (ds zs : List D) (cont : List D → Mem → Prop) (us ws : List Value) (vs xs : List V) (Q : List V → Hp → Prop), Room k A → Env0 pg w K mg base A outer s H → Vals vs us → Vals xs ws → ws.length = ks.length →
    Ok K F M H → Rps K F vs ds → Rps K F xs zs → T ds zs M cont → (∀ ys vys M' F' H', cont ys M' → Same F F' → Ok K F' M' H' → Rps K F' vys ys → Q vys H') →
    codeAny (model pg w) A (.call (.ref f) ⟨us, ks.zip ws⟩) (fun r s' => match r with | .ok (.ret u) => GMade pg w k outer H s [] Q noK u s' | _ => False) s
def GBodyX (pg : Program) (w : World) (K : PySem.W.Frag) (mg : Str → Option Value) (base : Heap) (k : Nat) (f : Addr) (qual : Str) (body : List Stmt) (scope : Scope) (N ps : List Str) (T : TrG) : Prop :=
  ∀ (cdv : Value), CodeAt K f cdv → ∀ (A : Around) (outer : List PySem.Env) (s : Shared) (H F0 : Hp) (pn : List (Addr × Obj)) (ds : List D) (M : Mem) (cont : List D → Mem → Prop), Room k (A.deeper (PyProof.Rows.envOfC qual scope s.heap.objs.size f cdv)) → T ds M cont →
    PassesOwn (model pg w) (gcxOf pg w K mg base N qual scope f cdv A outer s H noK pn).A (gcxOf pg w K mg base N qual scope f cdv A outer s H noK pn).env (gcxOf pg w K mg base N qual scope f cdv A outer s H noK pn).xe →
    GGX (gcxOf pg w K mg base N qual scope f cdv A outer s H noK pn) (ghF F0) body [] (startD (N.length - ps.length) ds) M ⟨fun ys _ M' => cont ys M', fun ys d M' => d = .non ∧ cont ys M', fun _ _ _ => False, fun _ _ _ => False⟩
section
variable {pg : Program} {w : World} {K : PySem.W.Frag} {mg : Str → Option Value} {base : Heap} {x qual : Str} {params : Arguments} {body : List Stmt} {scope : Scope} {kws : List (Str × V)} {f : Addr} {fd : FuncData} {N pn : List Str} {k : Nat} {T : TrG}
end
section
variable {X : Cx} {J : Gh} {es : List Expr} {kws : List Keyword} {ks : List Str} {ρ : DEnv} {M : Mem} {pos pos' p p1 : Pos} {x : Str} {P : D → Mem → Prop} {k : Nat} {f : Addr} {T : TrGX}
end
end DX
namespace TupF
open PySem PySem.Spec L2 PyProof.Rows DX
theorem call_tuple_frz {X : Cx} : CallR X (.type "tuple") (fun xs H Q => ∃ p ys, xs = [.ref p] ∧ ((SqL X.K H p ys ∧ ∀ l (ob : Obj), H l = none → (ob.cls = .type "tuple" ∧ ob.dict = none) → Q (.ref l) (upd H l (.frz ob (.tup ys)))) ∨ (SqT X.K H p ys ∧ Q (.ref p) H))) := by
  intro pins s σ H xs us Q I r h
  obtain ⟨p, ys, ex, h⟩ := h
  subst ex
  obtain ⟨u, eu, rx⟩ := vals1 r
  subst eu
  cases rx
  rcases h with ⟨hq, q⟩ | ⟨hq, q⟩
  · obtain ⟨its, rr, pl, hz⟩ := I.list hq
    have hlen := rr.length
    refine call_tuple_list pl.isList (fun h' kp => ?_) (by simp only [List.size_toArray] <;> omega)
    have I1 : Inv X pins σ H { s with heap := h' } := I.kept (t' := s.toks) kp
    refine ⟨.ref h'.objs.size, _, I1.laid (t' := s.toks) (o := .frz { cls := .type "tuple", data := .seq its.toArray } (.tup ys)) (fun b o e => Heap.get?_push_of_some _ e) (Nat.le_refl _) ?_, rfl, q _ _ (I1.hok.fresh (Nat.le_refl _)) ⟨rfl, rfl⟩⟩
    exact ⟨Heap.get?_push_size _ rfl, hz, its, rr, IsTup.new _ _⟩
  · obtain ⟨its, rr, pl, hz⟩ := I.tuple hq
    exact call_tuple_same pl ⟨.ref p, H, I, rfl, q⟩
def tTupF (t : TA) : TE := fun σ H Q => t σ H fun xs H1 => xs.length ≤ sizeLine ∧ ∀ p (ob : Obj), H1 p = none → (ob.cls = .type "tuple" ∧ ob.dict = none) → Q (.ref p) (upd H1 p (.frz ob (.tup xs)))
end TupF
namespace DX
open PySem PySem.Spec L2 PyProof.Rows StX
section
variable {X : Cx} {J : Gh} {es : List Expr} {ρ : DEnv} {M : Mem} {P : D → Mem → Prop} {pos : Pos} {k : Nat} {x dx : D}
theorem cd_tupLS {d : D} {ds : List D} (s : Sl M d ds) (q : P (.stup ds) M) : CD X (.type "tuple") [d] M P :=
  ⟨_, TupF.call_tuple_frz, fun F H vs Q o r k => by
    cases r with
    | cons h1 r =>
      cases r
      obtain ⟨a, xs, rfl, h2, r2⟩ := s.get o h1
      exact ⟨a, xs, rfl, .inl ⟨SqL.of h2, fun l ob hl hc => k _ _ _ _ _ q (o.fixSame hl) (o.fix hl) (.stup upd_same hc (r2.mono (o.fixSame hl)))⟩⟩⟩
theorem cd_tupSS {ds : List D} (q : P (.stup ds) M) : CD X (.type "tuple") [.stup ds] M P :=
  ⟨_, TupF.call_tuple_frz, fun F H vs Q o r k => by
    cases r with
    | cons h1 r =>
      cases r
      cases h1 with
      | stup h2 hc r2 => exact ⟨_, _, rfl, .inr ⟨same_t o.ex (.inl (.inr ⟨_, h2⟩)), k.here q o (.stup h2 hc r2)⟩⟩⟩
/-- tuple(x) for a list, or a tuple whose object is known -/
def sTup : D → Option (List D)
  | .lst ds => some ds
  | .stup ds => some ds
  | _ => none
theorem cd_sTup {l : List D} (w : Vw M x dx) (h : sTup dx = some l) (p : P (.stup l) M) : CD X (.type "tuple") [x] M P := by
  unfold sTup at h
  split at h
  · cases h; exact cd_tupLS w.sl p
  · cases h; exact cd_by w rfl (cd_tupSS p)
  · cases h
@[simp] theorem sTup_l {l : List D} : sTup (.lst l) = some l := rfl
@[simp] theorem sTup_s {l : List D} : sTup (.stup l) = some l := rfl
@[simp] theorem unstD_s {l : List D} : unstD (.stup l) = .tup l := rfl
@[simp] theorem unstD_l {l : List D} : unstD (.lst l) = .lst l := rfl
@[simp] theorem unstD_t {l : List D} : unstD (.tup l) = .tup l := rfl
end
end DX
namespace DX
/-- what a name holds, perhaps: o is known of it -/
def OptIs (o j : Option D) : Prop := ∀ v, o = some v → j = some v
end DX
namespace DX
open PySem PySem.Spec L2 SX
section
variable {i j : Int} {a b : Str} {l m : List D} {x y : D} {p q : Bool}
@[simp] theorem chk_true {α : Type} {x : α} : chk True x = some x := chk_pos trivial
@[simp] theorem dAdd_ii : dAdd (.int i) (.int j) = some (.int (i + j)) := rfl
@[simp] theorem dAdd_ll : dAdd (.lst l) (.lst m) = chk (l.length + m.length ≤ 1000000) (.lst (l ++ m)) := rfl
@[simp] theorem dAdd_tt : dAdd (.tup l) (.tup m) = chk (l.length + m.length ≤ 1000000) (.tup (l ++ m)) := rfl
@[simp] theorem dAdd_ss : dAdd (.str a) (.str b) = chk (a.length + b.length ≤ 1000000) (.str (a ++ b)) := rfl
@[simp] theorem lAdd_ll : lAdd (.lst l) (.lst m) = chk (l.length + m.length ≤ 1000000) (l ++ m) := rfl
@[simp] theorem dSub_ii : dSub (.int i) (.int j) = some (.int (i - j)) := rfl
@[simp] theorem dMul_ii : dMul (.int i) (.int j) = chk (CMul i j) (.int (i * j)) := rfl
@[simp] theorem dMul_li : dMul (.lst l) (.int j) = chk ((-(2 ^ 62) ≤ j ∧ j < 2 ^ 62) ∧ l.length * j.toNat ≤ 1000000) (.lst (List.replicate j.toNat l).flatten) := rfl
@[simp] theorem lMul_li : lMul (.lst l) (.int j) = chk ((-(2 ^ 62) ≤ j ∧ j < 2 ^ 62) ∧ l.length * j.toNat ≤ 1000000) (List.replicate j.toNat l).flatten := rfl
@[simp] theorem dFdiv_ii : dFdiv (.int i) (.int j) = chk (CDiv i j) (.int (i / j)) := rfl
@[simp] theorem dMod_ii : dMod (.int i) (.int j) = chk (0 < j) (.int (i % j)) := rfl
@[simp] theorem dPow_ii : dPow (.int i) (.int j) = chk (CPow i j) (.int (i ^ j.toNat)) := rfl
@[simp] theorem dShl_ii : dShl (.int i) (.int j) = chk (CPow i j) (.int (i * 2 ^ j.toNat)) := rfl
@[simp] theorem dShr_ii : dShr (.int i) (.int j) = chk (0 ≤ j) (.int (i / 2 ^ j.toNat)) := rfl
@[simp] theorem dBand_ii : dBand (.int i) (.int j) = some (.int (Builtin.bitAnd i j)) := rfl
@[simp] theorem dBor_ii : dBor (.int i) (.int j) = some (.int (Builtin.bitOr i j)) := rfl
@[simp] theorem dBxor_ii : dBxor (.int i) (.int j) = some (.int (Builtin.bitXor i j)) := rfl
@[simp] theorem dNeg_i : dNeg (.int i) = some (.int (-i)) := rfl
@[simp] theorem dInv_i : dInv (.int i) = some (.int (Builtin.bitNot i)) := rfl
@[simp] theorem cLt_ii : cLt (.int i) (.int j) = some (decide (i < j)) := rfl
@[simp] theorem cLe_ii : cLe (.int i) (.int j) = some (decide (i ≤ j)) := rfl
@[simp] theorem cGt_ii : cGt (.int i) (.int j) = some (decide (j < i)) := rfl
@[simp] theorem cGe_ii : cGe (.int i) (.int j) = some (decide (j ≤ i)) := rfl
@[simp] theorem cEq_ii : cEq (.int i) (.int j) = some (decide (i = j)) := rfl
@[simp] theorem cEq_bb : cEq (.bl p) (.bl q) = some (decide (p = q)) := rfl
@[simp] theorem cEq_ss : cEq (.str a) (.str b) = some (decide (a = b)) := rfl
@[simp] theorem cEq_si : cEq (.str a) (.int j) = some false := rfl
@[simp] theorem cEq_is : cEq (.int j) (.str a) = some false := rfl
@[simp] theorem cEq_bs : cEq (.bl p) (.str a) = some false := rfl
@[simp] theorem cEq_sb : cEq (.str a) (.bl p) = some false := rfl
@[simp] theorem cEq_nn : cEq .non .non = some true := rfl
@[simp] theorem cEq_ni : cEq .non (.int j) = some false := rfl
@[simp] theorem cEq_in : cEq (.int j) .non = some false := rfl
@[simp] theorem cEq_ns : cEq .non (.str a) = some false := rfl
@[simp] theorem cEq_sn : cEq (.str a) .non = some false := rfl
@[simp] theorem cNe_of {x y : D} : cNe x y = (cEq x y).map (!·) := rfl
@[simp] theorem cNin_of {x y : D} : cNin x y = (cIn x y).map (!·) := rfl
@[simp] theorem cIsnt_of {x y : D} : cIsnt x y = (cIs x y).map (!·) := rfl
@[simp] theorem cIs_bb : cIs (.bl p) (.bl q) = some (decide (p = q)) := rfl
@[simp] theorem cIs_nn : cIs .non .non = some true := rfl
@[simp] theorem cIs_tn : cIs (.tup l) .non = some false := rfl
@[simp] theorem cIs_ln : cIs (.lst l) .non = some false := rfl
@[simp] theorem cIs_in : cIs (.int i) .non = some false := rfl
@[simp] theorem cIs_sn : cIs (.str a) .non = some false := rfl
@[simp] theorem dTru_b : dTru (.bl p) = some p := rfl
@[simp] theorem dTru_i : dTru (.int i) = some (i != 0) := rfl
@[simp] theorem dTru_l : dTru (.lst l) = some (!l.isEmpty) := rfl
@[simp] theorem dTru_t : dTru (.tup l) = some (!l.isEmpty) := rfl
@[simp] theorem dTru_n : dTru .non = some false := rfl
@[simp] theorem dIx_li : dIx (.lst l) (.int i) = atI l i := rfl
@[simp] theorem dIx_ti : dIx (.tup l) (.int i) = atI l i := rfl
@[simp] theorem dIx_si : dIx (.str a) (.int i) = (atI a.cps.toList i).bind fun n => chk (a.length ≤ 1000000) (.str ⟨#[n]⟩) := rfl
@[simp] theorem dEnd_i : dEnd (.int i) = some i := rfl
@[simp] theorem dCut_l {u v : Option Int} : dCut (.lst l) u v = some (.lst (cutD l u v)) := rfl
@[simp] theorem dCut_t {u v : Option Int} : dCut (.tup l) u v = some (.tup (cutD l u v)) := rfl
@[simp] theorem dCut_s {u v : Option Int} : dCut (.str a) u v = chk (a.cps.toList.length ≤ 1000000) (.str (S (cutA a.cps.toList u v))) := rfl
@[simp] theorem dLen_l : dLen (.lst l) = some (.int (l.length : Int)) := rfl
@[simp] theorem dLen_t : dLen (.tup l) = some (.int (l.length : Int)) := rfl
@[simp] theorem dLen_s : dLen (.str a) = chk (a.length ≤ 1000000) (.int (a.length : Int)) := rfl
@[simp] theorem dAbs_i : dAbs (.int i) = some (.int (if i < 0 then -i else i)) := rfl
@[simp] theorem dInt_i : dInt (.int i) = some (.int i) := rfl
@[simp] theorem dInt_b : dInt (.bl p) = some (.int (if p = true then 1 else 0)) := rfl
@[simp] theorem lList_l : lList (.lst l) = some l := rfl
@[simp] theorem lList_t : lList (.tup l) = some l := rfl
@[simp] theorem lListM_l : lListM (.lst l) = some l := rfl
@[simp] theorem lListM_t : lListM (.tup l) = some l := rfl
@[simp] theorem dIter_l : dIter (.lst l) = some l := rfl
@[simp] theorem dIter_t : dIter (.tup l) = some l := rfl
@[simp] theorem dIter_s : dIter (.str a) = some (signs a) := rfl
@[simp] theorem items_l : itemsD (.lst l) = some l := rfl
@[simp] theorem items_t : itemsD (.tup l) = some l := rfl
@[simp] theorem dEnum_l : dEnum (.lst l) = some (enumD 0 l) := rfl
@[simp] theorem dEnum_t : dEnum (.tup l) = some (enumD 0 l) := rfl
@[simp] theorem dZip_l : dZip (.lst l) (.lst m) = some (zipD l m) := rfl
@[simp] theorem dZip_tl : dZip (.tup l) (.lst m) = some (zipD l m) := rfl
@[simp] theorem dZip_lt : dZip (.lst l) (.tup m) = some (zipD l m) := rfl
@[simp] theorem dZip_t : dZip (.tup l) (.tup m) = some (zipD l m) := rfl
@[simp] theorem dRange_1 : dRange [.int j] = chk (-1000000 ≤ j ∧ j ≤ 1000000) (rngD 0 j.toNat) := rfl
@[simp] theorem dRange_2 : dRange [.int i, .int j] = chk ((0 ≤ i ∧ i ≤ 1000000) ∧ -1000000 ≤ j ∧ j ≤ 1000000) (rngD i (j - i).toNat) := rfl
@[simp] theorem dRange_3 : dRange [.int i, .int j, .int (-1)] = chk ((-1000000 ≤ i ∧ i ≤ 1000000) ∧ -1000000 ≤ j ∧ j ≤ 1000000) (rngC i (-1) (i - j).toNat) := by simp only [dRange, if_pos]
@[simp] theorem lSet_i {v : D} : lSet l (.int i) v = (ixN l.length i).map fun m => l.set m v := rfl
@[simp] theorem un1_t : un1 (.tup [x]) = some x := rfl
@[simp] theorem un2_t : un2 (.tup [x, y]) = some (x, y) := rfl
@[simp] theorem un3_t {z : D} : un3 (.tup [x, y, z]) = some (x, y, z) := rfl
@[simp] theorem un4_t {z w : D} : un4 (.tup [x, y, z, w]) = some (x, y, z, w) := rfl
@[simp] theorem iOp_ii {f : Int → Int → Int} : iOp f (.int i) (.int j) = some (.int (f i j)) := rfl
@[simp] theorem strD_s : strD (.str a) = some a := rfl
@[simp] theorem lstD_l : lstD (.lst l) = some l := rfl
@[simp] theorem dctD_d {k : List (Key × D)} : dctD (.dct k) = some k := rfl
@[simp] theorem keyD_i : keyD (.int i) = some (.inl i) := rfl
@[simp] theorem keyD_s : keyD (.str a) = some (.inr a) := rfl
@[simp] theorem dMax2_ii : dMax2 (.int i) (.int j) = some (.int (if j > i then j else i)) := rfl
@[simp] theorem dMin2_ii : dMin2 (.int i) (.int j) = some (.int (if j < i then j else i)) := rfl
@[simp] theorem foldO_nil {S : Type} {f : S → D → Option S} {s : S} : foldO f s [] = some s := rfl
@[simp] theorem foldO_cons {S : Type} {f : S → D → Option S} {s : S} {x : D} {xs : List D} : foldO f s (x :: xs) = (f s x).bind fun s' => foldO f s' xs := rfl
@[simp] theorem mapO_nil {f : D → Option D} : mapO f [] = some [] := rfl
@[simp] theorem mapO_cons {f : D → Option D} {x : D} {xs : List D} : mapO f (x :: xs) = (f x).bind fun y => (mapO f xs).map fun ys => y :: ys := rfl
@[simp] theorem loopC_nil {S R : Type} {f : S → D → Option (Ctl S R)} {s : S} : loopC f s [] = some (.go s) := rfl
@[simp] theorem ctl_g {S R T : Type} {s : S} {f : S → Option T} {g : R → Option T} : ctl (.go s) f g = f s := rfl
@[simp] theorem ctl_r {S R T : Type} {s : R} {f : S → Option T} {g : R → Option T} : ctl (.ret s) f g = g s := rfl
@[simp] theorem dAll_b {bs : List Bool} : dAll (.lst (bs.map D.bl)) = some (.bl (bs.all id)) := by unfold dAll; simp [blsD_map]
@[simp] theorem dAny_b {bs : List Bool} : dAny (.lst (bs.map D.bl)) = some (.bl (bs.any id)) := by unfold dAny; simp [blsD_map]
@[simp] theorem dSum_i {ns : List Int} : dSum (.lst (ns.map D.int)) = some (.int ns.sum) := by unfold dSum; simp [intsD_map]
theorem cIn_ints {ns : List Int} : cIn (.int i) (.lst (ns.map D.int)) = some (decide (i ∈ ns)) := by
  unfold cIn
  simp [flD, flDs_ints, inV_ints]
end
section
variable {α β : Type} {f : D → Option D} {xs : List D}
theorem mapO_of {l : List α} {e : α → D} {g : α → D} (h : ∀ a ∈ l, f (e a) = some (g a)) : mapO f (l.map e) = some (l.map g) := by
  induction l with
  | nil => rfl
  | cons a l ih =>
    rw [List.map_cons, mapO_cons, h a List.mem_cons_self, Option.bind_some, ih fun b hb => h b (List.mem_cons_of_mem _ hb)]
    rfl
theorem filtO_of {f : D → Option (Option D)} {l : List α} {e g : α → D} {t : α → Bool} (h : ∀ a ∈ l, f (e a) = some (if t a = true then some (g a) else none)) : filtO f (l.map e) = some ((l.filter t).map g) := by
  induction l with
  | nil => rfl
  | cons a l ih =>
    rw [List.map_cons, filtO, h a List.mem_cons_self, Option.bind_some, ih fun b hb => h b (List.mem_cons_of_mem _ hb), List.filter_cons]
    cases t a <;> rfl
theorem Gives.mk {y : α} {Q : α → Prop} (h : Q y) : Gives (some y) Q := ⟨y, rfl, h⟩
theorem Gives.eq {o : Option α} {y : α} {Q : α → Prop} (e : o = some y) (h : Q y) : Gives o Q := ⟨y, e, h⟩
theorem gives_fold {S : Type} {f : S → D → Option S} {xs : List D} {s : S} (I : Nat → S → Prop) (h0 : I 0 s) (h : ∀ i x s, xs[i]? = some x → I i s → Gives (f s x) fun s' => I (i + 1) s') : Gives (foldO f s xs) fun s' => I xs.length s' := by
  induction xs generalizing s I with
  | nil => exact ⟨s, rfl, h0⟩
  | cons x xs ih =>
    rw [foldO_cons]
    refine .bind ((h 0 x s rfl h0).imp fun s' h1 => ?_)
    exact ih (fun i => I (i + 1)) h1 fun i y s2 hy => h (i + 1) y s2 (by simpa using hy)
theorem gives_mapS {S : Type} {f : S → D → Option (D × S)} {xs : List D} {s : S} (I : Nat → List D → S → Prop) (h0 : I 0 [] s) (h : ∀ i x acc s, xs[i]? = some x → I i acc s → Gives (f s x) fun q => I (i + 1) (acc ++ [q.1]) q.2) : Gives (mapS f s xs) fun q => I xs.length q.1 q.2 := by
  have main : ∀ (xs : List D) (s : S) (k : Nat) (acc : List D), I k acc s → (∀ i x acc s, xs[i]? = some x → I (k + i) acc s → Gives (f s x) fun q => I (k + i + 1) (acc ++ [q.1]) q.2) → Gives (mapS f s xs) fun q => I (k + xs.length) (acc ++ q.1) q.2 := by
    intro xs
    induction xs with
    | nil => intro s k acc h0 _; exact ⟨_, rfl, by simpa using h0⟩
    | cons x xs ih =>
      intro s k acc h0 h
      obtain ⟨q, e1, h1⟩ := h 0 x acc s rfl h0
      obtain ⟨q2, e2, h2⟩ := ih q.2 (k + 1) (acc ++ [q.1]) h1 fun i y acc2 s2 hy hI => by
        have := h (i + 1) y acc2 s2 (by simpa using hy) (by rw [show k + (i + 1) = k + 1 + i by omega]; exact hI)
        rw [show k + (i + 1) + 1 = k + 1 + i + 1 by omega] at this
        exact this
      refine ⟨(q.1 :: q2.1, q2.2), by rw [mapS, e1, Option.bind_some, e2]; rfl, ?_⟩
      rw [List.length_cons, show k + (xs.length + 1) = k + 1 + xs.length by omega]
      simpa using h2
  obtain ⟨q, e, h1⟩ := main xs s 0 [] h0 fun i x acc s hx hI => by
    rw [Nat.zero_add] at hI ⊢
    exact h i x acc s hx hI
  exact ⟨q, e, by simpa using h1⟩
end
end DX
namespace My
open PySem PySem.Spec L2 DX SX
noncomputable section
def F_Lpen (x0 : D) : Option (List D) :=
  (dEnd (D.int 63)).bind fun i1 => (dCut x0 none (some i1)).bind fun v2 => (lList v2).bind fun l3 => some [(D.lst l3), (D.int 0), (D.int 0)]
def F_Ldraw (x0 : List D) (x1 : D) : Option (D × List D) :=
  (dIx (D.lst x0) (D.int 2)).bind fun v2 => (cGt v2 (D.int 0)).bind fun t3 => if t3 = true then (dIx (D.lst x0) (D.int 2)).bind fun v4 => (dMod v4 x1).bind fun v5 => (dIx (D.lst x0) (D.int 2)).bind fun v6 => (dFdiv v6 x1).bind fun v7 => (lSet x0 (D.int 2) v7).bind fun l8 => some (v5, l8) else (dIx (D.lst x0) (D.int 1)).bind fun v9 => (dAdd v9 (D.int 1)).bind fun v10 => (lSet x0 (D.int 1) v10).bind fun l11 => (dMul (D.int 36265) v9).bind fun v12 => (dAdd v12 (D.int 1047)).bind fun v13 => ((dIx (D.lst l11) (D.int 0)).bind fun v16 => (cNe v16 (D.lst [])).bind fun t17 => if t17 = true then (dIx (D.lst l11) (D.int 0)).bind fun v18 => (dIx (D.lst l11) (D.int 0)).bind fun v19 => (dLen v19).bind fun v20 => (dMod v9 v20).bind fun v21 => (dIx v18 v21).bind fun v22 => some v22 else some v13).bind fun (r15 : D) => ((dIx (D.lst l11) (D.int 0)).bind fun v25 => (dLen v25).bind fun v26 => (cLt v9 v26).bind fun t27 => if t27 = true then (dAbs r15).bind fun v28 => (dPow (D.int 10) (D.int 18)).bind fun v29 => (cGe v28 v29).bind fun t30 => some t30 else some false).bind fun t31 => if t31 = true then (dAbs r15).bind fun v32 => (dPow (D.int 10) (D.int 18)).bind fun v33 => (dSub v32 v33).bind fun v34 => (dMul (D.int 2) v34).bind fun v35 => (cLt r15 (D.int 0)).bind fun t36 => (dInt (D.bl t36)).bind fun v37 => (dAdd v35 v37).bind fun v38 => (dFdiv v38 x1).bind fun v39 => (lSet l11 (D.int 2) v39).bind fun l40 => (dMod v38 x1).bind fun v41 => some (v41, l40) else (dMod r15 (D.int 2147483497)).bind fun v42 => (dMul (D.int 46971) v9).bind fun v43 => (dAdd v42 v43).bind fun v44 => (dAdd v44 (D.int 155)).bind fun v45 => (dPow v45 (D.int 5)).bind fun v46 => (dMod v46 (D.int 2147483353)).bind fun v47 => (dMul (D.int 2) v9).bind fun v48 => (dAdd v48 (D.int 133)).bind fun v49 => (dMul v47 v49).bind fun v50 => (dMul (D.int 70709) v9).bind fun v51 => (dMul v51 v9).bind fun v52 => (dAdd v50 v52).bind fun v53 => (dAdd v53 (D.int 70)).bind fun v54 => (dPow v54 (D.int 3)).bind fun v55 => (dMod v55 (D.int 2147483549)).bind fun v56 => (dFdiv v56 (D.int 32)).bind fun v57 => (dMod v57 x1).bind fun v58 => some (v58, l11)
def F_Lbits (x0 : List D) (x1 : D) (x2 : D) : Option (D × List D) :=
  (dSub x2 x1).bind fun v1 => (dAdd v1 (D.int 1)).bind fun v2 => (dMin2 (D.int 3) v2).bind fun v3 => (F_Ldraw x0 v3).bind fun v4 => (dAdd x1 v4.1).bind fun v5 => (dSub x2 x1).bind fun v6 => (dAdd v6 (D.int 1)).bind fun v7 => (F_Ldraw v4.2 v7).bind fun v8 => (dAdd x1 v8.1).bind fun v9 => (F_Ldraw v8.2 (D.int 3)).bind fun v10 => (dIx (D.lst [v5, v9, x2]) v10.1).bind fun v11 => some (v11, v10.2)
def F_Lodd (x0 : List D) (x1 : D) : Option (D × List D) :=
  (dAdd x1 (D.int 1)).bind fun v1 => (dPow (D.int 10) (D.int 50)).bind fun v2 => (dLen (D.lst [D.non, (D.bl true), (D.bl false), (D.int (-1)), x1, v1, (D.int 0), (D.str "G"), (D.str "K"), (D.str "P"), (D.str "0"), (D.str ""), (D.lst []), (D.tup [(D.int 0)]), (D.dct []), v2, (D.tup [(D.str "G")]), (D.str "GK")])).bind fun v3 => (F_Ldraw x0 v3).bind fun v4 => (dIx (D.lst [D.non, (D.bl true), (D.bl false), (D.int (-1)), x1, v1, (D.int 0), (D.str "G"), (D.str "K"), (D.str "P"), (D.str "0"), (D.str ""), (D.lst []), (D.tup [(D.int 0)]), (D.dct []), v2, (D.tup [(D.str "G")]), (D.str "GK")]) v4.1).bind fun v5 => some (v5, v4.2)
def F_Lheard (Z : Str → Addr) (x0 : Except Er D) : Option D :=
  (exC x0 (fun e3 => if e3.1 ∈ (["InvalidRow", "InvalidCells", "InvalidOutputs", "InvalidSize", "InvalidStuck", "NoOutput", "InvalidPosition"] : List PySem.Str).map Z then some (.go (D.exn e3.1 e3.2)) else none) (fun v4 => some (.ret (D.lst [v4])))).bind fun c2 => ctl c2 (fun (r1 : D) => ((isiE ((["InvalidRow", "InvalidCells", "InvalidOutputs", "InvalidSize", "InvalidStuck", "NoOutput", "InvalidPosition"] : List PySem.Str).map Z) ((["NoOutput"] : List PySem.Str).map Z) r1).bind fun t8 => (dTru (D.bl t8)).bind fun t9 => if t9 = true then (isiE ((["InvalidRow", "InvalidCells", "InvalidOutputs", "InvalidSize", "InvalidStuck", "NoOutput", "InvalidPosition"] : List PySem.Str).map Z) ((["NoOutput"] : List PySem.Str).map Z) r1).bind fun t11 => (dTru (D.bl t11)).bind fun t12 => if t12 = true then (isiE ((["InvalidRow", "InvalidCells", "InvalidOutputs", "InvalidSize", "InvalidStuck", "NoOutput", "InvalidPosition"] : List PySem.Str).map Z) ((["InvalidRow", "InvalidCells", "InvalidOutputs", "InvalidSize", "InvalidStuck", "InvalidPosition"] : List PySem.Str).map Z) r1).bind fun t13 => (dTru (D.bl t13)).bind fun t14 => some (!t14) else some false else some false).bind fun t15 => if t15 = true then (xflD ((["NoOutput"] : List PySem.Str).map Z) "output" r1).bind fun z16 => some (D.tup [(D.str "output"), z16]) else ((isiE ((["InvalidRow", "InvalidCells", "InvalidOutputs", "InvalidSize", "InvalidStuck", "NoOutput", "InvalidPosition"] : List PySem.Str).map Z) ((["InvalidRow"] : List PySem.Str).map Z) r1).bind fun t19 => (dTru (D.bl t19)).bind fun t20 => if t20 = true then (isiE ((["InvalidRow", "InvalidCells", "InvalidOutputs", "InvalidSize", "InvalidStuck", "NoOutput", "InvalidPosition"] : List PySem.Str).map Z) ((["InvalidRow", "InvalidCells", "InvalidOutputs", "InvalidSize", "InvalidStuck", "InvalidPosition"] : List PySem.Str).map Z) r1).bind fun t22 => (dTru (D.bl t22)).bind fun t23 => if t23 = true then (isiE ((["InvalidRow", "InvalidCells", "InvalidOutputs", "InvalidSize", "InvalidStuck", "NoOutput", "InvalidPosition"] : List PySem.Str).map Z) ((["NoOutput"] : List PySem.Str).map Z) r1).bind fun t24 => (dTru (D.bl t24)).bind fun t25 => some (!t25) else some false else some false).bind fun t26 => if t26 = true then (xflD ((["InvalidRow", "InvalidSize"] : List PySem.Str).map Z) "value" r1).bind fun z27 => some (D.tup [(D.str "row"), z27]) else some (D.tup [(D.str "other")])) (fun v => some v)
def F_is_between (x0 : D) (x1 : D) (x2 : D) : Option (D) :=
  ((dIsi "int" x0).bind fun t2 => (dTru (D.bl t2)).bind fun t3 => if t3 = true then (dIsi "bool" x0).bind fun t5 => (dTru (D.bl t5)).bind fun t6 => (dTru (D.bl (!t6))).bind fun t7 => if t7 = true then (cLe x1 x0).bind fun t9 => if t9 = true then (cLe x0 x2).bind fun t10 => some (D.bl t10) else some (D.bl false) else some (D.bl (!t6)) else some (D.bl t2)).bind fun v11 => some v11
def F_ends_with_letter (x0 : D) : Option (D) :=
  ((dIx x0 (D.int (-1))).bind fun v2 => (dIsi "str" v2).bind fun t3 => (dTru (D.bl t3)).bind fun t4 => if t4 = true then (dIx x0 (D.int (-1))).bind fun v5 => (cIn v5 (D.tup [(D.str "G"), (D.str "K")])).bind fun t6 => some (D.bl t6) else some (D.bl t3)).bind fun v7 => some v7
def F_are_row_positions (x0 : D) (x1 : D) (x2 : D) : Option (D) :=
  (dIter x1).bind fun l2 => (chk (l2.length ≤ 1000000) ()).bind fun _ => (mapO (fun x4 => (dInt x2).bind fun v9 => (F_is_between x4 v9 x0).bind fun v10 => some v10) l2).bind fun y5 => (dAll (D.lst y5)).bind fun v11 => (dTru v11).bind fun t12 => if (!t12) = true then some (D.bl false) else ((dLenSet x1).bind fun v14 => (dLen x1).bind fun v15 => (cEq v14 v15).bind fun t16 => (dTru (D.bl t16)).bind fun t17 => if t17 = true then (dEnd (D.int (-1))).bind fun i18 => (dCut x1 none (some i18)).bind fun v19 => (cNin (D.int 0) v19).bind fun t20 => some (D.bl t20) else some (D.bl t16)).bind fun v21 => some v21
def F_need_row (Z : Str → Addr) (x0 : D) (x1 : D) (x2 : D) : Option (Except Er D) :=
  ((dIsi "tuple" x1).bind fun t3 => (dTru (D.bl t3)).bind fun t4 => if (!t4) = true then some true else (cEq x1 (D.tup [])).bind fun t5 => some t5).bind fun t6 => if t6 = true then some (.error (Z "InvalidRow", [("value", x1)])) else (((dTru x2).bind fun t10 => if (!t10) = true then (F_ends_with_letter x1).bind fun v11 => (dTru v11).bind fun t12 => some t12 else some false).bind fun t13 => if t13 = true then (dEnd (D.int (-1))).bind fun i14 => (dCut x1 none (some i14)).bind fun v15 => some v15 else some x1).bind fun (r8 : D) => ((F_are_row_positions x0 r8 x2).bind fun v18 => (dTru v18).bind fun t19 => if (!t19) = true then some true else (dLen r8).bind fun v21 => (dLen x1).bind fun v22 => (cLt v21 v22).bind fun t23 => if t23 = true then (cIn (D.int 0) r8).bind fun t24 => some t24 else some false).bind fun t25 => if t25 = true then some (.error (Z "InvalidRow", [("value", x1)])) else some (.ok D.non)
def F_ring_serial_wiring (x0 : D) : Option ((List D × List D)) :=
  ((dAdd x0 (D.int 1)).bind fun v2 => some ((D.int 2), v2)).bind fun v3 => (dRange [v3.1, v3.2]).bind fun l4 => (foldO (fun (s5 : D × List D) x7 => (chk (s5.2.length < 1000000) ()).bind fun _ => (dLen (D.lst (s5.2 ++ [(D.tup [x7, s5.1])]))).bind fun v11 => (dAdd x0 v11).bind fun v12 => some (v12, (s5.2 ++ [(D.tup [x7, s5.1])]))) ((D.int 1), []) l4).bind fun (r6 : D × List D) => (dRange [(D.int 1), x0]).bind fun l14 => (foldO (fun (s15 : D × List D × List D) x17 => (chk (s15.2.1.length < 1000000) ()).bind fun _ => (dLen (D.lst (s15.2.1 ++ [(D.tup [x17, s15.1])]))).bind fun v21 => (dAdd x0 v21).bind fun v22 => (chk (s15.2.2.length < 1000000) ()).bind fun _ => some (v22, (s15.2.1 ++ [(D.tup [x17, s15.1])]), (s15.2.2 ++ [v22]))) (r6.1, r6.2, []) l14).bind fun (r16 : D × List D × List D) => (lAdd (D.lst r16.2.2) (D.lst [r6.1])).bind fun l24 => some (r16.2.1, l24)
def F_serial_wiring (x0 : D) : Option ((List D × List D)) :=
  ((dAdd x0 (D.int 1)).bind fun v3 => some ((D.int 1), v3)).bind fun v4 => (dRange [v4.1, v4.2]).bind fun l5 => (foldO (fun (s6 : List D × List D) x8 => (dIx (D.lst s6.2) (D.int (-1))).bind fun v11 => (chk (s6.1.length < 1000000) ()).bind fun _ => (dLen (D.lst (s6.1 ++ [(D.tup [x8, v11])]))).bind fun v13 => (dAdd x0 v13).bind fun v14 => (chk (s6.2.length < 1000000) ()).bind fun _ => some ((s6.1 ++ [(D.tup [x8, v11])]), (s6.2 ++ [v14]))) ([], [(D.int 0)]) l5).bind fun (r7 : List D × List D) => some (r7.1, r7.2)
def F_chained (x0 : D) (x1 : List D) (x2 : D) (x3 : D) : Option (D × List D) :=
  ((dRev x2).bind fun v1 => some v1).bind fun v2 => (dIter v2).bind fun l3 => (foldO (fun (s4 : D × List D) x6 => (chk (s4.2.length < 1000000) ()).bind fun _ => (dLen (D.lst (s4.2 ++ [(D.tup [x6, s4.1])]))).bind fun v10 => (dAdd x0 v10).bind fun v11 => some (v11, (s4.2 ++ [(D.tup [x6, s4.1])]))) (x3, x1) l3).bind fun (r5 : D × List D) => some (r5.1, r5.2)
def F_is_sequence (x0 : D) : Option (D) :=
  (dIsiT (["tuple", "list"] : List String) x0).bind fun t1 => some (D.bl t1)
def F_is_row (x0 : D) (x1 : D) : Option (D) :=
  ((dIsi "tuple" x0).bind fun t2 => (dTru (D.bl t2)).bind fun t3 => if t3 = true then (dLen x0).bind fun v4 => (cEq v4 x1).bind fun t5 => some (D.bl t5) else some (D.bl t2)).bind fun v6 => some v6
def F_is_cell (x0 : D) (x1 : D) (x2 : D) : Option (D) :=
  ((F_is_row x0 (D.int 2)).bind fun v2 => (dTru v2).bind fun t3 => if t3 = true then (dIx x0 (D.int 0)).bind fun v5 => (dSub x2 (D.int 1)).bind fun v6 => (F_is_between v5 x1 v6).bind fun v7 => (dTru v7).bind fun t8 => if t8 = true then (dIx x0 (D.int 1)).bind fun v9 => (dSub x2 (D.int 1)).bind fun v10 => (F_is_between v9 x1 v10).bind fun v11 => some v11 else some v7 else some v2).bind fun v12 => some v12
def F_checked_cells (Z : Str → Addr) (x0 : D) (x1 : D) (x2 : D) : Option (Except Er D) :=
  ((F_is_sequence x1).bind fun v3 => (dTru v3).bind fun t4 => if (!t4) = true then some true else (dLen x1).bind fun v5 => (cGt v5 (D.int 150)).bind fun t6 => some t6).bind fun t7 => if t7 = true then some (.error (Z "InvalidCells", [("index", D.non)])) else (dEnum x1).bind fun l8 => (loopC (fun (s9 : Unit) x11 => (un2 x11).bind fun p14 => (dAdd x0 (D.int 1)).bind fun v16 => (dAdd v16 p14.1).bind fun v17 => (F_is_cell p14.2 x2 v17).bind fun v18 => (dTru v18).bind fun t19 => if (!t19) = true then some (.ret (.error (Z "InvalidCells", [("index", p14.1)]))) else some (.go ())) () l8).bind fun c12 => ctl c12 (fun (r10 : Unit) => (lList x1).bind fun l20 => some (.ok (D.tup l20))) (fun v => some v)
def F_checked_outputs (Z : Str → Addr) (x0 : D) (x1 : D) (x2 : D) (x3 : D) : Option (Except Er D) :=
  ((F_is_sequence x2).bind fun v3 => (dTru v3).bind fun t4 => if (!t4) = true then some true else (dLen x2).bind fun v5 => (dAdd x0 (D.int 1)).bind fun v6 => (dSub v6 x3).bind fun v7 => (cNe v5 v7).bind fun t8 => some t8).bind fun t9 => if t9 = true then some (.error (Z "InvalidOutputs", [("index", D.non)])) else (dEnum x2).bind fun l10 => (loopC (fun (s11 : Unit) x13 => (un2 x13).bind fun p16 => (dAdd x0 x1).bind fun v18 => (F_is_between p16.2 x3 v18).bind fun v19 => (dTru v19).bind fun t20 => if (!t20) = true then some (.ret (.error (Z "InvalidOutputs", [("index", p16.1)]))) else some (.go ())) () l10).bind fun c14 => ctl c14 (fun (r12 : Unit) => (lList x2).bind fun l21 => some (.ok (D.tup l21))) (fun v => some v)
def F_Ring___init__ (Z : Str → Addr) (x1 : D) (x2 : D) (x3 : D) : Option (Except Er (List (Str × D))) :=
  (mthC (Z "Ring") "LEAST_BITS" (D.ins (Z "Ring") ([] : List (Str × D)))).bind fun g2 => (mthC (Z "Ring") "MOST_BITS" (D.ins (Z "Ring") ([] : List (Str × D)))).bind fun g3 => (F_is_between x1 (D.int 2) (D.int 24)).bind fun v4 => (dTru v4).bind fun t5 => if (!t5) = true then some (.error (Z "InvalidSize", [("value", x1)])) else (chk (([] : List (Str × D)).length < 1000) ()).bind fun _ => (mthC (Z "Ring") "LOWEST" (D.ins (Z "Ring") (putG "bits" x1 ([] : List (Str × D))))).bind fun g7 => (F_checked_cells Z x1 x2 (D.int 1)).bind fun r10 => exC r10 (fun e9 => some (.error e9)) (fun v8 => (chk ((putG "bits" x1 ([] : List (Str × D))).length < 1000) ()).bind fun _ => (isC (Z "Ring") (D.ins (Z "Ring") (putG "joins" v8 (putG "bits" x1 ([] : List (Str × D)))))).bind fun g12 => ((g12 : List (Str × D)).lookup ("joins" : Str)).bind fun z13 => (dLen z13).bind fun v14 => (mthC (Z "Ring") "LOWEST" (D.ins (Z "Ring") (putG "joins" v8 (putG "bits" x1 ([] : List (Str × D)))))).bind fun g15 => (F_checked_outputs Z x1 v14 x3 (D.int 1)).bind fun r18 => exC r18 (fun e17 => some (.error e17)) (fun v16 => (chk ((putG "joins" v8 (putG "bits" x1 ([] : List (Str × D)))).length < 1000) ()).bind fun _ => (chk ((putG "ends" v16 (putG "joins" v8 (putG "bits" x1 ([] : List (Str × D))))).length < 1000) ()).bind fun _ => some (.ok (putG "held" (D.stup []) (putG "ends" v16 (putG "joins" v8 (putG "bits" x1 ([] : List (Str × D)))))))))
def F_Network___init__ (Z : Str → Addr) (x1 : D) (x2 : D) (x3 : D) : Option (Except Er (List (Str × D))) :=
  (mthC (Z "Network") "LEAST_BITS" (D.ins (Z "Network") ([] : List (Str × D)))).bind fun g2 => (mthC (Z "Network") "MOST_BITS" (D.ins (Z "Network") ([] : List (Str × D)))).bind fun g3 => (F_is_between x1 (D.int 1) (D.int 24)).bind fun v4 => (dTru v4).bind fun t5 => if (!t5) = true then some (.error (Z "InvalidSize", [("value", x1)])) else (chk (([] : List (Str × D)).length < 1000) ()).bind fun _ => (mthC (Z "Network") "LOWEST" (D.ins (Z "Network") (putG "bits" x1 ([] : List (Str × D))))).bind fun g7 => (F_checked_cells Z x1 x2 (D.int 0)).bind fun r10 => exC r10 (fun e9 => some (.error e9)) (fun v8 => (chk ((putG "bits" x1 ([] : List (Str × D))).length < 1000) ()).bind fun _ => (isC (Z "Network") (D.ins (Z "Network") (putG "joins" v8 (putG "bits" x1 ([] : List (Str × D)))))).bind fun g12 => ((g12 : List (Str × D)).lookup ("joins" : Str)).bind fun z13 => (dLen z13).bind fun v14 => (mthC (Z "Network") "LOWEST" (D.ins (Z "Network") (putG "joins" v8 (putG "bits" x1 ([] : List (Str × D)))))).bind fun g15 => (F_checked_outputs Z x1 v14 x3 (D.int 0)).bind fun r18 => exC r18 (fun e17 => some (.error e17)) (fun v16 => (chk ((putG "joins" v8 (putG "bits" x1 ([] : List (Str × D)))).length < 1000) ()).bind fun _ => (chk ((putG "ends" v16 (putG "joins" v8 (putG "bits" x1 ([] : List (Str × D))))).length < 1000) ()).bind fun _ => some (.ok (putG "held" (D.stup []) (putG "ends" v16 (putG "joins" v8 (putG "bits" x1 ([] : List (Str × D)))))))))
def F_Faulty_base___init__ (Z : Str → Addr) (x1 : D) (x2 : D) (x3 : D) : Option (Except Er (List (Str × D))) :=
  (mthC (Z "Faulty") "LEAST_BITS" (D.ins (Z "Faulty") ([] : List (Str × D)))).bind fun g2 => (mthC (Z "Faulty") "MOST_BITS" (D.ins (Z "Faulty") ([] : List (Str × D)))).bind fun g3 => (F_is_between x1 (D.int 1) (D.int 24)).bind fun v4 => (dTru v4).bind fun t5 => if (!t5) = true then some (.error (Z "InvalidSize", [("value", x1)])) else (chk (([] : List (Str × D)).length < 1000) ()).bind fun _ => (mthC (Z "Faulty") "LOWEST" (D.ins (Z "Faulty") (putG "bits" x1 ([] : List (Str × D))))).bind fun g7 => (F_checked_cells Z x1 x2 (D.int 0)).bind fun r10 => exC r10 (fun e9 => some (.error e9)) (fun v8 => (chk ((putG "bits" x1 ([] : List (Str × D))).length < 1000) ()).bind fun _ => (isC (Z "Faulty") (D.ins (Z "Faulty") (putG "joins" v8 (putG "bits" x1 ([] : List (Str × D)))))).bind fun g12 => ((g12 : List (Str × D)).lookup ("joins" : Str)).bind fun z13 => (dLen z13).bind fun v14 => (mthC (Z "Faulty") "LOWEST" (D.ins (Z "Faulty") (putG "joins" v8 (putG "bits" x1 ([] : List (Str × D)))))).bind fun g15 => (F_checked_outputs Z x1 v14 x3 (D.int 0)).bind fun r18 => exC r18 (fun e17 => some (.error e17)) (fun v16 => (chk ((putG "joins" v8 (putG "bits" x1 ([] : List (Str × D)))).length < 1000) ()).bind fun _ => (chk ((putG "ends" v16 (putG "joins" v8 (putG "bits" x1 ([] : List (Str × D))))).length < 1000) ()).bind fun _ => some (.ok (putG "held" (D.stup []) (putG "ends" v16 (putG "joins" v8 (putG "bits" x1 ([] : List (Str × D)))))))))
def F_is_state (x0 : D) : Option (D) :=
  ((dIsi "str" x0).bind fun t2 => (dTru (D.bl t2)).bind fun t3 => if t3 = true then (dLen x0).bind fun v5 => (F_is_between v5 (D.int 1) (D.int 1)).bind fun v6 => (dTru v6).bind fun t7 => if t7 = true then (cIn x0 (D.tup [D.str "G", D.str "K", D.str "P"])).bind fun t8 => some (D.bl t8) else some v6 else some (D.bl t2)).bind fun v9 => some v9
def F_checked_stuck (Z : Str → Addr) (x0 : D) (x1 : D) : Option (Except Er D) :=
  (F_is_sequence (unstD x0)).bind fun v2 => (dTru v2).bind fun t3 => if (!t3) = true then some (.error (Z "InvalidStuck", [("index", D.non)])) else (dEnum (unstD x0)).bind fun l4 => (loopC (fun (s5 : D) x7 => (un2 x7).bind fun p10 => ((F_is_row p10.2 (D.int 2)).bind fun v13 => (dTru v13).bind fun t14 => if (!t14) = true then some true else (dIx p10.2 (D.int 0)).bind fun v16 => (dSub x1 (D.int 1)).bind fun v17 => (F_is_between v16 s5 v17).bind fun v18 => (dTru v18).bind fun t19 => if (!t19) = true then some true else (dIx p10.2 (D.int 1)).bind fun v20 => (F_is_state v20).bind fun v21 => (dTru v21).bind fun t22 => some (!t22)).bind fun t23 => if t23 = true then some (.ret (.error (Z "InvalidStuck", [("index", p10.1)]))) else (dIx p10.2 (D.int 0)).bind fun v24 => (dAdd v24 (D.int 1)).bind fun v25 => some (.go v25)) (D.int 0) l4).bind fun c8 => ctl c8 (fun (r6 : D) => (sTup x0).bind fun l26 => some (.ok (D.stup l26))) (fun v => some v)
def F_Faulty___init__ (Z : Str → Addr) (x1 : D) (x2 : D) (x3 : D) (x4 : D) : Option (Except Er (List (Str × D))) :=
  (F_Faulty_base___init__ Z x1 x2 x3).bind fun r3 => exC r3 (fun e2 => some (.error e2)) (fun v1 => (isC (Z "Faulty") (D.ins (Z "Faulty") v1)).bind fun g4 => ((g4 : List (Str × D)).lookup ("joins" : Str)).bind fun z5 => (dLen z5).bind fun v6 => (F_checked_stuck Z x4 v6).bind fun r9 => exC r9 (fun e8 => some (.error e8)) (fun v7 => (chk (v1.length < 1000) ()).bind fun _ => some (.ok (putG "held" v7 v1))))
def F_network_with (Z : Str → Addr) (x0 : D) (x1 : D) (x2 : D) (x3 : D) : Option (Except Er D) :=
  (dInt x3).bind fun v2 => (F_is_between x1 v2 x0).bind fun v3 => (dTru v3).bind fun t4 => if (!t4) = true then some (.error (Z "NoOutput", [("output", x1)])) else (F_need_row Z x0 x2 x3).bind fun r7 => exC r7 (fun e6 => some (.error e6)) (fun v5 => (dTru x3).bind fun t8 => if t8 = true then (F_ring_serial_wiring x0).bind fun v9 => (F_ends_with_letter x2).bind fun v13 => (dTru v13).bind fun t14 => if (!t14) = true then (dEnd (D.int (-1))).bind fun i15 => (dCut x2 none (some i15)).bind fun v16 => (dIx x2 (D.int (-1))).bind fun v17 => (F_chained x0 v9.1 v16 v17).bind fun v18 => (dInt x3).bind fun v19 => (dSub x1 v19).bind fun v20 => (lSet v9.2 v20 v18.1).bind fun l21 => (dTru x3).bind fun t22 => if t22 = true then (F_Ring___init__ Z x0 (D.lst v18.2) (D.lst l21)).bind fun r26 => exC r26 (fun e25 => none) (fun v23 => (chk (lf (D.ins (Z "Ring") v23) = true) ()).bind fun _ => some (.ok (D.ins (Z "Ring") v23))) else (F_Network___init__ Z x0 (D.lst v18.2) (D.lst l21)).bind fun r31 => exC r31 (fun e30 => none) (fun v28 => (chk (lf (D.ins (Z "Network") v28) = true) ()).bind fun _ => some (.ok (D.ins (Z "Network") v28))) else (dLen (D.lst v9.1)).bind fun v34 => (dIx x2 (D.int (-1))).bind fun v35 => (chk (v9.1.length < 1000000) ()).bind fun _ => (dEnd (D.int (-1))).bind fun i37 => (dCut x2 none (some i37)).bind fun v38 => (dLen (D.lst (v9.1 ++ [(D.tup [(D.int 0), (D.int 0)])]))).bind fun v39 => (dAdd x0 v39).bind fun v40 => (F_chained x0 (v9.1 ++ [(D.tup [(D.int 0), (D.int 0)])]) v38 v40).bind fun v41 => (lSet v9.2 x1 v41.1).bind fun l42 => (F_Faulty___init__ Z x0 (D.lst v41.2) (D.lst l42) (D.lst [(D.tup [v34, v35])])).bind fun r46 => exC r46 (fun e45 => some (.error e45)) (fun v43 => some (.ok (D.ins (Z "Faulty") v43))) else (F_serial_wiring x0).bind fun v47 => (F_ends_with_letter x2).bind fun v51 => (dTru v51).bind fun t52 => if (!t52) = true then (dEnd (D.int (-1))).bind fun i53 => (dCut x2 none (some i53)).bind fun v54 => (dIx x2 (D.int (-1))).bind fun v55 => (F_chained x0 v47.1 v54 v55).bind fun v56 => (dInt x3).bind fun v57 => (dSub x1 v57).bind fun v58 => (lSet v47.2 v58 v56.1).bind fun l59 => (dTru x3).bind fun t60 => if t60 = true then (F_Ring___init__ Z x0 (D.lst v56.2) (D.lst l59)).bind fun r64 => exC r64 (fun e63 => none) (fun v61 => (chk (lf (D.ins (Z "Ring") v61) = true) ()).bind fun _ => some (.ok (D.ins (Z "Ring") v61))) else (F_Network___init__ Z x0 (D.lst v56.2) (D.lst l59)).bind fun r69 => exC r69 (fun e68 => none) (fun v66 => (chk (lf (D.ins (Z "Network") v66) = true) ()).bind fun _ => some (.ok (D.ins (Z "Network") v66))) else (dLen (D.lst v47.1)).bind fun v72 => (dIx x2 (D.int (-1))).bind fun v73 => (chk (v47.1.length < 1000000) ()).bind fun _ => (dEnd (D.int (-1))).bind fun i75 => (dCut x2 none (some i75)).bind fun v76 => (dLen (D.lst (v47.1 ++ [(D.tup [(D.int 0), (D.int 0)])]))).bind fun v77 => (dAdd x0 v77).bind fun v78 => (F_chained x0 (v47.1 ++ [(D.tup [(D.int 0), (D.int 0)])]) v76 v78).bind fun v79 => (lSet v47.2 x1 v79.1).bind fun l80 => (F_Faulty___init__ Z x0 (D.lst v79.2) (D.lst l80) (D.lst [(D.tup [v72, v73])])).bind fun r84 => exC r84 (fun e83 => some (.error e83)) (fun v81 => some (.ok (D.ins (Z "Faulty") v81))))
def F_Lis_number (x0 : D) (x1 : D) (x2 : D) : Option (D) :=
  ((dIsi "int" x0).bind fun t2 => (dTru (D.bl t2)).bind fun t3 => if t3 = true then (dIsi "bool" x0).bind fun t5 => (dTru (D.bl t5)).bind fun t6 => (dTru (D.bl (!t6))).bind fun t7 => if t7 = true then (cLe x1 x0).bind fun t9 => if t9 = true then (cLe x0 x2).bind fun t10 => some (D.bl t10) else some (D.bl false) else some (D.bl (!t6)) else some (D.bl t2)).bind fun v11 => some v11
def F_Lis_right_row (x0 : D) (x1 : D) (x2 : D) : Option (D) :=
  ((dIsi "tuple" x2).bind fun t3 => (dTru (D.bl t3)).bind fun t4 => if (!t4) = true then some true else (dLen x2).bind fun v5 => (cEq v5 (D.int 0)).bind fun t6 => some t6).bind fun t7 => if t7 = true then some (D.bl false) else ((cEq x1 (D.int 0)).bind fun t9 => (dTru (D.bl t9)).bind fun t10 => if t10 = true then (dIx x2 (D.int (-1))).bind fun v12 => (dIsi "str" v12).bind fun t13 => (dTru (D.bl t13)).bind fun t14 => if t14 = true then (dIx x2 (D.int (-1))).bind fun v15 => (cIn v15 (D.tup [(D.str "G"), (D.str "K")])).bind fun t16 => some (D.bl t16) else some (D.bl t13) else some (D.bl t9)).bind fun v17 => (dLen x2).bind fun v18 => (dInt v17).bind fun v19 => (dSub v18 v19).bind fun v20 => (dEnd v20).bind fun i21 => (dCut x2 none (some i21)).bind fun v22 => (lList v22).bind fun l23 => (dIter (D.lst l23)).bind fun l25 => (chk (l25.length ≤ 1000000) ()).bind fun _ => (filtO (fun x27 => (F_Lis_number x27 x1 x0).bind fun v32 => (dTru v32).bind fun t33 => if (!t33) = true then some (some x27) else some none) l25).bind fun y28 => (cNe (D.lst y28) (D.lst [])).bind fun t35 => if t35 = true then some (D.bl false) else ((dLenSet (D.lst l23)).bind fun v38 => (dLen (D.lst l23)).bind fun v39 => (cNe v38 v39).bind fun t40 => if t40 = true then some true else (dEnd (D.int (-1))).bind fun i41 => (dCut (D.lst l23) none (some i41)).bind fun v42 => (cIn (D.int 0) v42).bind fun t43 => some t43).bind fun t44 => if t44 = true then some (D.bl false) else ((dTru v17).bind fun t46 => (dTru (D.bl (!t46))).bind fun t47 => if t47 = true then some (D.bl (!t46)) else (cNin (D.int 0) (D.lst l23)).bind fun t48 => some (D.bl t48)).bind fun v49 => some v49
def F_joined_rows (x0 : D) (x1 : D) : Option (D) :=
  (itemsD x0).bind fun l1 => (chk (List.length ((l1 ++ [])) ≤ 1000000) ()).bind fun _ => (dIter x1).bind fun l4 => (loopC (fun (s5 : List D) x7 => ((cNe (D.lst s5) (D.lst [])).bind fun t12 => if t12 = true then (dIx (D.lst s5) (D.int (-1))).bind fun v13 => (cIn v13 (D.tup [(D.int 0), (D.str "G"), (D.str "K")])).bind fun t14 => some t14 else some false).bind fun t15 => if t15 = true then some (.brk s5) else ((cNin x7 (D.lst s5)).bind fun t18 => if t18 = true then (chk (s5.length < 1000000) ()).bind fun _ => some (s5 ++ [x7]) else some s5).bind fun (r17 : List D) => some (.go r17)) (l1 ++ []) l4).bind fun c8 => ctl c8 (fun (r6 : List D) => (lList (D.lst r6)).bind fun l20 => some (D.tup l20)) (fun v => some v)
def F_node_rows (x0 : D) (x1 : D) (x2 : D) : Option (D) :=
  ((dAdd x0 (D.int 1)).bind fun v1 => some v1).bind fun v2 => (dRange [v2]).bind fun l3 => (chk (l3.length ≤ 1000000) ()).bind fun _ => (mapO (fun x5 => some (D.tup [x5])) l3).bind fun y6 => (dEnum x1).bind fun l11 => (foldO (fun (s12 : List D) x14 => (un2 x14).bind fun p17 => (un2 p17.2).bind fun p18 => ((dctD x2).bind fun k21 => (dInK k21 p17.1).bind fun t22 => if t22 = true then ((dctD x2).bind fun k23 => (dGetK k23 p17.1).bind fun v24 => (cEq v24 (D.str "P")).bind fun t25 => if t25 = true then some (D.tup []) else (dctD x2).bind fun k26 => (dGetK k26 p17.1).bind fun v27 => some (D.tup [v27])).bind fun v29 => (chk (s12.length < 1000000) ()).bind fun _ => some (s12 ++ [v29]) else (dIx (D.lst s12) p18.1).bind fun v31 => (dIx (D.lst s12) p18.2).bind fun v32 => (F_joined_rows v31 v32).bind fun v33 => (chk (s12.length < 1000000) ()).bind fun _ => some (s12 ++ [v33])).bind fun (r20 : List D) => some r20) y6 l11).bind fun (r13 : List D) => some (D.lst r13)
def F_Faulty_held_states (Z : Str → Addr) (x0 : D) : Option (D) :=
  (isC (Z "Faulty") x0).bind fun g1 => ((g1 : List (Str × D)).lookup ("held" : Str)).bind fun z2 => (stupD z2).bind fun l3 => (kvsD l3).bind fun k4 => some (D.dct (mergeD [] k4))
def F_Faulty_rows (Z : Str → Addr) (x0 : D) : Option (D) :=
  (isC (Z "Faulty") x0).bind fun g1 => ((g1 : List (Str × D)).lookup ("bits" : Str)).bind fun z2 => (isC (Z "Faulty") x0).bind fun g3 => ((g3 : List (Str × D)).lookup ("joins" : Str)).bind fun z4 => (mthC (Z "Faulty") "held_states" x0).bind fun g5 => (F_Faulty_held_states Z x0).bind fun v6 => (F_node_rows z2 z4 v6).bind fun v7 => ((isC (Z "Faulty") x0).bind fun g8 => ((g8 : List (Str × D)).lookup ("ends" : Str)).bind fun z9 => some z9).bind fun v10 => (dIter v10).bind fun l11 => (chk (l11.length ≤ 1000000) ()).bind fun _ => (mapO (fun x13 => (dIx v7 x13).bind fun v18 => some v18) l11).bind fun y14 => (lList (D.lst y14)).bind fun l19 => some (D.tup l19)
def F_Order_positions (Z : Str → Addr) (x0 : D) : Option (D) :=
  (isC (Z "Order") x0).bind fun g1 => ((g1 : List (Str × D)).lookup ("entries" : Str)).bind fun z2 => some z2
def F_first_ones (x0 : D) : Option (D) :=
  (dIter x0).bind fun l2 => (loopC (fun (s3 : List D) x5 => ((cNe (D.lst s3) (D.lst [])).bind fun t10 => if t10 = true then (dIx (D.lst s3) (D.int (-1))).bind fun v11 => (cEq v11 (D.int 0)).bind fun t12 => some t12 else some false).bind fun t13 => if t13 = true then some (.brk s3) else ((cNin x5 (D.lst s3)).bind fun t16 => if t16 = true then (chk (s3.length < 1000000) ()).bind fun _ => some (s3 ++ [x5]) else some s3).bind fun (r15 : List D) => some (.go r15)) [] l2).bind fun c6 => ctl c6 (fun (r4 : List D) => (lList (D.lst r4)).bind fun l18 => some (D.tup l18)) (fun v => some v)
def F_Order___init__ (Z : Str → Addr) (x1 : D) : Option (Except Er (List (Str × D))) :=
  (dEnum x1).bind fun l1 => (loopC (fun (s2 : Unit) x4 => (un2 x4).bind fun p7 => (mthC (Z "Order") "GREATEST" (D.ins (Z "Order") ([] : List (Str × D)))).bind fun g9 => (F_is_between p7.2 (D.int 0) (D.int 24)).bind fun v10 => (dTru v10).bind fun t11 => if (!t11) = true then some (.ret (.error (Z "InvalidPosition", [("index", p7.1)]))) else some (.go ())) () l1).bind fun c5 => ctl c5 (fun (r3 : Unit) => (F_first_ones x1).bind fun v12 => (chk (([] : List (Str × D)).length < 1000) ()).bind fun _ => some (.ok (putG "entries" v12 ([] : List (Str × D))))) (fun v => some v)
def F_Order___add__ (Z : Str → Addr) (x0 : D) (x1 : D) : Option (D) :=
  (isC (Z "Order") x0).bind fun g1 => ((g1 : List (Str × D)).lookup ("entries" : Str)).bind fun z2 => (itemsD z2).bind fun l3 => (isC (Z "Order") x1).bind fun g4 => ((g4 : List (Str × D)).lookup ("entries" : Str)).bind fun z5 => (itemsD z5).bind fun l6 => (chk (((l3 ++ (l6 ++ []))).length ≤ 1000000) ()).bind fun _ => (F_Order___init__ Z (D.tup (l3 ++ (l6 ++ [])))).bind fun r11 => exC r11 (fun e10 => none) (fun v8 => some (D.ins (Z "Order") v8))
def F_node_orders (Z : Str → Addr) (x0 : D) (x1 : D) : Option (D) :=
  ((dAdd x0 (D.int 1)).bind fun v1 => some v1).bind fun v2 => (dRange [v2]).bind fun l3 => (chk (l3.length ≤ 1000000) ()).bind fun _ => (mapO (fun x5 => (F_Order___init__ Z (D.tup [x5])).bind fun r13 => exC r13 (fun e12 => none) (fun v10 => some (D.ins (Z "Order") v10))) l3).bind fun y6 => (dIter x1).bind fun l15 => (foldO (fun (s16 : List D) x18 => (un2 x18).bind fun p21 => (dIx (D.lst s16) p21.1).bind fun v22 => (dIx (D.lst s16) p21.2).bind fun v23 => (isC (Z "Order") v22).bind fun g24 => (isC (Z "Order") v23).bind fun g25 => (F_Order___add__ Z v22 v23).bind fun v26 => (insA v26).bind fun i27 => (chk (s16.length < 1000000) ()).bind fun _ => some (s16 ++ [v26])) y6 l15).bind fun (r17 : List D) => some (D.lst r17)
def F_Network_orders (Z : Str → Addr) (x0 : D) : Option (D) :=
  (isC (Z "Network") x0).bind fun g1 => ((g1 : List (Str × D)).lookup ("bits" : Str)).bind fun z2 => (isC (Z "Network") x0).bind fun g3 => ((g3 : List (Str × D)).lookup ("joins" : Str)).bind fun z4 => (F_node_orders Z z2 z4).bind fun v5 => ((isC (Z "Network") x0).bind fun g6 => ((g6 : List (Str × D)).lookup ("ends" : Str)).bind fun z7 => some z7).bind fun v8 => (dIter v8).bind fun l9 => (chk (l9.length ≤ 1000000) ()).bind fun _ => (mapO (fun x11 => (dIx v5 x11).bind fun v16 => some v16) l9).bind fun y12 => (lList (D.lst y12)).bind fun l17 => some (D.tup l17)
def F_Ring_orders (Z : Str → Addr) (x0 : D) : Option (D) :=
  (isC (Z "Ring") x0).bind fun g1 => ((g1 : List (Str × D)).lookup ("bits" : Str)).bind fun z2 => (isC (Z "Ring") x0).bind fun g3 => ((g3 : List (Str × D)).lookup ("joins" : Str)).bind fun z4 => (F_node_orders Z z2 z4).bind fun v5 => ((isC (Z "Ring") x0).bind fun g6 => ((g6 : List (Str × D)).lookup ("ends" : Str)).bind fun z7 => some z7).bind fun v8 => (dIter v8).bind fun l9 => (chk (l9.length ≤ 1000000) ()).bind fun _ => (mapO (fun x11 => (dIx v5 x11).bind fun v16 => some v16) l9).bind fun y12 => (lList (D.lst y12)).bind fun l17 => some (D.tup l17)
def F_UNetworkRing_orders (Z : Str → Addr) (x0 : D) : Option (D) :=
  if clsIs (Z "Network") x0 = true then F_Network_orders Z x0 else if clsIs (Z "Ring") x0 = true then F_Ring_orders Z x0 else none
def F_Lright (Z : Str → Addr) (x0 : D) (x1 : D) (x2 : D) (x3 : D) : Option (D) :=
  (dReprR x3).bind fun v1 => ((cEq x1 (D.int 1)).bind fun t4 => (F_network_with Z x0 x2 x3 (D.bl t4)).bind fun r7 => exC r7 (fun e6 => some (.error e6)) (fun v5 => some (.ok v5))).bind fun r2 => (F_Lheard Z r2).bind fun v3 => (F_Lis_number x2 x1 x0).bind fun v9 => (dTru v9).bind fun t10 => if (!t10) = true then ((dReprR v3).bind fun v12 => (dReprR (D.tup [(D.str "output"), x2])).bind fun v13 => (cEq v12 v13).bind fun t14 => (dTru (D.bl t14)).bind fun t15 => if t15 = true then (dReprR x3).bind fun v16 => (cEq v16 v1).bind fun t17 => some (D.bl t17) else some (D.bl t14)).bind fun v18 => some v18 else (F_Lis_right_row x0 x1 x3).bind fun v20 => (dTru v20).bind fun t21 => if (!t21) = true then ((dReprR v3).bind fun v23 => (dReprR (D.tup [(D.str "row"), x3])).bind fun v24 => (cEq v23 v24).bind fun t25 => (dTru (D.bl t25)).bind fun t26 => if t26 = true then (dReprR x3).bind fun v27 => (cEq v27 v1).bind fun t28 => some (D.bl t28) else some (D.bl t25)).bind fun v29 => some v29 else (dIsi "list" v3).bind fun t31 => (dTru (D.bl t31)).bind fun t32 => if (!t32) = true then some (D.bl false) else (dIx x3 (D.int (-1))).bind fun v34 => (dIsi "str" v34).bind fun t35 => (dTru (D.bl t35)).bind fun t36 => if t36 = true then (dIx v3 (D.int 0)).bind fun v37 => (isC (Z "Faulty") v37).bind fun g38 => (F_Faulty_rows Z v37).bind fun v39 => (dSub x2 x1).bind fun v40 => (dIx v39 v40).bind fun v41 => (cEq v41 x3).bind fun t42 => some (D.bl t42) else (dIx v3 (D.int 0)).bind fun v43 => (isU [Z "Network", Z "Ring"] v43).bind fun g44 => (F_UNetworkRing_orders Z v43).bind fun v45 => (dSub x2 x1).bind fun v46 => (dIx v45 v46).bind fun v47 => (isC (Z "Order") v47).bind fun g48 => (F_Order_positions Z v47).bind fun v49 => (cEq v49 x3).bind fun t50 => some (D.bl t50)
def F_Lentries (x0 : List D) (x1 : D) (x2 : D) : Option (D × List D) :=
  (dAdd x1 (D.int 1)).bind fun v1 => (dRange [x2, v1]).bind fun l2 => ((dLen (D.lst l2)).bind fun v4 => (dMin2 (D.int 6) v4).bind fun v5 => (F_Ldraw x0 v5).bind fun v6 => (dAdd (D.int 1) v6.1).bind fun v7 => some (v7, v6.2)).bind fun v8 => (dRange [v8.1]).bind fun l9 => (chk (l9.length ≤ 1000000) ()).bind fun _ => (mapS (fun s10 x11 => (dLen (D.lst s10.1)).bind fun v16 => (F_Ldraw s10.2 v16).bind fun v17 => (lPopAt s10.1 v17.1).bind fun v18 => some (v18.1, v18.2, v17.2)) (l2, v8.2) l9).bind fun y12 => (((cIn (D.int 0) (D.lst y12.1)).bind fun t22 => if t22 = true then (F_Ldraw y12.2.2 (D.int 3)).bind fun v23 => (cGt v23.1 (D.int 0)).bind fun t24 => some (t24, v23.2) else some (false, y12.2.2)).bind fun t25 => if t25.1 = true then (lstD (D.lst y12.1)).bind fun s26 => (dLidx (D.lst s26) (D.int 0)).bind fun v27 => (dAdd v27 (D.int 1)).bind fun v28 => (dEnd v28).bind fun i29 => (dCut (D.lst y12.1) none (some i29)).bind fun v30 => some (v30, t25.2) else some ((D.lst y12.1), t25.2)).bind fun (r20 : D × List D) => ((F_Ldraw r20.2 (D.int 3)).bind fun v33 => (cEq v33.1 (D.int 0)).bind fun t34 => if t34 = true then (F_Ldraw v33.2 (D.int 2)).bind fun v35 => (dIx (D.str "GK") v35.1).bind fun v36 => (dAdd r20.1 (D.lst [v36])).bind fun v37 => some (v37, v35.2) else some (r20.1, v33.2)).bind fun (r32 : D × List D) => (F_Ldraw r32.2 (D.int 9)).bind fun v38 => (dLen r32.1).bind fun v39 => (dAdd v39 (D.int 1)).bind fun v40 => (F_Ldraw v38.2 v40).bind fun v41 => (F_Lodd v41.2 x1).bind fun v42 => (cEq v38.1 (D.int 0)).bind fun t44 => if t44 = true then (dEnd v41.1).bind fun i45 => (dCut r32.1 none (some i45)).bind fun v46 => (dAdd v46 (D.lst [v42.1])).bind fun v47 => (dEnd v41.1).bind fun i48 => (dCut r32.1 (some i48) none).bind fun v49 => (dAdd v47 v49).bind fun v50 => (lList v50).bind fun l51 => some ((D.tup l51), v42.2) else (cEq v38.1 (D.int 1)).bind fun t53 => if t53 = true then (dEnd v41.1).bind fun i54 => (dCut r32.1 none (some i54)).bind fun v55 => (dAdd v55 (D.lst [v42.1])).bind fun v56 => (dAdd v41.1 (D.int 1)).bind fun v57 => (dEnd v57).bind fun i58 => (dCut r32.1 (some i58) none).bind fun v59 => (dAdd v56 v59).bind fun v60 => (lList v60).bind fun l61 => some ((D.tup l61), v42.2) else (cEq v38.1 (D.int 2)).bind fun t63 => if t63 = true then (dEnd v41.1).bind fun i64 => (dCut r32.1 none (some i64)).bind fun v65 => (dEnd (D.int 1)).bind fun i66 => (dCut r32.1 none (some i66)).bind fun v67 => (dAdd v65 v67).bind fun v68 => (dEnd v41.1).bind fun i69 => (dCut r32.1 (some i69) none).bind fun v70 => (dAdd v68 v70).bind fun v71 => (lList v71).bind fun l72 => some ((D.tup l72), v42.2) else (cEq v38.1 (D.int 3)).bind fun t74 => if t74 = true then (lList r32.1).bind fun l75 => (dIx r32.1 (D.int 0)).bind fun v76 => (lList r32.1).bind fun l77 => (F_Ldraw v42.2 (D.int 5)).bind fun v78 => (dIx (D.lst [(D.lst l75), (D.tup []), v42.1, v76, (D.tup [(D.tup l77)])]) v78.1).bind fun v79 => some (v79, v78.2) else (lList r32.1).bind fun l80 => some ((D.tup l80), v42.2)
def F_law (Z : Str → Addr) (x0 : D) : Option (D) :=
  (F_Lpen x0).bind fun v1 => (dRange [(D.int 12)]).bind fun l3 => (loopC (fun (s4 : List D) x6 => (F_Ldraw s4 (D.int 3)).bind fun v9 => (cEq v9.1 (D.int 0)).bind fun t10 => (dInt (D.bl t10)).bind fun v11 => (dAdd (D.int 1) v11).bind fun v12 => (F_Lbits v9.2 v12 (D.int 24)).bind fun v13 => (dAdd v13.1 (D.int 1)).bind fun v14 => (dSub v14 v11).bind fun v15 => (F_Ldraw v13.2 v15).bind fun v16 => (dAdd v11 v16.1).bind fun v17 => ((F_Ldraw v16.2 (D.int 4)).bind fun v20 => (cEq v20.1 (D.int 0)).bind fun t21 => if t21 = true then (F_Lodd v20.2 v13.1).bind fun v22 => some (v22.1, v22.2) else some (v17, v20.2)).bind fun (r19 : D × List D) => (F_Lentries r19.2 v13.1 v11).bind fun v24 => (F_Lright Z v13.1 v11 r19.1 v24.1).bind fun v25 => (dTru v25).bind fun t26 => if (!t26) = true then some (.ret (D.bl false)) else some (.go v24.2)) v1 l3).bind fun c7 => ctl c7 (fun (r5 : List D) => ((F_Lright Z (D.int 2) (D.int 0) (D.int 0) (D.tup [(D.int 0), (D.str "G")])).bind fun v28 => (dTru v28).bind fun t29 => if t29 = true then (F_Lright Z (D.int 2) (D.int 1) (D.int 1) (D.tup [(D.int 1), (D.str "G")])).bind fun v31 => (dTru v31).bind fun t32 => if t32 = true then (F_Lright Z (D.int 2) (D.int 0) (D.int 3) (D.tup [(D.bl true)])).bind fun v33 => some v33 else some v31 else some v28).bind fun v34 => some v34) (fun v => some v)
end
end My
namespace My
open PySem PySem.Spec L2 DX SX PyProof.Rows StX LamX
theorem ob_eq (s : PySem.W.SharedT) : ob s = hk.obs s.abs := DX.lookT_eq (HandSHeadRun.getT_eq s)
end My
namespace My
open PySem PySem.Spec L2 DX SX
def penL (s : Hs) : List D := [.lst (s.cells.map D.int), .int s.at_, .int s.gr]
theorem ixN_of {n : Nat} {i : Int} (h0 : 0 ≤ i) (h1 : i < n) : ixN n i = some i.toNat := by unfold ixN; rw [if_pos h0, if_pos h1]
theorem atI_of_get {α : Type} {l : List α} {i : Int} {x : α} (h0 : 0 ≤ i) (h : l[i.toNat]? = some x) : atI l i = some x := by
  have : i.toNat < l.length := by
    by_cases q : i.toNat < l.length
    · exact q
    · rw [List.getElem?_eq_none (by omega)] at h; cases h
  unfold atI
  rw [ixN_of h0 (by omega)]
  exact h
theorem nilB_ints {ns : List Int} : cEq (.lst (ns.map D.int)) (.lst []) = some ns.isEmpty := by
  have : sc (.lst (ns.map D.int)) (.lst []) = false := rfl
  unfold cEq
  rw [this]
  simp only [Bool.false_eq_true, if_false]
  rw [show nilB (.lst (ns.map D.int)) (.lst []) = true from intsB_map ns]
  cases ns <;> rfl
theorem cp_mixL {x a c b e m : Int} (h : 0 ≤ a ∧ a ≤ 1000000) (hc : 0 ≤ c ∧ c ≤ 200000) (hb : 0 ≤ b ∧ b ≤ 100000) (he : 0 ≤ e ∧ e ≤ 1000) (hm : 0 < m ∧ m ≤ 2147483648) : CPow (x % m * (2 * a + b) + c * a * a + e) 3 := by
  have h1 : 0 ≤ x % m := Int.emod_nonneg _ (by omega)
  have h2 : x % m < m := Int.emod_lt_of_pos _ (by omega)
  have h3 : 0 ≤ x % m * (2 * a + b) := Int.mul_nonneg h1 (by omega)
  have h4 : x % m * (2 * a + b) ≤ 2147483648 * 2100000 := Int.mul_le_mul (by omega) (by omega) (by omega) (by omega)
  have h5 : 0 ≤ c * a := Int.mul_nonneg hc.1 h.1
  have h6 : c * a ≤ 200000 * 1000000 := Int.mul_le_mul (by omega) (by omega) (by omega) (by omega)
  have h7 : 0 ≤ c * a * a := Int.mul_nonneg h5 h.1
  have h8 : c * a * a ≤ 200000 * 1000000 * 1000000 := Int.mul_le_mul (by omega) (by omega) (by omega) (by omega)
  exact ⟨by omega, by omega, by omega⟩
theorem cmul_small {i j : Int} (h : -(2 ^ 63) ≤ i ∧ i ≤ 2 ^ 63) : CMul i j := .inl ⟨by omega, by omega⟩
theorem cmul_smallr {i j : Int} (h : -(2 ^ 63) ≤ j ∧ j ≤ 2 ^ 63) : CMul i j := .inr ⟨by omega, by omega⟩
theorem dIntT_b {p : Bool} : dIntT (.bl p) = some (.int (if p = true then 1 else 0)) := rfl
theorem fin_take {m b : Int} (hb : 0 < b) : 0 ≤ m % b ∧ m % b < b := ⟨Int.emod_nonneg _ (by omega), Int.emod_lt_of_pos _ hb⟩
theorem pen_set2 {c : D} {a g v : D} : lSet [c, a, g] (.int 2) v = some [c, a, v] := rfl
theorem pen_at0 {c a g : D} : dIx (.lst [c, a, g]) (.int 0) = some c := rfl
theorem pen_at1 {c a g : D} : dIx (.lst [c, a, g]) (.int 1) = some a := rfl
theorem pen_at2 {c a g : D} : dIx (.lst [c, a, g]) (.int 2) = some g := rfl
theorem draw_ok {s : Hs} {n b : Int} (h : HOk s n) (hn : n ≤ 1000000) (hb : 0 < b ∧ b < 1000000000) : Gives (F_Ldraw (penL s) (.int b)) fun q => ∃ k s', q = (.int k, penL s') ∧ 0 ≤ k ∧ k < b ∧ HOk s' (n + 1) := by
  obtain ⟨a0, an, g0⟩ := h
  have hcd : CDiv s.gr b := ⟨hb.1, by omega⟩
  unfold F_Ldraw penL
  rw [pen_at2]
  simp only [Option.bind_some, cGt_ii]
  by_cases hg : (0 : Int) < s.gr
  · rw [if_pos (decide_eq_true hg)]
    simp only [dMod_ii, dFdiv_ii, pen_set2, Option.bind_some, chk_pos hb.1, chk_pos hcd]
    exact .mk ⟨_, ⟨s.cells, s.at_, s.gr / b⟩, rfl, (fin_take hb.1).1, (fin_take hb.1).2, ⟨a0, by show s.at_ ≤ n + 1; omega, Int.ediv_nonneg g0 (by omega)⟩⟩
  rw [if_neg (by simpa using hg)]
  rw [pen_at1]
  simp only [Option.bind_some, dAdd_ii]
  rw [show lSet [D.lst (s.cells.map D.int), .int s.at_, .int s.gr] (.int 1) (.int (s.at_ + 1)) = some [D.lst (s.cells.map D.int), .int (s.at_ + 1), .int s.gr] from rfl]
  have hc1 : CMul 36265 s.at_ := cmul_small (by omega)
  simp only [Option.bind_some, dMul_ii, chk_pos hc1, dAdd_ii, pen_at0, cNe_of, nilB_ints, Option.map_some, dLen_l, List.length_map]
  refine .bind (Gives.imp (Q := fun r => ∃ q : Int, r = D.int q) ?_ fun r hr => ?_)
  · by_cases he : s.cells.isEmpty = true
    · rw [he]; exact .mk ⟨_, rfl⟩
    · have he : s.cells.isEmpty = false := by simpa using he
      have hl : (0 : Int) < (s.cells.length : Int) := by
        cases hcs : s.cells with
        | nil => rw [hcs] at he; cases he
        | cons a l => simp only [List.length_cons]; omega
      rw [he, if_pos (by rfl)]
      simp only [dMod_ii, chk_pos hl, Option.bind_some, dIx_li]
      have e1 := fin_take (m := s.at_) hl
      rw [atI_of_get (x := .int (s.cells.getD (s.at_ % (s.cells.length : Int)).toNat 0)) e1.1 (by rw [List.getElem?_map, List.getD_eq_getElem?_getD, List.getElem?_eq_getElem (by omega)]; rfl)]
      exact .mk ⟨_, rfl⟩
  obtain ⟨q, rfl⟩ := hr
  refine .bind (Gives.imp (Q := fun t => t = true → (10 : Int) ^ (18 : Int).toNat ≤ (if q < 0 then -q else q)) ?_ fun t ht => ?_)
  · simp only [cLt_ii, Option.bind_some]
    split
    · simp only [dAbs_i, dPow_ii, Option.bind_some]
      rw [chk_pos (show CPow 10 18 from ⟨by decide, by decide, by decide⟩)]
      exact .mk fun z => of_decide_eq_true z
    · exact .mk fun z => nomatch z
  cases t with
  | true =>
    rw [if_pos rfl]
    have hcd : ∀ i, CDiv i b := fun i => ⟨hb.1, by omega⟩
    simp only [dAbs_i, dPow_ii, Option.bind_some, chk_pos (show CPow 10 18 from ⟨by decide, by decide, by decide⟩), dSub_ii, dMul_ii]
    rw [chk_pos (show CMul 2 _ from cmul_small (by decide))]
    simp only [Option.bind_some, cLt_ii, dInt_b, dIntT_b, dAdd_ii, dFdiv_ii, dMod_ii, chk_pos (hcd _), chk_pos hb.1, pen_set2]
    have big : (0 : Int) ≤ 2 * ((if q < 0 then -q else q) - 10 ^ (18 : Int).toNat) + (if decide (q < 0) = true then 1 else 0) := by
      have := ht rfl
      generalize (10 : Int) ^ (18 : Int).toNat = z at this ⊢
      split <;> split at this <;> omega
    exact .mk ⟨_, ⟨s.cells, s.at_ + 1, _⟩, rfl, (fin_take hb.1).1, (fin_take hb.1).2, ⟨by show 0 ≤ s.at_ + 1; omega, by show s.at_ + 1 ≤ n + 1; omega, Int.ediv_nonneg big (by omega)⟩⟩
  | false =>
    rw [if_neg (by decide)]
    have p1 : CPow (q % 2147483497 + 46971 * s.at_ + 155) 5 := by
      have := fin_take (m := q) (b := 2147483497) (by decide)
      exact ⟨by omega, by omega, by omega⟩
    have p3 : ∀ z : Int, CMul (z % 2147483353) (2 * s.at_ + 133) := fun z => by
      have := fin_take (m := z) (b := 2147483353) (by decide)
      exact cmul_small (by omega)
    simp only [dMod_ii, dMul_ii, dAdd_ii, dPow_ii, dFdiv_ii, Option.bind_some, chk_pos (show (0 : Int) < 2147483497 by decide), chk_pos (show (0 : Int) < 2147483353 by decide), chk_pos (show (0 : Int) < 2147483549 by decide), chk_pos (show CMul 46971 s.at_ from cmul_small (by omega)),
      chk_pos (show CMul 2 s.at_ from cmul_small (by omega)), chk_pos (show CMul 70709 s.at_ from cmul_small (by omega)), chk_pos (show CMul (70709 * s.at_) s.at_ from cmul_smallr (by omega)), chk_pos p1, chk_pos (p3 _), chk_pos (cp_mixL (x := _) (a := s.at_) (c := 70709) (b := 133) (e := 70) (m := 2147483353) ⟨a0, by omega⟩ (by decide) (by decide) (by decide) (by decide)), chk_pos (show CDiv _ 32 from ⟨by decide, by decide⟩), chk_pos hb.1]
    exact .mk ⟨_, ⟨s.cells, s.at_ + 1, s.gr⟩, rfl, (fin_take hb.1).1, (fin_take hb.1).2, ⟨by show 0 ≤ s.at_ + 1; omega, by show s.at_ + 1 ≤ n + 1; omega, g0⟩⟩
theorem pen_ok (ns : List Int) : F_Lpen (.scr ns) = some (penL ⟨ns.take 63, 0, 0⟩) := rfl
theorem pen_hok (ns : List Int) : HOk ⟨ns.take 63, 0, 0⟩ 0 := ⟨Int.le_refl 0, Int.le_refl 0, Int.le_refl 0⟩
theorem atI_str {l : List Nat} {i : Int} (h : 0 ≤ i ∧ i < (l.length : Int)) : atI (S l).cps.toList i = some (l.getD i.toNat 0) := by
  rw [tl_S]
  exact atI_of_get h.1 (by rw [List.getD_eq_getElem?_getD, List.getElem?_eq_getElem (by omega)]; rfl)
theorem dIx_S {l : List Nat} {i : Int} (h : 0 ≤ i ∧ i < (l.length : Int)) (hl : l.length ≤ 1000000) : dIx (.str (S l)) (.int i) = some (.str (S [l.getD i.toNat 0])) := by
  rw [dIx_si, atI_str h, Option.bind_some, S_len, chk_pos hl]
theorem S1_eq {c d : Nat} : (S [c] = S [d]) ↔ c = d := by
  constructor
  · intro h
    have := congrArg (fun z : Str => z.cps.toList) h
    simpa using this
  · rintro rfl; rfl
theorem cEq_S1 {c d : Nat} : cEq (.str (S [c])) (.str (S [d])) = some (decide (c = d)) := by
  rw [cEq_ss]; congr 1; exact decide_eq_decide.mpr S1_eq
theorem goods_map {α : Type} {f : α → D} : ∀ {l : List α}, (∀ a ∈ l, good (f a)) → goods (l.map f)
  | [], _ => trivial
  | a :: l, h => ⟨h a List.mem_cons_self, goods_map fun b hb => h b (List.mem_cons_of_mem _ hb)⟩
theorem deps_map {α : Type} {f : α → D} {k : Nat} : ∀ {l : List α}, (∀ a ∈ l, dep (f a) ≤ k) → deps (l.map f) ≤ k
  | [], _ => Nat.zero_le _
  | a :: l, h => by
    rw [List.map_cons, deps]
    exact Nat.max_le.mpr ⟨h a List.mem_cons_self, deps_map fun b hb => h b (List.mem_cons_of_mem _ hb)⟩
theorem cEq_good {a b : D} (hs : sc a b = false) (hn : nilB a b = false) (ha : good a) (hb : good b) (da : dep a ≤ 50) (db : dep b ≤ 50) : cEq a b = some (eqD a b) := by
  unfold cEq
  rw [hs, hn]
  simp only [Bool.false_eq_true, if_false]
  rw [chk_pos ⟨ha, hb, da, db⟩]
theorem eqD_nil {ds : List D} : eqD (.lst ds) (.lst []) = ds.isEmpty := by
  cases ds with
  | nil => simp [eqD, pyd, pyds, PyData.eqv, PyData.eqvAll]
  | cons d ds => simp [eqD, pyd, pyds, PyData.eqv, PyData.eqvAll]
/-- a loop that is never left -/
theorem gives_loop {S R : Type} {f : S → D → Option (Ctl S R)} {xs : List D} {s : S} (I : Nat → S → Prop) (h0 : I 0 s) (h : ∀ i x s, xs[i]? = some x → I i s → Gives (f s x) fun c => ∃ s', c = .go s' ∧ I (i + 1) s') : Gives (loopC f s xs) fun c => ∃ s', c = .go s' ∧ I xs.length s' := by
  induction xs generalizing s I with
  | nil => exact ⟨.go s, rfl, s, rfl, h0⟩
  | cons x xs ih =>
    rw [loopC]
    refine .bind ((h 0 x s rfl h0).imp fun c hc => ?_)
    obtain ⟨s', rfl, h1⟩ := hc
    exact ih (fun i => I (i + 1)) h1 fun i y s2 hy => h (i + 1) y s2 (by simpa using hy)
/-- a list against the empty one, whatever stands in it -/
theorem cEq_nilq {ds : List D} : cEq (.lst ds) (.lst []) = some ds.isEmpty := by
  have hs : sc (.lst ds) (.lst []) = false := rfl
  unfold cEq
  rw [hs]
  simp only [Bool.false_eq_true, if_false]
  split
  · rfl
  · split
    · rename_i t e
      obtain ⟨_, e⟩ := chk_inv e
      rw [← e, eqD_nil]
    · rename_i h
      cases ds with
      | nil => exact absurd rfl (by assumption : ¬ nilB (.lst []) (.lst []) = true)
      | cons d ds => rfl
structure RB (d : D) (k w : Nat) : Prop where
  sh : shw d = true
  ok : (pydR d).showable = true
  dp : (pydR d).depth ≤ k
  sz : (pydR d).shown.length ≤ w
structure RBs (ds : List D) (k w : Nat) : Prop where
  sh : shws ds = true
  ok : PyData.showableAll (pydRs ds) = true
  dp : PyData.depthAll (pydRs ds) ≤ k
  sz : ((PyData.shownAll (pydRs ds)).map (·.length)).sum + 2 * (PyData.shownAll (pydRs ds)).length ≤ w
theorem rb_good {d : D} {k w : Nat} (h : good d) (hw : wt d ≤ w) (hd : dep d + 1 ≤ k) : RB d k w := by
  have e := (good_R h).1
  exact ⟨(good_R h).2, by rw [e]; exact good_show h, by rw [e]; have := dep_py h; omega, by rw [e]; have := wt_py h; omega⟩
theorem RB.mono {d : D} {k w k' w' : Nat} (h : RB d k w) (hk : k ≤ k') (hw : w ≤ w') : RB d k' w' := ⟨h.sh, h.ok, Nat.le_trans h.dp hk, Nat.le_trans h.sz hw⟩
theorem rbs_nil {k : Nat} : RBs [] k 0 := ⟨by simp [shws], by simp [pydRs, PyData.showableAll], by simp [pydRs, PyData.depthAll], by simp [pydRs, PyData.shownAll]⟩
theorem rbs_cons {d : D} {ds : List D} {k w w2 : Nat} (h : RB d k w) (hs : RBs ds k w2) : RBs (d :: ds) k (w + w2 + 2) := by
  refine ⟨by simp only [shws, h.sh, hs.sh, Bool.and_self], by simp only [pydRs, PyData.showableAll, h.ok, hs.ok, Bool.and_self], ?_, ?_⟩
  · simp only [pydRs, PyData.depthAll]
    have := h.dp; have := hs.dp; omega
  · simp only [pydRs, PyData.shownAll, List.map_cons, List.sum_cons, List.length_cons]
    have := h.sz; have := hs.sz; omega
theorem rbs_all {k w : Nat} : ∀ {ds : List D}, (∀ d ∈ ds, RB d k w) → RBs ds k (ds.length * (w + 2))
  | [], _ => by simpa using rbs_nil
  | d :: ds, h => by
    have := rbs_cons (h d List.mem_cons_self) (rbs_all (ds := ds) fun x hx => h x (List.mem_cons_of_mem _ hx))
    rw [List.length_cons, Nat.succ_mul, show ds.length * (w + 2) + (w + 2) = w + ds.length * (w + 2) + 2 by omega]
    exact this
theorem rb_lst {ds : List D} {k w : Nat} (h : RBs ds k w) : RB (.lst ds) (k + 1) (w + 3) := by
  refine ⟨by simp only [shw]; exact h.sh, by simp only [pydR, PyData.showable]; exact h.ok, by simp only [pydR, PyData.depth]; have := h.dp; omega, ?_⟩
  simp only [pydR, PyData.shown]
  have := listText_len_le (PyData.shownAll (pydRs ds))
  have := h.sz
  omega
theorem rb_tup {ds : List D} {k w : Nat} (h : RBs ds k w) : RB (.tup ds) (k + 1) (w + 3) := by
  refine ⟨by simp only [shw]; exact h.sh, by simp only [pydR, PyData.showable]; exact h.ok, by simp only [pydR, PyData.depth]; have := h.dp; omega, ?_⟩
  simp only [pydR, PyData.shown]
  have := tupleText_len_le (PyData.shownAll (pydRs ds))
  have := h.sz
  omega
theorem rb_dct0 {k w : Nat} (hk : 1 ≤ k) (hw : 3 ≤ w) : RB (.dct []) k w := by
  refine ⟨by simp [shw, shwk], by simp [pydR, pydRk, PyData.showable, PyData.showableKv], ?_, ?_⟩
  · simp [pydR, pydRk, PyData.depth, PyData.depthKv]; omega
  · simp only [pydR, pydRk, PyData.shown, PyData.shownKv]
    have := dictText_len_le []
    simp at this
    omega
theorem rb_repr {d : D} {k w : Nat} (h : RB d k w) (hk : k ≤ 60) (hw : w ≤ 16000000) : ∃ y, dReprR d = some (.str y) := ⟨_, chk_pos ⟨h.sh, h.ok, Nat.le_trans h.dp hk, Nat.le_trans h.sz hw⟩⟩
theorem rb_int {i : Int} (h : -(2 ^ 200) ≤ i ∧ i ≤ 2 ^ 200) : RB (.int i) 5 100000 := rb_good h (by simp [wt]) (by simp [dep])
theorem rb_bl {b : Bool} : RB (.bl b) 5 100000 := rb_good trivial (by simp [wt]) (by simp [dep])
theorem rb_non : RB .non 5 100000 := rb_good trivial (by simp [wt]) (by simp [dep])
theorem rb_tx {l : List Nat} (h : tx l) (hl : l.length ≤ 1000) : RB (.str (S l)) 5 100000 := rb_good (tx_ok h) (by rw [wt, S_len]; omega) (by simp [dep])
theorem rb_str {z : Str} (h : PyData.strOk z = true) (hz : z.length ≤ 1000) : RB (.str z) 5 100000 := rb_good h (by rw [wt]; omega) (by simp [dep])
theorem rb_tup1 {x : D} (h : good x) (hw : wt x ≤ 50000) (hd : dep x ≤ 3) : RB (.tup [x]) 5 100000 := rb_good ⟨h, trivial⟩ (by simp only [wt, wts]; omega) (by simp only [dep, deps]; omega)
theorem e200 : (2 : Int) ^ 200 = 1606938044258990275541962092341162602522202993782792835301376 := by decide +kernel
theorem isi_strO {z : Str} : dIsi "str" (.str z) = some true := by unfold dIsi; exact chk_pos rfl
theorem cIn_tstrO {z : Str} {zs : List Str} : cIn (.str z) (.tup (zs.map D.str)) = some (decide (z ∈ zs)) := by
  unfold cIn
  simp only [flD, Option.bind_some, items_t, flDs_strs]
  rw [inV_strs]
  congr 1
  by_cases h : z ∈ zs
  · rw [decide_eq_true h, List.any_eq_true]
    exact ⟨z, h, by simp⟩
  · rw [decide_eq_false h, List.any_eq_false]
    intro y hy
    simp only [decide_eq_true_eq]
    rintro rfl
    exact h hy
def cellD (c : Int × Int) : D := .tup [.int c.1, .int c.2]
def CellsOk (n : Int) (cs : List (Int × Int)) : Prop := ∀ (i : Nat) (c : Int × Int), cs[i]? = some c → (0 ≤ c.1 ∧ c.1 ≤ n + (i : Int)) ∧ 0 ≤ c.2 ∧ c.2 ≤ n + (i : Int)
def EndsOk (n : Int) (m : Nat) (es : List Int) : Prop := (es.length : Int) = n + 1 ∧ ∀ e ∈ es, 0 ≤ e ∧ e ≤ n + (m : Int)
theorem min2_ok {a b : Int} (ha : 1 ≤ a) (hb : 1 ≤ b) : ∃ k, dMin2 (.int a) (.int b) = some (.int k) ∧ 1 ≤ k ∧ k ≤ a ∧ k ≤ b := by
  rw [dMin2_ii]
  by_cases h : b < a
  · exact ⟨b, by rw [if_pos h], hb, by omega, by omega⟩
  · exact ⟨a, by rw [if_neg h], ha, by omega, by omega⟩
def CelL (low n : Int) (cs : List (Int × Int)) : Prop := ∀ (i : Nat) (c : Int × Int), cs[i]? = some c → (low ≤ c.1 ∧ c.1 ≤ n + (i : Int)) ∧ low ≤ c.2 ∧ c.2 ≤ n + (i : Int)
theorem celL_nil {low n : Int} : CelL low n [] := fun i c h => by simp at h
theorem celL_snoc {low n : Int} {cs : List (Int × Int)} {c : Int × Int} (h : CelL low n cs) (hc : (low ≤ c.1 ∧ c.1 ≤ n + (cs.length : Int)) ∧ low ≤ c.2 ∧ c.2 ≤ n + (cs.length : Int)) : CelL low n (cs ++ [c]) := fun i d hd => by
  by_cases hi : i < cs.length
  · rw [List.getElem?_append_left hi] at hd
    exact h i d hd
  · rw [List.getElem?_append_right (by omega)] at hd
    have e : i - cs.length = 0 := by
      have := (List.getElem?_eq_some_iff.mp hd).1
      simp only [List.length_singleton] at this
      omega
    rw [e] at hd
    have e2 : c = d := by simpa using hd
    subst e2
    have e3 : i = cs.length := by omega
    subst e3
    exact hc
def EndL (low n : Int) (m : Nat) (es : List Int) : Prop := (es.length : Int) = n + 1 - low ∧ ∀ e ∈ es, low ≤ e ∧ e ≤ n + (m : Int)
theorem gofW {α : Type} {o : Option α} {P : α → Prop} {x : α} (e : o = some x) (h : P x) : Gives o P := by rw [e]; exact .mk h
theorem ixI {l : List Int} {j : Int} (h0 : 0 ≤ j) (h1 : j < (l.length : Int)) : ∃ x, dIx (.lst (l.map D.int)) (.int j) = some (.int x) ∧ x ∈ l := by
  have hl : j.toNat < l.length := by omega
  refine ⟨l[j.toNat], ?_, List.getElem_mem _⟩
  rw [dIx_li]
  exact atI_of_get h0 (by rw [List.getElem?_map, List.getElem?_eq_getElem hl]; rfl)
def c0S (n : Nat) : List (Int × Int) := (List.range n).map fun k : Nat => ((k : Int) + 1, if k = 0 then 0 else (n : Int) + (k : Int))
def e0S (n : Nat) : List Int := 0 :: (List.range n).map fun k : Nat => (n : Int) + 1 + (k : Int)
theorem btw_bl {c : Bool} {a b : D} : F_is_between (.bl c) a b = some (.bl false) := by
  unfold F_is_between
  rw [show dIsi "int" (.bl c) = some true from chk_pos rfl, show dIsi "bool" (.bl c) = some true from chk_pos rfl]
  rfl
theorem btw_oth {x a b : D} (h1 : plain x = true) (h2 : isi "int" x = false) : F_is_between x a b = some (.bl false) := by
  unfold F_is_between
  rw [show dIsi "int" x = some false from by unfold dIsi; rw [chk_pos h1, h2]]
  rfl
theorem btw_int {p a b : Int} : F_is_between (.int p) (.int a) (.int b) = some (.bl (decide (a ≤ p ∧ p ≤ b))) := by
  unfold F_is_between
  rw [show dIsi "int" (.int p) = some true from chk_pos rfl, show dIsi "bool" (.int p) = some false from chk_pos rfl]
  simp only [Option.bind_some, dTru_b, if_true, Bool.not_false, cLe_ii]
  by_cases h : a ≤ p
  · rw [if_pos (decide_eq_true h)]
    simp [h]
  · rw [if_neg (by simpa using h)]
    simp [h]
def stepF (acc : List Int) (p : Int) : List Int := if p ∉ acc ∧ (0 : Int) ∉ acc then acc ++ [p] else acc
def firsts (ps : List Int) : List Int := ps.foldl stepF []
def EntOk (l : List Int) : Prop := l.Nodup ∧ (0 : Int) ∉ l.dropLast
theorem ent_nil : EntOk [] := ⟨List.nodup_nil, by simp⟩
theorem ent_step {acc : List Int} {p : Int} (h : EntOk acc) : EntOk (stepF acc p) := by
  unfold stepF
  split
  · rename_i q
    refine ⟨?_, ?_⟩
    · rw [List.nodup_append]
      exact ⟨h.1, by simp, fun a ha b hb => by rw [List.mem_singleton] at hb; subst hb; rintro rfl; exact q.1 ha⟩
    · rw [List.dropLast_concat]; exact q.2
  · exact h
theorem foldl_ent : ∀ {ps acc : List Int}, EntOk acc → EntOk (ps.foldl stepF acc)
  | [], _, h => h
  | p :: ps, _, h => by rw [List.foldl_cons]; exact foldl_ent (ent_step h)
theorem firsts_ent {ps : List Int} : EntOk (firsts ps) := foldl_ent ent_nil
theorem ent_zero {acc : List Int} {p : Int} (h : EntOk (acc ++ [p])) : (0 : Int) ∈ acc ++ [p] ↔ p = 0 := by
  have h2 := h.2
  rw [List.dropLast_concat] at h2
  constructor
  · intro z
    rcases List.mem_append.mp z with z | z
    · exact absurd z h2
    · rw [List.mem_singleton] at z; exact z.symm
  · rintro rfl; simp
theorem fold_id : ∀ {l acc : List Int}, EntOk (acc ++ l) → l.foldl stepF acc = acc ++ l
  | [], acc, _ => by simp
  | p :: l, acc, h => by
    have e : acc ++ p :: l = (acc ++ [p]) ++ l := by simp
    have h1 : p ∉ acc := by
      have := h.1
      rw [List.nodup_append] at this
      intro z
      exact this.2.2 p z p List.mem_cons_self rfl
    have h0 : (0 : Int) ∉ acc := by
      intro z
      refine h.2 ?_
      rw [List.dropLast_append_of_ne_nil (by simp)]
      exact List.mem_append_left _ z
    rw [List.foldl_cons]
    unfold stepF
    rw [if_pos ⟨h1, h0⟩]
    rw [e] at h ⊢
    exact fold_id h
theorem firsts_id {l : List Int} (h : EntOk l) : firsts l = l := by
  have := fold_id (l := l) (acc := []) (by simpa using h)
  simpa [firsts] using this
theorem fold_stop : ∀ {l acc : List Int}, (0 : Int) ∈ acc → l.foldl stepF acc = acc
  | [], _, _ => rfl
  | p :: l, acc, h => by
    rw [List.foldl_cons, show stepF acc p = acc from if_neg fun z => z.2 h]
    exact fold_stop h
theorem fold_sub : ∀ {l acc : List Int} {p : Int}, p ∈ l.foldl stepF acc → p ∈ acc ∨ p ∈ l
  | [], _, _, h => .inl h
  | q :: l, acc, p, h => by
    rw [List.foldl_cons] at h
    rcases fold_sub h with h | h
    · unfold stepF at h
      split at h
      · rcases List.mem_append.mp h with h | h
        · exact .inl h
        · rw [List.mem_singleton] at h; subst h; exact .inr List.mem_cons_self
      · exact .inl h
    · exact .inr (List.mem_cons_of_mem _ h)
theorem firsts_sub {l : List Int} {p : Int} (h : p ∈ firsts l) : p ∈ l := (fold_sub h).elim (fun z => absurd z List.not_mem_nil) id
theorem atI_last {l : List Int} {p : Int} : atI ((l ++ [p]).map D.int) (-1) = some (.int p) := by
  unfold atI ixN
  rw [if_neg (by omega), List.length_map, List.length_append, List.length_singleton]
  rw [if_pos (by omega), Option.bind_some, List.map_append, show (-1 + ((l.length + 1 : Nat) : Int)).toNat = l.length by omega]
  simp
theorem first_ones_ok {ps : List Int} (hl : ps.length ≤ 1000000) : F_first_ones (.tup (ps.map D.int)) = some (.tup ((firsts ps).map D.int)) := by
  have main : ∀ (ps acc : List Int), EntOk acc → acc.length + ps.length ≤ 1000000 →
      loopC (R := D) (fun (s3 : List D) x5 => ((cNe (D.lst s3) (D.lst [])).bind fun t10 => if t10 = true then (dIx (D.lst s3) (D.int (-1))).bind fun v11 => (cEq v11 (D.int 0)).bind fun t12 => some t12 else some false).bind fun t13 => if t13 = true then some (.brk s3) else ((cNin x5 (D.lst s3)).bind fun t16 => if t16 = true then (chk (s3.length < 1000000) ()).bind fun _ => some (s3 ++ [x5]) else some s3).bind fun (r15 : List D) => some (.go r15)) (acc.map D.int) (ps.map D.int) = some (.go ((ps.foldl stepF acc).map D.int)) := by
    intro ps
    induction ps with
    | nil => intro acc _ _; rfl
    | cons p ps ih =>
      intro acc he hz
      have test : ((cNe (D.lst (acc.map D.int)) (D.lst [])).bind fun t10 => if t10 = true then (dIx (D.lst (acc.map D.int)) (D.int (-1))).bind fun v11 => (cEq v11 (D.int 0)).bind fun t12 => some t12 else some false) = some (decide ((0 : Int) ∈ acc)) := by
        rw [cNe_of, nilB_ints]
        rcases List.eq_nil_or_concat acc with rfl | ⟨a, q, rfl⟩
        · rfl
        · rw [List.concat_eq_append] at he ⊢
          have : (a ++ [q]).isEmpty = false := by simp
          rw [this]
          simp only [Option.map_some, Option.bind_some, Bool.not_false, if_true, dIx_li, atI_last, cEq_ii]
          congr 1
          exact decide_eq_decide.mpr (ent_zero he).symm
      rw [List.map_cons, loopC, test, Option.bind_some, List.foldl_cons]
      by_cases h0 : (0 : Int) ∈ acc
      · rw [if_pos (decide_eq_true h0), Option.bind_some, show stepF acc p = acc from if_neg fun z => z.2 h0, fold_stop h0]
      · rw [if_neg (by simpa using h0), cNin_of, cIn_ints, Option.map_some, Option.bind_some]
        rw [List.length_cons] at hz
        by_cases hp : p ∈ acc
        · rw [decide_eq_true hp, show stepF acc p = acc from if_neg fun z => z.1 hp]
          simp only [Bool.not_true, Bool.false_eq_true, if_false, Option.bind_some]
          exact ih acc he (by omega)
        · rw [decide_eq_false hp, show stepF acc p = acc ++ [p] from if_pos ⟨hp, h0⟩]
          simp only [Bool.not_false, if_true, List.length_map]
          rw [chk_pos (by omega)]
          simp only [Option.bind_some]
          have e := ent_step (p := p) he
          rw [show stepF acc p = acc ++ [p] from if_pos ⟨hp, h0⟩] at e
          have := ih (acc ++ [p]) e (by rw [List.length_append, List.length_singleton]; omega)
          rw [List.map_append] at this
          exact this
  unfold F_first_ones
  rw [dIter_t, Option.bind_some]
  have := main ps [] ent_nil (by simpa using hl)
  rw [List.map_nil] at this
  rw [this, Option.bind_some]
  rfl
/-- the order of some positions -/
def ordD (C : Addr) (l : List Int) : D := .ins C [(("entries" : Str), D.tup (l.map D.int))]
theorem between_ok {p a b : Int} : F_is_between (.int p) (.int a) (.int b) = some (.bl (decide (a ≤ p ∧ p ≤ b))) := by
  unfold F_is_between
  rw [show dIsi "int" (.int p) = some true from chk_pos rfl, show dIsi "bool" (.int p) = some false from chk_pos rfl]
  simp only [Option.bind_some, dTru_b, if_true, Bool.not_false, cLe_ii]
  by_cases h : a ≤ p
  · rw [if_pos (decide_eq_true h)]
    simp [h]
  · rw [if_neg (by simpa using h)]
    simp [h]
theorem isC_ord {C : Addr} {l : List Int} : isC C (ordD C l) = some [(("entries" : Str), D.tup (l.map D.int))] := by
  unfold isC ordD
  simp
theorem lk_ord {l : List Int} : ([(("entries" : Str), D.tup (l.map D.int))] : List (Str × D)).lookup ("entries" : Str) = some (.tup (l.map D.int)) := rfl
theorem initX_ok {Z : Str → Addr} {ps : List Int} (hp : ∀ p ∈ ps, 0 ≤ p ∧ p ≤ 24) (hl : ps.length ≤ 1000000) : F_Order___init__ Z (.tup (ps.map D.int)) = some (.ok [(("entries" : Str), D.tup ((firsts ps).map D.int))]) := by
  have hc : mthC (Z "Order") "GREATEST" (D.ins (Z "Order") ([] : List (Str × D))) = some [] := by
    unfold mthC isC
    simp
  unfold F_Order___init__
  rw [dEnum_t, Option.bind_some]
  generalize hf : (fun (s2 : Unit) x4 => _ : Unit → D → Option (Ctl Unit (Except Er (List (Str × D))))) = f
  have step : ∀ (p : Int) (i : Nat), 0 ≤ p ∧ p ≤ 24 → f () (.tup [.int i, .int p]) = some (.go ()) := by
    intro p i h
    rw [← hf]
    simp only [un2_t, Option.bind_some, hc, between_ok, dTru_b, decide_eq_true h]
    rfl
  clear hf
  have main : ∀ (ps : List Int) (i : Nat), (∀ p ∈ ps, 0 ≤ p ∧ p ≤ 24) → loopC f () (enumD i (ps.map D.int)) = some (.go ()) := by
    intro ps
    induction ps with
    | nil => intro i _; rfl
    | cons p ps ih =>
      intro i h
      rw [List.map_cons, enumD, loopC, step p i (h p List.mem_cons_self)]
      exact ih (i + 1) fun q hq => h q (List.mem_cons_of_mem _ hq)
  rw [main ps 0 hp, Option.bind_some, ctl_g, first_ones_ok hl, Option.bind_some, chk_pos (show ([] : List (Str × D)).length < 1000 by decide)]
  rfl
theorem addX_ok {Z : Str → Addr} {a b : List Int} (ha : ∀ p ∈ a, 0 ≤ p ∧ p ≤ 24) (hb : ∀ p ∈ b, 0 ≤ p ∧ p ≤ 24) (hl : a.length + b.length ≤ 1000000) : F_Order___add__ Z (ordD (Z "Order") a) (ordD (Z "Order") b) = some (ordD (Z "Order") (firsts (a ++ b))) := by
  unfold F_Order___add__
  rw [isC_ord, Option.bind_some, lk_ord, Option.bind_some, items_t, Option.bind_some, isC_ord, Option.bind_some, lk_ord, Option.bind_some, items_t, Option.bind_some]
  rw [List.append_nil, chk_pos (by simp only [List.length_append, List.length_map]; omega), Option.bind_some, ← List.map_append, initX_ok (fun p hp => (List.mem_append.mp hp).elim (ha p) (hb p)) (by rw [List.length_append]; exact hl)]
  rfl
theorem nd_len : ∀ (k : Nat) (l : List Int), l.Nodup → (∀ p ∈ l, 0 ≤ p ∧ p < (k : Int)) → l.length ≤ k
  | 0, l, _, h => by
    cases l with
    | nil => exact Nat.le_refl _
    | cons a l => have := h a List.mem_cons_self; omega
  | k + 1, l, hn, h => by
    by_cases hk : (k : Int) ∈ l
    · have h1 := nd_len k (l.erase (k : Int)) (hn.erase _) fun p hp => by
        have hp := (List.Nodup.mem_erase_iff hn).mp hp
        have := h p hp.2
        have := hp.1
        omega
      rw [List.length_erase_of_mem hk] at h1
      omega
    · have h1 := nd_len k l hn fun p hp => by
        have := h p hp
        have : p ≠ (k : Int) := fun e => hk (e ▸ hp)
        omega
      omega
/-- what is no position of an output -/
inductive NoPos (n : Int) (b : Bool) : D → Prop
  | oth {x : D} : plain x = true → isi "int" x = false → NoPos n b x
  | bl (c : Bool) : NoPos n b (.bl c)
  | int (i : Int) : ¬ ((if b = true then 1 else 0) ≤ i ∧ i ≤ n) → NoPos n b (.int i)
theorem pos_ok {Z : Str → Addr} {l : List Int} : F_Order_positions Z (ordD (Z "Order") l) = some (.tup (l.map D.int)) := by
  unfold F_Order_positions
  rw [isC_ord, Option.bind_some, lk_ord]
  rfl
theorem insA_ord {C : Addr} {l : List Int} : insA (ordD C l) = some () := rfl
theorem iscell_ok {c : Int × Int} {t : Int} (h : (0 ≤ c.1 ∧ c.1 ≤ t - 1) ∧ 0 ≤ c.2 ∧ c.2 ≤ t - 1) : F_is_cell (cellD c) (.int 0) (.int t) = some (.bl true) := by
  have h1 : F_is_row (cellD c) (.int 2) = some (.bl true) := by
    unfold F_is_row
    rw [show dIsi "tuple" (cellD c) = some true from by unfold dIsi; exact chk_pos rfl]
    rfl
  unfold F_is_cell
  rw [h1]
  simp only [Option.bind_some, dTru_b, if_true]
  rw [show dIx (cellD c) (.int 0) = some (.int c.1) from rfl, show dIx (cellD c) (.int 1) = some (.int c.2) from rfl]
  simp only [Option.bind_some, dSub_ii]
  rw [btw_int, decide_eq_true h.1]
  simp only [Option.bind_some, dTru_b, if_true]
  rw [btw_int, decide_eq_true h.2]
  rfl
/-- a list or a tuple of these -/
def SeqOf (d : D) (ds : List D) : Prop := d = .lst ds ∨ d = .tup ds
theorem seq_is {d : D} {ds : List D} (h : SeqOf d ds) : F_is_sequence d = some (.bl true) := by
  unfold F_is_sequence
  rcases h with rfl | rfl
  · rw [show dIsiT (["tuple", "list"] : List String) (.lst ds) = some true from chk_pos rfl]; rfl
  · rw [show dIsiT (["tuple", "list"] : List String) (.tup ds) = some true from chk_pos rfl]; rfl
theorem seq_len {d : D} {ds : List D} (h : SeqOf d ds) : dLen d = some (.int (ds.length : Int)) := by rcases h with rfl | rfl <;> rfl
theorem seq_enum {d : D} {ds : List D} (h : SeqOf d ds) : dEnum d = some (enumD 0 ds) := by rcases h with rfl | rfl <;> rfl
theorem seq_list {d : D} {ds : List D} (h : SeqOf d ds) : lList d = some ds := by rcases h with rfl | rfl <;> rfl
theorem ccells_ok {Z : Str → Addr} {n : Int} {cs : List (Int × Int)} {d : D} (hd : SeqOf d (cs.map cellD)) (hn : 0 ≤ n ∧ n ≤ 24) (hc : CellsOk n cs) (hl : cs.length ≤ 150) : F_checked_cells Z (.int n) d (.int 0) = some (.ok (.tup (cs.map cellD))) := by
  unfold F_checked_cells
  rw [seq_is hd, seq_len hd, List.length_map]
  simp only [Option.bind_some, dTru_b, Bool.not_true, Bool.false_eq_true, if_false, cGt_ii]
  rw [decide_eq_false (by omega), if_neg (by decide), seq_enum hd, Option.bind_some]
  obtain ⟨c, e, _, rfl, _⟩ := gives_loop (R := Except Er D) (f := fun (s9 : Unit) x11 => (un2 x11).bind fun p14 => (dAdd (.int n) (D.int 1)).bind fun v16 => (dAdd v16 p14.1).bind fun v17 => (F_is_cell p14.2 (.int 0) v17).bind fun v18 => (dTru v18).bind fun t19 => if (!t19) = true then some (.ret (.error (Z "InvalidCells", [("index", p14.1)]))) else some (.go ()))
    (xs := enumD 0 (cs.map cellD)) (s := ()) (fun _ _ => True) trivial fun i x s hx _ => by
      obtain ⟨y, hy, rfl⟩ := enumD_at hx
      rw [List.getElem?_map] at hy
      obtain ⟨c, h1, rfl⟩ := Option.map_eq_some_iff.mp hy
      have hb := hc i c h1
      rw [un2_t, Option.bind_some, dAdd_ii, Option.bind_some, dAdd_ii, Option.bind_some]
      dsimp only
      rw [iscell_ok (by omega)]
      exact .mk ⟨(), rfl, trivial⟩
  rw [e, Option.bind_some, ctl_g, seq_list hd, Option.bind_some]
theorem couts_ok {Z : Str → Addr} {n m : Int} {k : Nat} {es : List Int} {d : D} (hd : SeqOf d (es.map D.int)) (hn : 0 ≤ n ∧ n ≤ 24) (he : EndsOk n k es) (hm : m = (k : Int)) : F_checked_outputs Z (.int n) (.int m) d (.int 0) = some (.ok (.tup (es.map D.int))) := by
  subst hm
  unfold F_checked_outputs
  rw [seq_is hd, seq_len hd, List.length_map]
  have hl := he.1
  simp only [Option.bind_some, dTru_b, Bool.not_true, Bool.false_eq_true, if_false, dAdd_ii, dSub_ii]
  rw [cNe_of, cEq_ii, decide_eq_true (by omega), Option.map_some, Option.bind_some, Option.bind_some, if_neg (by decide), seq_enum hd, Option.bind_some]
  obtain ⟨c, e, _, rfl, _⟩ := gives_loop (R := Except Er D) (f := fun (s11 : Unit) x13 => (un2 x13).bind fun p16 => (F_is_between p16.2 (.int 0) (.int (n + (k : Int)))).bind fun v19 => (dTru v19).bind fun t20 => if (!t20) = true then some (.ret (.error (Z "InvalidOutputs", [("index", p16.1)]))) else some (.go ()))
    (xs := enumD 0 (es.map D.int)) (s := ()) (fun _ _ => True) trivial fun i x s hx _ => by
      obtain ⟨y, hy, rfl⟩ := enumD_at hx
      rw [List.getElem?_map] at hy
      obtain ⟨c, h1, rfl⟩ := Option.map_eq_some_iff.mp hy
      have hb := he.2 c (List.mem_of_getElem? h1)
      rw [un2_t, Option.bind_some]
      dsimp only
      rw [btw_int, decide_eq_true hb]
      exact .mk ⟨(), rfl, trivial⟩
  rw [e, Option.bind_some, ctl_g, seq_list hd, Option.bind_some]
/-- the fields of a network -/
def netG (n : Int) (cs : List (Int × Int)) (es : List Int) : List (Str × D) := putG "held" (D.stup []) (putG "ends" (.tup (es.map D.int)) (putG "joins" (.tup (cs.map cellD)) (putG "bits" (.int n) [])))
def netD (Z : Str → Addr) (n : Int) (cs : List (Int × Int)) (es : List Int) : D := .ins (Z "Network") (netG n cs es)
theorem isC_ins {C : Addr} {g : List (Str × D)} : isC C (.ins C g) = some g := by
  show (if C = C then some g else none) = some g
  rw [if_pos rfl]
theorem putG_lt {f : Str} {v : D} : ∀ {g : List (Str × D)} {k : Nat}, g.length < k → (putG f v g).length < k + 1
  | [], k, h => by simp [putG]; simpa using h
  | (a, b) :: g, k, h => by
    unfold putG
    split
    · simp only [List.length_cons] at h ⊢; omega
    · simp only [List.length_cons] at h ⊢
      have := putG_lt (f := f) (v := v) (g := g) (k := k - 1) (by omega)
      omega
theorem mth_ins {C : Addr} {g : List (Str × D)} {m : Str} (h : g.lookup m = none) : mthC C m (.ins C g) = some g := by
  unfold mthC
  rw [isC_ins, Option.bind_some, if_pos h]
theorem lk_bits {n : Int} {cs : List (Int × Int)} {es : List Int} : (netG n cs es).lookup ("bits" : Str) = some (.int n) := rfl
theorem lk_joins {n : Int} {cs : List (Int × Int)} {es : List Int} : (netG n cs es).lookup ("joins" : Str) = some (.tup (cs.map cellD)) := rfl
theorem lk_ends {n : Int} {cs : List (Int × Int)} {es : List Int} : (netG n cs es).lookup ("ends" : Str) = some (.tup (es.map D.int)) := rfl
theorem netinit_ok {Z : Str → Addr} {n : Int} {cs : List (Int × Int)} {es : List Int} {dc de : D} (hdc : SeqOf dc (cs.map cellD)) (hde : SeqOf de (es.map D.int)) (hn : 1 ≤ n ∧ n ≤ 24) (hc : CellsOk n cs) (hl : cs.length ≤ 150) (he : EndsOk n cs.length es) :
    F_Network___init__ Z (.int n) dc de = some (.ok (netG n cs es)) := by
  unfold F_Network___init__
  rw [mth_ins (m := "LEAST_BITS") rfl, Option.bind_some, mth_ins (m := "MOST_BITS") rfl, Option.bind_some, btw_int, decide_eq_true hn, Option.bind_some, dTru_b, Option.bind_some, if_neg (by decide), chk_pos (show ([] : List (Str × D)).length < 1000 by decide), Option.bind_some, mth_ins (m := "LOWEST") rfl, Option.bind_some,
    ccells_ok hdc (by omega) hc hl, Option.bind_some]
  dsimp only [exC]
  rw [chk_pos (putG_lt (k := 999) (show ([] : List (Str × D)).length < 999 by decide)), Option.bind_some, isC_ins, Option.bind_some, show (putG "joins" (.tup (cs.map cellD)) (putG "bits" (.int n) ([] : List (Str × D)))).lookup ("joins" : Str) = some (.tup (cs.map cellD)) from rfl, Option.bind_some, dLen_t, Option.bind_some, mth_ins (m := "LOWEST") rfl, Option.bind_some,
    couts_ok hde (by omega) he (by rw [List.length_map]), Option.bind_some]
  dsimp only [exC]
  rw [chk_pos (putG_lt (k := 999) (putG_lt (k := 998) (show ([] : List (Str × D)).length < 998 by decide))), Option.bind_some, chk_pos (putG_lt (k := 999) (putG_lt (k := 998) (putG_lt (k := 997) (show ([] : List (Str × D)).length < 997 by decide)))), Option.bind_some]
  rfl
def CellsR (n : Int) (cs : List (Int × Int)) : Prop := ∀ (i : Nat) (c : Int × Int), cs[i]? = some c → (1 ≤ c.1 ∧ c.1 ≤ n + (i : Int)) ∧ 1 ≤ c.2 ∧ c.2 ≤ n + (i : Int)
def EndsR (n : Int) (m : Nat) (es : List Int) : Prop := (es.length : Int) = n ∧ ∀ e ∈ es, 1 ≤ e ∧ e ≤ n + (m : Int)
theorem CellsR.ok {n : Int} {cs : List (Int × Int)} (h : CellsR n cs) : CellsOk n cs := fun i c hc => by have := h i c hc; omega
theorem iscellR_ok {c : Int × Int} {t : Int} (h : (1 ≤ c.1 ∧ c.1 ≤ t - 1) ∧ 1 ≤ c.2 ∧ c.2 ≤ t - 1) : F_is_cell (cellD c) (.int 1) (.int t) = some (.bl true) := by
  have h1 : F_is_row (cellD c) (.int 2) = some (.bl true) := by
    unfold F_is_row
    rw [show dIsi "tuple" (cellD c) = some true from by unfold dIsi; exact chk_pos rfl]
    rfl
  unfold F_is_cell
  rw [h1]
  simp only [Option.bind_some, dTru_b, if_true]
  rw [show dIx (cellD c) (.int 0) = some (.int c.1) from rfl, show dIx (cellD c) (.int 1) = some (.int c.2) from rfl]
  simp only [Option.bind_some, dSub_ii]
  rw [btw_int, decide_eq_true h.1]
  simp only [Option.bind_some, dTru_b, if_true]
  rw [btw_int, decide_eq_true h.2]
  rfl
theorem ccellsR_ok {Z : Str → Addr} {n : Int} {cs : List (Int × Int)} {d : D} (hd : SeqOf d (cs.map cellD)) (hn : 0 ≤ n ∧ n ≤ 24) (hc : CellsR n cs) (hl : cs.length ≤ 150) : F_checked_cells Z (.int n) d (.int 1) = some (.ok (.tup (cs.map cellD))) := by
  unfold F_checked_cells
  rw [seq_is hd, seq_len hd, List.length_map]
  simp only [Option.bind_some, dTru_b, Bool.not_true, Bool.false_eq_true, if_false, cGt_ii]
  rw [decide_eq_false (by omega), if_neg (by decide), seq_enum hd, Option.bind_some]
  obtain ⟨c, e, _, rfl, _⟩ := gives_loop (R := Except Er D) (f := fun (s9 : Unit) x11 => (un2 x11).bind fun p14 => (dAdd (.int n) (D.int 1)).bind fun v16 => (dAdd v16 p14.1).bind fun v17 => (F_is_cell p14.2 (.int 1) v17).bind fun v18 => (dTru v18).bind fun t19 => if (!t19) = true then some (.ret (.error (Z "InvalidCells", [("index", p14.1)]))) else some (.go ()))
    (xs := enumD 0 (cs.map cellD)) (s := ()) (fun _ _ => True) trivial fun i x s hx _ => by
      obtain ⟨y, hy, rfl⟩ := enumD_at hx
      rw [List.getElem?_map] at hy
      obtain ⟨c, h1, rfl⟩ := Option.map_eq_some_iff.mp hy
      have hb := hc i c h1
      rw [un2_t, Option.bind_some, dAdd_ii, Option.bind_some, dAdd_ii, Option.bind_some]
      dsimp only
      rw [iscellR_ok (by omega)]
      exact .mk ⟨(), rfl, trivial⟩
  rw [e, Option.bind_some, ctl_g, seq_list hd, Option.bind_some]
theorem coutsR_ok {Z : Str → Addr} {n m : Int} {k : Nat} {es : List Int} {d : D} (hd : SeqOf d (es.map D.int)) (hn : 0 ≤ n ∧ n ≤ 24) (he : EndsR n k es) (hm : m = (k : Int)) : F_checked_outputs Z (.int n) (.int m) d (.int 1) = some (.ok (.tup (es.map D.int))) := by
  subst hm
  unfold F_checked_outputs
  rw [seq_is hd, seq_len hd, List.length_map]
  have hl := he.1
  simp only [Option.bind_some, dTru_b, Bool.not_true, Bool.false_eq_true, if_false, dAdd_ii, dSub_ii]
  rw [cNe_of, cEq_ii, decide_eq_true (by omega), Option.map_some, Option.bind_some, Option.bind_some, if_neg (by decide), seq_enum hd, Option.bind_some]
  obtain ⟨c, e, _, rfl, _⟩ := gives_loop (R := Except Er D) (f := fun (s11 : Unit) x13 => (un2 x13).bind fun p16 => (F_is_between p16.2 (.int 1) (.int (n + (k : Int)))).bind fun v19 => (dTru v19).bind fun t20 => if (!t20) = true then some (.ret (.error (Z "InvalidOutputs", [("index", p16.1)]))) else some (.go ()))
    (xs := enumD 0 (es.map D.int)) (s := ()) (fun _ _ => True) trivial fun i x s hx _ => by
      obtain ⟨y, hy, rfl⟩ := enumD_at hx
      rw [List.getElem?_map] at hy
      obtain ⟨c, h1, rfl⟩ := Option.map_eq_some_iff.mp hy
      have hb := he.2 c (List.mem_of_getElem? h1)
      rw [un2_t, Option.bind_some]
      dsimp only
      rw [btw_int, decide_eq_true hb]
      exact .mk ⟨(), rfl, trivial⟩
  rw [e, Option.bind_some, ctl_g, seq_list hd, Option.bind_some]
def ringD (Z : Str → Addr) (n : Int) (cs : List (Int × Int)) (es : List Int) : D := .ins (Z "Ring") (netG n cs es)
theorem ringinit_ok {Z : Str → Addr} {n : Int} {cs : List (Int × Int)} {es : List Int} {dc de : D} (hdc : SeqOf dc (cs.map cellD)) (hde : SeqOf de (es.map D.int)) (hn : 2 ≤ n ∧ n ≤ 24) (hc : CellsR n cs) (hl : cs.length ≤ 150) (he : EndsR n cs.length es) :
    F_Ring___init__ Z (.int n) dc de = some (.ok (netG n cs es)) := by
  unfold F_Ring___init__
  rw [mth_ins (m := "LEAST_BITS") rfl, Option.bind_some, mth_ins (m := "MOST_BITS") rfl, Option.bind_some, btw_int, decide_eq_true hn, Option.bind_some, dTru_b, Option.bind_some, if_neg (by decide), chk_pos (show ([] : List (Str × D)).length < 1000 by decide), Option.bind_some, mth_ins (m := "LOWEST") rfl, Option.bind_some,
    ccellsR_ok hdc (by omega) hc hl, Option.bind_some]
  dsimp only [exC]
  rw [chk_pos (putG_lt (k := 999) (show ([] : List (Str × D)).length < 999 by decide)), Option.bind_some, isC_ins, Option.bind_some, show (putG "joins" (.tup (cs.map cellD)) (putG "bits" (.int n) ([] : List (Str × D)))).lookup ("joins" : Str) = some (.tup (cs.map cellD)) from rfl, Option.bind_some, dLen_t, Option.bind_some, mth_ins (m := "LOWEST") rfl, Option.bind_some,
    coutsR_ok hde (by omega) he (by rw [List.length_map]), Option.bind_some]
  dsimp only [exC]
  rw [chk_pos (putG_lt (k := 999) (putG_lt (k := 998) (show ([] : List (Str × D)).length < 998 by decide))), Option.bind_some, chk_pos (putG_lt (k := 999) (putG_lt (k := 998) (putG_lt (k := 997) (show ([] : List (Str × D)).length < 997 by decide)))), Option.bind_some]
  rfl
def nfold {α : Type} (g : List α → Int × Int → α) : List (Int × Int) → List α → List α
  | [], A => A
  | c :: cs, A => nfold g cs (A ++ [g A c])
theorem nfold_len {α : Type} {g : List α → Int × Int → α} : ∀ {cs : List (Int × Int)} {A : List α}, (nfold g cs A).length = A.length + cs.length
  | [], A => rfl
  | c :: cs, A => by rw [nfold, nfold_len, List.length_append, List.length_cons]; simp; omega
theorem map_at {α : Type} {emb : α → D} {A : List α} {z : α} {p : Int} (h : 0 ≤ p ∧ p < (A.length : Int)) : dIx (.lst (A.map emb)) (.int p) = some (emb (A.getD p.toNat z)) := by
  rw [dIx_li]
  refine atI_of_get h.1 ?_
  rw [List.getElem?_map, List.getD_eq_getElem?_getD, List.getElem?_eq_getElem (by omega)]
  rfl
theorem getD_all {α : Type} {A : List α} {z : α} {P : α → Prop} {i : Nat} (h : ∀ a ∈ A, P a) (hi : i < A.length) : P (A.getD i z) := by
  rw [List.getD_eq_getElem?_getD, List.getElem?_eq_getElem hi]; exact h _ (List.getElem_mem hi)
theorem fold_nfold {α : Type} {emb : α → D} {f : List D → D → Option (List D)} {g : List α → Int × Int → α} {P : α → Prop} : ∀ {cs : List (Int × Int)} {xs : List D} {A : List α}, xs.length = cs.length → (∀ a ∈ A, P a) →
    (∀ (i : Nat) (c : Int × Int) (x : D) (A' : List α), xs[i]? = some x → cs[i]? = some c → (0 ≤ c.1 ∧ c.1 < (A'.length : Int)) → (0 ≤ c.2 ∧ c.2 < (A'.length : Int)) → A'.length < 1000 → (∀ a ∈ A', P a) → f (A'.map emb) x = some ((A' ++ [g A' c]).map emb) ∧ P (g A' c)) →
    (∀ (i : Nat) (c : Int × Int), cs[i]? = some c → (0 ≤ c.1 ∧ c.1 < (A.length : Int) + (i : Int)) ∧ 0 ≤ c.2 ∧ c.2 < (A.length : Int) + (i : Int)) → A.length + cs.length ≤ 1000 → foldO f (A.map emb) xs = some ((nfold g cs A).map emb) ∧ ∀ a ∈ nfold g cs A, P a
  | [], xs, A, hx, hA, _, _, _ => by rw [List.eq_nil_of_length_eq_zero hx]; exact ⟨rfl, hA⟩
  | c :: cs, xs, A, hx, hA, hf, hc, hl => by
    cases xs with
    | nil => cases hx
    | cons x xs =>
      rw [List.length_cons] at hl
      have h0 := hc 0 c rfl
      obtain ⟨e1, e2⟩ := hf 0 c x A rfl rfl (by omega) (by omega) (by omega) hA
      rw [foldO_cons, e1, Option.bind_some, nfold]
      refine fold_nfold (by simpa using hx) (fun a ha => ?_) (fun i c x A' h1 h2 => hf (i + 1) c x A' (by simpa using h1) (by simpa using h2)) (fun i d hd => ?_) (by rw [List.length_append]; simp; omega)
      · rcases List.mem_append.mp ha with ha | ha
        · exact hA a ha
        · rw [List.mem_singleton] at ha; subst ha; exact e2
      · have := hc (i + 1) d (by simpa using hd)
        rw [List.length_append, List.length_singleton]
        omega
def ordG (A : List (List Int)) (c : Int × Int) : List Int := firsts (A.getD c.1.toNat [] ++ A.getD c.2.toNat [])
def nords (cs : List (Int × Int)) (n : Int) : List (List Int) := nfold ordG cs ((List.range (n + 1).toNat).map fun (k : Nat) => [(k : Int)])
def depG (A : List Int) (c : Int × Int) : Int := 1 + (if A.getD c.2.toNat 0 > A.getD c.1.toNat 0 then A.getD c.2.toNat 0 else A.getD c.1.toNat 0)
def ndeps (cs : List (Int × Int)) (n : Int) : List Int := nfold depG cs (List.replicate (n + 1).toNat 0)
def OrdP (l : List Int) : Prop := EntOk l ∧ ∀ p ∈ l, 0 ≤ p ∧ p ≤ 24
theorem ordp_len {l : List Int} (h : OrdP l) : l.length ≤ 25 := nd_len 25 l h.1.1 fun p hp => by have := h.2 p hp; omega
theorem ordG_ok {A : List (List Int)} {c : Int × Int} (h : ∀ a ∈ A, OrdP a) (h1 : 0 ≤ c.1 ∧ c.1 < (A.length : Int)) (h2 : 0 ≤ c.2 ∧ c.2 < (A.length : Int)) : OrdP (ordG A c) := by
  have p1 := getD_all (z := []) (P := OrdP) h (i := c.1.toNat) (by omega)
  have p2 := getD_all (z := []) (P := OrdP) h (i := c.2.toNat) (by omega)
  refine ⟨firsts_ent, fun p hp => ?_⟩
  rcases List.mem_append.mp (firsts_sub hp) with hp | hp
  · exact p1.2 p hp
  · exact p2.2 p hp
theorem nords_at0 {n : Int} (hn : 0 ≤ n ∧ n ≤ 24) : ∀ a ∈ ((List.range (n + 1).toNat).map fun (k : Nat) => [(k : Int)]), OrdP a := fun a ha => by
  obtain ⟨k, hk, rfl⟩ := List.mem_map.mp ha
  have := List.mem_range.mp hk
  exact ⟨⟨by simp, by simp⟩, fun p hp => by rw [List.mem_singleton] at hp; omega⟩
theorem cellsA {n : Int} {m : Nat} {cs : List (Int × Int)} (hc : CellsOk n cs) (hm : (m : Int) = n + 1) (i : Nat) (c : Int × Int) (h : cs[i]? = some c) : (0 ≤ c.1 ∧ c.1 < (m : Int) + (i : Int)) ∧ 0 ≤ c.2 ∧ c.2 < (m : Int) + (i : Int) := by
  have := hc i c h
  omega
theorem nodeorders_ok {Z : Str → Addr} {n : Int} {cs : List (Int × Int)} {d : D} (hd : SeqOf d (cs.map cellD)) (hn : 1 ≤ n ∧ n ≤ 24) (hc : CellsOk n cs) (hl : cs.length ≤ 150) : F_node_orders Z (.int n) d = some (.lst ((nords cs n).map (ordD (Z "Order")))) := by
  have e : rngD 0 (n + 1).toNat = (List.range (n + 1).toNat).map fun (k : Nat) => D.int (k : Int) := by unfold rngD; simp
  have h := fold_nfold (emb := ordD (Z "Order")) (g := ordG) (P := OrdP) (cs := cs) (xs := cs.map cellD) (A := (List.range (n + 1).toNat).map fun (k : Nat) => [(k : Int)])
    (f := fun (s16 : List D) x18 => (un2 x18).bind fun p21 => (dIx (D.lst s16) p21.1).bind fun v22 => (dIx (D.lst s16) p21.2).bind fun v23 => (isC (Z "Order") v22).bind fun g24 => (isC (Z "Order") v23).bind fun g25 => (F_Order___add__ Z v22 v23).bind fun v26 => (insA v26).bind fun i27 => (chk (s16.length < 1000000) ()).bind fun _ => some (s16 ++ [v26])) (by rw [List.length_map]) (nords_at0 (by omega)) (fun i c x A' h1 h2 h3 h4 h5 h6 => by
      rw [List.getElem?_map, h2] at h1
      cases h1
      have q1 := getD_all (z := []) (P := OrdP) h6 (i := c.1.toNat) (by omega)
      have q2 := getD_all (z := []) (P := OrdP) h6 (i := c.2.toNat) (by omega)
      have p1 := ordp_len q1
      have p2 := ordp_len q2
      refine ⟨?_, ordG_ok h6 h3 h4⟩
      rw [show un2 (cellD c) = some (.int c.1, .int c.2) from rfl, Option.bind_some]
      dsimp only
      rw [map_at (z := []) h3, Option.bind_some, map_at (z := []) h4, Option.bind_some, isC_ord, Option.bind_some, isC_ord, Option.bind_some, addX_ok q1.2 q2.2 (by omega), Option.bind_some, insA_ord, Option.bind_some, chk_pos (by rw [List.length_map]; omega), Option.bind_some, List.map_append]
      rfl) (cellsA hc (by simp; omega)) (by simp; omega)
  unfold F_node_orders
  rw [dAdd_ii, Option.bind_some, Option.bind_some, dRange_1, chk_pos (by omega), Option.bind_some, rngD_len, chk_pos (by omega), Option.bind_some, e, mapO_of (g := fun k : Nat => ordD (Z "Order") [(k : Int)]) (fun k hk => by
    have := List.mem_range.mp hk
    have i1 := initX_ok (Z := Z) (ps := [(k : Int)]) (fun p hp => by rw [List.mem_singleton] at hp; omega) (by simp)
    rw [show D.tup [D.int (k : Int)] = .tup ([(k : Int)].map D.int) from rfl, i1, Option.bind_some, firsts_id (l := [(k : Int)]) ⟨by simp, by simp⟩]
    rfl), Option.bind_some, show dIter d = some (cs.map cellD) from by rcases hd with rfl | rfl <;> rfl, Option.bind_some]
  have h1 := h.1
  rw [List.map_map] at h1
  rw [show ((List.range (n + 1).toNat).map fun k : Nat => ordD (Z "Order") [(k : Int)]) = (List.range (n + 1).toNat).map (ordD (Z "Order") ∘ fun (k : Nat) => [(k : Int)]) from rfl, h1, Option.bind_some]
  rfl
def DepP (d : Int) : Prop := 0 ≤ d
theorem nfold_app {α : Type} {g : List α → Int × Int → α} : ∀ {a b : List (Int × Int)} {A : List α}, nfold g (a ++ b) A = nfold g b (nfold g a A)
  | [], b, A => rfl
  | c :: a, b, A => by rw [List.cons_append, nfold, nfold, nfold_app]
theorem nfold_pre {α : Type} {g : List α → Int × Int → α} {z : α} : ∀ {cs : List (Int × Int)} {A : List α} {k : Nat}, k < A.length → (nfold g cs A).getD k z = A.getD k z
  | [], A, k, _ => rfl
  | c :: cs, A, k, h => by
    rw [nfold, nfold_pre (by rw [List.length_append]; omega), List.getD_eq_getElem?_getD, List.getD_eq_getElem?_getD, List.getElem?_append_left h]
def pickS (A : List Nat) (c : Int × Int) : Nat := if A.getD c.1.toNat 0 = 80 then A.getD c.2.toNat 0 else A.getD c.1.toNat 0
def nsts : List (Int × Int) → List Nat → List Nat
  | [], A => A
  | c :: cs, A => nsts cs (A ++ [pickS A c])
theorem enum_pair {i k : Nat} {x : D} {cs : List (Int × Int)} (h1 : (enumD k (cs.map cellD))[i]? = some x) {c : Int × Int} (h2 : cs[i]? = some c) : x = .tup [.int ((k + i : Nat) : Int), cellD c] := by
  obtain ⟨y, hy, rfl⟩ := enumD_at h1
  rw [List.getElem?_map, h2] at hy
  cases hy
  rfl
def lowI (r : Bool) : Int := if r = true then 1 else 0
def kn (r : Bool) : Str := if r = true then "Ring" else "Network"
def netU (Z : Str → Addr) (r : Bool) (n : Int) (cs : List (Int × Int)) (es : List Int) : D := .ins (Z (kn r)) (netG n cs es)
/-- cells and outputs of a network -/
structure WirU (r : Bool) (n : Int) (cs : List (Int × Int)) (es : List Int) : Prop where
  n1 : 1 + lowI r ≤ n
  n2 : n ≤ 24
  cel : CelL (lowI r) n cs
  few : cs.length ≤ 150
  ends : EndL (lowI r) n cs.length es
theorem lowI_t : lowI true = 1 := rfl
theorem lowI_f : lowI false = 0 := rfl
theorem lowI_b {r : Bool} : 0 ≤ lowI r ∧ lowI r ≤ 1 := by cases r <;> decide
theorem WirU.n0 {r : Bool} {n : Int} {cs : List (Int × Int)} {es : List Int} (h : WirU r n cs es) : 1 ≤ n ∧ n ≤ 24 := ⟨by have := h.n1; have := (lowI_b (r := r)).1; omega, h.n2⟩
theorem celL_ok {r : Bool} {n : Int} {cs : List (Int × Int)} (h : CelL (lowI r) n cs) : CellsOk n cs := fun i c hc => by have := h i c hc; have := (lowI_b (r := r)).1; omega
theorem celL_R {n : Int} {cs : List (Int × Int)} (h : CelL (lowI true) n cs) : CellsR n cs := fun i c hc => h i c hc
theorem endL_ok {n : Int} {m : Nat} {es : List Int} (h : EndL (lowI false) n m es) : EndsOk n m es := ⟨by have := h.1; rw [lowI_f] at this; omega, h.2⟩
theorem endL_R {n : Int} {m : Nat} {es : List Int} (h : EndL (lowI true) n m es) : EndsR n m es := ⟨by have := h.1; rw [lowI_t] at this; omega, h.2⟩
theorem netU_t {Z : Str → Addr} {n : Int} {cs : List (Int × Int)} {es : List Int} : netU Z true n cs es = ringD Z n cs es := rfl
theorem netU_f {Z : Str → Addr} {n : Int} {cs : List (Int × Int)} {es : List Int} : netU Z false n cs es = netD Z n cs es := rfl
section
variable {Z : Str → Addr} {r : Bool} {n : Int} {cs : List (Int × Int)} {es : List Int}
theorem isU_U : isU [Z "Network", Z "Ring"] (netU Z r n cs es) = some (netG n cs es) := by
  cases r
  · exact if_pos (by simp [kn])
  · exact if_pos (by simp [kn])
theorem cls_f : clsIs (Z "Network") (netU Z false n cs es) = true := clsIs_pos
theorem cls_t : clsIs (Z "Ring") (netU Z true n cs es) = true := clsIs_pos
theorem cls_n (h : Z "Ring" ≠ Z "Network") : ¬ clsIs (Z "Network") (netU Z true n cs es) = true := clsIs_neg h
theorem init_Ut {dc de : D} (w : WirU true n cs es) (hdc : SeqOf dc (cs.map cellD)) (hde : SeqOf de (es.map D.int)) : F_Ring___init__ Z (.int n) dc de = some (.ok (netG n cs es)) :=
  ringinit_ok hdc hde ⟨w.n1, w.n2⟩ (celL_R w.cel) w.few (endL_R w.ends)
theorem init_Uf {dc de : D} (w : WirU false n cs es) (hdc : SeqOf dc (cs.map cellD)) (hde : SeqOf de (es.map D.int)) : F_Network___init__ Z (.int n) dc de = some (.ok (netG n cs es)) :=
  netinit_ok hdc hde w.n0 (celL_ok w.cel) w.few (endL_ok w.ends)
end
theorem nordsU_len {n : Int} {cs : List (Int × Int)} (hn : 0 ≤ n) : ((nords cs n).length : Int) = n + 1 + (cs.length : Int) := by unfold nords; rw [nfold_len]; simp; omega
theorem orders_tail {Z : Str → Addr} {n : Int} {cs : List (Int × Int)} {es : List Int} (hn : 0 ≤ n) (he : ∀ e ∈ es, 0 ≤ e ∧ e ≤ n + (cs.length : Int)) (hl : es.length ≤ 1000) :
    ((dIter (.tup (es.map D.int))).bind fun l9 => (chk (l9.length ≤ 1000000) ()).bind fun _ => (mapO (fun x11 => (dIx (.lst ((nords cs n).map (ordD (Z "Order")))) x11).bind fun v16 => some v16) l9).bind fun y12 => (lList (D.lst y12)).bind fun l17 => some (D.tup l17)) = some (.tup (es.map fun e => ordD (Z "Order") ((nords cs n).getD e.toNat []))) := by
  rw [dIter_t, Option.bind_some, List.length_map, chk_pos (by omega), Option.bind_some, mapO_of (g := fun e => ordD (Z "Order") ((nords cs n).getD e.toNat [])) fun e hm => by
      have := he e hm
      rw [map_at (z := []) (by have := nordsU_len (n := n) (cs := cs) hn; omega), Option.bind_some], Option.bind_some, lList_l, Option.bind_some]
theorem bits_ok {s : Hs} {m a b : Int} (hs : HOk s m) (hm : m ≤ 900000) (hab : 0 ≤ a ∧ a ≤ b ∧ b ≤ 1000) : Gives (F_Lbits (penL s) (.int a) (.int b)) fun q => ∃ k s', q = (.int k, penL s') ∧ a ≤ k ∧ k ≤ b ∧ HOk s' (m + 3) := by
  unfold F_Lbits
  rw [dSub_ii, Option.bind_some, dAdd_ii, Option.bind_some]
  obtain ⟨w, ew, w0, w1, w2⟩ := min2_ok (a := 3) (b := b - a + 1) (by decide) (by omega)
  rw [ew, Option.bind_some]
  refine .bind ((draw_ok hs (by omega) (by omega)).imp fun q hq => ?_)
  obtain ⟨k1, s1, rfl, a1, b1, h1⟩ := hq
  dsimp only
  simp only [dAdd_ii, Option.bind_some]
  refine .bind ((draw_ok h1 (by omega) (by omega)).imp fun q hq => ?_)
  obtain ⟨k2, s2, rfl, a2, b2, h2⟩ := hq
  dsimp only
  rw [dAdd_ii, Option.bind_some]
  refine .bind ((draw_ok h2 (by omega) (by decide)).imp fun q hq => ?_)
  obtain ⟨j, s3, rfl, a3, b3, h3⟩ := hq
  dsimp only
  obtain ⟨x, ex, hx⟩ := ixI (l := [a + k1, a + k2, b]) a3 b3
  simp only [List.mem_cons, List.not_mem_nil, or_false] at hx
  refine .bind (gofW ex ?_)
  exact .mk ⟨x, s3, rfl, by omega, by omega, h3.mono (by omega)⟩
/-- a small number's text -/
def sI (i : Int) : Str := (toString i : Str)
def entD (e : Int) : D := if 0 ≤ e then .int e else .str (S [(-e).toNat])
def entV (e : Int) : V := if 0 ≤ e then .int e else .str (S [(-e).toNat])
def rowD (r : List Int) : D := .tup (r.map entD)
def EOk (n e : Int) : Prop := (0 ≤ e ∧ e ≤ n) ∨ e = -71 ∨ e = -75
theorem ent_pos {e : Int} (h : 0 ≤ e) : entD e = .int e := if_pos h
theorem ent_neg {e : Int} (h : e < 0) : entD e = .str (S [(-e).toNat]) := if_neg (by omega)
theorem ent_fl (e : Int) : flD (entD e) = some (entV e) := by
  unfold entD entV
  split <;> rfl
theorem ents_fl : ∀ l : List Int, flDs (l.map entD) = some (l.map entV)
  | [] => rfl
  | e :: l => by rw [List.map_cons, flDs, ents_fl l, ent_fl]; rfl
theorem ent_eq {n x y : Int} (hx : EOk n x) (hy : EOk n y) : eqV (entV y) (entV x) = decide (y = x) := by
  rcases hx with hx | rfl | rfl
  · rcases hy with hy | rfl | rfl
    · unfold entV
      rw [if_pos hx.1, if_pos hy.1]
      show (y == x) = decide (y = x)
      by_cases h : y = x
      · subst h; simp
      · simp [h]
    · unfold entV
      rw [if_pos hx.1, if_neg (by decide), decide_eq_false (by omega)]
      rfl
    · unfold entV
      rw [if_pos hx.1, if_neg (by decide), decide_eq_false (by omega)]
      rfl
  · rcases hy with hy | rfl | rfl
    · unfold entV
      rw [if_pos hy.1, if_neg (by decide), decide_eq_false (by omega)]
      rfl
    · decide
    · decide
  · rcases hy with hy | rfl | rfl
    · unfold entV
      rw [if_pos hy.1, if_neg (by decide), decide_eq_false (by omega)]
      rfl
    · decide
    · decide
theorem inV_ent {n e : Int} (he : EOk n e) : ∀ {l : List Int}, (∀ x ∈ l, EOk n x) → inV (entV e) (l.map entV) = decide (e ∈ l)
  | [], _ => by simp [inV]
  | y :: l, h => by
    have ih := inV_ent he (l := l) fun x hx => h x (List.mem_cons_of_mem _ hx)
    unfold inV at ih ⊢
    rw [List.map_cons, List.any_cons, ih, ent_eq he (h y List.mem_cons_self)]
    by_cases q : y = e
    · subst q; simp
    · have q' : ¬ e = y := fun z => q z.symm
      simp [q, q']
theorem cIn_flat {a c : D} {ds : List D} {v : V} {vs : List V} (h1 : flD a = some v) (h2 : itemsD c = some ds) (h3 : flDs ds = some vs) : cIn a c = some (inV v vs) := by
  unfold cIn
  split
  · cases h2
  · rw [h1, Option.bind_some, h2, Option.bind_some, h3, Option.bind_some]
theorem cIn_ent {n e : Int} {l : List Int} (he : EOk n e) (hl : ∀ x ∈ l, EOk n x) : cIn (entD e) (rowD l) = some (decide (e ∈ l)) := by
  rw [cIn_flat (ent_fl e) rfl (ents_fl l), inV_ent he hl]
theorem cIn_entL {n e : Int} {l : List Int} (he : EOk n e) (hl : ∀ x ∈ l, EOk n x) : cIn (entD e) (.lst (l.map entD)) = some (decide (e ∈ l)) := by
  rw [cIn_flat (ent_fl e) rfl (ents_fl l), inV_ent he hl]
theorem term_row : D.tup [(D.int 0), (D.str "G"), (D.str "K")] = rowD [0, -71, -75] := by
  have g1 : ("G" : Str) = S [71] := lit_G
  have g2 : ("K" : Str) = S [75] := lit_K
  rw [g1, g2]
  rfl
theorem isterm {n e : Int} (hn : 0 ≤ n) (he : EOk n e) : cIn (entD e) (D.tup [(D.int 0), (D.str "G"), (D.str "K")]) = some (decide (e ≤ 0)) := by
  rw [term_row, cIn_ent he (fun x hx => by
    simp only [List.mem_cons, List.not_mem_nil, or_false] at hx
    rcases hx with rfl | rfl | rfl
    · exact .inl ⟨Int.le_refl 0, hn⟩
    · exact .inr (.inl rfl)
    · exact .inr (.inr rfl))]
  congr 1
  refine decide_eq_decide.mpr ⟨fun h => ?_, fun h => ?_⟩
  · simp only [List.mem_cons, List.not_mem_nil, or_false] at h
    omega
  · simp only [List.mem_cons, List.not_mem_nil, or_false]
    unfold EOk at he
    omega
def trm (r : List Int) : Bool := r.any fun e => decide (e ≤ 0)
def jadd (r : List Int) (e : Int) : List Int := if e ∈ r then r else if trm r = true then r else r ++ [e]
def jrow (u l : List Int) : List Int := l.foldl jadd u
structure ROk (n : Int) (r : List Int) : Prop where
  nd : r.Nodup
  ok : ∀ e ∈ r, EOk n e
  ft : trm r.dropLast = false
theorem nodup_len : ∀ {l U : List Int}, l.Nodup → (∀ e ∈ l, e ∈ U) → l.length ≤ U.length
  | [], U, _, _ => Nat.zero_le _
  | a :: l, U, h, hs => by
    rw [List.nodup_cons] at h
    have ha := hs a List.mem_cons_self
    have := nodup_len (U := U.erase a) h.2 fun e he => (List.mem_erase_of_ne (fun z => h.1 (by rw [← z]; exact he))).mpr (hs e (List.mem_cons_of_mem _ he))
    rw [List.length_erase_of_mem ha] at this
    have := List.length_pos_of_mem ha
    simp only [List.length_cons]
    omega
theorem ROk.len {n : Int} {r : List Int} (h : ROk n r) (hn : 0 ≤ n ∧ n ≤ 24) : r.length ≤ 27 := by
  refine nodup_len (U := [-71, -75] ++ (List.range 25).map fun k : Nat => (k : Int)) h.nd fun e he => ?_
  rcases h.ok e he with q | rfl | rfl
  · refine List.mem_append.mpr (.inr (List.mem_map.mpr ⟨e.toNat, List.mem_range.mpr (by omega), by omega⟩))
  · simp
  · simp
theorem ROk.add {n e : Int} {r : List Int} (h : ROk n r) (he : EOk n e) : ROk n (jadd r e) := by
  unfold jadd
  split
  · exact h
  · rename_i q
    split
    · exact h
    · rename_i q2
      refine ⟨List.nodup_append.mpr ⟨h.nd, by simp, fun a ha b hb => ?_⟩, fun x hx => ?_, ?_⟩
      · rw [List.mem_singleton] at hb
        subst hb
        exact fun z => q (z ▸ ha)
      · rcases List.mem_append.mp hx with hx | hx
        · exact h.ok x hx
        · rw [List.mem_singleton] at hx; subst hx; exact he
      · rw [List.dropLast_concat]
        simpa using q2
theorem ROk.join {n : Int} : ∀ {l u : List Int}, ROk n u → (∀ e ∈ l, EOk n e) → ROk n (jrow u l)
  | [], _, h, _ => h
  | e :: l, u, h, hl => ROk.join (l := l) (h.add (hl e List.mem_cons_self)) fun x hx => hl x (List.mem_cons_of_mem _ hx)
theorem jrow_cons {u l : List Int} {e : Int} : jrow u (e :: l) = jrow (jadd u e) l := rfl
theorem jadd_stop {u : List Int} {e : Int} (h : trm u = true) : jadd u e = u := by
  unfold jadd
  rw [if_pos h]
  split <;> rfl
theorem jrow_stop {u : List Int} (h : trm u = true) : ∀ {l : List Int}, jrow u l = u
  | [] => rfl
  | e :: l => by rw [jrow_cons, jadd_stop h, jrow_stop h]
/-- the last entry tells whether there is one that ends a row -/
theorem trm_last {r : List Int} {n e : Int} (h : ROk n (r ++ [e])) : trm (r ++ [e]) = decide (e ≤ 0) := by
  have := h.ft
  rw [List.dropLast_concat] at this
  unfold trm at this ⊢
  rw [List.any_append, this]
  simp
def rst (T : Int → Nat) : List Int → Nat
  | [] => 80
  | e :: r => if T e = 80 then rst T r else T e
def rstep (hf : Nat → Option Nat) (A : List (List Int)) (k : Nat) (c : Int × Int) : List Int := match hf k with
  | some s => if s = 80 then [] else [-(s : Int)]
  | none => jrow (A.getD c.1.toNat []) (A.getD c.2.toNat [])
def nrows (hf : Nat → Option Nat) : Nat → List (Int × Int) → List (List Int) → List (List Int)
  | _, [], A => A
  | k, c :: cs, A => nrows hf (k + 1) cs (A ++ [rstep hf A k c])
def rbase (n : Int) : List (List Int) := (List.range (n + 1).toNat).map fun k : Nat => [(k : Int)]
theorem rbase_len {n : Int} : (rbase n).length = (n + 1).toNat := by simp [rbase]
theorem nrows_len {hf : Nat → Option Nat} : ∀ {cs : List (Int × Int)} {k : Nat} {A : List (List Int)}, (nrows hf k cs A).length = A.length + cs.length
  | [], k, A => rfl
  | c :: cs, k, A => by rw [nrows, nrows_len, List.length_append, List.length_cons]; simp; omega
def HfOk (hf : Nat → Option Nat) : Prop := ∀ k c, hf k = some c → isS c
theorem letter_ok {n : Int} {s : Nat} (h : isS s) : ROk n (if s = 80 then [] else [-(s : Int)]) := by
  split
  · exact ⟨by simp, (fun e he => by cases he), rfl⟩
  · rename_i q
    refine ⟨by simp, fun e he => ?_, rfl⟩
    rw [List.mem_singleton] at he
    subst he
    rcases h with rfl | rfl | rfl
    · exact .inr (.inl rfl)
    · exact .inr (.inr rfl)
    · exact absurd rfl q
theorem getD_inR {A : List (List Int)} {i : Nat} (hi : i < A.length) : A.getD i [] ∈ A := by
  rw [List.getD_eq_getElem?_getD, List.getElem?_eq_getElem hi]; exact List.getElem_mem hi
theorem rstep_ok {hf : Nat → Option Nat} {n : Int} {A : List (List Int)} {k : Nat} {c : Int × Int} (hh : HfOk hf) (hA : ∀ r ∈ A, ROk n r) (h1 : 0 ≤ c.1 ∧ c.1 < (A.length : Int)) (h2 : 0 ≤ c.2 ∧ c.2 < (A.length : Int)) : ROk n (rstep hf A k c) := by
  unfold rstep
  split
  · rename_i s q; exact letter_ok (hh k s q)
  · exact (hA _ (getD_inR (by omega))).join (hA _ (getD_inR (by omega))).ok
def CsIn (m : Nat) (cs : List (Int × Int)) : Prop := ∀ (i : Nat) (c : Int × Int), cs[i]? = some c → (0 ≤ c.1 ∧ c.1 < (m : Int) + (i : Int)) ∧ 0 ≤ c.2 ∧ c.2 < (m : Int) + (i : Int)
theorem CsIn.tail {m : Nat} {c : Int × Int} {cs : List (Int × Int)} (h : CsIn m (c :: cs)) : CsIn (m + 1) cs := fun i d hd => by
  have := h (i + 1) d (by simpa using hd)
  omega
theorem csin_of {n : Int} {cs : List (Int × Int)} {m : Nat} (h : CellsOk n cs) (hm : (m : Int) = n + 1) : CsIn m cs := fun i c hc => by
  have := h i c hc
  omega
theorem rbase_ok {n : Int} (hn : 0 ≤ n) : ∀ r ∈ rbase n, ROk n r := fun r hr => by
  obtain ⟨k, hk, rfl⟩ := List.mem_map.mp hr
  have := List.mem_range.mp hk
  refine ⟨by simp, fun e he => ?_, rfl⟩
  rw [List.mem_singleton] at he
  subst he
  exact .inl ⟨by omega, by omega⟩
def hnsts (hf : Nat → Option Nat) : Nat → List (Int × Int) → List Nat → List Nat
  | _, [], A => A
  | k, c :: cs, A => hnsts hf (k + 1) cs (A ++ [(hf k).getD (pickS A c)])
theorem lastL_ix {l : List D} {x : D} : dIx (.lst (l ++ [x])) (.int (-1)) = some x := by
  rw [dIx_li]
  have e : ixN (l ++ [x]).length (-1) = some l.length := by
    unfold ixN
    simp
    omega
  unfold atI
  rw [e, Option.bind_some]
  simp
theorem loop_jrow {n : Int} {R : Type} {f : List D → D → Option (Ctl (List D) R)} (hf : ∀ (u : List Int) (e : Int), ROk n u → EOk n e → f (u.map entD) (entD e) = some (if trm u = true then .brk (u.map entD) else .go ((jadd u e).map entD))) :
    ∀ {l u : List Int}, ROk n u → (∀ e ∈ l, EOk n e) → loopC f (u.map entD) (l.map entD) = some (.go ((jrow u l).map entD))
  | [], u, _, _ => rfl
  | e :: l, u, hu, hl => by
    have he := hl e List.mem_cons_self
    rw [List.map_cons, loopC, hf u e hu he, Option.bind_some]
    by_cases q : trm u = true
    · rw [if_pos q, jrow_cons, jadd_stop q, jrow_stop q]
    · rw [if_neg q]
      exact loop_jrow hf (hu.add he) fun x hx => hl x (List.mem_cons_of_mem _ hx)
theorem joined_ok {n : Int} {u l : List Int} (hn : 0 ≤ n ∧ n ≤ 24) (hu : ROk n u) (hl : ROk n l) : F_joined_rows (rowD u) (rowD l) = some (rowD (jrow u l)) := by
  have lu := hu.len hn
  have ll := (hu.join hl.ok).len hn
  unfold F_joined_rows
  unfold rowD
  rw [items_t, Option.bind_some, List.append_nil, List.length_map, chk_pos (by omega), Option.bind_some, dIter_t, Option.bind_some,
    loop_jrow (n := n) (fun v e hv he => ?_) hu hl.ok, Option.bind_some, ctl_g, lList_l, Option.bind_some]
  have lv := hv.len hn
  rw [cNe_of, cEq_nilq, Option.map_some, Option.bind_some]
  have fin : trm v = false → ((cNin (entD e) (D.lst (v.map entD))).bind fun t18 => if t18 = true then (chk ((v.map entD).length < 1000000) ()).bind fun _ => some (v.map entD ++ [entD e]) else some (v.map entD)) = some ((jadd v e).map entD) := fun ht => by
    rw [cNin_of, cIn_entL he hv.ok, Option.map_some, Option.bind_some]
    unfold jadd
    by_cases q : e ∈ v
    · rw [decide_eq_true q, if_pos q, if_neg (by decide)]
    · rw [decide_eq_false q, if_neg q, if_pos (by decide), chk_pos (by rw [List.length_map]; omega), Option.bind_some, ht, if_neg (by decide), List.map_append]
      rfl
  rcases List.eq_nil_or_concat v with rfl | ⟨w, x, ew⟩
  · rw [if_neg (by simp), Option.bind_some, if_neg (by decide), fin rfl, Option.bind_some, if_neg (by decide)]
  · rw [List.concat_eq_append] at ew
    subst ew
    rw [if_pos (by simp), List.map_append, show [x].map entD = [entD x] from rfl, lastL_ix, Option.bind_some, isterm hn.1 (hv.ok x (by simp)), Option.bind_some, Option.bind_some, ← trm_last hv]
    cases q : trm (w ++ [x]) with
    | true => rw [if_pos rfl, if_pos rfl]
    | false =>
      have := fin q
      rw [List.map_append, show [x].map entD = [entD x] from rfl] at this
      rw [if_neg (by decide), this, Option.bind_some, if_neg (by decide)]
def stkD (p : Nat × Nat) : D := .tup [.int (p.1 : Int), .str (S [p.2])]
def lowS (st : List (Nat × Nat)) : Nat → Nat
  | 0 => 0
  | i + 1 => match st[i]? with | some p => p.1 + 1 | none => 0
theorem lowS_succ {st : List (Nat × Nat)} {i : Nat} : lowS st (i + 1) = match st[i]? with | some p => p.1 + 1 | none => 0 := rfl
def SkOk (m : Nat) (st : List (Nat × Nat)) : Prop := ∀ (i : Nat) (p : Nat × Nat), st[i]? = some p → isS p.2 ∧ lowS st i ≤ p.1 ∧ p.1 < m
theorem isrow2 {p : Nat × Nat} : F_is_row (stkD p) (.int 2) = some (.bl true) := by
  unfold F_is_row
  rw [show dIsi "tuple" (stkD p) = some true from by unfold dIsi; exact chk_pos rfl]
  rfl
theorem isstate_ok {c : Nat} (h : isS c) : F_is_state (.str (S [c])) = some (.bl true) := by
  unfold F_is_state
  rw [isi_strO, Option.bind_some, dTru_b, Option.bind_some, if_pos rfl, dLen_s, S_len, chk_pos (by simp), Option.bind_some, btw_int, show decide ((1 : Int) ≤ (([c] : List Nat).length : Int) ∧ (([c] : List Nat).length : Int) ≤ 1) = true from by simp, Option.bind_some, dTru_b, Option.bind_some, if_pos rfl,
    show D.tup [D.str "G", D.str "K", D.str "P"] = .tup (([Str.ofString "G", Str.ofString "K", Str.ofString "P"] : List Str).map D.str) from rfl, cIn_tstrO]
  have g1 : Str.ofString "G" = S [71] := lit_G
  have g2 : Str.ofString "K" = S [75] := lit_K
  have g3 : Str.ofString "P" = S [80] := lit_P
  rw [g1, g2, g3, decide_eq_true (by rcases h with rfl | rfl | rfl <;> simp), Option.bind_some, Option.bind_some]
/-- a list of stuck cells, or a tuple whose object is known -/
def SkD (d : D) (st : List (Nat × Nat)) : Prop := d = .lst (st.map stkD) ∨ d = .stup (st.map stkD)
theorem cstuck_ok {Z : Str → Addr} {d : D} {m : Nat} {st : List (Nat × Nat)} (hd : SkD d st) (h : SkOk m st) : F_checked_stuck Z d (.int (m : Int)) = some (.ok (.stup (st.map stkD))) := by
  have e1 : SeqOf (unstD d) (st.map stkD) := by rcases hd with rfl | rfl <;> first | exact .inl rfl | exact .inr rfl
  have e2 : sTup d = some (st.map stkD) := by rcases hd with rfl | rfl <;> rfl
  unfold F_checked_stuck
  rw [seq_is e1, Option.bind_some, dTru_b, Option.bind_some, if_neg (by decide), seq_enum e1, Option.bind_some]
  obtain ⟨c, e, s', rfl, _⟩ := gives_loop (R := Except Er D) (f := fun (s5 : D) x7 => (un2 x7).bind fun p10 => ((F_is_row p10.2 (D.int 2)).bind fun v13 => (dTru v13).bind fun t14 => if (!t14) = true then some true else (dIx p10.2 (D.int 0)).bind fun v16 => (dSub (.int (m : Int)) (D.int 1)).bind fun v17 => (F_is_between v16 s5 v17).bind fun v18 => (dTru v18).bind fun t19 => if (!t19) = true then some true else (dIx p10.2 (D.int 1)).bind fun v20 => (F_is_state v20).bind fun v21 => (dTru v21).bind fun t22 => some (!t22)).bind fun t23 => if t23 = true then some (.ret (.error (Z "InvalidStuck", [("index", p10.1)]))) else (dIx p10.2 (D.int 0)).bind fun v24 => (dAdd v24 (D.int 1)).bind fun v25 => some (.go v25))
    (xs := enumD 0 (st.map stkD)) (s := .int 0) (fun i s => s = .int (lowS st i : Nat)) rfl fun i x s hx hI => by
      subst hI
      obtain ⟨y, hy, rfl⟩ := enumD_at hx
      rw [List.getElem?_map] at hy
      obtain ⟨p, h1, rfl⟩ := Option.map_eq_some_iff.mp hy
      obtain ⟨q1, q2, q3⟩ := h i p h1
      rw [un2_t, Option.bind_some]
      dsimp only
      have x0 : dIx (stkD p) (.int 0) = some (.int (p.1 : Int)) := rfl
      have x1 : dIx (stkD p) (.int 1) = some (.str (S [p.2])) := rfl
      rw [isrow2, Option.bind_some, dTru_b, Option.bind_some, if_neg (by decide), x0, Option.bind_some, dSub_ii, Option.bind_some, btw_int, decide_eq_true (by omega), Option.bind_some, dTru_b, Option.bind_some, if_neg (by decide), x1, Option.bind_some, isstate_ok q1, Option.bind_some, dTru_b, Option.bind_some, Option.bind_some, if_neg (by decide), Option.bind_some, dAdd_ii, Option.bind_some]
      refine .mk ⟨_, rfl, ?_⟩
      show D.int ((p.1 : Int) + 1) = .int (lowS st (i + 1) : Nat)
      rw [lowS_succ, h1]
      rfl
  rw [e, Option.bind_some, ctl_g, e2, Option.bind_some]
def stkK (p : Nat × Nat) : Key × D := (.inl (p.1 : Int), .str (S [p.2]))
def heldK (st : List (Nat × Nat)) : List (Key × D) := mergeD [] (st.map stkK)
theorem kvs_stk : ∀ st : List (Nat × Nat), kvsD (st.map stkD) = some (st.map stkK)
  | [] => rfl
  | p :: st => by
    rw [List.map_cons, show stkD p = .tup [.int (p.1 : Int), .str (S [p.2])] from rfl, kvsD, keyD_i, Option.bind_some, kvs_stk st]
    rfl
theorem putD_all {Q : D → Prop} {acc : List (Key × D)} {k : Key} {v : D} (h : ∀ kv ∈ acc, Q kv.2) (hv : Q v) : ∀ kv ∈ putD acc k v, Q kv.2 := by
  intro kv hk
  unfold putD at hk
  split at hk
  · obtain ⟨x, hx, rfl⟩ := List.mem_map.mp hk
    split
    · exact hv
    · exact h x hx
  · rcases List.mem_append.mp hk with hk | hk
    · exact h kv hk
    · rw [List.mem_singleton] at hk; subst hk; exact hv
theorem merge_all {Q : D → Prop} : ∀ {more acc : List (Key × D)}, (∀ kv ∈ acc, Q kv.2) → (∀ kv ∈ more, Q kv.2) → ∀ kv ∈ mergeD acc more, Q kv.2
  | [], acc, h, _ => h
  | x :: more, acc, h, hm => by
    show ∀ kv ∈ mergeD (putD acc x.1 x.2) more, Q kv.2
    exact merge_all (putD_all h (hm x List.mem_cons_self)) fun kv hk => hm kv (List.mem_cons_of_mem _ hk)
def chrD : D → Nat
  | .str z => z.cps.toList.headD 0
  | _ => 0
def hfS (st : List (Nat × Nat)) (k : Nat) : Option Nat := (valD (heldK st) (.inl (k : Int))).map chrD
theorem held_val {m : Nat} {st : List (Nat × Nat)} (h : SkOk m st) {k : Nat} {d : D} (e : valD (heldK st) (.inl (k : Int)) = some d) : ∃ c, isS c ∧ d = .str (S [c]) := by
  unfold valD at e
  obtain ⟨kv, h1, rfl⟩ := Option.map_eq_some_iff.mp e
  refine merge_all (Q := fun d => ∃ c, isS c ∧ d = .str (S [c])) (acc := []) (more := st.map stkK) (fun kv hk => nomatch hk) (fun kv hk => ?_) kv (List.mem_of_find?_eq_some h1)
  obtain ⟨p, hp, rfl⟩ := List.mem_map.mp hk
  obtain ⟨i, hi⟩ := List.getElem?_of_mem hp
  exact ⟨p.2, (h i p hi).1, rfl⟩
theorem hfS_ok {m : Nat} {st : List (Nat × Nat)} (h : SkOk m st) : HfOk (hfS st) := fun k c e => by
  unfold hfS at e
  obtain ⟨d, h1, rfl⟩ := Option.map_eq_some_iff.mp e
  obtain ⟨c, hc, rfl⟩ := held_val h h1
  exact hc
theorem hfS_val {m : Nat} {st : List (Nat × Nat)} (h : SkOk m st) (k : Nat) : valD (heldK st) (.inl (k : Int)) = (hfS st k).map fun c => .str (S [c]) := by
  unfold hfS
  cases e : valD (heldK st) (.inl (k : Int)) with
  | none => rfl
  | some d =>
    obtain ⟨c, hc, rfl⟩ := held_val h e
    rfl
theorem inK_stk {m : Nat} {st : List (Nat × Nat)} (h : SkOk m st) (k : Nat) : dInK (heldK st) (.int (k : Int)) = some (hfS st k).isSome := by
  unfold dInK
  rw [keyD_i, Option.map_some, hfS_val h, Option.isSome_map]
theorem getK_stk {m : Nat} {st : List (Nat × Nat)} (h : SkOk m st) {k c : Nat} (hc : hfS st k = some c) : dGetK (heldK st) (.int (k : Int)) = some (.str (S [c])) := by
  unfold dGetK
  rw [keyD_i, Option.bind_some, hfS_val h, hc]
  rfl
theorem rows_at {A : List (List Int)} {p : Int} (h : 0 ≤ p ∧ p < (A.length : Int)) : dIx (.lst (A.map rowD)) (.int p) = some (rowD (A.getD p.toNat [])) := by
  rw [dIx_li]
  refine atI_of_get h.1 ?_
  rw [List.getElem?_map, List.getD_eq_getElem?_getD, List.getElem?_eq_getElem (by omega)]
  rfl
theorem fold_rows {n : Int} {hf : Nat → Option Nat} {f : List D → D → Option (List D)} (hh : HfOk hf) : ∀ {cs : List (Int × Int)} {xs : List D} {A : List (List Int)} {k : Nat}, xs.length = cs.length →
    (∀ (i : Nat) (c : Int × Int) (x : D) (A' : List (List Int)), xs[i]? = some x → cs[i]? = some c → (0 ≤ c.1 ∧ c.1 < (A'.length : Int)) → (0 ≤ c.2 ∧ c.2 < (A'.length : Int)) → (∀ r ∈ A', ROk n r) → A'.length < 1000 → f (A'.map rowD) x = some ((A' ++ [rstep hf A' (k + i) c]).map rowD)) →
    (∀ r ∈ A, ROk n r) → CsIn A.length cs → A.length + cs.length ≤ 1000 → foldO f (A.map rowD) xs = some ((nrows hf k cs A).map rowD)
  | [], xs, A, k, hx, _, _, _, _ => by rw [List.eq_nil_of_length_eq_zero hx]; rfl
  | c :: cs, xs, A, k, hx, hfs, hA, hc, hl => by
    cases xs with
    | nil => cases hx
    | cons x xs =>
      rw [List.length_cons] at hl
      have h0 := hc 0 c rfl
      have hr := rstep_ok (k := k) hh hA (c := c) (by omega) (by omega)
      rw [foldO_cons, hfs 0 c x A rfl rfl (by omega) (by omega) hA (by omega), Option.bind_some, nrows, Nat.add_zero]
      refine fold_rows (n := n) hh (by simpa using hx) (fun i d y A' h1 h2 h3 h4 h5 h6 => ?_) (fun r hr' => ?_) (by rw [List.length_append, List.length_singleton]; exact hc.tail) (by rw [List.length_append]; simp; omega)
      · have := hfs (i + 1) d y A' (by simpa using h1) (by simpa using h2) h3 h4 h5 h6
        rw [show k + 1 + i = k + (i + 1) by omega]
        exact this
      · rcases List.mem_append.mp hr' with hr' | hr'
        · exact hA r hr'
        · rw [List.mem_singleton] at hr'
          subst hr'
          exact hr
def rowsOf (st : List (Nat × Nat)) (n : Int) (cs : List (Int × Int)) : List (List Int) := nrows (hfS st) 0 cs (rbase n)
theorem rowsOf_len {st : List (Nat × Nat)} {n : Int} {cs : List (Int × Int)} (hn : 0 ≤ n) : ((rowsOf st n cs).length : Int) = n + 1 + (cs.length : Int) := by
  unfold rowsOf
  rw [nrows_len, rbase_len]
  omega
theorem rowD_one {k : Nat} : rowD [(k : Int)] = .tup [.int (k : Int)] := by
  show D.tup [entD (k : Int)] = _
  rw [ent_pos (by omega)]
theorem rowD_let {s : Nat} (h : isS s) : rowD [-(s : Int)] = .tup [.str (S [s])] := by
  have : 0 < s := by rcases h with rfl | rfl | rfl <;> decide
  show D.tup [entD (-(s : Int))] = _
  rw [ent_neg (by omega), show (- -(s : Int)).toNat = s by omega]
theorem rngmap {n : Nat} : rngD 0 n = (List.range n).map fun (k : Nat) => D.int (k : Int) := by unfold rngD; simp
theorem base_go {n : Int} {B : Type} {k : List D → Option B} : ((mapO (fun x6 => some (D.tup [x6])) (rngD 0 (n + 1).toNat)).bind k) = k ((rbase n).map rowD) := by
  rw [rngmap, mapO_of (g := fun k : Nat => rowD [(k : Int)]) fun k _ => by rw [rowD_one], Option.bind_some]
  unfold rbase
  rw [List.map_map]
  rfl
theorem rows_snoc {A : List (List Int)} {r : List Int} : (A ++ [r]).map rowD = A.map rowD ++ [rowD r] := by rw [List.map_append]; rfl
theorem noderows_ok {n : Int} {m : Nat} {st : List (Nat × Nat)} {cs : List (Int × Int)} (hs : SkOk m st) (hn : 0 ≤ n ∧ n ≤ 24) (hc : CellsOk n cs) (hl : cs.length ≤ 200) :
    F_node_rows (.int n) (.tup (cs.map cellD)) (.dct (heldK st)) = some (.lst ((rowsOf st n cs).map rowD)) := by
  unfold F_node_rows
  rw [dAdd_ii, Option.bind_some, Option.bind_some, dRange_1, chk_pos (by omega), Option.bind_some, rngD_len, chk_pos (by omega), Option.bind_some, base_go, dEnum_t, Option.bind_some,
    fold_rows (n := n) (hf := hfS st) (k := 0) (hfS_ok hs) (cs := cs) (by rw [enumD_len, List.length_map]) (fun i c x A' h1 h2 h3 h4 h5 h6 => ?_) (rbase_ok hn.1) (csin_of hc (by rw [rbase_len]; omega)) (by rw [rbase_len]; omega), Option.bind_some]
  · rfl
  · rw [enum_pair h1 h2, un2_t, Option.bind_some]
    dsimp only
    rw [show un2 (cellD c) = some (.int c.1, .int c.2) from rfl, Option.bind_some, dctD_d, Option.bind_some, inK_stk hs, Option.bind_some, rows_snoc]
    unfold rstep
    cases e : hfS st (0 + i) with
    | some s =>
      have hS := hfS_ok hs _ s e
      rw [Option.isSome_some, if_pos rfl, Option.bind_some, getK_stk hs e, Option.bind_some, lit_P, cEq_S1, Option.bind_some]
      by_cases q : s = 80
      · rw [if_pos (decide_eq_true q), Option.bind_some, chk_pos (by rw [List.length_map]; omega), Option.bind_some, Option.bind_some]
        simp only [if_pos q]
        rfl
      · rw [if_neg (by simpa using q), Option.bind_some, getK_stk hs e, Option.bind_some, Option.bind_some, chk_pos (by rw [List.length_map]; omega), Option.bind_some, Option.bind_some]
        simp only [if_neg q]
        rw [rowD_let hS]
    | none =>
      rw [Option.isSome_none, if_neg (by decide), rows_at h3, Option.bind_some, rows_at h4, Option.bind_some, joined_ok hn (h5 _ (getD_inR (by omega))) (h5 _ (getD_inR (by omega))), Option.bind_some, chk_pos (by rw [List.length_map]; omega), Option.bind_some, Option.bind_some]
/-- the states of the entries -/
def stT (c0 : Nat) (L : List Nat) (e : Int) : Nat := if e = -80 then 71 else if e < 0 then (-e).toNat else (c0 :: L).getD e.toNat 0
theorem eqD_niltG {ds : List D} : eqD (.tup ds) (.tup []) = ds.isEmpty := by
  cases ds with
  | nil => simp [eqD, pyd, pyds, PyData.eqv, PyData.eqvAll]
  | cons d ds => simp [eqD, pyd, pyds, PyData.eqv, PyData.eqvAll]
theorem cEq_tnilG {ds : List D} : cEq (.tup ds) (.tup []) = some ds.isEmpty := by
  have hs : sc (.tup ds) (.tup []) = false := rfl
  have hn : nilB (.tup ds) (.tup []) = false := rfl
  cases ds with
  | nil => exact cEq_good rfl rfl trivial trivial (by simp [dep, deps]) (by simp [dep, deps])
  | cons d ds =>
    unfold cEq
    rw [hs, hn]
    simp only [Bool.false_eq_true, if_false]
    split
    · rename_i t e
      obtain ⟨_, e⟩ := chk_inv e
      rw [← e, eqD_niltG]
    · rfl
theorem difI_lenG : ∀ {ns : List Int}, (difI ns).length ≤ ns.length
  | [] => Nat.le_refl _
  | n :: ns => by
    have := difI_lenG (ns := ns)
    unfold difI
    split <;> simp <;> omega
theorem difI_ndG : ∀ {ns : List Int}, (difI ns).length = ns.length → ns.Nodup
  | [], _ => List.nodup_nil
  | n :: ns, h => by
    have := difI_lenG (ns := ns)
    unfold difI at h
    split at h
    · rw [List.length_cons] at h; omega
    · rename_i hm
      rw [List.length_cons, List.length_cons] at h
      exact List.nodup_cons.mpr ⟨hm, difI_ndG (by omega)⟩
theorem atI_lastG {l : List D} {x : D} : atI (l ++ [x]) (-1) = some x := by
  unfold atI ixN
  rw [if_neg (by decide), if_pos (by simp; omega)]
  simp
  rw [show (-1 + ((l.length : Int) + 1)).toNat = l.length by omega]
  simp
theorem cut_popG {l : List D} {x : D} : cutD (l ++ [x]) none (some (-1)) = l := by
  unfold cutD HT.sIx
  simp
  rw [show (-1 + ((l.length : Int) + 1)).toNat = l.length by omega]
  simp
theorem cut_dropG {ps : List Int} : cutD (ps.map D.int) none (some (-1)) = ps.dropLast.map D.int := by
  by_cases h : ps = []
  · subst h; rfl
  · have e := List.dropLast_concat_getLast h
    generalize ps.dropLast = a at *
    generalize ps.getLast h = b at *
    subst e
    rw [List.map_append, List.map_cons, List.map_nil, cut_popG]
theorem popI {ns : List Int} {i : Int} (h : 0 ≤ i ∧ i < (ns.length : Int)) (hl : ns.length ≤ 100000) : lPopAt (ns.map D.int) (.int i) = some (.int (ns.getD i.toNat 0), (ns.eraseIdx i.toNat).map D.int) := by
  unfold lPopAt
  simp only
  rw [chk_pos (by omega), Option.bind_some, List.length_map, ixN_of h.1 h.2, Option.bind_some]
  rw [List.getElem?_map, List.getElem?_eq_getElem (by omega), List.getD_eq_getElem?_getD, List.getElem?_eq_getElem (by omega)]
  simp only [Option.map_some, Option.getD_some]
  congr 2
  apply List.ext_getElem?
  intro j
  rw [List.getElem?_eraseIdx, List.getElem?_map, List.getElem?_map, List.getElem?_map, List.getElem?_eraseIdx]
  split <;> rfl
theorem popsI {k : Nat} {T : List Int} {s : Hs} {m : Int} (hT : ∀ x ∈ T, 0 ≤ x ∧ x ≤ 30) (hk : k ≤ T.length) (hl : T.length ≤ 1000) (hs : HOk s m) (hm : m + k ≤ 900000) :
    Gives (mapS (fun (s79 : List D × List D) x80 => (dLen (D.lst s79.1)).bind fun v85 => (F_Ldraw s79.2 v85).bind fun v86 => (lPopAt s79.1 v86.1).bind fun v87 => some (v87.1, v87.2, v86.2)) (T.map D.int, penL s) (rngD 0 k)) fun q => ∃ (U : List Int) (s' : Hs), q.1 = U.map D.int ∧ q.2.2 = penL s' ∧ U.length = k ∧ (∀ x ∈ U, 0 ≤ x ∧ x ≤ 30) ∧ HOk s' (m + k) := by
  refine (gives_mapS (fun i acc s' => i ≤ k → ∃ (U V : List Int) (s'' : Hs), acc = U.map D.int ∧ s' = (V.map D.int, penL s'') ∧ U.length = i ∧ V.length = T.length - i ∧ (∀ x ∈ U, 0 ≤ x ∧ x ≤ 30) ∧ (∀ x ∈ V, 0 ≤ x ∧ x ≤ 30) ∧ HOk s'' (m + i)) (fun _ => ⟨[], T, s, rfl, rfl, rfl, rfl, fun t ht => absurd ht List.not_mem_nil, hT, by simpa using hs⟩) fun i x acc s' hx hI => ?_).imp fun q hq => ?_
  · have hi : i < k := by
      have := (List.getElem?_eq_some_iff.mp hx).1
      rwa [rngD_len] at this
    obtain ⟨U, V, s2, rfl, rfl, hu, hv, hU, hV, h2⟩ := hI (by omega)
    dsimp only
    rw [dLen_l, Option.bind_some, List.length_map]
    refine .bind ((draw_ok h2 (by omega) (by omega)).imp fun q hq => ?_)
    obtain ⟨j, s3, rfl, j0, j1, h3⟩ := hq
    dsimp only
    rw [popI ⟨j0, j1⟩ (by omega), Option.bind_some]
    refine .mk fun _ => ⟨U ++ [V.getD j.toNat 0], V.eraseIdx j.toNat, s3, by rw [List.map_append]; rfl, rfl, by rw [List.length_append, hu]; rfl, by rw [List.length_eraseIdx_of_lt (by omega)]; omega, fun t ht => ?_, fun t ht => hV t (List.mem_of_mem_eraseIdx ht), by rw [show m + ((i + 1 : Nat) : Int) = m + i + 1 by omega]; exact h3⟩
    rcases List.mem_append.mp ht with ht | ht
    · exact hU t ht
    · rw [List.mem_singleton] at ht
      rw [ht, List.getD_eq_getElem?_getD, List.getElem?_eq_getElem (by omega)]
      exact hV _ (List.getElem_mem _)
  · rw [rngD_len] at hq
    obtain ⟨U, V, s2, e1, e2, hu, hv, hU, hV, h2⟩ := hq (Nat.le_refl _)
    exact ⟨U, s2, e1, by rw [e2], hu, hU, h2⟩
theorem findI_some {ps : List Int} (h : (0 : Int) ∈ ps) : ∃ j : Nat, dLidx (.lst (ps.map D.int)) (.int 0) = some (.int (j : Int)) := by
  have fl : (ps.map D.int).all isFl = true := by
    rw [List.all_map, List.all_eq_true]
    exact fun x _ => rfl
  cases hq : (ps.map D.int).findIdx? (isI 0) with
  | none =>
    rw [List.findIdx?_eq_none_iff] at hq
    have := hq (.int 0) (List.mem_map_of_mem h)
    cases this
  | some j => exact ⟨j, by
    show (if (ps.map D.int).all isFl = true then ((ps.map D.int).findIdx? (isI 0)).map (fun (j : Nat) => D.int (j : Int)) else none) = _
    rw [if_pos fl, hq]; rfl⟩
def btwD (a c : Int) : D → Bool
  | .int i => decide (a ≤ i ∧ i ≤ c)
  | _ => false
theorem btwD_ok {d : D} {a c : Int} (h : plain d = true) : F_is_between d (.int a) (.int c) = some (.bl (btwD a c d)) := by
  cases d with
  | int i => exact btw_int
  | bl b => exact btw_bl
  | _ => first | exact btw_oth h rfl | cases h
theorem lawnum_ok {d : D} {a c : Int} (h : plain d = true) : F_Lis_number d (.int a) (.int c) = some (.bl (btwD a c d)) := btwD_ok h
theorem btwD_int {d : D} {a c : Int} (h : btwD a c d = true) : ∃ i, d = .int i ∧ a ≤ i ∧ i ≤ c := by
  cases d with
  | int i => exact ⟨i, rfl, of_decide_eq_true h⟩
  | _ => cases h
def endl : D → Option Nat
  | .str z => if z = S [71] then some 71 else if z = S [75] then some 75 else none
  | _ => none
theorem isi_tupG {ds : List D} : dIsi "tuple" (.tup ds) = some true := by
  unfold dIsi
  rw [chk_pos (show DX.plain (D.tup ds) = true from rfl)]; rfl
theorem isi_tupN {d : D} (h : plain d = true) (hn : ∀ ds, d ≠ .tup ds) : dIsi "tuple" d = some false := by
  unfold dIsi
  rw [chk_pos h]
  cases d <;> first | rfl | exact absurd rfl (hn _)
theorem isi_strN {d : D} (h : plain d = true) (hn : ∀ z, d ≠ .str z) : dIsi "str" d = some false := by
  unfold dIsi
  rw [chk_pos h]
  cases d <;> first | rfl | exact absurd rfl (hn _)
theorem endl_str {d : D} {c : Nat} (h : endl d = some c) : d = .str (S [c]) ∧ (c = 71 ∨ c = 75) := by
  cases d with
  | str z =>
    unfold endl at h
    dsimp only at h
    split at h
    · rename_i e; cases h; exact ⟨by rw [e], .inl rfl⟩
    · split at h
      · rename_i e; cases h; exact ⟨by rw [e], .inr rfl⟩
      · cases h
  | _ => cases h
theorem letters_in {z : Str} : cIn (.str z) (D.tup [(D.str "G"), (D.str "K")]) = some (endl (.str z)).isSome := by
  have g1 : ("G" : Str) = S [71] := lit_G
  have g2 : ("K" : Str) = S [75] := lit_K
  rw [g1, g2, show D.tup [.str (S [71]), .str (S [75])] = .tup (([S [71], S [75]] : List Str).map D.str) from rfl, cIn_tstrO]
  show some (decide (z ∈ [S [71], S [75]])) = some (if z = S [71] then some 71 else if z = S [75] then some 75 else none : Option Nat).isSome
  by_cases h1 : z = S [71]
  · rw [if_pos h1]; simp [h1]
  · rw [if_neg h1]
    by_cases h2 : z = S [75]
    · rw [if_pos h2]; simp [h2]
    · rw [if_neg h2]; simp [h1, h2]
theorem endswith_ok {l : List D} {x : D} (h : plain x = true) : F_ends_with_letter (.tup (l ++ [x])) = some (.bl (endl x).isSome) := by
  unfold F_ends_with_letter
  rw [dIx_ti, atI_lastG, Option.bind_some]
  cases x with
  | str z => rw [isi_strO, Option.bind_some, dTru_b, Option.bind_some, if_pos rfl, Option.bind_some, letters_in, Option.bind_some, Option.bind_some]
  | _ => rw [isi_strN h (fun z e => by cases e), Option.bind_some, dTru_b, Option.bind_some, if_neg (by decide), Option.bind_some]; rfl
/-- ints from low to n, different, 0 at the end alone -/
structure Pos (low n : Int) (qs : List Int) : Prop where
  rg : ∀ q ∈ qs, low ≤ q ∧ q ≤ n
  nd : qs.Nodup
  zr : (0 : Int) ∉ qs.dropLast
theorem all_ints {low n : Int} : ∀ {ds : List D}, ds.all (btwD low n) = true → ∃ qs : List Int, ds = qs.map D.int ∧ ∀ q ∈ qs, low ≤ q ∧ q ≤ n
  | [], _ => ⟨[], rfl, fun q hq => nomatch hq⟩
  | d :: ds, h => by
    rw [List.all_cons, Bool.and_eq_true] at h
    obtain ⟨i, rfl, hi⟩ := btwD_int h.1
    obtain ⟨qs, rfl, hq⟩ := all_ints h.2
    exact ⟨i :: qs, rfl, fun q hm => by
      rcases List.mem_cons.mp hm with rfl | hm
      · exact hi
      · exact hq q hm⟩
theorem ints_all {low n : Int} {qs : List Int} (h : ∀ q ∈ qs, low ≤ q ∧ q ≤ n) : (qs.map D.int).all (btwD low n) = true := by
  rw [List.all_map, List.all_eq_true]
  exact fun q hq => decide_eq_true (h q hq)
theorem int_inj : ∀ {a b : List Int}, a.map D.int = b.map D.int → a = b
  | [], [], _ => rfl
  | [], _ :: _, h => by cases h
  | _ :: _, [], h => by cases h
  | x :: a, y :: b, h => by
    rw [List.map_cons, List.map_cons] at h
    injection h with h1 h2
    injection h1 with h1
    rw [h1, int_inj h2]
theorem lowI_int {r : Bool} : dInt (.bl r) = some (.int (lowI r)) := by cases r <;> rfl
theorem cIn_tintsG {z : Int} {ns : List Int} : cIn (.int z) (.tup (ns.map D.int)) = some (decide (z ∈ ns)) := by
  rw [cIn_flat (v := .int z) rfl rfl (flDs_ints ns), inV_ints]
theorem cIn_lintsG {z : Int} {ns : List Int} : cIn (.int z) (.lst (ns.map D.int)) = some (decide (z ∈ ns)) := by
  rw [cIn_flat (v := .int z) rfl rfl (flDs_ints ns), inV_ints]
theorem intsD_mapG : ∀ {l : List Int}, intsD (l.map D.int) = some l
  | [] => rfl
  | i :: l => by rw [List.map_cons, intsD, intsD_mapG]; rfl
theorem setlen_t {ns : List Int} (h : ns.length ≤ 4000) : dLenSet (.tup (ns.map D.int)) = some (.int ((difI ns).length : Int)) := by
  show ((intsD (ns.map D.int)).bind fun ns => chk (ns.length ≤ 4000) (D.int ((difI ns).length : Int))) = _
  rw [intsD_mapG, Option.bind_some, chk_pos h]
theorem setlen_l {ns : List Int} (h : ns.length ≤ 4000) : dLenSet (.lst (ns.map D.int)) = some (.int ((difI ns).length : Int)) := by
  show ((intsD (ns.map D.int)).bind fun ns => chk (ns.length ≤ 4000) (D.int ((difI ns).length : Int))) = _
  rw [intsD_mapG, Option.bind_some, chk_pos h]
theorem difI_full : ∀ {ns : List Int}, ns.Nodup → difI ns = ns
  | [], _ => rfl
  | n :: ns, h => by
    rw [List.nodup_cons] at h
    unfold difI
    rw [if_neg h.1, difI_full h.2]
theorem dif_iff {ns : List Int} : ((difI ns).length : Int) = (ns.length : Int) ↔ ns.Nodup :=
  ⟨fun h => difI_ndG (by omega), fun h => by rw [difI_full h]⟩
theorem arepos_ok {n : Int} {r : Bool} {ds : List D} (hd : ∀ d ∈ ds, plain d = true) (hl : ds.length ≤ 1000) :
    ∃ b, F_are_row_positions (.int n) (.tup ds) (.bl r) = some (.bl b) ∧ (b = true ↔ ∃ qs, ds = qs.map D.int ∧ Pos (lowI r) n qs) := by
  unfold F_are_row_positions
  have em : mapO (fun x4 => (dInt (.bl r)).bind fun v9 => (F_is_between x4 v9 (.int n)).bind fun v10 => some v10) ds = some (ds.map fun d => D.bl (btwD (lowI r) n d)) := by
    have := mapO_of (f := fun x4 => (dInt (.bl r)).bind fun v9 => (F_is_between x4 v9 (.int n)).bind fun v10 => some v10) (l := ds) (e := fun d => d) (g := fun d => D.bl (btwD (lowI r) n d)) fun d hm => by rw [lowI_int, Option.bind_some, btwD_ok (hd d hm), Option.bind_some]
    simpa using this
  rw [dIter_t, Option.bind_some, chk_pos (by omega), Option.bind_some, em, Option.bind_some, show (ds.map fun d => D.bl (btwD (lowI r) n d)) = (ds.map (btwD (lowI r) n)).map D.bl from by rw [List.map_map]; rfl, dAll_b, Option.bind_some, dTru_b, Option.bind_some, List.all_map]
  cases q : ds.all (id ∘ btwD (lowI r) n) with
  | false =>
    refine ⟨false, rfl, fun z => (nomatch z), fun ⟨qs, e, hp⟩ => ?_⟩
    rw [e] at q
    have := ints_all (low := lowI r) (n := n) hp.rg
    rw [show (id ∘ btwD (lowI r) n) = btwD (lowI r) n from rfl, this] at q
    cases q
  | true =>
    obtain ⟨qs, rfl, hq⟩ := all_ints (show ds.all (btwD (lowI r) n) = true from q)
    rw [List.length_map] at hl
    rw [if_neg (by decide), setlen_t (by omega), Option.bind_some, dLen_t, List.length_map, Option.bind_some, cEq_ii, Option.bind_some, dTru_b, Option.bind_some]
    by_cases hn : ((difI qs).length : Int) = (qs.length : Int)
    · rw [if_pos (decide_eq_true hn), dEnd_i, Option.bind_some, dCut_t, Option.bind_some, cut_dropG, cNin_of, cIn_tintsG, Option.map_some, Option.bind_some, Option.bind_some]
      refine ⟨_, rfl, fun z => ⟨qs, rfl, hq, dif_iff.mp hn, by simpa using z⟩, fun ⟨ps, e, hp⟩ => ?_⟩
      rw [int_inj e]
      have := hp.zr
      simpa using this
    · rw [if_neg (by simpa using hn), Option.bind_some]
      refine ⟨_, rfl, fun z => absurd (of_decide_eq_true z) hn, fun ⟨ps, e, hp⟩ => ?_⟩
      rw [← int_inj e] at hp
      exact absurd (dif_iff.mpr hp.nd) hn
def tailG : Option Nat → List D
  | none => []
  | some c => [.str (S [c])]
/-- a row that may be taken -/
def RowG (r : Bool) (n : Int) (e : D) : Prop := ∃ (qs : List Int) (g : Option Nat), e = .tup (qs.map D.int ++ tailG g) ∧ (g = none → qs ≠ []) ∧ (∀ c, g = some c → r = false ∧ (c = 71 ∨ c = 75) ∧ (0 : Int) ∉ qs) ∧ Pos (lowI r) n qs
theorem tail_int {qs : List Int} {g : Option Nat} {l : List D} {x : D} (e : l ++ [x] = qs.map D.int ++ tailG g) : (g = none ∧ ∃ i, x = .int i) ∨ ∃ c, g = some c ∧ x = .str (S [c]) ∧ l = qs.map D.int := by
  cases g with
  | some c =>
    have := List.append_inj' e rfl
    obtain ⟨h1, h2⟩ := this
    injection h2 with h2
    exact .inr ⟨c, rfl, h2, h1⟩
  | none =>
    refine .inl ⟨rfl, ?_⟩
    rw [show tailG none = [] from rfl, List.append_nil] at e
    have : x ∈ qs.map D.int := by rw [← e]; simp
    obtain ⟨i, _, h⟩ := List.mem_map.mp this
    exact ⟨i, h.symm⟩
/-- by the last entry: a letter, or none -/
theorem rowG_let {r : Bool} {n : Int} {l : List D} {c : Nat} (hr : r = false) (hc : c = 71 ∨ c = 75) : RowG r n (.tup (l ++ [.str (S [c])])) ↔ ∃ qs, l = qs.map D.int ∧ Pos (lowI r) n qs ∧ (0 : Int) ∉ qs := by
  constructor
  · rintro ⟨qs, g, e, h1, h2, h3⟩
    injection e with e
    rcases tail_int e with ⟨_, i, hi⟩ | ⟨c', hg, hx, hl⟩
    · cases hi
    · exact ⟨qs, hl, h3, (h2 c' hg).2.2⟩
  · rintro ⟨qs, rfl, hp, hz⟩
    exact ⟨qs, some c, rfl, (fun z => by cases z), (fun c' e => by cases e; exact ⟨hr, hc, hz⟩), hp⟩
theorem rowG_non {r : Bool} {n : Int} {l : List D} {x : D} (hx : r = false → endl x = none) : RowG r n (.tup (l ++ [x])) ↔ ∃ qs, l ++ [x] = qs.map D.int ∧ Pos (lowI r) n qs := by
  constructor
  · rintro ⟨qs, g, e, h1, h2, h3⟩
    injection e with e
    rcases tail_int e with ⟨rfl, _⟩ | ⟨c, hg, hx2, hl⟩
    · exact ⟨qs, by rw [e, show tailG none = [] from rfl, List.append_nil], h3⟩
    · obtain ⟨hr, hc, _⟩ := h2 c hg
      have := hx hr
      rw [hx2] at this
      rcases hc with rfl | rfl <;> (exfalso; revert this; decide)
  · rintro ⟨qs, e, hp⟩
    exact ⟨qs, none, by rw [e, show tailG none = [] from rfl, List.append_nil], (fun _ z => by rw [z] at e; simp at e), (fun c z => by cases z), hp⟩
def EV (e : D) : Prop := plain e = true ∧ ∀ ds, e = .tup ds → (∀ d ∈ ds, plain d = true) ∧ ds.length ≤ 100
theorem needrow_ok {Z : Str → Addr} {n : Int} {r : Bool} {e : D} (he : EV e) : ∃ b, F_need_row Z (.int n) e (.bl r) = some (if b = true then .ok .non else .error (Z "InvalidRow", [("value", e)])) ∧ (b = true ↔ RowG r n e) := by
  unfold F_need_row
  by_cases ht : ∃ ds, e = .tup ds
  · obtain ⟨ds, rfl⟩ := ht
    obtain ⟨hd, hl⟩ := he.2 ds rfl
    rw [isi_tupG, Option.bind_some, dTru_b, Option.bind_some, if_neg (by decide), cEq_tnilG, Option.bind_some]
    rcases List.eq_nil_or_concat ds with rfl | ⟨l, x, ex⟩
    · refine ⟨false, rfl, fun z => (nomatch z), fun ⟨qs, g, e, h1, h2, h3⟩ => ?_⟩
      injection e with e
      have e2 := List.append_eq_nil_iff.mp e.symm
      cases g with
      | none => exact absurd (List.map_eq_nil_iff.mp e2.1) (h1 rfl)
      | some c => cases e2.2
    · rw [List.concat_eq_append] at ex
      subst ex
      rw [List.length_append, List.length_singleton] at hl
      have hx : plain x = true := hd x (by simp)
      have hdl : ∀ d ∈ l, plain d = true := fun d h => hd d (List.mem_append_left _ h)
      rw [show (l ++ [x]).isEmpty = false by simp, Option.bind_some, if_neg (by decide), dTru_b, Option.bind_some]
      by_cases hg : r = false ∧ ∃ c, endl x = some c
      · obtain ⟨rfl, c, hc⟩ := hg
        obtain ⟨rfl, hc2⟩ := endl_str hc
        rw [if_pos (by decide), endswith_ok hx, hc, Option.bind_some, dTru_b, Option.bind_some, Option.bind_some, Option.isSome_some, if_pos rfl, dEnd_i, Option.bind_some, dCut_t, Option.bind_some, cut_popG, Option.bind_some]
        obtain ⟨b, eb, hb⟩ := arepos_ok (n := n) (r := false) hdl (by omega)
        rw [eb, Option.bind_some, dTru_b, Option.bind_some]
        cases b with
        | false =>
          refine ⟨false, rfl, fun z => (nomatch z), fun z => ?_⟩
          obtain ⟨qs, e, hp, _⟩ := (rowG_let rfl hc2).mp z
          exact hb.mpr ⟨qs, e, hp⟩
        | true =>
          obtain ⟨qs, rfl, hp⟩ := hb.mp rfl
          rw [if_neg (by decide), dLen_t, Option.bind_some, dLen_t, Option.bind_some, cLt_ii, decide_eq_true (by rw [List.length_append, List.length_singleton]; omega), Option.bind_some, if_pos rfl, cIn_tintsG, Option.bind_some, Option.bind_some]
          by_cases hz : (0 : Int) ∈ qs
          · refine ⟨false, by rw [if_pos (decide_eq_true hz)]; rfl, fun z => (nomatch z), fun z => ?_⟩
            obtain ⟨ps, e, hp2, hz2⟩ := (rowG_let rfl hc2).mp z
            rw [← int_inj e] at hz2
            exact absurd hz hz2
          · exact ⟨true, by rw [if_neg (by simpa using hz)]; rfl, fun _ => (rowG_let rfl hc2).mpr ⟨qs, rfl, hp, hz⟩, fun _ => rfl⟩
      · have hxn : r = false → endl x = none := fun z => by
          cases q : endl x with
          | none => rfl
          | some c => exact absurd ⟨z, c, q⟩ hg
        have hh : (if (!r) = true then (F_ends_with_letter (.tup (l ++ [x]))).bind fun v11 => (dTru v11).bind fun t12 => some t12 else some false) = some false := by
          cases r with
          | true => rfl
          | false => rw [if_pos (by decide), endswith_ok hx, hxn rfl]; rfl
        obtain ⟨b, eb, hb⟩ := arepos_ok (n := n) (r := r) (ds := l ++ [x]) hd (by rw [List.length_append, List.length_singleton]; omega)
        rw [hh, Option.bind_some, if_neg (by decide), Option.bind_some, eb, Option.bind_some, dTru_b, Option.bind_some]
        cases b with
        | false => exact ⟨false, rfl, fun z => (nomatch z), fun z => hb.mpr ((rowG_non hxn).mp z)⟩
        | true =>
          refine ⟨true, ?_, fun _ => (rowG_non hxn).mpr (hb.mp rfl), fun _ => rfl⟩
          rw [if_neg (by decide), dLen_t, Option.bind_some, Option.bind_some, cLt_ii, decide_eq_false (by omega), Option.bind_some, if_neg (by decide), Option.bind_some, if_neg (by decide)]
          rfl
  · refine ⟨false, ?_, fun z => (nomatch z), fun ⟨qs, g, e, _⟩ => absurd ⟨_, e⟩ ht⟩
    rw [isi_tupN he.1 fun ds z => ht ⟨ds, z⟩, Option.bind_some, dTru_b, Option.bind_some, if_pos (by decide), Option.bind_some, if_pos rfl]
    rfl
theorem cNe_nilG {ds : List D} : cNe (.lst ds) (D.lst []) = some (!ds.isEmpty) := by rw [cNe_of, cEq_nilq]; rfl
theorem filt_num {low n : Int} : ∀ {ds : List D}, (∀ d ∈ ds, plain d = true) → filtO (fun x27 => (F_Lis_number x27 (.int low) (.int n)).bind fun v32 => (dTru v32).bind fun t33 => if (!t33) = true then some (some x27) else some none) ds = some (ds.filter fun d => !btwD low n d)
  | ds, h => by
    have := filtO_of (f := fun x27 => (F_Lis_number x27 (.int low) (.int n)).bind fun v32 => (dTru v32).bind fun t33 => if (!t33) = true then some (some x27) else some none) (l := ds) (e := fun d => d) (g := fun d => d) (t := fun d => !btwD low n d) fun d hm => by
      rw [lawnum_ok (h d hm), Option.bind_some, dTru_b, Option.bind_some]
      cases btwD low n d <;> rfl
    simpa using this
/-- behind the letter: the positions -/
theorem spots_ok {r : Bool} {n : Int} {g : Bool} {l : List D} (hd : ∀ d ∈ l, plain d = true) (hl : l.length ≤ 200) :
    ∃ b, ((dIter (D.lst l)).bind fun l25 => (chk (l25.length ≤ 1000000) ()).bind fun _ => (filtO (fun x27 => (F_Lis_number x27 (.int (lowI r)) (.int n)).bind fun v32 => (dTru v32).bind fun t33 => if (!t33) = true then some (some x27) else some none) l25).bind fun y28 => (cNe (D.lst y28) (D.lst [])).bind fun t35 => if t35 = true then some (D.bl false) else ((dLenSet (D.lst l)).bind fun v38 => (dLen (D.lst l)).bind fun v39 => (cNe v38 v39).bind fun t40 => if t40 = true then some true else (dEnd (D.int (-1))).bind fun i41 => (dCut (D.lst l) none (some i41)).bind fun v42 => (cIn (D.int 0) v42).bind fun t43 => some t43).bind fun t44 => if t44 = true then some (D.bl false) else ((dTru (D.bl g)).bind fun t46 => (dTru (D.bl (!t46))).bind fun t47 => if t47 = true then some (D.bl (!t46)) else (cNin (D.int 0) (D.lst l)).bind fun t48 => some (D.bl t48)).bind fun v49 => some v49) = some (.bl b) ∧
      (b = true ↔ ∃ qs, l = qs.map D.int ∧ Pos (lowI r) n qs ∧ (g = true → (0 : Int) ∉ qs)) := by
  rw [dIter_l, Option.bind_some, chk_pos (by omega), Option.bind_some, filt_num hd, Option.bind_some, cNe_nilG, Option.bind_some]
  cases q : l.all (btwD (lowI r) n) with
  | false =>
    have hne : (l.filter fun d => !btwD (lowI r) n d).isEmpty = false := by
      obtain ⟨d, hd1, hd2⟩ := List.all_eq_false.mp q
      cases z : l.filter fun d => !btwD (lowI r) n d with
      | nil =>
        have := List.filter_eq_nil_iff.mp z d hd1
        simp at this
        exact absurd this hd2
      | cons a b => rfl
    rw [hne, if_pos (by decide)]
    refine ⟨false, rfl, fun z => (nomatch z), fun ⟨qs, e, hp, _⟩ => ?_⟩
    rw [e, ints_all hp.rg] at q
    cases q
  | true =>
    have he : (l.filter fun d => !btwD (lowI r) n d).isEmpty = true := by
      rw [List.isEmpty_iff, List.filter_eq_nil_iff]
      intro d hm
      rw [List.all_eq_true.mp q d hm]
      decide
    obtain ⟨qs, rfl, hq⟩ := all_ints q
    rw [List.length_map] at hl
    rw [he, if_neg (by decide), setlen_l (by omega), Option.bind_some, dLen_l, List.length_map, Option.bind_some, cNe_of, cEq_ii, Option.map_some, Option.bind_some]
    by_cases hn : ((difI qs).length : Int) = (qs.length : Int)
    · rw [decide_eq_true hn, if_neg (by decide), dEnd_i, Option.bind_some, dCut_l, Option.bind_some, cut_dropG, cIn_lintsG, Option.bind_some, Option.bind_some]
      by_cases hz : (0 : Int) ∈ qs.dropLast
      · rw [if_pos (decide_eq_true hz)]
        refine ⟨false, rfl, fun z => (nomatch z), fun ⟨ps, e, hp, _⟩ => ?_⟩
        rw [← int_inj e] at hp
        exact absurd hz hp.zr
      · rw [if_neg (by simpa using hz), dTru_b, Option.bind_some, dTru_b, Option.bind_some]
        cases g with
        | false =>
          rw [if_pos (by decide), Option.bind_some]
          exact ⟨true, rfl, fun _ => ⟨qs, rfl, ⟨hq, dif_iff.mp hn, hz⟩, (fun z => by cases z)⟩, fun _ => rfl⟩
        | true =>
          rw [if_neg (by decide), cNin_of, cIn_lintsG, Option.map_some, Option.bind_some, Option.bind_some]
          refine ⟨_, rfl, fun z => ⟨qs, rfl, ⟨hq, dif_iff.mp hn, hz⟩, fun _ => by simpa using z⟩, fun ⟨ps, e, hp, hz2⟩ => ?_⟩
          have := hz2 rfl
          rw [← int_inj e] at this
          simpa using this
    · rw [decide_eq_false hn, if_pos (by decide), Option.bind_some, if_pos rfl]
      refine ⟨false, rfl, fun z => (nomatch z), fun ⟨ps, e, hp, _⟩ => ?_⟩
      rw [← int_inj e] at hp
      exact absurd (dif_iff.mpr hp.nd) hn
theorem cut_all {ds : List D} : cutD ds none (some (ds.length : Int)) = ds := by
  unfold cutD HT.sIx
  simp
  rw [if_neg (by omega), List.take_of_length_le (Nat.le_refl _)]
theorem lawrow_ok {n : Int} {r : Bool} {e : D} (he : EV e) : ∃ b, F_Lis_right_row (.int n) (.int (lowI r)) e = some (.bl b) ∧ (b = true ↔ RowG r n e) := by
  unfold F_Lis_right_row
  by_cases ht : ∃ ds, e = .tup ds
  · obtain ⟨ds, rfl⟩ := ht
    obtain ⟨hd, hl⟩ := he.2 ds rfl
    rw [isi_tupG, Option.bind_some, dTru_b, Option.bind_some, if_neg (by decide), dLen_t, Option.bind_some, cEq_ii, Option.bind_some, Option.bind_some]
    rcases List.eq_nil_or_concat ds with rfl | ⟨l, x, ex⟩
    · refine ⟨false, rfl, fun z => (nomatch z), fun ⟨qs, g, e, h1, h2, h3⟩ => ?_⟩
      injection e with e
      have e2 := List.append_eq_nil_iff.mp e.symm
      cases g with
      | none => exact absurd (List.map_eq_nil_iff.mp e2.1) (h1 rfl)
      | some c => cases e2.2
    · rw [List.concat_eq_append] at ex
      subst ex
      rw [List.length_append, List.length_singleton] at hl
      have hx : plain x = true := hd x (by simp)
      have hdl : ∀ d ∈ l, plain d = true := fun d h => hd d (List.mem_append_left _ h)
      rw [decide_eq_false (by rw [List.length_append, List.length_singleton]; omega), if_neg (by decide)]
      by_cases hg : r = false ∧ ∃ c, endl x = some c
      · obtain ⟨rfl, c, hc⟩ := hg
        obtain ⟨rfl, hc2⟩ := endl_str hc
        have hin := letters_in (z := S [c])
        rw [hc] at hin
        obtain ⟨b, eb, hb⟩ := spots_ok (r := false) (n := n) (g := true) hdl (by omega)
        rw [lowI_f] at eb ⊢
        rw [cEq_ii, decide_eq_true rfl, Option.bind_some, dTru_b, Option.bind_some, if_pos rfl, dIx_ti, atI_lastG, Option.bind_some, isi_strO, Option.bind_some, dTru_b, Option.bind_some, if_pos rfl, Option.bind_some, hin, Option.bind_some, Option.isSome_some, Option.bind_some, Option.bind_some, dInt_b, if_pos rfl, Option.bind_some, dSub_ii, Option.bind_some, dEnd_i, Option.bind_some, dCut_t, Option.bind_some,
          show cutD (l ++ [D.str (S [c])]) none (some (((l ++ [D.str (S [c])]).length : Int) - 1)) = l from by
            unfold cutD HT.sIx
            simp
            rw [if_neg (by omega)]
            simp, lList_t, Option.bind_some]
        refine ⟨b, eb, ?_⟩
        rw [hb, rowG_let rfl hc2]
        exact ⟨fun ⟨qs, e, hp, hz⟩ => ⟨qs, e, hp, hz rfl⟩, fun ⟨qs, e, hp, hz⟩ => ⟨qs, e, hp, fun _ => hz⟩⟩
      · have hxn : r = false → endl x = none := fun z => by
          cases q : endl x with
          | none => rfl
          | some c => exact absurd ⟨z, c, q⟩ hg
        have hh : ((cEq (.int (lowI r)) (D.int 0)).bind fun t9 => (dTru (D.bl t9)).bind fun t10 => if t10 = true then (dIx (.tup (l ++ [x])) (D.int (-1))).bind fun v12 => (dIsi "str" v12).bind fun t13 => (dTru (D.bl t13)).bind fun t14 => if t14 = true then (dIx (.tup (l ++ [x])) (D.int (-1))).bind fun v15 => (cIn v15 (D.tup [(D.str "G"), (D.str "K")])).bind fun t16 => some (D.bl t16) else some (D.bl t13) else some (D.bl t9)) = some (.bl false) := by
          cases r with
          | true => rfl
          | false =>
            rw [lowI_f, cEq_ii, decide_eq_true rfl, Option.bind_some, dTru_b, Option.bind_some, if_pos rfl, dIx_ti, atI_lastG, Option.bind_some]
            have hn := hxn rfl
            cases x with
            | str z => rw [isi_strO, Option.bind_some, dTru_b, Option.bind_some, if_pos rfl, Option.bind_some, letters_in, hn]; rfl
            | _ => rw [isi_strN hx (fun z e => by cases e)]; rfl
        obtain ⟨b, eb, hb⟩ := spots_ok (r := r) (n := n) (g := false) (l := l ++ [x]) hd (by rw [List.length_append, List.length_singleton]; omega)
        rw [hh, Option.bind_some, Option.bind_some, dInt_b, if_neg (by decide), Option.bind_some, dSub_ii, Option.bind_some, dEnd_i, Option.bind_some, dCut_t, Option.bind_some, Int.sub_zero, cut_all, lList_t, Option.bind_some]
        refine ⟨b, eb, ?_⟩
        rw [hb, rowG_non hxn]
        exact ⟨fun ⟨qs, e, hp, _⟩ => ⟨qs, e, hp⟩, fun ⟨qs, e, hp⟩ => ⟨qs, e, hp, (fun z => by cases z)⟩⟩
  · refine ⟨false, ?_, fun z => (nomatch z), fun ⟨qs, g, e, _⟩ => absurd ⟨_, e⟩ ht⟩
    rw [isi_tupN he.1 fun ds z => ht ⟨ds, z⟩, Option.bind_some, dTru_b, Option.bind_some, if_pos (by decide), Option.bind_some, if_pos rfl]
def chF (n : Int) (t : Int × List (Int × Int)) (p : Int) : Int × List (Int × Int) := (n + ((t.2.length + 1 : Nat) : Int), t.2 ++ [(p, t.1)])
theorem chF_len {n : Int} : ∀ {l : List Int} {t : Int × List (Int × Int)}, (l.foldl (chF n) t).2.length = t.2.length + l.length
  | [], t => rfl
  | p :: l, t => by
    rw [List.foldl_cons, chF_len, List.length_cons]
    unfold chF
    rw [List.length_append, List.length_singleton]
    omega
theorem chF_fold {n : Int} {f : D × List D → D → Option (D × List D)} (hf : ∀ (t : Int × List (Int × Int)) (p : Int), t.2.length < 1000 → f (.int t.1, t.2.map cellD) (.int p) = some (.int (chF n t p).1, (chF n t p).2.map cellD)) :
    ∀ {l : List Int} {t : Int × List (Int × Int)}, t.2.length + l.length ≤ 1000 → foldO f (.int t.1, t.2.map cellD) (l.map D.int) = some (.int (l.foldl (chF n) t).1, (l.foldl (chF n) t).2.map cellD)
  | [], t, _ => rfl
  | p :: l, t, h => by
    rw [List.length_cons] at h
    rw [List.map_cons, foldO_cons, hf t p (by omega), Option.bind_some, List.foldl_cons]
    exact chF_fold hf (by unfold chF; rw [List.length_append, List.length_singleton]; omega)
theorem chained_ok {n last : Int} {cs : List (Int × Int)} {ps : List Int} (h : cs.length + ps.length ≤ 1000) :
    F_chained (.int n) (cs.map cellD) (.tup (ps.map D.int)) (.int last) = some (.int (ps.reverse.foldl (chF n) (last, cs)).1, (ps.reverse.foldl (chF n) (last, cs)).2.map cellD) := by
  unfold F_chained
  rw [show dRev (.tup (ps.map D.int)) = some (.tup (ps.reverse.map D.int)) from by rw [List.map_reverse]; rfl, Option.bind_some, Option.bind_some, dIter_t, Option.bind_some,
    chF_fold (n := n) (t := (last, cs)) (fun t p ht => ?_) (by rw [List.length_reverse]; exact h), Option.bind_some]
  dsimp only
  have e : t.2.map cellD ++ [D.tup [.int p, .int t.1]] = (t.2 ++ [(p, t.1)]).map cellD := by rw [List.map_append]; rfl
  rw [chk_pos (by rw [List.length_map]; omega), Option.bind_some, e, dLen_l, Option.bind_some, List.length_map, List.length_append, List.length_singleton, dAdd_ii, Option.bind_some]
  rfl
/-- different entries, only the last one may end a row -/
def Ent2 (l : List Int) : Prop := l.Nodup ∧ ∀ e ∈ l.dropLast, 0 < e
theorem Ent2.tail {p : Int} {l : List Int} (h : Ent2 (p :: l)) : Ent2 l := by
  refine ⟨(List.nodup_cons.mp h.1).2, fun e he => ?_⟩
  cases l with
  | nil => cases he
  | cons a l => exact h.2 e (by rw [List.dropLast_cons_of_ne_nil (by simp)]; exact List.mem_cons_of_mem _ he)
structure Val (n low : Int) (m : Nat) (N : List (Int × Int) → List (List Int)) : Prop where
  len : ∀ cs, ((N cs).length : Int) = n + 1 + (cs.length : Int)
  step : ∀ (cs : List (Int × Int)) (p last : Int), m ≤ cs.length → (low ≤ p ∧ p ≤ n) → (0 ≤ last ∧ last < ((N cs).length : Int)) → Ent2 (p :: (N cs).getD last.toNat []) → N (cs ++ [(p, last)]) = N cs ++ [p :: (N cs).getD last.toNat []]
theorem getD_snoc {A : List (List Int)} {x : List Int} {i : Nat} (h : i = A.length) : (A ++ [x]).getD i [] = x := by
  subst h
  rw [List.getD_eq_getElem?_getD, List.getElem?_append_right (Nat.le_refl _), Nat.sub_self]
  rfl
theorem chain_val {n low last : Int} {m : Nat} {N : List (Int × Int) → List (List Int)} (V : Val n low m N) {cs : List (Int × Int)} (hn : 0 ≤ n) (h0 : 0 ≤ low) (hm : m ≤ cs.length) (hc : CelL low n cs) (hl : low ≤ last ∧ last ≤ n + (cs.length : Int)) :
    ∀ {ps : List Int}, (∀ p ∈ ps, low ≤ p ∧ p ≤ n) → Ent2 (ps ++ (N cs).getD last.toNat []) →
      (N (ps.reverse.foldl (chF n) (last, cs)).2).getD (ps.reverse.foldl (chF n) (last, cs)).1.toNat [] = ps ++ (N cs).getD last.toNat [] ∧ (low ≤ (ps.reverse.foldl (chF n) (last, cs)).1 ∧ (ps.reverse.foldl (chF n) (last, cs)).1 ≤ n + ((ps.reverse.foldl (chF n) (last, cs)).2.length : Int)) ∧ CelL low n (ps.reverse.foldl (chF n) (last, cs)).2
  | [], _, _ => ⟨rfl, hl, hc⟩
  | p :: ps, hp, he => by
    obtain ⟨i1, i2, i3⟩ := chain_val V hn h0 hm hc hl (ps := ps) (fun q hq => hp q (List.mem_cons_of_mem _ hq)) (he.tail)
    have hlen := chF_len (n := n) (l := ps.reverse) (t := (last, cs))
    rw [List.length_reverse] at hlen
    rw [List.reverse_cons, List.foldl_append]
    generalize hT : ps.reverse.foldl (chF n) (last, cs) = t at *
    have hpp := hp p List.mem_cons_self
    have hN := V.len t.2
    have hst := V.step t.2 p t.1 (by dsimp only at hlen; omega) hpp ⟨by omega, by omega⟩ (by rw [i1]; exact he)
    show (N (t.2 ++ [(p, t.1)])).getD (n + ((t.2.length + 1 : Nat) : Int)).toNat [] = _ ∧ (low ≤ n + ((t.2.length + 1 : Nat) : Int) ∧ n + ((t.2.length + 1 : Nat) : Int) ≤ n + ((t.2 ++ [(p, t.1)]).length : Int)) ∧ CelL low n (t.2 ++ [(p, t.1)])
    refine ⟨?_, ⟨by omega, by rw [List.length_append, List.length_singleton]; omega⟩, celL_snoc i3 ⟨⟨hpp.1, by omega⟩, i2⟩⟩
    rw [hst, getD_snoc (by omega), i1]
    rfl
theorem ent_of2 {l : List Int} (h : Ent2 l) : EntOk l := ⟨h.1, fun z => absurd (h.2 0 z) (by decide)⟩
theorem base_at {n p : Int} (hp : 0 ≤ p ∧ p ≤ n) : ((List.range (n + 1).toNat).map fun (k : Nat) => [(k : Int)]).getD p.toNat [] = [p] := by
  rw [List.getD_eq_getElem?_getD, List.getElem?_map, List.getElem?_range (by omega)]
  show [((p.toNat : Nat) : Int)] = [p]
  rw [show ((p.toNat : Nat) : Int) = p by omega]
theorem val_ords {n low : Int} (hn : 0 ≤ n) (h0 : 0 ≤ low) : Val n low 0 fun cs => nords cs n where
  len := fun cs => nordsU_len hn
  step := fun cs p last _ hp hl he => by
    unfold nords at hl he ⊢
    rw [nfold_app]
    have hb : (nfold ordG cs ((List.range (n + 1).toNat).map fun (k : Nat) => [(k : Int)])).getD p.toNat [] = [p] := by
      rw [nfold_pre (by simp; omega), base_at ⟨by omega, hp.2⟩]
    generalize nfold ordG cs ((List.range (n + 1).toNat).map fun (k : Nat) => [(k : Int)]) = B at *
    show B ++ [ordG B (p, last)] = B ++ [p :: B.getD last.toNat []]
    have : ordG B (p, last) = firsts (B.getD p.toNat [] ++ B.getD last.toNat []) := rfl
    rw [this, hb, show [p] ++ B.getD last.toNat [] = p :: B.getD last.toNat [] from rfl, firsts_id (ent_of2 he)]
theorem nrows_app {hf : Nat → Option Nat} : ∀ {a b : List (Int × Int)} {k : Nat} {A : List (List Int)}, nrows hf k (a ++ b) A = nrows hf (k + a.length) b (nrows hf k a A)
  | [], b, k, A => rfl
  | c :: a, b, k, A => by
    rw [List.cons_append, nrows, nrows_app, nrows, List.length_cons, show k + 1 + a.length = k + (a.length + 1) by omega]
theorem nrows_snoc {hf : Nat → Option Nat} {a : List (Int × Int)} {c : Int × Int} {A : List (List Int)} : nrows hf 0 (a ++ [c]) A = nrows hf 0 a A ++ [rstep hf (nrows hf 0 a A) a.length c] := by
  rw [nrows_app, nrows, nrows, Nat.zero_add]
theorem nrows_pre {hf : Nat → Option Nat} : ∀ {cs : List (Int × Int)} {k i : Nat} {A : List (List Int)}, i < A.length → (nrows hf k cs A).getD i [] = A.getD i []
  | [], _, _, _, _ => rfl
  | c :: cs, k, i, A, h => by
    rw [nrows, nrows_pre (by rw [List.length_append]; omega), List.getD_eq_getElem?_getD, List.getElem?_append_left h, ← List.getD_eq_getElem?_getD]
theorem jrow_id : ∀ {l u : List Int}, Ent2 (u ++ l) → jrow u l = u ++ l
  | [], u, _ => by rw [List.append_nil]; rfl
  | e :: l, u, h => by
    have h1 : e ∉ u := fun z => by
      have := (List.nodup_append.mp h.1).2.2 e z e List.mem_cons_self
      exact this rfl
    have h2 : trm u = false := by
      unfold trm
      rw [List.any_eq_false]
      intro x hx
      have := h.2 x (by rw [List.dropLast_append_of_ne_nil (by simp)]; exact List.mem_append_left _ hx)
      rw [decide_eq_true_iff]
      omega
    rw [jrow_cons]
    unfold jadd
    rw [if_neg h1, h2, if_neg (by decide), jrow_id (by rw [List.append_assoc]; exact h), List.append_assoc]
    rfl
theorem val_rows {n : Int} {m : Nat} {hf : Nat → Option Nat} (hn : 0 ≤ n) (hh : ∀ k, m ≤ k → hf k = none) : Val n 0 m fun cs => nrows hf 0 cs (rbase n) where
  len := fun cs => by rw [nrows_len, rbase_len]; omega
  step := fun cs p last hm hp hl he => by
    try dsimp only at hl he ⊢
    rw [nrows_snoc]
    unfold rstep
    rw [hh _ hm]
    try dsimp only
    rw [nrows_pre (by rw [rbase_len]; omega), show (rbase n).getD p.toNat [] = [p] from base_at hp, jrow_id (u := [p]) (l := (nrows hf 0 cs (rbase n)).getD last.toNat []) he]
    rfl
theorem hfS_one {m c k : Nat} : hfS [(m, c)] k = if k = m then some c else none := by
  unfold hfS
  have e : heldK [(m, c)] = [(.inl (m : Int), .str (S [c]))] := rfl
  rw [e]
  unfold valD
  by_cases h : k = m
  · subst h
    rw [if_pos rfl, List.find?_cons_of_pos (by simp)]
    rfl
  · rw [if_neg h, List.find?_cons_of_neg (by simp; omega)]
    rfl
theorem serialw_ok {n : Int} (hn : 1 ≤ n ∧ n ≤ 24) : Gives (F_serial_wiring (.int n)) fun q => ∃ cs es, q = (cs.map cellD, es.map D.int) ∧ cs.length = n.toNat ∧ CelL 0 n cs ∧ EndL 0 n cs.length es := by
  unfold F_serial_wiring
  rw [dAdd_ii, Option.bind_some, Option.bind_some, dRange_2, chk_pos (by omega), Option.bind_some]
  refine .bind ((gives_fold (fun i s => ∃ (cs : List (Int × Int)) (es : List Int), s = (cs.map cellD, es.map D.int) ∧ cs.length = i ∧ es.length = i + 1 ∧ CelL 0 n cs ∧ ∀ e ∈ es, 0 ≤ e ∧ e ≤ n + (i : Int)) ⟨[], [0], rfl, rfl, rfl, celL_nil, fun e he => by rw [List.mem_singleton] at he; omega⟩ fun i x s hx hI => ?_).imp fun r hr => ?_)
  · obtain ⟨cs, es, rfl, h1, h2, h3, h4⟩ := hI
    obtain ⟨hi, rfl⟩ := rngD_at hx
    rcases List.eq_nil_or_concat es with rfl | ⟨fs, e, ee⟩
    · cases h2
    · rw [List.concat_eq_append] at ee
      subst ee
      have he := h4 e (by simp)
      have ex : dIx (.lst ((fs ++ [e]).map D.int)) (.int (-1)) = some (.int e) := by
        rw [List.map_append]
        exact lastL_ix
      dsimp only
      have ec : cs.map cellD ++ [D.tup [.int (1 + (i : Int)), .int e]] = (cs ++ [(1 + (i : Int), e)]).map cellD := by rw [List.map_append]; rfl
      have e3 : (fs ++ [e]).map D.int ++ [D.int (n + ((i + 1 : Nat) : Int))] = (fs ++ [e] ++ [n + ((i + 1 : Nat) : Int)]).map D.int := by rw [List.map_append (l₁ := fs ++ [e])]; rfl
      rw [ex, Option.bind_some, chk_pos (by rw [List.length_map]; omega), Option.bind_some, ec, dLen_l, Option.bind_some, List.length_map, List.length_append, List.length_singleton, dAdd_ii, Option.bind_some, chk_pos (by rw [List.length_map]; omega), Option.bind_some, h1, e3]
      refine .mk ⟨_, _, rfl, by rw [List.length_append, h1]; rfl, by rw [List.length_append, h2]; rfl, celL_snoc h3 ⟨⟨by dsimp only; omega, by dsimp only; omega⟩, by dsimp only; omega, by dsimp only; omega⟩, fun z hz => ?_⟩
      rcases List.mem_append.mp hz with hz | hz
      · have := h4 z hz; omega
      · rw [List.mem_singleton] at hz; omega
  · obtain ⟨cs, es, rfl, h1, h2, h3, h4⟩ := hr
    rw [rngD_len] at h1 h2 h4
    exact .mk ⟨cs, es, rfl, by omega, h3, by omega, fun e he => by have := h4 e he; omega⟩
theorem ringw_ok {n : Int} (hn : 2 ≤ n ∧ n ≤ 24) : Gives (F_ring_serial_wiring (.int n)) fun q => ∃ cs es, q = (cs.map cellD, es.map D.int) ∧ cs.length ≤ 46 ∧ CelL 1 n cs ∧ EndL 1 n cs.length es := by
  unfold F_ring_serial_wiring
  rw [dAdd_ii, Option.bind_some, Option.bind_some, dRange_2, chk_pos (by omega), Option.bind_some]
  refine .bind ((gives_fold (fun i s => ∃ (w : Int) (cs : List (Int × Int)), s = (.int w, cs.map cellD) ∧ cs.length = i ∧ CelL 1 n cs ∧ 1 ≤ w ∧ w ≤ n + (i : Int)) ⟨1, [], rfl, rfl, celL_nil, by omega, by omega⟩ fun i x s hx hI => ?_).imp fun r hr => ?_)
  · obtain ⟨w, cs, rfl, h1, h3, h4, h5⟩ := hI
    obtain ⟨hi, rfl⟩ := rngD_at hx
    dsimp only
    have ec : cs.map cellD ++ [D.tup [.int (2 + (i : Int)), .int w]] = (cs ++ [(2 + (i : Int), w)]).map cellD := by rw [List.map_append]; rfl
    rw [chk_pos (by rw [List.length_map]; omega), Option.bind_some, ec, dLen_l, Option.bind_some, List.length_map, List.length_append, List.length_singleton, dAdd_ii, Option.bind_some]
    exact .mk ⟨_, _, rfl, by rw [List.length_append, h1]; rfl, celL_snoc h3 ⟨⟨by dsimp only; omega, by dsimp only; omega⟩, by dsimp only; omega, by dsimp only; omega⟩, by omega, by omega⟩
  · obtain ⟨w, cs, rfl, h1, h3, h4, h5⟩ := hr
    rw [rngD_len] at h1 h5
    dsimp only
    rw [dRange_2, chk_pos (by omega), Option.bind_some]
    refine .bind ((gives_fold (fun i s => ∃ (v : Int) (ds : List (Int × Int)) (es : List Int), s = (.int v, ds.map cellD, es.map D.int) ∧ ds.length = cs.length + i ∧ es.length = i ∧ CelL 1 n ds ∧ (1 ≤ v ∧ v ≤ n + (ds.length : Int)) ∧ ∀ e ∈ es, 1 ≤ e ∧ e ≤ n + (ds.length : Int)) ⟨w, cs, [], rfl, rfl, rfl, h3, by omega, fun e he => nomatch he⟩ fun i x s hx hI => ?_).imp fun r hr => ?_)
    · obtain ⟨v, ds, es, rfl, g1, g2, g3, g4, g5⟩ := hI
      obtain ⟨hi, rfl⟩ := rngD_at hx
      dsimp only
      have ec : ds.map cellD ++ [D.tup [.int (1 + (i : Int)), .int v]] = (ds ++ [(1 + (i : Int), v)]).map cellD := by rw [List.map_append]; rfl
      have e3 : es.map D.int ++ [D.int (n + ((ds.length + 1 : Nat) : Int))] = (es ++ [n + ((ds.length + 1 : Nat) : Int)]).map D.int := by rw [List.map_append]; rfl
      rw [chk_pos (by rw [List.length_map]; omega), Option.bind_some, ec, dLen_l, Option.bind_some, List.length_map, List.length_append, List.length_singleton, dAdd_ii, Option.bind_some, chk_pos (by rw [List.length_map]; omega), Option.bind_some, e3]
      refine .mk ⟨_, _, _, rfl, by rw [List.length_append, g1]; simp; omega, by rw [List.length_append, g2]; rfl, celL_snoc g3 ⟨⟨by dsimp only; omega, by dsimp only; omega⟩, by dsimp only; omega, by dsimp only; omega⟩, ⟨by omega, by rw [List.length_append, List.length_singleton]; omega⟩, fun z hz => ?_⟩
      rw [List.length_append, List.length_singleton]
      rcases List.mem_append.mp hz with hz | hz
      · have := g5 z hz; omega
      · rw [List.mem_singleton] at hz; omega
    · obtain ⟨v, ds, es, rfl, g1, g2, g3, g4, g5⟩ := hr
      rw [rngD_len] at g1 g2
      dsimp only
      rw [lAdd_ll, chk_pos (by rw [List.length_map]; simp; omega), Option.bind_some, show es.map D.int ++ [D.int w] = (es ++ [w]).map D.int from by rw [List.map_append]; rfl]
      refine .mk ⟨ds, _, rfl, by omega, g3, by rw [List.length_append, List.length_singleton]; omega, fun e he => ?_⟩
      rcases List.mem_append.mp he with he | he
      · exact g5 e he
      · rw [List.mem_singleton] at he
        subst he
        omega
def fltG (n : Int) (cs : List (Int × Int)) (es : List Int) (st : List (Nat × Nat)) : List (Str × D) := putG "held" (D.stup (st.map stkD)) (netG n cs es)
def fltD (Z : Str → Addr) (n : Int) (cs : List (Int × Int)) (es : List Int) (st : List (Nat × Nat)) : D := .ins (Z "Faulty") (fltG n cs es st)
theorem flk_bits {n : Int} {cs : List (Int × Int)} {es : List Int} {st : List (Nat × Nat)} : (fltG n cs es st).lookup ("bits" : Str) = some (.int n) := rfl
theorem flk_joins {n : Int} {cs : List (Int × Int)} {es : List Int} {st : List (Nat × Nat)} : (fltG n cs es st).lookup ("joins" : Str) = some (.tup (cs.map cellD)) := rfl
theorem flk_ends {n : Int} {cs : List (Int × Int)} {es : List Int} {st : List (Nat × Nat)} : (fltG n cs es st).lookup ("ends" : Str) = some (.tup (es.map D.int)) := rfl
theorem flk_held {n : Int} {cs : List (Int × Int)} {es : List Int} {st : List (Nat × Nat)} : (fltG n cs es st).lookup ("held" : Str) = some (.stup (st.map stkD)) := rfl
theorem isC_flt {Z : Str → Addr} {n : Int} {cs : List (Int × Int)} {es : List Int} {st : List (Nat × Nat)} : isC (Z "Faulty") (fltD Z n cs es st) = some (fltG n cs es st) := isC_ins
theorem mth_flt {Z : Str → Addr} {n : Int} {cs : List (Int × Int)} {es : List Int} {st : List (Nat × Nat)} {m : Str} (h : (fltG n cs es st).lookup m = none) : mthC (Z "Faulty") m (fltD Z n cs es st) = some (fltG n cs es st) := mth_ins h
theorem fltbase_ok {Z : Str → Addr} {n : Int} {cs : List (Int × Int)} {es : List Int} {dc de : D} (hdc : SeqOf dc (cs.map cellD)) (hde : SeqOf de (es.map D.int)) (hn : 1 ≤ n ∧ n ≤ 24) (hc : CellsOk n cs) (hl : cs.length ≤ 150) (he : EndsOk n cs.length es) :
    F_Faulty_base___init__ Z (.int n) dc de = some (.ok (netG n cs es)) := by
  unfold F_Faulty_base___init__
  rw [mth_ins (m := "LEAST_BITS") rfl, Option.bind_some, mth_ins (m := "MOST_BITS") rfl, Option.bind_some, btw_int, decide_eq_true hn, Option.bind_some, dTru_b, Option.bind_some, if_neg (by decide), chk_pos (show ([] : List (Str × D)).length < 1000 by decide), Option.bind_some, mth_ins (m := "LOWEST") rfl, Option.bind_some,
    ccells_ok hdc (by omega) hc hl, Option.bind_some]
  dsimp only [exC]
  rw [chk_pos (putG_lt (k := 999) (show ([] : List (Str × D)).length < 999 by decide)), Option.bind_some, isC_ins, Option.bind_some, show (putG "joins" (.tup (cs.map cellD)) (putG "bits" (.int n) ([] : List (Str × D)))).lookup ("joins" : Str) = some (.tup (cs.map cellD)) from rfl, Option.bind_some, dLen_t, Option.bind_some, mth_ins (m := "LOWEST") rfl, Option.bind_some,
    couts_ok hde (by omega) he (by rw [List.length_map]), Option.bind_some]
  dsimp only [exC]
  rw [chk_pos (putG_lt (k := 999) (putG_lt (k := 998) (show ([] : List (Str × D)).length < 998 by decide))), Option.bind_some, chk_pos (putG_lt (k := 999) (putG_lt (k := 998) (putG_lt (k := 997) (show ([] : List (Str × D)).length < 997 by decide)))), Option.bind_some]
  rfl
theorem fltinit_ok {Z : Str → Addr} {n : Int} {cs : List (Int × Int)} {es : List Int} {st : List (Nat × Nat)} {dc de ds : D} (hdc : SeqOf dc (cs.map cellD)) (hde : SeqOf de (es.map D.int)) (hds : SkD ds st) (hn : 1 ≤ n ∧ n ≤ 24) (hc : CellsOk n cs) (hl : cs.length ≤ 150) (he : EndsOk n cs.length es) (hs : SkOk cs.length st) :
    F_Faulty___init__ Z (.int n) dc de ds = some (.ok (fltG n cs es st)) := by
  unfold F_Faulty___init__
  rw [fltbase_ok hdc hde hn hc hl he, Option.bind_some]
  dsimp only [exC]
  rw [isC_ins, Option.bind_some, lk_joins, Option.bind_some, dLen_t, Option.bind_some, List.length_map, cstuck_ok hds hs, Option.bind_some]
  dsimp only
  rw [chk_pos (show (netG n cs es).length < 1000 from putG_lt (k := 999) (putG_lt (k := 998) (putG_lt (k := 997) (putG_lt (k := 996) (show ([] : List (Str × D)).length < 996 by decide))))), Option.bind_some]
  rfl
section
variable {Z : Str → Addr} {n : Int} {cs : List (Int × Int)} {es : List Int} {st : List (Nat × Nat)}
theorem fheld_ok : F_Faulty_held_states Z (fltD Z n cs es st) = some (.dct (heldK st)) := by
  unfold F_Faulty_held_states
  rw [isC_flt, Option.bind_some, flk_held, Option.bind_some, show stupD (.stup (st.map stkD)) = some (st.map stkD) from rfl, Option.bind_some, kvs_stk, Option.bind_some]
  rfl
def endRows (st : List (Nat × Nat)) (n : Int) (cs : List (Int × Int)) (es : List Int) : D := .tup (es.map fun e => rowD ((rowsOf st n cs).getD e.toNat []))
theorem frows_ok (hs : SkOk cs.length st) (hn : 1 ≤ n ∧ n ≤ 24) (hc : CellsOk n cs) (hl : cs.length ≤ 150) (he : EndsOk n cs.length es) :
    F_Faulty_rows Z (fltD Z n cs es st) = some (endRows st n cs es) := by
  have := rowsOf_len (st := st) (n := n) (cs := cs) (by omega)
  unfold F_Faulty_rows
  rw [isC_flt, Option.bind_some, flk_bits, Option.bind_some, Option.bind_some, flk_joins, Option.bind_some, mth_flt rfl, Option.bind_some, fheld_ok, Option.bind_some, noderows_ok hs (by omega) hc (by omega), Option.bind_some, Option.bind_some, flk_ends, Option.bind_some, Option.bind_some, dIter_t, Option.bind_some, List.length_map, chk_pos (by have := he.1; omega), Option.bind_some,
    mapO_of (g := fun e : Int => rowD ((rowsOf st n cs).getD e.toNat [])) (fun e hm => by
      have := he.2 e hm
      rw [rows_at (by omega), Option.bind_some]), Option.bind_some, lList_l, Option.bind_some]
  rfl
def nodesH (st : List (Nat × Nat)) (cs : List (Int × Int)) (A : List Nat) : List Nat := hnsts (hfS st) 0 cs A
end
theorem pos_ent2 {r : Bool} {n : Int} {qs : List Int} (h : Pos (lowI r) n qs) : Ent2 qs := ⟨h.nd, fun e he => by
  have h1 := (h.rg e (List.dropLast_subset _ he)).1
  have h2 := (lowI_b (r := r)).1
  have h3 : e ≠ 0 := fun z => h.zr (z ▸ he)
  omega⟩
theorem pos_len {r : Bool} {n : Int} {qs : List Int} (h : Pos (lowI r) n qs) (hn : n ≤ 24) : qs.length ≤ 25 := by
  have := nodup_len (U := (List.range 25).map fun k : Nat => (k : Int)) h.nd fun e he => by
    have h1 := h.rg e he
    have h2 := (lowI_b (r := r)).1
    exact List.mem_map.mpr ⟨e.toNat, List.mem_range.mpr (by omega), by omega⟩
  simpa using this
theorem set_ends {low n : Int} {m k : Nat} {es : List Int} {v : Int} {i : Nat} (h : EndL low n m es) (hm : m ≤ k) (hv : low ≤ v ∧ v ≤ n + (k : Int)) : EndL low n k (es.set i v) := by
  refine ⟨by rw [List.length_set]; exact h.1, fun e he => ?_⟩
  rcases List.mem_or_eq_of_mem_set he with he | rfl
  · have := h.2 e he; omega
  · exact hv
theorem set_at {es : List Int} {v : Int} {i : Nat} (h : i < es.length) : (es.set i v).getD i 0 = v := by
  rw [List.getD_eq_getElem?_getD, List.getElem?_set_self h]
  rfl
theorem nw_net {r : Bool} {n o q : Int} {cs : List (Int × Int)} {es qs : List Int} (hn : 1 + lowI r ≤ n ∧ n ≤ 24) (hc : CelL (lowI r) n cs) (hl : cs.length ≤ 46) (he : EndL (lowI r) n cs.length es) (hp : Pos (lowI r) n (qs ++ [q])) (ho : lowI r ≤ o ∧ o ≤ n) :
    WirU r n (qs.reverse.foldl (chF n) (q, cs)).2 (es.set (o - lowI r).toNat (qs.reverse.foldl (chF n) (q, cs)).1) ∧
    (nords (qs.reverse.foldl (chF n) (q, cs)).2 n).getD ((es.set (o - lowI r).toNat (qs.reverse.foldl (chF n) (q, cs)).1).getD (o - lowI r).toNat 0).toNat [] = qs ++ [q] := by
  have h0 := lowI_b (r := r)
  have hq := hp.rg q (by simp)
  have hlen := chF_len (n := n) (l := qs.reverse) (t := (q, cs))
  rw [List.length_reverse] at hlen
  dsimp only at hlen
  have hql := pos_len hp hn.2
  rw [List.length_append, List.length_singleton] at hql
  have hN : (nords cs n).getD q.toNat [] = [q] := by
    unfold nords
    rw [nfold_pre (by simp; omega), base_at (by omega)]
  obtain ⟨i1, i2, i3⟩ := chain_val (val_ords (n := n) (low := lowI r) (by omega) h0.1) (by omega) h0.1 (Nat.zero_le _) hc (last := q) (by omega) (ps := qs) (fun p hm => hp.rg p (by simp [hm])) (by rw [hN]; exact pos_ent2 hp)
  have hes := he.1
  refine ⟨⟨hn.1, hn.2, i3, by omega, set_ends he (by omega) i2⟩, ?_⟩
  rw [set_at (by omega), i1, hN]
theorem letter_row {st : List (Nat × Nat)} {n : Int} {cs : List (Int × Int)} {c : Nat} (hn : 0 ≤ n) (hst : st = [(cs.length, c)]) (hc : c ≠ 80) : (rowsOf st n (cs ++ [(0, 0)])).getD (n + ((cs.length + 1 : Nat) : Int)).toNat [] = [-(c : Int)] := by
  subst hst
  unfold rowsOf
  rw [nrows_snoc, getD_snoc (by rw [nrows_len, rbase_len]; omega)]
  unfold rstep
  rw [hfS_one, if_pos rfl]
  dsimp only
  rw [if_neg hc]
theorem nw_flt {n o : Int} {c : Nat} {cs : List (Int × Int)} {es qs : List Int} (hn : 1 ≤ n ∧ n ≤ 24) (hcc : c = 71 ∨ c = 75) (hc : CelL 0 n cs) (hl : cs.length ≤ 46) (he : EndL 0 n cs.length es) (hp : Pos 0 n qs) (hz : (0 : Int) ∉ qs) (ho : 0 ≤ o ∧ o ≤ n) :
    (SkOk (qs.reverse.foldl (chF n) (n + ((cs.length + 1 : Nat) : Int), cs ++ [(0, 0)])).2.length [(cs.length, c)] ∧ CellsOk n (qs.reverse.foldl (chF n) (n + ((cs.length + 1 : Nat) : Int), cs ++ [(0, 0)])).2 ∧ (qs.reverse.foldl (chF n) (n + ((cs.length + 1 : Nat) : Int), cs ++ [(0, 0)])).2.length ≤ 150 ∧
      EndsOk n (qs.reverse.foldl (chF n) (n + ((cs.length + 1 : Nat) : Int), cs ++ [(0, 0)])).2.length (es.set o.toNat (qs.reverse.foldl (chF n) (n + ((cs.length + 1 : Nat) : Int), cs ++ [(0, 0)])).1)) ∧
    (rowsOf [(cs.length, c)] n (qs.reverse.foldl (chF n) (n + ((cs.length + 1 : Nat) : Int), cs ++ [(0, 0)])).2).getD ((es.set o.toNat (qs.reverse.foldl (chF n) (n + ((cs.length + 1 : Nat) : Int), cs ++ [(0, 0)])).1).getD o.toNat 0).toNat [] = qs ++ [-(c : Int)] := by
  have hc80 : c ≠ 80 := by rcases hcc with rfl | rfl <;> decide
  have hlen := chF_len (n := n) (l := qs.reverse) (t := (n + ((cs.length + 1 : Nat) : Int), cs ++ [(0, 0)]))
  rw [List.length_reverse] at hlen
  dsimp only at hlen
  rw [List.length_append, List.length_singleton] at hlen
  have hql := pos_len (r := false) hp hn.2
  have hN := letter_row (st := [(cs.length, c)]) (n := n) (cs := cs) (c := c) (by omega) rfl hc80
  have hcl : CelL 0 n (cs ++ [(0, 0)]) := celL_snoc hc ⟨⟨by dsimp only; omega, by dsimp only; omega⟩, by dsimp only; omega, by dsimp only; omega⟩
  have hpos : ∀ e ∈ qs, 0 < e := fun e hm => by
    have h1 := (hp.rg e hm).1
    have h3 : e ≠ 0 := fun z => hz (z ▸ hm)
    omega
  have hE : Ent2 (qs ++ [-(c : Int)]) := by
    refine ⟨List.nodup_append.mpr ⟨hp.nd, by simp, fun a ha b hb => ?_⟩, fun e hm => ?_⟩
    · rw [List.mem_singleton] at hb
      have := hpos a ha
      rcases hcc with rfl | rfl <;> omega
    · rw [List.dropLast_concat] at hm
      exact hpos e hm
  have V := val_rows (n := n) (m := cs.length + 1) (hf := hfS [(cs.length, c)]) (by omega) fun k hk => by rw [hfS_one, if_neg (by omega)]
  obtain ⟨i1, i2, i3⟩ := chain_val V (by omega) (Int.le_refl 0) (by rw [List.length_append, List.length_singleton]; exact Nat.le_refl _) hcl (last := n + ((cs.length + 1 : Nat) : Int)) ⟨by omega, by rw [List.length_append, List.length_singleton]; omega⟩ (ps := qs) (fun p hm => hp.rg p hm) (by rw [show (nrows (hfS [(cs.length, c)]) 0 (cs ++ [(0, 0)]) (rbase n)).getD (n + ((cs.length + 1 : Nat) : Int)).toNat [] = [-(c : Int)] from hN]; exact hE)
  have hes := he.1
  refine ⟨⟨fun i p h => ?_, fun i d hd => by have := i3 i d hd; omega, by omega, ?_⟩, ?_⟩
  · match i, h with
    | 0, h => cases h; exact ⟨by rcases hcc with rfl | rfl; exact .inl rfl; exact .inr (.inl rfl), Nat.zero_le _, by dsimp only; omega⟩
    | i + 1, h => simp at h
  · have := set_ends (i := o.toNat) he (by omega) i2
    exact ⟨by have := this.1; omega, this.2⟩
  · rw [set_at (by omega)]
    unfold rowsOf
    rw [i1, show (nrows (hfS [(cs.length, c)]) 0 (cs ++ [(0, 0)]) (rbase n)).getD (n + ((cs.length + 1 : Nat) : Int)).toNat [] = [-(c : Int)] from hN]
theorem lfs_cells : ∀ cs : List (Int × Int), lfs (cs.map cellD) = true
  | [] => rfl
  | c :: cs => by rw [List.map_cons, lfs, lfs_cells cs]; rfl
theorem lfs_ints : ∀ es : List Int, lfs (es.map D.int) = true
  | [] => rfl
  | e :: es => by rw [List.map_cons, lfs, lfs_ints es]; rfl
theorem lf_netG {C : Addr} {n : Int} {cs : List (Int × Int)} {es : List Int} : lf (.ins C (netG n cs es)) = true := by
  show lf (.ins C [("bits", .int n), ("joins", .tup (cs.map cellD)), ("ends", .tup (es.map D.int)), ("held", .stup [])]) = true
  simp only [lf, lfk, lfs, lfs_cells, lfs_ints, Bool.and_self]
theorem lset_ok {es : List Int} {k v : Int} (h : 0 ≤ k ∧ k < (es.length : Int)) : lSet (es.map D.int) (.int k) (.int v) = some ((es.set k.toNat v).map D.int) := by
  rw [lSet_i, List.length_map, ixN_of h.1 h.2, Option.map_some, List.map_set]
theorem nw_no {Z : Str → Addr} {n : Int} {r : Bool} {spot e : D} (hs : plain spot = true) (h : btwD (lowI r) n spot = false) : F_network_with Z (.int n) spot e (.bl r) = some (.error (Z "NoOutput", [("output", spot)])) := by
  unfold F_network_with
  rw [lowI_int, Option.bind_some, btwD_ok hs, h, Option.bind_some, dTru_b, Option.bind_some]
  rfl
theorem nw_row {Z : Str → Addr} {n : Int} {r : Bool} {spot e : D} (hs : plain spot = true) (h : btwD (lowI r) n spot = true) (hr : F_need_row Z (.int n) e (.bl r) = some (.error (Z "InvalidRow", [("value", e)]))) : F_network_with Z (.int n) spot e (.bl r) = some (.error (Z "InvalidRow", [("value", e)])) := by
  unfold F_network_with
  rw [lowI_int, Option.bind_some, btwD_ok hs, h, Option.bind_some, dTru_b, Option.bind_some, if_neg (by decide), hr, Option.bind_some]
  rfl
theorem nw_plain {Z : Str → Addr} {n o q : Int} {r : Bool} {qs : List Int} (hn : 1 + lowI r ≤ n ∧ n ≤ 24) (hp : Pos (lowI r) n (qs ++ [q])) (ho : lowI r ≤ o ∧ o ≤ n) (hr : F_need_row Z (.int n) (.tup ((qs ++ [q]).map D.int)) (.bl r) = some (.ok .non)) :
    ∃ cs es, F_network_with Z (.int n) (.int o) (.tup ((qs ++ [q]).map D.int)) (.bl r) = some (.ok (netU Z r n cs es)) ∧ WirU r n cs es ∧ (nords cs n).getD (es.getD (o - lowI r).toNat 0).toNat [] = qs ++ [q] := by
  have ee : (qs ++ [q]).map D.int = qs.map D.int ++ [.int q] := by rw [List.map_append]; rfl
  have hql := pos_len hp hn.2
  rw [List.length_append, List.length_singleton] at hql
  unfold F_network_with
  rw [lowI_int, Option.bind_some, btw_int, decide_eq_true ho, Option.bind_some, dTru_b, Option.bind_some, if_neg (by decide), hr, Option.bind_some]
  dsimp only [exC]
  rw [dTru_b, Option.bind_some, ee]
  have hend : F_ends_with_letter (.tup (qs.map D.int ++ [.int q])) = some (.bl false) := endswith_ok rfl
  have hix : dIx (.tup (qs.map D.int ++ [.int q])) (.int (-1)) = some (.int q) := by rw [dIx_ti]; exact atI_lastG
  have hcut : dCut (.tup (qs.map D.int ++ [.int q])) none (some (-1)) = some (.tup (qs.map D.int)) := by rw [dCut_t, cut_popG]
  cases r with
  | true =>
    obtain ⟨_, ew, cs, es, rfl, h1, h2, h3⟩ := ringw_ok (n := n) (by have := hn.1; rw [lowI_t] at this; omega)
    obtain ⟨w, v⟩ := nw_net (r := true) (o := o) hn h2 h1 h3 hp ho
    have hes := h3.1
    rw [lowI_t] at ho
    rw [if_pos rfl, ew, Option.bind_some, hend, Option.bind_some, dTru_b, Option.bind_some, if_pos (by decide), dEnd_i, Option.bind_some, hcut, Option.bind_some, hix, Option.bind_some]
    dsimp only
    rw [chained_ok (by omega), Option.bind_some, Option.bind_some, dSub_ii, Option.bind_some]
    dsimp only
    rw [lset_ok (by rw [lowI_t]; omega), Option.bind_some, Option.bind_some, if_pos rfl, init_Ut w (.inl rfl) (.inl rfl), Option.bind_some]
    dsimp only
    rw [chk_pos lf_netG, Option.bind_some]
    exact ⟨_, _, rfl, w, v⟩
  | false =>
    obtain ⟨_, ew, cs, es, rfl, h1, h2, h3⟩ := serialw_ok (n := n) (by have := hn.1; rw [lowI_f] at this; omega)
    obtain ⟨w, v⟩ := nw_net (r := false) (o := o) hn h2 (by omega) h3 hp ho
    have hes := h3.1
    rw [lowI_f] at ho
    rw [if_neg (by decide), ew, Option.bind_some, hend, Option.bind_some, dTru_b, Option.bind_some, if_pos (by decide), dEnd_i, Option.bind_some, hcut, Option.bind_some, hix, Option.bind_some]
    dsimp only
    rw [chained_ok (by omega), Option.bind_some, Option.bind_some, dSub_ii, Option.bind_some]
    dsimp only
    rw [lset_ok (by rw [lowI_f]; omega), Option.bind_some, Option.bind_some, if_neg (by decide), init_Uf w (.inl rfl) (.inl rfl), Option.bind_some]
    dsimp only
    rw [chk_pos lf_netG, Option.bind_some]
    exact ⟨_, _, rfl, w, v⟩
theorem nw_let {Z : Str → Addr} {n o : Int} {c : Nat} {qs : List Int} (hn : 1 ≤ n ∧ n ≤ 24) (hcc : c = 71 ∨ c = 75) (hp : Pos 0 n qs) (hz : (0 : Int) ∉ qs) (ho : 0 ≤ o ∧ o ≤ n) (hr : F_need_row Z (.int n) (.tup (qs.map D.int ++ [.str (S [c])])) (.bl false) = some (.ok .non)) :
    ∃ cs es st, F_network_with Z (.int n) (.int o) (.tup (qs.map D.int ++ [.str (S [c])])) (.bl false) = some (.ok (fltD Z n cs es st)) ∧ SkOk cs.length st ∧ CellsOk n cs ∧ cs.length ≤ 150 ∧ EndsOk n cs.length es ∧ (rowsOf st n cs).getD (es.getD o.toNat 0).toNat [] = qs ++ [-(c : Int)] := by
  have hql := pos_len (r := false) hp hn.2
  obtain ⟨_, ew, cs, es, rfl, h1, h2, h3⟩ := serialw_ok (n := n) hn
  obtain ⟨⟨g1, g2, g3, g4⟩, v⟩ := nw_flt (o := o) hn hcc h2 (by omega) h3 hp hz ho
  have hes := h3.1
  have hend : F_ends_with_letter (.tup (qs.map D.int ++ [.str (S [c])])) = some (.bl true) := by
    rw [endswith_ok rfl, show (endl (.str (S [c]))).isSome = true by rcases hcc with rfl | rfl <;> decide]
  have hix : dIx (.tup (qs.map D.int ++ [.str (S [c])])) (.int (-1)) = some (.str (S [c])) := by rw [dIx_ti]; exact atI_lastG
  have hcut : dCut (.tup (qs.map D.int ++ [.str (S [c])])) none (some (-1)) = some (.tup (qs.map D.int)) := by rw [dCut_t, cut_popG]
  have ec : cs.map cellD ++ [(D.tup [(D.int 0), (D.int 0)])] = (cs ++ [(0, 0)]).map cellD := by rw [List.map_append]; rfl
  unfold F_network_with
  rw [lowI_int, Option.bind_some, btw_int, decide_eq_true (by rw [lowI_f]; omega), Option.bind_some, dTru_b, Option.bind_some, if_neg (by decide), hr, Option.bind_some]
  dsimp only [exC]
  rw [dTru_b, Option.bind_some, if_neg (by decide), ew, Option.bind_some, hend, Option.bind_some, dTru_b, Option.bind_some, if_neg (by decide)]
  dsimp only
  rw [dLen_l, Option.bind_some, List.length_map, hix, Option.bind_some, chk_pos (by omega), Option.bind_some, dEnd_i, Option.bind_some, hcut, Option.bind_some, ec, dLen_l, Option.bind_some, List.length_map, List.length_append, List.length_singleton, dAdd_ii, Option.bind_some, chained_ok (by rw [List.length_append, List.length_singleton]; omega), Option.bind_some]
  dsimp only
  rw [lset_ok (by omega), Option.bind_some, show (D.lst [D.tup [.int (cs.length : Int), .str (S [c])]]) = .lst ([(cs.length, c)].map stkD) from rfl, fltinit_ok (st := [(cs.length, c)]) (.inl rfl) (.inl rfl) (.inl rfl) hn g2 g3 g4 g1, Option.bind_some]
  exact ⟨_, _, _, rfl, g1, g2, g3, g4, v⟩
theorem ident_x {o : Option (Except Er D)} : (o.bind fun r => exC r (fun e => some (.error e)) (fun v => some (.ok v))) = o := by
  cases o with
  | none => rfl
  | some r => cases r <;> rfl
theorem hz_ne {Z : Str → Addr} (hz : Hz Z) : Z "Network" ≠ Z "Ring" ∧ Z "NoOutput" ≠ Z "InvalidRow" ∧ Z "NoOutput" ≠ Z "InvalidCells" ∧ Z "NoOutput" ≠ Z "InvalidOutputs" ∧ Z "NoOutput" ≠ Z "InvalidSize" ∧ Z "NoOutput" ≠ Z "InvalidStuck" ∧ Z "NoOutput" ≠ Z "InvalidPosition" := by
  unfold Hz HzL at hz
  simp at hz
  obtain ⟨⟨a1, _⟩, _, _, ⟨d1, d2, d3, d4, d5, d6⟩, _⟩ := hz
  exact ⟨a1, d1, d2, d3, d4, d5, d6⟩
theorem heard_out {Z : Str → Addr} (hz : Hz Z) {x : D} : F_Lheard Z (.error (Z "NoOutput", [("output", x)])) = some (.tup [.str "output", x]) := by
  obtain ⟨_, d1, d2, d3, d4, d5, d6⟩ := hz_ne hz
  unfold F_Lheard
  simp [exC, isiE, xflD, List.lookup, d1, d2, d3, d4, d5, d6]
theorem heard_row {Z : Str → Addr} (hz : Hz Z) {x : D} : F_Lheard Z (.error (Z "InvalidRow", [("value", x)])) = some (.tup [.str "row", x]) := by
  obtain ⟨_, d1, d2, d3, d4, d5, d6⟩ := hz_ne hz
  unfold F_Lheard
  simp [exC, isiE, xflD, List.lookup, Ne.symm d1]
theorem heard_net {Z : Str → Addr} {x : D} : F_Lheard Z (.ok x) = some (.lst [x]) := rfl
theorem ordersU {Z : Str → Addr} {r : Bool} {n : Int} {cs : List (Int × Int)} {es : List Int} (hz : Hz Z) (w : WirU r n cs es) : F_UNetworkRing_orders Z (netU Z r n cs es) = some (.tup (es.map fun e => ordD (Z "Order") ((nords cs n).getD e.toNat []))) := by
  have h0 := w.n0
  have hlow := lowI_b (r := r)
  have hin : ∀ e ∈ es, 0 ≤ e ∧ e ≤ n + (cs.length : Int) := fun e he => by have := w.ends.2 e he; omega
  have hel : es.length ≤ 1000 := by have := w.ends.1; omega
  have ho := nodeorders_ok (Z := Z) (.inr rfl) h0 (celL_ok w.cel) w.few
  unfold F_UNetworkRing_orders
  cases r with
  | false =>
    rw [if_pos cls_f]
    unfold F_Network_orders
    rw [netU_f, show isC (Z "Network") (netD Z n cs es) = some (netG n cs es) from isC_ins]
    simp only [Option.bind_some, lk_bits, lk_joins, lk_ends]
    rw [ho, Option.bind_some, orders_tail (by omega) hin hel]
  | true =>
    rw [if_neg (cls_n (Ne.symm (hz_ne hz).1)), if_pos cls_t]
    unfold F_Ring_orders
    rw [netU_t, show isC (Z "Ring") (ringD Z n cs es) = some (netG n cs es) from isC_ins]
    simp only [Option.bind_some, lk_bits, lk_joins, lk_ends]
    rw [ho, Option.bind_some, orders_tail (by omega) hin hel]
theorem ents_int : ∀ {qs : List Int}, (∀ q ∈ qs, 0 ≤ q) → qs.map entD = qs.map D.int
  | [], _ => rfl
  | q :: qs, h => by rw [List.map_cons, List.map_cons, ent_pos (h q List.mem_cons_self), ents_int fun x hx => h x (List.mem_cons_of_mem _ hx)]
theorem row_let {qs : List Int} {c : Nat} (hc : c = 71 ∨ c = 75) (h : ∀ q ∈ qs, 0 ≤ q) : rowD (qs ++ [-(c : Int)]) = .tup (qs.map D.int ++ [.str (S [c])]) := by
  unfold rowD
  rw [List.map_append, ents_int h, show [-(c : Int)].map entD = [entD (-(c : Int))] from rfl, ent_neg (by rcases hc with rfl | rfl <;> decide), show (- -(c : Int)).toNat = c by omega]
theorem lowI_1 {r : Bool} : decide (lowI r = 1) = r := by cases r <;> rfl
theorem ints_good {qs : List Int} (h : ∀ q ∈ qs, 0 ≤ q ∧ q ≤ 24) : goods (qs.map D.int) := goods_map fun a ha => by
  have := h a ha
  show -(2 ^ 200) ≤ a ∧ a ≤ 2 ^ 200
  rw [e200]
  omega
theorem goods_appG : ∀ {a b : List D}, goods a → goods b → goods (a ++ b)
  | [], _, _, h => h
  | _ :: _, _, g, h => ⟨g.1, goods_appG g.2 h⟩
theorem deps_appG : ∀ {a b : List D} {k : Nat}, deps a ≤ k → deps b ≤ k → deps (a ++ b) ≤ k
  | [], _, _, _, h => h
  | x :: a, b, k, g, h => by
    rw [deps] at g
    rw [List.cons_append, deps]
    exact Nat.max_le.mpr ⟨Nat.le_trans (Nat.le_max_left _ _) g, deps_appG (Nat.le_trans (Nat.le_max_right _ _) g) h⟩
theorem eq_self {qs : List Int} {t : List D} (h : ∀ q ∈ qs, 0 ≤ q ∧ q ≤ 24) (ht : goods t) (hd : deps t ≤ 1) : cEq (.tup (qs.map D.int ++ t)) (.tup (qs.map D.int ++ t)) = some true := by
  have g : good (.tup (qs.map D.int ++ t)) := goods_appG (ints_good h) ht
  have d : dep (.tup (qs.map D.int ++ t)) ≤ 50 := by
    rw [dep]
    have := deps_appG (a := qs.map D.int) (b := t) (k := 1) (Nat.le_trans (deps_map (k := 0) fun a _ => by simp [dep]) (by decide)) hd
    omega
  rw [cEq_good (a := .tup (qs.map D.int ++ t)) (b := .tup (qs.map D.int ++ t)) rfl rfl g g d d, eqD_refl (d := .tup (qs.map D.int ++ t)) g]
theorem right_ok {Z : Str → Addr} (hz : Hz Z) {n : Int} {r : Bool} {spot e : D} (hn : 1 + lowI r ≤ n ∧ n ≤ 24) (hs : plain spot = true) (rs : RB spot 9 1000000) (he : EV e) (re : RB e 9 13000000) : F_Lright Z (.int n) (.int (lowI r)) spot e = some (.bl true) := by
  have hlow := lowI_b (r := r)
  obtain ⟨Y, eY⟩ := rb_repr re (by decide) (by decide)
  have ro : RB (.str "output") 9 1000000 := (rb_str (by decide +kernel) (by decide +kernel)).mono (by decide) (by decide)
  have rr : RB (.str "row") 9 1000000 := (rb_str (by decide +kernel) (by decide +kernel)).mono (by decide) (by decide)
  obtain ⟨Y1, eY1⟩ := rb_repr (rb_tup (rbs_cons ro (rbs_cons rs rbs_nil))) (by decide) (by decide)
  obtain ⟨Y2, eY2⟩ := rb_repr (rb_tup (rbs_cons rr (rbs_cons re rbs_nil))) (by decide) (by decide)
  unfold F_Lright
  rw [eY, Option.bind_some, cEq_ii, lowI_1, Option.bind_some, ident_x, lawnum_ok hs]
  cases hb : btwD (lowI r) n spot with
  | false =>
    rw [nw_no hs hb, Option.bind_some, heard_out hz, Option.bind_some, Option.bind_some, dTru_b, Option.bind_some, if_pos (by decide), eY1, Option.bind_some, Option.bind_some, cEq_ss, decide_eq_true rfl, Option.bind_some, dTru_b, Option.bind_some, if_pos rfl, Option.bind_some, cEq_ss, decide_eq_true rfl, Option.bind_some, Option.bind_some]
  | true =>
    obtain ⟨b1, en, hb1⟩ := needrow_ok (Z := Z) (n := n) (r := r) he
    obtain ⟨b2, el, hb2⟩ := lawrow_ok (n := n) (r := r) he
    have hbb : b1 = b2 := by
      cases b1 <;> cases b2
      · rfl
      · exact absurd (hb1.mpr (hb2.mp rfl)) (by decide)
      · exact absurd (hb2.mpr (hb1.mp rfl)) (by decide)
      · rfl
    subst hbb
    cases b1 with
    | false =>
      rw [nw_row hs hb en, Option.bind_some, heard_row hz, Option.bind_some, Option.bind_some, dTru_b, Option.bind_some, if_neg (by decide), el, Option.bind_some, dTru_b, Option.bind_some, if_pos (by decide), eY2, Option.bind_some, Option.bind_some, cEq_ss, decide_eq_true rfl, Option.bind_some, dTru_b, Option.bind_some, if_pos rfl, Option.bind_some, cEq_ss, decide_eq_true rfl, Option.bind_some, Option.bind_some]
    | true =>
      obtain ⟨qs, g, rfl, hg1, hg2, hp⟩ := hb1.mp rfl
      obtain ⟨o, rfl, ho⟩ := btwD_int hb
      rw [if_pos rfl] at en
      have hq : ∀ q ∈ qs, 0 ≤ q ∧ q ≤ 24 := fun q hm => by have := hp.rg q hm; omega
      have isl : ∀ x : D, dIsi "list" (.lst [x]) = some true := fun x => chk_pos rfl
      cases g with
      | some c =>
        obtain ⟨rfl, hc, hzq⟩ := hg2 c rfl
        rw [lowI_f] at hn ho hp ⊢
        obtain ⟨cs, es, st, e1, h1, h2, h3, h4, h5⟩ := nw_let (Z := Z) (o := o) (by omega) hc hp hzq ho en
        rw [lowI_f] at el
        have et : tailG (some c) = [.str (S [c])] := rfl
        rw [et] at el ⊢
        have hx : dIx (.tup (qs.map D.int ++ [.str (S [c])])) (.int (-1)) = some (.str (S [c])) := by rw [dIx_ti]; exact atI_lastG
        have hes := h4.1
        have hix : dIx (endRows st n cs es) (.int (o - 0)) = some (.tup (qs.map D.int ++ [.str (S [c])])) := by
          unfold endRows
          rw [dIx_ti, Int.sub_zero]
          refine atI_of_get ho.1 ?_
          rw [List.getElem?_map, List.getElem?_eq_getElem (by omega), ← row_let hc fun q hm => (hq q hm).1, ← h5, List.getD_eq_getElem?_getD, List.getD_eq_getElem?_getD, List.getElem?_eq_getElem (l := es) (by omega)]
          simp only [Option.map_some, Option.getD_some, List.getD_eq_getElem?_getD]
        have hg : good (.str (S [c])) := tx_ok (l := [c]) (fun d hd => by rw [List.mem_singleton] at hd; rcases hc with rfl | rfl <;> omega)
        rw [e1, Option.bind_some, heard_net, Option.bind_some, Option.bind_some, dTru_b, Option.bind_some, if_neg (by decide), el, Option.bind_some, dTru_b, Option.bind_some, if_neg (by decide), isl, Option.bind_some, dTru_b, Option.bind_some, if_neg (by decide), hx, Option.bind_some, isi_strO, Option.bind_some, dTru_b, Option.bind_some, if_pos rfl, show dIx (.lst [fltD Z n cs es st]) (.int 0) = some (fltD Z n cs es st) from rfl, Option.bind_some, isC_flt, Option.bind_some, frows_ok h1 (by omega) h2 h3 h4, Option.bind_some, dSub_ii, Option.bind_some, hix, Option.bind_some, eq_self hq (t := [.str (S [c])]) ⟨hg, trivial⟩ (by simp [deps, dep]), Option.bind_some]
      | none =>
        have et : qs.map D.int ++ tailG none = qs.map D.int := List.append_nil _
        rw [et] at en el ⊢
        rcases List.eq_nil_or_concat qs with rfl | ⟨ps, q, eq⟩
        · exact absurd rfl (hg1 rfl)
        · rw [List.concat_eq_append] at eq
          subst eq
          obtain ⟨cs, es, e1, w, h5⟩ := nw_plain (Z := Z) (o := o) hn hp ho en
          have hes := w.ends.1
          have hx : dIx (.tup ((ps ++ [q]).map D.int)) (.int (-1)) = some (.int q) := by rw [List.map_append, dIx_ti]; exact atI_lastG
          have hix : dIx (.tup (es.map fun e => ordD (Z "Order") ((nords cs n).getD e.toNat []))) (.int (o - lowI r)) = some (ordD (Z "Order") (ps ++ [q])) := by
            rw [dIx_ti]
            refine atI_of_get (by omega) ?_
            rw [List.getElem?_map, List.getElem?_eq_getElem (by omega), ← h5, List.getD_eq_getElem?_getD, List.getD_eq_getElem?_getD, List.getElem?_eq_getElem (l := es) (by omega)]
            simp only [Option.map_some, Option.getD_some, List.getD_eq_getElem?_getD]
          have hse := eq_self hq (t := []) trivial (by simp [deps])
          rw [List.append_nil] at hse
          rw [e1, Option.bind_some, heard_net, Option.bind_some, Option.bind_some, dTru_b, Option.bind_some, if_neg (by decide), el, Option.bind_some, dTru_b, Option.bind_some, if_neg (by decide), isl, Option.bind_some, dTru_b, Option.bind_some, if_neg (by decide), hx, Option.bind_some, isi_strN rfl (fun z e => by cases e), Option.bind_some, dTru_b, Option.bind_some, if_neg (by decide), show dIx (.lst [netU Z r n cs es]) (.int 0) = some (netU Z r n cs es) from rfl, Option.bind_some, isU_U, Option.bind_some, ordersU hz w, Option.bind_some, dSub_ii, Option.bind_some, hix, Option.bind_some, isC_ord, Option.bind_some, pos_ok, Option.bind_some, hse, Option.bind_some]
structure It (d : D) : Prop where
  pl : plain d = true
  rb : RB d 6 300000
structure Its (l : List D) : Prop where
  all : ∀ d ∈ l, It d
  few : l.length ≤ 20
theorem e50 : (10 : Int) ^ (50 : Int).toNat = 100000000000000000000000000000000000000000000000000 := by decide +kernel
theorem p50 : CPow 10 50 := ⟨by decide, by decide, by decide⟩
theorem it_of {d : D} (h : plain d = true) (r : RB d 5 100000) : It d := ⟨h, r.mono (by decide) (by decide)⟩
theorem it_int {i : Int} (h : -100 ≤ i ∧ i ≤ 100) : It (.int i) := it_of rfl (rb_int (by rw [e200]; omega))
theorem ev_nt {d : D} (h : plain d = true) (hn : ∀ ds, d ≠ .tup ds) : EV d := ⟨h, fun ds e => absurd e (hn ds)⟩
theorem ev_tup {l : List D} (h : ∀ d ∈ l, plain d = true) (hl : l.length ≤ 100) : EV (.tup l) := ⟨rfl, fun ds e => by cases e; exact ⟨h, hl⟩⟩
theorem lodd_ok {s : Hs} {m n : Int} (hs : HOk s m) (hm : m ≤ 900000) (hn : 0 ≤ n ∧ n ≤ 50) : Gives (F_Lodd (penL s) (.int n)) fun q => ∃ x s', q = (x, penL s') ∧ It x ∧ EV x ∧ HOk s' (m + 1) := by
  unfold F_Lodd
  rw [dAdd_ii, Option.bind_some, dPow_ii, chk_pos p50, Option.bind_some, dLen_l, Option.bind_some]
  refine .bind ((draw_ok hs (by omega) ⟨by simp, by simp⟩).imp fun q hq => ?_)
  obtain ⟨k, s1, rfl, k0, k1, h1⟩ := hq
  have k1 : k < 18 := k1
  dsimp only
  rw [e50]
  have hg : ∀ z : Str, PyData.strOk z = true → z.length ≤ 1000 → It (.str z) := fun z h1 h2 => it_of rfl (rb_str h1 h2)
  have hk : k = 0 ∨ k = 1 ∨ k = 2 ∨ k = 3 ∨ k = 4 ∨ k = 5 ∨ k = 6 ∨ k = 7 ∨ k = 8 ∨ k = 9 ∨ k = 10 ∨ k = 11 ∨ k = 12 ∨ k = 13 ∨ k = 14 ∨ k = 15 ∨ k = 16 ∨ k = 17 := by omega
  rcases hk with rfl | rfl | rfl | rfl | rfl | rfl | rfl | rfl | rfl | rfl | rfl | rfl | rfl | rfl | rfl | rfl | rfl | rfl
  · exact .mk ⟨_, s1, rfl, it_of rfl rb_non, ev_nt rfl (fun ds e => by cases e), h1⟩
  · exact .mk ⟨_, s1, rfl, it_of rfl rb_bl, ev_nt rfl (fun ds e => by cases e), h1⟩
  · exact .mk ⟨_, s1, rfl, it_of rfl rb_bl, ev_nt rfl (fun ds e => by cases e), h1⟩
  · exact .mk ⟨_, s1, rfl, it_int (by omega), ev_nt rfl (fun ds e => by cases e), h1⟩
  · exact .mk ⟨_, s1, rfl, it_int (by omega), ev_nt rfl (fun ds e => by cases e), h1⟩
  · exact .mk ⟨_, s1, rfl, it_int (by omega), ev_nt rfl (fun ds e => by cases e), h1⟩
  · exact .mk ⟨_, s1, rfl, it_int (by omega), ev_nt rfl (fun ds e => by cases e), h1⟩
  · exact .mk ⟨_, s1, rfl, hg _ (by decide +kernel) (by decide +kernel), ev_nt rfl (fun ds e => by cases e), h1⟩
  · exact .mk ⟨_, s1, rfl, hg _ (by decide +kernel) (by decide +kernel), ev_nt rfl (fun ds e => by cases e), h1⟩
  · exact .mk ⟨_, s1, rfl, hg _ (by decide +kernel) (by decide +kernel), ev_nt rfl (fun ds e => by cases e), h1⟩
  · exact .mk ⟨_, s1, rfl, hg _ (by decide +kernel) (by decide +kernel), ev_nt rfl (fun ds e => by cases e), h1⟩
  · exact .mk ⟨_, s1, rfl, hg _ (by decide +kernel) (by decide +kernel), ev_nt rfl (fun ds e => by cases e), h1⟩
  · exact .mk ⟨_, s1, rfl, ⟨rfl, (rb_lst (k := 5) rbs_nil).mono (by decide) (by decide)⟩, ev_nt rfl (fun ds e => by cases e), h1⟩
  · exact .mk ⟨_, s1, rfl, it_of rfl (rb_tup1 (show -(2 ^ 200) ≤ (0 : Int) ∧ (0 : Int) ≤ 2 ^ 200 by decide +kernel) (by simp [wt]) (by simp [dep])), ev_tup (fun d hd => by rw [List.mem_singleton] at hd; subst hd; rfl) (by simp), h1⟩
  · exact .mk ⟨_, s1, rfl, it_of rfl (rb_dct0 (by decide) (by decide)), ev_nt rfl (fun ds e => by cases e), h1⟩
  · exact .mk ⟨_, s1, rfl, it_of rfl (rb_int (by rw [e200]; omega)), ev_nt rfl (fun ds e => by cases e), h1⟩
  · refine .mk ⟨_, s1, rfl, it_of rfl (rb_tup1 (show PyData.strOk _ = true by decide +kernel) ?_ (by simp [dep])), ev_tup (fun d hd => by rw [List.mem_singleton] at hd; subst hd; rfl) (by simp), h1⟩
    rw [lit_G, wt, S_len]
    decide
  · exact .mk ⟨_, s1, rfl, hg _ (by decide +kernel) (by decide +kernel), ev_nt rfl (fun ds e => by cases e), h1⟩
theorem cut_lenD {l : List D} {u v : Option Int} : (cutD l u v).length ≤ l.length := by
  unfold cutD
  rw [List.length_take, List.length_drop]
  omega
theorem its_rb {l : List D} (h : ∀ d ∈ l, It d) (hl : l.length ≤ 40) : RBs l 6 12100000 := by
  have := rbs_all (ds := l) (k := 6) (w := 300000) fun d hd => (h d hd).rb
  refine ⟨this.sh, this.ok, this.dp, Nat.le_trans this.sz ?_⟩
  omega
theorem its_tup {l : List D} (h : ∀ d ∈ l, It d) (hl : l.length ≤ 40) : EV (.tup l) ∧ RB (.tup l) 9 13000000 :=
  ⟨ev_tup (fun d hd => (h d hd).pl) (by omega), (rb_tup (its_rb h hl)).mono (by decide) (by decide)⟩
theorem cut_head {l : List D} {j : Nat} (h : l ≠ []) : cutD l none (some ((j : Int) + 1)) ≠ [] := by
  cases l with
  | nil => exact absurd rfl h
  | cons a l =>
    unfold cutD HT.sIx
    simp
    split <;> simp <;> omega
theorem entries_ok {s : Hs} {m n : Int} {r : Bool} (hs : HOk s m) (hm : m ≤ 800000) (hn : 1 + lowI r ≤ n ∧ n ≤ 24) : Gives (F_Lentries (penL s) (.int n) (.int (lowI r))) fun q => ∃ e s', q = (e, penL s') ∧ EV e ∧ RB e 9 13000000 ∧ HOk s' (m + 20) := by
  have hlow := lowI_b (r := r)
  unfold F_Lentries
  rw [dAdd_ii, Option.bind_some, dRange_2, chk_pos (by omega), Option.bind_some, dLen_l, Option.bind_some, rngD_len]
  obtain ⟨w, ew, w0, w1, w2⟩ := min2_ok (a := 6) (b := (((n + 1 - lowI r).toNat : Nat) : Int)) (by decide) (by omega)
  rw [ew, Option.bind_some]
  refine .bind (.bind ((draw_ok hs (by omega) (by omega)).imp fun q hq => ?_))
  obtain ⟨d, s1, rfl, d0, d1, h1⟩ := hq
  dsimp only
  rw [dAdd_ii, Option.bind_some]
  refine .mk ?_
  dsimp only
  rw [dRange_1, chk_pos (by omega), Option.bind_some, rngD_len, chk_pos (by omega), Option.bind_some]
  have eT : rngD (lowI r) (n + 1 - lowI r).toNat = ((List.range (n + 1 - lowI r).toNat).map fun (i : Nat) => lowI r + (i : Int)).map D.int := by
    unfold rngD
    rw [List.map_map]
    rfl
  rw [eT]
  refine .bind ((popsI (k := (1 + d).toNat) (fun x hx => ?_) (by rw [List.length_map, List.length_range]; omega) (by rw [List.length_map, List.length_range]; omega) h1 (by omega)).imp fun q hq => ?_)
  · obtain ⟨i, hi, rfl⟩ := List.mem_map.mp hx
    have := List.mem_range.mp hi
    omega
  obtain ⟨U, s2, e1, e2, hUl, hU, h2⟩ := hq
  obtain ⟨q1, q2, q3⟩ := q
  dsimp only at e1 e2 ⊢
  subst e1 e2
  have hIU : ∀ d ∈ U.map D.int, It d ∧ ∀ ds, d ≠ .tup ds := fun d hd => by
    obtain ⟨i, hi, rfl⟩ := List.mem_map.mp hd
    have := hU i hi
    exact ⟨it_int (by omega), fun ds e => by cases e⟩
  have hne : U.map D.int ≠ [] := fun z => by
    have := congrArg List.length z
    rw [List.length_map, hUl] at this
    simp at this
    omega
  -- cut behind 0, or not
  refine .bind (Gives.imp (Q := fun q => ∃ l s', q = (D.lst l, penL s') ∧ (∀ d ∈ l, It d ∧ ∀ ds, d ≠ .tup ds) ∧ l.length ≤ 6 ∧ l ≠ [] ∧ HOk s' (m + 8)) ?_ fun q hq => ?_)
  · rw [cIn_lintsG, Option.bind_some]
    refine .bind (Gives.imp (Q := fun q => ∃ b s', q = (b, penL s') ∧ (b = true → (0 : Int) ∈ U) ∧ HOk s' (m + 8)) ?_ fun q hq => ?_)
    · by_cases hz : (0 : Int) ∈ U
      · rw [if_pos (decide_eq_true hz)]
        refine .bind ((draw_ok h2 (by omega) (by decide)).imp fun q hq => ?_)
        obtain ⟨a, s3, rfl, a0, a1, h3⟩ := hq
        dsimp only
        rw [cGt_ii, Option.bind_some]
        exact .mk ⟨_, s3, rfl, fun _ => hz, h3.mono (by omega)⟩
      · rw [if_neg (by simpa using hz)]
        exact .mk ⟨_, s2, rfl, fun z => (nomatch z), h2.mono (by omega)⟩
    · obtain ⟨b, s3, rfl, hb, h3⟩ := hq
      dsimp only
      cases b with
      | true =>
        obtain ⟨j, ej⟩ := findI_some (hb rfl)
        rw [if_pos rfl, lstD_l, Option.bind_some, ej, Option.bind_some, dAdd_ii, Option.bind_some, dEnd_i, Option.bind_some, dCut_l, Option.bind_some]
        have hc := cut_lenD (l := U.map D.int) (u := none) (v := some ((j : Int) + 1))
        rw [List.length_map, hUl] at hc
        refine .mk ⟨_, s3, rfl, fun d hd => ?_, by omega, cut_head hne, h3⟩
        unfold cutD at hd
        exact hIU d (List.mem_of_mem_drop (List.mem_of_mem_take hd))
      | false =>
        rw [if_neg (by decide)]
        exact .mk ⟨_, s3, rfl, hIU, by rw [List.length_map, hUl]; omega, hne, h3⟩
  obtain ⟨l, s3, rfl, hI, hll, hln, h3⟩ := hq
  dsimp only
  -- a letter behind, or not
  refine .bind (Gives.imp (Q := fun q => ∃ l s', q = (D.lst l, penL s') ∧ (∀ d ∈ l, It d ∧ ∀ ds, d ≠ .tup ds) ∧ l.length ≤ 7 ∧ l ≠ [] ∧ HOk s' (m + 10)) ?_ fun q hq => ?_)
  · refine .bind ((draw_ok h3 (by omega) (by decide)).imp fun q hq => ?_)
    obtain ⟨a, s4, rfl, a0, a1, h4⟩ := hq
    dsimp only
    rw [cEq_ii, Option.bind_some]
    split
    · refine .bind ((draw_ok h4 (by omega) (by decide)).imp fun q hq => ?_)
      obtain ⟨b, s5, rfl, b0, b1, h5⟩ := hq
      dsimp only
      have hgk : ∃ c, dIx (.str "GK") (.int b) = some (.str (S [c])) ∧ isS c := by
        rw [show ("GK" : Str) = S [71, 75] by decide]
        have : b = 0 ∨ b = 1 := by omega
        rcases this with rfl | rfl
        · exact ⟨71, dIx_S (by decide) (by decide), .inl rfl⟩
        · exact ⟨75, dIx_S (by decide) (by decide), .inr (.inl rfl)⟩
      obtain ⟨c, ec, hc⟩ := hgk
      rw [ec, Option.bind_some, dAdd_ll, chk_pos (by simp; omega), Option.bind_some]
      refine .mk ⟨_, s5, rfl, fun d hd => ?_, by rw [List.length_append, List.length_singleton]; omega, by simp, h5.mono (by omega)⟩
      rcases List.mem_append.mp hd with hd | hd
      · exact hI d hd
      · rw [List.mem_singleton] at hd
        subst hd
        exact ⟨it_of rfl (rb_tx (tx_isS fun d hd => by rw [List.mem_singleton] at hd; subst hd; exact hc) (by simp)), fun ds e => by cases e⟩
    · exact .mk ⟨_, s4, rfl, hI, by omega, hln, h4.mono (by omega)⟩
  obtain ⟨l, s4, rfl, hI, hll, hln, h4⟩ := hq
  dsimp only
  refine .bind ((draw_ok h4 (by omega) (by decide)).imp fun q hq => ?_)
  obtain ⟨way, s5, rfl, _, _, h5⟩ := hq
  dsimp only
  rw [dLen_l, Option.bind_some, dAdd_ii, Option.bind_some]
  refine .bind ((draw_ok h5 (by omega) (by omega)).imp fun q hq => ?_)
  obtain ⟨a, s6, rfl, a0, a1, h6⟩ := hq
  dsimp only
  refine .bind ((lodd_ok h6 (by omega) (by omega)).imp fun q hq => ?_)
  obtain ⟨x, s7, rfl, hx, hxe, h7⟩ := hq
  dsimp only
  have sub : ∀ {u v : Option Int}, ∀ d ∈ cutD l u v, It d := fun {u v} d hd => by
    unfold cutD at hd
    exact (hI d (List.mem_of_mem_drop (List.mem_of_mem_take hd))).1
  have cl : ∀ {u v : Option Int}, (cutD l u v).length ≤ 7 := fun {u v} => Nat.le_trans cut_lenD hll
  have three : ∀ {p q r : List D}, (∀ d ∈ p, It d) → (∀ d ∈ q, It d) → (∀ d ∈ r, It d) → p.length ≤ 7 → q.length ≤ 7 → r.length ≤ 7 → EV (.tup (p ++ q ++ r)) ∧ RB (.tup (p ++ q ++ r)) 9 13000000 := fun {p q r} hp hq hr lp lq lr => its_tup (fun d hd => by
    rcases List.mem_append.mp hd with hd | hd
    · rcases List.mem_append.mp hd with hd | hd
      · exact hp d hd
      · exact hq d hd
    · exact hr d hd) (by rw [List.length_append, List.length_append]; omega)
  have one : ∀ d ∈ [x], It d := fun d hd => by rw [List.mem_singleton] at hd; subst hd; exact hx
  have c1 := cl (u := none) (v := some a)
  have c2 := cl (u := some a) (v := none)
  have c3 := cl (u := some (a + 1)) (v := none)
  have c4 := cl (u := none) (v := some 1)
  rw [cEq_ii, Option.bind_some]
  split
  · rw [dEnd_i, Option.bind_some, dCut_l, Option.bind_some, dAdd_ll, chk_pos (by simp; omega), Option.bind_some, Option.bind_some, dCut_l, Option.bind_some, dAdd_ll, chk_pos (by simp; omega), Option.bind_some, lList_l, Option.bind_some]
    obtain ⟨v1, v2⟩ := three (sub (u := none) (v := some a)) one (sub (u := some a) (v := none)) c1 (by simp) c2
    exact .mk ⟨_, s7, rfl, v1, v2, h7.mono (by omega)⟩
  · rw [cEq_ii, Option.bind_some]
    split
    · rw [dEnd_i, Option.bind_some, dCut_l, Option.bind_some, dAdd_ll, chk_pos (by simp; omega), Option.bind_some, dAdd_ii, Option.bind_some, dEnd_i, Option.bind_some, dCut_l, Option.bind_some, dAdd_ll, chk_pos (by simp; omega), Option.bind_some, lList_l, Option.bind_some]
      obtain ⟨v1, v2⟩ := three (sub (u := none) (v := some a)) one (sub (u := some (a + 1)) (v := none)) c1 (by simp) c3
      exact .mk ⟨_, s7, rfl, v1, v2, h7.mono (by omega)⟩
    · rw [cEq_ii, Option.bind_some]
      split
      · rw [dEnd_i, Option.bind_some, dCut_l, Option.bind_some, dEnd_i, Option.bind_some, dCut_l, Option.bind_some, dAdd_ll, chk_pos (by omega), Option.bind_some, Option.bind_some, dCut_l, Option.bind_some, dAdd_ll, chk_pos (by rw [List.length_append]; omega), Option.bind_some, lList_l, Option.bind_some]
        obtain ⟨v1, v2⟩ := three (sub (u := none) (v := some a)) (sub (u := none) (v := some 1)) (sub (u := some a) (v := none)) c1 c4 c2
        exact .mk ⟨_, s7, rfl, v1, v2, h7.mono (by omega)⟩
      · rw [cEq_ii, Option.bind_some]
        obtain ⟨f, fs, rfl⟩ : ∃ f fs, l = f :: fs := by
          cases l with
          | nil => exact absurd rfl hln
          | cons f fs => exact ⟨f, fs, rfl⟩
        have hI1 : ∀ d ∈ f :: fs, It d := fun d hd => (hI d hd).1
        obtain ⟨v1, v2⟩ := its_tup hI1 (by omega)
        split
        · rw [lList_l, Option.bind_some, show dIx (.lst (f :: fs)) (.int 0) = some f from by rw [dIx_li]; exact atI_of_get (by decide) rfl, Option.bind_some, Option.bind_some]
          refine .bind ((draw_ok h7 (by omega) (by decide)).imp fun q hq => ?_)
          obtain ⟨b, s8, rfl, b0, b1, h8⟩ := hq
          dsimp only
          have hb : b = 0 ∨ b = 1 ∨ b = 2 ∨ b = 3 ∨ b = 4 := by omega
          have hf := hI f List.mem_cons_self
          have hsz := its_rb hI1 (by omega)
          rcases hb with rfl | rfl | rfl | rfl | rfl
          · exact .mk ⟨_, s8, rfl, ev_nt rfl (fun ds e => by cases e), (rb_lst hsz).mono (by decide) (by decide), h8.mono (by omega)⟩
          · exact .mk ⟨_, s8, rfl, ev_tup (fun d hd => nomatch hd) (by simp), (rb_tup (k := 5) rbs_nil).mono (by decide) (by decide), h8.mono (by omega)⟩
          · exact .mk ⟨_, s8, rfl, hxe, hx.rb.mono (by decide) (by decide), h8.mono (by omega)⟩
          · exact .mk ⟨_, s8, rfl, ⟨hf.1.pl, fun ds e => absurd e (hf.2 ds)⟩, hf.1.rb.mono (by decide) (by decide), h8.mono (by omega)⟩
          · exact .mk ⟨_, s8, rfl, ev_tup (fun d hd => by rw [List.mem_singleton] at hd; subst hd; rfl) (by simp), (rb_tup (rbs_cons (rb_tup hsz) rbs_nil)).mono (by decide) (by decide), h8.mono (by omega)⟩
        · rw [lList_l, Option.bind_some]
          exact .mk ⟨_, s7, rfl, v1, v2, h7.mono (by omega)⟩
theorem law_true (Z : Str → Addr) (hz : Hz Z) (ns : List Int) : F_law Z (.scr ns) = some (.bl true) := by
  suffices h : Gives (F_law Z (.scr ns)) fun v => v = .bl true by
    obtain ⟨v, e, rfl⟩ := h
    exact e
  unfold F_law
  rw [pen_ok, Option.bind_some, dRange_1, chk_pos (by decide), Option.bind_some]
  refine .bind ((gives_loop (fun i s => i ≤ 12 → ∃ s', s = penL s' ∧ HOk s' (100 * (i : Int))) (fun _ => ⟨_, rfl, pen_hok ns⟩) fun i x s hx hI => ?_).imp fun c hc => ?_)
  · have hi : i < 12 := by
      have := (List.getElem?_eq_some_iff.mp hx).1
      rwa [rngD_len] at this
    obtain ⟨s1, rfl, h1⟩ := hI (by omega)
    refine .bind ((draw_ok h1 (by omega) (by decide)).imp fun q hq => ?_)
    obtain ⟨k1, s2, rfl, a1, b1, h2⟩ := hq
    dsimp only
    obtain ⟨r, hr⟩ : ∃ r : Bool, r = decide (k1 = 0) := ⟨_, rfl⟩
    have hb := lowI_b (r := r)
    rw [cEq_ii, Option.bind_some, ← hr, dInt_b, Option.bind_some, show (if r = true then (1 : Int) else 0) = lowI r from rfl, dAdd_ii, Option.bind_some]
    refine .bind ((bits_ok h2 (by omega) (by omega)).imp fun q hq => ?_)
    obtain ⟨n, s3, rfl, n0, n1, h3⟩ := hq
    dsimp only
    rw [dAdd_ii, Option.bind_some, dSub_ii, Option.bind_some]
    refine .bind ((draw_ok h3 (by omega) (by omega)).imp fun q hq => ?_)
    obtain ⟨k2, s4, rfl, a2, b2, h4⟩ := hq
    dsimp only
    rw [dAdd_ii, Option.bind_some]
    refine .bind (Gives.imp (Q := fun q => ∃ x s', q = (x, penL s') ∧ plain x = true ∧ RB x 9 1000000 ∧ HOk s' (100 * (i : Int) + 7)) ?_ fun q hq => ?_)
    · refine .bind ((draw_ok h4 (by omega) (by decide)).imp fun q hq => ?_)
      obtain ⟨k3, s5, rfl, a3, b3, h5⟩ := hq
      dsimp only
      rw [cEq_ii, Option.bind_some]
      split
      · refine .bind ((lodd_ok h5 (by omega) (by omega)).imp fun q hq => ?_)
        obtain ⟨x, s6, rfl, hx, _, h6⟩ := hq
        exact .mk ⟨x, s6, rfl, hx.pl, hx.rb.mono (by decide) (by decide), h6.mono (by omega)⟩
      · exact .mk ⟨_, s5, rfl, rfl, (rb_int (by rw [e200]; omega)).mono (by decide) (by decide), h5.mono (by omega)⟩
    obtain ⟨x, s5, rfl, hx, rx, h5⟩ := hq
    dsimp only
    refine .bind ((entries_ok (r := r) h5 (by omega) ⟨n0, n1⟩).imp fun q hq => ?_)
    obtain ⟨e, s6, rfl, he, re, h6⟩ := hq
    dsimp only
    rw [right_ok hz ⟨n0, n1⟩ hx rx he re, Option.bind_some, dTru_b, Option.bind_some, if_neg (by decide)]
    exact .mk ⟨_, rfl, fun _ => ⟨s6, rfl, h6.mono (by omega)⟩⟩
  · obtain ⟨_, rfl, _⟩ := hc
    rw [ctl_g]
    have ri : ∀ i : Int, -100 ≤ i ∧ i ≤ 100 → RB (.int i) 9 1000000 := fun i h => (rb_int (by rw [e200]; omega)).mono (by decide) (by decide)
    have hg : It (.str "G") := it_of rfl (rb_str (by decide +kernel) (by decide +kernel))
    have two : ∀ a b : D, It a → It b → ∀ d ∈ [a, b], It d := fun a b ha hb d hd => by
      simp only [List.mem_cons, List.not_mem_nil, or_false] at hd
      rcases hd with rfl | rfl
      · exact ha
      · exact hb
    obtain ⟨v1, w1⟩ := its_tup (l := [.int 0, .str "G"]) (two _ _ (it_int (by omega)) hg) (by simp)
    obtain ⟨v2, w2⟩ := its_tup (l := [.int 1, .str "G"]) (two _ _ (it_int (by omega)) hg) (by simp)
    obtain ⟨v3, w3⟩ := its_tup (l := [.bl true]) (fun d hd => by rw [List.mem_singleton] at hd; subst hd; exact it_of rfl rb_bl) (by simp)
    have q1 := right_ok hz (n := 2) (r := false) (spot := .int 0) (e := .tup [.int 0, .str "G"]) (by decide) rfl (ri 0 (by omega)) v1 w1
    have q2 := right_ok hz (n := 2) (r := true) (spot := .int 1) (e := .tup [.int 1, .str "G"]) (by decide) rfl (ri 1 (by omega)) v2 w2
    have q3 := right_ok hz (n := 2) (r := false) (spot := .int 3) (e := .tup [.bl true]) (by decide) rfl (ri 3 (by omega)) v3 w3
    rw [lowI_f] at q1 q3
    rw [lowI_t] at q2
    rw [q1, Option.bind_some, dTru_b, Option.bind_some, if_pos rfl, q2, Option.bind_some, dTru_b, Option.bind_some, if_pos rfl, q3, Option.bind_some, Option.bind_some]
    exact .mk rfl
end My
namespace My
open PySem PySem.Spec L2 DX SX PyProof.Rows StX LamX
theorem sc_Lpen : FnScope ["_law_script"] ["_law_script"] (defScope s_Lpen) := ⟨rfl, rfl, rfl, by decide +kernel, rfl, by decide +kernel, by decide +kernel⟩
theorem sc_Ldraw : FnScope ["_law_pen_here", "_law_many", "_law_digit", "_law_at", "_law_cell", "_law_large", "_law_mixed"] ["_law_pen_here", "_law_many"] (defScope s_Ldraw) := ⟨rfl, rfl, rfl, by decide +kernel, rfl, by decide +kernel, by decide +kernel⟩
theorem sc_Lbits : FnScope ["_law_pen_here", "_law_least", "_law_most", "_law_some"] ["_law_pen_here", "_law_least", "_law_most"] (defScope s_Lbits) := ⟨rfl, rfl, rfl, by decide +kernel, rfl, by decide +kernel, by decide +kernel⟩
theorem sc_Lodd : FnScope ["_law_pen_here", "_law_bits_here", "_law_some"] ["_law_pen_here", "_law_bits_here"] (defScope s_Lodd) := ⟨rfl, rfl, rfl, by decide +kernel, rfl, by decide +kernel, by decide +kernel⟩
theorem sc_Lheard : FnScope ["_law_call", "_law_caught", "e"] ["_law_call"] (defScope s_Lheard) := ⟨rfl, rfl, rfl, by decide +kernel, rfl, by decide +kernel, by decide +kernel⟩
theorem sc_is_between : FnScope ["value", "least", "most"] ["value", "least", "most"] (defScope s_is_between) := ⟨rfl, rfl, rfl, by decide +kernel, rfl, by decide +kernel, by decide +kernel⟩
theorem sc_ends_with_letter : FnScope ["row"] ["row"] (defScope s_ends_with_letter) := ⟨rfl, rfl, rfl, by decide +kernel, rfl, by decide +kernel, by decide +kernel⟩
theorem sc_are_row_positions : FnScope ["n", "values", "ring", "value"] ["n", "values", "ring"] (defScope s_are_row_positions) := ⟨rfl, rfl, rfl, by decide +kernel, rfl, by decide +kernel, by decide +kernel⟩
theorem sc_need_row : FnScope ["n", "row", "ring", "positions"] ["n", "row", "ring"] (defScope s_need_row) := ⟨rfl, rfl, rfl, by decide +kernel, rfl, by decide +kernel, by decide +kernel⟩
theorem sc_ring_serial_wiring : FnScope ["n", "cells", "whole", "position", "ends", "last"] ["n"] (defScope s_ring_serial_wiring) := ⟨rfl, rfl, rfl, by decide +kernel, rfl, by decide +kernel, by decide +kernel⟩
theorem sc_serial_wiring : FnScope ["n", "ends", "cells", "position"] ["n"] (defScope s_serial_wiring) := ⟨rfl, rfl, rfl, by decide +kernel, rfl, by decide +kernel, by decide +kernel⟩
theorem sc_chained : FnScope ["n", "cells", "positions", "last", "position"] ["n", "cells", "positions", "last"] (defScope s_chained) := ⟨rfl, rfl, rfl, by decide +kernel, rfl, by decide +kernel, by decide +kernel⟩
theorem sc_is_sequence : FnScope ["value"] ["value"] (defScope s_is_sequence) := ⟨rfl, rfl, rfl, by decide +kernel, rfl, by decide +kernel, by decide +kernel⟩
theorem sc_is_row : FnScope ["value", "length"] ["value", "length"] (defScope s_is_row) := ⟨rfl, rfl, rfl, by decide +kernel, rfl, by decide +kernel, by decide +kernel⟩
theorem sc_is_cell : FnScope ["value", "lowest", "top"] ["value", "lowest", "top"] (defScope s_is_cell) := ⟨rfl, rfl, rfl, by decide +kernel, rfl, by decide +kernel, by decide +kernel⟩
theorem sc_checked_cells : FnScope ["n", "cells", "lowest", "index", "cell"] ["n", "cells", "lowest"] (defScope s_checked_cells) := ⟨rfl, rfl, rfl, by decide +kernel, rfl, by decide +kernel, by decide +kernel⟩
theorem sc_checked_outputs : FnScope ["n", "many", "outputs", "lowest", "index", "node"] ["n", "many", "outputs", "lowest"] (defScope s_checked_outputs) := ⟨rfl, rfl, rfl, by decide +kernel, rfl, by decide +kernel, by decide +kernel⟩
theorem sc_Ring___init__ : FnScope ["self", "n", "cells", "outputs"] ["self", "n", "cells", "outputs"] (defScope s_Ring___init__) := ⟨rfl, rfl, rfl, by decide +kernel, rfl, by decide +kernel, by decide +kernel⟩
theorem sc_Network___init__ : FnScope ["self", "n", "cells", "outputs"] ["self", "n", "cells", "outputs"] (defScope s_Network___init__) := ⟨rfl, rfl, rfl, by decide +kernel, rfl, by decide +kernel, by decide +kernel⟩
theorem sc_Faulty_base___init__ : FnScope ["self", "n", "cells", "outputs"] ["self", "n", "cells", "outputs"] (defScope s_Faulty_base___init__) := ⟨rfl, rfl, rfl, by decide +kernel, rfl, by decide +kernel, by decide +kernel⟩
theorem sc_is_state : FnScope ["value"] ["value"] (defScope s_is_state) := ⟨rfl, rfl, rfl, by decide +kernel, rfl, by decide +kernel, by decide +kernel⟩
theorem sc_checked_stuck : FnScope ["stuck", "many", "least", "index", "entry"] ["stuck", "many"] (defScope s_checked_stuck) := ⟨rfl, rfl, rfl, by decide +kernel, rfl, by decide +kernel, by decide +kernel⟩
theorem sc_Faulty___init__ : NdefX.NScope ["self", "n", "cells", "outputs", "stuck", "__class__"] ["self", "n", "cells", "outputs", "stuck"] ["__class__"] (defScope s_Faulty___init__) := NdefX.nscope_by (by decide +kernel)
theorem sc_network_with : FnScope ["n", "output", "row", "ring", "cells", "ends", "stuck"] ["n", "output", "row", "ring"] (defScope s_network_with) := ⟨rfl, rfl, rfl, by decide +kernel, rfl, by decide +kernel, by decide +kernel⟩
theorem sc_Lis_number : FnScope ["_law_thing", "_law_least", "_law_most"] ["_law_thing", "_law_least", "_law_most"] (defScope s_Lis_number) := ⟨rfl, rfl, rfl, by decide +kernel, rfl, by decide +kernel, by decide +kernel⟩
theorem sc_Lis_right_row : FnScope ["_law_bits_here", "_law_lowest", "_law_thing", "_law_has_letter", "_law_spots", "_law_spot"] ["_law_bits_here", "_law_lowest", "_law_thing"] (defScope s_Lis_right_row) := ⟨rfl, rfl, rfl, by decide +kernel, rfl, by decide +kernel, by decide +kernel⟩
theorem sc_joined_rows : FnScope ["upper", "lower", "found", "entry"] ["upper", "lower"] (defScope s_joined_rows) := ⟨rfl, rfl, rfl, by decide +kernel, rfl, by decide +kernel, by decide +kernel⟩
theorem sc_node_rows : FnScope ["n", "cells", "stuck", "found", "index", "upper", "lower", "position"] ["n", "cells", "stuck"] (defScope s_node_rows) := ⟨rfl, rfl, rfl, by decide +kernel, rfl, by decide +kernel, by decide +kernel⟩
theorem sc_Faulty_held_states : FnScope ["self"] ["self"] (defScope s_Faulty_held_states) := ⟨rfl, rfl, rfl, by decide +kernel, rfl, by decide +kernel, by decide +kernel⟩
theorem sc_Faulty_rows : FnScope ["self", "known", "node"] ["self"] (defScope s_Faulty_rows) := ⟨rfl, rfl, rfl, by decide +kernel, rfl, by decide +kernel, by decide +kernel⟩
theorem sc_Order_positions : FnScope ["self"] ["self"] (defScope s_Order_positions) := ⟨rfl, rfl, rfl, by decide +kernel, rfl, by decide +kernel, by decide +kernel⟩
theorem sc_first_ones : FnScope ["positions", "found", "position"] ["positions"] (defScope s_first_ones) := ⟨rfl, rfl, rfl, by decide +kernel, rfl, by decide +kernel, by decide +kernel⟩
theorem sc_Order___init__ : FnScope ["self", "positions", "index", "position"] ["self", "positions"] (defScope s_Order___init__) := ⟨rfl, rfl, rfl, by decide +kernel, rfl, by decide +kernel, by decide +kernel⟩
theorem sc_Order___add__ : FnScope ["self", "other"] ["self", "other"] (defScope s_Order___add__) := ⟨rfl, rfl, rfl, by decide +kernel, rfl, by decide +kernel, by decide +kernel⟩
theorem sc_node_orders : FnScope ["n", "cells", "found", "upper", "lower", "position"] ["n", "cells"] (defScope s_node_orders) := ⟨rfl, rfl, rfl, by decide +kernel, rfl, by decide +kernel, by decide +kernel⟩
theorem sc_Network_orders : FnScope ["self", "known", "node"] ["self"] (defScope s_Network_orders) := ⟨rfl, rfl, rfl, by decide +kernel, rfl, by decide +kernel, by decide +kernel⟩
theorem sc_Ring_orders : FnScope ["self", "known", "node"] ["self"] (defScope s_Ring_orders) := ⟨rfl, rfl, rfl, by decide +kernel, rfl, by decide +kernel, by decide +kernel⟩
theorem sc_Lright : FnScope ["_law_bits_here", "_law_lowest", "_law_spot", "_law_entries_here", "_law_kept", "_law_told"] ["_law_bits_here", "_law_lowest", "_law_spot", "_law_entries_here"] (defScope s_Lright) := ⟨rfl, rfl, rfl, by decide +kernel, rfl, by decide +kernel, by decide +kernel⟩
theorem sc_Lentries : FnScope ["_law_pen_here", "_law_bits_here", "_law_lowest", "_law_left", "_law_found", "_law_way", "_law_at", "_law_odd_here", "_law_k"] ["_law_pen_here", "_law_bits_here", "_law_lowest"] (defScope s_Lentries) := ⟨rfl, rfl, rfl, by decide +kernel, rfl, by decide +kernel, by decide +kernel⟩
theorem sc_law : FnScope ["_law_script", "_law_pen_here", "_law_turn", "_law_lowest", "_law_bits_here", "_law_spot"] ["_law_script"] (defScope s_law) := ⟨rfl, rfl, rfl, by decide +kernel, rfl, by decide +kernel, by decide +kernel⟩
theorem sc_InvalidRow___init__ : FnScope ["self", "value"] ["self", "value"] (defScope s_InvalidRow___init__) := ⟨rfl, rfl, rfl, by decide +kernel, rfl, by decide +kernel, by decide +kernel⟩
theorem sc_InvalidCells___init__ : FnScope ["self", "index"] ["self", "index"] (defScope s_InvalidCells___init__) := ⟨rfl, rfl, rfl, by decide +kernel, rfl, by decide +kernel, by decide +kernel⟩
theorem sc_InvalidOutputs___init__ : FnScope ["self", "index"] ["self", "index"] (defScope s_InvalidOutputs___init__) := ⟨rfl, rfl, rfl, by decide +kernel, rfl, by decide +kernel, by decide +kernel⟩
theorem sc_InvalidSize___init__ : FnScope ["self", "value"] ["self", "value"] (defScope s_InvalidSize___init__) := ⟨rfl, rfl, rfl, by decide +kernel, rfl, by decide +kernel, by decide +kernel⟩
theorem sc_InvalidStuck___init__ : FnScope ["self", "index"] ["self", "index"] (defScope s_InvalidStuck___init__) := ⟨rfl, rfl, rfl, by decide +kernel, rfl, by decide +kernel, by decide +kernel⟩
theorem sc_NoOutput___init__ : FnScope ["self", "output"] ["self", "output"] (defScope s_NoOutput___init__) := ⟨rfl, rfl, rfl, by decide +kernel, rfl, by decide +kernel, by decide +kernel⟩
theorem sc_InvalidPosition___init__ : FnScope ["self", "index"] ["self", "index"] (defScope s_InvalidPosition___init__) := ⟨rfl, rfl, rfl, by decide +kernel, rfl, by decide +kernel, by decide +kernel⟩
structure Txt0 (K : PySem.W.Frag) (mg : Str → Option Value) : Prop where
  d_Lpen : ∃ fd, FunD K "_law_pen" "_law_pen" (defArgs s_Lpen) (defBody s_Lpen) (defScope s_Lpen) [] [] (He.fAd K ("_law_pen", none)) fd
  m_Lpen : mg "_law_pen" = some (.ref (He.fAd K ("_law_pen", none)))
  d_Ldraw : ∃ fd, FunD K "_law_draw" "_law_draw" (defArgs s_Ldraw) (defBody s_Ldraw) (defScope s_Ldraw) [] [] (He.fAd K ("_law_draw", none)) fd
  m_Ldraw : mg "_law_draw" = some (.ref (He.fAd K ("_law_draw", none)))
  d_Lbits : ∃ fd, FunD K "_law_bits" "_law_bits" (defArgs s_Lbits) (defBody s_Lbits) (defScope s_Lbits) [] [] (He.fAd K ("_law_bits", none)) fd
  m_Lbits : mg "_law_bits" = some (.ref (He.fAd K ("_law_bits", none)))
  d_Lodd : ∃ fd, FunD K "_law_odd" "_law_odd" (defArgs s_Lodd) (defBody s_Lodd) (defScope s_Lodd) [] [] (He.fAd K ("_law_odd", none)) fd
  m_Lodd : mg "_law_odd" = some (.ref (He.fAd K ("_law_odd", none)))
  d_Lheard : ∃ fd, FunD K "_law_heard" "_law_heard" (defArgs s_Lheard) (defBody s_Lheard) (defScope s_Lheard) [] [] (He.fAd K ("_law_heard", none)) fd
  m_Lheard : mg "_law_heard" = some (.ref (He.fAd K ("_law_heard", none)))
  d_is_between : ∃ fd, FunD K "is_between" "is_between" (defArgs s_is_between) (defBody s_is_between) (defScope s_is_between) [] [] (He.fAd K ("is_between", none)) fd
  m_is_between : mg "is_between" = some (.ref (He.fAd K ("is_between", none)))
  d_ends_with_letter : ∃ fd, FunD K "ends_with_letter" "ends_with_letter" (defArgs s_ends_with_letter) (defBody s_ends_with_letter) (defScope s_ends_with_letter) [] [] (He.fAd K ("ends_with_letter", none)) fd
  m_ends_with_letter : mg "ends_with_letter" = some (.ref (He.fAd K ("ends_with_letter", none)))
  d_are_row_positions : ∃ fd, FunD K "are_row_positions" "are_row_positions" (defArgs s_are_row_positions) (defBody s_are_row_positions) (defScope s_are_row_positions) [] [] (He.fAd K ("are_row_positions", none)) fd
  m_are_row_positions : mg "are_row_positions" = some (.ref (He.fAd K ("are_row_positions", none)))
  d_need_row : ∃ fd, FunD K "need_row" "need_row" (defArgs s_need_row) (defBody s_need_row) (defScope s_need_row) [] [] (He.fAd K ("need_row", none)) fd
  m_need_row : mg "need_row" = some (.ref (He.fAd K ("need_row", none)))
  d_ring_serial_wiring : ∃ fd, FunD K "ring_serial_wiring" "ring_serial_wiring" (defArgs s_ring_serial_wiring) (defBody s_ring_serial_wiring) (defScope s_ring_serial_wiring) [] [] (He.fAd K ("ring_serial_wiring", none)) fd
  m_ring_serial_wiring : mg "ring_serial_wiring" = some (.ref (He.fAd K ("ring_serial_wiring", none)))
  d_serial_wiring : ∃ fd, FunD K "serial_wiring" "serial_wiring" (defArgs s_serial_wiring) (defBody s_serial_wiring) (defScope s_serial_wiring) [] [] (He.fAd K ("serial_wiring", none)) fd
  m_serial_wiring : mg "serial_wiring" = some (.ref (He.fAd K ("serial_wiring", none)))
  d_chained : ∃ fd, FunD K "chained" "chained" (defArgs s_chained) (defBody s_chained) (defScope s_chained) [] [] (He.fAd K ("chained", none)) fd
  m_chained : mg "chained" = some (.ref (He.fAd K ("chained", none)))
  d_is_sequence : ∃ fd, FunD K "is_sequence" "is_sequence" (defArgs s_is_sequence) (defBody s_is_sequence) (defScope s_is_sequence) [] [] (He.fAd K ("is_sequence", none)) fd
  m_is_sequence : mg "is_sequence" = some (.ref (He.fAd K ("is_sequence", none)))
  d_is_row : ∃ fd, FunD K "is_row" "is_row" (defArgs s_is_row) (defBody s_is_row) (defScope s_is_row) [] [] (He.fAd K ("is_row", none)) fd
  m_is_row : mg "is_row" = some (.ref (He.fAd K ("is_row", none)))
  d_is_cell : ∃ fd, FunD K "is_cell" "is_cell" (defArgs s_is_cell) (defBody s_is_cell) (defScope s_is_cell) [] [] (He.fAd K ("is_cell", none)) fd
  m_is_cell : mg "is_cell" = some (.ref (He.fAd K ("is_cell", none)))
  d_checked_cells : ∃ fd, FunD K "checked_cells" "checked_cells" (defArgs s_checked_cells) (defBody s_checked_cells) (defScope s_checked_cells) [] [] (He.fAd K ("checked_cells", none)) fd
  m_checked_cells : mg "checked_cells" = some (.ref (He.fAd K ("checked_cells", none)))
  d_checked_outputs : ∃ fd, FunD K "checked_outputs" "checked_outputs" (defArgs s_checked_outputs) (defBody s_checked_outputs) (defScope s_checked_outputs) [] [] (He.fAd K ("checked_outputs", none)) fd
  m_checked_outputs : mg "checked_outputs" = some (.ref (He.fAd K ("checked_outputs", none)))
  d_Ring___init__ : ∃ fd, FunD K "__init__" "Network.__init__" (defArgs s_Ring___init__) (defBody s_Ring___init__) (defScope s_Ring___init__) [] [] (He.fAd K ("Ring", some "__init__")) fd
  d_Network___init__ : ∃ fd, FunD K "__init__" "Network.__init__" (defArgs s_Network___init__) (defBody s_Network___init__) (defScope s_Network___init__) [] [] (He.fAd K ("Network", some "__init__")) fd
  d_Faulty_base___init__ : ∃ fd, FunD K "__init__" "Network.__init__" (defArgs s_Faulty_base___init__) (defBody s_Faulty_base___init__) (defScope s_Faulty_base___init__) [] [] (He.fAd K ("Network", some "__init__")) fd
  d_is_state : ∃ fd, FunD K "is_state" "is_state" (defArgs s_is_state) (defBody s_is_state) (defScope s_is_state) [] [] (He.fAd K ("is_state", none)) fd
  m_is_state : mg "is_state" = some (.ref (He.fAd K ("is_state", none)))
  d_checked_stuck : ∃ fd, FunD K "checked_stuck" "checked_stuck" (defArgs s_checked_stuck) (defBody s_checked_stuck) (defScope s_checked_stuck) [] [] (He.fAd K ("checked_stuck", none)) fd
  m_checked_stuck : mg "checked_stuck" = some (.ref (He.fAd K ("checked_stuck", none)))
  d_network_with : ∃ fd, FunD K "network_with" "network_with" (defArgs s_network_with) (defBody s_network_with) (defScope s_network_with) [] [("ring", .bl false)] (He.fAd K ("network_with", none)) fd
  m_network_with : mg "network_with" = some (.ref (He.fAd K ("network_with", none)))
  d_Lis_number : ∃ fd, FunD K "_law_is_number" "_law_is_number" (defArgs s_Lis_number) (defBody s_Lis_number) (defScope s_Lis_number) [] [] (He.fAd K ("_law_is_number", none)) fd
  m_Lis_number : mg "_law_is_number" = some (.ref (He.fAd K ("_law_is_number", none)))
  d_Lis_right_row : ∃ fd, FunD K "_law_is_right_row" "_law_is_right_row" (defArgs s_Lis_right_row) (defBody s_Lis_right_row) (defScope s_Lis_right_row) [] [] (He.fAd K ("_law_is_right_row", none)) fd
  m_Lis_right_row : mg "_law_is_right_row" = some (.ref (He.fAd K ("_law_is_right_row", none)))
  d_joined_rows : ∃ fd, FunD K "joined_rows" "joined_rows" (defArgs s_joined_rows) (defBody s_joined_rows) (defScope s_joined_rows) [] [] (He.fAd K ("joined_rows", none)) fd
  m_joined_rows : mg "joined_rows" = some (.ref (He.fAd K ("joined_rows", none)))
  d_node_rows : ∃ fd, FunD K "node_rows" "node_rows" (defArgs s_node_rows) (defBody s_node_rows) (defScope s_node_rows) [] [] (He.fAd K ("node_rows", none)) fd
  m_node_rows : mg "node_rows" = some (.ref (He.fAd K ("node_rows", none)))
  d_Faulty_held_states : ∃ fd, FunD K "held_states" "Network.held_states" (defArgs s_Faulty_held_states) (defBody s_Faulty_held_states) (defScope s_Faulty_held_states) [] [] (He.fAd K ("Faulty", some "held_states")) fd
  d_Faulty_rows : ∃ fd, FunD K "rows" "Faulty.rows" (defArgs s_Faulty_rows) (defBody s_Faulty_rows) (defScope s_Faulty_rows) [] [] (prAd K "Faulty" "rows").2 fd
  d_Order_positions : ∃ fd, FunD K "positions" "Order.positions" (defArgs s_Order_positions) (defBody s_Order_positions) (defScope s_Order_positions) [] [] (prAd K "Order" "positions").2 fd
  d_first_ones : ∃ fd, FunD K "first_ones" "first_ones" (defArgs s_first_ones) (defBody s_first_ones) (defScope s_first_ones) [] [] (He.fAd K ("first_ones", none)) fd
  m_first_ones : mg "first_ones" = some (.ref (He.fAd K ("first_ones", none)))
  d_Order___init__ : ∃ fd, FunD K "__init__" "Order.__init__" (defArgs s_Order___init__) (defBody s_Order___init__) (defScope s_Order___init__) [] [] (He.fAd K ("Order", some "__init__")) fd
  d_Order___add__ : ∃ fd, FunD K "__add__" "Order.__add__" (defArgs s_Order___add__) (defBody s_Order___add__) (defScope s_Order___add__) [] [] (He.fAd K ("Order", some "__add__")) fd
  d_node_orders : ∃ fd, FunD K "node_orders" "node_orders" (defArgs s_node_orders) (defBody s_node_orders) (defScope s_node_orders) [] [] (He.fAd K ("node_orders", none)) fd
  m_node_orders : mg "node_orders" = some (.ref (He.fAd K ("node_orders", none)))
  d_Network_orders : ∃ fd, FunD K "orders" "Network.orders" (defArgs s_Network_orders) (defBody s_Network_orders) (defScope s_Network_orders) [] [] (prAd K "Network" "orders").2 fd
  d_Ring_orders : ∃ fd, FunD K "orders" "Network.orders" (defArgs s_Ring_orders) (defBody s_Ring_orders) (defScope s_Ring_orders) [] [] (prAd K "Ring" "orders").2 fd
  d_Lright : ∃ fd, FunD K "_law_right" "_law_right" (defArgs s_Lright) (defBody s_Lright) (defScope s_Lright) [] [] (He.fAd K ("_law_right", none)) fd
  m_Lright : mg "_law_right" = some (.ref (He.fAd K ("_law_right", none)))
  d_Lentries : ∃ fd, FunD K "_law_entries" "_law_entries" (defArgs s_Lentries) (defBody s_Lentries) (defScope s_Lentries) [] [] (He.fAd K ("_law_entries", none)) fd
  m_Lentries : mg "_law_entries" = some (.ref (He.fAd K ("_law_entries", none)))
  d_law : ∃ fd, FunD K "law" "law" (defArgs s_law) (defBody s_law) (defScope s_law) [] [] (He.fAd K ("law", none)) fd
  m_law : mg "law" = some (.ref (He.fAd K ("law", none)))
  d_InvalidRow___init__ : ∃ fd, FunD K "__init__" "InvalidRow.__init__" (defArgs s_InvalidRow___init__) (defBody s_InvalidRow___init__) (defScope s_InvalidRow___init__) [] [] (He.fAd K ("InvalidRow", some "__init__")) fd
  d_InvalidCells___init__ : ∃ fd, FunD K "__init__" "InvalidCells.__init__" (defArgs s_InvalidCells___init__) (defBody s_InvalidCells___init__) (defScope s_InvalidCells___init__) [] [] (He.fAd K ("InvalidCells", some "__init__")) fd
  d_InvalidOutputs___init__ : ∃ fd, FunD K "__init__" "InvalidOutputs.__init__" (defArgs s_InvalidOutputs___init__) (defBody s_InvalidOutputs___init__) (defScope s_InvalidOutputs___init__) [] [] (He.fAd K ("InvalidOutputs", some "__init__")) fd
  d_InvalidSize___init__ : ∃ fd, FunD K "__init__" "InvalidSize.__init__" (defArgs s_InvalidSize___init__) (defBody s_InvalidSize___init__) (defScope s_InvalidSize___init__) [] [] (He.fAd K ("InvalidSize", some "__init__")) fd
  d_InvalidStuck___init__ : ∃ fd, FunD K "__init__" "InvalidStuck.__init__" (defArgs s_InvalidStuck___init__) (defBody s_InvalidStuck___init__) (defScope s_InvalidStuck___init__) [] [] (He.fAd K ("InvalidStuck", some "__init__")) fd
  d_NoOutput___init__ : ∃ fd, FunD K "__init__" "NoOutput.__init__" (defArgs s_NoOutput___init__) (defBody s_NoOutput___init__) (defScope s_NoOutput___init__) [] [] (He.fAd K ("NoOutput", some "__init__")) fd
  d_InvalidPosition___init__ : ∃ fd, FunD K "__init__" "InvalidPosition.__init__" (defArgs s_InvalidPosition___init__) (defBody s_InvalidPosition___init__) (defScope s_InvalidPosition___init__) [] [] (He.fAd K ("InvalidPosition", some "__init__")) fd
  xm_0 : ∀ C ∈ (["InvalidRow", "InvalidCells", "InvalidOutputs", "InvalidSize", "InvalidStuck", "NoOutput", "InvalidPosition"] : List PySem.Str).map (Zk K), PySem.W.exmAny K (.ref C) [.ref (He.ga K "ProbeError"), .ref (He.ga K "AbsentError"), .ref (He.ga K "TooMany")] = some true
  xc_1 : ∀ C ∈ (["InvalidRow", "InvalidCells", "InvalidOutputs", "InvalidSize", "InvalidStuck", "NoOutput", "InvalidPosition"] : List PySem.Str).map (Zk K), ExcC K C
  ki_2 : ∀ C ∈ (["InvalidRow", "InvalidCells", "InvalidOutputs", "InvalidSize", "InvalidStuck", "NoOutput", "InvalidPosition"] : List PySem.Str).map (Zk K), PySem.W.kitOne K (.ref C) (.ref (He.ga K "NoOutput")) = some (decide (C ∈ (["NoOutput"] : List PySem.Str).map (Zk K)))
  kp_3 : ∀ n ∈ (["NoneType", "bool", "int", "str", "tuple", "list", "dict"] : List String), PySem.W.kitOne K (.type n) (.ref (He.ga K "NoOutput")) = some false
  ki_4 : ∀ C ∈ (["InvalidRow", "InvalidCells", "InvalidOutputs", "InvalidSize", "InvalidStuck", "NoOutput", "InvalidPosition"] : List PySem.Str).map (Zk K), PySem.W.kitOne K (.ref C) (.type "LookupError") = some (decide (C ∈ (["NoOutput"] : List PySem.Str).map (Zk K)))
  kp_5 : ∀ n ∈ (["NoneType", "bool", "int", "str", "tuple", "list", "dict"] : List String), PySem.W.kitOne K (.type n) (.type "LookupError") = some false
  ki_6 : ∀ C ∈ (["InvalidRow", "InvalidCells", "InvalidOutputs", "InvalidSize", "InvalidStuck", "NoOutput", "InvalidPosition"] : List PySem.Str).map (Zk K), PySem.W.kitOne K (.ref C) (.ref (He.ga K "ProbeError")) = some (decide (C ∈ (["InvalidRow", "InvalidCells", "InvalidOutputs", "InvalidSize", "InvalidStuck", "InvalidPosition"] : List PySem.Str).map (Zk K)))
  kp_7 : ∀ n ∈ (["NoneType", "bool", "int", "str", "tuple", "list", "dict"] : List String), PySem.W.kitOne K (.type n) (.ref (He.ga K "ProbeError")) = some false
  g_ProbeError : mg "ProbeError" = some (.ref (He.ga K "ProbeError"))
  g_NoOutput : mg "NoOutput" = some (.ref (He.ga K "NoOutput"))
  xf_output_8 : ∀ C ∈ (["NoOutput"] : List PySem.Str).map (Zk K), XfC K C ∧ PySem.W.findIn K (.ref C) "output" = some none
  ki_9 : ∀ C ∈ (["InvalidRow", "InvalidCells", "InvalidOutputs", "InvalidSize", "InvalidStuck", "NoOutput", "InvalidPosition"] : List PySem.Str).map (Zk K), PySem.W.kitOne K (.ref C) (.ref (He.ga K "InvalidRow")) = some (decide (C ∈ (["InvalidRow"] : List PySem.Str).map (Zk K)))
  kp_10 : ∀ n ∈ (["NoneType", "bool", "int", "str", "tuple", "list", "dict"] : List String), PySem.W.kitOne K (.type n) (.ref (He.ga K "InvalidRow")) = some false
  ki_11 : ∀ C ∈ (["InvalidRow", "InvalidCells", "InvalidOutputs", "InvalidSize", "InvalidStuck", "NoOutput", "InvalidPosition"] : List PySem.Str).map (Zk K), PySem.W.kitOne K (.ref C) (.type "ValueError") = some (decide (C ∈ (["InvalidRow", "InvalidCells", "InvalidOutputs", "InvalidSize", "InvalidStuck", "InvalidPosition"] : List PySem.Str).map (Zk K)))
  kp_12 : ∀ n ∈ (["NoneType", "bool", "int", "str", "tuple", "list", "dict"] : List String), PySem.W.kitOne K (.type n) (.type "ValueError") = some false
  ki_13 : ∀ C ∈ (["InvalidRow", "InvalidCells", "InvalidOutputs", "InvalidSize", "InvalidStuck", "NoOutput", "InvalidPosition"] : List PySem.Str).map (Zk K), PySem.W.kitOne K (.ref C) (.ref (He.ga K "AbsentError")) = some (decide (C ∈ (["NoOutput"] : List PySem.Str).map (Zk K)))
  kp_14 : ∀ n ∈ (["NoneType", "bool", "int", "str", "tuple", "list", "dict"] : List String), PySem.W.kitOne K (.type n) (.ref (He.ga K "AbsentError")) = some false
  g_AbsentError : mg "AbsentError" = some (.ref (He.ga K "AbsentError"))
  g_InvalidRow : mg "InvalidRow" = some (.ref (He.ga K "InvalidRow"))
  xf_value_15 : ∀ C ∈ (["InvalidRow", "InvalidSize"] : List PySem.Str).map (Zk K), XfC K C ∧ PySem.W.findIn K (.ref C) "value" = some none
  g_TooMany : mg "TooMany" = some (.ref (He.ga K "TooMany"))
  er_InvalidRow : ErrC "ValueError.__new__" mroV K "InvalidRow"
  nf_InvalidRow_value : PySem.W.findIn K (.ref (He.ga K "InvalidRow")) "value" = some none
  tt_16 : ∀ n ∈ (["NoneType", "bool", "int", "str", "tuple", "list", "dict"] : List String), PySem.W.kitAny K (.type n) ((["tuple", "list"] : List String).map Value.type) = some ((["tuple", "list"] : List String).any fun m => (n == m) || (n == "bool" && m == "int"))
  er_InvalidCells : ErrC "ValueError.__new__" mroV K "InvalidCells"
  nf_InvalidCells_index : PySem.W.findIn K (.ref (He.ga K "InvalidCells")) "index" = some none
  g_InvalidCells : mg "InvalidCells" = some (.ref (He.ga K "InvalidCells"))
  er_InvalidOutputs : ErrC "ValueError.__new__" mroV K "InvalidOutputs"
  nf_InvalidOutputs_index : PySem.W.findIn K (.ref (He.ga K "InvalidOutputs")) "index" = some none
  g_InvalidOutputs : mg "InvalidOutputs" = some (.ref (He.ga K "InvalidOutputs"))
  co_Ring_LEAST_BITS : ∃ u, Con K (He.ga K "Ring") "LEAST_BITS" (.int 2) u
  co_Ring_MOST_BITS : ∃ u, Con K (He.ga K "Ring") "MOST_BITS" (.int 24) u
  er_InvalidSize : ErrC "ValueError.__new__" mroV K "InvalidSize"
  nf_InvalidSize_value : PySem.W.findIn K (.ref (He.ga K "InvalidSize")) "value" = some none
  g_InvalidSize : mg "InvalidSize" = some (.ref (He.ga K "InvalidSize"))
  co_Ring_LOWEST : ∃ u, Con K (He.ga K "Ring") "LOWEST" (.int 1) u
  no_Ring_joins : NoAttr K (He.ga K "Ring") "joins"
  cls_Ring : Cls K (He.ga K "Ring")
  no_Ring_held : NoAttr K (He.ga K "Ring") "held"
  no_Ring_ends : NoAttr K (He.ga K "Ring") "ends"
  no_Ring_bits : NoAttr K (He.ga K "Ring") "bits"
  co_Network_LEAST_BITS : ∃ u, Con K (He.ga K "Network") "LEAST_BITS" (.int 1) u
  co_Network_MOST_BITS : ∃ u, Con K (He.ga K "Network") "MOST_BITS" (.int 24) u
  co_Network_LOWEST : ∃ u, Con K (He.ga K "Network") "LOWEST" (.int 0) u
  no_Network_joins : NoAttr K (He.ga K "Network") "joins"
  cls_Network : Cls K (He.ga K "Network")
  no_Network_held : NoAttr K (He.ga K "Network") "held"
  no_Network_ends : NoAttr K (He.ga K "Network") "ends"
  no_Network_bits : NoAttr K (He.ga K "Network") "bits"
  co_Faulty_LEAST_BITS : ∃ u, Con K (He.ga K "Faulty") "LEAST_BITS" (.int 1) u
  co_Faulty_MOST_BITS : ∃ u, Con K (He.ga K "Faulty") "MOST_BITS" (.int 24) u
  co_Faulty_LOWEST : ∃ u, Con K (He.ga K "Faulty") "LOWEST" (.int 0) u
  no_Faulty_joins : NoAttr K (He.ga K "Faulty") "joins"
  cls_Faulty : Cls K (He.ga K "Faulty")
  no_Faulty_held : NoAttr K (He.ga K "Faulty") "held"
  no_Faulty_ends : NoAttr K (He.ga K "Faulty") "ends"
  no_Faulty_bits : NoAttr K (He.ga K "Faulty") "bits"
  er_InvalidStuck : ErrC "ValueError.__new__" mroV K "InvalidStuck"
  nf_InvalidStuck_index : PySem.W.findIn K (.ref (He.ga K "InvalidStuck")) "index" = some none
  g_InvalidStuck : mg "InvalidStuck" = some (.ref (He.ga K "InvalidStuck"))
  sb_Faulty___init__ : supB K (He.fAd K ("Faulty", some "__init__")) "Faulty.__init__" "/claim/cut.py" [L2.V.ref (He.dflAt ("Faulty", some "__init__") 0 K)] = true
  sup_Faulty___init__ : FunC K "__init__" "Faulty.__init__" (defArgs s_Faulty___init__) (defBody s_Faulty___init__) (defScope s_Faulty___init__) [L2.V.ref (He.dflAt ("Faulty", some "__init__") 0 K)] "/claim/cut.py" (He.fAd K ("Faulty", some "__init__")) (supA K (He.fAd K ("Faulty", some "__init__"))).1 (supA K (He.fAd K ("Faulty", some "__init__"))).2.1 (supA K (He.fAd K ("Faulty", some "__init__"))).2.2
  so_Faulty___init__ : SupOf K (He.ga K "Faulty") (supA K (He.fAd K ("Faulty", some "__init__"))).2.2 "__init__" (He.fAd K ("Network", some "__init__"))
  sd_Faulty___init__ : ∀ F, Rps K F [L2.V.ref (He.dflAt ("Faulty", some "__init__") 0 K)] [.tup []]
  er_NoOutput : ErrC "LookupError.__new__" mroL K "NoOutput"
  nf_NoOutput_output : PySem.W.findIn K (.ref (He.ga K "NoOutput")) "output" = some none
  mk_Ring : Mk K (He.ga K "Ring") (He.fAd K ("Ring", some "__init__"))
  g_Ring : mg "Ring" = some (.ref (He.ga K "Ring"))
  mk_Network : Mk K (He.ga K "Network") (He.fAd K ("Network", some "__init__"))
  g_Network : mg "Network" = some (.ref (He.ga K "Network"))
  mk_Faulty : Mk K (He.ga K "Faulty") (He.fAd K ("Faulty", some "__init__"))
  g_Faulty : mg "Faulty" = some (.ref (He.ga K "Faulty"))
  me_Faulty_held_states : Meth K (He.ga K "Faulty") "held_states" (He.fAd K ("Faulty", some "held_states"))
  no_Order_entries : NoAttr K (He.ga K "Order") "entries"
  cls_Order : Cls K (He.ga K "Order")
  co_Order_GREATEST : ∃ u, Con K (He.ga K "Order") "GREATEST" (.int 24) u
  er_InvalidPosition : ErrC "ValueError.__new__" mroV K "InvalidPosition"
  nf_InvalidPosition_index : PySem.W.findIn K (.ref (He.ga K "InvalidPosition")) "index" = some none
  g_InvalidPosition : mg "InvalidPosition" = some (.ref (He.ga K "InvalidPosition"))
  mk_Order : Mk K (He.ga K "Order") (He.fAd K ("Order", some "__init__"))
  g_Order : mg "Order" = some (.ref (He.ga K "Order"))
  me_Order___add__ : Meth K (He.ga K "Order") "__add__" (He.fAd K ("Order", some "__add__"))
  sf_Order : PySem.W.selfFirst K (He.ga K "Order") = true
  pr_Network_orders : PropOf K (He.ga K "Network") "orders" (prAd K "Network" "orders").1 (prAd K "Network" "orders").2
  pr_Ring_orders : PropOf K (He.ga K "Ring") "orders" (prAd K "Ring" "orders").1 (prAd K "Ring" "orders").2
  zn_Ring_Network : Zk K "Ring" ≠ Zk K "Network"
  pr_Faulty_rows : PropOf K (He.ga K "Faulty") "rows" (prAd K "Faulty" "rows").1 (prAd K "Faulty" "rows").2
  pr_Order_positions : PropOf K (He.ga K "Order") "positions" (prAd K "Order" "positions").1 (prAd K "Order" "positions").2
  hz : Hz (Zk K)
  b_LookupError : mg "LookupError" = none
  b_ValueError : mg "ValueError" = none
  b_abs : mg "abs" = none
  b_all : mg "all" = none
  b_bool : mg "bool" = none
  b_dict : mg "dict" = none
  b_enumerate : mg "enumerate" = none
  b_int : mg "int" = none
  b_isinstance : mg "isinstance" = none
  b_len : mg "len" = none
  b_list : mg "list" = none
  b_min : mg "min" = none
  b_range : mg "range" = none
  b_repr : mg "repr" = none
  b_set : mg "set" = none
  b_str : mg "str" = none
  b_super : mg "super" = none
  b_tuple : mg "tuple" = none
  g_GENERATE : ∃ t, mg "GENERATE" = some (.str "G" t)
  g_KILL : ∃ t, mg "KILL" = some (.str "K" t)
  g_MOST_CELLS : ∃ t, mg "MOST_CELLS" = some (.int 150 t)
  g_PASS : ∃ t, mg "PASS" = some (.str "P" t)
  sys : sysB K = true
  g_STATES : ∃ a, mg "STATES" = some (.ref a) ∧ ∀ F : Hp, SqT K F a [V.str "G", V.str "K", V.str "P"]
structure Txt (pg : Program) (K : PySem.W.Frag) (mg : Str → Option Value) (base : Heap) : Prop extends Txt0 K mg where
  tb : ∀ x ∈ tl, LamX.TabB base mg (ctA K x.1).1 (ctA K x.1).2
  sp : SupP pg "/claim/cut.py"
def tr_Lpen (K : PySem.W.Frag) : TrB := fun ds M P R => ∃ x0 : D, ∃ r : List D, ds = [x0] ∧ F_Lpen x0 = some r ∧ (∀ q, M q = none → P (.adr q) (up M q (.lst r)))
set_option maxHeartbeats 0 in
theorem ok_Lpen {pg : Program} {w : World} {K : PySem.W.Frag} {mg : Str → Option Value} {base : Heap} (T : Txt pg K mg base) : BodyX pg w K mg base false 2 (He.fAd K ("_law_pen", none)) "_law_pen" (defBody s_Lpen) (defScope s_Lpen) ["_law_script"] ["_law_script"] (tr_Lpen K) := fun cdv hcv A outer s H F0 E ds M P R hgd0 hr t hL hpo kx => by
  obtain ⟨x0, r, rfl, hF, hk⟩ := t
  unfold F_Lpen at hF
  exact gx_seq (g1_ret (ex_less (ex_lstM (ax_cons (ex_ty T.b_list bb_list (ax_cons (ex_slice (ex_var 0 rfl (ox_none (ox_d (ex_int (bi hF fun i1 hi1 hF => ⟨_, _, .id, hi1, bi hF fun v2 hv2 hF => sd_dCut .id hv2 (ax_nil (bi hF fun l3 hl3 hF => cd_lList rfl .id hl3 (ax_cons (ex_int (ax_cons (ex_int (ax_nil (⟨le_b rfl, fun a4 ha4 => have fb_a4 := ha4; ⟨_, (sub_keep sub_refl), (by have e := so hF; cases e; exact hk a4 fb_a4)⟩⟩))))))))⟩))))))))))))
theorem fx_Lpen_1 {pg : Program} {w : World} {K : PySem.W.Frag} {mg : Str → Option Value} {base : Heap} (T : Txt pg K mg base) : FnX pg w K mg base false 3 (He.fAd K ("_law_pen", none)) ([] : List PySem.Str) (fun ds zs M P R => ds.length = 1 ∧ zs.length = ([] : List PySem.Str).length ∧ tr_Lpen K (pick (ds ++ ([] ++ zs)) [0]) M P R) :=
  fn_kwX T.d_Lpen.choose_spec sc_Lpen (ok_Lpen T) 1 ([] : List PySem.Str) [] [] [0] (by simp) (fun _ => .nil) (fun kV D doc pm an cdv ct us mv ws e h1 h2 h3 => match us, mv, ws, h1, h2, h3 with | [_], [], [], _, _, _ => rfl) (fun us mv ws h1 h2 h3 => match us, mv, ws, h1, h2, h3 with | [_], [], [], _, _, _ => rfl)
def tr_Ldraw (K : PySem.W.Frag) : TrB := fun ds M P R => ∃ (p_0 : Addr) (x0 : List D), ∃ x1 : D, ∃ r : D × List D, ∃ W : D → Mem, ds = [.adr p_0, x1] ∧ M = W (.lst x0) ∧ (∀ z0, At (W z0) p_0 z0 (fun z => W z)) ∧ F_Ldraw x0 x1 = some r ∧ P r.1 (W (.lst r.2))
set_option maxHeartbeats 0 in
theorem ok_Ldraw {pg : Program} {w : World} {K : PySem.W.Frag} {mg : Str → Option Value} {base : Heap} (T : Txt pg K mg base) : BodyX pg w K mg base false 2 (He.fAd K ("_law_draw", none)) "_law_draw" (defBody s_Ldraw) (defScope s_Ldraw) ["_law_pen_here", "_law_many", "_law_digit", "_law_at", "_law_cell", "_law_large", "_law_mixed"] ["_law_pen_here", "_law_many"] (tr_Ldraw K) := fun cdv hcv A outer s H F0 E ds M P R hgd0 hr t hL hpo kx => by
  obtain ⟨p_0, x0, x1, r, W, rfl, rfl, hW0, hF, hk⟩ := t
  unfold F_Ldraw at hF
  refine gx_seq (g1_if (tx_cmp (ex_ix (ex_var 0 rfl (ex_int (bi hF fun v2 hv2 hF => id_dIx (.ad (hW0 _).get rfl) .id hv2 (ex_int (bi hF fun t3 ht3 hF => od_cGt .id .id ht3 (⟨_, rfl, ⟨fun q1 => ?_, fun q1 => ?_⟩⟩)))))))))
  · have hF := iT q1 hF
    refine gx_seq (g1_asg (ex_bin (ex_ix (ex_var 0 rfl (ex_int (bi hF fun v4 hv4 hF => id_dIx (.ad (hW0 _).get rfl) .id hv4 (ex_var 1 rfl (bi hF fun v5 hv5 hF => od_dMod .id .id hv5 (as_name 2 (?_) sc_Ldraw.nd)))))))))
    refine gx_seq (g1_setIxF (ex_bin (ex_ix (ex_var 0 rfl (ex_int (bi hF fun v6 hv6 hF => id_dIx (.ad (hW0 _).get rfl) .id hv6 (ex_var 1 rfl (bi hF fun v7 hv7 hF => od_dFdiv .id .id hv7 (ex_var 0 rfl (ex_int (bi hF fun l8 hl8 hF => ⟨_, _, _, l8, rfl, (hW0 _), hl8, ?_⟩)))))))))))
    exact gx_seq (g1_ret (ex_less (ex_var 2 rfl (⟨_, sub_refl, ret1 (W := W) (so hF) hk⟩))))
  · have hF := iF q1 hF
    refine gx_nil ?_
    show GX _ _ _ _ _ _
    refine gx_seq (g1_asg (ex_ix (ex_var 0 rfl (ex_int (bi hF fun v9 hv9 hF => id_dIx (.ad (hW0 _).get rfl) .id hv9 (as_name 3 (?_) sc_Ldraw.nd))))))
    refine gx_seq (g1_setIxF (ex_bin (ex_var 3 rfl (ex_int (bi hF fun v10 hv10 hF => od_dAdd .id .id hv10 (ex_var 0 rfl (ex_int (bi hF fun l11 hl11 hF => ⟨_, _, _, l11, rfl, (hW0 _), hl11, ?_⟩))))))))
    refine gx_seq (g1_asg (ex_bin (ex_bin (ex_int (ex_var 3 rfl (bi hF fun v12 hv12 hF => od_dMul .id .id hv12 (ex_int (bi hF fun v13 hv13 hF => od_dAdd .id .id hv13 (as_name 4 (?_) sc_Ldraw.nd)))))))))
    refine gx_seq (bi hF fun r15 hF hRr15 => g1_mid (fun ρ' M' => ∃ j0 : Option D, ∃ j1 : Option D, ∃ j2 : Option D, ρ' = [some (.adr p_0), some x1, j0, some v9, some r15, j1, j2] ∧ M' = (W (.lst l11))) (g1_if (tx_cmp (ex_ix (ex_var 0 rfl (ex_int (bi hF fun v16 hv16 hF => id_dIx (.ad (hW0 _).get rfl) .id hv16 (ex_lst (ax_nil (⟨le_b rfl, bi hF fun t17 ht17 hF => od_cNe hr.units .id .id ht17 (⟨_, rfl, ⟨fun q14 => ?_, fun q14 => ?_⟩⟩)⟩))))))))) ?_)
    · have hF := iT q14 hF
      refine gx_seq (g1_asg (ex_ix (ex_ix (ex_var 0 rfl (ex_int (bi hF fun v18 hv18 hF => id_dIx (.ad (hW0 _).get rfl) .id hv18 (ex_bin (ex_var 3 rfl (ex_blt T.b_len bb_len (ax_cons (ex_ix (ex_var 0 rfl (ex_int (bi hF fun v19 hv19 hF => id_dIx (.ad (hW0 _).get rfl) .id hv19 (ax_nil (bi hF fun v20 hv20 hF => cd_dLen .id hv20 (bi hF fun v21 hv21 hF => od_dMod .id .id hv21 (bi hF fun v22 hv22 hF => id_dIx .id .id hv22 (as_name 4 (?_) sc_Ldraw.nd)))))))))))))))))))
      cases hF
      exact gx_nil ⟨_, _, _, rfl, rfl⟩
    · have hF := iF q14 hF
      cases hF
      exact gx_nil ⟨_, _, _, rfl, rfl⟩
    · rintro _ _ ⟨_, _, _, rfl, rfl⟩
      have hF := hRr15
      try dsimp only at hF
      show GX _ _ _ _ _ _
      refine gx_seq (g1_if (bi hF fun t31 ht31 hF => tx_fix t31 (W (.lst l11)) (have hF := ht31; tx_pw (wx_and (tx_cmp (ex_var 3 rfl (ex_blt T.b_len bb_len (ax_cons (ex_ix (ex_var 0 rfl (ex_int (bi hF fun v25 hv25 hF => id_dIx (.ad (hW0 _).get rfl) .id hv25 (ax_nil (bi hF fun v26 hv26 hF => cd_dLen .id hv26 (bi hF fun t27 ht27 hF => od_cLt .id .id ht27 (⟨_, rfl, ⟨fun q24 => have hF := iT q24 hF; wx_and1 (tx_cmp (ex_blt T.b_abs bb_abs (ax_cons (ex_var 4 rfl (ax_nil (bi hF fun v28 hv28 hF => cd_dAbs .id hv28 (ex_bin (ex_int (ex_int (bi hF fun v29 hv29 hF => od_dPow .id .id hv29 (bi hF fun t30 ht30 hF => od_cGe .id .id ht30 (⟨_, rfl, ⟨so hF, rfl⟩⟩)))))))))))), fun q24 => ⟨so (iF q24 hF), rfl⟩⟩⟩)))))))))))))) (⟨fun q23 => ?_, fun q23 => ?_⟩)))
      · have hF := iT q23 hF
        refine gx_seq (g1_asg (ex_bin (ex_bin (ex_int (ex_bin (ex_blt T.b_abs bb_abs (ax_cons (ex_var 4 rfl (ax_nil (bi hF fun v32 hv32 hF => cd_dAbs .id hv32 (ex_bin (ex_int (ex_int (bi hF fun v33 hv33 hF => od_dPow .id .id hv33 (bi hF fun v34 hv34 hF => od_dSub .id .id hv34 (bi hF fun v35 hv35 hF => od_dMul .id .id hv35 (ex_ty T.b_int bb_int (ax_cons (ex_cmp (ex_var 4 rfl (ex_int (bi hF fun t36 ht36 hF => od_cLt .id .id ht36 (ax_nil (bi hF fun v37 hv37 hF => cd_dInt .id hv37 (bi hF fun v38 hv38 hF => od_dAdd .id .id hv38 (as_name 5 (?_) sc_Ldraw.nd))))))))))))))))))))))))))
        refine gx_seq (g1_setIxF (ex_bin (ex_var 5 rfl (ex_var 1 rfl (bi hF fun v39 hv39 hF => od_dFdiv .id .id hv39 (ex_var 0 rfl (ex_int (bi hF fun l40 hl40 hF => ⟨_, _, _, l40, rfl, (hW0 _), hl40, ?_⟩))))))))
        exact gx_seq (g1_ret (ex_less (ex_bin (ex_var 5 rfl (ex_var 1 rfl (bi hF fun v41 hv41 hF => od_dMod .id .id hv41 (⟨_, sub_refl, ret1 (W := W) (so hF) hk⟩)))))))
      · have hF := iF q23 hF
        refine gx_nil ?_
        show GX _ _ _ _ _ _
        refine gx_seq (g1_asg (ex_bin (ex_bin (ex_bin (ex_bin (ex_bin (ex_var 4 rfl (ex_int (bi hF fun v42 hv42 hF => od_dMod .id .id hv42 (ex_bin (ex_int (ex_var 3 rfl (bi hF fun v43 hv43 hF => od_dMul .id .id hv43 (bi hF fun v44 hv44 hF => od_dAdd .id .id hv44 (ex_int (bi hF fun v45 hv45 hF => od_dAdd .id .id hv45 (ex_int (bi hF fun v46 hv46 hF => od_dPow .id .id hv46 (ex_int (bi hF fun v47 hv47 hF => od_dMod .id .id hv47 (as_name 6 (?_) sc_Ldraw.nd)))))))))))))))))))))
        refine gx_seq (g1_asg (ex_bin (ex_bin (ex_bin (ex_bin (ex_bin (ex_var 6 rfl (ex_bin (ex_bin (ex_int (ex_var 3 rfl (bi hF fun v48 hv48 hF => od_dMul .id .id hv48 (ex_int (bi hF fun v49 hv49 hF => od_dAdd .id .id hv49 (bi hF fun v50 hv50 hF => od_dMul .id .id hv50 (ex_bin (ex_bin (ex_int (ex_var 3 rfl (bi hF fun v51 hv51 hF => od_dMul .id .id hv51 (ex_var 3 rfl (bi hF fun v52 hv52 hF => od_dMul .id .id hv52 (bi hF fun v53 hv53 hF => od_dAdd .id .id hv53 (ex_int (bi hF fun v54 hv54 hF => od_dAdd .id .id hv54 (ex_int (bi hF fun v55 hv55 hF => od_dPow .id .id hv55 (ex_int (bi hF fun v56 hv56 hF => od_dMod .id .id hv56 (as_name 6 (?_) sc_Ldraw.nd))))))))))))))))))))))))))))))
        exact gx_seq (g1_ret (ex_less (ex_bin (ex_bin (ex_var 6 rfl (ex_int (bi hF fun v57 hv57 hF => od_dFdiv .id .id hv57 (ex_var 1 rfl (bi hF fun v58 hv58 hF => od_dMod .id .id hv58 (⟨_, sub_refl, ret1 (W := W) (so hF) hk⟩))))))))))
theorem fx_Ldraw_2 {pg : Program} {w : World} {K : PySem.W.Frag} {mg : Str → Option Value} {base : Heap} (T : Txt pg K mg base) : FnX pg w K mg base false 3 (He.fAd K ("_law_draw", none)) ([] : List PySem.Str) (fun ds zs M P R => ds.length = 2 ∧ zs.length = ([] : List PySem.Str).length ∧ tr_Ldraw K (pick (ds ++ ([] ++ zs)) [0, 1]) M P R) :=
  fn_kwX T.d_Ldraw.choose_spec sc_Ldraw (ok_Ldraw T) 2 ([] : List PySem.Str) [] [] [0, 1] (by simp) (fun _ => .nil) (fun kV D doc pm an cdv ct us mv ws e h1 h2 h3 => match us, mv, ws, h1, h2, h3 with | [_, _], [], [], _, _, _ => rfl) (fun us mv ws h1 h2 h3 => match us, mv, ws, h1, h2, h3 with | [_, _], [], [], _, _, _ => rfl)
def tr_Lbits (K : PySem.W.Frag) : TrB := fun ds M P R => ∃ (p_0 : Addr) (x0 : List D), ∃ x1 : D, ∃ x2 : D, ∃ r : D × List D, ∃ W : D → Mem, ds = [.adr p_0, x1, x2] ∧ M = W (.lst x0) ∧ (∀ z0, At (W z0) p_0 z0 (fun z => W z)) ∧ F_Lbits x0 x1 x2 = some r ∧ P r.1 (W (.lst r.2))
set_option maxHeartbeats 0 in
theorem ok_Lbits {pg : Program} {w : World} {K : PySem.W.Frag} {mg : Str → Option Value} {base : Heap} (T : Txt pg K mg base) : BodyX pg w K mg base false 4 (He.fAd K ("_law_bits", none)) "_law_bits" (defBody s_Lbits) (defScope s_Lbits) ["_law_pen_here", "_law_least", "_law_most", "_law_some"] ["_law_pen_here", "_law_least", "_law_most"] (tr_Lbits K) := fun cdv hcv A outer s H F0 E ds M P R hgd0 hr t hL hpo kx => by
  obtain ⟨p_0, x0, x1, x2, r, W, rfl, rfl, hW0, hF, hk⟩ := t
  unfold F_Lbits at hF
  refine gx_seq (g1_asg (ex_lst (ax_cons (ex_bin (ex_var 1 rfl (ex_callX (fx_Ldraw_2 T) Lets.no (fun h => nomatch h) (hr.mono (by decide)) T.m_Ldraw T.d_Ldraw.choose_spec.kp (ev_a (ax_cons (ex_var 0 rfl (ax_cons (ex_blt T.b_min bb_min (ax_cons (ex_int (ax_cons (ex_bin (ex_bin (ex_var 2 rfl (ex_var 1 rfl (bi hF fun v1 hv1 hF => od_dSub .id .id hv1 (ex_int (bi hF fun v2 hv2 hF => od_dAdd .id .id hv2 (ax_nil (bi hF fun v3 hv3 hF => cd_dMin2 rfl .id .id hv3 (ax_nil (kx_nil (bi hF fun v4 hv4 hF => ⟨rfl, ⟨rfl, rfl, ⟨p_0, x0, _, v4, (fun w0 => (W w0)), rfl, rfl, fun _ => (hW0 _), hv4, bi hF fun v5 hv5 hF => od_dAdd .id .id hv5 (ax_cons (ex_bin (ex_var 1 rfl (ex_callX (fx_Ldraw_2 T) Lets.no (fun h => nomatch h) (hr.mono (by decide)) T.m_Ldraw T.d_Ldraw.choose_spec.kp (ev_a (ax_cons (ex_var 0 rfl (ax_cons (ex_bin (ex_bin (ex_var 2 rfl (ex_var 1 rfl (bi hF fun v6 hv6 hF => od_dSub .id .id hv6 (ex_int (bi hF fun v7 hv7 hF => od_dAdd .id .id hv7 (ax_nil (kx_nil (bi hF fun v8 hv8 hF => ⟨rfl, ⟨rfl, rfl, ⟨p_0, v4.2, _, v8, (fun w0 => (W w0)), rfl, rfl, fun _ => (hW0 _), hv8, bi hF fun v9 hv9 hF => od_dAdd .id .id hv9 (ax_cons (ex_var 2 rfl (ax_nil (⟨le_b rfl, as_name 3 (?_) sc_Lbits.nd⟩))))⟩⟩⟩))))))))))))))))))⟩⟩⟩))))))))))))))))))))))))))
  exact gx_seq (g1_ret (ex_less (ex_ix (ex_var 3 rfl (ex_callX (fx_Ldraw_2 T) Lets.no (fun h => nomatch h) (hr.mono (by decide)) T.m_Ldraw T.d_Ldraw.choose_spec.kp (ev_a (ax_cons (ex_var 0 rfl (ax_cons (ex_int (ax_nil (kx_nil (bi hF fun v10 hv10 hF => ⟨rfl, ⟨rfl, rfl, ⟨p_0, v8.2, _, v10, (fun w0 => (W w0)), rfl, rfl, fun _ => (hW0 _), hv10, bi hF fun v11 hv11 hF => id_dIx .id .id hv11 (⟨_, sub_refl, ret1 (W := W) (so hF) hk⟩)⟩⟩⟩)))))))))))))
theorem fx_Lbits_3 {pg : Program} {w : World} {K : PySem.W.Frag} {mg : Str → Option Value} {base : Heap} (T : Txt pg K mg base) : FnX pg w K mg base false 5 (He.fAd K ("_law_bits", none)) ([] : List PySem.Str) (fun ds zs M P R => ds.length = 3 ∧ zs.length = ([] : List PySem.Str).length ∧ tr_Lbits K (pick (ds ++ ([] ++ zs)) [0, 1, 2]) M P R) :=
  fn_kwX T.d_Lbits.choose_spec sc_Lbits (ok_Lbits T) 3 ([] : List PySem.Str) [] [] [0, 1, 2] (by simp) (fun _ => .nil) (fun kV D doc pm an cdv ct us mv ws e h1 h2 h3 => match us, mv, ws, h1, h2, h3 with | [_, _, _], [], [], _, _, _ => rfl) (fun us mv ws h1 h2 h3 => match us, mv, ws, h1, h2, h3 with | [_, _, _], [], [], _, _, _ => rfl)
def tr_Lodd (K : PySem.W.Frag) : TrB := fun ds M P R => ∃ (p_0 : Addr) (x0 : List D), ∃ x1 : D, ∃ r : D × List D, ∃ W : D → Mem, ds = [.adr p_0, x1] ∧ M = W (.lst x0) ∧ (∀ z0, At (W z0) p_0 z0 (fun z => W z)) ∧ F_Lodd x0 x1 = some r ∧ P r.1 (W (.lst r.2))
set_option maxHeartbeats 0 in
theorem ok_Lodd {pg : Program} {w : World} {K : PySem.W.Frag} {mg : Str → Option Value} {base : Heap} (T : Txt pg K mg base) : BodyX pg w K mg base false 4 (He.fAd K ("_law_odd", none)) "_law_odd" (defBody s_Lodd) (defScope s_Lodd) ["_law_pen_here", "_law_bits_here", "_law_some"] ["_law_pen_here", "_law_bits_here"] (tr_Lodd K) := fun cdv hcv A outer s H F0 E ds M P R hgd0 hr t hL hpo kx => by
  obtain ⟨p_0, x0, x1, r, W, rfl, rfl, hW0, hF, hk⟩ := t
  unfold F_Lodd at hF
  refine gx_seq (g1_asg (ex_lst (ax_cons (ex_non (ax_cons (ex_bl (ax_cons (ex_bl (ax_cons (ex_dNeg (ex_int ⟨_, _, .id, rfl, ax_cons (ex_var 1 rfl (ax_cons (ex_bin (ex_var 1 rfl (ex_int (bi hF fun v1 hv1 hF => od_dAdd .id .id hv1 (ax_cons (ex_int (ax_cons (ex_str (ax_cons (ex_str (ax_cons (ex_str (ax_cons (ex_str (ax_cons (ex_str (ax_cons (ex_lst (ax_nil (⟨le_b rfl, ax_cons (ex_tup (ax_cons (ex_int (ax_nil (⟨le_b rfl, ax_cons (ex_dct0 (ax_cons (ex_bin (ex_int (ex_int (bi hF fun v2 hv2 hF => od_dPow .id .id hv2 (ax_cons (ex_tup (ax_cons (ex_str (ax_nil (⟨le_b rfl, ax_cons (ex_str (ax_nil (⟨le_b rfl, as_name 2 (?_) sc_Lodd.nd⟩)))⟩))))))))))))⟩)))))⟩))))))))))))))))))))))⟩)))))))))))
  exact gx_seq (g1_ret (ex_less (ex_ix (ex_var 2 rfl (ex_callX (fx_Ldraw_2 T) Lets.no (fun h => nomatch h) (hr.mono (by decide)) T.m_Ldraw T.d_Ldraw.choose_spec.kp (ev_a (ax_cons (ex_var 0 rfl (ax_cons (ex_blt T.b_len bb_len (ax_cons (ex_var 2 rfl (ax_nil (bi hF fun v3 hv3 hF => cd_dLen .id hv3 (ax_nil (kx_nil (bi hF fun v4 hv4 hF => ⟨rfl, ⟨rfl, rfl, ⟨p_0, x0, _, v4, (fun w0 => (W w0)), rfl, rfl, fun _ => (hW0 _), hv4, bi hF fun v5 hv5 hF => id_dIx .id .id hv5 (⟨_, sub_refl, ret1 (W := W) (so hF) hk⟩)⟩⟩⟩)))))))))))))))))
theorem fx_Lodd_2 {pg : Program} {w : World} {K : PySem.W.Frag} {mg : Str → Option Value} {base : Heap} (T : Txt pg K mg base) : FnX pg w K mg base false 5 (He.fAd K ("_law_odd", none)) ([] : List PySem.Str) (fun ds zs M P R => ds.length = 2 ∧ zs.length = ([] : List PySem.Str).length ∧ tr_Lodd K (pick (ds ++ ([] ++ zs)) [0, 1]) M P R) :=
  fn_kwX T.d_Lodd.choose_spec sc_Lodd (ok_Lodd T) 2 ([] : List PySem.Str) [] [] [0, 1] (by simp) (fun _ => .nil) (fun kV D doc pm an cdv ct us mv ws e h1 h2 h3 => match us, mv, ws, h1, h2, h3 with | [_, _], [], [], _, _, _ => rfl) (fun us mv ws h1 h2 h3 => match us, mv, ws, h1, h2, h3 with | [_, _], [], [], _, _, _ => rfl)
def tr_Lheard (K : PySem.W.Frag) : ((D → Mem → Prop) → RX → Prop) → Mem → (D → Mem → Prop) → Prop := fun TT M P => ∃ x0 : Except Er D, (∀ P R, resX x0 (fun v => P v M) (fun e => R e.1 e.2 M) → TT P R) ∧ ∃ r : D, F_Lheard (Zk K) x0 = some r ∧ P r M
set_option maxHeartbeats 0 in
theorem ok_Lheard {pg : Program} {w : World} {K : PySem.W.Frag} {mg : Str → Option Value} {base : Heap} (T : Txt pg K mg base) : BodyL pg w K mg base false 15 (He.fAd K ("_law_heard", none)) "_law_heard" (defBody s_Lheard) (defScope s_Lheard) ["_law_call", "_law_caught", "e"] "_law_call" (tr_Lheard K) := fun cdv A outer s H F0 E f M TT P hgd0 hr t hlam hpo => by
  obtain ⟨x0, hTr, r, hF, hk⟩ := t
  unfold F_Lheard at hF
  refine gx_seq (g1_asg (ex_non (as_name 1 (?_) sc_Lheard.nd)))
  refine gx_seq (bi hF fun c2 hF hRr1 => g1_mid (fun ρ' M' => ∃ r1 : D, c2 = .go r1 ∧ ∃ j0 : Option D, ρ' = [some (.adr f), some r1, j0] ∧ M' = M) (g1_try 2 Lets.no (exT3 rfl T.g_ProbeError rfl T.g_AbsentError rfl T.g_TooMany) (fun pn1 xe1 J1 hJ1 hL1 hpo1 => ?_) (hN := sc_Lheard.nd)) ?_)
  · refine gx_seq (g1_ret (ex_less (ex_lst (ax_cons (hlam _ _ _ _ _ _ _ _ hJ1 hL1 rfl (hTr _ _ (exc_i hF (fun e3 hee3 hF => have hm_m5 := (ifS hF).1; have hF_m5 := (ifS hF).2; ⟨_, sub_refl, true, T.xm_0 _ hm_m5, (fun _ a_m5 J_m5 => ?_), (fun h => nomatch h)⟩) (fun v4 hv4 hF => ax_nil (⟨le_b rfl, ⟨_, sub_refl, ret0 (so (ctl_retS hRr1 (so hF).symm)) hk⟩⟩)))))))))
    · have hF := hF_m5
      show GX _ _ _ _ _ _
      refine gx_seq (g1_asg (ex_var 2 rfl (as_name 1 (?_) sc_Lheard.nd)))
      exact gx_nil ⟨_, (so hF).symm, ⟨_, rfl, rfl⟩⟩
  · rintro _ M ⟨r1, hg, ⟨_, rfl, rfl⟩⟩
    have hF := ctl_go hRr1 hg
    try dsimp only at hF
    show GX _ _ _ _ _ _
    refine gx_seq (g1_if (bi hF fun t15 ht15 hF => tx_fix t15 M (have hF := ht15; tx_pw (wx_and (tx_tru (ex_blt T.b_isinstance bb_isi (ax_cons (ex_var 1 rfl (ax_cons (ex_cls T.g_NoOutput (ax_nil (bi hF fun t8 ht8 hF => cd_isiE T.xc_1 T.ki_2 T.kp_3 (fun F v r => by cases r; exact .own _) ht8 (bi hF fun t9 ht9 hF => ⟨_, _, .id, ht9, ⟨fun q7 => have hF := iT q7 hF; wx_and (tx_tru (ex_blt T.b_isinstance bb_isi (ax_cons (ex_var 1 rfl (ax_cons (ex_tyn T.b_LookupError rfl (ax_nil (bi hF fun t11 ht11 hF => cd_isiE T.xc_1 T.ki_4 T.kp_5 (fun F v r => by cases r; exact .ty _) ht11 (bi hF fun t12 ht12 hF => ⟨_, _, .id, ht12, ⟨fun q10 => have hF := iT q10 hF; wx_and1 (tx_not (tx_tru (ex_blt T.b_isinstance bb_isi (ax_cons (ex_var 1 rfl (ax_cons (ex_cls T.g_ProbeError (ax_nil (bi hF fun t13 ht13 hF => cd_isiE T.xc_1 T.ki_6 T.kp_7 (fun F v r => by cases r; exact .own _) ht13 (bi hF fun t14 ht14 hF => ⟨_, _, .id, ht14, ⟨so hF, rfl⟩⟩)))))))))), fun q10 => ⟨so (iF q10 hF), rfl⟩⟩⟩))))))))), fun q7 => ⟨so (iF q7 hF), rfl⟩⟩⟩))))))))))) (⟨fun q6 => ?_, fun q6 => ?_⟩)))
    · have hF := iT q6 hF
      exact gx_seq (g1_ret (ex_less (ex_tup (ax_cons (ex_str (ax_cons (ex_xflL T.xf_output_8 (ex_var 1 rfl (bi hF fun z16 hz16 hF => ⟨z16, hz16, ax_nil (⟨le_b rfl, ⟨_, sub_refl, ret0 (so hF) hk⟩⟩)⟩)))))))))
    · have hF := iF q6 hF
      refine gx_nil ?_
      show GX _ _ _ _ _ _
      refine gx_seq (g1_if (bi hF fun t26 ht26 hF => tx_fix t26 M (have hF := ht26; tx_pw (wx_and (tx_tru (ex_blt T.b_isinstance bb_isi (ax_cons (ex_var 1 rfl (ax_cons (ex_cls T.g_InvalidRow (ax_nil (bi hF fun t19 ht19 hF => cd_isiE T.xc_1 T.ki_9 T.kp_10 (fun F v r => by cases r; exact .own _) ht19 (bi hF fun t20 ht20 hF => ⟨_, _, .id, ht20, ⟨fun q18 => have hF := iT q18 hF; wx_and (tx_tru (ex_blt T.b_isinstance bb_isi (ax_cons (ex_var 1 rfl (ax_cons (ex_tyn T.b_ValueError rfl (ax_nil (bi hF fun t22 ht22 hF => cd_isiE T.xc_1 T.ki_11 T.kp_12 (fun F v r => by cases r; exact .ty _) ht22 (bi hF fun t23 ht23 hF => ⟨_, _, .id, ht23, ⟨fun q21 => have hF := iT q21 hF; wx_and1 (tx_not (tx_tru (ex_blt T.b_isinstance bb_isi (ax_cons (ex_var 1 rfl (ax_cons (ex_cls T.g_AbsentError (ax_nil (bi hF fun t24 ht24 hF => cd_isiE T.xc_1 T.ki_13 T.kp_14 (fun F v r => by cases r; exact .own _) ht24 (bi hF fun t25 ht25 hF => ⟨_, _, .id, ht25, ⟨so hF, rfl⟩⟩)))))))))), fun q21 => ⟨so (iF q21 hF), rfl⟩⟩⟩))))))))), fun q18 => ⟨so (iF q18 hF), rfl⟩⟩⟩))))))))))) (⟨fun q17 => ?_, fun q17 => ?_⟩)))
      · have hF := iT q17 hF
        exact gx_seq (g1_ret (ex_less (ex_tup (ax_cons (ex_str (ax_cons (ex_xflL T.xf_value_15 (ex_var 1 rfl (bi hF fun z27 hz27 hF => ⟨z27, hz27, ax_nil (⟨le_b rfl, ⟨_, sub_refl, ret0 (so hF) hk⟩⟩)⟩)))))))))
      · have hF := iF q17 hF
        refine gx_nil ?_
        show GX _ _ _ _ _ _
        exact gx_seq (g1_ret (ex_less (ex_tup (ax_cons (ex_str (ax_nil (⟨le_b rfl, ⟨_, sub_refl, ret0 (so hF) hk⟩⟩)))))))
def tr_is_between (K : PySem.W.Frag) : TrB := fun ds M P R => ∃ x0 : D, ∃ x1 : D, ∃ x2 : D, ∃ r : D, ds = [x0, x1, x2] ∧ F_is_between x0 x1 x2 = some r ∧ P r M
set_option maxHeartbeats 0 in
theorem ok_is_between {pg : Program} {w : World} {K : PySem.W.Frag} {mg : Str → Option Value} {base : Heap} (T : Txt pg K mg base) : BodyX pg w K mg base false 2 (He.fAd K ("is_between", none)) "is_between" (defBody s_is_between) (defScope s_is_between) ["value", "least", "most"] ["value", "least", "most"] (tr_is_between K) := fun cdv hcv A outer s H F0 E ds M P R hgd0 hr t hL hpo kx => by
  obtain ⟨x0, x1, x2, r, rfl, hF, hk⟩ := t
  unfold F_is_between at hF
  exact gx_seq (g1_ret (ex_less (bi hF fun v11 hv11 hF => ex_fix v11 M (have hF := hv11; ex_andT (ex_blt T.b_isinstance bb_isi (ax_cons (ex_var 0 rfl (ax_cons (ex_tyn T.b_int bb_int (ax_nil (bi hF fun t2 ht2 hF => cd_dIsi (by decide) .id rfl ht2 (bi hF fun t3 ht3 hF => ⟨_, _, .id, ht3, fun q1 => have hF := iT q1 hF; ex_andT (ex_notT (ex_blt T.b_isinstance bb_isi (ax_cons (ex_var 0 rfl (ax_cons (ex_tyn T.b_bool bb_bool (ax_nil (bi hF fun t5 ht5 hF => cd_dIsi (by decide) .id rfl ht5 (bi hF fun t6 ht6 hF => ⟨_, _, .id, ht6, bi hF fun t7 ht7 hF => ⟨_, _, .id, ht7, fun q4 => have hF := iT q4 hF; ex_one (ex_chain (ex_var 1 rfl (ex_var 0 rfl (bi hF fun t9 ht9 hF => od_cLe .id .id ht9 ⟨_, rfl, fun q8 => have hF := iT q8 hF; ex_var 2 rfl (bi hF fun t10 ht10 hF => od_cLe .id .id ht10 ⟨so hF, rfl⟩), fun q8 => ⟨so (iF q8 hF), rfl⟩⟩)))), fun q4 => ⟨so (iF q4 hF), rfl⟩⟩⟩))))))))), fun q1 => ⟨so (iF q1 hF), rfl⟩⟩))))))))) (⟨_, sub_refl, ret0 (so hF) hk⟩))))
theorem fx_is_between_3 {pg : Program} {w : World} {K : PySem.W.Frag} {mg : Str → Option Value} {base : Heap} (T : Txt pg K mg base) : FnX pg w K mg base false 3 (He.fAd K ("is_between", none)) ([] : List PySem.Str) (fun ds zs M P R => ds.length = 3 ∧ zs.length = ([] : List PySem.Str).length ∧ tr_is_between K (pick (ds ++ ([] ++ zs)) [0, 1, 2]) M P R) :=
  fn_kwX T.d_is_between.choose_spec sc_is_between (ok_is_between T) 3 ([] : List PySem.Str) [] [] [0, 1, 2] (by simp) (fun _ => .nil) (fun kV D doc pm an cdv ct us mv ws e h1 h2 h3 => match us, mv, ws, h1, h2, h3 with | [_, _, _], [], [], _, _, _ => rfl) (fun us mv ws h1 h2 h3 => match us, mv, ws, h1, h2, h3 with | [_, _, _], [], [], _, _, _ => rfl)
def tr_ends_with_letter (K : PySem.W.Frag) : TrB := fun ds M P R => ∃ x0 : D, ∃ r : D, ds = [x0] ∧ F_ends_with_letter x0 = some r ∧ P r M
set_option maxHeartbeats 0 in
theorem ok_ends_with_letter {pg : Program} {w : World} {K : PySem.W.Frag} {mg : Str → Option Value} {base : Heap} (T : Txt pg K mg base) : BodyX pg w K mg base false 2 (He.fAd K ("ends_with_letter", none)) "ends_with_letter" (defBody s_ends_with_letter) (defScope s_ends_with_letter) ["row"] ["row"] (tr_ends_with_letter K) := fun cdv hcv A outer s H F0 E ds M P R hgd0 hr t hL hpo kx => by
  obtain ⟨x0, r, rfl, hF, hk⟩ := t
  unfold F_ends_with_letter at hF
  exact gx_seq (g1_ret (ex_less (bi hF fun v7 hv7 hF => ex_fix v7 M (have hF := hv7; ex_andT (ex_blt T.b_isinstance bb_isi (ax_cons (ex_ix (ex_var 0 rfl (ex_dNeg (ex_int ⟨_, _, .id, rfl, bi hF fun v2 hv2 hF => id_dIx .id .id hv2 (ax_cons (ex_tyn T.b_str bb_str (ax_nil (bi hF fun t3 ht3 hF => cd_dIsi (by decide) .id rfl ht3 (bi hF fun t4 ht4 hF => ⟨_, _, .id, ht4, fun q1 => have hF := iT q1 hF; ex_one (ex_cmp (ex_ix (ex_var 0 rfl (ex_dNeg (ex_int ⟨_, _, .id, rfl, bi hF fun v5 hv5 hF => id_dIx .id .id hv5 (ex_tup (ax_cons (ex_gstr T.g_GENERATE (ax_cons (ex_gstr T.g_KILL (ax_nil (⟨le_b rfl, bi hF fun t6 ht6 hF => od_cIn .id .id ht6 (⟨so hF, rfl⟩)⟩)))))))⟩))))), fun q1 => ⟨so (iF q1 hF), rfl⟩⟩)))))⟩))))))) (⟨_, sub_refl, ret0 (so hF) hk⟩))))
theorem fx_ends_with_letter_1 {pg : Program} {w : World} {K : PySem.W.Frag} {mg : Str → Option Value} {base : Heap} (T : Txt pg K mg base) : FnX pg w K mg base false 3 (He.fAd K ("ends_with_letter", none)) ([] : List PySem.Str) (fun ds zs M P R => ds.length = 1 ∧ zs.length = ([] : List PySem.Str).length ∧ tr_ends_with_letter K (pick (ds ++ ([] ++ zs)) [0]) M P R) :=
  fn_kwX T.d_ends_with_letter.choose_spec sc_ends_with_letter (ok_ends_with_letter T) 1 ([] : List PySem.Str) [] [] [0] (by simp) (fun _ => .nil) (fun kV D doc pm an cdv ct us mv ws e h1 h2 h3 => match us, mv, ws, h1, h2, h3 with | [_], [], [], _, _, _ => rfl) (fun us mv ws h1 h2 h3 => match us, mv, ws, h1, h2, h3 with | [_], [], [], _, _, _ => rfl)
def tr_are_row_positions (K : PySem.W.Frag) : TrB := fun ds M P R => ∃ x0 : D, ∃ x1 : D, ∃ x2 : D, ∃ r : D, ds = [x0, x1, x2] ∧ F_are_row_positions x0 x1 x2 = some r ∧ P r M
set_option maxHeartbeats 0 in
theorem ok_are_row_positions {pg : Program} {w : World} {K : PySem.W.Frag} {mg : Str → Option Value} {base : Heap} (T : Txt pg K mg base) : BodyX pg w K mg base false 4 (He.fAd K ("are_row_positions", none)) "are_row_positions" (defBody s_are_row_positions) (defScope s_are_row_positions) ["n", "values", "ring", "value"] ["n", "values", "ring"] (tr_are_row_positions K) := fun cdv hcv A outer s H F0 E ds M P R hgd0 hr t hL hpo kx => by
  obtain ⟨x0, x1, x2, r, rfl, hF, hk⟩ := t
  unfold F_are_row_positions at hF
  refine gx_seq (g1_if (tx_not (tx_tru (ex_blt T.b_all bb_all (ax_cons (ex_lc (own := [("value", 3)]) (hN := sc_are_row_positions.nd) rfl (bi hF fun l2 hl2 hF => ix_seqU (M2 := M) (ex_var 1 rfl (⟨rfl, rfl⟩)) hl2 (bi hF fun _ hz7 hF => bi hF fun y5 hy5 hF => lcF hy5 (chk_inv hz7).1 (fun x4 _ acc d6 hF hd6 => have fb_d6 := hd6; asb_name 3 (fun _ _ _ _ _ => ex_callX (fx_is_between_3 T) Lets.no (fun h => nomatch h) (hr.mono (by decide)) T.m_is_between T.d_is_between.choose_spec.kp (ev_a (ax_cons (ex_var 3 rfl (ax_cons (ex_ty T.b_int bb_int (ax_cons (ex_var 2 rfl (ax_nil (bi hF fun v9 hv9 hF => cd_dInt .id hv9 (ax_cons (ex_var 0 rfl (ax_nil (kx_nil (bi hF fun v10 hv10 hF => ⟨rfl, ⟨rfl, rfl, ⟨_, _, _, v10, rfl, hv10, ⟨so hF, rfl⟩⟩⟩⟩))))))))))))))) (hN := sc_are_row_positions.nd)) (ax_nil (bi hF fun v11 hv11 hF => cd_dAll rfl .id hv11 (bi hF fun t12 ht12 hF => ⟨_, _, .id, ht12, ⟨fun q1 => ?_, fun q1 => ?_⟩⟩)))))))))))
  · have hF := iT q1 hF
    exact gx_seq (g1_ret (ex_less (ex_bl (⟨_, sub_refl, ret0 (so hF) hk⟩))))
  · have hF := iF q1 hF
    refine gx_nil ?_
    show GX _ _ _ _ _ _
    exact gx_seq (g1_ret (ex_less (bi hF fun v21 hv21 hF => ex_fix v21 M (have hF := hv21; ex_andT (ex_cmp (ex_lenSetF rfl T.b_len T.b_set (ex_var 1 rfl (bi hF fun v14 hv14 hF => ⟨_, v14, .id, hv14, ex_blt T.b_len bb_len (ax_cons (ex_var 1 rfl (ax_nil (bi hF fun v15 hv15 hF => cd_dLen .id hv15 (bi hF fun t16 ht16 hF => od_cEq hr.units .id .id ht16 (bi hF fun t17 ht17 hF => ⟨_, _, .id, ht17, fun q13 => have hF := iT q13 hF; ex_one (ex_cmp (ex_int (ex_slice (ex_var 1 rfl (ox_none (ox_d (ex_dNeg (ex_int ⟨_, _, .id, rfl, bi hF fun i18 hi18 hF => ⟨_, _, .id, hi18, bi hF fun v19 hv19 hF => sd_dCut .id hv19 (bi hF fun t20 ht20 hF => od_cNin .id .id ht20 (⟨so hF, rfl⟩))⟩⟩)))))))), fun q13 => ⟨so (iF q13 hF), rfl⟩⟩))))))⟩))))) (⟨_, sub_refl, ret0 (so hF) hk⟩))))
theorem fx_are_row_positions_3 {pg : Program} {w : World} {K : PySem.W.Frag} {mg : Str → Option Value} {base : Heap} (T : Txt pg K mg base) : FnX pg w K mg base false 5 (He.fAd K ("are_row_positions", none)) ([] : List PySem.Str) (fun ds zs M P R => ds.length = 3 ∧ zs.length = ([] : List PySem.Str).length ∧ tr_are_row_positions K (pick (ds ++ ([] ++ zs)) [0, 1, 2]) M P R) :=
  fn_kwX T.d_are_row_positions.choose_spec sc_are_row_positions (ok_are_row_positions T) 3 ([] : List PySem.Str) [] [] [0, 1, 2] (by simp) (fun _ => .nil) (fun kV D doc pm an cdv ct us mv ws e h1 h2 h3 => match us, mv, ws, h1, h2, h3 with | [_, _, _], [], [], _, _, _ => rfl) (fun us mv ws h1 h2 h3 => match us, mv, ws, h1, h2, h3 with | [_, _, _], [], [], _, _, _ => rfl)
def tr_need_row (K : PySem.W.Frag) : TrB := fun ds M P R => ∃ x0 : D, ∃ x1 : D, ∃ x2 : D, ∃ r : Except Er D, ds = [x0, x1, x2] ∧ F_need_row (Zk K) x0 x1 x2 = some r ∧ resX r (fun v => P v M) (fun e => R e.1 e.2 M)
set_option maxHeartbeats 0 in
theorem ok_need_row {pg : Program} {w : World} {K : PySem.W.Frag} {mg : Str → Option Value} {base : Heap} (T : Txt pg K mg base) : BodyX pg w K mg base false 6 (He.fAd K ("need_row", none)) "need_row" (defBody s_need_row) (defScope s_need_row) ["n", "row", "ring", "positions"] ["n", "row", "ring"] (tr_need_row K) := fun cdv hcv A outer s H F0 E ds M P R hgd0 hr t hL hpo kx => by
  obtain ⟨x0, x1, x2, r, rfl, hF, hk⟩ := t
  unfold F_need_row at hF
  refine gx_seq (g1_if (bi hF fun t6 ht6 hF => tx_fix t6 M (have hF := ht6; tx_pw (wx_or (tx_not (tx_tru (ex_blt T.b_isinstance bb_isi (ax_cons (ex_var 1 rfl (ax_cons (ex_tyn T.b_tuple bb_tuple (ax_nil (bi hF fun t3 ht3 hF => cd_dIsi (by decide) .id rfl ht3 (bi hF fun t4 ht4 hF => ⟨_, _, .id, ht4, ⟨fun q2 => have hF := iF q2 hF; wx_or1 (tx_cmp (ex_var 1 rfl (ex_tup (ax_nil (⟨le_b rfl, bi hF fun t5 ht5 hF => od_cEq hr.units .id .id ht5 (⟨_, rfl, ⟨so hF, rfl⟩⟩)⟩))))), fun q2 => ⟨so (iT q2 hF), rfl⟩⟩⟩)))))))))))) (⟨fun q1 => ?_, fun q1 => ?_⟩)))
  · have hF := iT q1 hF
    exact gx_seq (g1_rs1 hL rfl T.er_InvalidRow basV T.d_InvalidRow___init__.choose_spec sc_InvalidRow___init__ ⟨_, _, _, _, rfl⟩ T.nf_InvalidRow_value (hr.mono (by decide)) (T.d_InvalidRow___init__.choose_spec.bindsN fun _ _ _ _ _ _ us hl => match us, hl with | [_, _], _ => rfl) T.g_InvalidRow (ex_var 1 rfl (⟨_, sub_refl, errX (q := fun e => R e.1 e.2 M) (so hF) hk⟩)))
  · have hF := iF q1 hF
    refine gx_nil ?_
    show GX _ _ _ _ _ _
    refine gx_seq (g1_asg (ex_var 1 rfl (as_name 3 (?_) sc_need_row.nd)))
    refine gx_seq (bi hF fun r8 hF hRr8 => g1_mid (fun ρ' M' => ρ' = [some x0, some x1, some x2, some r8] ∧ M' = M) (g1_if (bi hF fun t13 ht13 hF => tx_fix t13 M (have hF := ht13; tx_pw (wx_and (tx_not (tx_tru (ex_var 2 rfl (bi hF fun t10 ht10 hF => ⟨_, _, .id, ht10, ⟨fun q9 => have hF := iT q9 hF; wx_and1 (tx_tru (ex_callX (fx_ends_with_letter_1 T) Lets.no (fun h => nomatch h) (hr.mono (by decide)) T.m_ends_with_letter T.d_ends_with_letter.choose_spec.kp (ev_a (ax_cons (ex_var 1 rfl (ax_nil (kx_nil (bi hF fun v11 hv11 hF => ⟨rfl, ⟨rfl, rfl, ⟨_, v11, rfl, hv11, bi hF fun t12 ht12 hF => ⟨_, _, .id, ht12, ⟨so hF, rfl⟩⟩⟩⟩⟩)))))))), fun q9 => ⟨so (iF q9 hF), rfl⟩⟩⟩)))))) (⟨fun q7 => ?_, fun q7 => ?_⟩))) ?_)
    · have hF := iT q7 hF
      refine gx_seq (g1_asg (ex_slice (ex_var 1 rfl (ox_none (ox_d (ex_dNeg (ex_int ⟨_, _, .id, rfl, bi hF fun i14 hi14 hF => ⟨_, _, .id, hi14, bi hF fun v15 hv15 hF => sd_dCut .id hv15 (as_name 3 (?_) sc_need_row.nd)⟩⟩)))))))
      cases hF
      exact gx_nil ⟨rfl, rfl⟩
    · have hF := iF q7 hF
      cases hF
      exact gx_nil ⟨rfl, rfl⟩
    · rintro _ M ⟨rfl, rfl⟩
      have hF := hRr8
      try dsimp only at hF
      show GX _ _ _ _ _ _
      refine gx_seq (g1_if (bi hF fun t25 ht25 hF => tx_fix t25 M (have hF := ht25; tx_pw (wx_or (tx_not (tx_tru (ex_callX (fx_are_row_positions_3 T) Lets.no (fun h => nomatch h) (hr.mono (by decide)) T.m_are_row_positions T.d_are_row_positions.choose_spec.kp (ev_a (ax_cons (ex_var 0 rfl (ax_cons (ex_var 3 rfl (ax_cons (ex_var 2 rfl (ax_nil (kx_nil (bi hF fun v18 hv18 hF => ⟨rfl, ⟨rfl, rfl, ⟨_, _, _, v18, rfl, hv18, bi hF fun t19 ht19 hF => ⟨_, _, .id, ht19, ⟨fun q17 => have hF := iF q17 hF; wx_or1 (tx_pw (wx_and (tx_cmp (ex_blt T.b_len bb_len (ax_cons (ex_var 3 rfl (ax_nil (bi hF fun v21 hv21 hF => cd_dLen .id hv21 (ex_blt T.b_len bb_len (ax_cons (ex_var 1 rfl (ax_nil (bi hF fun v22 hv22 hF => cd_dLen .id hv22 (bi hF fun t23 ht23 hF => od_cLt .id .id ht23 (⟨_, rfl, ⟨fun q20 => have hF := iT q20 hF; wx_and1 (tx_cmp (ex_int (ex_var 3 rfl (bi hF fun t24 ht24 hF => od_cIn .id .id ht24 (⟨_, rfl, ⟨so hF, rfl⟩⟩))))), fun q20 => ⟨so (iF q20 hF), rfl⟩⟩⟩))))))))))))))), fun q17 => ⟨so (iT q17 hF), rfl⟩⟩⟩⟩⟩⟩))))))))))))))) (⟨fun q16 => ?_, fun q16 => ?_⟩)))
      · have hF := iT q16 hF
        exact gx_seq (g1_rs1 hL rfl T.er_InvalidRow basV T.d_InvalidRow___init__.choose_spec sc_InvalidRow___init__ ⟨_, _, _, _, rfl⟩ T.nf_InvalidRow_value (hr.mono (by decide)) (T.d_InvalidRow___init__.choose_spec.bindsN fun _ _ _ _ _ _ us hl => match us, hl with | [_, _], _ => rfl) T.g_InvalidRow (ex_var 1 rfl (⟨_, sub_refl, errX (q := fun e => R e.1 e.2 M) (so hF) hk⟩)))
      · have hF := iF q16 hF
        refine gx_nil ?_
        show GX _ _ _ _ _ _
        exact gx_nil (retX (p := fun v => P v M) (so hF) hk)
theorem fx_need_row_3 {pg : Program} {w : World} {K : PySem.W.Frag} {mg : Str → Option Value} {base : Heap} (T : Txt pg K mg base) : FnX pg w K mg base false 7 (He.fAd K ("need_row", none)) ([] : List PySem.Str) (fun ds zs M P R => ds.length = 3 ∧ zs.length = ([] : List PySem.Str).length ∧ tr_need_row K (pick (ds ++ ([] ++ zs)) [0, 1, 2]) M P R) :=
  fn_kwX T.d_need_row.choose_spec sc_need_row (ok_need_row T) 3 ([] : List PySem.Str) [] [] [0, 1, 2] (by simp) (fun _ => .nil) (fun kV D doc pm an cdv ct us mv ws e h1 h2 h3 => match us, mv, ws, h1, h2, h3 with | [_, _, _], [], [], _, _, _ => rfl) (fun us mv ws h1 h2 h3 => match us, mv, ws, h1, h2, h3 with | [_, _, _], [], [], _, _, _ => rfl)
def tr_ring_serial_wiring (K : PySem.W.Frag) : TrB := fun ds M P R => ∃ x0 : D, ∃ r : (List D × List D), ds = [x0] ∧ F_ring_serial_wiring x0 = some r ∧ (∀ q0 q1, (M) q0 = none → ((up M q0 (.lst r.1))) q1 = none → P (.tup [.adr q0, .adr q1]) (up (up M q0 (.lst r.1)) q1 (.lst r.2)))
set_option maxHeartbeats 0 in
theorem ok_ring_serial_wiring {pg : Program} {w : World} {K : PySem.W.Frag} {mg : Str → Option Value} {base : Heap} (T : Txt pg K mg base) : BodyX pg w K mg base false 2 (He.fAd K ("ring_serial_wiring", none)) "ring_serial_wiring" (defBody s_ring_serial_wiring) (defScope s_ring_serial_wiring) ["n", "cells", "whole", "position", "ends", "last"] ["n"] (tr_ring_serial_wiring K) := fun cdv hcv A outer s H F0 E ds M P R hgd0 hr t hL hpo kx => by
  obtain ⟨x0, r, rfl, hF, hk⟩ := t
  unfold F_ring_serial_wiring at hF
  refine gx_seq (g1_asg (ex_lstM (ax_nil (⟨le_b rfl, fun a1 ha1 => have fb_a1 := ha1; as_name 1 (?_) sc_ring_serial_wiring.nd⟩))))
  refine gx_seq (g1_asg (ex_int (as_name 2 (?_) sc_ring_serial_wiring.nd)))
  refine gx_seq (g1_for hpo rfl (bi hF fun v3 hv3 hF => bi hF fun l4 hl4 hF => ix_range2U (M2 := (up M a1 (.lst []))) T.b_range ((have hF := hv3; ax_cons (ex_int (ax_cons (ex_bin (ex_var 0 rfl (ex_int (bi hF fun v2 hv2 hF => od_dAdd .id .id hv2 (ax_nil ((by cases hF; exact ⟨rfl, rfl⟩))))))))))) hl4 (bi hF fun r6 hlr6 hF => forF hlr6 (fun s5 ρ' M' => ∃ s5_0 : D, ∃ s5_1 : List D, ∃ j0 : Option D, ∃ j1 : Option D, ∃ j2 : Option D, s5 = (s5_0, s5_1) ∧ ρ' = [some x0, some (.adr a1), some s5_0, j0, j1, j2] ∧ M' = (up M a1 (.lst s5_1))) ⟨_, _, _, _, _, rfl, rfl, rfl⟩ ?_ ?_)))
  · rintro x7 s5 _ hF _ _ ⟨s5_0, s5_1, _, _, _, rfl, rfl, rfl⟩
    try dsimp only at hF
    refine as_name 3 (?_) sc_ring_serial_wiring.nd
    refine gx_seq (g1_expr (ex_append (ex_var 1 rfl (⟨_, _, rfl, at0.get, ax_cons (ex_tup (ax_cons (ex_var 3 rfl (ax_cons (ex_var 2 rfl (ax_nil (⟨le_b rfl, ax_nil (bi hF fun _ h10 hF => ⟨_, _, _, rfl, at0, (chk_inv h10).1, ?_⟩)⟩)))))))⟩))))
    refine gx_seq (g1_asg (ex_bin (ex_var 0 rfl (ex_blt T.b_len bb_len (ax_cons (ex_var 1 rfl (ax_nil (bi hF fun v11 hv11 hF => cd_dLen (.ad at0.get rfl) hv11 (bi hF fun v12 hv12 hF => od_dAdd .id .id hv12 (as_name 2 (?_) sc_ring_serial_wiring.nd))))))))))
    exact gx_nil ⟨_, _, _, _, _, (so hF).symm, rfl, rfl⟩
  · rintro _ _ ⟨r6_0, r6_1, _, _, _, rfl, rfl, rfl⟩
    try dsimp only at hF
    show GX _ _ _ _ _ _
    refine gx_seq (g1_asg (ex_lstM (ax_nil (⟨le_b rfl, fun a13 ha13 => have ne_a1_a13 := (up_none ha13).1; have fb_a13 := (up_none ha13).2; as_name 4 (?_) sc_ring_serial_wiring.nd⟩))))
    refine gx_seq (g1_asg (ex_var 2 rfl (as_name 5 (?_) sc_ring_serial_wiring.nd)))
    refine gx_seq (g1_for hpo rfl (bi hF fun l14 hl14 hF => ix_range2U (M2 := (up (up M a1 (.lst r6_1)) a13 (.lst []))) T.b_range (ax_cons (ex_int (ax_cons (ex_var 0 rfl (ax_nil (⟨rfl, rfl⟩)))))) hl14 (bi hF fun r16 hlr16 hF => forF hlr16 (fun s15 ρ' M' => ∃ s15_0 : D, ∃ s15_1 : List D, ∃ s15_2 : List D, ∃ j0 : Option D, s15 = (s15_0, s15_1, s15_2) ∧ ρ' = [some x0, some (.adr a1), some r6_0, j0, some (.adr a13), some s15_0] ∧ M' = (up (up M a1 (.lst s15_1)) a13 (.lst s15_2))) ⟨_, _, _, _, rfl, rfl, rfl⟩ ?_ ?_)))
    · rintro x17 s15 _ hF _ _ ⟨s15_0, s15_1, s15_2, _, rfl, rfl, rfl⟩
      try dsimp only at hF
      refine as_name 3 (?_) sc_ring_serial_wiring.nd
      refine gx_seq (g1_expr (ex_append (ex_var 1 rfl (⟨_, _, rfl, (at1 ne_a1_a13 at0).get, ax_cons (ex_tup (ax_cons (ex_var 3 rfl (ax_cons (ex_var 5 rfl (ax_nil (⟨le_b rfl, ax_nil (bi hF fun _ h20 hF => ⟨_, _, _, rfl, (at1 ne_a1_a13 at0), (chk_inv h20).1, ?_⟩)⟩)))))))⟩))))
      refine gx_seq (g1_asg (ex_bin (ex_var 0 rfl (ex_blt T.b_len bb_len (ax_cons (ex_var 1 rfl (ax_nil (bi hF fun v21 hv21 hF => cd_dLen (.ad (at1 ne_a1_a13 at0).get rfl) hv21 (bi hF fun v22 hv22 hF => od_dAdd .id .id hv22 (as_name 5 (?_) sc_ring_serial_wiring.nd))))))))))
      refine gx_seq (g1_expr (ex_append (ex_var 4 rfl (⟨_, _, rfl, at0.get, ax_cons (ex_var 5 rfl (ax_nil (bi hF fun _ h23 hF => ⟨_, _, _, rfl, at0, (chk_inv h23).1, ?_⟩)))⟩))))
      exact gx_nil ⟨_, _, _, _, (so hF).symm, rfl, rfl⟩
    · rintro _ _ ⟨r16_0, r16_1, r16_2, _, rfl, rfl, rfl⟩
      try dsimp only at hF
      show GX _ _ _ _ _ _
      exact gx_seq (g1_ret (ex_less (ex_tup (ax_cons (ex_var 1 rfl (ax_cons (ex_bin (ex_var 4 rfl (ex_lst (ax_cons (ex_var 2 rfl (ax_nil (⟨le_b rfl, bi hF fun l24 hl24 hF => od_lAdd (.ad at0.get rfl) .id hl24 (fun a25 ha25 => have ne_a13_a25 := (up_none ha25).1; have ne_a1_a25 := (up_none (up_none ha25).2).1; have fb_a25 := (up_none (up_none ha25).2).2; ax_nil (⟨le_b rfl, _, (sub_keep (sub_drop (sub_keep sub_refl) (nn ne_a1_a13 fb_a13))), (by have e := so hF; cases e; exact hk a1 a25 fb_a1 (nn ne_a1_a25 fb_a25))⟩))⟩)))))))))))))
theorem fx_ring_serial_wiring_1 {pg : Program} {w : World} {K : PySem.W.Frag} {mg : Str → Option Value} {base : Heap} (T : Txt pg K mg base) : FnX pg w K mg base false 3 (He.fAd K ("ring_serial_wiring", none)) ([] : List PySem.Str) (fun ds zs M P R => ds.length = 1 ∧ zs.length = ([] : List PySem.Str).length ∧ tr_ring_serial_wiring K (pick (ds ++ ([] ++ zs)) [0]) M P R) :=
  fn_kwX T.d_ring_serial_wiring.choose_spec sc_ring_serial_wiring (ok_ring_serial_wiring T) 1 ([] : List PySem.Str) [] [] [0] (by simp) (fun _ => .nil) (fun kV D doc pm an cdv ct us mv ws e h1 h2 h3 => match us, mv, ws, h1, h2, h3 with | [_], [], [], _, _, _ => rfl) (fun us mv ws h1 h2 h3 => match us, mv, ws, h1, h2, h3 with | [_], [], [], _, _, _ => rfl)
def tr_serial_wiring (K : PySem.W.Frag) : TrB := fun ds M P R => ∃ x0 : D, ∃ r : (List D × List D), ds = [x0] ∧ F_serial_wiring x0 = some r ∧ (∀ q0 q1, (M) q0 = none → ((up M q0 (.lst r.1))) q1 = none → P (.tup [.adr q0, .adr q1]) (up (up M q0 (.lst r.1)) q1 (.lst r.2)))
set_option maxHeartbeats 0 in
theorem ok_serial_wiring {pg : Program} {w : World} {K : PySem.W.Frag} {mg : Str → Option Value} {base : Heap} (T : Txt pg K mg base) : BodyX pg w K mg base false 2 (He.fAd K ("serial_wiring", none)) "serial_wiring" (defBody s_serial_wiring) (defScope s_serial_wiring) ["n", "ends", "cells", "position"] ["n"] (tr_serial_wiring K) := fun cdv hcv A outer s H F0 E ds M P R hgd0 hr t hL hpo kx => by
  obtain ⟨x0, r, rfl, hF, hk⟩ := t
  unfold F_serial_wiring at hF
  refine gx_seq (g1_asg (ex_lstM (ax_cons (ex_int (ax_nil (⟨le_b rfl, fun a1 ha1 => have fb_a1 := ha1; as_name 1 (?_) sc_serial_wiring.nd⟩))))))
  refine gx_seq (g1_asg (ex_lstM (ax_nil (⟨le_b rfl, fun a2 ha2 => have ne_a1_a2 := (up_none ha2).1; have fb_a2 := (up_none ha2).2; as_name 2 (?_) sc_serial_wiring.nd⟩))))
  refine gx_seq (g1_for hpo rfl (bi hF fun v4 hv4 hF => bi hF fun l5 hl5 hF => ix_range2U (M2 := (up (up M a1 (.lst [(D.int 0)])) a2 (.lst []))) T.b_range ((have hF := hv4; ax_cons (ex_int (ax_cons (ex_bin (ex_var 0 rfl (ex_int (bi hF fun v3 hv3 hF => od_dAdd .id .id hv3 (ax_nil ((by cases hF; exact ⟨rfl, rfl⟩))))))))))) hl5 (bi hF fun r7 hlr7 hF => forF hlr7 (fun s6 ρ' M' => ∃ s6_0 : List D, ∃ s6_1 : List D, ∃ j0 : Option D, s6 = (s6_0, s6_1) ∧ ρ' = [some x0, some (.adr a1), some (.adr a2), j0] ∧ M' = (up (up M a1 (.lst s6_1)) a2 (.lst s6_0))) ⟨_, _, _, rfl, rfl, rfl⟩ ?_ ?_)))
  · rintro x8 s6 _ hF _ _ ⟨s6_0, s6_1, _, rfl, rfl, rfl⟩
    try dsimp only at hF
    refine as_name 3 (?_) sc_serial_wiring.nd
    refine gx_seq (g1_expr (ex_append (ex_var 2 rfl (⟨_, _, rfl, at0.get, ax_cons (ex_tup (ax_cons (ex_var 3 rfl (ax_cons (ex_ix (ex_var 1 rfl (ex_dNeg (ex_int ⟨_, _, .id, rfl, bi hF fun v11 hv11 hF => id_dIx (.ad (at1 ne_a1_a2 at0).get rfl) .id hv11 (ax_nil (⟨le_b rfl, ax_nil (bi hF fun _ h12 hF => ⟨_, _, _, rfl, at0, (chk_inv h12).1, ?_⟩)⟩))⟩))))))))⟩))))
    refine gx_seq (g1_expr (ex_append (ex_var 1 rfl (⟨_, _, rfl, (at1 ne_a1_a2 at0).get, ax_cons (ex_bin (ex_var 0 rfl (ex_blt T.b_len bb_len (ax_cons (ex_var 2 rfl (ax_nil (bi hF fun v13 hv13 hF => cd_dLen (.ad at0.get rfl) hv13 (bi hF fun v14 hv14 hF => od_dAdd .id .id hv14 (ax_nil (bi hF fun _ h15 hF => ⟨_, _, _, rfl, (at1 ne_a1_a2 at0), (chk_inv h15).1, ?_⟩))))))))))⟩))))
    exact gx_nil ⟨_, _, _, (so hF).symm, rfl, rfl⟩
  · rintro _ _ ⟨r7_0, r7_1, _, rfl, rfl, rfl⟩
    try dsimp only at hF
    show GX _ _ _ _ _ _
    exact gx_seq (g1_ret (ex_less (ex_tup (ax_cons (ex_var 2 rfl (ax_cons (ex_var 1 rfl (ax_nil (⟨le_b rfl, _, (sub_up (sub_up (sub_drop (sub_drop sub_refl fb_a1) (nn ne_a1_a2 fb_a2)) (At.get at0)) (At.get (at1 ne_a1_a2 at0))), (by have e := so hF; cases e; exact hk a2 a1 fb_a2 (nn (Ne.symm ne_a1_a2) fb_a1))⟩)))))))))
theorem fx_serial_wiring_1 {pg : Program} {w : World} {K : PySem.W.Frag} {mg : Str → Option Value} {base : Heap} (T : Txt pg K mg base) : FnX pg w K mg base false 3 (He.fAd K ("serial_wiring", none)) ([] : List PySem.Str) (fun ds zs M P R => ds.length = 1 ∧ zs.length = ([] : List PySem.Str).length ∧ tr_serial_wiring K (pick (ds ++ ([] ++ zs)) [0]) M P R) :=
  fn_kwX T.d_serial_wiring.choose_spec sc_serial_wiring (ok_serial_wiring T) 1 ([] : List PySem.Str) [] [] [0] (by simp) (fun _ => .nil) (fun kV D doc pm an cdv ct us mv ws e h1 h2 h3 => match us, mv, ws, h1, h2, h3 with | [_], [], [], _, _, _ => rfl) (fun us mv ws h1 h2 h3 => match us, mv, ws, h1, h2, h3 with | [_], [], [], _, _, _ => rfl)
def tr_chained (K : PySem.W.Frag) : TrB := fun ds M P R => ∃ x0 : D, ∃ (p_0 : Addr) (x1 : List D), ∃ x2 : D, ∃ x3 : D, ∃ r : D × List D, ∃ W : D → Mem, ds = [x0, .adr p_0, x2, x3] ∧ M = W (.lst x1) ∧ (∀ z0, At (W z0) p_0 z0 (fun z => W z)) ∧ F_chained x0 x1 x2 x3 = some r ∧ P r.1 (W (.lst r.2))
set_option maxHeartbeats 0 in
theorem ok_chained {pg : Program} {w : World} {K : PySem.W.Frag} {mg : Str → Option Value} {base : Heap} (T : Txt pg K mg base) : BodyX pg w K mg base false 2 (He.fAd K ("chained", none)) "chained" (defBody s_chained) (defScope s_chained) ["n", "cells", "positions", "last", "position"] ["n", "cells", "positions", "last"] (tr_chained K) := fun cdv hcv A outer s H F0 E ds M P R hgd0 hr t hL hpo kx => by
  obtain ⟨x0, p_0, x1, x2, x3, r, W, rfl, rfl, hW0, hF, hk⟩ := t
  unfold F_chained at hF
  refine gx_seq (g1_for hpo rfl (bi hF fun v2 hv2 hF => bi hF fun l3 hl3 hF => ix_seqU (M2 := (W (.lst x1))) ((have hF := hv2; bi hF fun v1 hv1 hF => ex_revF (M2 := (W (.lst x1))) .id (ex_var 2 rfl (⟨rfl, rfl⟩)) hv1 (⟨so hF, rfl⟩))) hl3 (bi hF fun r5 hlr5 hF => forF hlr5 (fun s4 ρ' M' => ∃ s4_0 : D, ∃ s4_1 : List D, ∃ j0 : Option D, s4 = (s4_0, s4_1) ∧ ρ' = [some x0, some (.adr p_0), some x2, some s4_0, j0] ∧ M' = (W (.lst s4_1))) ⟨_, _, _, rfl, rfl, rfl⟩ ?_ ?_)))
  · rintro x6 s4 _ hF _ _ ⟨s4_0, s4_1, _, rfl, rfl, rfl⟩
    try dsimp only at hF
    refine as_name 4 (?_) sc_chained.nd
    refine gx_seq (g1_expr (ex_append (ex_var 1 rfl (⟨_, _, rfl, (hW0 _).get, ax_cons (ex_tup (ax_cons (ex_var 4 rfl (ax_cons (ex_var 3 rfl (ax_nil (⟨le_b rfl, ax_nil (bi hF fun _ h9 hF => ⟨_, _, _, rfl, (hW0 _), (chk_inv h9).1, ?_⟩)⟩)))))))⟩))))
    refine gx_seq (g1_asg (ex_bin (ex_var 0 rfl (ex_blt T.b_len bb_len (ax_cons (ex_var 1 rfl (ax_nil (bi hF fun v10 hv10 hF => cd_dLen (.ad (hW0 _).get rfl) hv10 (bi hF fun v11 hv11 hF => od_dAdd .id .id hv11 (as_name 3 (?_) sc_chained.nd))))))))))
    exact gx_nil ⟨_, _, _, (so hF).symm, rfl, rfl⟩
  · rintro _ _ ⟨r5_0, r5_1, _, rfl, rfl, rfl⟩
    try dsimp only at hF
    show GX _ _ _ _ _ _
    exact gx_seq (g1_ret (ex_less (ex_var 3 rfl (⟨_, sub_refl, ret1 (W := W) (so hF) hk⟩))))
theorem fx_chained_4 {pg : Program} {w : World} {K : PySem.W.Frag} {mg : Str → Option Value} {base : Heap} (T : Txt pg K mg base) : FnX pg w K mg base false 3 (He.fAd K ("chained", none)) ([] : List PySem.Str) (fun ds zs M P R => ds.length = 4 ∧ zs.length = ([] : List PySem.Str).length ∧ tr_chained K (pick (ds ++ ([] ++ zs)) [0, 1, 2, 3]) M P R) :=
  fn_kwX T.d_chained.choose_spec sc_chained (ok_chained T) 4 ([] : List PySem.Str) [] [] [0, 1, 2, 3] (by simp) (fun _ => .nil) (fun kV D doc pm an cdv ct us mv ws e h1 h2 h3 => match us, mv, ws, h1, h2, h3 with | [_, _, _, _], [], [], _, _, _ => rfl) (fun us mv ws h1 h2 h3 => match us, mv, ws, h1, h2, h3 with | [_, _, _, _], [], [], _, _, _ => rfl)
def tr_is_sequence (K : PySem.W.Frag) : TrB := fun ds M P R => ∃ x0 : D, ∃ r : D, ds = [x0] ∧ F_is_sequence x0 = some r ∧ P r M
set_option maxHeartbeats 0 in
theorem ok_is_sequence {pg : Program} {w : World} {K : PySem.W.Frag} {mg : Str → Option Value} {base : Heap} (T : Txt pg K mg base) : BodyX pg w K mg base false 2 (He.fAd K ("is_sequence", none)) "is_sequence" (defBody s_is_sequence) (defScope s_is_sequence) ["value"] ["value"] (tr_is_sequence K) := fun cdv hcv A outer s H F0 E ds M P R hgd0 hr t hL hpo kx => by
  obtain ⟨x0, r, rfl, hF, hk⟩ := t
  unfold F_is_sequence at hF
  exact gx_seq (g1_ret (ex_less (ex_blt T.b_isinstance bb_isi (ax_cons (ex_var 0 rfl (ax_cons (ex_tup (ax_cons (ex_tyn T.b_tuple bb_tuple (ax_cons (ex_tyn T.b_list bb_list (ax_nil (⟨le_b rfl, ax_nil (bi hF fun t1 ht1 hF => cd_isiTT T.tt_16 ht1 (⟨_, sub_refl, ret0 (so hF) hk⟩))⟩)))))))))))))
theorem fx_is_sequence_1 {pg : Program} {w : World} {K : PySem.W.Frag} {mg : Str → Option Value} {base : Heap} (T : Txt pg K mg base) : FnX pg w K mg base false 3 (He.fAd K ("is_sequence", none)) ([] : List PySem.Str) (fun ds zs M P R => ds.length = 1 ∧ zs.length = ([] : List PySem.Str).length ∧ tr_is_sequence K (pick (ds ++ ([] ++ zs)) [0]) M P R) :=
  fn_kwX T.d_is_sequence.choose_spec sc_is_sequence (ok_is_sequence T) 1 ([] : List PySem.Str) [] [] [0] (by simp) (fun _ => .nil) (fun kV D doc pm an cdv ct us mv ws e h1 h2 h3 => match us, mv, ws, h1, h2, h3 with | [_], [], [], _, _, _ => rfl) (fun us mv ws h1 h2 h3 => match us, mv, ws, h1, h2, h3 with | [_], [], [], _, _, _ => rfl)
def tr_is_row (K : PySem.W.Frag) : TrB := fun ds M P R => ∃ x0 : D, ∃ x1 : D, ∃ r : D, ds = [x0, x1] ∧ F_is_row x0 x1 = some r ∧ P r M
set_option maxHeartbeats 0 in
theorem ok_is_row {pg : Program} {w : World} {K : PySem.W.Frag} {mg : Str → Option Value} {base : Heap} (T : Txt pg K mg base) : BodyX pg w K mg base false 2 (He.fAd K ("is_row", none)) "is_row" (defBody s_is_row) (defScope s_is_row) ["value", "length"] ["value", "length"] (tr_is_row K) := fun cdv hcv A outer s H F0 E ds M P R hgd0 hr t hL hpo kx => by
  obtain ⟨x0, x1, r, rfl, hF, hk⟩ := t
  unfold F_is_row at hF
  exact gx_seq (g1_ret (ex_less (bi hF fun v6 hv6 hF => ex_fix v6 M (have hF := hv6; ex_andT (ex_blt T.b_isinstance bb_isi (ax_cons (ex_var 0 rfl (ax_cons (ex_tyn T.b_tuple bb_tuple (ax_nil (bi hF fun t2 ht2 hF => cd_dIsi (by decide) .id rfl ht2 (bi hF fun t3 ht3 hF => ⟨_, _, .id, ht3, fun q1 => have hF := iT q1 hF; ex_one (ex_cmp (ex_blt T.b_len bb_len (ax_cons (ex_var 0 rfl (ax_nil (bi hF fun v4 hv4 hF => cd_dLen .id hv4 (ex_var 1 rfl (bi hF fun t5 ht5 hF => od_cEq hr.units .id .id ht5 (⟨so hF, rfl⟩))))))))), fun q1 => ⟨so (iF q1 hF), rfl⟩⟩))))))))) (⟨_, sub_refl, ret0 (so hF) hk⟩))))
theorem fx_is_row_2 {pg : Program} {w : World} {K : PySem.W.Frag} {mg : Str → Option Value} {base : Heap} (T : Txt pg K mg base) : FnX pg w K mg base false 3 (He.fAd K ("is_row", none)) ([] : List PySem.Str) (fun ds zs M P R => ds.length = 2 ∧ zs.length = ([] : List PySem.Str).length ∧ tr_is_row K (pick (ds ++ ([] ++ zs)) [0, 1]) M P R) :=
  fn_kwX T.d_is_row.choose_spec sc_is_row (ok_is_row T) 2 ([] : List PySem.Str) [] [] [0, 1] (by simp) (fun _ => .nil) (fun kV D doc pm an cdv ct us mv ws e h1 h2 h3 => match us, mv, ws, h1, h2, h3 with | [_, _], [], [], _, _, _ => rfl) (fun us mv ws h1 h2 h3 => match us, mv, ws, h1, h2, h3 with | [_, _], [], [], _, _, _ => rfl)
def tr_is_cell (K : PySem.W.Frag) : TrB := fun ds M P R => ∃ x0 : D, ∃ x1 : D, ∃ x2 : D, ∃ r : D, ds = [x0, x1, x2] ∧ F_is_cell x0 x1 x2 = some r ∧ P r M
set_option maxHeartbeats 0 in
theorem ok_is_cell {pg : Program} {w : World} {K : PySem.W.Frag} {mg : Str → Option Value} {base : Heap} (T : Txt pg K mg base) : BodyX pg w K mg base false 4 (He.fAd K ("is_cell", none)) "is_cell" (defBody s_is_cell) (defScope s_is_cell) ["value", "lowest", "top"] ["value", "lowest", "top"] (tr_is_cell K) := fun cdv hcv A outer s H F0 E ds M P R hgd0 hr t hL hpo kx => by
  obtain ⟨x0, x1, x2, r, rfl, hF, hk⟩ := t
  unfold F_is_cell at hF
  exact gx_seq (g1_ret (ex_less (bi hF fun v12 hv12 hF => ex_fix v12 M (have hF := hv12; ex_andT (ex_callX (fx_is_row_2 T) Lets.no (fun h => nomatch h) (hr.mono (by decide)) T.m_is_row T.d_is_row.choose_spec.kp (ev_a (ax_cons (ex_var 0 rfl (ax_cons (ex_int (ax_nil (kx_nil (bi hF fun v2 hv2 hF => ⟨rfl, ⟨rfl, rfl, ⟨_, _, v2, rfl, hv2, bi hF fun t3 ht3 hF => ⟨_, _, .id, ht3, fun q1 => have hF := iT q1 hF; ex_andT (ex_callX (fx_is_between_3 T) Lets.no (fun h => nomatch h) (hr.mono (by decide)) T.m_is_between T.d_is_between.choose_spec.kp (ev_a (ax_cons (ex_ix (ex_var 0 rfl (ex_int (bi hF fun v5 hv5 hF => id_dIx .id .id hv5 (ax_cons (ex_var 1 rfl (ax_cons (ex_bin (ex_var 2 rfl (ex_int (bi hF fun v6 hv6 hF => od_dSub .id .id hv6 (ax_nil (kx_nil (bi hF fun v7 hv7 hF => ⟨rfl, ⟨rfl, rfl, ⟨_, _, _, v7, rfl, hv7, bi hF fun t8 ht8 hF => ⟨_, _, .id, ht8, fun q4 => have hF := iT q4 hF; ex_one (ex_callX (fx_is_between_3 T) Lets.no (fun h => nomatch h) (hr.mono (by decide)) T.m_is_between T.d_is_between.choose_spec.kp (ev_a (ax_cons (ex_ix (ex_var 0 rfl (ex_int (bi hF fun v9 hv9 hF => id_dIx .id .id hv9 (ax_cons (ex_var 1 rfl (ax_cons (ex_bin (ex_var 2 rfl (ex_int (bi hF fun v10 hv10 hF => od_dSub .id .id hv10 (ax_nil (kx_nil (bi hF fun v11 hv11 hF => ⟨rfl, ⟨rfl, rfl, ⟨_, _, _, v11, rfl, hv11, ⟨so hF, rfl⟩⟩⟩⟩))))))))))))))))), fun q4 => ⟨so (iF q4 hF), rfl⟩⟩⟩⟩⟩))))))))))))))))), fun q1 => ⟨so (iF q1 hF), rfl⟩⟩⟩⟩⟩)))))))))) (⟨_, sub_refl, ret0 (so hF) hk⟩))))
theorem fx_is_cell_3 {pg : Program} {w : World} {K : PySem.W.Frag} {mg : Str → Option Value} {base : Heap} (T : Txt pg K mg base) : FnX pg w K mg base false 5 (He.fAd K ("is_cell", none)) ([] : List PySem.Str) (fun ds zs M P R => ds.length = 3 ∧ zs.length = ([] : List PySem.Str).length ∧ tr_is_cell K (pick (ds ++ ([] ++ zs)) [0, 1, 2]) M P R) :=
  fn_kwX T.d_is_cell.choose_spec sc_is_cell (ok_is_cell T) 3 ([] : List PySem.Str) [] [] [0, 1, 2] (by simp) (fun _ => .nil) (fun kV D doc pm an cdv ct us mv ws e h1 h2 h3 => match us, mv, ws, h1, h2, h3 with | [_, _, _], [], [], _, _, _ => rfl) (fun us mv ws h1 h2 h3 => match us, mv, ws, h1, h2, h3 with | [_, _, _], [], [], _, _, _ => rfl)
def tr_checked_cells (K : PySem.W.Frag) : TrB := fun ds M P R => ∃ x0 : D, ∃ x1 : D, ∃ x2 : D, ∃ r : Except Er D, ds = [x0, x1, x2] ∧ F_checked_cells (Zk K) x0 x1 x2 = some r ∧ resX r (fun v => P v M) (fun e => R e.1 e.2 M)
set_option maxHeartbeats 0 in
theorem ok_checked_cells {pg : Program} {w : World} {K : PySem.W.Frag} {mg : Str → Option Value} {base : Heap} (T : Txt pg K mg base) : BodyX pg w K mg base false 6 (He.fAd K ("checked_cells", none)) "checked_cells" (defBody s_checked_cells) (defScope s_checked_cells) ["n", "cells", "lowest", "index", "cell"] ["n", "cells", "lowest"] (tr_checked_cells K) := fun cdv hcv A outer s H F0 E ds M P R hgd0 hr t hL hpo kx => by
  obtain ⟨x0, x1, x2, r, rfl, hF, hk⟩ := t
  unfold F_checked_cells at hF
  refine gx_seq (g1_if (bi hF fun t7 ht7 hF => tx_fix t7 M (have hF := ht7; tx_pw (wx_or (tx_not (tx_tru (ex_callX (fx_is_sequence_1 T) Lets.no (fun h => nomatch h) (hr.mono (by decide)) T.m_is_sequence T.d_is_sequence.choose_spec.kp (ev_a (ax_cons (ex_var 1 rfl (ax_nil (kx_nil (bi hF fun v3 hv3 hF => ⟨rfl, ⟨rfl, rfl, ⟨_, v3, rfl, hv3, bi hF fun t4 ht4 hF => ⟨_, _, .id, ht4, ⟨fun q2 => have hF := iF q2 hF; wx_or1 (tx_cmp (ex_blt T.b_len bb_len (ax_cons (ex_var 1 rfl (ax_nil (bi hF fun v5 hv5 hF => cd_dLen .id hv5 (ex_gint T.g_MOST_CELLS (bi hF fun t6 ht6 hF => od_cGt .id .id ht6 (⟨_, rfl, ⟨so hF, rfl⟩⟩))))))))), fun q2 => ⟨so (iT q2 hF), rfl⟩⟩⟩⟩⟩⟩))))))))))) (⟨fun q1 => ?_, fun q1 => ?_⟩)))
  · have hF := iT q1 hF
    exact gx_seq (g1_rs1 hL rfl T.er_InvalidCells basV T.d_InvalidCells___init__.choose_spec sc_InvalidCells___init__ ⟨_, _, _, _, rfl⟩ T.nf_InvalidCells_index (hr.mono (by decide)) (T.d_InvalidCells___init__.choose_spec.bindsN fun _ _ _ _ _ _ us hl => match us, hl with | [_, _], _ => rfl) T.g_InvalidCells (ex_non (⟨_, sub_refl, errX (q := fun e => R e.1 e.2 M) (so hF) hk⟩)))
  · have hF := iF q1 hF
    refine gx_nil ?_
    show GX _ _ _ _ _ _
    refine gx_seq (g1_for hpo rfl (bi hF fun l8 hl8 hF => ix_enumU (M2 := M) T.b_enumerate (ax_cons (ex_var 1 rfl (ax_nil (⟨rfl, rfl⟩)))) hl8 (bi hF fun c12 hlc12 hOc12 => forC hlc12 (fun s9 ρ' M' => ∃ j0 : Option D, ∃ j1 : Option D, ρ' = [some x0, some x1, some x2, j0, j1] ∧ M' = M) ⟨_, _, rfl, rfl⟩ ?_ ?_)))
    · rintro x11 s9 b13 hF hbb13 _ M ⟨_, _, rfl, rfl⟩
      try dsimp only at hF
      refine bi hF fun p14 hp14 hF => as_eq (un2_eq hp14) (as_tup rfl rfl (asd_cons (as_name 3 (asd_cons (as_name 4 (asd_nil (?_)) sc_checked_cells.nd)) sc_checked_cells.nd)))
      refine gx_seq (g1_if (tx_not (tx_tru (ex_callX (fx_is_cell_3 T) Lets.no (fun h => nomatch h) (hr.mono (by decide)) T.m_is_cell T.d_is_cell.choose_spec.kp (ev_a (ax_cons (ex_var 4 rfl (ax_cons (ex_var 2 rfl (ax_cons (ex_bin (ex_bin (ex_var 0 rfl (ex_int (bi hF fun v16 hv16 hF => od_dAdd .id .id hv16 (ex_var 3 rfl (bi hF fun v17 hv17 hF => od_dAdd .id .id hv17 (ax_nil (kx_nil (bi hF fun v18 hv18 hF => ⟨rfl, ⟨rfl, rfl, ⟨_, _, _, v18, rfl, hv18, bi hF fun t19 ht19 hF => ⟨_, _, .id, ht19, ⟨fun q15 => ?_, fun q15 => ?_⟩⟩⟩⟩⟩))))))))))))))))))))
      · have hF := iT q15 hF
        exact gx_seq (g1_rs1 hL rfl T.er_InvalidCells basV T.d_InvalidCells___init__.choose_spec sc_InvalidCells___init__ ⟨_, _, _, _, rfl⟩ T.nf_InvalidCells_index (hr.mono (by decide)) (T.d_InvalidCells___init__.choose_spec.bindsN fun _ _ _ _ _ _ us hl => match us, hl with | [_, _], _ => rfl) T.g_InvalidCells (ex_var 3 rfl (⟨_, sub_refl, errX (q := fun e => R e.1 e.2 M) (so (ctl_retS hOc12 (hbb13 _ (so hF).symm))) hk⟩)))
      · have hF := iF q15 hF
        refine gx_nil ?_
        show GX _ _ _ _ _ _
        exact gx_nil ⟨_, (so hF).symm, ⟨_, _, rfl, rfl⟩⟩
    · rintro r10 hg _ M ⟨_, _, rfl, rfl⟩
      have hF := ctl_go hOc12 hg
      try dsimp only at hF
      show GX _ _ _ _ _ _
      exact gx_seq (g1_ret (ex_less (ex_ty T.b_tuple bb_tuple (ax_cons (ex_var 1 rfl (ax_nil (bi hF fun l20 hl20 hF => cd_lTuple rfl .id hl20 (⟨_, sub_refl, retX (p := fun v => P v M) (so hF) hk⟩))))))))
theorem fx_checked_cells_3 {pg : Program} {w : World} {K : PySem.W.Frag} {mg : Str → Option Value} {base : Heap} (T : Txt pg K mg base) : FnX pg w K mg base false 7 (He.fAd K ("checked_cells", none)) ([] : List PySem.Str) (fun ds zs M P R => ds.length = 3 ∧ zs.length = ([] : List PySem.Str).length ∧ tr_checked_cells K (pick (ds ++ ([] ++ zs)) [0, 1, 2]) M P R) :=
  fn_kwX T.d_checked_cells.choose_spec sc_checked_cells (ok_checked_cells T) 3 ([] : List PySem.Str) [] [] [0, 1, 2] (by simp) (fun _ => .nil) (fun kV D doc pm an cdv ct us mv ws e h1 h2 h3 => match us, mv, ws, h1, h2, h3 with | [_, _, _], [], [], _, _, _ => rfl) (fun us mv ws h1 h2 h3 => match us, mv, ws, h1, h2, h3 with | [_, _, _], [], [], _, _, _ => rfl)
def tr_checked_outputs (K : PySem.W.Frag) : TrB := fun ds M P R => ∃ x0 : D, ∃ x1 : D, ∃ x2 : D, ∃ x3 : D, ∃ r : Except Er D, ds = [x0, x1, x2, x3] ∧ F_checked_outputs (Zk K) x0 x1 x2 x3 = some r ∧ resX r (fun v => P v M) (fun e => R e.1 e.2 M)
set_option maxHeartbeats 0 in
theorem ok_checked_outputs {pg : Program} {w : World} {K : PySem.W.Frag} {mg : Str → Option Value} {base : Heap} (T : Txt pg K mg base) : BodyX pg w K mg base false 4 (He.fAd K ("checked_outputs", none)) "checked_outputs" (defBody s_checked_outputs) (defScope s_checked_outputs) ["n", "many", "outputs", "lowest", "index", "node"] ["n", "many", "outputs", "lowest"] (tr_checked_outputs K) := fun cdv hcv A outer s H F0 E ds M P R hgd0 hr t hL hpo kx => by
  obtain ⟨x0, x1, x2, x3, r, rfl, hF, hk⟩ := t
  unfold F_checked_outputs at hF
  refine gx_seq (g1_if (bi hF fun t9 ht9 hF => tx_fix t9 M (have hF := ht9; tx_pw (wx_or (tx_not (tx_tru (ex_callX (fx_is_sequence_1 T) Lets.no (fun h => nomatch h) (hr.mono (by decide)) T.m_is_sequence T.d_is_sequence.choose_spec.kp (ev_a (ax_cons (ex_var 2 rfl (ax_nil (kx_nil (bi hF fun v3 hv3 hF => ⟨rfl, ⟨rfl, rfl, ⟨_, v3, rfl, hv3, bi hF fun t4 ht4 hF => ⟨_, _, .id, ht4, ⟨fun q2 => have hF := iF q2 hF; wx_or1 (tx_cmp (ex_blt T.b_len bb_len (ax_cons (ex_var 2 rfl (ax_nil (bi hF fun v5 hv5 hF => cd_dLen .id hv5 (ex_bin (ex_bin (ex_var 0 rfl (ex_int (bi hF fun v6 hv6 hF => od_dAdd .id .id hv6 (ex_var 3 rfl (bi hF fun v7 hv7 hF => od_dSub .id .id hv7 (bi hF fun t8 ht8 hF => od_cNe hr.units .id .id ht8 (⟨_, rfl, ⟨so hF, rfl⟩⟩))))))))))))))), fun q2 => ⟨so (iT q2 hF), rfl⟩⟩⟩⟩⟩⟩))))))))))) (⟨fun q1 => ?_, fun q1 => ?_⟩)))
  · have hF := iT q1 hF
    exact gx_seq (g1_rs1 hL rfl T.er_InvalidOutputs basV T.d_InvalidOutputs___init__.choose_spec sc_InvalidOutputs___init__ ⟨_, _, _, _, rfl⟩ T.nf_InvalidOutputs_index (hr.mono (by decide)) (T.d_InvalidOutputs___init__.choose_spec.bindsN fun _ _ _ _ _ _ us hl => match us, hl with | [_, _], _ => rfl) T.g_InvalidOutputs (ex_non (⟨_, sub_refl, errX (q := fun e => R e.1 e.2 M) (so hF) hk⟩)))
  · have hF := iF q1 hF
    refine gx_nil ?_
    show GX _ _ _ _ _ _
    refine gx_seq (g1_for hpo rfl (bi hF fun l10 hl10 hF => ix_enumU (M2 := M) T.b_enumerate (ax_cons (ex_var 2 rfl (ax_nil (⟨rfl, rfl⟩)))) hl10 (bi hF fun c14 hlc14 hOc14 => forC hlc14 (fun s11 ρ' M' => ∃ j0 : Option D, ∃ j1 : Option D, ρ' = [some x0, some x1, some x2, some x3, j0, j1] ∧ M' = M) ⟨_, _, rfl, rfl⟩ ?_ ?_)))
    · rintro x13 s11 b15 hF hbb15 _ M ⟨_, _, rfl, rfl⟩
      try dsimp only at hF
      refine bi hF fun p16 hp16 hF => as_eq (un2_eq hp16) (as_tup rfl rfl (asd_cons (as_name 4 (asd_cons (as_name 5 (asd_nil (?_)) sc_checked_outputs.nd)) sc_checked_outputs.nd)))
      refine gx_seq (g1_if (tx_not (tx_tru (ex_callX (fx_is_between_3 T) Lets.no (fun h => nomatch h) (hr.mono (by decide)) T.m_is_between T.d_is_between.choose_spec.kp (ev_a (ax_cons (ex_var 5 rfl (ax_cons (ex_var 3 rfl (ax_cons (ex_bin (ex_var 0 rfl (ex_var 1 rfl (bi hF fun v18 hv18 hF => od_dAdd .id .id hv18 (ax_nil (kx_nil (bi hF fun v19 hv19 hF => ⟨rfl, ⟨rfl, rfl, ⟨_, _, _, v19, rfl, hv19, bi hF fun t20 ht20 hF => ⟨_, _, .id, ht20, ⟨fun q17 => ?_, fun q17 => ?_⟩⟩⟩⟩⟩)))))))))))))))))
      · have hF := iT q17 hF
        exact gx_seq (g1_rs1 hL rfl T.er_InvalidOutputs basV T.d_InvalidOutputs___init__.choose_spec sc_InvalidOutputs___init__ ⟨_, _, _, _, rfl⟩ T.nf_InvalidOutputs_index (hr.mono (by decide)) (T.d_InvalidOutputs___init__.choose_spec.bindsN fun _ _ _ _ _ _ us hl => match us, hl with | [_, _], _ => rfl) T.g_InvalidOutputs (ex_var 4 rfl (⟨_, sub_refl, errX (q := fun e => R e.1 e.2 M) (so (ctl_retS hOc14 (hbb15 _ (so hF).symm))) hk⟩)))
      · have hF := iF q17 hF
        refine gx_nil ?_
        show GX _ _ _ _ _ _
        exact gx_nil ⟨_, (so hF).symm, ⟨_, _, rfl, rfl⟩⟩
    · rintro r12 hg _ M ⟨_, _, rfl, rfl⟩
      have hF := ctl_go hOc14 hg
      try dsimp only at hF
      show GX _ _ _ _ _ _
      exact gx_seq (g1_ret (ex_less (ex_ty T.b_tuple bb_tuple (ax_cons (ex_var 2 rfl (ax_nil (bi hF fun l21 hl21 hF => cd_lTuple rfl .id hl21 (⟨_, sub_refl, retX (p := fun v => P v M) (so hF) hk⟩))))))))
theorem fx_checked_outputs_4 {pg : Program} {w : World} {K : PySem.W.Frag} {mg : Str → Option Value} {base : Heap} (T : Txt pg K mg base) : FnX pg w K mg base false 5 (He.fAd K ("checked_outputs", none)) ([] : List PySem.Str) (fun ds zs M P R => ds.length = 4 ∧ zs.length = ([] : List PySem.Str).length ∧ tr_checked_outputs K (pick (ds ++ ([] ++ zs)) [0, 1, 2, 3]) M P R) :=
  fn_kwX T.d_checked_outputs.choose_spec sc_checked_outputs (ok_checked_outputs T) 4 ([] : List PySem.Str) [] [] [0, 1, 2, 3] (by simp) (fun _ => .nil) (fun kV D doc pm an cdv ct us mv ws e h1 h2 h3 => match us, mv, ws, h1, h2, h3 with | [_, _, _, _], [], [], _, _, _ => rfl) (fun us mv ws h1 h2 h3 => match us, mv, ws, h1, h2, h3 with | [_, _, _, _], [], [], _, _, _ => rfl)
def tr_Ring___init__ (K : PySem.W.Frag) : TrB := fun ds M P R => ∃ (p : Addr) (M1 : Mem), ∃ x1 : D, ∃ x2 : D, ∃ x3 : D, ∃ r : Except Er (List (Str × D)), M1 p = none ∧ M = up M1 p (.ins (Zk K "Ring") []) ∧ ds = [.adr p, x1, x2, x3] ∧ F_Ring___init__ (Zk K) x1 x2 x3 = some r ∧ resX r (fun r => P .non (up M1 p (.ins (Zk K "Ring") r))) (fun e => R e.1 e.2 M1)
set_option maxHeartbeats 0 in
theorem ok_Ring___init__ {pg : Program} {w : World} {K : PySem.W.Frag} {mg : Str → Option Value} {base : Heap} (T : Txt pg K mg base) : BodyX pg w K mg base false 8 (He.fAd K ("Ring", some "__init__")) "Network.__init__" (defBody s_Ring___init__) (defScope s_Ring___init__) ["self", "n", "cells", "outputs"] ["self", "n", "cells", "outputs"] (tr_Ring___init__ K) := fun cdv hcv A outer s H F0 E ds M P R hgd0 hr t hL hpo kx => by
  obtain ⟨p_0, M1, x1, x2, x3, r, fb_p_0, rfl, rfl, hF, hk⟩ := t
  unfold F_Ring___init__ at hF
  refine gx_seq (g1_if (tx_not (tx_tru (ex_callX (fx_is_between_3 T) Lets.no (fun h => nomatch h) (hr.mono (by decide)) T.m_is_between T.d_is_between.choose_spec.kp (ev_a (ax_cons (ex_var 1 rfl (ax_cons (ex_conC (y := (D.int 2)) T.cls_Ring ⟨_, _, T.co_Ring_LEAST_BITS.choose_spec, fun _ => .int _⟩ (ex_var 0 rfl (bi hF fun g2 hg2 hF => ⟨_, g2, (.ad at0.get), hg2, ax_cons (ex_conC (y := (D.int 24)) T.cls_Ring ⟨_, _, T.co_Ring_MOST_BITS.choose_spec, fun _ => .int _⟩ (ex_var 0 rfl (bi hF fun g3 hg3 hF => ⟨_, g3, (.ad at0.get), hg3, ax_nil (kx_nil (bi hF fun v4 hv4 hF => ⟨rfl, ⟨rfl, rfl, ⟨_, _, _, v4, rfl, hv4, bi hF fun t5 ht5 hF => ⟨_, _, .id, ht5, ⟨fun q1 => ?_, fun q1 => ?_⟩⟩⟩⟩⟩))⟩)))⟩)))))))))))
  · have hF := iT q1 hF
    exact gx_seq (g1_rs1 hL rfl T.er_InvalidSize basV T.d_InvalidSize___init__.choose_spec sc_InvalidSize___init__ ⟨_, _, _, _, rfl⟩ T.nf_InvalidSize_value (hr.mono (by decide)) (T.d_InvalidSize___init__.choose_spec.bindsN fun _ _ _ _ _ _ us hl => match us, hl with | [_, _], _ => rfl) T.g_InvalidSize (ex_var 1 rfl (⟨_, (sub_drop sub_refl fb_p_0), errX (q := fun e => R e.1 e.2 M1) (so hF) hk⟩)))
  · have hF := iF q1 hF
    refine gx_nil ?_
    show GX _ _ _ _ _ _
    refine gx_seq (g1_setFldF (ex_var 1 rfl (bi hF fun _ h6 hF => ex_var 0 rfl (⟨_, _, _, _, rfl, at0, T.cls_Ring, T.no_Ring_bits, (chk_inv h6).1, ?_⟩))))
    refine gx_seq (g1_setFldF (ex_callX (fx_checked_cells_3 T) hL (fun h => nomatch h) (hr.mono (by decide)) T.m_checked_cells T.d_checked_cells.choose_spec.kp (ev_a (ax_cons (ex_var 1 rfl (ax_cons (ex_var 2 rfl (ax_cons (ex_conC (y := (D.int 1)) T.cls_Ring ⟨_, _, T.co_Ring_LOWEST.choose_spec, fun _ => .int _⟩ (ex_var 0 rfl (bi hF fun g7 hg7 hF => ⟨_, g7, (.ad at0.get), hg7, ax_nil (kx_nil (bi hF fun r10 hr10 hF => ⟨rfl, ⟨rfl, rfl, ⟨_, _, _, r10, rfl, hr10, exc_i hF (fun e9 hee9 hF => ⟨_, (sub_drop sub_refl fb_p_0), errX (q := fun e => R e.1 e.2 M1) (so hF) hk⟩) (fun v8 hv8 hF => bi hF fun _ h11 hF => ex_var 0 rfl (⟨_, _, _, _, rfl, at0, T.cls_Ring, T.no_Ring_joins, (chk_inv h11).1, ?_⟩))⟩⟩⟩))⟩)))))))))))
    refine gx_seq (g1_setFldF (ex_callX (fx_checked_outputs_4 T) hL (fun h => nomatch h) (hr.mono (by decide)) T.m_checked_outputs T.d_checked_outputs.choose_spec.kp (ev_a (ax_cons (ex_var 1 rfl (ax_cons (ex_blt T.b_len bb_len (ax_cons (ex_fldC T.cls_Ring T.no_Ring_joins (ex_var 0 rfl (bi hF fun g12 hg12 hF => bi hF fun z13 hz13 hF => ⟨_, g12, z13, (.ad at0.get), hg12, hz13, ax_nil (bi hF fun v14 hv14 hF => cd_dLen .id hv14 (ax_cons (ex_var 3 rfl (ax_cons (ex_conC (y := (D.int 1)) T.cls_Ring ⟨_, _, T.co_Ring_LOWEST.choose_spec, fun _ => .int _⟩ (ex_var 0 rfl (bi hF fun g15 hg15 hF => ⟨_, g15, (.ad at0.get), hg15, ax_nil (kx_nil (bi hF fun r18 hr18 hF => ⟨rfl, ⟨rfl, rfl, ⟨_, _, _, _, r18, rfl, hr18, exc_i hF (fun e17 hee17 hF => ⟨_, (sub_drop sub_refl fb_p_0), errX (q := fun e => R e.1 e.2 M1) (so hF) hk⟩) (fun v16 hv16 hF => bi hF fun _ h19 hF => ex_var 0 rfl (⟨_, _, _, _, rfl, at0, T.cls_Ring, T.no_Ring_ends, (chk_inv h19).1, ?_⟩))⟩⟩⟩))⟩)))))))⟩)))))))))))
    refine gx_seq (g1_setFldF (ex_tup0S (bi hF fun _ h20 hF => ex_var 0 rfl (⟨_, _, _, _, rfl, at0, T.cls_Ring, T.no_Ring_held, (chk_inv h20).1, ?_⟩))))
    exact gx_nil (retX (p := fun r => P .non (up M1 p_0 (.ins (Zk K "Ring") r))) (so hF) hk)
theorem fx_Ring___init___4 {pg : Program} {w : World} {K : PySem.W.Frag} {mg : Str → Option Value} {base : Heap} (T : Txt pg K mg base) : FnX pg w K mg base false 9 (He.fAd K ("Ring", some "__init__")) ([] : List PySem.Str) (fun ds zs M P R => ds.length = 4 ∧ zs.length = ([] : List PySem.Str).length ∧ tr_Ring___init__ K (pick (ds ++ ([] ++ zs)) [0, 1, 2, 3]) M P R) :=
  fn_kwX T.d_Ring___init__.choose_spec sc_Ring___init__ (ok_Ring___init__ T) 4 ([] : List PySem.Str) [] [] [0, 1, 2, 3] (by simp) (fun _ => .nil) (fun kV D doc pm an cdv ct us mv ws e h1 h2 h3 => match us, mv, ws, h1, h2, h3 with | [_, _, _, _], [], [], _, _, _ => rfl) (fun us mv ws h1 h2 h3 => match us, mv, ws, h1, h2, h3 with | [_, _, _, _], [], [], _, _, _ => rfl)
def tr_Network___init__ (K : PySem.W.Frag) : TrB := fun ds M P R => ∃ (p : Addr) (M1 : Mem), ∃ x1 : D, ∃ x2 : D, ∃ x3 : D, ∃ r : Except Er (List (Str × D)), M1 p = none ∧ M = up M1 p (.ins (Zk K "Network") []) ∧ ds = [.adr p, x1, x2, x3] ∧ F_Network___init__ (Zk K) x1 x2 x3 = some r ∧ resX r (fun r => P .non (up M1 p (.ins (Zk K "Network") r))) (fun e => R e.1 e.2 M1)
set_option maxHeartbeats 0 in
theorem ok_Network___init__ {pg : Program} {w : World} {K : PySem.W.Frag} {mg : Str → Option Value} {base : Heap} (T : Txt pg K mg base) : BodyX pg w K mg base false 8 (He.fAd K ("Network", some "__init__")) "Network.__init__" (defBody s_Network___init__) (defScope s_Network___init__) ["self", "n", "cells", "outputs"] ["self", "n", "cells", "outputs"] (tr_Network___init__ K) := fun cdv hcv A outer s H F0 E ds M P R hgd0 hr t hL hpo kx => by
  obtain ⟨p_0, M1, x1, x2, x3, r, fb_p_0, rfl, rfl, hF, hk⟩ := t
  unfold F_Network___init__ at hF
  refine gx_seq (g1_if (tx_not (tx_tru (ex_callX (fx_is_between_3 T) Lets.no (fun h => nomatch h) (hr.mono (by decide)) T.m_is_between T.d_is_between.choose_spec.kp (ev_a (ax_cons (ex_var 1 rfl (ax_cons (ex_conC (y := (D.int 1)) T.cls_Network ⟨_, _, T.co_Network_LEAST_BITS.choose_spec, fun _ => .int _⟩ (ex_var 0 rfl (bi hF fun g2 hg2 hF => ⟨_, g2, (.ad at0.get), hg2, ax_cons (ex_conC (y := (D.int 24)) T.cls_Network ⟨_, _, T.co_Network_MOST_BITS.choose_spec, fun _ => .int _⟩ (ex_var 0 rfl (bi hF fun g3 hg3 hF => ⟨_, g3, (.ad at0.get), hg3, ax_nil (kx_nil (bi hF fun v4 hv4 hF => ⟨rfl, ⟨rfl, rfl, ⟨_, _, _, v4, rfl, hv4, bi hF fun t5 ht5 hF => ⟨_, _, .id, ht5, ⟨fun q1 => ?_, fun q1 => ?_⟩⟩⟩⟩⟩))⟩)))⟩)))))))))))
  · have hF := iT q1 hF
    exact gx_seq (g1_rs1 hL rfl T.er_InvalidSize basV T.d_InvalidSize___init__.choose_spec sc_InvalidSize___init__ ⟨_, _, _, _, rfl⟩ T.nf_InvalidSize_value (hr.mono (by decide)) (T.d_InvalidSize___init__.choose_spec.bindsN fun _ _ _ _ _ _ us hl => match us, hl with | [_, _], _ => rfl) T.g_InvalidSize (ex_var 1 rfl (⟨_, (sub_drop sub_refl fb_p_0), errX (q := fun e => R e.1 e.2 M1) (so hF) hk⟩)))
  · have hF := iF q1 hF
    refine gx_nil ?_
    show GX _ _ _ _ _ _
    refine gx_seq (g1_setFldF (ex_var 1 rfl (bi hF fun _ h6 hF => ex_var 0 rfl (⟨_, _, _, _, rfl, at0, T.cls_Network, T.no_Network_bits, (chk_inv h6).1, ?_⟩))))
    refine gx_seq (g1_setFldF (ex_callX (fx_checked_cells_3 T) hL (fun h => nomatch h) (hr.mono (by decide)) T.m_checked_cells T.d_checked_cells.choose_spec.kp (ev_a (ax_cons (ex_var 1 rfl (ax_cons (ex_var 2 rfl (ax_cons (ex_conC (y := (D.int 0)) T.cls_Network ⟨_, _, T.co_Network_LOWEST.choose_spec, fun _ => .int _⟩ (ex_var 0 rfl (bi hF fun g7 hg7 hF => ⟨_, g7, (.ad at0.get), hg7, ax_nil (kx_nil (bi hF fun r10 hr10 hF => ⟨rfl, ⟨rfl, rfl, ⟨_, _, _, r10, rfl, hr10, exc_i hF (fun e9 hee9 hF => ⟨_, (sub_drop sub_refl fb_p_0), errX (q := fun e => R e.1 e.2 M1) (so hF) hk⟩) (fun v8 hv8 hF => bi hF fun _ h11 hF => ex_var 0 rfl (⟨_, _, _, _, rfl, at0, T.cls_Network, T.no_Network_joins, (chk_inv h11).1, ?_⟩))⟩⟩⟩))⟩)))))))))))
    refine gx_seq (g1_setFldF (ex_callX (fx_checked_outputs_4 T) hL (fun h => nomatch h) (hr.mono (by decide)) T.m_checked_outputs T.d_checked_outputs.choose_spec.kp (ev_a (ax_cons (ex_var 1 rfl (ax_cons (ex_blt T.b_len bb_len (ax_cons (ex_fldC T.cls_Network T.no_Network_joins (ex_var 0 rfl (bi hF fun g12 hg12 hF => bi hF fun z13 hz13 hF => ⟨_, g12, z13, (.ad at0.get), hg12, hz13, ax_nil (bi hF fun v14 hv14 hF => cd_dLen .id hv14 (ax_cons (ex_var 3 rfl (ax_cons (ex_conC (y := (D.int 0)) T.cls_Network ⟨_, _, T.co_Network_LOWEST.choose_spec, fun _ => .int _⟩ (ex_var 0 rfl (bi hF fun g15 hg15 hF => ⟨_, g15, (.ad at0.get), hg15, ax_nil (kx_nil (bi hF fun r18 hr18 hF => ⟨rfl, ⟨rfl, rfl, ⟨_, _, _, _, r18, rfl, hr18, exc_i hF (fun e17 hee17 hF => ⟨_, (sub_drop sub_refl fb_p_0), errX (q := fun e => R e.1 e.2 M1) (so hF) hk⟩) (fun v16 hv16 hF => bi hF fun _ h19 hF => ex_var 0 rfl (⟨_, _, _, _, rfl, at0, T.cls_Network, T.no_Network_ends, (chk_inv h19).1, ?_⟩))⟩⟩⟩))⟩)))))))⟩)))))))))))
    refine gx_seq (g1_setFldF (ex_tup0S (bi hF fun _ h20 hF => ex_var 0 rfl (⟨_, _, _, _, rfl, at0, T.cls_Network, T.no_Network_held, (chk_inv h20).1, ?_⟩))))
    exact gx_nil (retX (p := fun r => P .non (up M1 p_0 (.ins (Zk K "Network") r))) (so hF) hk)
theorem fx_Network___init___4 {pg : Program} {w : World} {K : PySem.W.Frag} {mg : Str → Option Value} {base : Heap} (T : Txt pg K mg base) : FnX pg w K mg base false 9 (He.fAd K ("Network", some "__init__")) ([] : List PySem.Str) (fun ds zs M P R => ds.length = 4 ∧ zs.length = ([] : List PySem.Str).length ∧ tr_Network___init__ K (pick (ds ++ ([] ++ zs)) [0, 1, 2, 3]) M P R) :=
  fn_kwX T.d_Network___init__.choose_spec sc_Network___init__ (ok_Network___init__ T) 4 ([] : List PySem.Str) [] [] [0, 1, 2, 3] (by simp) (fun _ => .nil) (fun kV D doc pm an cdv ct us mv ws e h1 h2 h3 => match us, mv, ws, h1, h2, h3 with | [_, _, _, _], [], [], _, _, _ => rfl) (fun us mv ws h1 h2 h3 => match us, mv, ws, h1, h2, h3 with | [_, _, _, _], [], [], _, _, _ => rfl)
def tr_Faulty_base___init__ (K : PySem.W.Frag) : TrB := fun ds M P R => ∃ (p : Addr) (M1 : Mem), ∃ x1 : D, ∃ x2 : D, ∃ x3 : D, ∃ r : Except Er (List (Str × D)), M1 p = none ∧ M = up M1 p (.ins (Zk K "Faulty") []) ∧ ds = [.adr p, x1, x2, x3] ∧ F_Faulty_base___init__ (Zk K) x1 x2 x3 = some r ∧ resX r (fun r => P .non (up M1 p (.ins (Zk K "Faulty") r))) (fun e => R e.1 e.2 M1)
set_option maxHeartbeats 0 in
theorem ok_Faulty_base___init__ {pg : Program} {w : World} {K : PySem.W.Frag} {mg : Str → Option Value} {base : Heap} (T : Txt pg K mg base) : BodyX pg w K mg base false 8 (He.fAd K ("Network", some "__init__")) "Network.__init__" (defBody s_Faulty_base___init__) (defScope s_Faulty_base___init__) ["self", "n", "cells", "outputs"] ["self", "n", "cells", "outputs"] (tr_Faulty_base___init__ K) := fun cdv hcv A outer s H F0 E ds M P R hgd0 hr t hL hpo kx => by
  obtain ⟨p_0, M1, x1, x2, x3, r, fb_p_0, rfl, rfl, hF, hk⟩ := t
  unfold F_Faulty_base___init__ at hF
  refine gx_seq (g1_if (tx_not (tx_tru (ex_callX (fx_is_between_3 T) Lets.no (fun h => nomatch h) (hr.mono (by decide)) T.m_is_between T.d_is_between.choose_spec.kp (ev_a (ax_cons (ex_var 1 rfl (ax_cons (ex_conC (y := (D.int 1)) T.cls_Faulty ⟨_, _, T.co_Faulty_LEAST_BITS.choose_spec, fun _ => .int _⟩ (ex_var 0 rfl (bi hF fun g2 hg2 hF => ⟨_, g2, (.ad at0.get), hg2, ax_cons (ex_conC (y := (D.int 24)) T.cls_Faulty ⟨_, _, T.co_Faulty_MOST_BITS.choose_spec, fun _ => .int _⟩ (ex_var 0 rfl (bi hF fun g3 hg3 hF => ⟨_, g3, (.ad at0.get), hg3, ax_nil (kx_nil (bi hF fun v4 hv4 hF => ⟨rfl, ⟨rfl, rfl, ⟨_, _, _, v4, rfl, hv4, bi hF fun t5 ht5 hF => ⟨_, _, .id, ht5, ⟨fun q1 => ?_, fun q1 => ?_⟩⟩⟩⟩⟩))⟩)))⟩)))))))))))
  · have hF := iT q1 hF
    exact gx_seq (g1_rs1 hL rfl T.er_InvalidSize basV T.d_InvalidSize___init__.choose_spec sc_InvalidSize___init__ ⟨_, _, _, _, rfl⟩ T.nf_InvalidSize_value (hr.mono (by decide)) (T.d_InvalidSize___init__.choose_spec.bindsN fun _ _ _ _ _ _ us hl => match us, hl with | [_, _], _ => rfl) T.g_InvalidSize (ex_var 1 rfl (⟨_, (sub_drop sub_refl fb_p_0), errX (q := fun e => R e.1 e.2 M1) (so hF) hk⟩)))
  · have hF := iF q1 hF
    refine gx_nil ?_
    show GX _ _ _ _ _ _
    refine gx_seq (g1_setFldF (ex_var 1 rfl (bi hF fun _ h6 hF => ex_var 0 rfl (⟨_, _, _, _, rfl, at0, T.cls_Faulty, T.no_Faulty_bits, (chk_inv h6).1, ?_⟩))))
    refine gx_seq (g1_setFldF (ex_callX (fx_checked_cells_3 T) hL (fun h => nomatch h) (hr.mono (by decide)) T.m_checked_cells T.d_checked_cells.choose_spec.kp (ev_a (ax_cons (ex_var 1 rfl (ax_cons (ex_var 2 rfl (ax_cons (ex_conC (y := (D.int 0)) T.cls_Faulty ⟨_, _, T.co_Faulty_LOWEST.choose_spec, fun _ => .int _⟩ (ex_var 0 rfl (bi hF fun g7 hg7 hF => ⟨_, g7, (.ad at0.get), hg7, ax_nil (kx_nil (bi hF fun r10 hr10 hF => ⟨rfl, ⟨rfl, rfl, ⟨_, _, _, r10, rfl, hr10, exc_i hF (fun e9 hee9 hF => ⟨_, (sub_drop sub_refl fb_p_0), errX (q := fun e => R e.1 e.2 M1) (so hF) hk⟩) (fun v8 hv8 hF => bi hF fun _ h11 hF => ex_var 0 rfl (⟨_, _, _, _, rfl, at0, T.cls_Faulty, T.no_Faulty_joins, (chk_inv h11).1, ?_⟩))⟩⟩⟩))⟩)))))))))))
    refine gx_seq (g1_setFldF (ex_callX (fx_checked_outputs_4 T) hL (fun h => nomatch h) (hr.mono (by decide)) T.m_checked_outputs T.d_checked_outputs.choose_spec.kp (ev_a (ax_cons (ex_var 1 rfl (ax_cons (ex_blt T.b_len bb_len (ax_cons (ex_fldC T.cls_Faulty T.no_Faulty_joins (ex_var 0 rfl (bi hF fun g12 hg12 hF => bi hF fun z13 hz13 hF => ⟨_, g12, z13, (.ad at0.get), hg12, hz13, ax_nil (bi hF fun v14 hv14 hF => cd_dLen .id hv14 (ax_cons (ex_var 3 rfl (ax_cons (ex_conC (y := (D.int 0)) T.cls_Faulty ⟨_, _, T.co_Faulty_LOWEST.choose_spec, fun _ => .int _⟩ (ex_var 0 rfl (bi hF fun g15 hg15 hF => ⟨_, g15, (.ad at0.get), hg15, ax_nil (kx_nil (bi hF fun r18 hr18 hF => ⟨rfl, ⟨rfl, rfl, ⟨_, _, _, _, r18, rfl, hr18, exc_i hF (fun e17 hee17 hF => ⟨_, (sub_drop sub_refl fb_p_0), errX (q := fun e => R e.1 e.2 M1) (so hF) hk⟩) (fun v16 hv16 hF => bi hF fun _ h19 hF => ex_var 0 rfl (⟨_, _, _, _, rfl, at0, T.cls_Faulty, T.no_Faulty_ends, (chk_inv h19).1, ?_⟩))⟩⟩⟩))⟩)))))))⟩)))))))))))
    refine gx_seq (g1_setFldF (ex_tup0S (bi hF fun _ h20 hF => ex_var 0 rfl (⟨_, _, _, _, rfl, at0, T.cls_Faulty, T.no_Faulty_held, (chk_inv h20).1, ?_⟩))))
    exact gx_nil (retX (p := fun r => P .non (up M1 p_0 (.ins (Zk K "Faulty") r))) (so hF) hk)
theorem fx_Faulty_base___init___4 {pg : Program} {w : World} {K : PySem.W.Frag} {mg : Str → Option Value} {base : Heap} (T : Txt pg K mg base) : FnX pg w K mg base false 9 (He.fAd K ("Network", some "__init__")) ([] : List PySem.Str) (fun ds zs M P R => ds.length = 4 ∧ zs.length = ([] : List PySem.Str).length ∧ tr_Faulty_base___init__ K (pick (ds ++ ([] ++ zs)) [0, 1, 2, 3]) M P R) :=
  fn_kwX T.d_Faulty_base___init__.choose_spec sc_Faulty_base___init__ (ok_Faulty_base___init__ T) 4 ([] : List PySem.Str) [] [] [0, 1, 2, 3] (by simp) (fun _ => .nil) (fun kV D doc pm an cdv ct us mv ws e h1 h2 h3 => match us, mv, ws, h1, h2, h3 with | [_, _, _, _], [], [], _, _, _ => rfl) (fun us mv ws h1 h2 h3 => match us, mv, ws, h1, h2, h3 with | [_, _, _, _], [], [], _, _, _ => rfl)
def tr_is_state (K : PySem.W.Frag) : TrB := fun ds M P R => ∃ x0 : D, ∃ r : D, ds = [x0] ∧ F_is_state x0 = some r ∧ P r M
set_option maxHeartbeats 0 in
theorem ok_is_state {pg : Program} {w : World} {K : PySem.W.Frag} {mg : Str → Option Value} {base : Heap} (T : Txt pg K mg base) : BodyX pg w K mg base false 4 (He.fAd K ("is_state", none)) "is_state" (defBody s_is_state) (defScope s_is_state) ["value"] ["value"] (tr_is_state K) := fun cdv hcv A outer s H F0 E ds M P R hgd0 hr t hL hpo kx => by
  obtain ⟨x0, r, rfl, hF, hk⟩ := t
  unfold F_is_state at hF
  exact gx_seq (g1_ret (ex_less (bi hF fun v9 hv9 hF => ex_fix v9 M (have hF := hv9; ex_andT (ex_blt T.b_isinstance bb_isi (ax_cons (ex_var 0 rfl (ax_cons (ex_tyn T.b_str bb_str (ax_nil (bi hF fun t2 ht2 hF => cd_dIsi (by decide) .id rfl ht2 (bi hF fun t3 ht3 hF => ⟨_, _, .id, ht3, fun q1 => have hF := iT q1 hF; ex_andT (ex_callX (fx_is_between_3 T) Lets.no (fun h => nomatch h) (hr.mono (by decide)) T.m_is_between T.d_is_between.choose_spec.kp (ev_a (ax_cons (ex_blt T.b_len bb_len (ax_cons (ex_var 0 rfl (ax_nil (bi hF fun v5 hv5 hF => cd_dLen .id hv5 (ax_cons (ex_int (ax_cons (ex_int (ax_nil (kx_nil (bi hF fun v6 hv6 hF => ⟨rfl, ⟨rfl, rfl, ⟨_, _, _, v6, rfl, hv6, bi hF fun t7 ht7 hF => ⟨_, _, .id, ht7, fun q4 => have hF := iT q4 hF; ex_one (ex_cmp (ex_var 0 rfl (ex_gtup T.g_STATES.choose_spec.1 T.g_STATES.choose_spec.2 (fun F => .cons (.str _) (.cons (.str _) (.cons (.str _) (.nil)))) (bi hF fun t8 ht8 hF => od_cIn .id .id ht8 (⟨so hF, rfl⟩))))), fun q4 => ⟨so (iF q4 hF), rfl⟩⟩⟩⟩⟩))))))))))))))), fun q1 => ⟨so (iF q1 hF), rfl⟩⟩))))))))) (⟨_, sub_refl, ret0 (so hF) hk⟩))))
theorem fx_is_state_1 {pg : Program} {w : World} {K : PySem.W.Frag} {mg : Str → Option Value} {base : Heap} (T : Txt pg K mg base) : FnX pg w K mg base false 5 (He.fAd K ("is_state", none)) ([] : List PySem.Str) (fun ds zs M P R => ds.length = 1 ∧ zs.length = ([] : List PySem.Str).length ∧ tr_is_state K (pick (ds ++ ([] ++ zs)) [0]) M P R) :=
  fn_kwX T.d_is_state.choose_spec sc_is_state (ok_is_state T) 1 ([] : List PySem.Str) [] [] [0] (by simp) (fun _ => .nil) (fun kV D doc pm an cdv ct us mv ws e h1 h2 h3 => match us, mv, ws, h1, h2, h3 with | [_], [], [], _, _, _ => rfl) (fun us mv ws h1 h2 h3 => match us, mv, ws, h1, h2, h3 with | [_], [], [], _, _, _ => rfl)
def tr_checked_stuck (K : PySem.W.Frag) : TrB := fun ds M P R => ∃ x0 : D, ∃ x1 : D, ∃ r : Except Er D, ds = [x0, x1] ∧ F_checked_stuck (Zk K) x0 x1 = some r ∧ resX r (fun v => P v M) (fun e => R e.1 e.2 M)
set_option maxHeartbeats 0 in
theorem ok_checked_stuck {pg : Program} {w : World} {K : PySem.W.Frag} {mg : Str → Option Value} {base : Heap} (T : Txt pg K mg base) : BodyX pg w K mg base false 6 (He.fAd K ("checked_stuck", none)) "checked_stuck" (defBody s_checked_stuck) (defScope s_checked_stuck) ["stuck", "many", "least", "index", "entry"] ["stuck", "many"] (tr_checked_stuck K) := fun cdv hcv A outer s H F0 E ds M P R hgd0 hr t hL hpo kx => by
  obtain ⟨x0, x1, r, rfl, hF, hk⟩ := t
  unfold F_checked_stuck at hF
  refine gx_seq (g1_if (tx_not (tx_tru (ex_callX (fx_is_sequence_1 T) Lets.no (fun h => nomatch h) (hr.mono (by decide)) T.m_is_sequence T.d_is_sequence.choose_spec.kp (ev_a (ax_cons (ex_unstD (ex_var 0 rfl (ax_nil (kx_nil (bi hF fun v2 hv2 hF => ⟨rfl, ⟨rfl, rfl, ⟨_, v2, rfl, hv2, bi hF fun t3 ht3 hF => ⟨_, _, .id, ht3, ⟨fun q1 => ?_, fun q1 => ?_⟩⟩⟩⟩⟩)))))))))))
  · have hF := iT q1 hF
    exact gx_seq (g1_rs1 hL rfl T.er_InvalidStuck basV T.d_InvalidStuck___init__.choose_spec sc_InvalidStuck___init__ ⟨_, _, _, _, rfl⟩ T.nf_InvalidStuck_index (hr.mono (by decide)) (T.d_InvalidStuck___init__.choose_spec.bindsN fun _ _ _ _ _ _ us hl => match us, hl with | [_, _], _ => rfl) T.g_InvalidStuck (ex_non (⟨_, sub_refl, errX (q := fun e => R e.1 e.2 M) (so hF) hk⟩)))
  · have hF := iF q1 hF
    refine gx_nil ?_
    show GX _ _ _ _ _ _
    refine gx_seq (g1_asg (ex_int (as_name 2 (?_) sc_checked_stuck.nd)))
    refine gx_seq (g1_for hpo rfl (bi hF fun l4 hl4 hF => ix_enumU (M2 := M) T.b_enumerate (ax_cons (ex_unstD (ex_var 0 rfl (ax_nil (⟨rfl, rfl⟩))))) hl4 (bi hF fun c8 hlc8 hOc8 => forC hlc8 (fun s5 ρ' M' => ∃ j0 : Option D, ∃ j1 : Option D, ρ' = [some x0, some x1, some s5, j0, j1] ∧ M' = M) ⟨_, _, rfl, rfl⟩ ?_ ?_)))
    · rintro x7 s5 b9 hF hbb9 _ M ⟨_, _, rfl, rfl⟩
      try dsimp only at hF
      refine bi hF fun p10 hp10 hF => as_eq (un2_eq hp10) (as_tup rfl rfl (asd_cons (as_name 3 (asd_cons (as_name 4 (asd_nil (?_)) sc_checked_stuck.nd)) sc_checked_stuck.nd)))
      refine gx_seq (g1_if (bi hF fun t23 ht23 hF => tx_fix t23 M (have hF := ht23; tx_pw (wx_or (tx_not (tx_tru (ex_callX (fx_is_row_2 T) Lets.no (fun h => nomatch h) (hr.mono (by decide)) T.m_is_row T.d_is_row.choose_spec.kp (ev_a (ax_cons (ex_var 4 rfl (ax_cons (ex_int (ax_nil (kx_nil (bi hF fun v13 hv13 hF => ⟨rfl, ⟨rfl, rfl, ⟨_, _, v13, rfl, hv13, bi hF fun t14 ht14 hF => ⟨_, _, .id, ht14, ⟨fun q12 => have hF := iF q12 hF; wx_or (tx_not (tx_tru (ex_callX (fx_is_between_3 T) Lets.no (fun h => nomatch h) (hr.mono (by decide)) T.m_is_between T.d_is_between.choose_spec.kp (ev_a (ax_cons (ex_ix (ex_var 4 rfl (ex_int (bi hF fun v16 hv16 hF => id_dIx .id .id hv16 (ax_cons (ex_var 2 rfl (ax_cons (ex_bin (ex_var 1 rfl (ex_int (bi hF fun v17 hv17 hF => od_dSub .id .id hv17 (ax_nil (kx_nil (bi hF fun v18 hv18 hF => ⟨rfl, ⟨rfl, rfl, ⟨_, _, _, v18, rfl, hv18, bi hF fun t19 ht19 hF => ⟨_, _, .id, ht19, ⟨fun q15 => have hF := iF q15 hF; wx_or1 (tx_not (tx_tru (ex_callX (fx_is_state_1 T) Lets.no (fun h => nomatch h) (hr.mono (by decide)) T.m_is_state T.d_is_state.choose_spec.kp (ev_a (ax_cons (ex_ix (ex_var 4 rfl (ex_int (bi hF fun v20 hv20 hF => id_dIx .id .id hv20 (ax_nil (kx_nil (bi hF fun v21 hv21 hF => ⟨rfl, ⟨rfl, rfl, ⟨_, v21, rfl, hv21, bi hF fun t22 ht22 hF => ⟨_, _, .id, ht22, ⟨so hF, rfl⟩⟩⟩⟩⟩)))))))))))), fun q15 => ⟨so (iT q15 hF), rfl⟩⟩⟩⟩⟩⟩))))))))))))))))))), fun q12 => ⟨so (iT q12 hF), rfl⟩⟩⟩⟩⟩⟩))))))))))))) (⟨fun q11 => ?_, fun q11 => ?_⟩)))
      · have hF := iT q11 hF
        exact gx_seq (g1_rs1 hL rfl T.er_InvalidStuck basV T.d_InvalidStuck___init__.choose_spec sc_InvalidStuck___init__ ⟨_, _, _, _, rfl⟩ T.nf_InvalidStuck_index (hr.mono (by decide)) (T.d_InvalidStuck___init__.choose_spec.bindsN fun _ _ _ _ _ _ us hl => match us, hl with | [_, _], _ => rfl) T.g_InvalidStuck (ex_var 3 rfl (⟨_, sub_refl, errX (q := fun e => R e.1 e.2 M) (so (ctl_retS hOc8 (hbb9 _ (so hF).symm))) hk⟩)))
      · have hF := iF q11 hF
        refine gx_nil ?_
        show GX _ _ _ _ _ _
        refine gx_seq (g1_asg (ex_bin (ex_ix (ex_var 4 rfl (ex_int (bi hF fun v24 hv24 hF => id_dIx .id .id hv24 (ex_int (bi hF fun v25 hv25 hF => od_dAdd .id .id hv25 (as_name 2 (?_) sc_checked_stuck.nd)))))))))
        exact gx_nil ⟨_, (so hF).symm, ⟨_, _, rfl, rfl⟩⟩
    · rintro r6 hg _ M ⟨_, _, rfl, rfl⟩
      have hF := ctl_go hOc8 hg
      try dsimp only at hF
      show GX _ _ _ _ _ _
      exact gx_seq (g1_ret (ex_less (ex_ty T.b_tuple bb_tuple (ax_cons (ex_var 0 rfl (ax_nil (bi hF fun l26 hl26 hF => cd_sTup .id hl26 (⟨_, sub_refl, retX (p := fun v => P v M) (so hF) hk⟩))))))))
theorem fx_checked_stuck_2 {pg : Program} {w : World} {K : PySem.W.Frag} {mg : Str → Option Value} {base : Heap} (T : Txt pg K mg base) : FnX pg w K mg base false 7 (He.fAd K ("checked_stuck", none)) ([] : List PySem.Str) (fun ds zs M P R => ds.length = 2 ∧ zs.length = ([] : List PySem.Str).length ∧ tr_checked_stuck K (pick (ds ++ ([] ++ zs)) [0, 1]) M P R) :=
  fn_kwX T.d_checked_stuck.choose_spec sc_checked_stuck (ok_checked_stuck T) 2 ([] : List PySem.Str) [] [] [0, 1] (by simp) (fun _ => .nil) (fun kV D doc pm an cdv ct us mv ws e h1 h2 h3 => match us, mv, ws, h1, h2, h3 with | [_, _], [], [], _, _, _ => rfl) (fun us mv ws h1 h2 h3 => match us, mv, ws, h1, h2, h3 with | [_, _], [], [], _, _, _ => rfl)
def tr_Faulty___init__ (K : PySem.W.Frag) : TrB := fun ds M P R => ∃ (p : Addr) (M1 : Mem), ∃ x1 : D, ∃ x2 : D, ∃ x3 : D, ∃ x4 : D, ∃ r : Except Er (List (Str × D)), M1 p = none ∧ M = up M1 p (.ins (Zk K "Faulty") []) ∧ ds = [.adr p, x1, x2, x3, x4] ∧ F_Faulty___init__ (Zk K) x1 x2 x3 x4 = some r ∧ resX r (fun r => P .non (up M1 p (.ins (Zk K "Faulty") r))) (fun e => R e.1 e.2 M1)
set_option maxHeartbeats 0 in
theorem ok_Faulty___init__ {pg : Program} {w : World} {K : PySem.W.Frag} {mg : Str → Option Value} {base : Heap} (T : Txt pg K mg base) : BodyS pg w K mg base 10 "__init__" "Faulty.__init__" (defArgs s_Faulty___init__) (defBody s_Faulty___init__) (defScope s_Faulty___init__) (He.fAd K ("Faulty", some "__init__")) (supA K (He.fAd K ("Faulty", some "__init__"))).1 (supA K (He.fAd K ("Faulty", some "__init__"))).2.1 ["self", "n", "cells", "outputs", "stuck", "__class__"] ["self", "n", "cells", "outputs", "stuck"] (tr_Faulty___init__ K) := fun A outer s H F0 E ds M P R hr t hL hpo kx => by
  obtain ⟨p_0, M1, x1, x2, x3, x4, r, fb_p_0, rfl, rfl, hF, hk⟩ := t
  unfold F_Faulty___init__ at hF
  refine gxa_super T.sup_Faulty___init__ T.so_Faulty___init__ T.sp T.b_super rfl rfl (by rfl) (by rfl) (by rfl) (by rfl) rfl rfl rfl rfl up_same (fx_Faulty_base___init___4 T) hL (hr.mono (by decide)) (ev_a (ax_cons (ex_var 1 rfl (ax_cons (ex_var 2 rfl (ax_cons (ex_var 3 rfl (ax_nil (kx_nil (bi hF fun r3 hr3 hF => ⟨rfl, ⟨rfl, rfl, ⟨p_0, _, _, _, _, r3, fb_p_0, rfl, rfl, hr3, exc_i hF (fun e2 hee2 hF => ⟨_, sub_refl, errX (q := fun e => R e.1 e.2 M1) (so hF) hk⟩) (fun v1 hv1 hF => ?_)⟩⟩⟩))))))))))
  show GX _ _ _ _ _ _
  refine gx_seq (g1_setFldF (ex_callX (fx_checked_stuck_2 T) hL (fun h => nomatch h) (hr.mono (by decide)) T.m_checked_stuck T.d_checked_stuck.choose_spec.kp (ev_a (ax_cons (ex_var 4 rfl (ax_cons (ex_blt T.b_len bb_len (ax_cons (ex_fldC T.cls_Faulty T.no_Faulty_joins (ex_var 0 rfl (bi hF fun g4 hg4 hF => bi hF fun z5 hz5 hF => ⟨_, g4, z5, (.ad at0.get), hg4, hz5, ax_nil (bi hF fun v6 hv6 hF => cd_dLen .id hv6 (ax_nil (kx_nil (bi hF fun r9 hr9 hF => ⟨rfl, ⟨rfl, rfl, ⟨_, _, r9, rfl, hr9, exc_i hF (fun e8 hee8 hF => ⟨_, (sub_drop sub_refl fb_p_0), errX (q := fun e => R e.1 e.2 M1) (so hF) hk⟩) (fun v7 hv7 hF => bi hF fun _ h10 hF => ex_var 0 rfl (⟨_, _, _, _, rfl, at0, T.cls_Faulty, T.no_Faulty_held, (chk_inv h10).1, ?_⟩))⟩⟩⟩))))⟩)))))))))))
  exact gx_nil (retX (p := fun r => P .non (up M1 p_0 (.ins (Zk K "Faulty") r))) (so hF) hk)
theorem fx_Faulty___init___5 {pg : Program} {w : World} {K : PySem.W.Frag} {mg : Str → Option Value} {base : Heap} (T : Txt pg K mg base) : FnX pg w K mg base false 11 (He.fAd K ("Faulty", some "__init__")) ([] : List PySem.Str) (fun ds zs M P R => ds.length = 5 ∧ zs.length = ([] : List PySem.Str).length ∧ tr_Faulty___init__ K (pick (ds ++ ([D.tup []] ++ zs)) [0, 1, 2, 3, 4]) M P R) :=
  fn_dflS T.sup_Faulty___init__ sc_Faulty___init__ (ok_Faulty___init__ T) (by simp) 5 ([] : List PySem.Str) [0, 1, 2, 3, 4] T.sd_Faulty___init__ (fun _ _ _ _ _ _ _ us its ws h1 h2 h3 => match us, its, ws, h1, h2, h3 with | [_, _, _, _, _], [_], [], _, _, _ => ⟨_, rfl, rfl⟩) (fun us its ws h1 h2 h3 => match us, its, ws, h1, h2, h3 with | [_, _, _, _, _], [_], [], _, _, _ => rfl)
def tr_network_with (K : PySem.W.Frag) : TrB := fun ds M P R => ∃ x0 : D, ∃ x1 : D, ∃ x2 : D, ∃ x3 : D, ∃ r : Except Er D, ds = [x0, x1, x2, x3] ∧ NoIns M ∧ F_network_with (Zk K) x0 x1 x2 x3 = some r ∧ resX r (fun v => P v M) (fun e => R e.1 e.2 M)
set_option maxHeartbeats 0 in
theorem ok_network_with {pg : Program} {w : World} {K : PySem.W.Frag} {mg : Str → Option Value} {base : Heap} (T : Txt pg K mg base) : BodyX pg w K mg base false 12 (He.fAd K ("network_with", none)) "network_with" (defBody s_network_with) (defScope s_network_with) ["n", "output", "row", "ring", "cells", "ends", "stuck"] ["n", "output", "row", "ring"] (tr_network_with K) := fun cdv hcv A outer s H F0 E ds M P R hgd0 hr t hL hpo kx => by
  obtain ⟨x0, x1, x2, x3, r, rfl, hNI, hF, hk⟩ := t
  unfold F_network_with at hF
  refine gx_seq (g1_if (tx_not (tx_tru (ex_callX (fx_is_between_3 T) Lets.no (fun h => nomatch h) (hr.mono (by decide)) T.m_is_between T.d_is_between.choose_spec.kp (ev_a (ax_cons (ex_var 1 rfl (ax_cons (ex_ty T.b_int bb_int (ax_cons (ex_var 3 rfl (ax_nil (bi hF fun v2 hv2 hF => cd_dInt .id hv2 (ax_cons (ex_var 0 rfl (ax_nil (kx_nil (bi hF fun v3 hv3 hF => ⟨rfl, ⟨rfl, rfl, ⟨_, _, _, v3, rfl, hv3, bi hF fun t4 ht4 hF => ⟨_, _, .id, ht4, ⟨fun q1 => ?_, fun q1 => ?_⟩⟩⟩⟩⟩))))))))))))))))))
  · have hF := iT q1 hF
    exact gx_seq (g1_rs1 hL rfl T.er_NoOutput basL T.d_NoOutput___init__.choose_spec sc_NoOutput___init__ ⟨_, _, _, _, rfl⟩ T.nf_NoOutput_output (hr.mono (by decide)) (T.d_NoOutput___init__.choose_spec.bindsN fun _ _ _ _ _ _ us hl => match us, hl with | [_, _], _ => rfl) T.g_NoOutput (ex_var 1 rfl (⟨_, sub_refl, errX (q := fun e => R e.1 e.2 M) (so hF) hk⟩)))
  · have hF := iF q1 hF
    refine gx_nil ?_
    show GX _ _ _ _ _ _
    refine gx_seq (g1_expr (ex_callX (fx_need_row_3 T) hL (fun h => nomatch h) (hr.mono (by decide)) T.m_need_row T.d_need_row.choose_spec.kp (ev_a (ax_cons (ex_var 0 rfl (ax_cons (ex_var 2 rfl (ax_cons (ex_var 3 rfl (ax_nil (kx_nil (bi hF fun r7 hr7 hF => ⟨rfl, ⟨rfl, rfl, ⟨_, _, _, r7, rfl, hr7, exc_i hF (fun e6 hee6 hF => ⟨_, sub_refl, errX (q := fun e => R e.1 e.2 M) (so hF) hk⟩) (fun v5 hv5 hF => ?_)⟩⟩⟩))))))))))))
    refine gx_seq (g1_asg (ex_if (tx_tru (ex_var 3 rfl (bi hF fun t8 ht8 hF => ⟨_, _, .id, ht8, ⟨fun q85 => have hF := iT q85 hF; ex_callX (fx_ring_serial_wiring_1 T) Lets.no (fun h => nomatch h) (hr.mono (by decide)) T.m_ring_serial_wiring T.d_ring_serial_wiring.choose_spec.kp (ev_a (ax_cons (ex_var 0 rfl (ax_nil (kx_nil (bi hF fun v9 hv9 hF => ⟨rfl, ⟨rfl, rfl, ⟨_, v9, rfl, hv9, fun a10 a11 ha10 ha11 => have fb_a10 := ha10; have ne_a10_a11 := (up_none ha11).1; have fb_a11 := (up_none ha11).2; as_tup rfl rfl (asd_cons (as_name 4 (asd_cons (as_name 5 (asd_nil ?_) sc_network_with.nd)) sc_network_with.nd))⟩⟩⟩)))))), fun q85 => have hF := iF q85 hF; ex_callX (fx_serial_wiring_1 T) Lets.no (fun h => nomatch h) (hr.mono (by decide)) T.m_serial_wiring T.d_serial_wiring.choose_spec.kp (ev_a (ax_cons (ex_var 0 rfl (ax_nil (kx_nil (bi hF fun v47 hv47 hF => ⟨rfl, ⟨rfl, rfl, ⟨_, v47, rfl, hv47, fun a48 a49 ha48 ha49 => have fb_a48 := ha48; have ne_a48_a49 := (up_none ha49).1; have fb_a49 := (up_none ha49).2; as_tup rfl rfl (asd_cons (as_name 4 (asd_cons (as_name 5 (asd_nil ?_) sc_network_with.nd)) sc_network_with.nd))⟩⟩⟩))))))⟩⟩)))))
    · refine gx_seq (g1_if (tx_not (tx_tru (ex_callX (fx_ends_with_letter_1 T) Lets.no (fun h => nomatch h) (hr.mono (by decide)) T.m_ends_with_letter T.d_ends_with_letter.choose_spec.kp (ev_a (ax_cons (ex_var 2 rfl (ax_nil (kx_nil (bi hF fun v13 hv13 hF => ⟨rfl, ⟨rfl, rfl, ⟨_, v13, rfl, hv13, bi hF fun t14 ht14 hF => ⟨_, _, .id, ht14, ⟨fun q12 => ?_, fun q12 => ?_⟩⟩⟩⟩⟩))))))))))
      · have hF := iT q12 hF
        refine gx_seq (g1_setIxF (ex_callX (fx_chained_4 T) Lets.no (fun h => nomatch h) (hr.mono (by decide)) T.m_chained T.d_chained.choose_spec.kp (ev_a (ax_cons (ex_var 0 rfl (ax_cons (ex_var 4 rfl (ax_cons (ex_slice (ex_var 2 rfl (ox_none (ox_d (ex_dNeg (ex_int ⟨_, _, .id, rfl, bi hF fun i15 hi15 hF => ⟨_, _, .id, hi15, bi hF fun v16 hv16 hF => sd_dCut .id hv16 (ax_cons (ex_ix (ex_var 2 rfl (ex_dNeg (ex_int ⟨_, _, .id, rfl, bi hF fun v17 hv17 hF => id_dIx .id .id hv17 (ax_nil (kx_nil (bi hF fun v18 hv18 hF => ⟨rfl, ⟨rfl, rfl, ⟨_, a10, v9.1, _, _, v18, (fun w0 => (up (up M a10 w0) a11 (.lst v9.2))), rfl, rfl, fun _ => (at1 ne_a10_a11 at0), hv18, ex_var 5 rfl (ex_bin (ex_var 1 rfl (ex_ty T.b_int bb_int (ax_cons (ex_var 3 rfl (ax_nil (bi hF fun v19 hv19 hF => cd_dInt .id hv19 (bi hF fun v20 hv20 hF => od_dSub .id .id hv20 (bi hF fun l21 hl21 hF => ⟨_, _, _, l21, rfl, at0, hl21, ?_⟩)))))))))⟩⟩⟩)))⟩)))))⟩⟩))))))))))))))
        exact gx_seq (g1_ret (ex_less (ex_if (tx_tru (ex_var 3 rfl (bi hF fun t22 ht22 hF => ⟨_, _, .id, ht22, ⟨fun q33 => have hF := iT q33 hF; ex_stillN (noins_up (noins_up hNI)) (.same (.same (.same (.same (.ad (at1 ne_a10_a11 at0).get rfl (.ad at0.get rfl (.same .nil))))))) (ex_makeX T.mk_Ring (fx_Ring___init___4 T) hL (hr.mono (by decide)) T.g_Ring (ev_a (ax_cons (ex_var 0 rfl (ax_cons (ex_var 4 rfl (ax_cons (ex_var 5 rfl (ax_nil (kx_nil (bi hF fun r26 hr26 hF => ⟨rfl, fun a24 ha24 => ⟨rfl, rfl, ⟨a24, _, _, _, _, r26, ha24, rfl, rfl, hr26, exc_i hF (fun e25 hee25 hF => nomatch hF) (fun v23 hv23 hF => ⟨rfl, _, _, ha24, rfl, bi hF fun _ h27 hF => ⟨(chk_inv h27).1, ⟨_, (sub_drop (sub_drop sub_refl fb_a10) (nn ne_a10_a11 fb_a11)), retX (p := fun v => P v M) (so hF) hk⟩⟩⟩)⟩⟩⟩))))))))))), fun q33 => have hF := iF q33 hF; ex_stillN (noins_up (noins_up hNI)) (.same (.same (.same (.same (.ad (at1 ne_a10_a11 at0).get rfl (.ad at0.get rfl (.same .nil))))))) (ex_makeX T.mk_Network (fx_Network___init___4 T) hL (hr.mono (by decide)) T.g_Network (ev_a (ax_cons (ex_var 0 rfl (ax_cons (ex_var 4 rfl (ax_cons (ex_var 5 rfl (ax_nil (kx_nil (bi hF fun r31 hr31 hF => ⟨rfl, fun a29 ha29 => ⟨rfl, rfl, ⟨a29, _, _, _, _, r31, ha29, rfl, rfl, hr31, exc_i hF (fun e30 hee30 hF => nomatch hF) (fun v28 hv28 hF => ⟨rfl, _, _, ha29, rfl, bi hF fun _ h32 hF => ⟨(chk_inv h32).1, ⟨_, (sub_drop (sub_drop sub_refl fb_a10) (nn ne_a10_a11 fb_a11)), retX (p := fun v => P v M) (so hF) hk⟩⟩⟩)⟩⟩⟩)))))))))))⟩⟩))))))
      · have hF := iF q12 hF
        refine gx_nil ?_
        show GX _ _ _ _ _ _
        refine gx_seq (g1_asg (ex_lst (ax_cons (ex_tup (ax_cons (ex_blt T.b_len bb_len (ax_cons (ex_var 4 rfl (ax_nil (bi hF fun v34 hv34 hF => cd_dLen (.ad (at1 ne_a10_a11 at0).get rfl) hv34 (ax_cons (ex_ix (ex_var 2 rfl (ex_dNeg (ex_int ⟨_, _, .id, rfl, bi hF fun v35 hv35 hF => id_dIx .id .id hv35 (ax_nil (⟨le_b rfl, ax_nil (⟨le_b rfl, as_name 6 (?_) sc_network_with.nd⟩)⟩))⟩)))))))))))))))
        refine gx_seq (g1_expr (ex_append (ex_var 4 rfl (⟨_, _, rfl, (at1 ne_a10_a11 at0).get, ax_cons (ex_tup (ax_cons (ex_int (ax_cons (ex_int (ax_nil (⟨le_b rfl, ax_nil (bi hF fun _ h36 hF => ⟨_, _, _, rfl, (at1 ne_a10_a11 at0), (chk_inv h36).1, ?_⟩)⟩)))))))⟩))))
        refine gx_seq (g1_setIxF (ex_callX (fx_chained_4 T) Lets.no (fun h => nomatch h) (hr.mono (by decide)) T.m_chained T.d_chained.choose_spec.kp (ev_a (ax_cons (ex_var 0 rfl (ax_cons (ex_var 4 rfl (ax_cons (ex_slice (ex_var 2 rfl (ox_none (ox_d (ex_dNeg (ex_int ⟨_, _, .id, rfl, bi hF fun i37 hi37 hF => ⟨_, _, .id, hi37, bi hF fun v38 hv38 hF => sd_dCut .id hv38 (ax_cons (ex_bin (ex_var 0 rfl (ex_blt T.b_len bb_len (ax_cons (ex_var 4 rfl (ax_nil (bi hF fun v39 hv39 hF => cd_dLen (.ad (at1 ne_a10_a11 at0).get rfl) hv39 (bi hF fun v40 hv40 hF => od_dAdd .id .id hv40 (ax_nil (kx_nil (bi hF fun v41 hv41 hF => ⟨rfl, ⟨rfl, rfl, ⟨_, a10, (v9.1 ++ [(D.tup [(D.int 0), (D.int 0)])]), _, _, v41, (fun w0 => (up (up M a10 w0) a11 (.lst v9.2))), rfl, rfl, fun _ => (at1 ne_a10_a11 at0), hv41, ex_var 5 rfl (ex_var 1 rfl (bi hF fun l42 hl42 hF => ⟨_, _, _, l42, rfl, at0, hl42, ?_⟩))⟩⟩⟩))))))))))))⟩⟩))))))))))))))
        refine gx_frzA 4 rfl (at1 ne_a10_a11 at0).get (subx_keep ne_a10_a11 (subx_here fb_a10)) ?_
        show GX _ _ _ _ _ _
        refine gx_frzA 5 rfl at0.get (subx_here fb_a11) ?_
        show GX _ _ _ _ _ _
        exact gx_seq (g1_ret (ex_less (ex_makeX T.mk_Faulty (fx_Faulty___init___5 T) hL (hr.mono (by decide)) T.g_Faulty (ev_a (ax_cons (ex_var 0 rfl (ax_cons (ex_var 4 rfl (ax_cons (ex_var 5 rfl (ax_cons (ex_var 6 rfl (ax_nil (kx_nil (bi hF fun r46 hr46 hF => ⟨rfl, fun a44 ha44 => ⟨rfl, rfl, ⟨a44, _, _, _, _, _, r46, ha44, rfl, rfl, hr46, exc_i hF (fun e45 hee45 hF => ⟨_, sub_refl, errX (q := fun e => R e.1 e.2 M) (so hF) hk⟩) (fun v43 hv43 hF => ⟨rfl, _, _, ha44, rfl, ⟨_, sub_refl, retX (p := fun v => P v M) (so hF) hk⟩⟩)⟩⟩⟩)))))))))))))))
    · refine gx_seq (g1_if (tx_not (tx_tru (ex_callX (fx_ends_with_letter_1 T) Lets.no (fun h => nomatch h) (hr.mono (by decide)) T.m_ends_with_letter T.d_ends_with_letter.choose_spec.kp (ev_a (ax_cons (ex_var 2 rfl (ax_nil (kx_nil (bi hF fun v51 hv51 hF => ⟨rfl, ⟨rfl, rfl, ⟨_, v51, rfl, hv51, bi hF fun t52 ht52 hF => ⟨_, _, .id, ht52, ⟨fun q50 => ?_, fun q50 => ?_⟩⟩⟩⟩⟩))))))))))
      · have hF := iT q50 hF
        refine gx_seq (g1_setIxF (ex_callX (fx_chained_4 T) Lets.no (fun h => nomatch h) (hr.mono (by decide)) T.m_chained T.d_chained.choose_spec.kp (ev_a (ax_cons (ex_var 0 rfl (ax_cons (ex_var 4 rfl (ax_cons (ex_slice (ex_var 2 rfl (ox_none (ox_d (ex_dNeg (ex_int ⟨_, _, .id, rfl, bi hF fun i53 hi53 hF => ⟨_, _, .id, hi53, bi hF fun v54 hv54 hF => sd_dCut .id hv54 (ax_cons (ex_ix (ex_var 2 rfl (ex_dNeg (ex_int ⟨_, _, .id, rfl, bi hF fun v55 hv55 hF => id_dIx .id .id hv55 (ax_nil (kx_nil (bi hF fun v56 hv56 hF => ⟨rfl, ⟨rfl, rfl, ⟨_, a48, v47.1, _, _, v56, (fun w0 => (up (up M a48 w0) a49 (.lst v47.2))), rfl, rfl, fun _ => (at1 ne_a48_a49 at0), hv56, ex_var 5 rfl (ex_bin (ex_var 1 rfl (ex_ty T.b_int bb_int (ax_cons (ex_var 3 rfl (ax_nil (bi hF fun v57 hv57 hF => cd_dInt .id hv57 (bi hF fun v58 hv58 hF => od_dSub .id .id hv58 (bi hF fun l59 hl59 hF => ⟨_, _, _, l59, rfl, at0, hl59, ?_⟩)))))))))⟩⟩⟩)))⟩)))))⟩⟩))))))))))))))
        exact gx_seq (g1_ret (ex_less (ex_if (tx_tru (ex_var 3 rfl (bi hF fun t60 ht60 hF => ⟨_, _, .id, ht60, ⟨fun q71 => have hF := iT q71 hF; ex_stillN (noins_up (noins_up hNI)) (.same (.same (.same (.same (.ad (at1 ne_a48_a49 at0).get rfl (.ad at0.get rfl (.same .nil))))))) (ex_makeX T.mk_Ring (fx_Ring___init___4 T) hL (hr.mono (by decide)) T.g_Ring (ev_a (ax_cons (ex_var 0 rfl (ax_cons (ex_var 4 rfl (ax_cons (ex_var 5 rfl (ax_nil (kx_nil (bi hF fun r64 hr64 hF => ⟨rfl, fun a62 ha62 => ⟨rfl, rfl, ⟨a62, _, _, _, _, r64, ha62, rfl, rfl, hr64, exc_i hF (fun e63 hee63 hF => nomatch hF) (fun v61 hv61 hF => ⟨rfl, _, _, ha62, rfl, bi hF fun _ h65 hF => ⟨(chk_inv h65).1, ⟨_, (sub_drop (sub_drop sub_refl fb_a48) (nn ne_a48_a49 fb_a49)), retX (p := fun v => P v M) (so hF) hk⟩⟩⟩)⟩⟩⟩))))))))))), fun q71 => have hF := iF q71 hF; ex_stillN (noins_up (noins_up hNI)) (.same (.same (.same (.same (.ad (at1 ne_a48_a49 at0).get rfl (.ad at0.get rfl (.same .nil))))))) (ex_makeX T.mk_Network (fx_Network___init___4 T) hL (hr.mono (by decide)) T.g_Network (ev_a (ax_cons (ex_var 0 rfl (ax_cons (ex_var 4 rfl (ax_cons (ex_var 5 rfl (ax_nil (kx_nil (bi hF fun r69 hr69 hF => ⟨rfl, fun a67 ha67 => ⟨rfl, rfl, ⟨a67, _, _, _, _, r69, ha67, rfl, rfl, hr69, exc_i hF (fun e68 hee68 hF => nomatch hF) (fun v66 hv66 hF => ⟨rfl, _, _, ha67, rfl, bi hF fun _ h70 hF => ⟨(chk_inv h70).1, ⟨_, (sub_drop (sub_drop sub_refl fb_a48) (nn ne_a48_a49 fb_a49)), retX (p := fun v => P v M) (so hF) hk⟩⟩⟩)⟩⟩⟩)))))))))))⟩⟩))))))
      · have hF := iF q50 hF
        refine gx_nil ?_
        show GX _ _ _ _ _ _
        refine gx_seq (g1_asg (ex_lst (ax_cons (ex_tup (ax_cons (ex_blt T.b_len bb_len (ax_cons (ex_var 4 rfl (ax_nil (bi hF fun v72 hv72 hF => cd_dLen (.ad (at1 ne_a48_a49 at0).get rfl) hv72 (ax_cons (ex_ix (ex_var 2 rfl (ex_dNeg (ex_int ⟨_, _, .id, rfl, bi hF fun v73 hv73 hF => id_dIx .id .id hv73 (ax_nil (⟨le_b rfl, ax_nil (⟨le_b rfl, as_name 6 (?_) sc_network_with.nd⟩)⟩))⟩)))))))))))))))
        refine gx_seq (g1_expr (ex_append (ex_var 4 rfl (⟨_, _, rfl, (at1 ne_a48_a49 at0).get, ax_cons (ex_tup (ax_cons (ex_int (ax_cons (ex_int (ax_nil (⟨le_b rfl, ax_nil (bi hF fun _ h74 hF => ⟨_, _, _, rfl, (at1 ne_a48_a49 at0), (chk_inv h74).1, ?_⟩)⟩)))))))⟩))))
        refine gx_seq (g1_setIxF (ex_callX (fx_chained_4 T) Lets.no (fun h => nomatch h) (hr.mono (by decide)) T.m_chained T.d_chained.choose_spec.kp (ev_a (ax_cons (ex_var 0 rfl (ax_cons (ex_var 4 rfl (ax_cons (ex_slice (ex_var 2 rfl (ox_none (ox_d (ex_dNeg (ex_int ⟨_, _, .id, rfl, bi hF fun i75 hi75 hF => ⟨_, _, .id, hi75, bi hF fun v76 hv76 hF => sd_dCut .id hv76 (ax_cons (ex_bin (ex_var 0 rfl (ex_blt T.b_len bb_len (ax_cons (ex_var 4 rfl (ax_nil (bi hF fun v77 hv77 hF => cd_dLen (.ad (at1 ne_a48_a49 at0).get rfl) hv77 (bi hF fun v78 hv78 hF => od_dAdd .id .id hv78 (ax_nil (kx_nil (bi hF fun v79 hv79 hF => ⟨rfl, ⟨rfl, rfl, ⟨_, a48, (v47.1 ++ [(D.tup [(D.int 0), (D.int 0)])]), _, _, v79, (fun w0 => (up (up M a48 w0) a49 (.lst v47.2))), rfl, rfl, fun _ => (at1 ne_a48_a49 at0), hv79, ex_var 5 rfl (ex_var 1 rfl (bi hF fun l80 hl80 hF => ⟨_, _, _, l80, rfl, at0, hl80, ?_⟩))⟩⟩⟩))))))))))))⟩⟩))))))))))))))
        refine gx_frzA 4 rfl (at1 ne_a48_a49 at0).get (subx_keep ne_a48_a49 (subx_here fb_a48)) ?_
        show GX _ _ _ _ _ _
        refine gx_frzA 5 rfl at0.get (subx_here fb_a49) ?_
        show GX _ _ _ _ _ _
        exact gx_seq (g1_ret (ex_less (ex_makeX T.mk_Faulty (fx_Faulty___init___5 T) hL (hr.mono (by decide)) T.g_Faulty (ev_a (ax_cons (ex_var 0 rfl (ax_cons (ex_var 4 rfl (ax_cons (ex_var 5 rfl (ax_cons (ex_var 6 rfl (ax_nil (kx_nil (bi hF fun r84 hr84 hF => ⟨rfl, fun a82 ha82 => ⟨rfl, rfl, ⟨a82, _, _, _, _, _, r84, ha82, rfl, rfl, hr84, exc_i hF (fun e83 hee83 hF => ⟨_, sub_refl, errX (q := fun e => R e.1 e.2 M) (so hF) hk⟩) (fun v81 hv81 hF => ⟨rfl, _, _, ha82, rfl, ⟨_, sub_refl, retX (p := fun v => P v M) (so hF) hk⟩⟩)⟩⟩⟩)))))))))))))))
theorem fx_network_with_3_ring {pg : Program} {w : World} {K : PySem.W.Frag} {mg : Str → Option Value} {base : Heap} (T : Txt pg K mg base) : FnX pg w K mg base false 13 (He.fAd K ("network_with", none)) (["ring"] : List PySem.Str) (fun ds zs M P R => ds.length = 3 ∧ zs.length = (["ring"] : List PySem.Str).length ∧ tr_network_with K (pick (ds ++ ([] ++ zs)) [0, 1, 2, 3]) M P R) :=
  fn_kwX T.d_network_with.choose_spec sc_network_with (ok_network_with T) 3 (["ring"] : List PySem.Str) [] [] [0, 1, 2, 3] (by simp) (fun _ => .nil) (fun kV D doc pm an cdv ct us mv ws e h1 h2 h3 => match us, mv, ws, h1, h2, h3 with | [_, _, _], [], [_], _, _, _ => rfl) (fun us mv ws h1 h2 h3 => match us, mv, ws, h1, h2, h3 with | [_, _, _], [], [_], _, _, _ => rfl)
def tr_Lis_number (K : PySem.W.Frag) : TrB := fun ds M P R => ∃ x0 : D, ∃ x1 : D, ∃ x2 : D, ∃ r : D, ds = [x0, x1, x2] ∧ F_Lis_number x0 x1 x2 = some r ∧ P r M
set_option maxHeartbeats 0 in
theorem ok_Lis_number {pg : Program} {w : World} {K : PySem.W.Frag} {mg : Str → Option Value} {base : Heap} (T : Txt pg K mg base) : BodyX pg w K mg base false 2 (He.fAd K ("_law_is_number", none)) "_law_is_number" (defBody s_Lis_number) (defScope s_Lis_number) ["_law_thing", "_law_least", "_law_most"] ["_law_thing", "_law_least", "_law_most"] (tr_Lis_number K) := fun cdv hcv A outer s H F0 E ds M P R hgd0 hr t hL hpo kx => by
  obtain ⟨x0, x1, x2, r, rfl, hF, hk⟩ := t
  unfold F_Lis_number at hF
  exact gx_seq (g1_ret (ex_less (bi hF fun v11 hv11 hF => ex_fix v11 M (have hF := hv11; ex_andT (ex_blt T.b_isinstance bb_isi (ax_cons (ex_var 0 rfl (ax_cons (ex_tyn T.b_int bb_int (ax_nil (bi hF fun t2 ht2 hF => cd_dIsi (by decide) .id rfl ht2 (bi hF fun t3 ht3 hF => ⟨_, _, .id, ht3, fun q1 => have hF := iT q1 hF; ex_andT (ex_notT (ex_blt T.b_isinstance bb_isi (ax_cons (ex_var 0 rfl (ax_cons (ex_tyn T.b_bool bb_bool (ax_nil (bi hF fun t5 ht5 hF => cd_dIsi (by decide) .id rfl ht5 (bi hF fun t6 ht6 hF => ⟨_, _, .id, ht6, bi hF fun t7 ht7 hF => ⟨_, _, .id, ht7, fun q4 => have hF := iT q4 hF; ex_one (ex_chain (ex_var 1 rfl (ex_var 0 rfl (bi hF fun t9 ht9 hF => od_cLe .id .id ht9 ⟨_, rfl, fun q8 => have hF := iT q8 hF; ex_var 2 rfl (bi hF fun t10 ht10 hF => od_cLe .id .id ht10 ⟨so hF, rfl⟩), fun q8 => ⟨so (iF q8 hF), rfl⟩⟩)))), fun q4 => ⟨so (iF q4 hF), rfl⟩⟩⟩))))))))), fun q1 => ⟨so (iF q1 hF), rfl⟩⟩))))))))) (⟨_, sub_refl, ret0 (so hF) hk⟩))))
theorem fx_Lis_number_3 {pg : Program} {w : World} {K : PySem.W.Frag} {mg : Str → Option Value} {base : Heap} (T : Txt pg K mg base) : FnX pg w K mg base false 3 (He.fAd K ("_law_is_number", none)) ([] : List PySem.Str) (fun ds zs M P R => ds.length = 3 ∧ zs.length = ([] : List PySem.Str).length ∧ tr_Lis_number K (pick (ds ++ ([] ++ zs)) [0, 1, 2]) M P R) :=
  fn_kwX T.d_Lis_number.choose_spec sc_Lis_number (ok_Lis_number T) 3 ([] : List PySem.Str) [] [] [0, 1, 2] (by simp) (fun _ => .nil) (fun kV D doc pm an cdv ct us mv ws e h1 h2 h3 => match us, mv, ws, h1, h2, h3 with | [_, _, _], [], [], _, _, _ => rfl) (fun us mv ws h1 h2 h3 => match us, mv, ws, h1, h2, h3 with | [_, _, _], [], [], _, _, _ => rfl)
def tr_Lis_right_row (K : PySem.W.Frag) : TrB := fun ds M P R => ∃ x0 : D, ∃ x1 : D, ∃ x2 : D, ∃ r : D, ds = [x0, x1, x2] ∧ F_Lis_right_row x0 x1 x2 = some r ∧ P r M
set_option maxHeartbeats 0 in
theorem ok_Lis_right_row {pg : Program} {w : World} {K : PySem.W.Frag} {mg : Str → Option Value} {base : Heap} (T : Txt pg K mg base) : BodyX pg w K mg base false 4 (He.fAd K ("_law_is_right_row", none)) "_law_is_right_row" (defBody s_Lis_right_row) (defScope s_Lis_right_row) ["_law_bits_here", "_law_lowest", "_law_thing", "_law_has_letter", "_law_spots", "_law_spot"] ["_law_bits_here", "_law_lowest", "_law_thing"] (tr_Lis_right_row K) := fun cdv hcv A outer s H F0 E ds M P R hgd0 hr t hL hpo kx => by
  obtain ⟨x0, x1, x2, r, rfl, hF, hk⟩ := t
  unfold F_Lis_right_row at hF
  refine gx_seq (g1_if (bi hF fun t7 ht7 hF => tx_fix t7 M (have hF := ht7; tx_pw (wx_or (tx_not (tx_tru (ex_blt T.b_isinstance bb_isi (ax_cons (ex_var 2 rfl (ax_cons (ex_tyn T.b_tuple bb_tuple (ax_nil (bi hF fun t3 ht3 hF => cd_dIsi (by decide) .id rfl ht3 (bi hF fun t4 ht4 hF => ⟨_, _, .id, ht4, ⟨fun q2 => have hF := iF q2 hF; wx_or1 (tx_cmp (ex_blt T.b_len bb_len (ax_cons (ex_var 2 rfl (ax_nil (bi hF fun v5 hv5 hF => cd_dLen .id hv5 (ex_int (bi hF fun t6 ht6 hF => od_cEq hr.units .id .id ht6 (⟨_, rfl, ⟨so hF, rfl⟩⟩))))))))), fun q2 => ⟨so (iT q2 hF), rfl⟩⟩⟩)))))))))))) (⟨fun q1 => ?_, fun q1 => ?_⟩)))
  · have hF := iT q1 hF
    exact gx_seq (g1_ret (ex_less (ex_bl (⟨_, sub_refl, ret0 (so hF) hk⟩))))
  · have hF := iF q1 hF
    refine gx_nil ?_
    show GX _ _ _ _ _ _
    refine gx_seq (g1_asg (bi hF fun v17 hv17 hF => ex_fix v17 M (have hF := hv17; ex_andT (ex_cmp (ex_var 1 rfl (ex_int (bi hF fun t9 ht9 hF => od_cEq hr.units .id .id ht9 (bi hF fun t10 ht10 hF => ⟨_, _, .id, ht10, fun q8 => have hF := iT q8 hF; ex_andT (ex_blt T.b_isinstance bb_isi (ax_cons (ex_ix (ex_var 2 rfl (ex_dNeg (ex_int ⟨_, _, .id, rfl, bi hF fun v12 hv12 hF => id_dIx .id .id hv12 (ax_cons (ex_tyn T.b_str bb_str (ax_nil (bi hF fun t13 ht13 hF => cd_dIsi (by decide) .id rfl ht13 (bi hF fun t14 ht14 hF => ⟨_, _, .id, ht14, fun q11 => have hF := iT q11 hF; ex_one (ex_cmp (ex_ix (ex_var 2 rfl (ex_dNeg (ex_int ⟨_, _, .id, rfl, bi hF fun v15 hv15 hF => id_dIx .id .id hv15 (ex_tup (ax_cons (ex_str (ax_cons (ex_str (ax_nil (⟨le_b rfl, bi hF fun t16 ht16 hF => od_cIn .id .id ht16 (⟨so hF, rfl⟩)⟩)))))))⟩))))), fun q11 => ⟨so (iF q11 hF), rfl⟩⟩)))))⟩)))))), fun q8 => ⟨so (iF q8 hF), rfl⟩⟩)))))) (as_name 3 (?_) sc_Lis_right_row.nd)))
    refine gx_seq (g1_asg (ex_ty T.b_list bb_list (ax_cons (ex_slice (ex_var 2 rfl (ox_none (ox_d (ex_bin (ex_blt T.b_len bb_len (ax_cons (ex_var 2 rfl (ax_nil (bi hF fun v18 hv18 hF => cd_dLen .id hv18 (ex_ty T.b_int bb_int (ax_cons (ex_var 3 rfl (ax_nil (bi hF fun v19 hv19 hF => cd_dInt .id hv19 (bi hF fun v20 hv20 hF => od_dSub .id .id hv20 (bi hF fun i21 hi21 hF => ⟨_, _, .id, hi21, bi hF fun v22 hv22 hF => sd_dCut .id hv22 (ax_nil (bi hF fun l23 hl23 hF => cd_lList rfl .id hl23 (as_name 4 (?_) sc_Lis_right_row.nd)))⟩))))))))))))))))))))
    refine gx_seq (g1_if (tx_cmp (ex_lc (own := [("_law_spot", 5)]) (hN := sc_Lis_right_row.nd) rfl (bi hF fun l25 hl25 hF => ix_seqU (M2 := M) (ex_var 4 rfl (⟨rfl, rfl⟩)) hl25 (bi hF fun _ hz30 hF => bi hF fun y28 hy28 hF => filtF hy28 (chk_inv hz30).1 (fun x27 _ acc d29 hF hd29 => have fb_d29 := hd29; asb_name 5 (txb_one fun _ _ _ _ _ => tx_not (tx_tru (ex_callX (fx_Lis_number_3 T) Lets.no (fun h => nomatch h) (hr.mono (by decide)) T.m_Lis_number T.d_Lis_number.choose_spec.kp (ev_a (ax_cons (ex_var 5 rfl (ax_cons (ex_var 1 rfl (ax_cons (ex_var 0 rfl (ax_nil (kx_nil (bi hF fun v32 hv32 hF => ⟨rfl, ⟨rfl, rfl, ⟨_, _, _, v32, rfl, hv32, bi hF fun t33 ht33 hF => ⟨_, _, .id, ht33, ⟨fun q34 => have hF := iT q34 hF; fun _ _ _ _ _ => ex_var 5 rfl (⟨(so hF).symm, rfl⟩), fun q34 => ⟨(so (iF q34 hF)).symm, rfl⟩⟩⟩⟩⟩⟩))))))))))))) (hN := sc_Lis_right_row.nd)) (ex_lst (ax_nil (⟨le_b rfl, bi hF fun t35 ht35 hF => od_cNe hr.units .id .id ht35 (⟨_, rfl, ⟨fun q24 => ?_, fun q24 => ?_⟩⟩)⟩))))))))
    · have hF := iT q24 hF
      exact gx_seq (g1_ret (ex_less (ex_bl (⟨_, sub_refl, ret0 (so hF) hk⟩))))
    · have hF := iF q24 hF
      refine gx_nil ?_
      show GX _ _ _ _ _ _
      refine gx_seq (g1_if (bi hF fun t44 ht44 hF => tx_fix t44 M (have hF := ht44; tx_pw (wx_or (tx_cmp (ex_lenSetF rfl T.b_len T.b_set (ex_var 4 rfl (bi hF fun v38 hv38 hF => ⟨_, v38, .id, hv38, ex_blt T.b_len bb_len (ax_cons (ex_var 4 rfl (ax_nil (bi hF fun v39 hv39 hF => cd_dLen .id hv39 (bi hF fun t40 ht40 hF => od_cNe hr.units .id .id ht40 (⟨_, rfl, ⟨fun q37 => have hF := iF q37 hF; wx_or1 (tx_cmp (ex_int (ex_slice (ex_var 4 rfl (ox_none (ox_d (ex_dNeg (ex_int ⟨_, _, .id, rfl, bi hF fun i41 hi41 hF => ⟨_, _, .id, hi41, bi hF fun v42 hv42 hF => sd_dCut .id hv42 (bi hF fun t43 ht43 hF => od_cIn .id .id ht43 (⟨_, rfl, ⟨so hF, rfl⟩⟩))⟩⟩)))))))), fun q37 => ⟨so (iT q37 hF), rfl⟩⟩⟩))))))⟩)))))) (⟨fun q36 => ?_, fun q36 => ?_⟩)))
      · have hF := iT q36 hF
        exact gx_seq (g1_ret (ex_less (ex_bl (⟨_, sub_refl, ret0 (so hF) hk⟩))))
      · have hF := iF q36 hF
        refine gx_nil ?_
        show GX _ _ _ _ _ _
        exact gx_seq (g1_ret (ex_less (bi hF fun v49 hv49 hF => ex_fix v49 M (have hF := hv49; ex_orT (ex_notT (ex_var 3 rfl (bi hF fun t46 ht46 hF => ⟨_, _, .id, ht46, bi hF fun t47 ht47 hF => ⟨_, _, .id, ht47, fun q45 => have hF := iF q45 hF; ex_one (ex_cmp (ex_int (ex_var 4 rfl (bi hF fun t48 ht48 hF => od_cNin .id .id ht48 (⟨so hF, rfl⟩))))), fun q45 => ⟨so (iT q45 hF), rfl⟩⟩⟩)))) (⟨_, sub_refl, ret0 (so hF) hk⟩))))
theorem fx_Lis_right_row_3 {pg : Program} {w : World} {K : PySem.W.Frag} {mg : Str → Option Value} {base : Heap} (T : Txt pg K mg base) : FnX pg w K mg base false 5 (He.fAd K ("_law_is_right_row", none)) ([] : List PySem.Str) (fun ds zs M P R => ds.length = 3 ∧ zs.length = ([] : List PySem.Str).length ∧ tr_Lis_right_row K (pick (ds ++ ([] ++ zs)) [0, 1, 2]) M P R) :=
  fn_kwX T.d_Lis_right_row.choose_spec sc_Lis_right_row (ok_Lis_right_row T) 3 ([] : List PySem.Str) [] [] [0, 1, 2] (by simp) (fun _ => .nil) (fun kV D doc pm an cdv ct us mv ws e h1 h2 h3 => match us, mv, ws, h1, h2, h3 with | [_, _, _], [], [], _, _, _ => rfl) (fun us mv ws h1 h2 h3 => match us, mv, ws, h1, h2, h3 with | [_, _, _], [], [], _, _, _ => rfl)
def tr_joined_rows (K : PySem.W.Frag) : TrB := fun ds M P R => ∃ x0 : D, ∃ x1 : D, ∃ r : D, ds = [x0, x1] ∧ F_joined_rows x0 x1 = some r ∧ P r M
set_option maxHeartbeats 0 in
theorem ok_joined_rows {pg : Program} {w : World} {K : PySem.W.Frag} {mg : Str → Option Value} {base : Heap} (T : Txt pg K mg base) : BodyX pg w K mg base false 2 (He.fAd K ("joined_rows", none)) "joined_rows" (defBody s_joined_rows) (defScope s_joined_rows) ["upper", "lower", "found", "entry"] ["upper", "lower"] (tr_joined_rows K) := fun cdv hcv A outer s H F0 E ds M P R hgd0 hr t hL hpo kx => by
  obtain ⟨x0, x1, r, rfl, hF, hk⟩ := t
  unfold F_joined_rows at hF
  refine gx_seq (g1_asg (ex_lstM (ax_star (ex_var 0 rfl (bi hF fun l1 hl1 hF => ⟨_, sqOf .id hl1, ax_nil (bi hF fun _ h2 hF => ⟨(chk_inv h2).1, fun a3 ha3 => have fb_a3 := ha3; as_name 2 (?_) sc_joined_rows.nd⟩)⟩)))))
  refine gx_seq (g1_for hpo rfl (bi hF fun l4 hl4 hF => ix_seqU (M2 := (up M a3 (.lst (l1 ++ [])))) (ex_var 1 rfl (⟨rfl, rfl⟩)) hl4 (bi hF fun c8 hlc8 hOc8 => forC hlc8 (fun s5 ρ' M' => ∃ j0 : Option D, ρ' = [some x0, some x1, some (.adr a3), j0] ∧ M' = (up M a3 (.lst s5))) ⟨_, rfl, rfl⟩ ?_ ?_)))
  · rintro x7 s5 b9 hF hbb9 _ _ ⟨_, rfl, rfl⟩
    try dsimp only at hF
    refine as_name 3 (?_) sc_joined_rows.nd
    refine gx_seq (g1_if (bi hF fun t15 ht15 hF => tx_fix t15 (up M a3 (.lst s5)) (have hF := ht15; tx_pw (wx_and (tx_cmp (ex_var 2 rfl (ex_lst (ax_nil (⟨le_b rfl, bi hF fun t12 ht12 hF => od_cNe hr.units (.ad at0.get rfl) .id ht12 (⟨_, rfl, ⟨fun q11 => have hF := iT q11 hF; wx_and1 (tx_cmp (ex_ix (ex_var 2 rfl (ex_dNeg (ex_int ⟨_, _, .id, rfl, bi hF fun v13 hv13 hF => id_dIx (.ad at0.get rfl) .id hv13 (ex_tup (ax_cons (ex_int (ax_cons (ex_str (ax_cons (ex_str (ax_nil (⟨le_b rfl, bi hF fun t14 ht14 hF => od_cIn .id .id ht14 (⟨_, rfl, ⟨so hF, rfl⟩⟩)⟩)))))))))⟩))))), fun q11 => ⟨so (iF q11 hF), rfl⟩⟩⟩)⟩))))))) (⟨fun q10 => ?_, fun q10 => ?_⟩)))
    · have hF := iT q10 hF
      exact gx_seq (g1_break ⟨_, (so hF).symm, ⟨_, rfl, rfl⟩⟩)
    · have hF := iF q10 hF
      refine gx_nil ?_
      show GX _ _ _ _ _ _
      refine gx_seq (bi hF fun r17 hF hRr17 => g1_mid (fun ρ' M' => ρ' = [some x0, some x1, some (.adr a3), some x7] ∧ M' = (up M a3 (.lst r17))) (g1_if (tx_cmp (ex_var 3 rfl (ex_var 2 rfl (bi hF fun t18 ht18 hF => od_cNin .id (.ad at0.get rfl) ht18 (⟨_, rfl, ⟨fun q16 => ?_, fun q16 => ?_⟩⟩)))))) ?_)
      · have hF := iT q16 hF
        refine gx_seq (g1_expr (ex_append (ex_var 2 rfl (⟨_, _, rfl, at0.get, ax_cons (ex_var 3 rfl (ax_nil (bi hF fun _ h19 hF => ⟨_, _, _, rfl, at0, (chk_inv h19).1, ?_⟩)))⟩))))
        cases hF
        exact gx_nil ⟨rfl, rfl⟩
      · have hF := iF q16 hF
        cases hF
        exact gx_nil ⟨rfl, rfl⟩
      · rintro _ _ ⟨rfl, rfl⟩
        have hF := hRr17
        try dsimp only at hF
        show GX _ _ _ _ _ _
        exact gx_nil ⟨_, (so hF).symm, ⟨_, rfl, rfl⟩⟩
  · rintro r6 hg _ _ ⟨_, rfl, rfl⟩
    have hF := ctl_go hOc8 hg
    try dsimp only at hF
    show GX _ _ _ _ _ _
    exact gx_seq (g1_ret (ex_less (ex_ty T.b_tuple bb_tuple (ax_cons (ex_var 2 rfl (ax_nil (bi hF fun l20 hl20 hF => cd_lTuple rfl (.ad at0.get rfl) hl20 (⟨_, (sub_drop sub_refl fb_a3), ret0 (so hF) hk⟩))))))))
theorem fx_joined_rows_2 {pg : Program} {w : World} {K : PySem.W.Frag} {mg : Str → Option Value} {base : Heap} (T : Txt pg K mg base) : FnX pg w K mg base false 3 (He.fAd K ("joined_rows", none)) ([] : List PySem.Str) (fun ds zs M P R => ds.length = 2 ∧ zs.length = ([] : List PySem.Str).length ∧ tr_joined_rows K (pick (ds ++ ([] ++ zs)) [0, 1]) M P R) :=
  fn_kwX T.d_joined_rows.choose_spec sc_joined_rows (ok_joined_rows T) 2 ([] : List PySem.Str) [] [] [0, 1] (by simp) (fun _ => .nil) (fun kV D doc pm an cdv ct us mv ws e h1 h2 h3 => match us, mv, ws, h1, h2, h3 with | [_, _], [], [], _, _, _ => rfl) (fun us mv ws h1 h2 h3 => match us, mv, ws, h1, h2, h3 with | [_, _], [], [], _, _, _ => rfl)
def tr_node_rows (K : PySem.W.Frag) : TrB := fun ds M P R => ∃ x0 : D, ∃ x1 : D, ∃ x2 : D, ∃ r : D, ds = [x0, x1, x2] ∧ F_node_rows x0 x1 x2 = some r ∧ P r M
set_option maxHeartbeats 0 in
theorem ok_node_rows {pg : Program} {w : World} {K : PySem.W.Frag} {mg : Str → Option Value} {base : Heap} (T : Txt pg K mg base) : BodyX pg w K mg base false 4 (He.fAd K ("node_rows", none)) "node_rows" (defBody s_node_rows) (defScope s_node_rows) ["n", "cells", "stuck", "found", "index", "upper", "lower", "position"] ["n", "cells", "stuck"] (tr_node_rows K) := fun cdv hcv A outer s H F0 E ds M P R hgd0 hr t hL hpo kx => by
  obtain ⟨x0, x1, x2, r, rfl, hF, hk⟩ := t
  unfold F_node_rows at hF
  refine gx_seq (g1_lcM (own := [("position", 7)]) (hN := sc_node_rows.nd) 3 rfl (bi hF fun v2 hv2 hF => bi hF fun l3 hl3 hF => ix_range1U (M2 := M) T.b_range ((have hF := hv2; ax_cons (ex_bin (ex_var 0 rfl (ex_int (bi hF fun v1 hv1 hF => od_dAdd .id .id hv1 (ax_nil (⟨by rw [so hF], rfl⟩)))))))) hl3 (bi hF fun _ hz8 hF => bi hF fun y6 hy6 hF => lc_mut (ys := y6) (M2 := M) (lcF hy6 (chk_inv hz8).1 (fun x5 _ acc d7 hF hd7 => have fb_d7 := hd7; asb_name 7 (fun _ _ _ _ _ => ex_tup (ax_cons (ex_var 7 rfl (ax_nil (⟨le_b rfl, ⟨so hF, rfl⟩⟩))))) (hN := sc_node_rows.nd)) ⟨rfl, rfl⟩) (fun a10 ha10 => have fb_a10 := ha10; ?_))))
  refine gx_seq (g1_for hpo rfl (bi hF fun l11 hl11 hF => ix_enumU (M2 := (up M a10 (.lst y6))) T.b_enumerate (ax_cons (ex_var 1 rfl (ax_nil (⟨rfl, rfl⟩)))) hl11 (bi hF fun r13 hlr13 hF => forF hlr13 (fun s12 ρ' M' => ∃ j0 : Option D, ∃ j1 : Option D, ∃ j2 : Option D, ∃ j3 : Option D, ρ' = [some x0, some x1, some x2, some (.adr a10), j0, j1, j2, j3] ∧ M' = (up M a10 (.lst s12))) ⟨_, _, _, _, rfl, rfl⟩ ?_ ?_)))
  · rintro x14 s12 _ hF _ _ ⟨_, _, _, _, rfl, rfl⟩
    try dsimp only at hF
    refine bi hF fun p17 hp17 hF => as_eq (un2_eq hp17) (as_tup rfl rfl (asd_cons (as_name 4 (asd_cons (bi hF fun p18 hp18 hF => as_eq (un2_eq hp18) (as_tup rfl rfl (asd_cons (as_name 5 (asd_cons (as_name 6 (asd_nil (asd_nil (?_))) sc_node_rows.nd)) sc_node_rows.nd))))) sc_node_rows.nd)))
    refine gx_seq (bi hF fun r20 hF hRr20 => g1_mid (fun ρ' M' => ∃ j0 : Option D, ρ' = [some x0, some x1, some x2, some (.adr a10), some p17.1, some p18.1, some p18.2, j0] ∧ M' = (up M a10 (.lst r20))) (g1_if (tx_cmp (ex_var 4 rfl (ex_var 2 rfl (bi hF fun k21 hk21 hF => bi hF fun t22 ht22 hF => od_inK hr.units (kw_of .id hk21) ht22 (⟨_, rfl, ⟨fun q19 => ?_, fun q19 => ?_⟩⟩)))))) ?_)
    · have hF := iT q19 hF
      refine gx_seq (g1_expr (ex_append (ex_var 3 rfl (⟨_, _, rfl, at0.get, ax_cons (bi hF fun v29 hv29 hF => ex_fix v29 (up M a10 (.lst s12)) (have hF := hv29; ex_if (tx_cmp (ex_getK hr.units (ex_var 2 rfl (ex_var 4 rfl (bi hF fun k23 hk23 hF => bi hF fun v24 hv24 hF => ⟨_, v24, (kw_of .id hk23), hv24, ex_gstr T.g_PASS (bi hF fun t25 ht25 hF => od_cEq hr.units .id .id ht25 (⟨_, rfl, ⟨fun q28 => have hF := iT q28 hF; ex_tup (ax_nil (⟨le_b rfl, ⟨so hF, rfl⟩⟩)), fun q28 => have hF := iF q28 hF; ex_tup (ax_cons (ex_getK hr.units (ex_var 2 rfl (ex_var 4 rfl (bi hF fun k26 hk26 hF => bi hF fun v27 hv27 hF => ⟨_, v27, (kw_of .id hk26), hv27, ax_nil (⟨le_b rfl, ⟨so hF, rfl⟩⟩)⟩)))))⟩⟩))⟩)))))) (ax_nil (bi hF fun _ h30 hF => ⟨_, _, _, rfl, at0, (chk_inv h30).1, ?_⟩)))⟩))))
      cases hF
      exact gx_nil ⟨_, rfl, rfl⟩
    · have hF := iF q19 hF
      refine gx_seq (g1_expr (ex_append (ex_var 3 rfl (⟨_, _, rfl, at0.get, ax_cons (ex_callX (fx_joined_rows_2 T) Lets.no (fun h => nomatch h) (hr.mono (by decide)) T.m_joined_rows T.d_joined_rows.choose_spec.kp (ev_a (ax_cons (ex_ix (ex_var 3 rfl (ex_var 5 rfl (bi hF fun v31 hv31 hF => id_dIx (.ad at0.get rfl) .id hv31 (ax_cons (ex_ix (ex_var 3 rfl (ex_var 6 rfl (bi hF fun v32 hv32 hF => id_dIx (.ad at0.get rfl) .id hv32 (ax_nil (kx_nil (bi hF fun v33 hv33 hF => ⟨rfl, ⟨rfl, rfl, ⟨_, _, v33, rfl, hv33, ax_nil (bi hF fun _ h34 hF => ⟨_, _, _, rfl, at0, (chk_inv h34).1, ?_⟩)⟩⟩⟩)))))))))))))))⟩))))
      cases hF
      exact gx_nil ⟨_, rfl, rfl⟩
    · rintro _ _ ⟨_, rfl, rfl⟩
      have hF := hRr20
      try dsimp only at hF
      show GX _ _ _ _ _ _
      cases hF
      exact gx_nil ⟨_, _, _, _, rfl, rfl⟩
  · rintro _ _ ⟨_, _, _, _, rfl, rfl⟩
    try dsimp only at hF
    show GX _ _ _ _ _ _
    refine gx_frzA 3 rfl at0.get (subx_here fb_a10) ?_
    show GX _ _ _ _ _ _
    exact gx_seq (g1_ret (ex_less (ex_var 3 rfl (⟨_, sub_refl, ret0 (so hF) hk⟩))))
theorem fx_node_rows_3 {pg : Program} {w : World} {K : PySem.W.Frag} {mg : Str → Option Value} {base : Heap} (T : Txt pg K mg base) : FnX pg w K mg base false 5 (He.fAd K ("node_rows", none)) ([] : List PySem.Str) (fun ds zs M P R => ds.length = 3 ∧ zs.length = ([] : List PySem.Str).length ∧ tr_node_rows K (pick (ds ++ ([] ++ zs)) [0, 1, 2]) M P R) :=
  fn_kwX T.d_node_rows.choose_spec sc_node_rows (ok_node_rows T) 3 ([] : List PySem.Str) [] [] [0, 1, 2] (by simp) (fun _ => .nil) (fun kV D doc pm an cdv ct us mv ws e h1 h2 h3 => match us, mv, ws, h1, h2, h3 with | [_, _, _], [], [], _, _, _ => rfl) (fun us mv ws h1 h2 h3 => match us, mv, ws, h1, h2, h3 with | [_, _, _], [], [], _, _, _ => rfl)
def tr_Faulty_held_states (K : PySem.W.Frag) : TrB := fun ds M P R => ∃ x0 : D, ∃ r : D, ds = [x0] ∧ F_Faulty_held_states (Zk K) x0 = some r ∧ P r M
set_option maxHeartbeats 0 in
theorem ok_Faulty_held_states {pg : Program} {w : World} {K : PySem.W.Frag} {mg : Str → Option Value} {base : Heap} (T : Txt pg K mg base) : BodyX pg w K mg base false 2 (He.fAd K ("Faulty", some "held_states")) "Network.held_states" (defBody s_Faulty_held_states) (defScope s_Faulty_held_states) ["self"] ["self"] (tr_Faulty_held_states K) := fun cdv hcv A outer s H F0 E ds M P R hgd0 hr t hL hpo kx => by
  obtain ⟨x0, r, rfl, hF, hk⟩ := t
  unfold F_Faulty_held_states at hF
  exact gx_seq (g1_ret (ex_less (ex_ty T.b_dict bb_dict (ax_cons (ex_fldC T.cls_Faulty T.no_Faulty_held (ex_var 0 rfl (bi hF fun g1 hg1 hF => bi hF fun z2 hz2 hF => ⟨_, g1, z2, .id, hg1, hz2, ax_nil (bi hF fun l3 hl3 hF => bi hF fun k4 hk4 hF => cd_dictSt hl3 hk4 (⟨_, sub_refl, ret0 (so hF) hk⟩))⟩)))))))
theorem fx_Faulty_held_states_1 {pg : Program} {w : World} {K : PySem.W.Frag} {mg : Str → Option Value} {base : Heap} (T : Txt pg K mg base) : FnX pg w K mg base false 3 (He.fAd K ("Faulty", some "held_states")) ([] : List PySem.Str) (fun ds zs M P R => ds.length = 1 ∧ zs.length = ([] : List PySem.Str).length ∧ tr_Faulty_held_states K (pick (ds ++ ([] ++ zs)) [0]) M P R) :=
  fn_kwX T.d_Faulty_held_states.choose_spec sc_Faulty_held_states (ok_Faulty_held_states T) 1 ([] : List PySem.Str) [] [] [0] (by simp) (fun _ => .nil) (fun kV D doc pm an cdv ct us mv ws e h1 h2 h3 => match us, mv, ws, h1, h2, h3 with | [_], [], [], _, _, _ => rfl) (fun us mv ws h1 h2 h3 => match us, mv, ws, h1, h2, h3 with | [_], [], [], _, _, _ => rfl)
def tr_Faulty_rows (K : PySem.W.Frag) : TrB := fun ds M P R => ∃ x0 : D, ∃ r : D, ds = [x0] ∧ F_Faulty_rows (Zk K) x0 = some r ∧ P r M
set_option maxHeartbeats 0 in
theorem ok_Faulty_rows {pg : Program} {w : World} {K : PySem.W.Frag} {mg : Str → Option Value} {base : Heap} (T : Txt pg K mg base) : BodyX pg w K mg base false 6 (prAd K "Faulty" "rows").2 "Faulty.rows" (defBody s_Faulty_rows) (defScope s_Faulty_rows) ["self", "known", "node"] ["self"] (tr_Faulty_rows K) := fun cdv hcv A outer s H F0 E ds M P R hgd0 hr t hL hpo kx => by
  obtain ⟨x0, r, rfl, hF, hk⟩ := t
  unfold F_Faulty_rows at hF
  refine gx_seq (g1_asg (ex_callX (fx_node_rows_3 T) Lets.no (fun h => nomatch h) (hr.mono (by decide)) T.m_node_rows T.d_node_rows.choose_spec.kp (ev_a (ax_cons (ex_fldC T.cls_Faulty T.no_Faulty_bits (ex_var 0 rfl (bi hF fun g1 hg1 hF => bi hF fun z2 hz2 hF => ⟨_, g1, z2, .id, hg1, hz2, ax_cons (ex_fldC T.cls_Faulty T.no_Faulty_joins (ex_var 0 rfl (bi hF fun g3 hg3 hF => bi hF fun z4 hz4 hF => ⟨_, g3, z4, .id, hg3, hz4, ax_cons (ex_methX (gd := false) Lets.no (fun h => nomatch h) (ex_var 0 rfl (bi hF fun g5 hg5 hF => ⟨_, _, _, _, _, is_mt hg5, (mthC_eq hg5).2, T.cls_Faulty, T.me_Faulty_held_states, (fx_Faulty_held_states_1 T), (hr.mono (by decide)), ev_0 (kx_nil (bi hF fun v6 hv6 hF => ⟨rfl, ⟨rfl, rfl, ⟨_, v6, rfl, hv6, ax_nil (kx_nil (bi hF fun v7 hv7 hF => ⟨rfl, ⟨rfl, rfl, ⟨_, _, _, v7, rfl, hv7, as_name 1 (?_) sc_Faulty_rows.nd⟩⟩⟩))⟩⟩⟩))⟩)))⟩)))⟩)))))))
  exact gx_seq (g1_ret (ex_less (ex_ty T.b_tuple bb_tuple (ax_cons (ex_lc (own := [("node", 2)]) (hN := sc_Faulty_rows.nd) rfl (bi hF fun v10 hv10 hF => bi hF fun l11 hl11 hF => ix_seqU (M2 := M) ((have hF := hv10; ex_fldC T.cls_Faulty T.no_Faulty_ends (ex_var 0 rfl (bi hF fun g8 hg8 hF => bi hF fun z9 hz9 hF => ⟨_, g8, z9, .id, hg8, hz9, ⟨so hF, rfl⟩⟩)))) hl11 (bi hF fun _ hz16 hF => bi hF fun y14 hy14 hF => lcF hy14 (chk_inv hz16).1 (fun x13 _ acc d15 hF hd15 => have fb_d15 := hd15; asb_name 2 (fun _ _ _ _ _ => ex_ix (ex_var 1 rfl (ex_var 2 rfl (bi hF fun v18 hv18 hF => id_dIx .id .id hv18 (⟨so hF, rfl⟩))))) (hN := sc_Faulty_rows.nd)) (ax_nil (bi hF fun l19 hl19 hF => cd_lTuple rfl .id hl19 (⟨_, sub_refl, ret0 (so hF) hk⟩))))))))))
theorem fx_Faulty_rows_1 {pg : Program} {w : World} {K : PySem.W.Frag} {mg : Str → Option Value} {base : Heap} (T : Txt pg K mg base) : FnX pg w K mg base false 7 (prAd K "Faulty" "rows").2 ([] : List PySem.Str) (fun ds zs M P R => ds.length = 1 ∧ zs.length = ([] : List PySem.Str).length ∧ tr_Faulty_rows K (pick (ds ++ ([] ++ zs)) [0]) M P R) :=
  fn_kwX T.d_Faulty_rows.choose_spec sc_Faulty_rows (ok_Faulty_rows T) 1 ([] : List PySem.Str) [] [] [0] (by simp) (fun _ => .nil) (fun kV D doc pm an cdv ct us mv ws e h1 h2 h3 => match us, mv, ws, h1, h2, h3 with | [_], [], [], _, _, _ => rfl) (fun us mv ws h1 h2 h3 => match us, mv, ws, h1, h2, h3 with | [_], [], [], _, _, _ => rfl)
def tr_Order_positions (K : PySem.W.Frag) : TrB := fun ds M P R => ∃ x0 : D, ∃ r : D, ds = [x0] ∧ F_Order_positions (Zk K) x0 = some r ∧ P r M
set_option maxHeartbeats 0 in
theorem ok_Order_positions {pg : Program} {w : World} {K : PySem.W.Frag} {mg : Str → Option Value} {base : Heap} (T : Txt pg K mg base) : BodyX pg w K mg base false 2 (prAd K "Order" "positions").2 "Order.positions" (defBody s_Order_positions) (defScope s_Order_positions) ["self"] ["self"] (tr_Order_positions K) := fun cdv hcv A outer s H F0 E ds M P R hgd0 hr t hL hpo kx => by
  obtain ⟨x0, r, rfl, hF, hk⟩ := t
  unfold F_Order_positions at hF
  exact gx_seq (g1_ret (ex_less (ex_fldC T.cls_Order T.no_Order_entries (ex_var 0 rfl (bi hF fun g1 hg1 hF => bi hF fun z2 hz2 hF => ⟨_, g1, z2, .id, hg1, hz2, ⟨_, sub_refl, ret0 (so hF) hk⟩⟩)))))
theorem fx_Order_positions_1 {pg : Program} {w : World} {K : PySem.W.Frag} {mg : Str → Option Value} {base : Heap} (T : Txt pg K mg base) : FnX pg w K mg base false 3 (prAd K "Order" "positions").2 ([] : List PySem.Str) (fun ds zs M P R => ds.length = 1 ∧ zs.length = ([] : List PySem.Str).length ∧ tr_Order_positions K (pick (ds ++ ([] ++ zs)) [0]) M P R) :=
  fn_kwX T.d_Order_positions.choose_spec sc_Order_positions (ok_Order_positions T) 1 ([] : List PySem.Str) [] [] [0] (by simp) (fun _ => .nil) (fun kV D doc pm an cdv ct us mv ws e h1 h2 h3 => match us, mv, ws, h1, h2, h3 with | [_], [], [], _, _, _ => rfl) (fun us mv ws h1 h2 h3 => match us, mv, ws, h1, h2, h3 with | [_], [], [], _, _, _ => rfl)
def tr_first_ones (K : PySem.W.Frag) : TrB := fun ds M P R => ∃ x0 : D, ∃ r : D, ds = [x0] ∧ F_first_ones x0 = some r ∧ P r M
set_option maxHeartbeats 0 in
theorem ok_first_ones {pg : Program} {w : World} {K : PySem.W.Frag} {mg : Str → Option Value} {base : Heap} (T : Txt pg K mg base) : BodyX pg w K mg base false 2 (He.fAd K ("first_ones", none)) "first_ones" (defBody s_first_ones) (defScope s_first_ones) ["positions", "found", "position"] ["positions"] (tr_first_ones K) := fun cdv hcv A outer s H F0 E ds M P R hgd0 hr t hL hpo kx => by
  obtain ⟨x0, r, rfl, hF, hk⟩ := t
  unfold F_first_ones at hF
  refine gx_seq (g1_asg (ex_lstM (ax_nil (⟨le_b rfl, fun a1 ha1 => have fb_a1 := ha1; as_name 1 (?_) sc_first_ones.nd⟩))))
  refine gx_seq (g1_for hpo rfl (bi hF fun l2 hl2 hF => ix_seqU (M2 := (up M a1 (.lst []))) (ex_var 0 rfl (⟨rfl, rfl⟩)) hl2 (bi hF fun c6 hlc6 hOc6 => forC hlc6 (fun s3 ρ' M' => ∃ j0 : Option D, ρ' = [some x0, some (.adr a1), j0] ∧ M' = (up M a1 (.lst s3))) ⟨_, rfl, rfl⟩ ?_ ?_)))
  · rintro x5 s3 b7 hF hbb7 _ _ ⟨_, rfl, rfl⟩
    try dsimp only at hF
    refine as_name 2 (?_) sc_first_ones.nd
    refine gx_seq (g1_if (bi hF fun t13 ht13 hF => tx_fix t13 (up M a1 (.lst s3)) (have hF := ht13; tx_pw (wx_and (tx_cmp (ex_var 1 rfl (ex_lst (ax_nil (⟨le_b rfl, bi hF fun t10 ht10 hF => od_cNe hr.units (.ad at0.get rfl) .id ht10 (⟨_, rfl, ⟨fun q9 => have hF := iT q9 hF; wx_and1 (tx_cmp (ex_ix (ex_var 1 rfl (ex_dNeg (ex_int ⟨_, _, .id, rfl, bi hF fun v11 hv11 hF => id_dIx (.ad at0.get rfl) .id hv11 (ex_int (bi hF fun t12 ht12 hF => od_cEq hr.units .id .id ht12 (⟨_, rfl, ⟨so hF, rfl⟩⟩)))⟩))))), fun q9 => ⟨so (iF q9 hF), rfl⟩⟩⟩)⟩))))))) (⟨fun q8 => ?_, fun q8 => ?_⟩)))
    · have hF := iT q8 hF
      exact gx_seq (g1_break ⟨_, (so hF).symm, ⟨_, rfl, rfl⟩⟩)
    · have hF := iF q8 hF
      refine gx_nil ?_
      show GX _ _ _ _ _ _
      refine gx_seq (bi hF fun r15 hF hRr15 => g1_mid (fun ρ' M' => ρ' = [some x0, some (.adr a1), some x5] ∧ M' = (up M a1 (.lst r15))) (g1_if (tx_cmp (ex_var 2 rfl (ex_var 1 rfl (bi hF fun t16 ht16 hF => od_cNin .id (.ad at0.get rfl) ht16 (⟨_, rfl, ⟨fun q14 => ?_, fun q14 => ?_⟩⟩)))))) ?_)
      · have hF := iT q14 hF
        refine gx_seq (g1_expr (ex_append (ex_var 1 rfl (⟨_, _, rfl, at0.get, ax_cons (ex_var 2 rfl (ax_nil (bi hF fun _ h17 hF => ⟨_, _, _, rfl, at0, (chk_inv h17).1, ?_⟩)))⟩))))
        cases hF
        exact gx_nil ⟨rfl, rfl⟩
      · have hF := iF q14 hF
        cases hF
        exact gx_nil ⟨rfl, rfl⟩
      · rintro _ _ ⟨rfl, rfl⟩
        have hF := hRr15
        try dsimp only at hF
        show GX _ _ _ _ _ _
        exact gx_nil ⟨_, (so hF).symm, ⟨_, rfl, rfl⟩⟩
  · rintro r4 hg _ _ ⟨_, rfl, rfl⟩
    have hF := ctl_go hOc6 hg
    try dsimp only at hF
    show GX _ _ _ _ _ _
    exact gx_seq (g1_ret (ex_less (ex_ty T.b_tuple bb_tuple (ax_cons (ex_var 1 rfl (ax_nil (bi hF fun l18 hl18 hF => cd_lTuple rfl (.ad at0.get rfl) hl18 (⟨_, (sub_drop sub_refl fb_a1), ret0 (so hF) hk⟩))))))))
theorem fx_first_ones_1 {pg : Program} {w : World} {K : PySem.W.Frag} {mg : Str → Option Value} {base : Heap} (T : Txt pg K mg base) : FnX pg w K mg base false 3 (He.fAd K ("first_ones", none)) ([] : List PySem.Str) (fun ds zs M P R => ds.length = 1 ∧ zs.length = ([] : List PySem.Str).length ∧ tr_first_ones K (pick (ds ++ ([] ++ zs)) [0]) M P R) :=
  fn_kwX T.d_first_ones.choose_spec sc_first_ones (ok_first_ones T) 1 ([] : List PySem.Str) [] [] [0] (by simp) (fun _ => .nil) (fun kV D doc pm an cdv ct us mv ws e h1 h2 h3 => match us, mv, ws, h1, h2, h3 with | [_], [], [], _, _, _ => rfl) (fun us mv ws h1 h2 h3 => match us, mv, ws, h1, h2, h3 with | [_], [], [], _, _, _ => rfl)
def tr_Order___init__ (K : PySem.W.Frag) : TrB := fun ds M P R => ∃ (p : Addr) (M1 : Mem), ∃ x1 : D, ∃ r : Except Er (List (Str × D)), M1 p = none ∧ M = up M1 p (.ins (Zk K "Order") []) ∧ ds = [.adr p, x1] ∧ F_Order___init__ (Zk K) x1 = some r ∧ resX r (fun r => P .non (up M1 p (.ins (Zk K "Order") r))) (fun e => R e.1 e.2 M1)
set_option maxHeartbeats 0 in
theorem ok_Order___init__ {pg : Program} {w : World} {K : PySem.W.Frag} {mg : Str → Option Value} {base : Heap} (T : Txt pg K mg base) : BodyX pg w K mg base false 4 (He.fAd K ("Order", some "__init__")) "Order.__init__" (defBody s_Order___init__) (defScope s_Order___init__) ["self", "positions", "index", "position"] ["self", "positions"] (tr_Order___init__ K) := fun cdv hcv A outer s H F0 E ds M P R hgd0 hr t hL hpo kx => by
  obtain ⟨p_0, M1, x1, r, fb_p_0, rfl, rfl, hF, hk⟩ := t
  unfold F_Order___init__ at hF
  refine gx_seq (g1_for hpo rfl (bi hF fun l1 hl1 hF => ix_enumU (M2 := (up M1 p_0 (.ins (Zk K "Order") ([] : List (Str × D))))) T.b_enumerate (ax_cons (ex_var 1 rfl (ax_nil (⟨rfl, rfl⟩)))) hl1 (bi hF fun c5 hlc5 hOc5 => forC hlc5 (fun s2 ρ' M' => ∃ j0 : Option D, ∃ j1 : Option D, ρ' = [some (.adr p_0), some x1, j0, j1] ∧ M' = (up M1 p_0 (.ins (Zk K "Order") ([] : List (Str × D))))) ⟨_, _, rfl, rfl⟩ ?_ ?_)))
  · rintro x4 s2 b6 hF hbb6 _ _ ⟨_, _, rfl, rfl⟩
    try dsimp only at hF
    refine bi hF fun p7 hp7 hF => as_eq (un2_eq hp7) (as_tup rfl rfl (asd_cons (as_name 2 (asd_cons (as_name 3 (asd_nil (?_)) sc_Order___init__.nd)) sc_Order___init__.nd)))
    refine gx_seq (g1_if (tx_not (tx_tru (ex_callX (fx_is_between_3 T) Lets.no (fun h => nomatch h) (hr.mono (by decide)) T.m_is_between T.d_is_between.choose_spec.kp (ev_a (ax_cons (ex_var 3 rfl (ax_cons (ex_int (ax_cons (ex_conC (y := (D.int 24)) T.cls_Order ⟨_, _, T.co_Order_GREATEST.choose_spec, fun _ => .int _⟩ (ex_var 0 rfl (bi hF fun g9 hg9 hF => ⟨_, g9, (.ad at0.get), hg9, ax_nil (kx_nil (bi hF fun v10 hv10 hF => ⟨rfl, ⟨rfl, rfl, ⟨_, _, _, v10, rfl, hv10, bi hF fun t11 ht11 hF => ⟨_, _, .id, ht11, ⟨fun q8 => ?_, fun q8 => ?_⟩⟩⟩⟩⟩))⟩)))))))))))))
    · have hF := iT q8 hF
      exact gx_seq (g1_rs1 hL rfl T.er_InvalidPosition basV T.d_InvalidPosition___init__.choose_spec sc_InvalidPosition___init__ ⟨_, _, _, _, rfl⟩ T.nf_InvalidPosition_index (hr.mono (by decide)) (T.d_InvalidPosition___init__.choose_spec.bindsN fun _ _ _ _ _ _ us hl => match us, hl with | [_, _], _ => rfl) T.g_InvalidPosition (ex_var 2 rfl (⟨_, (sub_drop sub_refl fb_p_0), errX (q := fun e => R e.1 e.2 M1) (so (ctl_retS hOc5 (hbb6 _ (so hF).symm))) hk⟩)))
    · have hF := iF q8 hF
      refine gx_nil ?_
      show GX _ _ _ _ _ _
      exact gx_nil ⟨_, (so hF).symm, ⟨_, _, rfl, rfl⟩⟩
  · rintro r3 hg _ _ ⟨_, _, rfl, rfl⟩
    have hF := ctl_go hOc5 hg
    try dsimp only at hF
    show GX _ _ _ _ _ _
    refine gx_seq (g1_setFldF (ex_callX (fx_first_ones_1 T) Lets.no (fun h => nomatch h) (hr.mono (by decide)) T.m_first_ones T.d_first_ones.choose_spec.kp (ev_a (ax_cons (ex_var 1 rfl (ax_nil (kx_nil (bi hF fun v12 hv12 hF => ⟨rfl, ⟨rfl, rfl, ⟨_, v12, rfl, hv12, bi hF fun _ h13 hF => ex_var 0 rfl (⟨_, _, _, _, rfl, at0, T.cls_Order, T.no_Order_entries, (chk_inv h13).1, ?_⟩)⟩⟩⟩))))))))
    exact gx_nil (retX (p := fun r => P .non (up M1 p_0 (.ins (Zk K "Order") r))) (so hF) hk)
theorem fx_Order___init___1 {pg : Program} {w : World} {K : PySem.W.Frag} {mg : Str → Option Value} {base : Heap} (T : Txt pg K mg base) : FnX pg w K mg base false 5 (He.fAd K ("Order", some "__init__")) ([] : List PySem.Str) (fun ds zs M P R => ∃ d0 dr, ds = d0 ++ dr ∧ d0.length = 1 ∧ zs.length = ([] : List PySem.Str).length ∧ dr.length ≤ 1000000 ∧ (false = true → dr = []) ∧ tr_Order___init__ K (pick (d0 ++ ([] ++ zs)) [0] ++ [D.tup dr]) M P R) :=
  fn_starX (pn := ["self"]) (pv := "positions") T.d_Order___init__.choose_spec sc_Order___init__ (ok_Order___init__ T) 1 ([] : List PySem.Str) [] [] [0] (by simp) (fun _ => .nil) D.tup (.inl rfl) false (fun kV D doc pm an cdv ct us rest mv ws e er h1 h2 h3 => match us, rest, mv, ws, h1, h2, h3 with | [_], [], [], [], _, _, _ => rfl | [_], _ :: _, [], [], _, _, _ => rfl) (fun us mv ws h1 h2 h3 => match us, mv, ws, h1, h2, h3 with | [_], [], [], _, _, _ => rfl)
def tr_Order___add__ (K : PySem.W.Frag) : TrB := fun ds M P R => ∃ x0 : D, ∃ x1 : D, ∃ r : D, ds = [x0, x1] ∧ F_Order___add__ (Zk K) x0 x1 = some r ∧ P r M
set_option maxHeartbeats 0 in
theorem ok_Order___add__ {pg : Program} {w : World} {K : PySem.W.Frag} {mg : Str → Option Value} {base : Heap} (T : Txt pg K mg base) : BodyX pg w K mg base false 6 (He.fAd K ("Order", some "__add__")) "Order.__add__" (defBody s_Order___add__) (defScope s_Order___add__) ["self", "other"] ["self", "other"] (tr_Order___add__ K) := fun cdv hcv A outer s H F0 E ds M P R hgd0 hr t hL hpo kx => by
  obtain ⟨x0, x1, r, rfl, hF, hk⟩ := t
  unfold F_Order___add__ at hF
  exact gx_seq (g1_ret (ex_less (ex_makeX T.mk_Order (fx_Order___init___1 T) Lets.no (hr.mono (by decide)) T.g_Order (ev_s2 (ax_star (ex_fldC T.cls_Order T.no_Order_entries (ex_var 0 rfl (bi hF fun g1 hg1 hF => bi hF fun z2 hz2 hF => ⟨_, g1, z2, .id, hg1, hz2, bi hF fun l3 hl3 hF => ⟨_, sqOf .id hl3, ax_star (ex_fldC T.cls_Order T.no_Order_entries (ex_var 1 rfl (bi hF fun g4 hg4 hF => bi hF fun z5 hz5 hF => ⟨_, g4, z5, .id, hg4, hz5, bi hF fun l6 hl6 hF => ⟨_, sqOf .id hl6, ax_nil (bi hF fun _ h7 hF => bi hF fun r11 hr11 hF => fun a9 ha9 => ⟨[_], (l3 ++ (l6 ++ [])), rfl, rfl, rfl, (chk_inv h7).1, (fun h => nomatch h), ⟨a9, _, _, r11, ha9, rfl, rfl, hr11, exc_i hF (fun e10 hee10 hF => nomatch hF) (fun v8 hv8 hF => ⟨rfl, _, _, ha9, rfl, ⟨_, sub_refl, ret0 (so hF) hk⟩⟩)⟩⟩)⟩⟩)))⟩⟩))))))))
theorem fx_Order___add___2 {pg : Program} {w : World} {K : PySem.W.Frag} {mg : Str → Option Value} {base : Heap} (T : Txt pg K mg base) : FnX pg w K mg base false 7 (He.fAd K ("Order", some "__add__")) ([] : List PySem.Str) (fun ds zs M P R => ds.length = 2 ∧ zs.length = ([] : List PySem.Str).length ∧ tr_Order___add__ K (pick (ds ++ ([] ++ zs)) [0, 1]) M P R) :=
  fn_kwX T.d_Order___add__.choose_spec sc_Order___add__ (ok_Order___add__ T) 2 ([] : List PySem.Str) [] [] [0, 1] (by simp) (fun _ => .nil) (fun kV D doc pm an cdv ct us mv ws e h1 h2 h3 => match us, mv, ws, h1, h2, h3 with | [_, _], [], [], _, _, _ => rfl) (fun us mv ws h1 h2 h3 => match us, mv, ws, h1, h2, h3 with | [_, _], [], [], _, _, _ => rfl)
def tr_node_orders (K : PySem.W.Frag) : TrB := fun ds M P R => ∃ x0 : D, ∃ x1 : D, ∃ r : D, ds = [x0, x1] ∧ F_node_orders (Zk K) x0 x1 = some r ∧ P r M
set_option maxHeartbeats 0 in
theorem ok_node_orders {pg : Program} {w : World} {K : PySem.W.Frag} {mg : Str → Option Value} {base : Heap} (T : Txt pg K mg base) : BodyX pg w K mg base false 8 (He.fAd K ("node_orders", none)) "node_orders" (defBody s_node_orders) (defScope s_node_orders) ["n", "cells", "found", "upper", "lower", "position"] ["n", "cells"] (tr_node_orders K) := fun cdv hcv A outer s H F0 E ds M P R hgd0 hr t hL hpo kx => by
  obtain ⟨x0, x1, r, rfl, hF, hk⟩ := t
  unfold F_node_orders at hF
  refine gx_seq (g1_lcM (own := [("position", 5)]) (hN := sc_node_orders.nd) 2 rfl (bi hF fun v2 hv2 hF => bi hF fun l3 hl3 hF => ix_range1U (M2 := M) T.b_range ((have hF := hv2; ax_cons (ex_bin (ex_var 0 rfl (ex_int (bi hF fun v1 hv1 hF => od_dAdd .id .id hv1 (ax_nil (⟨by rw [so hF], rfl⟩)))))))) hl3 (bi hF fun _ hz8 hF => bi hF fun y6 hy6 hF => lc_mut (ys := y6) (M2 := M) (lcF hy6 (chk_inv hz8).1 (fun x5 _ acc d7 hF hd7 => have fb_d7 := hd7; asb_name 5 (fun _ _ _ _ _ => ex_makeX T.mk_Order (fx_Order___init___1 T) Lets.no (hr.mono (by decide)) T.g_Order (ev_a (ax_cons (ex_var 5 rfl (ax_nil (kx_nil (bi hF fun r13 hr13 hF => ⟨rfl, fun a11 ha11 => ⟨[_], [_], rfl, rfl, rfl, le_b rfl, (fun h => nomatch h), ⟨a11, _, _, r13, ha11, rfl, rfl, hr13, exc_i hF (fun e12 hee12 hF => nomatch hF) (fun v10 hv10 hF => ⟨rfl, _, _, ha11, rfl, ⟨so hF, rfl⟩⟩)⟩⟩⟩))))))) (hN := sc_node_orders.nd)) ⟨rfl, rfl⟩) (fun a14 ha14 => have fb_a14 := ha14; ?_))))
  refine gx_seq (g1_for hpo rfl (bi hF fun l15 hl15 hF => ix_seqU (M2 := (up M a14 (.lst y6))) (ex_var 1 rfl (⟨rfl, rfl⟩)) hl15 (bi hF fun r17 hlr17 hF => forF hlr17 (fun s16 ρ' M' => ∃ j0 : Option D, ∃ j1 : Option D, ∃ j2 : Option D, ρ' = [some x0, some x1, some (.adr a14), j0, j1, j2] ∧ M' = (up M a14 (.lst s16))) ⟨_, _, _, rfl, rfl⟩ ?_ ?_)))
  · rintro x18 s16 _ hF _ _ ⟨_, _, _, rfl, rfl⟩
    try dsimp only at hF
    refine bi hF fun p21 hp21 hF => as_eq (un2_eq hp21) (as_tup rfl rfl (asd_cons (as_name 3 (asd_cons (as_name 4 (asd_nil (?_)) sc_node_orders.nd)) sc_node_orders.nd)))
    refine gx_seq (g1_expr (ex_append (ex_var 2 rfl (⟨_, _, rfl, at0.get, ax_cons (ex_bin (ex_ix (ex_var 2 rfl (ex_var 3 rfl (bi hF fun v22 hv22 hF => id_dIx (.ad at0.get rfl) .id hv22 (ex_ix (ex_var 2 rfl (ex_var 4 rfl (bi hF fun v23 hv23 hF => id_dIx (.ad at0.get rfl) .id hv23 (bi hF fun g24 hg24 hF => bi hF fun g25 hg25 hF => bi hF fun v26 hv26 hF => bi hF fun i27 hi27 hF => od_addX (fx_Order___add___2 T) (hr.mono (by decide)) T.sf_Order T.me_Order___add__ (is_of hg24) (is_of hg25) ⟨rfl, rfl, _, _, v26, rfl, hv26, ⟨insA_eq hi27, ax_nil (bi hF fun _ h28 hF => ⟨_, _, _, rfl, at0, (chk_inv h28).1, ?_⟩)⟩⟩))))))))))⟩))))
    cases hF
    exact gx_nil ⟨_, _, _, rfl, rfl⟩
  · rintro _ _ ⟨_, _, _, rfl, rfl⟩
    try dsimp only at hF
    show GX _ _ _ _ _ _
    refine gx_frzA 2 rfl at0.get (subx_here fb_a14) ?_
    show GX _ _ _ _ _ _
    exact gx_seq (g1_ret (ex_less (ex_var 2 rfl (⟨_, sub_refl, ret0 (so hF) hk⟩))))
theorem fx_node_orders_2 {pg : Program} {w : World} {K : PySem.W.Frag} {mg : Str → Option Value} {base : Heap} (T : Txt pg K mg base) : FnX pg w K mg base false 9 (He.fAd K ("node_orders", none)) ([] : List PySem.Str) (fun ds zs M P R => ds.length = 2 ∧ zs.length = ([] : List PySem.Str).length ∧ tr_node_orders K (pick (ds ++ ([] ++ zs)) [0, 1]) M P R) :=
  fn_kwX T.d_node_orders.choose_spec sc_node_orders (ok_node_orders T) 2 ([] : List PySem.Str) [] [] [0, 1] (by simp) (fun _ => .nil) (fun kV D doc pm an cdv ct us mv ws e h1 h2 h3 => match us, mv, ws, h1, h2, h3 with | [_, _], [], [], _, _, _ => rfl) (fun us mv ws h1 h2 h3 => match us, mv, ws, h1, h2, h3 with | [_, _], [], [], _, _, _ => rfl)
def tr_Network_orders (K : PySem.W.Frag) : TrB := fun ds M P R => ∃ x0 : D, ∃ r : D, ds = [x0] ∧ F_Network_orders (Zk K) x0 = some r ∧ P r M
set_option maxHeartbeats 0 in
theorem ok_Network_orders {pg : Program} {w : World} {K : PySem.W.Frag} {mg : Str → Option Value} {base : Heap} (T : Txt pg K mg base) : BodyX pg w K mg base false 10 (prAd K "Network" "orders").2 "Network.orders" (defBody s_Network_orders) (defScope s_Network_orders) ["self", "known", "node"] ["self"] (tr_Network_orders K) := fun cdv hcv A outer s H F0 E ds M P R hgd0 hr t hL hpo kx => by
  obtain ⟨x0, r, rfl, hF, hk⟩ := t
  unfold F_Network_orders at hF
  refine gx_seq (g1_asg (ex_callX (fx_node_orders_2 T) Lets.no (fun h => nomatch h) (hr.mono (by decide)) T.m_node_orders T.d_node_orders.choose_spec.kp (ev_a (ax_cons (ex_fldC T.cls_Network T.no_Network_bits (ex_var 0 rfl (bi hF fun g1 hg1 hF => bi hF fun z2 hz2 hF => ⟨_, g1, z2, .id, hg1, hz2, ax_cons (ex_fldC T.cls_Network T.no_Network_joins (ex_var 0 rfl (bi hF fun g3 hg3 hF => bi hF fun z4 hz4 hF => ⟨_, g3, z4, .id, hg3, hz4, ax_nil (kx_nil (bi hF fun v5 hv5 hF => ⟨rfl, ⟨rfl, rfl, ⟨_, _, v5, rfl, hv5, as_name 1 (?_) sc_Network_orders.nd⟩⟩⟩))⟩)))⟩)))))))
  exact gx_seq (g1_ret (ex_less (ex_ty T.b_tuple bb_tuple (ax_cons (ex_lc (own := [("node", 2)]) (hN := sc_Network_orders.nd) rfl (bi hF fun v8 hv8 hF => bi hF fun l9 hl9 hF => ix_seqU (M2 := M) ((have hF := hv8; ex_fldC T.cls_Network T.no_Network_ends (ex_var 0 rfl (bi hF fun g6 hg6 hF => bi hF fun z7 hz7 hF => ⟨_, g6, z7, .id, hg6, hz7, ⟨so hF, rfl⟩⟩)))) hl9 (bi hF fun _ hz14 hF => bi hF fun y12 hy12 hF => lcF hy12 (chk_inv hz14).1 (fun x11 _ acc d13 hF hd13 => have fb_d13 := hd13; asb_name 2 (fun _ _ _ _ _ => ex_ix (ex_var 1 rfl (ex_var 2 rfl (bi hF fun v16 hv16 hF => id_dIx .id .id hv16 (⟨so hF, rfl⟩))))) (hN := sc_Network_orders.nd)) (ax_nil (bi hF fun l17 hl17 hF => cd_lTuple rfl .id hl17 (⟨_, sub_refl, ret0 (so hF) hk⟩))))))))))
theorem fx_Network_orders_1 {pg : Program} {w : World} {K : PySem.W.Frag} {mg : Str → Option Value} {base : Heap} (T : Txt pg K mg base) : FnX pg w K mg base false 11 (prAd K "Network" "orders").2 ([] : List PySem.Str) (fun ds zs M P R => ds.length = 1 ∧ zs.length = ([] : List PySem.Str).length ∧ tr_Network_orders K (pick (ds ++ ([] ++ zs)) [0]) M P R) :=
  fn_kwX T.d_Network_orders.choose_spec sc_Network_orders (ok_Network_orders T) 1 ([] : List PySem.Str) [] [] [0] (by simp) (fun _ => .nil) (fun kV D doc pm an cdv ct us mv ws e h1 h2 h3 => match us, mv, ws, h1, h2, h3 with | [_], [], [], _, _, _ => rfl) (fun us mv ws h1 h2 h3 => match us, mv, ws, h1, h2, h3 with | [_], [], [], _, _, _ => rfl)
def tr_Ring_orders (K : PySem.W.Frag) : TrB := fun ds M P R => ∃ x0 : D, ∃ r : D, ds = [x0] ∧ F_Ring_orders (Zk K) x0 = some r ∧ P r M
set_option maxHeartbeats 0 in
theorem ok_Ring_orders {pg : Program} {w : World} {K : PySem.W.Frag} {mg : Str → Option Value} {base : Heap} (T : Txt pg K mg base) : BodyX pg w K mg base false 10 (prAd K "Ring" "orders").2 "Network.orders" (defBody s_Ring_orders) (defScope s_Ring_orders) ["self", "known", "node"] ["self"] (tr_Ring_orders K) := fun cdv hcv A outer s H F0 E ds M P R hgd0 hr t hL hpo kx => by
  obtain ⟨x0, r, rfl, hF, hk⟩ := t
  unfold F_Ring_orders at hF
  refine gx_seq (g1_asg (ex_callX (fx_node_orders_2 T) Lets.no (fun h => nomatch h) (hr.mono (by decide)) T.m_node_orders T.d_node_orders.choose_spec.kp (ev_a (ax_cons (ex_fldC T.cls_Ring T.no_Ring_bits (ex_var 0 rfl (bi hF fun g1 hg1 hF => bi hF fun z2 hz2 hF => ⟨_, g1, z2, .id, hg1, hz2, ax_cons (ex_fldC T.cls_Ring T.no_Ring_joins (ex_var 0 rfl (bi hF fun g3 hg3 hF => bi hF fun z4 hz4 hF => ⟨_, g3, z4, .id, hg3, hz4, ax_nil (kx_nil (bi hF fun v5 hv5 hF => ⟨rfl, ⟨rfl, rfl, ⟨_, _, v5, rfl, hv5, as_name 1 (?_) sc_Ring_orders.nd⟩⟩⟩))⟩)))⟩)))))))
  exact gx_seq (g1_ret (ex_less (ex_ty T.b_tuple bb_tuple (ax_cons (ex_lc (own := [("node", 2)]) (hN := sc_Ring_orders.nd) rfl (bi hF fun v8 hv8 hF => bi hF fun l9 hl9 hF => ix_seqU (M2 := M) ((have hF := hv8; ex_fldC T.cls_Ring T.no_Ring_ends (ex_var 0 rfl (bi hF fun g6 hg6 hF => bi hF fun z7 hz7 hF => ⟨_, g6, z7, .id, hg6, hz7, ⟨so hF, rfl⟩⟩)))) hl9 (bi hF fun _ hz14 hF => bi hF fun y12 hy12 hF => lcF hy12 (chk_inv hz14).1 (fun x11 _ acc d13 hF hd13 => have fb_d13 := hd13; asb_name 2 (fun _ _ _ _ _ => ex_ix (ex_var 1 rfl (ex_var 2 rfl (bi hF fun v16 hv16 hF => id_dIx .id .id hv16 (⟨so hF, rfl⟩))))) (hN := sc_Ring_orders.nd)) (ax_nil (bi hF fun l17 hl17 hF => cd_lTuple rfl .id hl17 (⟨_, sub_refl, ret0 (so hF) hk⟩))))))))))
theorem fx_Ring_orders_1 {pg : Program} {w : World} {K : PySem.W.Frag} {mg : Str → Option Value} {base : Heap} (T : Txt pg K mg base) : FnX pg w K mg base false 11 (prAd K "Ring" "orders").2 ([] : List PySem.Str) (fun ds zs M P R => ds.length = 1 ∧ zs.length = ([] : List PySem.Str).length ∧ tr_Ring_orders K (pick (ds ++ ([] ++ zs)) [0]) M P R) :=
  fn_kwX T.d_Ring_orders.choose_spec sc_Ring_orders (ok_Ring_orders T) 1 ([] : List PySem.Str) [] [] [0] (by simp) (fun _ => .nil) (fun kV D doc pm an cdv ct us mv ws e h1 h2 h3 => match us, mv, ws, h1, h2, h3 with | [_], [], [], _, _, _ => rfl) (fun us mv ws h1 h2 h3 => match us, mv, ws, h1, h2, h3 with | [_], [], [], _, _, _ => rfl)
def tr_UNetworkRing_orders (K : PySem.W.Frag) : TrB := fun ds M P R => ∃ x0 : D, ∃ r : D, ds = [x0] ∧ F_UNetworkRing_orders (Zk K) x0 = some r ∧ P r M
theorem ux_UNetworkRing_orders_1 {pg : Program} {w : World} {K : PySem.W.Frag} {mg : Str → Option Value} {base : Heap} (T : Txt pg K mg base) : UFn pg w K mg base false ([] : List PySem.Str) 11 [Zk K "Network", Zk K "Ring"] (fun C g => Cls K C ∧ ∃ q, PropOf K C "orders" q g) (fun ds zs M P R => ds.length = 1 ∧ zs.length = ([] : List PySem.Str).length ∧ tr_UNetworkRing_orders K (pick (ds ++ zs) [0]) M P R) :=
  ufn_cons ⟨T.cls_Network, _, T.pr_Network_orders⟩ (fx_Network_orders_1 T) (by decide) (fun gs ds zs M P R h => by obtain ⟨h1, h2, t⟩ := h; match ds, zs, h1, h2, t with | [], [], _, _, t => obtain ⟨x0, r, e, hF, k⟩ := t; have e2 : ([.ins (Zk K "Network") gs] : List D) = [x0] := e; cases e2; unfold F_UNetworkRing_orders at hF; rw [if_pos clsIs_pos] at hF; exact ⟨rfl, rfl, _, r, rfl, hF, k⟩) (ufn_cons ⟨T.cls_Ring, _, T.pr_Ring_orders⟩ (fx_Ring_orders_1 T) (by decide) (fun gs ds zs M P R h => by obtain ⟨h1, h2, t⟩ := h; match ds, zs, h1, h2, t with | [], [], _, _, t => obtain ⟨x0, r, e, hF, k⟩ := t; have e2 : ([.ins (Zk K "Ring") gs] : List D) = [x0] := e; cases e2; unfold F_UNetworkRing_orders at hF; rw [if_neg (clsIs_neg T.zn_Ring_Network), if_pos clsIs_pos] at hF; exact ⟨rfl, rfl, _, r, rfl, hF, k⟩) (ufn_nil))
def tr_Lright (K : PySem.W.Frag) : TrB := fun ds M P R => ∃ x0 : D, ∃ x1 : D, ∃ x2 : D, ∃ x3 : D, ∃ r : D, ds = [x0, x1, x2, x3] ∧ TbM K tl M ∧ NoIns M ∧ F_Lright (Zk K) x0 x1 x2 x3 = some r ∧ P r M
set_option maxHeartbeats 0 in
theorem ok_Lright {pg : Program} {w : World} {K : PySem.W.Frag} {mg : Str → Option Value} {base : Heap} (T : Txt pg K mg base) : BodyX pg w K mg base true 17 (He.fAd K ("_law_right", none)) "_law_right" (defBody s_Lright) (defScope s_Lright) ["_law_bits_here", "_law_lowest", "_law_spot", "_law_entries_here", "_law_kept", "_law_told"] ["_law_bits_here", "_law_lowest", "_law_spot", "_law_entries_here"] (tr_Lright K) := fun cdv hcv A outer s H F0 E ds M P R hgd0 hr t hL hpo kx => by
  have hgd := hgd0 rfl
  obtain ⟨x0, x1, x2, x3, r, rfl, hTM, hNI, hF, hk⟩ := t
  unfold F_Lright at hF
  refine gx_seq (g1_asg (ex_blt T.b_repr bb_repr (ax_cons (ex_var 3 rfl (ax_nil (bi hF fun v1 hv1 hF => cd_dReprR T.sys hgd hr.units hv1 (as_name 4 (?_) sc_Lright.nd)))))))
  refine gx_seq (g1_asg (bi hF fun r2 hr2 hF => bi hF fun v3 hv3 hF => ex_lamcall (T := fun P R => resX r2 (fun v => P v M) (fun e => R e.1 e.2 M)) (ok_Lheard T) T.d_Lheard.choose_spec sc_Lheard T.m_Lheard (fun h => nomatch h) (T.tb _ (.head _)) (code_ref hcv (tab_ne (T.tb _ (.head _)))) (hTM _ (.head _)) (hr.mono (by decide)) (kb := 14) (by decide) ⟨r2, fun _ _ h => h, v3, hv3, as_name 5 (?_) sc_Lright.nd⟩ (fun A_ o_ s_ H_ E_ f_ c_ J_ P_ R_ hg_ hr hLl1 hk_ => have hgd := hg_.trans hgd; have hF := hr2; ex_less (ex_callX (fx_network_with_3_ring T) hLl1 (fun h => nomatch h) (hr.mono (by decide)) T.m_network_with T.d_network_with.choose_spec.kp (ev_a (ax_cons (ex_var 0 rfl (ax_cons (ex_var 2 rfl (ax_cons (ex_var 3 rfl (ax_nil (kx_cons (ex_cmp (ex_var 1 rfl (ex_int (bi hF fun t4 ht4 hF => od_cEq hr.units .id .id ht4 (kx_nil (bi hF fun r7 hr7 hF => ⟨rfl, ⟨rfl, rfl, ⟨_, _, _, _, r7, rfl, hNI, hr7, exc_i hF (fun e6 hee6 hF => ⟨_, sub_refl, errX (q := fun e => R_ e.1 e.2 M) (so hF) hk_⟩) (fun v5 hv5 hF => ⟨_, sub_refl, retX (p := fun v => P_ v M) (so hF) hk_⟩)⟩⟩⟩)))))))))))))))))))
  refine gx_seq (g1_if (tx_not (tx_tru (ex_callX (fx_Lis_number_3 T) Lets.no (fun h => nomatch h) (hr.mono (by decide)) T.m_Lis_number T.d_Lis_number.choose_spec.kp (ev_a (ax_cons (ex_var 2 rfl (ax_cons (ex_var 1 rfl (ax_cons (ex_var 0 rfl (ax_nil (kx_nil (bi hF fun v9 hv9 hF => ⟨rfl, ⟨rfl, rfl, ⟨_, _, _, v9, rfl, hv9, bi hF fun t10 ht10 hF => ⟨_, _, .id, ht10, ⟨fun q8 => ?_, fun q8 => ?_⟩⟩⟩⟩⟩))))))))))))))
  · have hF := iT q8 hF
    exact gx_seq (g1_ret (ex_less (bi hF fun v18 hv18 hF => ex_fix v18 M (have hF := hv18; ex_andT (ex_cmp (ex_blt T.b_repr bb_repr (ax_cons (ex_var 5 rfl (ax_nil (bi hF fun v12 hv12 hF => cd_dReprR T.sys hgd hr.units hv12 (ex_blt T.b_repr bb_repr (ax_cons (ex_tup (ax_cons (ex_str (ax_cons (ex_var 2 rfl (ax_nil (⟨le_b rfl, ax_nil (bi hF fun v13 hv13 hF => cd_dReprR T.sys hgd hr.units hv13 (bi hF fun t14 ht14 hF => od_cEq hr.units .id .id ht14 (bi hF fun t15 ht15 hF => ⟨_, _, .id, ht15, fun q11 => have hF := iT q11 hF; ex_one (ex_cmp (ex_blt T.b_repr bb_repr (ax_cons (ex_var 3 rfl (ax_nil (bi hF fun v16 hv16 hF => cd_dReprR T.sys hgd hr.units hv16 (ex_var 4 rfl (bi hF fun t17 ht17 hF => od_cEq hr.units .id .id ht17 (⟨so hF, rfl⟩))))))))), fun q11 => ⟨so (iF q11 hF), rfl⟩⟩)))⟩)))))))))))))))) (⟨_, sub_refl, ret0 (so hF) hk⟩))))
  · have hF := iF q8 hF
    refine gx_nil ?_
    show GX _ _ _ _ _ _
    refine gx_seq (g1_if (tx_not (tx_tru (ex_callX (fx_Lis_right_row_3 T) Lets.no (fun h => nomatch h) (hr.mono (by decide)) T.m_Lis_right_row T.d_Lis_right_row.choose_spec.kp (ev_a (ax_cons (ex_var 0 rfl (ax_cons (ex_var 1 rfl (ax_cons (ex_var 3 rfl (ax_nil (kx_nil (bi hF fun v20 hv20 hF => ⟨rfl, ⟨rfl, rfl, ⟨_, _, _, v20, rfl, hv20, bi hF fun t21 ht21 hF => ⟨_, _, .id, ht21, ⟨fun q19 => ?_, fun q19 => ?_⟩⟩⟩⟩⟩))))))))))))))
    · have hF := iT q19 hF
      exact gx_seq (g1_ret (ex_less (bi hF fun v29 hv29 hF => ex_fix v29 M (have hF := hv29; ex_andT (ex_cmp (ex_blt T.b_repr bb_repr (ax_cons (ex_var 5 rfl (ax_nil (bi hF fun v23 hv23 hF => cd_dReprR T.sys hgd hr.units hv23 (ex_blt T.b_repr bb_repr (ax_cons (ex_tup (ax_cons (ex_str (ax_cons (ex_var 3 rfl (ax_nil (⟨le_b rfl, ax_nil (bi hF fun v24 hv24 hF => cd_dReprR T.sys hgd hr.units hv24 (bi hF fun t25 ht25 hF => od_cEq hr.units .id .id ht25 (bi hF fun t26 ht26 hF => ⟨_, _, .id, ht26, fun q22 => have hF := iT q22 hF; ex_one (ex_cmp (ex_blt T.b_repr bb_repr (ax_cons (ex_var 3 rfl (ax_nil (bi hF fun v27 hv27 hF => cd_dReprR T.sys hgd hr.units hv27 (ex_var 4 rfl (bi hF fun t28 ht28 hF => od_cEq hr.units .id .id ht28 (⟨so hF, rfl⟩))))))))), fun q22 => ⟨so (iF q22 hF), rfl⟩⟩)))⟩)))))))))))))))) (⟨_, sub_refl, ret0 (so hF) hk⟩))))
    · have hF := iF q19 hF
      refine gx_nil ?_
      show GX _ _ _ _ _ _
      refine gx_seq (g1_if (tx_not (tx_tru (ex_blt T.b_isinstance bb_isi (ax_cons (ex_var 5 rfl (ax_cons (ex_tyn T.b_list bb_list (ax_nil (bi hF fun t31 ht31 hF => cd_dIsi (by decide) .id rfl ht31 (bi hF fun t32 ht32 hF => ⟨_, _, .id, ht32, ⟨fun q30 => ?_, fun q30 => ?_⟩⟩)))))))))))
      · have hF := iT q30 hF
        exact gx_seq (g1_ret (ex_less (ex_bl (⟨_, sub_refl, ret0 (so hF) hk⟩))))
      · have hF := iF q30 hF
        refine gx_nil ?_
        show GX _ _ _ _ _ _
        refine gx_seq (g1_if (tx_tru (ex_blt T.b_isinstance bb_isi (ax_cons (ex_ix (ex_var 3 rfl (ex_dNeg (ex_int ⟨_, _, .id, rfl, bi hF fun v34 hv34 hF => id_dIx .id .id hv34 (ax_cons (ex_tyn T.b_str bb_str (ax_nil (bi hF fun t35 ht35 hF => cd_dIsi (by decide) .id rfl ht35 (bi hF fun t36 ht36 hF => ⟨_, _, .id, ht36, ⟨fun q33 => ?_, fun q33 => ?_⟩⟩)))))⟩))))))))
        · have hF := iT q33 hF
          exact gx_seq (g1_ret (ex_less (ex_cmp (ex_ix (ex_propX T.cls_Faulty T.pr_Faulty_rows (fx_Faulty_rows_1 T) (hr.mono (by decide)) (ex_ix (ex_var 5 rfl (ex_int (bi hF fun v37 hv37 hF => id_dIx .id .id hv37 (bi hF fun g38 hg38 hF => bi hF fun v39 hv39 hF => ⟨g38, is_of hg38, rfl, rfl, _, v39, rfl, hv39, ex_bin (ex_var 2 rfl (ex_var 1 rfl (bi hF fun v40 hv40 hF => od_dSub .id .id hv40 (bi hF fun v41 hv41 hF => id_dIx .id .id hv41 (ex_var 3 rfl (bi hF fun t42 ht42 hF => od_cEq hr.units .id .id ht42 (⟨_, sub_refl, ret0 (so hF) hk⟩)))))))⟩))))))))))
        · have hF := iF q33 hF
          refine gx_nil ?_
          show GX _ _ _ _ _ _
          exact gx_seq (g1_ret (ex_less (ex_cmp (ex_propX T.cls_Order T.pr_Order_positions (fx_Order_positions_1 T) (hr.mono (by decide)) (ex_ix (ex_propU (ux_UNetworkRing_orders_1 T) (hr.mono (by decide)) (ex_ix (ex_var 5 rfl (ex_int (bi hF fun v43 hv43 hF => id_dIx .id .id hv43 (bi hF fun g44 hg44 hF => bi hF fun v45 hv45 hF => ⟨g44, hg44, rfl, rfl, _, v45, rfl, hv45, ex_bin (ex_var 2 rfl (ex_var 1 rfl (bi hF fun v46 hv46 hF => od_dSub .id .id hv46 (bi hF fun v47 hv47 hF => id_dIx .id .id hv47 (bi hF fun g48 hg48 hF => bi hF fun v49 hv49 hF => ⟨g48, is_of hg48, rfl, rfl, _, v49, rfl, hv49, ex_var 3 rfl (bi hF fun t50 ht50 hF => od_cEq hr.units .id .id ht50 (⟨_, sub_refl, ret0 (so hF) hk⟩))⟩)))))⟩)))))))))))
theorem fx_Lright_4 {pg : Program} {w : World} {K : PySem.W.Frag} {mg : Str → Option Value} {base : Heap} (T : Txt pg K mg base) : FnX pg w K mg base true 18 (He.fAd K ("_law_right", none)) ([] : List PySem.Str) (fun ds zs M P R => ds.length = 4 ∧ zs.length = ([] : List PySem.Str).length ∧ tr_Lright K (pick (ds ++ ([] ++ zs)) [0, 1, 2, 3]) M P R) :=
  fn_kwX T.d_Lright.choose_spec sc_Lright (ok_Lright T) 4 ([] : List PySem.Str) [] [] [0, 1, 2, 3] (by simp) (fun _ => .nil) (fun kV D doc pm an cdv ct us mv ws e h1 h2 h3 => match us, mv, ws, h1, h2, h3 with | [_, _, _, _], [], [], _, _, _ => rfl) (fun us mv ws h1 h2 h3 => match us, mv, ws, h1, h2, h3 with | [_, _, _, _], [], [], _, _, _ => rfl)
def tr_Lentries (K : PySem.W.Frag) : TrB := fun ds M P R => ∃ (p_0 : Addr) (x0 : List D), ∃ x1 : D, ∃ x2 : D, ∃ r : D × List D, ∃ W : D → Mem, ds = [.adr p_0, x1, x2] ∧ M = W (.lst x0) ∧ (∀ z0, At (W z0) p_0 z0 (fun z => W z)) ∧ F_Lentries x0 x1 x2 = some r ∧ P r.1 (W (.lst r.2))
set_option maxHeartbeats 0 in
theorem ok_Lentries {pg : Program} {w : World} {K : PySem.W.Frag} {mg : Str → Option Value} {base : Heap} (T : Txt pg K mg base) : BodyX pg w K mg base false 6 (He.fAd K ("_law_entries", none)) "_law_entries" (defBody s_Lentries) (defScope s_Lentries) ["_law_pen_here", "_law_bits_here", "_law_lowest", "_law_left", "_law_found", "_law_way", "_law_at", "_law_odd_here", "_law_k"] ["_law_pen_here", "_law_bits_here", "_law_lowest"] (tr_Lentries K) := fun cdv hcv A outer s H F0 E ds M P R hgd0 hr t hL hpo kx => by
  obtain ⟨p_0, x0, x1, x2, r, W, rfl, rfl, hW0, hF, hk⟩ := t
  unfold F_Lentries at hF
  refine gx_seq (g1_asg (ex_lstRMF rfl T.b_list T.b_range (ax_cons (ex_var 2 rfl (ax_cons (ex_bin (ex_var 1 rfl (ex_int (bi hF fun v1 hv1 hF => od_dAdd .id .id hv1 (ax_nil (bi hF fun l2 hl2 hF => ⟨l2, hl2, (by intro i j c e; first | (cases e; rfl) | (cases e; done)), fun a3 ha3 => have ne_p_0_a3 := At.ne (hW0 _) ha3; have fb_a3 := fresh1 hW0 ha3; as_name 3 (?_) sc_Lentries.nd⟩)))))))))))
  refine gx_seq (g1_lc (own := [("_law_k", 8)]) (hN := sc_Lentries.nd) 4 rfl (bi hF fun v8 hv8 hF => bi hF fun l9 hl9 hF => ix_range1U (M2 := (up (W (.lst v8.2)) a3 (.lst l2))) T.b_range ((have hF := hv8; ax_cons (ex_bin (ex_int (ex_callX (fx_Ldraw_2 T) Lets.no (fun h => nomatch h) (hr.mono (by decide)) T.m_Ldraw T.d_Ldraw.choose_spec.kp (ev_a (ax_cons (ex_var 0 rfl (ax_cons (ex_blt T.b_min bb_min (ax_cons (ex_int (ax_cons (ex_blt T.b_len bb_len (ax_cons (ex_var 3 rfl (ax_nil (bi hF fun v4 hv4 hF => cd_dLen (.ad at0.get rfl) hv4 (ax_nil (bi hF fun v5 hv5 hF => cd_dMin2 rfl .id .id hv5 (ax_nil (kx_nil (bi hF fun v6 hv6 hF => ⟨rfl, ⟨rfl, rfl, ⟨p_0, x0, _, v6, (fun w0 => (up (W w0) a3 (.lst l2))), rfl, rfl, fun _ => (at1 ne_p_0_a3 (hW0 _)), hv6, bi hF fun v7 hv7 hF => od_dAdd .id .id hv7 (ax_nil ((by cases hF; exact ⟨rfl, rfl⟩)))⟩⟩⟩))))))))))))))))))))))) hl9 (bi hF fun _ hz14 hF => bi hF fun y12 hy12 hF => mapSF hy12 (chk_inv hz14).1 (fun s10 => (up (W (.lst s10.2)) a3 (.lst s10.1))) rfl (fun x11 s10 _ acc d13 hF hd13 => have ne_a3_d13 := (up_none hd13).1; have ne_p_0_d13 := At.ne (hW0 _) (up_none hd13).2; have fb_d13 := fresh1 hW0 (up_none hd13).2; asb_name 8 (fun _ _ _ _ _ => ex_popF (ex_var 3 rfl (⟨_, _, rfl, (at1 ne_a3_d13 at0).get, ex_callX (fx_Ldraw_2 T) Lets.no (fun h => nomatch h) (hr.mono (by decide)) T.m_Ldraw T.d_Ldraw.choose_spec.kp (ev_a (ax_cons (ex_var 0 rfl (ax_cons (ex_blt T.b_len bb_len (ax_cons (ex_var 3 rfl (ax_nil (bi hF fun v16 hv16 hF => cd_dLen (.ad (at1 ne_a3_d13 at0).get rfl) hv16 (ax_nil (kx_nil (bi hF fun v17 hv17 hF => ⟨rfl, ⟨rfl, rfl, ⟨p_0, s10.2, _, v17, (fun w0 => (up (up (W w0) a3 (.lst s10.1)) d13 (.lst acc))), rfl, rfl, fun _ => (at1 ne_p_0_d13 (at1 ne_p_0_a3 (hW0 _))), hv17, bi hF fun v18 hv18 hF => ⟨_, _, v18, (at1 ne_a3_d13 at0), hv18, (by cases hF; exact ⟨rfl, (nn ne_a3_d13 (fb_d13 _)), rfl⟩)⟩⟩⟩⟩))))))))))))⟩))) (hN := sc_Lentries.nd)) (?_))))
  refine gx_seq (bi hF fun r20 hF hRr20 => g1_mid (fun ρ' M' => ∃ r20_0 : D, ∃ r20_1 : List D, ∃ j0 : Option D, ∃ j1 : Option D, ∃ j2 : Option D, ∃ j3 : Option D, r20 = (r20_0, r20_1) ∧ ρ' = [some (.adr p_0), some x1, some x2, some (.adr a3), some r20_0, j0, j1, j2, j3] ∧ M' = (up (W (.lst r20_1)) a3 (.lst y12.2.1))) (g1_if (bi hF fun t25 ht25 hF => tx_fix t25.1 (up (W (.lst t25.2)) a3 (.lst y12.2.1)) (have hF := ht25; tx_pw (wx_and (tx_cmp (ex_int (ex_var 4 rfl (bi hF fun t22 ht22 hF => od_cIn .id .id ht22 (⟨_, rfl, ⟨fun q21 => have hF := iT q21 hF; wx_and1 (tx_cmp (ex_callX (fx_Ldraw_2 T) Lets.no (fun h => nomatch h) (hr.mono (by decide)) T.m_Ldraw T.d_Ldraw.choose_spec.kp (ev_a (ax_cons (ex_var 0 rfl (ax_cons (ex_int (ax_nil (kx_nil (bi hF fun v23 hv23 hF => ⟨rfl, ⟨rfl, rfl, ⟨p_0, y12.2.2, _, v23, (fun w0 => (up (W w0) a3 (.lst y12.2.1))), rfl, rfl, fun _ => (at1 ne_p_0_a3 (hW0 _)), hv23, ex_int (bi hF fun t24 ht24 hF => od_cGt .id .id ht24 (⟨_, rfl, (by cases hF; exact ⟨rfl, rfl⟩)⟩))⟩⟩⟩)))))))))), fun q21 => (by have hF := iF q21 hF; cases hF; exact ⟨rfl, rfl⟩)⟩⟩))))))) (⟨fun q19 => ?_, fun q19 => ?_⟩))) ?_)
  · have hF := iT q19 hF
    refine gx_seq (g1_asg (ex_slice (ex_var 4 rfl (ox_none (ox_d (ex_bin (ex_lindexF (ex_var 4 rfl (bi hF fun s26 hs26 hF => ⟨s26, lstD_eq hs26, ax_cons (ex_int (ax_nil (bi hF fun v27 hv27 hF => ⟨_, v27, rfl, hv27, ex_int (bi hF fun v28 hv28 hF => od_dAdd .id .id hv28 (bi hF fun i29 hi29 hF => ⟨_, _, .id, hi29, bi hF fun v30 hv30 hF => sd_dCut .id hv30 (as_name 4 (?_) sc_Lentries.nd)⟩))⟩)))⟩)))))))))
    exact gx_nil ⟨_, _, _, _, _, _, (so hF).symm, rfl, rfl⟩
  · have hF := iF q19 hF
    exact gx_nil ⟨_, _, _, _, _, _, (so hF).symm, rfl, rfl⟩
  · rintro _ _ ⟨r20_0, r20_1, _, _, _, _, rfl, rfl, rfl⟩
    have hF := hRr20
    try dsimp only at hF
    show GX _ _ _ _ _ _
    refine gx_seq (bi hF fun r32 hF hRr32 => g1_mid (fun ρ' M' => ∃ r32_0 : D, ∃ r32_1 : List D, ∃ j0 : Option D, ∃ j1 : Option D, ∃ j2 : Option D, ∃ j3 : Option D, r32 = (r32_0, r32_1) ∧ ρ' = [some (.adr p_0), some x1, some x2, some (.adr a3), some r32_0, j0, j1, j2, j3] ∧ M' = (up (W (.lst r32_1)) a3 (.lst y12.2.1))) (g1_if (tx_cmp (ex_callX (fx_Ldraw_2 T) Lets.no (fun h => nomatch h) (hr.mono (by decide)) T.m_Ldraw T.d_Ldraw.choose_spec.kp (ev_a (ax_cons (ex_var 0 rfl (ax_cons (ex_int (ax_nil (kx_nil (bi hF fun v33 hv33 hF => ⟨rfl, ⟨rfl, rfl, ⟨p_0, r20_1, _, v33, (fun w0 => (up (W w0) a3 (.lst y12.2.1))), rfl, rfl, fun _ => (at1 ne_p_0_a3 (hW0 _)), hv33, ex_int (bi hF fun t34 ht34 hF => od_cEq hr.units .id .id ht34 (⟨_, rfl, ⟨fun q31 => ?_, fun q31 => ?_⟩⟩))⟩⟩⟩))))))))))) ?_)
    · have hF := iT q31 hF
      refine gx_seq (g1_asg (ex_bin (ex_var 4 rfl (ex_lst (ax_cons (ex_ix (ex_str (ex_callX (fx_Ldraw_2 T) Lets.no (fun h => nomatch h) (hr.mono (by decide)) T.m_Ldraw T.d_Ldraw.choose_spec.kp (ev_a (ax_cons (ex_var 0 rfl (ax_cons (ex_int (ax_nil (kx_nil (bi hF fun v35 hv35 hF => ⟨rfl, ⟨rfl, rfl, ⟨p_0, v33.2, _, v35, (fun w0 => (up (W w0) a3 (.lst y12.2.1))), rfl, rfl, fun _ => (at1 ne_p_0_a3 (hW0 _)), hv35, bi hF fun v36 hv36 hF => id_dIx .id .id hv36 (ax_nil (⟨le_b rfl, bi hF fun v37 hv37 hF => od_dAdd .id .id hv37 (as_name 4 (?_) sc_Lentries.nd)⟩))⟩⟩⟩))))))))))))))))
      exact gx_nil ⟨_, _, _, _, _, _, (so hF).symm, rfl, rfl⟩
    · have hF := iF q31 hF
      exact gx_nil ⟨_, _, _, _, _, _, (so hF).symm, rfl, rfl⟩
    · rintro _ _ ⟨r32_0, r32_1, _, _, _, _, rfl, rfl, rfl⟩
      have hF := hRr32
      try dsimp only at hF
      show GX _ _ _ _ _ _
      refine gx_seq (g1_par 5 6 rfl (by decide) (ax_cons (ex_callX (fx_Ldraw_2 T) Lets.no (fun h => nomatch h) (hr.mono (by decide)) T.m_Ldraw T.d_Ldraw.choose_spec.kp (ev_a (ax_cons (ex_var 0 rfl (ax_cons (ex_int (ax_nil (kx_nil (bi hF fun v38 hv38 hF => ⟨rfl, ⟨rfl, rfl, ⟨p_0, r32_1, _, v38, (fun w0 => (up (W w0) a3 (.lst y12.2.1))), rfl, rfl, fun _ => (at1 ne_p_0_a3 (hW0 _)), hv38, ax_cons (ex_callX (fx_Ldraw_2 T) Lets.no (fun h => nomatch h) (hr.mono (by decide)) T.m_Ldraw T.d_Ldraw.choose_spec.kp (ev_a (ax_cons (ex_var 0 rfl (ax_cons (ex_bin (ex_blt T.b_len bb_len (ax_cons (ex_var 4 rfl (ax_nil (bi hF fun v39 hv39 hF => cd_dLen .id hv39 (ex_int (bi hF fun v40 hv40 hF => od_dAdd .id .id hv40 (ax_nil (kx_nil (bi hF fun v41 hv41 hF => ⟨rfl, ⟨rfl, rfl, ⟨p_0, v38.2, _, v41, (fun w0 => (up (W w0) a3 (.lst y12.2.1))), rfl, rfl, fun _ => (at1 ne_p_0_a3 (hW0 _)), hv41, ax_nil (⟨_, _, rfl, ?_⟩)⟩⟩⟩))))))))))))))))⟩⟩⟩)))))))))) sc_Lentries.nd)
      refine gx_seq (g1_asg (ex_callX (fx_Lodd_2 T) Lets.no (fun h => nomatch h) (hr.mono (by decide)) T.m_Lodd T.d_Lodd.choose_spec.kp (ev_a (ax_cons (ex_var 0 rfl (ax_cons (ex_var 1 rfl (ax_nil (kx_nil (bi hF fun v42 hv42 hF => ⟨rfl, ⟨rfl, rfl, ⟨p_0, v41.2, _, v42, (fun w0 => (up (W w0) a3 (.lst y12.2.1))), rfl, rfl, fun _ => (at1 ne_p_0_a3 (hW0 _)), hv42, as_name 7 (?_) sc_Lentries.nd⟩⟩⟩))))))))))
      refine gx_seq (g1_if (tx_cmp (ex_var 5 rfl (ex_int (bi hF fun t44 ht44 hF => od_cEq hr.units .id .id ht44 (⟨_, rfl, ⟨fun q43 => ?_, fun q43 => ?_⟩⟩))))))
      · have hF := iT q43 hF
        exact gx_seq (g1_ret (ex_less (ex_ty T.b_tuple bb_tuple (ax_cons (ex_bin (ex_bin (ex_slice (ex_var 4 rfl (ox_none (ox_d (ex_var 6 rfl (bi hF fun i45 hi45 hF => ⟨_, _, .id, hi45, bi hF fun v46 hv46 hF => sd_dCut .id hv46 (ex_lst (ax_cons (ex_var 7 rfl (ax_nil (⟨le_b rfl, bi hF fun v47 hv47 hF => od_dAdd .id .id hv47 (ex_slice (ex_var 4 rfl (ox_d (ex_var 6 rfl (bi hF fun i48 hi48 hF => ⟨_, _, .id, hi48, ox_none (bi hF fun v49 hv49 hF => sd_dCut .id hv49 (bi hF fun v50 hv50 hF => od_dAdd .id .id hv50 (ax_nil (bi hF fun l51 hl51 hF => cd_lTuple rfl .id hl51 (⟨_, (sub_drop sub_refl (fb_a3 _)), ret1 (W := W) (so hF) hk⟩)))))⟩)))))⟩)))))⟩))))))))))))
      · have hF := iF q43 hF
        refine gx_nil ?_
        show GX _ _ _ _ _ _
        refine gx_seq (g1_if (tx_cmp (ex_var 5 rfl (ex_int (bi hF fun t53 ht53 hF => od_cEq hr.units .id .id ht53 (⟨_, rfl, ⟨fun q52 => ?_, fun q52 => ?_⟩⟩))))))
        · have hF := iT q52 hF
          exact gx_seq (g1_ret (ex_less (ex_ty T.b_tuple bb_tuple (ax_cons (ex_bin (ex_bin (ex_slice (ex_var 4 rfl (ox_none (ox_d (ex_var 6 rfl (bi hF fun i54 hi54 hF => ⟨_, _, .id, hi54, bi hF fun v55 hv55 hF => sd_dCut .id hv55 (ex_lst (ax_cons (ex_var 7 rfl (ax_nil (⟨le_b rfl, bi hF fun v56 hv56 hF => od_dAdd .id .id hv56 (ex_slice (ex_var 4 rfl (ox_d (ex_bin (ex_var 6 rfl (ex_int (bi hF fun v57 hv57 hF => od_dAdd .id .id hv57 (bi hF fun i58 hi58 hF => ⟨_, _, .id, hi58, ox_none (bi hF fun v59 hv59 hF => sd_dCut .id hv59 (bi hF fun v60 hv60 hF => od_dAdd .id .id hv60 (ax_nil (bi hF fun l61 hl61 hF => cd_lTuple rfl .id hl61 (⟨_, (sub_drop sub_refl (fb_a3 _)), ret1 (W := W) (so hF) hk⟩)))))⟩))))))))⟩)))))⟩))))))))))))
        · have hF := iF q52 hF
          refine gx_nil ?_
          show GX _ _ _ _ _ _
          refine gx_seq (g1_if (tx_cmp (ex_var 5 rfl (ex_int (bi hF fun t63 ht63 hF => od_cEq hr.units .id .id ht63 (⟨_, rfl, ⟨fun q62 => ?_, fun q62 => ?_⟩⟩))))))
          · have hF := iT q62 hF
            exact gx_seq (g1_ret (ex_less (ex_ty T.b_tuple bb_tuple (ax_cons (ex_bin (ex_bin (ex_slice (ex_var 4 rfl (ox_none (ox_d (ex_var 6 rfl (bi hF fun i64 hi64 hF => ⟨_, _, .id, hi64, bi hF fun v65 hv65 hF => sd_dCut .id hv65 (ex_slice (ex_var 4 rfl (ox_none (ox_d (ex_int (bi hF fun i66 hi66 hF => ⟨_, _, .id, hi66, bi hF fun v67 hv67 hF => sd_dCut .id hv67 (bi hF fun v68 hv68 hF => od_dAdd .id .id hv68 (ex_slice (ex_var 4 rfl (ox_d (ex_var 6 rfl (bi hF fun i69 hi69 hF => ⟨_, _, .id, hi69, ox_none (bi hF fun v70 hv70 hF => sd_dCut .id hv70 (bi hF fun v71 hv71 hF => od_dAdd .id .id hv71 (ax_nil (bi hF fun l72 hl72 hF => cd_lTuple rfl .id hl72 (⟨_, (sub_drop sub_refl (fb_a3 _)), ret1 (W := W) (so hF) hk⟩)))))⟩))))))⟩))))))⟩))))))))))))
          · have hF := iF q62 hF
            refine gx_nil ?_
            show GX _ _ _ _ _ _
            refine gx_seq (g1_if (tx_cmp (ex_var 5 rfl (ex_int (bi hF fun t74 ht74 hF => od_cEq hr.units .id .id ht74 (⟨_, rfl, ⟨fun q73 => ?_, fun q73 => ?_⟩⟩))))))
            · have hF := iT q73 hF
              exact gx_seq (g1_ret (ex_less (ex_ix (ex_lst (ax_cons (ex_ty T.b_list bb_list (ax_cons (ex_var 4 rfl (ax_nil (bi hF fun l75 hl75 hF => cd_lList rfl .id hl75 (ax_cons (ex_tup (ax_nil (⟨le_b rfl, ax_cons (ex_var 7 rfl (ax_cons (ex_ix (ex_var 4 rfl (ex_int (bi hF fun v76 hv76 hF => id_dIx .id .id hv76 (ax_cons (ex_tup (ax_cons (ex_ty T.b_tuple bb_tuple (ax_cons (ex_var 4 rfl (ax_nil (bi hF fun l77 hl77 hF => cd_lTuple rfl .id hl77 (ax_nil (⟨le_b rfl, ax_nil (⟨le_b rfl, ex_callX (fx_Ldraw_2 T) Lets.no (fun h => nomatch h) (hr.mono (by decide)) T.m_Ldraw T.d_Ldraw.choose_spec.kp (ev_a (ax_cons (ex_var 0 rfl (ax_cons (ex_int (ax_nil (kx_nil (bi hF fun v78 hv78 hF => ⟨rfl, ⟨rfl, rfl, ⟨p_0, v42.2, _, v78, (fun w0 => (up (W w0) a3 (.lst y12.2.1))), rfl, rfl, fun _ => (at1 ne_p_0_a3 (hW0 _)), hv78, bi hF fun v79 hv79 hF => id_dIx .id .id hv79 (⟨_, (sub_drop sub_refl (fb_a3 _)), ret1 (W := W) (so hF) hk⟩)⟩⟩⟩))))))))⟩)⟩))))))))))))))))⟩))))))))))))))
            · have hF := iF q73 hF
              refine gx_nil ?_
              show GX _ _ _ _ _ _
              exact gx_seq (g1_ret (ex_less (ex_ty T.b_tuple bb_tuple (ax_cons (ex_var 4 rfl (ax_nil (bi hF fun l80 hl80 hF => cd_lTuple rfl .id hl80 (⟨_, (sub_drop sub_refl (fb_a3 _)), ret1 (W := W) (so hF) hk⟩))))))))
theorem fx_Lentries_3 {pg : Program} {w : World} {K : PySem.W.Frag} {mg : Str → Option Value} {base : Heap} (T : Txt pg K mg base) : FnX pg w K mg base false 7 (He.fAd K ("_law_entries", none)) ([] : List PySem.Str) (fun ds zs M P R => ds.length = 3 ∧ zs.length = ([] : List PySem.Str).length ∧ tr_Lentries K (pick (ds ++ ([] ++ zs)) [0, 1, 2]) M P R) :=
  fn_kwX T.d_Lentries.choose_spec sc_Lentries (ok_Lentries T) 3 ([] : List PySem.Str) [] [] [0, 1, 2] (by simp) (fun _ => .nil) (fun kV D doc pm an cdv ct us mv ws e h1 h2 h3 => match us, mv, ws, h1, h2, h3 with | [_, _, _], [], [], _, _, _ => rfl) (fun us mv ws h1 h2 h3 => match us, mv, ws, h1, h2, h3 with | [_, _, _], [], [], _, _, _ => rfl)
def tr_law (K : PySem.W.Frag) : TrB := fun ds M P R => ∃ ns, ds = [.scr ns] ∧ TbM K tl M ∧ NoIns M ∧ F_law (Zk K) (.scr ns) = some (.bl true) ∧ ∀ M', P (.bl true) M'
set_option maxHeartbeats 0 in
theorem ok_law {pg : Program} {w : World} {K : PySem.W.Frag} {mg : Str → Option Value} {base : Heap} (T : Txt pg K mg base) : BodyX pg w K mg base true 19 (He.fAd K ("law", none)) "law" (defBody s_law) (defScope s_law) ["_law_script", "_law_pen_here", "_law_turn", "_law_lowest", "_law_bits_here", "_law_spot"] ["_law_script"] (tr_law K) := fun cdv hcv A outer s H F0 E ds M P R hgd0 hr t hL hpo kx => by
  have hgd := hgd0 rfl
  obtain ⟨ns, rfl, hTM, hNI, hF, hk0⟩ := t
  obtain ⟨x0, ex0⟩ : ∃ x0, x0 = D.scr ns := ⟨_, rfl⟩
  obtain ⟨r, er⟩ : ∃ r, r = D.bl true := ⟨_, rfl⟩
  rw [← ex0, ← er] at hF
  rw [← ex0]
  have hk : P r M := by rw [er]; exact hk0 M
  clear hk0
  unfold F_law at hF
  refine gx_seq (g1_asg (ex_callX (fx_Lpen_1 T) Lets.no (fun h => nomatch h) (hr.mono (by decide)) T.m_Lpen T.d_Lpen.choose_spec.kp (ev_a (ax_cons (ex_var 0 rfl (ax_nil (kx_nil (bi hF fun v1 hv1 hF => ⟨rfl, ⟨rfl, rfl, ⟨_, v1, rfl, hv1, fun a2 ha2 => have fb_a2 := ha2; as_name 1 (?_) sc_law.nd⟩⟩⟩))))))))
  refine gx_seq (g1_for hpo rfl (bi hF fun l3 hl3 hF => ix_range1U (M2 := (up M a2 (.lst v1))) T.b_range (ax_cons (ex_int (ax_nil (⟨rfl, rfl⟩)))) hl3 (bi hF fun c7 hlc7 hOc7 => forC hlc7 (fun s4 ρ' M' => ∃ j0 : Option D, ∃ j1 : Option D, ∃ j2 : Option D, ∃ j3 : Option D, ρ' = [some x0, some (.adr a2), j0, j1, j2, j3] ∧ M' = (up M a2 (.lst s4))) ⟨_, _, _, _, rfl, rfl⟩ ?_ ?_)))
  · rintro x6 s4 b8 hF hbb8 _ _ ⟨_, _, _, _, rfl, rfl⟩
    try dsimp only at hF
    refine as_name 2 (?_) sc_law.nd
    refine gx_seq (g1_asg (ex_ty T.b_int bb_int (ax_cons (ex_cmp (ex_callX (fx_Ldraw_2 T) Lets.no (fun h => nomatch h) (hr.mono (by decide)) T.m_Ldraw T.d_Ldraw.choose_spec.kp (ev_a (ax_cons (ex_var 1 rfl (ax_cons (ex_int (ax_nil (kx_nil (bi hF fun v9 hv9 hF => ⟨rfl, ⟨rfl, rfl, ⟨a2, s4, _, v9, (fun w0 => (up M a2 w0)), rfl, rfl, fun _ => at0, hv9, ex_int (bi hF fun t10 ht10 hF => od_cEq hr.units .id .id ht10 (ax_nil (bi hF fun v11 hv11 hF => cd_dInt .id hv11 (as_name 3 (?_) sc_law.nd))))⟩⟩⟩)))))))))))))
    refine gx_seq (g1_asg (ex_callX (fx_Lbits_3 T) Lets.no (fun h => nomatch h) (hr.mono (by decide)) T.m_Lbits T.d_Lbits.choose_spec.kp (ev_a (ax_cons (ex_var 1 rfl (ax_cons (ex_bin (ex_int (ex_var 3 rfl (bi hF fun v12 hv12 hF => od_dAdd .id .id hv12 (ax_cons (ex_int (ax_nil (kx_nil (bi hF fun v13 hv13 hF => ⟨rfl, ⟨rfl, rfl, ⟨a2, v9.2, _, _, v13, (fun w0 => (up M a2 w0)), rfl, rfl, fun _ => at0, hv13, as_name 4 (?_) sc_law.nd⟩⟩⟩)))))))))))))))
    refine gx_seq (g1_asg (ex_bin (ex_var 3 rfl (ex_callX (fx_Ldraw_2 T) Lets.no (fun h => nomatch h) (hr.mono (by decide)) T.m_Ldraw T.d_Ldraw.choose_spec.kp (ev_a (ax_cons (ex_var 1 rfl (ax_cons (ex_bin (ex_bin (ex_var 4 rfl (ex_int (bi hF fun v14 hv14 hF => od_dAdd .id .id hv14 (ex_var 3 rfl (bi hF fun v15 hv15 hF => od_dSub .id .id hv15 (ax_nil (kx_nil (bi hF fun v16 hv16 hF => ⟨rfl, ⟨rfl, rfl, ⟨a2, v13.2, _, v16, (fun w0 => (up M a2 w0)), rfl, rfl, fun _ => at0, hv16, bi hF fun v17 hv17 hF => od_dAdd .id .id hv17 (as_name 5 (?_) sc_law.nd)⟩⟩⟩))))))))))))))))))
    refine gx_seq (bi hF fun r19 hF hRr19 => g1_mid (fun ρ' M' => ∃ r19_0 : D, ∃ r19_1 : List D, r19 = (r19_0, r19_1) ∧ ρ' = [some x0, some (.adr a2), some x6, some v11, some v13.1, some r19_0] ∧ M' = (up M a2 (.lst r19_1))) (g1_if (tx_cmp (ex_callX (fx_Ldraw_2 T) Lets.no (fun h => nomatch h) (hr.mono (by decide)) T.m_Ldraw T.d_Ldraw.choose_spec.kp (ev_a (ax_cons (ex_var 1 rfl (ax_cons (ex_int (ax_nil (kx_nil (bi hF fun v20 hv20 hF => ⟨rfl, ⟨rfl, rfl, ⟨a2, v16.2, _, v20, (fun w0 => (up M a2 w0)), rfl, rfl, fun _ => at0, hv20, ex_int (bi hF fun t21 ht21 hF => od_cEq hr.units .id .id ht21 (⟨_, rfl, ⟨fun q18 => ?_, fun q18 => ?_⟩⟩))⟩⟩⟩))))))))))) ?_)
    · have hF := iT q18 hF
      refine gx_seq (g1_asg (ex_callX (fx_Lodd_2 T) Lets.no (fun h => nomatch h) (hr.mono (by decide)) T.m_Lodd T.d_Lodd.choose_spec.kp (ev_a (ax_cons (ex_var 1 rfl (ax_cons (ex_var 4 rfl (ax_nil (kx_nil (bi hF fun v22 hv22 hF => ⟨rfl, ⟨rfl, rfl, ⟨a2, v20.2, _, v22, (fun w0 => (up M a2 w0)), rfl, rfl, fun _ => at0, hv22, as_name 5 (?_) sc_law.nd⟩⟩⟩))))))))))
      exact gx_nil ⟨_, _, (so hF).symm, rfl, rfl⟩
    · have hF := iF q18 hF
      exact gx_nil ⟨_, _, (so hF).symm, rfl, rfl⟩
    · rintro _ _ ⟨r19_0, r19_1, rfl, rfl, rfl⟩
      have hF := hRr19
      try dsimp only at hF
      show GX _ _ _ _ _ _
      refine gx_seq (g1_if (tx_not (tx_tru (ex_callX (fx_Lright_4 T) Lets.no (fun _ => hgd) (hr.mono (by decide)) T.m_Lright T.d_Lright.choose_spec.kp (ev_a (ax_cons (ex_var 4 rfl (ax_cons (ex_var 3 rfl (ax_cons (ex_var 5 rfl (ax_cons (ex_callX (fx_Lentries_3 T) Lets.no (fun h => nomatch h) (hr.mono (by decide)) T.m_Lentries T.d_Lentries.choose_spec.kp (ev_a (ax_cons (ex_var 1 rfl (ax_cons (ex_var 4 rfl (ax_cons (ex_var 3 rfl (ax_nil (kx_nil (bi hF fun v24 hv24 hF => ⟨rfl, ⟨rfl, rfl, ⟨a2, r19_1, _, _, v24, (fun w0 => (up M a2 w0)), rfl, rfl, fun _ => at0, hv24, ax_nil (kx_nil (bi hF fun v25 hv25 hF => ⟨rfl, ⟨rfl, rfl, ⟨_, _, _, _, v25, rfl, (tbm_up hTM fb_a2), (noins_up hNI), hv25, bi hF fun t26 ht26 hF => ⟨_, _, .id, ht26, ⟨fun q23 => ?_, fun q23 => ?_⟩⟩⟩⟩⟩))⟩⟩⟩)))))))))))))))))))))))
      · have hF := iT q23 hF
        exact gx_seq (g1_ret (ex_less (ex_bl (⟨_, (sub_drop sub_refl fb_a2), ret0 (so (ctl_retS hOc7 (hbb8 _ (so hF).symm))) hk⟩))))
      · have hF := iF q23 hF
        refine gx_nil ?_
        show GX _ _ _ _ _ _
        exact gx_nil ⟨_, (so hF).symm, ⟨_, _, _, _, rfl, rfl⟩⟩
  · rintro r5 hg _ _ ⟨_, _, _, _, rfl, rfl⟩
    have hF := ctl_go hOc7 hg
    try dsimp only at hF
    show GX _ _ _ _ _ _
    exact gx_seq (g1_ret (ex_less (bi hF fun v34 hv34 hF => ex_fix v34 (up M a2 (.lst r5)) (have hF := hv34; ex_andT (ex_callX (fx_Lright_4 T) Lets.no (fun _ => hgd) (hr.mono (by decide)) T.m_Lright T.d_Lright.choose_spec.kp (ev_a (ax_cons (ex_int (ax_cons (ex_int (ax_cons (ex_int (ax_cons (ex_tup (ax_cons (ex_int (ax_cons (ex_str (ax_nil (⟨le_b rfl, ax_nil (kx_nil (bi hF fun v28 hv28 hF => ⟨rfl, ⟨rfl, rfl, ⟨_, _, _, _, v28, rfl, (tbm_up hTM fb_a2), (noins_up hNI), hv28, bi hF fun t29 ht29 hF => ⟨_, _, .id, ht29, fun q27 => have hF := iT q27 hF; ex_andT (ex_callX (fx_Lright_4 T) Lets.no (fun _ => hgd) (hr.mono (by decide)) T.m_Lright T.d_Lright.choose_spec.kp (ev_a (ax_cons (ex_int (ax_cons (ex_int (ax_cons (ex_int (ax_cons (ex_tup (ax_cons (ex_int (ax_cons (ex_str (ax_nil (⟨le_b rfl, ax_nil (kx_nil (bi hF fun v31 hv31 hF => ⟨rfl, ⟨rfl, rfl, ⟨_, _, _, _, v31, rfl, (tbm_up hTM fb_a2), (noins_up hNI), hv31, bi hF fun t32 ht32 hF => ⟨_, _, .id, ht32, fun q30 => have hF := iT q30 hF; ex_one (ex_callX (fx_Lright_4 T) Lets.no (fun _ => hgd) (hr.mono (by decide)) T.m_Lright T.d_Lright.choose_spec.kp (ev_a (ax_cons (ex_int (ax_cons (ex_int (ax_cons (ex_int (ax_cons (ex_tup (ax_cons (ex_bl (ax_nil (⟨le_b rfl, ax_nil (kx_nil (bi hF fun v33 hv33 hF => ⟨rfl, ⟨rfl, rfl, ⟨_, _, _, _, v33, rfl, (tbm_up hTM fb_a2), (noins_up hNI), hv33, ⟨so hF, rfl⟩⟩⟩⟩))⟩)))))))))))))), fun q30 => ⟨so (iF q30 hF), rfl⟩⟩⟩⟩⟩))⟩)))))))))))))))), fun q27 => ⟨so (iF q27 hF), rfl⟩⟩⟩⟩⟩))⟩))))))))))))))))) (⟨_, (sub_drop sub_refl fb_a2), ret0 (so hF) hk⟩))))
theorem fx_law_1 {pg : Program} {w : World} {K : PySem.W.Frag} {mg : Str → Option Value} {base : Heap} (T : Txt pg K mg base) : FnX pg w K mg base true 20 (He.fAd K ("law", none)) ([] : List PySem.Str) (fun ds zs M P R => ds.length = 1 ∧ zs.length = ([] : List PySem.Str).length ∧ tr_law K (pick (ds ++ ([] ++ zs)) [0]) M P R) :=
  fn_kwX T.d_law.choose_spec sc_law (ok_law T) 1 ([] : List PySem.Str) [] [] [0] (by simp) (fun _ => .nil) (fun kV D doc pm an cdv ct us mv ws e h1 h2 h3 => match us, mv, ws, h1, h2, h3 with | [_], [], [], _, _, _ => rfl) (fun us mv ws h1 h2 h3 => match us, mv, ws, h1, h2, h3 with | [_], [], [], _, _, _ => rfl)
theorem law_start {K : PySem.W.Frag} {H : Hp} {a : Addr} {ns : List Int} (hz : Hz (Zk K)) (hl : ns.length ≤ 63) (h1 : tbOne K tl = true) (hS : SqL K H a (ns.map V.int)) (hT : ∀ x ∈ tl, H (ctA K x.1).2 = some (.tbl #[])) : ∃ F M ds, Ok K F M H ∧ Rps K F [.ref a] ds ∧ ∃ ns, ds = [.scr ns] ∧ TbM K tl M ∧ NoIns M ∧ F_law (Zk K) (.scr ns) = some (.bl true) ∧ ∀ M', (fun (d : D) (_ : Mem) => d = .bl true) (.bl true) M' :=
  DX.law_startTN (T := fun ds zs M P R => ∃ ns, ds = [.scr ns] ∧ TbM K tl M ∧ NoIns M ∧ F_law (Zk K) (.scr ns) = some (.bl true) ∧ ∀ M', P (.bl true) M') h1 hS hT fun M tm ni => ⟨ns, rfl, tm, ni, law_true (Zk K) hz ns, fun _ => rfl⟩
theorem txt {K : PySem.W.Frag} {h : Heap} {mg : Str → Option Value} (X : K.In h) (G : h.Ns mainGlobals mg) (c : He.SaysD fa fn K) (xq : exq K = true) (cc : DX.SaysP fa fn pr exq K) : Txt0 K mg :=
  ⟨c.def_ 0 (d := dd_Lpen) rfl,
    He.glo_ok X G (c.fact 0 (f := .glo "_law_pen") rfl),
    c.def_ 1 (d := dd_Ldraw) rfl,
    He.glo_ok X G (c.fact 1 (f := .glo "_law_draw") rfl),
    c.def_ 2 (d := dd_Lbits) rfl,
    He.glo_ok X G (c.fact 2 (f := .glo "_law_bits") rfl),
    c.def_ 3 (d := dd_Lodd) rfl,
    He.glo_ok X G (c.fact 3 (f := .glo "_law_odd") rfl),
    c.def_ 4 (d := dd_Lheard) rfl,
    He.glo_ok X G (c.fact 4 (f := .glo "_law_heard") rfl),
    c.def_ 5 (d := dd_is_between) rfl,
    He.glo_ok X G (c.fact 5 (f := .glo "is_between") rfl),
    c.def_ 6 (d := dd_ends_with_letter) rfl,
    He.glo_ok X G (c.fact 6 (f := .glo "ends_with_letter") rfl),
    c.def_ 7 (d := dd_are_row_positions) rfl,
    He.glo_ok X G (c.fact 7 (f := .glo "are_row_positions") rfl),
    c.def_ 8 (d := dd_need_row) rfl,
    He.glo_ok X G (c.fact 8 (f := .glo "need_row") rfl),
    c.def_ 9 (d := dd_ring_serial_wiring) rfl,
    He.glo_ok X G (c.fact 9 (f := .glo "ring_serial_wiring") rfl),
    c.def_ 10 (d := dd_serial_wiring) rfl,
    He.glo_ok X G (c.fact 10 (f := .glo "serial_wiring") rfl),
    c.def_ 11 (d := dd_chained) rfl,
    He.glo_ok X G (c.fact 11 (f := .glo "chained") rfl),
    c.def_ 12 (d := dd_is_sequence) rfl,
    He.glo_ok X G (c.fact 12 (f := .glo "is_sequence") rfl),
    c.def_ 13 (d := dd_is_row) rfl,
    He.glo_ok X G (c.fact 13 (f := .glo "is_row") rfl),
    c.def_ 14 (d := dd_is_cell) rfl,
    He.glo_ok X G (c.fact 14 (f := .glo "is_cell") rfl),
    c.def_ 15 (d := dd_checked_cells) rfl,
    He.glo_ok X G (c.fact 15 (f := .glo "checked_cells") rfl),
    c.def_ 16 (d := dd_checked_outputs) rfl,
    He.glo_ok X G (c.fact 16 (f := .glo "checked_outputs") rfl),
    c.def_ 17 (d := dd_Ring___init__) rfl,
    c.def_ 18 (d := dd_Network___init__) rfl,
    c.def_ 19 (d := dd_Faulty_base___init__) rfl,
    c.def_ 20 (d := dd_is_state) rfl,
    He.glo_ok X G (c.fact 17 (f := .glo "is_state") rfl),
    c.def_ 21 (d := dd_checked_stuck) rfl,
    He.glo_ok X G (c.fact 18 (f := .glo "checked_stuck") rfl),
    c.def_ 22 (d := dd_network_with) rfl,
    He.glo_ok X G (c.fact 19 (f := .glo "network_with") rfl),
    c.def_ 23 (d := dd_Lis_number) rfl,
    He.glo_ok X G (c.fact 20 (f := .glo "_law_is_number") rfl),
    c.def_ 24 (d := dd_Lis_right_row) rfl,
    He.glo_ok X G (c.fact 21 (f := .glo "_law_is_right_row") rfl),
    c.def_ 25 (d := dd_joined_rows) rfl,
    He.glo_ok X G (c.fact 22 (f := .glo "joined_rows") rfl),
    c.def_ 26 (d := dd_node_rows) rfl,
    He.glo_ok X G (c.fact 23 (f := .glo "node_rows") rfl),
    c.def_ 27 (d := dd_Faulty_held_states) rfl,
    (cc.pr_ 1 (d := dp_Faulty_rows) rfl).2,
    (cc.pr_ 2 (d := dp_Order_positions) rfl).2,
    c.def_ 28 (d := dd_first_ones) rfl,
    He.glo_ok X G (c.fact 24 (f := .glo "first_ones") rfl),
    c.def_ 29 (d := dd_Order___init__) rfl,
    c.def_ 30 (d := dd_Order___add__) rfl,
    c.def_ 31 (d := dd_node_orders) rfl,
    He.glo_ok X G (c.fact 25 (f := .glo "node_orders") rfl),
    (cc.pr_ 3 (d := dp_Network_orders) rfl).2,
    (cc.pr_ 4 (d := dp_Ring_orders) rfl).2,
    c.def_ 32 (d := dd_Lright) rfl,
    He.glo_ok X G (c.fact 26 (f := .glo "_law_right") rfl),
    c.def_ 33 (d := dd_Lentries) rfl,
    He.glo_ok X G (c.fact 27 (f := .glo "_law_entries") rfl),
    c.def_ 34 (d := dd_law) rfl,
    He.glo_ok X G (c.fact 28 (f := .glo "law") rfl),
    c.def_ 35 (d := dd_InvalidRow___init__) rfl,
    c.def_ 36 (d := dd_InvalidCells___init__) rfl,
    c.def_ 37 (d := dd_InvalidOutputs___init__) rfl,
    c.def_ 38 (d := dd_InvalidSize___init__) rfl,
    c.def_ 39 (d := dd_InvalidStuck___init__) rfl,
    c.def_ 40 (d := dd_NoOutput___init__) rfl,
    c.def_ 41 (d := dd_InvalidPosition___init__) rfl,
    allB_ok ((Bool.and_eq_true_iff.mp (Bool.and_eq_true_iff.mp (Bool.and_eq_true_iff.mp (Bool.and_eq_true_iff.mp (Bool.and_eq_true_iff.mp (Bool.and_eq_true_iff.mp (Bool.and_eq_true_iff.mp (Bool.and_eq_true_iff.mp (Bool.and_eq_true_iff.mp (Bool.and_eq_true_iff.mp (Bool.and_eq_true_iff.mp (Bool.and_eq_true_iff.mp (Bool.and_eq_true_iff.mp (Bool.and_eq_true_iff.mp (Bool.and_eq_true_iff.mp (Bool.and_eq_true_iff.mp (Bool.and_eq_true_iff.mp (Bool.and_eq_true_iff.mp (Bool.and_eq_true_iff.mp (Bool.and_eq_true_iff.mp (Bool.and_eq_true_iff.mp (Bool.and_eq_true_iff.mp (Bool.and_eq_true_iff.mp (Bool.and_eq_true_iff.mp (Bool.and_eq_true_iff.mp (Bool.and_eq_true_iff.mp (Bool.and_eq_true_iff.mp (Bool.and_eq_true_iff.mp (Bool.and_eq_true_iff.mp (Bool.and_eq_true_iff.mp (Bool.and_eq_true_iff.mp (Bool.and_eq_true_iff.mp (Bool.and_eq_true_iff.mp (Bool.and_eq_true_iff.mp (Bool.and_eq_true_iff.mp (Bool.and_eq_true_iff.mp (Bool.and_eq_true_iff.mp (Bool.and_eq_true_iff.mp (Bool.and_eq_true_iff.mp (Bool.and_eq_true_iff.mp (Bool.and_eq_true_iff.mp (Bool.and_eq_true_iff.mp (Bool.and_eq_true_iff.mp (Bool.and_eq_true_iff.mp (Bool.and_eq_true_iff.mp (Bool.and_eq_true_iff.mp (Bool.and_eq_true_iff.mp (Bool.and_eq_true_iff.mp xq).1).1).1).1).1).1).1).1).1).1).1).1).1).1).1).1).1).1).1).1).1).1).1).1).1).1).1).1).1).1).1).1).1).1).1).1).1).1).1).1).1).1).1).1).1).1).1).1) fun _ h => of_decide_eq_true h,
    allB_ok ((Bool.and_eq_true_iff.mp (Bool.and_eq_true_iff.mp (Bool.and_eq_true_iff.mp (Bool.and_eq_true_iff.mp (Bool.and_eq_true_iff.mp (Bool.and_eq_true_iff.mp (Bool.and_eq_true_iff.mp (Bool.and_eq_true_iff.mp (Bool.and_eq_true_iff.mp (Bool.and_eq_true_iff.mp (Bool.and_eq_true_iff.mp (Bool.and_eq_true_iff.mp (Bool.and_eq_true_iff.mp (Bool.and_eq_true_iff.mp (Bool.and_eq_true_iff.mp (Bool.and_eq_true_iff.mp (Bool.and_eq_true_iff.mp (Bool.and_eq_true_iff.mp (Bool.and_eq_true_iff.mp (Bool.and_eq_true_iff.mp (Bool.and_eq_true_iff.mp (Bool.and_eq_true_iff.mp (Bool.and_eq_true_iff.mp (Bool.and_eq_true_iff.mp (Bool.and_eq_true_iff.mp (Bool.and_eq_true_iff.mp (Bool.and_eq_true_iff.mp (Bool.and_eq_true_iff.mp (Bool.and_eq_true_iff.mp (Bool.and_eq_true_iff.mp (Bool.and_eq_true_iff.mp (Bool.and_eq_true_iff.mp (Bool.and_eq_true_iff.mp (Bool.and_eq_true_iff.mp (Bool.and_eq_true_iff.mp (Bool.and_eq_true_iff.mp (Bool.and_eq_true_iff.mp (Bool.and_eq_true_iff.mp (Bool.and_eq_true_iff.mp (Bool.and_eq_true_iff.mp (Bool.and_eq_true_iff.mp (Bool.and_eq_true_iff.mp (Bool.and_eq_true_iff.mp (Bool.and_eq_true_iff.mp (Bool.and_eq_true_iff.mp (Bool.and_eq_true_iff.mp (Bool.and_eq_true_iff.mp (Bool.and_eq_true_iff.mp xq).1).1).1).1).1).1).1).1).1).1).1).1).1).1).1).1).1).1).1).1).1).1).1).1).1).1).1).1).1).1).1).1).1).1).1).1).1).1).1).1).1).1).1).1).1).1).1).2) fun _ h => excB_ok h,
    allB_ok ((Bool.and_eq_true_iff.mp (Bool.and_eq_true_iff.mp (Bool.and_eq_true_iff.mp (Bool.and_eq_true_iff.mp (Bool.and_eq_true_iff.mp (Bool.and_eq_true_iff.mp (Bool.and_eq_true_iff.mp (Bool.and_eq_true_iff.mp (Bool.and_eq_true_iff.mp (Bool.and_eq_true_iff.mp (Bool.and_eq_true_iff.mp (Bool.and_eq_true_iff.mp (Bool.and_eq_true_iff.mp (Bool.and_eq_true_iff.mp (Bool.and_eq_true_iff.mp (Bool.and_eq_true_iff.mp (Bool.and_eq_true_iff.mp (Bool.and_eq_true_iff.mp (Bool.and_eq_true_iff.mp (Bool.and_eq_true_iff.mp (Bool.and_eq_true_iff.mp (Bool.and_eq_true_iff.mp (Bool.and_eq_true_iff.mp (Bool.and_eq_true_iff.mp (Bool.and_eq_true_iff.mp (Bool.and_eq_true_iff.mp (Bool.and_eq_true_iff.mp (Bool.and_eq_true_iff.mp (Bool.and_eq_true_iff.mp (Bool.and_eq_true_iff.mp (Bool.and_eq_true_iff.mp (Bool.and_eq_true_iff.mp (Bool.and_eq_true_iff.mp (Bool.and_eq_true_iff.mp (Bool.and_eq_true_iff.mp (Bool.and_eq_true_iff.mp (Bool.and_eq_true_iff.mp (Bool.and_eq_true_iff.mp (Bool.and_eq_true_iff.mp (Bool.and_eq_true_iff.mp (Bool.and_eq_true_iff.mp (Bool.and_eq_true_iff.mp (Bool.and_eq_true_iff.mp (Bool.and_eq_true_iff.mp (Bool.and_eq_true_iff.mp (Bool.and_eq_true_iff.mp (Bool.and_eq_true_iff.mp xq).1).1).1).1).1).1).1).1).1).1).1).1).1).1).1).1).1).1).1).1).1).1).1).1).1).1).1).1).1).1).1).1).1).1).1).1).1).1).1).1).1).1).1).1).1).1).2) fun _ h => of_decide_eq_true h,
    fun n hn => of_decide_eq_true (List.all_eq_true.mp ((Bool.and_eq_true_iff.mp (Bool.and_eq_true_iff.mp (Bool.and_eq_true_iff.mp (Bool.and_eq_true_iff.mp (Bool.and_eq_true_iff.mp (Bool.and_eq_true_iff.mp (Bool.and_eq_true_iff.mp (Bool.and_eq_true_iff.mp (Bool.and_eq_true_iff.mp (Bool.and_eq_true_iff.mp (Bool.and_eq_true_iff.mp (Bool.and_eq_true_iff.mp (Bool.and_eq_true_iff.mp (Bool.and_eq_true_iff.mp (Bool.and_eq_true_iff.mp (Bool.and_eq_true_iff.mp (Bool.and_eq_true_iff.mp (Bool.and_eq_true_iff.mp (Bool.and_eq_true_iff.mp (Bool.and_eq_true_iff.mp (Bool.and_eq_true_iff.mp (Bool.and_eq_true_iff.mp (Bool.and_eq_true_iff.mp (Bool.and_eq_true_iff.mp (Bool.and_eq_true_iff.mp (Bool.and_eq_true_iff.mp (Bool.and_eq_true_iff.mp (Bool.and_eq_true_iff.mp (Bool.and_eq_true_iff.mp (Bool.and_eq_true_iff.mp (Bool.and_eq_true_iff.mp (Bool.and_eq_true_iff.mp (Bool.and_eq_true_iff.mp (Bool.and_eq_true_iff.mp (Bool.and_eq_true_iff.mp (Bool.and_eq_true_iff.mp (Bool.and_eq_true_iff.mp (Bool.and_eq_true_iff.mp (Bool.and_eq_true_iff.mp (Bool.and_eq_true_iff.mp (Bool.and_eq_true_iff.mp (Bool.and_eq_true_iff.mp (Bool.and_eq_true_iff.mp (Bool.and_eq_true_iff.mp (Bool.and_eq_true_iff.mp (Bool.and_eq_true_iff.mp xq).1).1).1).1).1).1).1).1).1).1).1).1).1).1).1).1).1).1).1).1).1).1).1).1).1).1).1).1).1).1).1).1).1).1).1).1).1).1).1).1).1).1).1).1).1).2) n hn),
    allB_ok ((Bool.and_eq_true_iff.mp (Bool.and_eq_true_iff.mp (Bool.and_eq_true_iff.mp (Bool.and_eq_true_iff.mp (Bool.and_eq_true_iff.mp (Bool.and_eq_true_iff.mp (Bool.and_eq_true_iff.mp (Bool.and_eq_true_iff.mp (Bool.and_eq_true_iff.mp (Bool.and_eq_true_iff.mp (Bool.and_eq_true_iff.mp (Bool.and_eq_true_iff.mp (Bool.and_eq_true_iff.mp (Bool.and_eq_true_iff.mp (Bool.and_eq_true_iff.mp (Bool.and_eq_true_iff.mp (Bool.and_eq_true_iff.mp (Bool.and_eq_true_iff.mp (Bool.and_eq_true_iff.mp (Bool.and_eq_true_iff.mp (Bool.and_eq_true_iff.mp (Bool.and_eq_true_iff.mp (Bool.and_eq_true_iff.mp (Bool.and_eq_true_iff.mp (Bool.and_eq_true_iff.mp (Bool.and_eq_true_iff.mp (Bool.and_eq_true_iff.mp (Bool.and_eq_true_iff.mp (Bool.and_eq_true_iff.mp (Bool.and_eq_true_iff.mp (Bool.and_eq_true_iff.mp (Bool.and_eq_true_iff.mp (Bool.and_eq_true_iff.mp (Bool.and_eq_true_iff.mp (Bool.and_eq_true_iff.mp (Bool.and_eq_true_iff.mp (Bool.and_eq_true_iff.mp (Bool.and_eq_true_iff.mp (Bool.and_eq_true_iff.mp (Bool.and_eq_true_iff.mp (Bool.and_eq_true_iff.mp (Bool.and_eq_true_iff.mp (Bool.and_eq_true_iff.mp (Bool.and_eq_true_iff.mp (Bool.and_eq_true_iff.mp xq).1).1).1).1).1).1).1).1).1).1).1).1).1).1).1).1).1).1).1).1).1).1).1).1).1).1).1).1).1).1).1).1).1).1).1).1).1).1).1).1).1).1).1).1).2) fun _ h => of_decide_eq_true h,
    fun n hn => of_decide_eq_true (List.all_eq_true.mp ((Bool.and_eq_true_iff.mp (Bool.and_eq_true_iff.mp (Bool.and_eq_true_iff.mp (Bool.and_eq_true_iff.mp (Bool.and_eq_true_iff.mp (Bool.and_eq_true_iff.mp (Bool.and_eq_true_iff.mp (Bool.and_eq_true_iff.mp (Bool.and_eq_true_iff.mp (Bool.and_eq_true_iff.mp (Bool.and_eq_true_iff.mp (Bool.and_eq_true_iff.mp (Bool.and_eq_true_iff.mp (Bool.and_eq_true_iff.mp (Bool.and_eq_true_iff.mp (Bool.and_eq_true_iff.mp (Bool.and_eq_true_iff.mp (Bool.and_eq_true_iff.mp (Bool.and_eq_true_iff.mp (Bool.and_eq_true_iff.mp (Bool.and_eq_true_iff.mp (Bool.and_eq_true_iff.mp (Bool.and_eq_true_iff.mp (Bool.and_eq_true_iff.mp (Bool.and_eq_true_iff.mp (Bool.and_eq_true_iff.mp (Bool.and_eq_true_iff.mp (Bool.and_eq_true_iff.mp (Bool.and_eq_true_iff.mp (Bool.and_eq_true_iff.mp (Bool.and_eq_true_iff.mp (Bool.and_eq_true_iff.mp (Bool.and_eq_true_iff.mp (Bool.and_eq_true_iff.mp (Bool.and_eq_true_iff.mp (Bool.and_eq_true_iff.mp (Bool.and_eq_true_iff.mp (Bool.and_eq_true_iff.mp (Bool.and_eq_true_iff.mp (Bool.and_eq_true_iff.mp (Bool.and_eq_true_iff.mp (Bool.and_eq_true_iff.mp (Bool.and_eq_true_iff.mp (Bool.and_eq_true_iff.mp xq).1).1).1).1).1).1).1).1).1).1).1).1).1).1).1).1).1).1).1).1).1).1).1).1).1).1).1).1).1).1).1).1).1).1).1).1).1).1).1).1).1).1).1).2) n hn),
    allB_ok ((Bool.and_eq_true_iff.mp (Bool.and_eq_true_iff.mp (Bool.and_eq_true_iff.mp (Bool.and_eq_true_iff.mp (Bool.and_eq_true_iff.mp (Bool.and_eq_true_iff.mp (Bool.and_eq_true_iff.mp (Bool.and_eq_true_iff.mp (Bool.and_eq_true_iff.mp (Bool.and_eq_true_iff.mp (Bool.and_eq_true_iff.mp (Bool.and_eq_true_iff.mp (Bool.and_eq_true_iff.mp (Bool.and_eq_true_iff.mp (Bool.and_eq_true_iff.mp (Bool.and_eq_true_iff.mp (Bool.and_eq_true_iff.mp (Bool.and_eq_true_iff.mp (Bool.and_eq_true_iff.mp (Bool.and_eq_true_iff.mp (Bool.and_eq_true_iff.mp (Bool.and_eq_true_iff.mp (Bool.and_eq_true_iff.mp (Bool.and_eq_true_iff.mp (Bool.and_eq_true_iff.mp (Bool.and_eq_true_iff.mp (Bool.and_eq_true_iff.mp (Bool.and_eq_true_iff.mp (Bool.and_eq_true_iff.mp (Bool.and_eq_true_iff.mp (Bool.and_eq_true_iff.mp (Bool.and_eq_true_iff.mp (Bool.and_eq_true_iff.mp (Bool.and_eq_true_iff.mp (Bool.and_eq_true_iff.mp (Bool.and_eq_true_iff.mp (Bool.and_eq_true_iff.mp (Bool.and_eq_true_iff.mp (Bool.and_eq_true_iff.mp (Bool.and_eq_true_iff.mp (Bool.and_eq_true_iff.mp (Bool.and_eq_true_iff.mp (Bool.and_eq_true_iff.mp xq).1).1).1).1).1).1).1).1).1).1).1).1).1).1).1).1).1).1).1).1).1).1).1).1).1).1).1).1).1).1).1).1).1).1).1).1).1).1).1).1).1).1).2) fun _ h => of_decide_eq_true h,
    fun n hn => of_decide_eq_true (List.all_eq_true.mp ((Bool.and_eq_true_iff.mp (Bool.and_eq_true_iff.mp (Bool.and_eq_true_iff.mp (Bool.and_eq_true_iff.mp (Bool.and_eq_true_iff.mp (Bool.and_eq_true_iff.mp (Bool.and_eq_true_iff.mp (Bool.and_eq_true_iff.mp (Bool.and_eq_true_iff.mp (Bool.and_eq_true_iff.mp (Bool.and_eq_true_iff.mp (Bool.and_eq_true_iff.mp (Bool.and_eq_true_iff.mp (Bool.and_eq_true_iff.mp (Bool.and_eq_true_iff.mp (Bool.and_eq_true_iff.mp (Bool.and_eq_true_iff.mp (Bool.and_eq_true_iff.mp (Bool.and_eq_true_iff.mp (Bool.and_eq_true_iff.mp (Bool.and_eq_true_iff.mp (Bool.and_eq_true_iff.mp (Bool.and_eq_true_iff.mp (Bool.and_eq_true_iff.mp (Bool.and_eq_true_iff.mp (Bool.and_eq_true_iff.mp (Bool.and_eq_true_iff.mp (Bool.and_eq_true_iff.mp (Bool.and_eq_true_iff.mp (Bool.and_eq_true_iff.mp (Bool.and_eq_true_iff.mp (Bool.and_eq_true_iff.mp (Bool.and_eq_true_iff.mp (Bool.and_eq_true_iff.mp (Bool.and_eq_true_iff.mp (Bool.and_eq_true_iff.mp (Bool.and_eq_true_iff.mp (Bool.and_eq_true_iff.mp (Bool.and_eq_true_iff.mp (Bool.and_eq_true_iff.mp (Bool.and_eq_true_iff.mp (Bool.and_eq_true_iff.mp xq).1).1).1).1).1).1).1).1).1).1).1).1).1).1).1).1).1).1).1).1).1).1).1).1).1).1).1).1).1).1).1).1).1).1).1).1).1).1).1).1).1).2) n hn),
    He.glo_ok X G (c.fact 29 (f := .glo "ProbeError") rfl),
    He.glo_ok X G (c.fact 30 (f := .glo "NoOutput") rfl),
    allB_ok ((Bool.and_eq_true_iff.mp (Bool.and_eq_true_iff.mp (Bool.and_eq_true_iff.mp (Bool.and_eq_true_iff.mp (Bool.and_eq_true_iff.mp (Bool.and_eq_true_iff.mp (Bool.and_eq_true_iff.mp (Bool.and_eq_true_iff.mp (Bool.and_eq_true_iff.mp (Bool.and_eq_true_iff.mp (Bool.and_eq_true_iff.mp (Bool.and_eq_true_iff.mp (Bool.and_eq_true_iff.mp (Bool.and_eq_true_iff.mp (Bool.and_eq_true_iff.mp (Bool.and_eq_true_iff.mp (Bool.and_eq_true_iff.mp (Bool.and_eq_true_iff.mp (Bool.and_eq_true_iff.mp (Bool.and_eq_true_iff.mp (Bool.and_eq_true_iff.mp (Bool.and_eq_true_iff.mp (Bool.and_eq_true_iff.mp (Bool.and_eq_true_iff.mp (Bool.and_eq_true_iff.mp (Bool.and_eq_true_iff.mp (Bool.and_eq_true_iff.mp (Bool.and_eq_true_iff.mp (Bool.and_eq_true_iff.mp (Bool.and_eq_true_iff.mp (Bool.and_eq_true_iff.mp (Bool.and_eq_true_iff.mp (Bool.and_eq_true_iff.mp (Bool.and_eq_true_iff.mp (Bool.and_eq_true_iff.mp (Bool.and_eq_true_iff.mp (Bool.and_eq_true_iff.mp (Bool.and_eq_true_iff.mp (Bool.and_eq_true_iff.mp (Bool.and_eq_true_iff.mp (Bool.and_eq_true_iff.mp xq).1).1).1).1).1).1).1).1).1).1).1).1).1).1).1).1).1).1).1).1).1).1).1).1).1).1).1).1).1).1).1).1).1).1).1).1).1).1).1).1).2) fun _ h => ⟨excB_xf (Bool.and_eq_true_iff.mp h).1, He.eqO_ok (Bool.and_eq_true_iff.mp h).2⟩,
    allB_ok ((Bool.and_eq_true_iff.mp (Bool.and_eq_true_iff.mp (Bool.and_eq_true_iff.mp (Bool.and_eq_true_iff.mp (Bool.and_eq_true_iff.mp (Bool.and_eq_true_iff.mp (Bool.and_eq_true_iff.mp (Bool.and_eq_true_iff.mp (Bool.and_eq_true_iff.mp (Bool.and_eq_true_iff.mp (Bool.and_eq_true_iff.mp (Bool.and_eq_true_iff.mp (Bool.and_eq_true_iff.mp (Bool.and_eq_true_iff.mp (Bool.and_eq_true_iff.mp (Bool.and_eq_true_iff.mp (Bool.and_eq_true_iff.mp (Bool.and_eq_true_iff.mp (Bool.and_eq_true_iff.mp (Bool.and_eq_true_iff.mp (Bool.and_eq_true_iff.mp (Bool.and_eq_true_iff.mp (Bool.and_eq_true_iff.mp (Bool.and_eq_true_iff.mp (Bool.and_eq_true_iff.mp (Bool.and_eq_true_iff.mp (Bool.and_eq_true_iff.mp (Bool.and_eq_true_iff.mp (Bool.and_eq_true_iff.mp (Bool.and_eq_true_iff.mp (Bool.and_eq_true_iff.mp (Bool.and_eq_true_iff.mp (Bool.and_eq_true_iff.mp (Bool.and_eq_true_iff.mp (Bool.and_eq_true_iff.mp (Bool.and_eq_true_iff.mp (Bool.and_eq_true_iff.mp (Bool.and_eq_true_iff.mp (Bool.and_eq_true_iff.mp (Bool.and_eq_true_iff.mp xq).1).1).1).1).1).1).1).1).1).1).1).1).1).1).1).1).1).1).1).1).1).1).1).1).1).1).1).1).1).1).1).1).1).1).1).1).1).1).1).2) fun _ h => of_decide_eq_true h,
    fun n hn => of_decide_eq_true (List.all_eq_true.mp ((Bool.and_eq_true_iff.mp (Bool.and_eq_true_iff.mp (Bool.and_eq_true_iff.mp (Bool.and_eq_true_iff.mp (Bool.and_eq_true_iff.mp (Bool.and_eq_true_iff.mp (Bool.and_eq_true_iff.mp (Bool.and_eq_true_iff.mp (Bool.and_eq_true_iff.mp (Bool.and_eq_true_iff.mp (Bool.and_eq_true_iff.mp (Bool.and_eq_true_iff.mp (Bool.and_eq_true_iff.mp (Bool.and_eq_true_iff.mp (Bool.and_eq_true_iff.mp (Bool.and_eq_true_iff.mp (Bool.and_eq_true_iff.mp (Bool.and_eq_true_iff.mp (Bool.and_eq_true_iff.mp (Bool.and_eq_true_iff.mp (Bool.and_eq_true_iff.mp (Bool.and_eq_true_iff.mp (Bool.and_eq_true_iff.mp (Bool.and_eq_true_iff.mp (Bool.and_eq_true_iff.mp (Bool.and_eq_true_iff.mp (Bool.and_eq_true_iff.mp (Bool.and_eq_true_iff.mp (Bool.and_eq_true_iff.mp (Bool.and_eq_true_iff.mp (Bool.and_eq_true_iff.mp (Bool.and_eq_true_iff.mp (Bool.and_eq_true_iff.mp (Bool.and_eq_true_iff.mp (Bool.and_eq_true_iff.mp (Bool.and_eq_true_iff.mp (Bool.and_eq_true_iff.mp (Bool.and_eq_true_iff.mp (Bool.and_eq_true_iff.mp xq).1).1).1).1).1).1).1).1).1).1).1).1).1).1).1).1).1).1).1).1).1).1).1).1).1).1).1).1).1).1).1).1).1).1).1).1).1).1).2) n hn),
    allB_ok ((Bool.and_eq_true_iff.mp (Bool.and_eq_true_iff.mp (Bool.and_eq_true_iff.mp (Bool.and_eq_true_iff.mp (Bool.and_eq_true_iff.mp (Bool.and_eq_true_iff.mp (Bool.and_eq_true_iff.mp (Bool.and_eq_true_iff.mp (Bool.and_eq_true_iff.mp (Bool.and_eq_true_iff.mp (Bool.and_eq_true_iff.mp (Bool.and_eq_true_iff.mp (Bool.and_eq_true_iff.mp (Bool.and_eq_true_iff.mp (Bool.and_eq_true_iff.mp (Bool.and_eq_true_iff.mp (Bool.and_eq_true_iff.mp (Bool.and_eq_true_iff.mp (Bool.and_eq_true_iff.mp (Bool.and_eq_true_iff.mp (Bool.and_eq_true_iff.mp (Bool.and_eq_true_iff.mp (Bool.and_eq_true_iff.mp (Bool.and_eq_true_iff.mp (Bool.and_eq_true_iff.mp (Bool.and_eq_true_iff.mp (Bool.and_eq_true_iff.mp (Bool.and_eq_true_iff.mp (Bool.and_eq_true_iff.mp (Bool.and_eq_true_iff.mp (Bool.and_eq_true_iff.mp (Bool.and_eq_true_iff.mp (Bool.and_eq_true_iff.mp (Bool.and_eq_true_iff.mp (Bool.and_eq_true_iff.mp (Bool.and_eq_true_iff.mp (Bool.and_eq_true_iff.mp (Bool.and_eq_true_iff.mp xq).1).1).1).1).1).1).1).1).1).1).1).1).1).1).1).1).1).1).1).1).1).1).1).1).1).1).1).1).1).1).1).1).1).1).1).1).1).2) fun _ h => of_decide_eq_true h,
    fun n hn => of_decide_eq_true (List.all_eq_true.mp ((Bool.and_eq_true_iff.mp (Bool.and_eq_true_iff.mp (Bool.and_eq_true_iff.mp (Bool.and_eq_true_iff.mp (Bool.and_eq_true_iff.mp (Bool.and_eq_true_iff.mp (Bool.and_eq_true_iff.mp (Bool.and_eq_true_iff.mp (Bool.and_eq_true_iff.mp (Bool.and_eq_true_iff.mp (Bool.and_eq_true_iff.mp (Bool.and_eq_true_iff.mp (Bool.and_eq_true_iff.mp (Bool.and_eq_true_iff.mp (Bool.and_eq_true_iff.mp (Bool.and_eq_true_iff.mp (Bool.and_eq_true_iff.mp (Bool.and_eq_true_iff.mp (Bool.and_eq_true_iff.mp (Bool.and_eq_true_iff.mp (Bool.and_eq_true_iff.mp (Bool.and_eq_true_iff.mp (Bool.and_eq_true_iff.mp (Bool.and_eq_true_iff.mp (Bool.and_eq_true_iff.mp (Bool.and_eq_true_iff.mp (Bool.and_eq_true_iff.mp (Bool.and_eq_true_iff.mp (Bool.and_eq_true_iff.mp (Bool.and_eq_true_iff.mp (Bool.and_eq_true_iff.mp (Bool.and_eq_true_iff.mp (Bool.and_eq_true_iff.mp (Bool.and_eq_true_iff.mp (Bool.and_eq_true_iff.mp (Bool.and_eq_true_iff.mp (Bool.and_eq_true_iff.mp xq).1).1).1).1).1).1).1).1).1).1).1).1).1).1).1).1).1).1).1).1).1).1).1).1).1).1).1).1).1).1).1).1).1).1).1).1).2) n hn),
    allB_ok ((Bool.and_eq_true_iff.mp (Bool.and_eq_true_iff.mp (Bool.and_eq_true_iff.mp (Bool.and_eq_true_iff.mp (Bool.and_eq_true_iff.mp (Bool.and_eq_true_iff.mp (Bool.and_eq_true_iff.mp (Bool.and_eq_true_iff.mp (Bool.and_eq_true_iff.mp (Bool.and_eq_true_iff.mp (Bool.and_eq_true_iff.mp (Bool.and_eq_true_iff.mp (Bool.and_eq_true_iff.mp (Bool.and_eq_true_iff.mp (Bool.and_eq_true_iff.mp (Bool.and_eq_true_iff.mp (Bool.and_eq_true_iff.mp (Bool.and_eq_true_iff.mp (Bool.and_eq_true_iff.mp (Bool.and_eq_true_iff.mp (Bool.and_eq_true_iff.mp (Bool.and_eq_true_iff.mp (Bool.and_eq_true_iff.mp (Bool.and_eq_true_iff.mp (Bool.and_eq_true_iff.mp (Bool.and_eq_true_iff.mp (Bool.and_eq_true_iff.mp (Bool.and_eq_true_iff.mp (Bool.and_eq_true_iff.mp (Bool.and_eq_true_iff.mp (Bool.and_eq_true_iff.mp (Bool.and_eq_true_iff.mp (Bool.and_eq_true_iff.mp (Bool.and_eq_true_iff.mp (Bool.and_eq_true_iff.mp (Bool.and_eq_true_iff.mp xq).1).1).1).1).1).1).1).1).1).1).1).1).1).1).1).1).1).1).1).1).1).1).1).1).1).1).1).1).1).1).1).1).1).1).1).2) fun _ h => of_decide_eq_true h,
    fun n hn => of_decide_eq_true (List.all_eq_true.mp ((Bool.and_eq_true_iff.mp (Bool.and_eq_true_iff.mp (Bool.and_eq_true_iff.mp (Bool.and_eq_true_iff.mp (Bool.and_eq_true_iff.mp (Bool.and_eq_true_iff.mp (Bool.and_eq_true_iff.mp (Bool.and_eq_true_iff.mp (Bool.and_eq_true_iff.mp (Bool.and_eq_true_iff.mp (Bool.and_eq_true_iff.mp (Bool.and_eq_true_iff.mp (Bool.and_eq_true_iff.mp (Bool.and_eq_true_iff.mp (Bool.and_eq_true_iff.mp (Bool.and_eq_true_iff.mp (Bool.and_eq_true_iff.mp (Bool.and_eq_true_iff.mp (Bool.and_eq_true_iff.mp (Bool.and_eq_true_iff.mp (Bool.and_eq_true_iff.mp (Bool.and_eq_true_iff.mp (Bool.and_eq_true_iff.mp (Bool.and_eq_true_iff.mp (Bool.and_eq_true_iff.mp (Bool.and_eq_true_iff.mp (Bool.and_eq_true_iff.mp (Bool.and_eq_true_iff.mp (Bool.and_eq_true_iff.mp (Bool.and_eq_true_iff.mp (Bool.and_eq_true_iff.mp (Bool.and_eq_true_iff.mp (Bool.and_eq_true_iff.mp (Bool.and_eq_true_iff.mp (Bool.and_eq_true_iff.mp xq).1).1).1).1).1).1).1).1).1).1).1).1).1).1).1).1).1).1).1).1).1).1).1).1).1).1).1).1).1).1).1).1).1).1).2) n hn),
    He.glo_ok X G (c.fact 31 (f := .glo "AbsentError") rfl),
    He.glo_ok X G (c.fact 32 (f := .glo "InvalidRow") rfl),
    allB_ok ((Bool.and_eq_true_iff.mp (Bool.and_eq_true_iff.mp (Bool.and_eq_true_iff.mp (Bool.and_eq_true_iff.mp (Bool.and_eq_true_iff.mp (Bool.and_eq_true_iff.mp (Bool.and_eq_true_iff.mp (Bool.and_eq_true_iff.mp (Bool.and_eq_true_iff.mp (Bool.and_eq_true_iff.mp (Bool.and_eq_true_iff.mp (Bool.and_eq_true_iff.mp (Bool.and_eq_true_iff.mp (Bool.and_eq_true_iff.mp (Bool.and_eq_true_iff.mp (Bool.and_eq_true_iff.mp (Bool.and_eq_true_iff.mp (Bool.and_eq_true_iff.mp (Bool.and_eq_true_iff.mp (Bool.and_eq_true_iff.mp (Bool.and_eq_true_iff.mp (Bool.and_eq_true_iff.mp (Bool.and_eq_true_iff.mp (Bool.and_eq_true_iff.mp (Bool.and_eq_true_iff.mp (Bool.and_eq_true_iff.mp (Bool.and_eq_true_iff.mp (Bool.and_eq_true_iff.mp (Bool.and_eq_true_iff.mp (Bool.and_eq_true_iff.mp (Bool.and_eq_true_iff.mp (Bool.and_eq_true_iff.mp (Bool.and_eq_true_iff.mp (Bool.and_eq_true_iff.mp xq).1).1).1).1).1).1).1).1).1).1).1).1).1).1).1).1).1).1).1).1).1).1).1).1).1).1).1).1).1).1).1).1).1).2) fun _ h => ⟨excB_xf (Bool.and_eq_true_iff.mp h).1, He.eqO_ok (Bool.and_eq_true_iff.mp h).2⟩,
    He.glo_ok X G (c.fact 33 (f := .glo "TooMany") rfl),
    errB_ok ((Bool.and_eq_true_iff.mp (Bool.and_eq_true_iff.mp (Bool.and_eq_true_iff.mp (Bool.and_eq_true_iff.mp (Bool.and_eq_true_iff.mp (Bool.and_eq_true_iff.mp (Bool.and_eq_true_iff.mp (Bool.and_eq_true_iff.mp (Bool.and_eq_true_iff.mp (Bool.and_eq_true_iff.mp (Bool.and_eq_true_iff.mp (Bool.and_eq_true_iff.mp (Bool.and_eq_true_iff.mp (Bool.and_eq_true_iff.mp (Bool.and_eq_true_iff.mp (Bool.and_eq_true_iff.mp (Bool.and_eq_true_iff.mp (Bool.and_eq_true_iff.mp (Bool.and_eq_true_iff.mp (Bool.and_eq_true_iff.mp (Bool.and_eq_true_iff.mp (Bool.and_eq_true_iff.mp (Bool.and_eq_true_iff.mp (Bool.and_eq_true_iff.mp (Bool.and_eq_true_iff.mp (Bool.and_eq_true_iff.mp (Bool.and_eq_true_iff.mp (Bool.and_eq_true_iff.mp (Bool.and_eq_true_iff.mp (Bool.and_eq_true_iff.mp (Bool.and_eq_true_iff.mp (Bool.and_eq_true_iff.mp (Bool.and_eq_true_iff.mp xq).1).1).1).1).1).1).1).1).1).1).1).1).1).1).1).1).1).1).1).1).1).1).1).1).1).1).1).1).1).1).1).1).2),
    He.eqO_ok ((Bool.and_eq_true_iff.mp (Bool.and_eq_true_iff.mp (Bool.and_eq_true_iff.mp (Bool.and_eq_true_iff.mp (Bool.and_eq_true_iff.mp (Bool.and_eq_true_iff.mp (Bool.and_eq_true_iff.mp (Bool.and_eq_true_iff.mp (Bool.and_eq_true_iff.mp (Bool.and_eq_true_iff.mp (Bool.and_eq_true_iff.mp (Bool.and_eq_true_iff.mp (Bool.and_eq_true_iff.mp (Bool.and_eq_true_iff.mp (Bool.and_eq_true_iff.mp (Bool.and_eq_true_iff.mp (Bool.and_eq_true_iff.mp (Bool.and_eq_true_iff.mp (Bool.and_eq_true_iff.mp (Bool.and_eq_true_iff.mp (Bool.and_eq_true_iff.mp (Bool.and_eq_true_iff.mp (Bool.and_eq_true_iff.mp (Bool.and_eq_true_iff.mp (Bool.and_eq_true_iff.mp (Bool.and_eq_true_iff.mp (Bool.and_eq_true_iff.mp (Bool.and_eq_true_iff.mp (Bool.and_eq_true_iff.mp (Bool.and_eq_true_iff.mp (Bool.and_eq_true_iff.mp (Bool.and_eq_true_iff.mp xq).1).1).1).1).1).1).1).1).1).1).1).1).1).1).1).1).1).1).1).1).1).1).1).1).1).1).1).1).1).1).1).2),
    fun n hn => of_decide_eq_true (List.all_eq_true.mp ((Bool.and_eq_true_iff.mp (Bool.and_eq_true_iff.mp (Bool.and_eq_true_iff.mp (Bool.and_eq_true_iff.mp (Bool.and_eq_true_iff.mp (Bool.and_eq_true_iff.mp (Bool.and_eq_true_iff.mp (Bool.and_eq_true_iff.mp (Bool.and_eq_true_iff.mp (Bool.and_eq_true_iff.mp (Bool.and_eq_true_iff.mp (Bool.and_eq_true_iff.mp (Bool.and_eq_true_iff.mp (Bool.and_eq_true_iff.mp (Bool.and_eq_true_iff.mp (Bool.and_eq_true_iff.mp (Bool.and_eq_true_iff.mp (Bool.and_eq_true_iff.mp (Bool.and_eq_true_iff.mp (Bool.and_eq_true_iff.mp (Bool.and_eq_true_iff.mp (Bool.and_eq_true_iff.mp (Bool.and_eq_true_iff.mp (Bool.and_eq_true_iff.mp (Bool.and_eq_true_iff.mp (Bool.and_eq_true_iff.mp (Bool.and_eq_true_iff.mp (Bool.and_eq_true_iff.mp (Bool.and_eq_true_iff.mp (Bool.and_eq_true_iff.mp (Bool.and_eq_true_iff.mp xq).1).1).1).1).1).1).1).1).1).1).1).1).1).1).1).1).1).1).1).1).1).1).1).1).1).1).1).1).1).1).2) n hn),
    errB_ok ((Bool.and_eq_true_iff.mp (Bool.and_eq_true_iff.mp (Bool.and_eq_true_iff.mp (Bool.and_eq_true_iff.mp (Bool.and_eq_true_iff.mp (Bool.and_eq_true_iff.mp (Bool.and_eq_true_iff.mp (Bool.and_eq_true_iff.mp (Bool.and_eq_true_iff.mp (Bool.and_eq_true_iff.mp (Bool.and_eq_true_iff.mp (Bool.and_eq_true_iff.mp (Bool.and_eq_true_iff.mp (Bool.and_eq_true_iff.mp (Bool.and_eq_true_iff.mp (Bool.and_eq_true_iff.mp (Bool.and_eq_true_iff.mp (Bool.and_eq_true_iff.mp (Bool.and_eq_true_iff.mp (Bool.and_eq_true_iff.mp (Bool.and_eq_true_iff.mp (Bool.and_eq_true_iff.mp (Bool.and_eq_true_iff.mp (Bool.and_eq_true_iff.mp (Bool.and_eq_true_iff.mp (Bool.and_eq_true_iff.mp (Bool.and_eq_true_iff.mp (Bool.and_eq_true_iff.mp (Bool.and_eq_true_iff.mp (Bool.and_eq_true_iff.mp xq).1).1).1).1).1).1).1).1).1).1).1).1).1).1).1).1).1).1).1).1).1).1).1).1).1).1).1).1).1).2),
    He.eqO_ok ((Bool.and_eq_true_iff.mp (Bool.and_eq_true_iff.mp (Bool.and_eq_true_iff.mp (Bool.and_eq_true_iff.mp (Bool.and_eq_true_iff.mp (Bool.and_eq_true_iff.mp (Bool.and_eq_true_iff.mp (Bool.and_eq_true_iff.mp (Bool.and_eq_true_iff.mp (Bool.and_eq_true_iff.mp (Bool.and_eq_true_iff.mp (Bool.and_eq_true_iff.mp (Bool.and_eq_true_iff.mp (Bool.and_eq_true_iff.mp (Bool.and_eq_true_iff.mp (Bool.and_eq_true_iff.mp (Bool.and_eq_true_iff.mp (Bool.and_eq_true_iff.mp (Bool.and_eq_true_iff.mp (Bool.and_eq_true_iff.mp (Bool.and_eq_true_iff.mp (Bool.and_eq_true_iff.mp (Bool.and_eq_true_iff.mp (Bool.and_eq_true_iff.mp (Bool.and_eq_true_iff.mp (Bool.and_eq_true_iff.mp (Bool.and_eq_true_iff.mp (Bool.and_eq_true_iff.mp (Bool.and_eq_true_iff.mp xq).1).1).1).1).1).1).1).1).1).1).1).1).1).1).1).1).1).1).1).1).1).1).1).1).1).1).1).1).2),
    He.glo_ok X G (c.fact 34 (f := .glo "InvalidCells") rfl),
    errB_ok ((Bool.and_eq_true_iff.mp (Bool.and_eq_true_iff.mp (Bool.and_eq_true_iff.mp (Bool.and_eq_true_iff.mp (Bool.and_eq_true_iff.mp (Bool.and_eq_true_iff.mp (Bool.and_eq_true_iff.mp (Bool.and_eq_true_iff.mp (Bool.and_eq_true_iff.mp (Bool.and_eq_true_iff.mp (Bool.and_eq_true_iff.mp (Bool.and_eq_true_iff.mp (Bool.and_eq_true_iff.mp (Bool.and_eq_true_iff.mp (Bool.and_eq_true_iff.mp (Bool.and_eq_true_iff.mp (Bool.and_eq_true_iff.mp (Bool.and_eq_true_iff.mp (Bool.and_eq_true_iff.mp (Bool.and_eq_true_iff.mp (Bool.and_eq_true_iff.mp (Bool.and_eq_true_iff.mp (Bool.and_eq_true_iff.mp (Bool.and_eq_true_iff.mp (Bool.and_eq_true_iff.mp (Bool.and_eq_true_iff.mp (Bool.and_eq_true_iff.mp (Bool.and_eq_true_iff.mp xq).1).1).1).1).1).1).1).1).1).1).1).1).1).1).1).1).1).1).1).1).1).1).1).1).1).1).1).2),
    He.eqO_ok ((Bool.and_eq_true_iff.mp (Bool.and_eq_true_iff.mp (Bool.and_eq_true_iff.mp (Bool.and_eq_true_iff.mp (Bool.and_eq_true_iff.mp (Bool.and_eq_true_iff.mp (Bool.and_eq_true_iff.mp (Bool.and_eq_true_iff.mp (Bool.and_eq_true_iff.mp (Bool.and_eq_true_iff.mp (Bool.and_eq_true_iff.mp (Bool.and_eq_true_iff.mp (Bool.and_eq_true_iff.mp (Bool.and_eq_true_iff.mp (Bool.and_eq_true_iff.mp (Bool.and_eq_true_iff.mp (Bool.and_eq_true_iff.mp (Bool.and_eq_true_iff.mp (Bool.and_eq_true_iff.mp (Bool.and_eq_true_iff.mp (Bool.and_eq_true_iff.mp (Bool.and_eq_true_iff.mp (Bool.and_eq_true_iff.mp (Bool.and_eq_true_iff.mp (Bool.and_eq_true_iff.mp (Bool.and_eq_true_iff.mp (Bool.and_eq_true_iff.mp xq).1).1).1).1).1).1).1).1).1).1).1).1).1).1).1).1).1).1).1).1).1).1).1).1).1).1).2),
    He.glo_ok X G (c.fact 35 (f := .glo "InvalidOutputs") rfl),
    DX.conB_ok ((Bool.and_eq_true_iff.mp (Bool.and_eq_true_iff.mp (Bool.and_eq_true_iff.mp (Bool.and_eq_true_iff.mp (Bool.and_eq_true_iff.mp (Bool.and_eq_true_iff.mp (Bool.and_eq_true_iff.mp (Bool.and_eq_true_iff.mp (Bool.and_eq_true_iff.mp (Bool.and_eq_true_iff.mp (Bool.and_eq_true_iff.mp (Bool.and_eq_true_iff.mp (Bool.and_eq_true_iff.mp (Bool.and_eq_true_iff.mp (Bool.and_eq_true_iff.mp (Bool.and_eq_true_iff.mp (Bool.and_eq_true_iff.mp (Bool.and_eq_true_iff.mp (Bool.and_eq_true_iff.mp (Bool.and_eq_true_iff.mp (Bool.and_eq_true_iff.mp (Bool.and_eq_true_iff.mp (Bool.and_eq_true_iff.mp (Bool.and_eq_true_iff.mp (Bool.and_eq_true_iff.mp (Bool.and_eq_true_iff.mp xq).1).1).1).1).1).1).1).1).1).1).1).1).1).1).1).1).1).1).1).1).1).1).1).1).1).2) (by decide),
    DX.conB_ok ((Bool.and_eq_true_iff.mp (Bool.and_eq_true_iff.mp (Bool.and_eq_true_iff.mp (Bool.and_eq_true_iff.mp (Bool.and_eq_true_iff.mp (Bool.and_eq_true_iff.mp (Bool.and_eq_true_iff.mp (Bool.and_eq_true_iff.mp (Bool.and_eq_true_iff.mp (Bool.and_eq_true_iff.mp (Bool.and_eq_true_iff.mp (Bool.and_eq_true_iff.mp (Bool.and_eq_true_iff.mp (Bool.and_eq_true_iff.mp (Bool.and_eq_true_iff.mp (Bool.and_eq_true_iff.mp (Bool.and_eq_true_iff.mp (Bool.and_eq_true_iff.mp (Bool.and_eq_true_iff.mp (Bool.and_eq_true_iff.mp (Bool.and_eq_true_iff.mp (Bool.and_eq_true_iff.mp (Bool.and_eq_true_iff.mp (Bool.and_eq_true_iff.mp (Bool.and_eq_true_iff.mp xq).1).1).1).1).1).1).1).1).1).1).1).1).1).1).1).1).1).1).1).1).1).1).1).1).2) (by decide),
    errB_ok ((Bool.and_eq_true_iff.mp (Bool.and_eq_true_iff.mp (Bool.and_eq_true_iff.mp (Bool.and_eq_true_iff.mp (Bool.and_eq_true_iff.mp (Bool.and_eq_true_iff.mp (Bool.and_eq_true_iff.mp (Bool.and_eq_true_iff.mp (Bool.and_eq_true_iff.mp (Bool.and_eq_true_iff.mp (Bool.and_eq_true_iff.mp (Bool.and_eq_true_iff.mp (Bool.and_eq_true_iff.mp (Bool.and_eq_true_iff.mp (Bool.and_eq_true_iff.mp (Bool.and_eq_true_iff.mp (Bool.and_eq_true_iff.mp (Bool.and_eq_true_iff.mp (Bool.and_eq_true_iff.mp (Bool.and_eq_true_iff.mp (Bool.and_eq_true_iff.mp (Bool.and_eq_true_iff.mp (Bool.and_eq_true_iff.mp (Bool.and_eq_true_iff.mp xq).1).1).1).1).1).1).1).1).1).1).1).1).1).1).1).1).1).1).1).1).1).1).1).2),
    He.eqO_ok ((Bool.and_eq_true_iff.mp (Bool.and_eq_true_iff.mp (Bool.and_eq_true_iff.mp (Bool.and_eq_true_iff.mp (Bool.and_eq_true_iff.mp (Bool.and_eq_true_iff.mp (Bool.and_eq_true_iff.mp (Bool.and_eq_true_iff.mp (Bool.and_eq_true_iff.mp (Bool.and_eq_true_iff.mp (Bool.and_eq_true_iff.mp (Bool.and_eq_true_iff.mp (Bool.and_eq_true_iff.mp (Bool.and_eq_true_iff.mp (Bool.and_eq_true_iff.mp (Bool.and_eq_true_iff.mp (Bool.and_eq_true_iff.mp (Bool.and_eq_true_iff.mp (Bool.and_eq_true_iff.mp (Bool.and_eq_true_iff.mp (Bool.and_eq_true_iff.mp (Bool.and_eq_true_iff.mp (Bool.and_eq_true_iff.mp xq).1).1).1).1).1).1).1).1).1).1).1).1).1).1).1).1).1).1).1).1).1).1).2),
    He.glo_ok X G (c.fact 36 (f := .glo "InvalidSize") rfl),
    DX.conB_ok ((Bool.and_eq_true_iff.mp (Bool.and_eq_true_iff.mp (Bool.and_eq_true_iff.mp (Bool.and_eq_true_iff.mp (Bool.and_eq_true_iff.mp (Bool.and_eq_true_iff.mp (Bool.and_eq_true_iff.mp (Bool.and_eq_true_iff.mp (Bool.and_eq_true_iff.mp (Bool.and_eq_true_iff.mp (Bool.and_eq_true_iff.mp (Bool.and_eq_true_iff.mp (Bool.and_eq_true_iff.mp (Bool.and_eq_true_iff.mp (Bool.and_eq_true_iff.mp (Bool.and_eq_true_iff.mp (Bool.and_eq_true_iff.mp (Bool.and_eq_true_iff.mp (Bool.and_eq_true_iff.mp (Bool.and_eq_true_iff.mp (Bool.and_eq_true_iff.mp (Bool.and_eq_true_iff.mp xq).1).1).1).1).1).1).1).1).1).1).1).1).1).1).1).1).1).1).1).1).1).2) (by decide),
    He.noat_ok (c.fact 37 (f := .noat "Ring" "joins") rfl),
    He.cls_ok (c.fact 38 (f := .cls "Ring") rfl),
    He.noat_ok (c.fact 39 (f := .noat "Ring" "held") rfl),
    He.noat_ok (c.fact 40 (f := .noat "Ring" "ends") rfl),
    He.noat_ok (c.fact 41 (f := .noat "Ring" "bits") rfl),
    DX.conB_ok ((Bool.and_eq_true_iff.mp (Bool.and_eq_true_iff.mp (Bool.and_eq_true_iff.mp (Bool.and_eq_true_iff.mp (Bool.and_eq_true_iff.mp (Bool.and_eq_true_iff.mp (Bool.and_eq_true_iff.mp (Bool.and_eq_true_iff.mp (Bool.and_eq_true_iff.mp (Bool.and_eq_true_iff.mp (Bool.and_eq_true_iff.mp (Bool.and_eq_true_iff.mp (Bool.and_eq_true_iff.mp (Bool.and_eq_true_iff.mp (Bool.and_eq_true_iff.mp (Bool.and_eq_true_iff.mp (Bool.and_eq_true_iff.mp (Bool.and_eq_true_iff.mp (Bool.and_eq_true_iff.mp (Bool.and_eq_true_iff.mp (Bool.and_eq_true_iff.mp xq).1).1).1).1).1).1).1).1).1).1).1).1).1).1).1).1).1).1).1).1).2) (by decide),
    DX.conB_ok ((Bool.and_eq_true_iff.mp (Bool.and_eq_true_iff.mp (Bool.and_eq_true_iff.mp (Bool.and_eq_true_iff.mp (Bool.and_eq_true_iff.mp (Bool.and_eq_true_iff.mp (Bool.and_eq_true_iff.mp (Bool.and_eq_true_iff.mp (Bool.and_eq_true_iff.mp (Bool.and_eq_true_iff.mp (Bool.and_eq_true_iff.mp (Bool.and_eq_true_iff.mp (Bool.and_eq_true_iff.mp (Bool.and_eq_true_iff.mp (Bool.and_eq_true_iff.mp (Bool.and_eq_true_iff.mp (Bool.and_eq_true_iff.mp (Bool.and_eq_true_iff.mp (Bool.and_eq_true_iff.mp (Bool.and_eq_true_iff.mp xq).1).1).1).1).1).1).1).1).1).1).1).1).1).1).1).1).1).1).1).2) (by decide),
    DX.conB_ok ((Bool.and_eq_true_iff.mp (Bool.and_eq_true_iff.mp (Bool.and_eq_true_iff.mp (Bool.and_eq_true_iff.mp (Bool.and_eq_true_iff.mp (Bool.and_eq_true_iff.mp (Bool.and_eq_true_iff.mp (Bool.and_eq_true_iff.mp (Bool.and_eq_true_iff.mp (Bool.and_eq_true_iff.mp (Bool.and_eq_true_iff.mp (Bool.and_eq_true_iff.mp (Bool.and_eq_true_iff.mp (Bool.and_eq_true_iff.mp (Bool.and_eq_true_iff.mp (Bool.and_eq_true_iff.mp (Bool.and_eq_true_iff.mp (Bool.and_eq_true_iff.mp (Bool.and_eq_true_iff.mp xq).1).1).1).1).1).1).1).1).1).1).1).1).1).1).1).1).1).1).2) (by decide),
    He.noat_ok (c.fact 42 (f := .noat "Network" "joins") rfl),
    He.cls_ok (c.fact 43 (f := .cls "Network") rfl),
    He.noat_ok (c.fact 44 (f := .noat "Network" "held") rfl),
    He.noat_ok (c.fact 45 (f := .noat "Network" "ends") rfl),
    He.noat_ok (c.fact 46 (f := .noat "Network" "bits") rfl),
    DX.conB_ok ((Bool.and_eq_true_iff.mp (Bool.and_eq_true_iff.mp (Bool.and_eq_true_iff.mp (Bool.and_eq_true_iff.mp (Bool.and_eq_true_iff.mp (Bool.and_eq_true_iff.mp (Bool.and_eq_true_iff.mp (Bool.and_eq_true_iff.mp (Bool.and_eq_true_iff.mp (Bool.and_eq_true_iff.mp (Bool.and_eq_true_iff.mp (Bool.and_eq_true_iff.mp (Bool.and_eq_true_iff.mp (Bool.and_eq_true_iff.mp (Bool.and_eq_true_iff.mp (Bool.and_eq_true_iff.mp (Bool.and_eq_true_iff.mp (Bool.and_eq_true_iff.mp xq).1).1).1).1).1).1).1).1).1).1).1).1).1).1).1).1).1).2) (by decide),
    DX.conB_ok ((Bool.and_eq_true_iff.mp (Bool.and_eq_true_iff.mp (Bool.and_eq_true_iff.mp (Bool.and_eq_true_iff.mp (Bool.and_eq_true_iff.mp (Bool.and_eq_true_iff.mp (Bool.and_eq_true_iff.mp (Bool.and_eq_true_iff.mp (Bool.and_eq_true_iff.mp (Bool.and_eq_true_iff.mp (Bool.and_eq_true_iff.mp (Bool.and_eq_true_iff.mp (Bool.and_eq_true_iff.mp (Bool.and_eq_true_iff.mp (Bool.and_eq_true_iff.mp (Bool.and_eq_true_iff.mp (Bool.and_eq_true_iff.mp xq).1).1).1).1).1).1).1).1).1).1).1).1).1).1).1).1).2) (by decide),
    DX.conB_ok ((Bool.and_eq_true_iff.mp (Bool.and_eq_true_iff.mp (Bool.and_eq_true_iff.mp (Bool.and_eq_true_iff.mp (Bool.and_eq_true_iff.mp (Bool.and_eq_true_iff.mp (Bool.and_eq_true_iff.mp (Bool.and_eq_true_iff.mp (Bool.and_eq_true_iff.mp (Bool.and_eq_true_iff.mp (Bool.and_eq_true_iff.mp (Bool.and_eq_true_iff.mp (Bool.and_eq_true_iff.mp (Bool.and_eq_true_iff.mp (Bool.and_eq_true_iff.mp (Bool.and_eq_true_iff.mp xq).1).1).1).1).1).1).1).1).1).1).1).1).1).1).1).2) (by decide),
    He.noat_ok (c.fact 47 (f := .noat "Faulty" "joins") rfl),
    He.cls_ok (c.fact 48 (f := .cls "Faulty") rfl),
    He.noat_ok (c.fact 49 (f := .noat "Faulty" "held") rfl),
    He.noat_ok (c.fact 50 (f := .noat "Faulty" "ends") rfl),
    He.noat_ok (c.fact 51 (f := .noat "Faulty" "bits") rfl),
    errB_ok ((Bool.and_eq_true_iff.mp (Bool.and_eq_true_iff.mp (Bool.and_eq_true_iff.mp (Bool.and_eq_true_iff.mp (Bool.and_eq_true_iff.mp (Bool.and_eq_true_iff.mp (Bool.and_eq_true_iff.mp (Bool.and_eq_true_iff.mp (Bool.and_eq_true_iff.mp (Bool.and_eq_true_iff.mp (Bool.and_eq_true_iff.mp (Bool.and_eq_true_iff.mp (Bool.and_eq_true_iff.mp (Bool.and_eq_true_iff.mp (Bool.and_eq_true_iff.mp xq).1).1).1).1).1).1).1).1).1).1).1).1).1).1).2),
    He.eqO_ok ((Bool.and_eq_true_iff.mp (Bool.and_eq_true_iff.mp (Bool.and_eq_true_iff.mp (Bool.and_eq_true_iff.mp (Bool.and_eq_true_iff.mp (Bool.and_eq_true_iff.mp (Bool.and_eq_true_iff.mp (Bool.and_eq_true_iff.mp (Bool.and_eq_true_iff.mp (Bool.and_eq_true_iff.mp (Bool.and_eq_true_iff.mp (Bool.and_eq_true_iff.mp (Bool.and_eq_true_iff.mp (Bool.and_eq_true_iff.mp xq).1).1).1).1).1).1).1).1).1).1).1).1).1).2),
    He.glo_ok X G (c.fact 52 (f := .glo "InvalidStuck") rfl),
    ((Bool.and_eq_true_iff.mp (Bool.and_eq_true_iff.mp (Bool.and_eq_true_iff.mp (Bool.and_eq_true_iff.mp (Bool.and_eq_true_iff.mp (Bool.and_eq_true_iff.mp (Bool.and_eq_true_iff.mp (Bool.and_eq_true_iff.mp (Bool.and_eq_true_iff.mp (Bool.and_eq_true_iff.mp (Bool.and_eq_true_iff.mp (Bool.and_eq_true_iff.mp (Bool.and_eq_true_iff.mp xq).1).1).1).1).1).1).1).1).1).1).1).1).2),
    DX.supB_ok ((Bool.and_eq_true_iff.mp (Bool.and_eq_true_iff.mp (Bool.and_eq_true_iff.mp (Bool.and_eq_true_iff.mp (Bool.and_eq_true_iff.mp (Bool.and_eq_true_iff.mp (Bool.and_eq_true_iff.mp (Bool.and_eq_true_iff.mp (Bool.and_eq_true_iff.mp (Bool.and_eq_true_iff.mp (Bool.and_eq_true_iff.mp (Bool.and_eq_true_iff.mp (Bool.and_eq_true_iff.mp xq).1).1).1).1).1).1).1).1).1).1).1).1).2) (cc.sp_ 0 (d := dp_Faulty___init__) rfl rfl),
    supO_ok ((Bool.and_eq_true_iff.mp (Bool.and_eq_true_iff.mp (Bool.and_eq_true_iff.mp (Bool.and_eq_true_iff.mp (Bool.and_eq_true_iff.mp (Bool.and_eq_true_iff.mp (Bool.and_eq_true_iff.mp (Bool.and_eq_true_iff.mp (Bool.and_eq_true_iff.mp (Bool.and_eq_true_iff.mp (Bool.and_eq_true_iff.mp (Bool.and_eq_true_iff.mp xq).1).1).1).1).1).1).1).1).1).1).1).2),
    tup0B_ok ((Bool.and_eq_true_iff.mp (Bool.and_eq_true_iff.mp (Bool.and_eq_true_iff.mp (Bool.and_eq_true_iff.mp (Bool.and_eq_true_iff.mp (Bool.and_eq_true_iff.mp (Bool.and_eq_true_iff.mp (Bool.and_eq_true_iff.mp (Bool.and_eq_true_iff.mp (Bool.and_eq_true_iff.mp (Bool.and_eq_true_iff.mp xq).1).1).1).1).1).1).1).1).1).1).2),
    errB_ok ((Bool.and_eq_true_iff.mp (Bool.and_eq_true_iff.mp (Bool.and_eq_true_iff.mp (Bool.and_eq_true_iff.mp (Bool.and_eq_true_iff.mp (Bool.and_eq_true_iff.mp (Bool.and_eq_true_iff.mp (Bool.and_eq_true_iff.mp (Bool.and_eq_true_iff.mp (Bool.and_eq_true_iff.mp xq).1).1).1).1).1).1).1).1).1).2),
    He.eqO_ok ((Bool.and_eq_true_iff.mp (Bool.and_eq_true_iff.mp (Bool.and_eq_true_iff.mp (Bool.and_eq_true_iff.mp (Bool.and_eq_true_iff.mp (Bool.and_eq_true_iff.mp (Bool.and_eq_true_iff.mp (Bool.and_eq_true_iff.mp (Bool.and_eq_true_iff.mp xq).1).1).1).1).1).1).1).1).2),
    He.mkr_ok (c.fact 53 (f := .mkr "Ring") rfl),
    He.glo_ok X G (c.fact 54 (f := .glo "Ring") rfl),
    He.mkr_ok (c.fact 55 (f := .mkr "Network") rfl),
    He.glo_ok X G (c.fact 56 (f := .glo "Network") rfl),
    He.mkr_ok (c.fact 57 (f := .mkr "Faulty") rfl),
    He.glo_ok X G (c.fact 58 (f := .glo "Faulty") rfl),
    He.meth_ok (c.fact 59 (f := .meth "Faulty" "held_states") rfl),
    He.noat_ok (c.fact 60 (f := .noat "Order" "entries") rfl),
    He.cls_ok (c.fact 61 (f := .cls "Order") rfl),
    DX.conB_ok ((Bool.and_eq_true_iff.mp (Bool.and_eq_true_iff.mp (Bool.and_eq_true_iff.mp (Bool.and_eq_true_iff.mp (Bool.and_eq_true_iff.mp (Bool.and_eq_true_iff.mp (Bool.and_eq_true_iff.mp (Bool.and_eq_true_iff.mp xq).1).1).1).1).1).1).1).2) (by decide),
    errB_ok ((Bool.and_eq_true_iff.mp (Bool.and_eq_true_iff.mp (Bool.and_eq_true_iff.mp (Bool.and_eq_true_iff.mp (Bool.and_eq_true_iff.mp (Bool.and_eq_true_iff.mp (Bool.and_eq_true_iff.mp xq).1).1).1).1).1).1).2),
    He.eqO_ok ((Bool.and_eq_true_iff.mp (Bool.and_eq_true_iff.mp (Bool.and_eq_true_iff.mp (Bool.and_eq_true_iff.mp (Bool.and_eq_true_iff.mp (Bool.and_eq_true_iff.mp xq).1).1).1).1).1).2),
    He.glo_ok X G (c.fact 62 (f := .glo "InvalidPosition") rfl),
    He.mkr_ok (c.fact 63 (f := .mkr "Order") rfl),
    He.glo_ok X G (c.fact 64 (f := .glo "Order") rfl),
    He.meth_ok (c.fact 65 (f := .meth "Order" "__add__") rfl),
    ((Bool.and_eq_true_iff.mp (Bool.and_eq_true_iff.mp (Bool.and_eq_true_iff.mp (Bool.and_eq_true_iff.mp (Bool.and_eq_true_iff.mp xq).1).1).1).1).2),
    (cc.pr_ 3 (d := dp_Network_orders) rfl).1,
    (cc.pr_ 4 (d := dp_Ring_orders) rfl).1,
    of_decide_eq_true ((Bool.and_eq_true_iff.mp (Bool.and_eq_true_iff.mp (Bool.and_eq_true_iff.mp (Bool.and_eq_true_iff.mp xq).1).1).1).2),
    (cc.pr_ 1 (d := dp_Faulty_rows) rfl).1,
    (cc.pr_ 2 (d := dp_Order_positions) rfl).1,
    of_decide_eq_true ((Bool.and_eq_true_iff.mp (Bool.and_eq_true_iff.mp (Bool.and_eq_true_iff.mp xq).1).1).2),
    He.free_ok X G (c.fact 66 (f := .free "LookupError") rfl),
    He.free_ok X G (c.fact 67 (f := .free "ValueError") rfl),
    He.free_ok X G (c.fact 68 (f := .free "abs") rfl),
    He.free_ok X G (c.fact 69 (f := .free "all") rfl),
    He.free_ok X G (c.fact 70 (f := .free "bool") rfl),
    He.free_ok X G (c.fact 71 (f := .free "dict") rfl),
    He.free_ok X G (c.fact 72 (f := .free "enumerate") rfl),
    He.free_ok X G (c.fact 73 (f := .free "int") rfl),
    He.free_ok X G (c.fact 74 (f := .free "isinstance") rfl),
    He.free_ok X G (c.fact 75 (f := .free "len") rfl),
    He.free_ok X G (c.fact 76 (f := .free "list") rfl),
    He.free_ok X G (c.fact 77 (f := .free "min") rfl),
    He.free_ok X G (c.fact 78 (f := .free "range") rfl),
    He.free_ok X G (c.fact 79 (f := .free "repr") rfl),
    He.free_ok X G (c.fact 80 (f := .free "set") rfl),
    He.free_ok X G (c.fact 81 (f := .free "str") rfl),
    He.free_ok X G (c.fact 82 (f := .free "super") rfl),
    He.free_ok X G (c.fact 83 (f := .free "tuple") rfl),
    He.str_ok X G (c.fact 84 (f := .str "GENERATE" "G") rfl),
    He.str_ok X G (c.fact 85 (f := .str "KILL" "K") rfl),
    He.int_ok X G (c.fact 86 (f := .int "MOST_CELLS" 150) rfl),
    He.str_ok X G (c.fact 87 (f := .str "PASS" "P") rfl),
    (Bool.and_eq_true_iff.mp (Bool.and_eq_true_iff.mp xq).1).2,
    ⟨_, He.glo_ok X G (c.fact 88 (f := .glo "STATES") rfl), fun F => He.tupB_ok ((Bool.and_eq_true_iff.mp xq).2) F⟩⟩
end My
open PySem PySem.W PySem.Calls PyProof.Rows
set_option maxRecDepth 100000 in
set_option maxHeartbeats 0 in
theorem PySem.Challenge.cw_carryprobe_k59_rows_refused_holds : PySem.Challenge.rw_carryprobe_k59_rows_refused.Holds := by
  w_on; o_law
  refine HandSHeadRun.head_any (r := OpenLaw.row PySem.Challenge.rw_carryprobe_k59_rows_refused) (q := view (OpenLaw.row PySem.Challenge.rw_carryprobe_k59_rows_refused).prog [93]) (H := My.hk) (ob := My.ob) (M := 12000) (loose := My.loose) (d := HandSHeadRun.topDef (OpenLaw.row PySem.Challenge.rw_carryprobe_k59_rows_refused).prog 93) (kwd := []) My.ob_eq
    (by kernel_rfl) (fun s => by kernel_rfl) My.run (by kernel_rfl) (by kernel_rfl) (by kernel_rfl) (by rfl) (by first | assumption | decide +kernel) (by decide +kernel) ⟨rfl, rfl, rfl, rfl, rfl, by decide +kernel⟩ ?hw ?hc
  case hw => w_witness2
  case hc =>
    refine DX.walk_ofT (tn := My.tl.map (·.1)) (l := PySem.Challenge.rw_carryprobe_k59_rows_refused) (k := 20) rfl (by kernel_rfl) ⟨rfl, by decide, by decide⟩ ?G
    intro w mg fa h Y G hmg0
    obtain ⟨K, KX, cc, TK, h1⟩ := Y
    have hmg : mg ("law" : PySem.Str) = some (.ref fa) := by
      have e : (HandSHeadRun.topDef (OpenLaw.row PySem.Challenge.rw_carryprobe_k59_rows_refused).prog 93).name = ("law" : PySem.Str) := by kernel_rfl
      rw [← e]
      exact hmg0
    have T := My.txt KX G cc.says cc.exx cc
    have e := hmg.symm.trans T.m_law
    cases e
    exact ⟨K, _, KX, TK, fun H a ns hl hS hP => (by
      obtain ⟨F, M, ds, o, rd, ns, e, tm, ni, q, k⟩ := My.law_start T.hz hl h1 hS fun x hx => hP _ (List.mem_map_of_mem hx)
      subst e
      exact ⟨F, M, _, o, rd, rfl, rfl, ns, rfl, tm, ni, q, fun _ => rfl⟩), fun base _ _ hTB => My.fx_law_1 ⟨T, fun x hx => hTB _ (List.mem_map_of_mem hx), ⟨by decide +kernel, by decide +kernel⟩⟩⟩

