import PyProof.Rows.All
import Wide.All
import OpenK.AllK
import Wide.FinOn
import HandS.ForMost
import HandS.Walk
import HandS.Flow
import HandS.Defaults
import HandS.Lambda
import HandS.TupAny
import HandS.TupMul
import HandS.Zip
import HandS.Deep
import PyProof.ReprRoads
import PyProof.ReprLen
import HandS.WideBits
import HandS.IsInst
import HandS.Iter
import HandS.Style
import HandS.Conv
import HandS.Text
import HandS.Codes
import HandS.List
import HandS.HeadHook1
import HandS.HeadHook2
import HandS.Dict
import HandS.Star
import HandS.Replace
import HandS.StrMore
import KE.KDictPairs
import PyProof.ListStr
import PyProof.StrBlock2
import PyProof.Rows.StrMul
import PyProof.Rows.StrCase
import HandS.Property
import HandS.ClsMeth
import KE.KIndexOf
import KE.GoesEnum
import PyProof.TupleOfStr
import HandS.TupLe
import KE.KRevSl
import HandS.FStr
import PyProof.NeKinds
import KE.GoesZip
import HandS.SetFor
import HandS.Exc
import HandS.ExcInit
import PyProof.InstNe
import PyProof.InstEq
import KE.KExcInit
import PyProof.ExcBaseAll.LookupError
import PyProof.ExcBaseAll.OverflowError
import HandS.ExcIs
import HandS.ExcField
import KE.KTryMore
import HandS.NoneIn
import HandS.EndTab
import KE.KNestM
import KE.KDictZip
import KE.KTurns
import PyProof.ListNew
import KE.GoesEnumKw
import KE.DataFind
import OpenK.KMore
import PyProof.CollectIter
import PyProof.Walks
import KE.KUnpack
import KE.KxField
import HandS.DictComp
import HandS.Nested
import KE.KSuper
import HandS.GenList
import HandS.OwnEq
import KE.KStateDown
import Lean
import HandS.Head0
import HandS.Head1
import HandS.Head2
import HandS.HeadEnd
import PySem.Challenge.RW_carryprobe_k08_errors_and_their_fields
set_option Elab.async false
set_option linter.all false
set_option maxRecDepth 100000
set_option autoImplicit false
set_option maxHeartbeats 4000000
section
namespace DX
open PySem PySem.Spec L2

inductive D where
  | non | bl (b : Bool) | int (i : Int) | str (x : Str) | adr (a : Addr) | ty (n : String)
  | tup (ds : List D) | lst (ds : List D) | scr (ns : List Int)
  | ins (C : Addr) (fs : List (Str × D))
  | dct (kvs : List (Key × D))
  | stup (ds : List D)
  | exn (C : Addr) (fs : List (Str × D))
  | tbl (q : Str)

/-- at a: an error of the class at C that was caught, its dict at d -/
def exH (a C : Addr) (d : Option Addr) : HO := .ext fun h => ∃ (oe : Obj) (vs : Array Value), h.get? a = some oe ∧ oe.cls = .ref C ∧ oe.dict = d ∧ oe.data = .fields vs

mutual
inductive Rp (K : PySem.W.Frag) (F : Hp) : V → D → Prop
  | non : Rp K F .non .non
  | bl (b : Bool) : Rp K F (.bl b) (.bl b)
  | int (i : Int) : Rp K F (.int i) (.int i)
  | str (x : Str) : Rp K F (.str x) (.str x)
  | adr (a : Addr) : Rp K F (.ref a) (.adr a)
  | ty (n : String) : Rp K F (.ty n) (.ty n)
  | tup {a : Addr} {xs : List V} {ds : List D} : SqT K F a xs → Rps K F xs ds → Rp K F (.ref a) (.tup ds)
  | lst {a : Addr} {xs : List V} {ds : List D} : F a = some (.lst xs) → Rps K F xs ds → Rp K F (.ref a) (.lst ds)
  | scr {a : Addr} {ns : List Int} : SqL K F a (ns.map V.int) → Rp K F (.ref a) (.scr ns)
  | ins {a C dx : Addr} {fs : List (Str × V)} {gs : List (Str × D)} : F a = some (.ins C dx fs) → Rfs K F fs gs → Rp K F (.ref a) (.ins C gs)
  | dct {a : Addr} {kvs : List (Key × V)} {ds : List (Key × D)} : F a = some (.dK kvs) → Rks K F kvs ds → Rp K F (.ref a) (.dct ds)
  | stup {a : Addr} {o : Obj} {xs : List V} {ds : List D} : F a = some (.frz o (.tup xs)) → (o.cls = .type "tuple" ∧ o.dict = none) → Rps K F xs ds → Rp K F (.ref a) (.stup ds)
  | stupK {a : Addr} {o : Obj} : K.lookup a = some o → (o.cls = .type "tuple" ∧ o.dict = none ∧ ∃ n, o.data = .seq #[] n) → Rp K F (.ref a) (.stup [])
  | exn {a C : Addr} {d : Option Addr} {fs : List (Str × V)} {gs : List (Str × D)} : F a = some (exH a C d) → ((d = none ∧ fs = []) ∨ ∃ dd, d = some dd ∧ F dd = some (.xd fs)) → Rfs K F fs gs → Rp K F (.ref a) (.exn C gs)
inductive Rps (K : PySem.W.Frag) (F : Hp) : List V → List D → Prop
  | nil : Rps K F [] []
  | cons {v : V} {d : D} {vs : List V} {ds : List D} : Rp K F v d → Rps K F vs ds → Rps K F (v :: vs) (d :: ds)
inductive Rfs (K : PySem.W.Frag) (F : Hp) : List (Str × V) → List (Str × D) → Prop
  | nil : Rfs K F [] []
  | cons {x : Str} {v : V} {d : D} {vs : List (Str × V)} {ds : List (Str × D)} : Rp K F v d → Rfs K F vs ds → Rfs K F ((x, v) :: vs) ((x, d) :: ds)
inductive Rks (K : PySem.W.Frag) (F : Hp) : List (Key × V) → List (Key × D) → Prop
  | nil : Rks K F [] []
  | cons {x : Key} {v : V} {d : D} {vs : List (Key × V)} {ds : List (Key × D)} : Rp K F v d → Rks K F vs ds → Rks K F ((x, v) :: vs) ((x, d) :: ds)
end

section
variable {K : PySem.W.Frag} {F F' H H' : Hp}
theorem same_rd {a : Addr} {u : HO} (e : Same H H') (h : Rd H a u) : Rd H' a u := by
  rcases h with h | ⟨o, h⟩
  · exact .inl (e _ _ h)
  · exact .inr ⟨o, e _ _ h⟩
theorem same_l {a : Addr} {xs : List V} (e : Same H H') (h : SqL K H a xs) : SqL K H' a xs := by
  rcases h with h | h
  · exact .inl (same_rd e h)
  · exact .inr h
theorem same_t {a : Addr} {xs : List V} (e : Same H H') (h : SqT K H a xs) : SqT K H' a xs := by
  rcases h with h | h
  · exact .inl (same_rd e h)
  · exact .inr h
mutual
theorem Rp.mono (e : Same F F') : ∀ {v : V} {d : D}, Rp K F v d → Rp K F' v d
  | _, _, .non => .non
  | _, _, .bl b => .bl b
  | _, _, .int i => .int i
  | _, _, .str x => .str x
  | _, _, .adr a => .adr a
  | _, _, .ty n => .ty n
  | _, _, .tup h r => .tup (same_t e h) (Rps.mono e r)
  | _, _, .lst h r => .lst (e _ _ h) (Rps.mono e r)
  | _, _, .scr h => .scr (same_l e h)
  | _, _, .ins h r => .ins (e _ _ h) (Rfs.mono e r)
  | _, _, .dct h r => .dct (e _ _ h) (Rks.mono e r)
  | _, _, .stup h c r => .stup (e _ _ h) c (Rps.mono e r)
  | _, _, .stupK h c => .stupK h c
  | _, _, .exn h c r => .exn (e _ _ h) (c.imp id fun ⟨dd, h1, h2⟩ => ⟨dd, h1, e _ _ h2⟩) (Rfs.mono e r)
theorem Rps.mono (e : Same F F') : ∀ {v : List V} {d : List D}, Rps K F v d → Rps K F' v d
  | _, _, .nil => .nil
  | _, _, .cons h r => .cons (Rp.mono e h) (Rps.mono e r)
theorem Rfs.mono (e : Same F F') : ∀ {v : List (Str × V)} {d : List (Str × D)}, Rfs K F v d → Rfs K F' v d
  | _, _, .nil => .nil
  | _, _, .cons h r => .cons (Rp.mono e h) (Rfs.mono e r)
theorem Rks.mono (e : Same F F') : ∀ {v : List (Key × V)} {d : List (Key × D)}, Rks K F v d → Rks K F' v d
  | _, _, .nil => .nil
  | _, _, .cons h r => .cons (Rp.mono e h) (Rks.mono e r)
end
theorem Rps.length : ∀ {v : List V} {d : List D}, Rps K F v d → v.length = d.length
  | _, _, .nil => rfl
  | _, _, .cons _ r => congrArg Nat.succ (Rps.length r)
theorem Rps.append : ∀ {v w : List V} {d e : List D}, Rps K F v d → Rps K F w e → Rps K F (v ++ w) (d ++ e)
  | _, _, _, _, .nil, s => s
  | _, _, _, _, .cons h r, s => .cons h (Rps.append r s)
theorem Rps.get : ∀ {v : List V} {d : List D} {i : Nat} {x : D}, Rps K F v d → d[i]? = some x → ∃ y, v[i]? = some y ∧ Rp K F y x
  | _, _, i, _, .nil, e => by simp at e
  | _, _, 0, _, .cons h _, e => by simp at e; subst e; exact ⟨_, rfl, h⟩
  | _, _, i + 1, x, .cons _ r, e => by
    obtain ⟨y, h1, h2⟩ := Rps.get (i := i) (x := x) r (by simpa using e)
    exact ⟨y, by simpa using h1, h2⟩
theorem Rps.set : ∀ {v : List V} {d : List D} {y : V} {x : D} (i : Nat), Rps K F v d → Rp K F y x → Rps K F (v.set i y) (d.set i x)
  | _, _, _, _, _, .nil, _ => .nil
  | _, _, _, _, 0, .cons _ r, h => .cons h r
  | _, _, _, _, i + 1, .cons h' r, h => .cons h' (Rps.set i r h)
theorem Rps.drop : ∀ {v : List V} {d : List D} (i : Nat), Rps K F v d → Rps K F (v.drop i) (d.drop i)
  | _, _, 0, r => r
  | _, _, _ + 1, .nil => .nil
  | _, _, i + 1, .cons _ r => Rps.drop i r
end

abbrev DEnv := List (Option D)
def look : DEnv → Nat → Option D
  | [], _ => none
  | d :: _, 0 => d
  | _ :: r, n + 1 => look r n
def put : DEnv → Nat → D → DEnv
  | [], _, _ => []
  | _ :: r, 0, d => some d :: r
  | x :: r, n + 1, d => x :: put r n d
inductive En (K : PySem.W.Frag) (F : Hp) : St → DEnv → Prop
  | nil : En K F [] []
  | cons {v : Option V} {d : Option D} {σ : St} {ρ : DEnv} : (∀ x, d = some x → ∃ y, v = some y ∧ Rp K F y x) → En K F σ ρ → En K F (v :: σ) (d :: ρ)
section
variable {K : PySem.W.Frag} {F F' H H' : Hp}
theorem En.mono (e : Same F F') : ∀ {σ : St} {ρ : DEnv}, En K F σ ρ → En K F' σ ρ
  | _, _, .nil => .nil
  | _, _, .cons h r => .cons (fun x q => let ⟨y, a, b⟩ := h x q; ⟨y, a, b.mono e⟩) (En.mono e r)
theorem En.look : ∀ {σ : St} {ρ : DEnv} {i : Nat} {d : D}, En K F σ ρ → DX.look ρ i = some d → ∃ y, σ[i]? = some (some y) ∧ Rp K F y d
  | _, _, i, _, .nil, e => by simp [DX.look] at e
  | _, _, 0, d, .cons h r, e => by
    obtain ⟨y, a, b⟩ := h d e
    exact ⟨y, by rw [a]; rfl, b⟩
  | _, _, i + 1, d, .cons h r, e => by
    obtain ⟨y, a, b⟩ := En.look (i := i) r e
    exact ⟨y, by simpa using a, b⟩
theorem En.put : ∀ {σ : St} {ρ : DEnv} {y : V} {d : D} (i : Nat), En K F σ ρ → Rp K F y d → En K F (σ.set i (some y)) (DX.put ρ i d)
  | _, _, _, _, _, .nil, _ => .nil
  | _, _, y, d, 0, .cons _ r, h => .cons (fun x q => ⟨y, rfl, by cases q; exact h⟩) r
  | _, _, _, _, i + 1, .cons h' r, h => .cons h' (En.put i r h)
end

abbrev Mem := Addr → Option D
def up (M : Mem) (a : Addr) (d : D) : Mem := fun b => if b = a then some d else M b
def rm (M : Mem) (a : Addr) : Mem := fun b => if b = a then none else M b
theorem up_same {M : Mem} {a : Addr} {d : D} : up M a d a = some d := if_pos rfl
theorem up_ne {M : Mem} {a b : Addr} {d : D} (h : b ≠ a) : up M a d b = M b := if_neg h
def Mt (K : PySem.W.Frag) (F H : Hp) (a : Addr) : D → Prop
  | .lst ds => ∃ xs, H a = some (.lst xs) ∧ Rps K F xs ds
  | .ins C gs => ∃ dx fs, H a = some (.ins C dx fs) ∧ Rfs K F fs gs
  | .dct ds => ∃ kvs, H a = some (.dK kvs) ∧ Rks K F kvs ds
  | .tbl q => ∃ ps : Array Value, H a = some (.tbl ps) ∧ TriplesOk ps.toList ∧ ∀ (pos : Pos) (cv : Value), codeAmong pos ps.toList = some cv → ∃ c, cv = .ref c ∧ F c = some (LamX.CodeO c q)
  | _ => False
structure Ok (K : PySem.W.Frag) (F : Hp) (M : Mem) (H : Hp) : Prop where
  ex : Same F H
  mt : ∀ a d, M a = some d → F a = none ∧ Mt K F H a d
section
variable {K : PySem.W.Frag} {F F' H H' : Hp} {M : Mem}
theorem Mt.there {a : Addr} {d : D} (m : Mt K F H a d) : ∃ o, H a = some o := by
  cases d <;> first
    | exact m.elim
    | (obtain ⟨_, h, _⟩ := m; exact ⟨_, h⟩)
    | (obtain ⟨_, _, h, _⟩ := m; exact ⟨_, h⟩)
theorem Mt.mono {a : Addr} {d : D} (e : Same F F') (h : H' a = H a) (m : Mt K F H a d) : Mt K F' H' a d := by
  cases d <;> first
    | exact m.elim
    | (obtain ⟨xs, p, r⟩ := m; exact ⟨xs, by rw [h]; exact p, r.mono e⟩)
    | (obtain ⟨dx, fs, p, r⟩ := m; exact ⟨dx, fs, by rw [h]; exact p, r.mono e⟩)
    | (obtain ⟨ps, p, t, r⟩ := m; exact ⟨ps, by rw [h]; exact p, t, fun pos cv z => let ⟨c, h1, h2⟩ := r pos cv z; ⟨c, h1, e _ _ h2⟩⟩)
theorem same_new {a : Addr} {o : HO} (h : H a = none) : Same H (upd H a o) := fun b u e => by
  rw [upd_ne (ne_of_none e h)]
  exact e
/-- it changes -/
theorem Ok.set (k : Ok K F M H) {a : Addr} {o : HO} {d d' : D} (h : M a = some d) (m : Mt K F (upd H a o) a d') : Ok K F (up M a d') (upd H a o) := by
  have h1 := (k.mt a d h).1
  refine ⟨fun b u e => ?_, fun b d' e => ?_⟩
  · rw [upd_ne (ne_of_none e h1)]
    exact k.ex b u e
  · by_cases hb : b = a
    · subst hb
      rw [up_same] at e; cases e
      exact ⟨h1, m⟩
    · rw [up_ne hb] at e
      obtain ⟨m1, m2⟩ := k.mt b d' e
      exact ⟨m1, m2.mono (Same.refl F) (upd_ne hb)⟩
/-- it is not to change any more -/
theorem Ok.freeze (k : Ok K F M H) {a : Addr} {o : HO} {d : D} (h : M a = some d) (ho : H a = some o) : Same F (upd F a o) ∧ Ok K (upd F a o) (rm M a) H := by
  have h1 := (k.mt a d h).1
  refine ⟨same_new h1, fun b u e => ?_, fun b d' e => ?_⟩
  · by_cases hb : b = a
    · subst hb; rw [upd_same] at e; cases e; exact ho
    · rw [upd_ne hb] at e; exact k.ex b u e
  · unfold rm at e
    by_cases hb : b = a
    · rw [if_pos hb] at e; cases e
    · rw [if_neg hb] at e
      obtain ⟨m1, m2⟩ := k.mt b d' e
      exact ⟨by rw [upd_ne hb]; exact m1, m2.mono (same_new h1) rfl⟩
end

/-- what stays known, whatever is added -/
structure Gh where
  p : Hp → Prop
  mono : ∀ F F', Same F F' → p F → p F'
structure Sts (K : PySem.W.Frag) (J : Gh) (F : Hp) (σ : St) (H : Hp) (ρ : DEnv) (M : Mem) : Prop where
  en : En K F σ ρ
  ok : Ok K F M H
  gh : J.p F
def Kt (K : PySem.W.Frag) (F : Hp) (P : D → Mem → Prop) (Q : VK) : Prop := ∀ d v M' F' H', P d M' → Same F F' → Ok K F' M' H' → Rp K F' v d → Q v H'
def Kb (K : PySem.W.Frag) (F : Hp) (P : Bool → Mem → Prop) (Q : Bool → Hp → Prop) : Prop := ∀ b M' F' H', P b M' → Same F F' → Ok K F' M' H' → Q b H'
def Ka (K : PySem.W.Frag) (F : Hp) (P : List D → Mem → Prop) (Q : List V → Hp → Prop) : Prop := ∀ ds vs M' F' H', P ds M' → Same F F' → Ok K F' M' H' → Rps K F' vs ds → Q vs H'
def tD (K : PySem.W.Frag) (J : Gh) (ρ : DEnv) (M : Mem) (P : D → Mem → Prop) : TE := fun σ H Q => ∃ F, Sts K J F σ H ρ M ∧ Kt K F P Q
def tT (K : PySem.W.Frag) (J : Gh) (ρ : DEnv) (M : Mem) (P : Bool → Mem → Prop) : TT := fun σ H Q => ∃ F, Sts K J F σ H ρ M ∧ Kb K F P Q
def tA (K : PySem.W.Frag) (J : Gh) (ρ : DEnv) (M : Mem) (P : List D → Mem → Prop) : TA := fun σ H Q => ∃ F, Sts K J F σ H ρ M ∧ Ka K F P Q
def EX (X : Cx) (J : Gh) (e : Expr) (ρ : DEnv) (M : Mem) (P : D → Mem → Prop) : Prop := PE X e (tD X.K J ρ M P)
def TX (X : Cx) (J : Gh) (e : Expr) (ρ : DEnv) (M : Mem) (P : Bool → Mem → Prop) : Prop := PT X e (tT X.K J ρ M P)
def WX (X : Cx) (J : Gh) (e : Expr) (ρ : DEnv) (M : Mem) (P : Bool → Mem → Prop) : Prop := PW X e (tT X.K J ρ M P)
def AX (X : Cx) (J : Gh) (es : List Expr) (ρ : DEnv) (M : Mem) (P : List D → Mem → Prop) : Prop := PA X es (tA X.K J ρ M P)
/-- the reading that any derivation may fill -/
def tE (X : Cx) (e : Expr) : TE := fun σ H Q => ∃ t, PE X e t ∧ t σ H Q
def tTe (X : Cx) (e : Expr) : TT := fun σ H Q => ∃ t, PT X e t ∧ t σ H Q
def tWe (X : Cx) (e : Expr) : TT := fun σ H Q => ∃ t, PW X e t ∧ t σ H Q
def tAe (X : Cx) (es : List Expr) : TA := fun σ H Q => ∃ t, PA X es t ∧ t σ H Q
section
variable {X : Cx} {J : Gh} {e : Expr} {es : List Expr} {ρ : DEnv} {M M' : Mem} {F F' H H' : Hp} {σ : St} {P : D → Mem → Prop} {K : PySem.W.Frag}
theorem Sts.to (s : Sts K J F σ H ρ M) (e : Same F F') (o : Ok K F' M' H') : Sts K J F' σ H' ρ M' := ⟨s.en.mono e, o, J.mono _ _ e s.gh⟩
theorem Kt.to {Q : VK} (k : Kt K F P Q) (e : Same F F') : Kt K F' P Q := fun d v M' F2 H' p e2 => k d v M' F2 H' p (e.trans e2)
theorem Kb.to {P : Bool → Mem → Prop} {Q : Bool → Hp → Prop} (k : Kb K F P Q) (e : Same F F') : Kb K F' P Q := fun b M' F2 H' p e2 => k b M' F2 H' p (e.trans e2)
theorem Ka.to {P : List D → Mem → Prop} {Q : List V → Hp → Prop} (k : Ka K F P Q) (e : Same F F') : Ka K F' P Q := fun b vs M' F2 H' p e2 => k b vs M' F2 H' p (e.trans e2)
theorem EX.go (h : EX X J e ρ M P) (s : Sts X.K J F σ H ρ M) {Q : VK} (k : Kt X.K F P Q) : tE X e σ H Q := ⟨_, h, F, s, k⟩
theorem TX.go {P : Bool → Mem → Prop} (h : TX X J e ρ M P) (s : Sts X.K J F σ H ρ M) {Q : Bool → Hp → Prop} (k : Kb X.K F P Q) : tTe X e σ H Q := ⟨_, h, F, s, k⟩
theorem WX.go {P : Bool → Mem → Prop} (h : WX X J e ρ M P) (s : Sts X.K J F σ H ρ M) {Q : Bool → Hp → Prop} (k : Kb X.K F P Q) : tWe X e σ H Q := ⟨_, h, F, s, k⟩
theorem AX.go {P : List D → Mem → Prop} (h : AX X J es ρ M P) (s : Sts X.K J F σ H ρ M) {Q : List V → Hp → Prop} (k : Ka X.K F P Q) : tAe X es σ H Q := ⟨_, h, F, s, k⟩
theorem ex_of {t : TE} (h : PE X e t) (k : ∀ F σ H Q, Sts X.K J F σ H ρ M → Kt X.K F P Q → t σ H Q) : EX X J e ρ M P := ⟨fun pins s σ H Q I ⟨F, st, q⟩ => h.run pins s σ H Q I (k F σ H Q st q)⟩
theorem tx_of {t : TT} {P : Bool → Mem → Prop} (h : PT X e t) (k : ∀ F σ H Q, Sts X.K J F σ H ρ M → Kb X.K F P Q → t σ H Q) : TX X J e ρ M P := ⟨fun pins s σ H Q I ⟨F, st, q⟩ => h.run pins s σ H Q I (k F σ H Q st q)⟩
theorem ax_of {t : TA} {P : List D → Mem → Prop} (h : PA X es t) (k : ∀ F σ H Q, Sts X.K J F σ H ρ M → Ka X.K F P Q → t σ H Q) : AX X J es ρ M P := ⟨fun pos pins s σ H Q I ⟨F, st, q⟩ => h.run pos pins s σ H Q I (k F σ H Q st q)⟩
theorem EX.imp {P' : D → Mem → Prop} (h : EX X J e ρ M P) (k : ∀ d M', P d M' → P' d M') : EX X J e ρ M P' := ex_of h fun F σ H Q st q => ⟨F, st, fun d v M' F' H' p => q d v M' F' H' (k d M' p)⟩
theorem TX.imp {P P' : Bool → Mem → Prop} (h : TX X J e ρ M P) (k : ∀ d M', P d M' → P' d M') : TX X J e ρ M P' := tx_of h fun F σ H Q st q => ⟨F, st, fun d M' F' H' p => q d M' F' H' (k d M' p)⟩
/-- the value as it is, nothing changed -/
theorem Kt.here {Q : VK} {d : D} {v : V} (k : Kt K F P Q) (p : P d M) (o : Ok K F M H) (r : Rp K F v d) : Q v H := k d v M F H p (Same.refl F) o r
theorem Kb.here {P : Bool → Mem → Prop} {Q : Bool → Hp → Prop} {b : Bool} (k : Kb K F P Q) (p : P b M) (o : Ok K F M H) : Q b H := k b M F H p (Same.refl F) o
end
end DX
namespace DX
open PySem PySem.Spec L2

section
variable {X : Cx} {J : Gh} {e a b c : Expr} {es : List Expr} {ρ : DEnv} {M M' : Mem} {F F' H H' : Hp} {σ : St} {P : D → Mem → Prop} {PB : Bool → Mem → Prop} {PA' : List D → Mem → Prop} {K : PySem.W.Frag} {pos : Pos} {x : Str}

def rAnyO (X : Cx) (f : Value → Value → Sem Value) : R2 := fun v u H Q => ∃ r, OpR X f r ∧ r v u H Q
/-- f at the data x, y: what comes -/
def OD (X : Cx) (f : Value → Value → Sem Value) (x y : D) (M : Mem) (P : D → Mem → Prop) : Prop :=
  ∃ r, OpR X f r ∧ ∀ F H v u Q, Ok X.K F M H → Rp X.K F v x → Rp X.K F u y → Kt X.K F P Q → r v u H Q
theorem OD.go {f : Value → Value → Sem Value} {x y : D} (h : OD X f x y M P) {v u : V} {Q : VK} (o : Ok X.K F M H) (rx : Rp X.K F v x) (ry : Rp X.K F u y) (k : Kt X.K F P Q) : rAnyO X f v u H Q := by
  obtain ⟨r, h1, h2⟩ := h
  exact ⟨r, h1, h2 F H v u Q o rx ry k⟩
variable {i j : Int}
inductive Sq (M : Mem) : D → List D → Prop
  | lst {ds : List D} : Sq M (.lst ds) ds
  | tup {ds : List D} : Sq M (.tup ds) ds
  | adr {p : Addr} {ds : List D} : M p = some (.lst ds) → Sq M (.adr p) ds
inductive Sl (M : Mem) : D → List D → Prop
  | lst {ds : List D} : Sl M (.lst ds) ds
  | adr {p : Addr} {ds : List D} : M p = some (.lst ds) → Sl M (.adr p) ds
theorem Sl.get {d : D} {ds : List D} {v : V} (s : Sl M d ds) (o : Ok K F M H) (r : Rp K F v d) : ∃ p xs, v = .ref p ∧ H p = some (.lst xs) ∧ Rps K F xs ds := by
  cases s with
  | lst =>
    cases r with
    | lst h r => exact ⟨_, _, rfl, o.ex _ _ h, r⟩
  | adr h =>
    cases r
    obtain ⟨_, xs, h1, h2⟩ := o.mt _ _ h
    exact ⟨_, xs, rfl, h1, h2⟩
theorem Sq.get {d : D} {ds : List D} {v : V} (s : Sq M d ds) (o : Ok K F M H) (r : Rp K F v d) : ∃ p xs, v = .ref p ∧ (SqL K H p xs ∨ SqT K H p xs) ∧ Rps K F xs ds := by
  cases s with
  | lst =>
    cases r with
    | lst h r => exact ⟨_, _, rfl, .inl (SqL.of (o.ex _ _ h)), r⟩
  | tup =>
    cases r with
    | tup h r => exact ⟨_, _, rfl, .inr (same_t o.ex h), r⟩
  | adr h =>
    cases r
    obtain ⟨_, xs, h1, h2⟩ := o.mt _ _ h
    exact ⟨_, xs, rfl, .inl (SqL.of h1), h2⟩
theorem Sl.sq {d : D} {ds : List D} (s : Sl M d ds) : Sq M d ds := by
  cases s with
  | lst => exact .lst
  | adr h => exact .adr h
end
end DX
namespace DX
open PySem PySem.Spec L2

structure Bd where
  nx : DEnv → Mem → Prop
  rt : D → Mem → Prop
  bk : DEnv → Mem → Prop := fun _ _ => False
  ct : DEnv → Mem → Prop := fun _ _ => False
structure Kd (K : PySem.W.Frag) (F : Hp) (B : Bd) (E : Ends) : Prop where
  nx : ∀ F' σ' H' ρ' M', B.nx ρ' M' → Same F F' → En K F' σ' ρ' → Ok K F' M' H' → E.nx σ' H'
  rt : Kt K F B.rt E.rt
  bk : ∀ F' σ' H' ρ' M', B.bk ρ' M' → Same F F' → En K F' σ' ρ' → Ok K F' M' H' → E.bk σ' H'
  ct : ∀ F' σ' H' ρ' M', B.ct ρ' M' → Same F F' → En K F' σ' ρ' → Ok K F' M' H' → E.ct σ' H'
def tSd (K : PySem.W.Frag) (J : Gh) (ρ : DEnv) (M : Mem) (B : Bd) : TS := fun E σ H => ∃ F, Sts K J F σ H ρ M ∧ Kd K F B E
def GX (X : Cx) (J : Gh) (st : List Stmt) (ρ : DEnv) (M : Mem) (B : Bd) : Prop := PSs X st (tSd X.K J ρ M B)
def G1 (X : Cx) (J : Gh) (st : Stmt) (ρ : DEnv) (M : Mem) (B : Bd) : Prop := PS X st (tSd X.K J ρ M B)
def tSe (X : Cx) (st : List Stmt) : TS := fun E σ H => ∃ t, PSs X st t ∧ t E σ H
def tS1 (X : Cx) (st : Stmt) : TS := fun E σ H => ∃ t, PS X st t ∧ t E σ H
section
variable {X : Cx} {J : Gh} {e a b c : Expr} {es : List Expr} {st : Stmt} {rest sts : List Stmt} {ρ ρ' : DEnv} {M M' : Mem} {F F' H H' : Hp} {σ : St} {B : Bd} {K : PySem.W.Frag} {pos p : Pos} {x : Str} {E : Ends}
theorem Kd.to (k : Kd K F B E) (e : Same F F') : Kd K F' B E :=
  ⟨fun F2 σ' H' ρ' M' p e2 => k.nx F2 σ' H' ρ' M' p (e.trans e2), k.rt.to e, fun F2 σ' H' ρ' M' p e2 => k.bk F2 σ' H' ρ' M' p (e.trans e2), fun F2 σ' H' ρ' M' p e2 => k.ct F2 σ' H' ρ' M' p (e.trans e2)⟩
theorem GX.go (h : GX X J sts ρ M B) (s : Sts X.K J F σ H ρ M) (k : Kd X.K F B E) : tSe X sts E σ H := ⟨_, h, F, s, k⟩
theorem G1.go (h : G1 X J st ρ M B) (s : Sts X.K J F σ H ρ M) (k : Kd X.K F B E) : tS1 X st E σ H := ⟨_, h, F, s, k⟩
theorem gx_of {t : TS} (h : PSs X sts t) (k : ∀ F σ H E, Sts X.K J F σ H ρ M → Kd X.K F B E → t E σ H) : GX X J sts ρ M B := ⟨fun pins s σ H D I ⟨F, st, q⟩ => h.run pins s σ H D I (k F σ H D st q)⟩
theorem GX.imp {B' : Bd} (h : GX X J sts ρ M B) (h1 : ∀ ρ' M', B.nx ρ' M' → B'.nx ρ' M') (h2 : ∀ d M', B.rt d M' → B'.rt d M') (h3 : ∀ ρ' M', B.bk ρ' M' → B'.bk ρ' M') (h4 : ∀ ρ' M', B.ct ρ' M' → B'.ct ρ' M') : GX X J sts ρ M B' :=
  gx_of h fun F σ H E st k => ⟨F, st, fun F' σ' H' ρ' M' q => k.nx F' σ' H' ρ' M' (h1 _ _ q), fun d v M' F' H' q => k.rt d v M' F' H' (h2 _ _ q), fun F' σ' H' ρ' M' q => k.bk F' σ' H' ρ' M' (h3 _ _ q), fun F' σ' H' ρ' M' q => k.ct F' σ' H' ρ' M' (h4 _ _ q)⟩
structure Wk (K : PySem.W.Frag) (F : Hp) (I : It) (ds : List D) : Prop where
  goes : ∀ i H, i < ds.length → Same F H → I.go i H
  stops : ∀ H, Same F H → I.stop ds.length H
  yields : ∀ i d H x H' F1 M, ds[i]? = some d → Same F F1 → Ok K F1 M H → I.yld i H x H' → ∃ F2, Same F1 F2 ∧ Ok K F2 M H' ∧ Rp K F2 x d
theorem Wk.mono {I : It} {ds : List D} (w : Wk K F I ds) (e : Same F F') : Wk K F' I ds :=
  ⟨fun i H hi s => w.goes i H hi (e.trans s), fun H s => w.stops H (e.trans s), fun i d H x H' F1 M hd s => w.yields i d H x H' F1 M hd (e.trans s)⟩
def Ki (K : PySem.W.Frag) (F : Hp) (P : List D → Mem → Prop) (R : It → Hp → Prop) : Prop := ∀ ds I M' F' H', P ds M' → Same F F' → Ok K F' M' H' → Wk K F' I ds → R I H'
/-- what a loop walks -/
def IX (X : Cx) (J : Gh) (tg iter : Expr) (ρ : DEnv) (M : Mem) (P : List D → Mem → Prop) : Prop := PI X tg iter fun σ H R => ∃ F, Sts X.K J F σ H ρ M ∧ Ki X.K F P R
def tIe (X : Cx) (tg iter : Expr) : TI := fun σ H R => ∃ t, PI X tg iter t ∧ t σ H R
theorem IX.go {tg iter : Expr} {P : List D → Mem → Prop} (h : IX X J tg iter ρ M P) (s : Sts X.K J F σ H ρ M) {R : It → Hp → Prop} (k : Ki X.K F P R) : tIe X tg iter σ H R := ⟨_, h, F, s, k⟩
end
end DX
namespace DX
open PySem PySem.Spec L2

section
variable {X : Cx} {J : Gh} {e a b c : Expr} {es : List Expr} {st : Stmt} {rest sts : List Stmt} {ρ ρ' : DEnv} {M M' : Mem} {F F' H H' : Hp} {σ : St} {B : Bd} {K : PySem.W.Frag} {pos p apos : Pos} {x : Str} {P : D → Mem → Prop}

variable {scope : Scope} {tg iter elt : Expr} {ifs : List Expr}
abbrev Tr := List D → Mem → (D → Mem → Prop) → Prop
end
end DX
namespace DX
open PySem PySem.Spec L2

structure FnG (pg : Program) (w : World) (K : PySem.W.Frag) (mg : Str → Option Value) (base : Heap) (k : Nat) (f : Addr) (fd : FuncData) (ps : List Str) (T : Tr) : Prop where
  len : ∀ ds M P, T ds M P → ds.length = ps.length
  go : ∀ (A : Around) (outer : List PySem.Env) (s : Shared) (H F : Hp) (M : Mem) (ds : List D) (P : D → Mem → Prop) (args : Args) (us : List Value) (vs : List V) (Q : VK), A.guards = some [] → Room k A → Env0 pg w K mg base A outer s H →
    BindsTo s fd args (ps.zip us) → Vals vs us → Ok K F M H → Rps K F vs ds → T ds M P → Kt K F P Q → codeAny (model pg w) A (.call (.ref f) args) (CR CX0 outer pg w H s Q E0) s
theorem FnG.mono {pg : Program} {w : World} {K : PySem.W.Frag} {mg : Str → Option Value} {base : Heap} {j k : Nat} {f : Addr} {fd : FuncData} {ps : List Str} {T : Tr} (G : FnG pg w K mg base j f fd ps T) (h : j ≤ k) : FnG pg w K mg base k f fd ps T :=
  ⟨G.len, fun A outer s H F M ds P args us vs Q g hr => G.go A outer s H F M ds P args us vs Q g (hr.mono h)⟩
end DX
namespace DX
open PySem PySem.Spec L2

section
variable {X : Cx} {J : Gh} {e a b c o : Expr} {es : List Expr} {ρ ρ' : DEnv} {M M' : Mem} {F F' H H' : Hp} {σ : St} {B : Bd} {K : PySem.W.Frag} {pos p apos cpos : Pos} {x : Str} {P : D → Mem → Prop}
def KX (X : Cx) (J : Gh) (kws : List Keyword) (ρ : DEnv) (M : Mem) (P : List D → Mem → Prop) : Prop := PK X kws (tA X.K J ρ M P)
def tKe (X : Cx) (kws : List Keyword) : TA := fun σ H Q => ∃ t, PK X kws t ∧ t σ H Q
theorem KX.go {kws : List Keyword} {P : List D → Mem → Prop} (h : KX X J kws ρ M P) (s : Sts X.K J F σ H ρ M) {Q : List V → Hp → Prop} (k : Ka X.K F P Q) : tKe X kws σ H Q := ⟨_, h, F, s, k⟩
end
end DX
namespace DX
open PySem PySem.Spec L2
structure Hs where
  cells : List Int
  at_ : Int
  gr : Int
structure HOk (s : Hs) (n : Int) : Prop where
  a0 : 0 ≤ s.at_
  an : s.at_ ≤ n
  g0 : 0 ≤ s.gr
theorem HOk.mono {s : Hs} {n m : Int} (h : HOk s n) (l : n ≤ m) : HOk s m := ⟨h.a0, by have := h.an; omega, h.g0⟩
end DX
namespace DX
open PySem PySem.Spec L2
def kn : D → String
  | .bl _ => "bool"
  | .int _ => "int"
  | .str _ => "str"
  | .tup _ => "tuple"
  | .lst _ => "list"
  | .dct _ => "dict"
  | _ => "NoneType"
def plain : D → Bool
  | .adr _ => false
  | .ty _ => false
  | .scr _ => false
  | .ins _ _ => false
  | .stup _ => false
  | .exn _ _ => false
  | _ => true
theorem kn_mem (d : D) : kn d ∈ ["NoneType", "bool", "int", "str", "tuple", "list", "dict"] := by
  cases d <;> simp [kn]
section
variable {X : Cx} {J : Gh} {e a b c o : Expr} {es : List Expr} {st : Stmt} {ρ ρ' : DEnv} {M M' : Mem} {F F' H H' : Hp} {σ : St} {B : Bd} {K : PySem.W.Frag} {pos p apos cpos : Pos} {x : Str} {P : D → Mem → Prop}
theorem ty_of {d : D} {v : V} (h : plain d = true) (hs : Same F H) (r : Rp K F v d) : TyX K H v (.type (kn d)) := by
  cases r with
  | non => exact .base .non
  | bl b => exact .base (.bl b)
  | int i => exact .base (.int i)
  | str x => exact .base (.str x)
  | lst h1 r => exact .base (.lst (hs _ _ h1))
  | tup h1 r =>
    rcases h1 with (h1 | ⟨o, h1⟩) | ⟨o, its, n, h1, h2, _⟩
    · exact .base (.tup (hs _ _ h1))
    · exact .fTuple (hs _ _ h1)
    · exact .kTuple h1 h2
  | dct h1 r => exact .base (.dK (hs _ _ h1))
  | adr a => cases h
  | ty n => cases h
  | scr h1 => cases h
  | exn h1 c r => cases h
  | ins h1 r => cases h
  | stup h1 c r => cases h
  | stupK h1 c => cases h
end
end DX
namespace DX
open PySem PySem.Spec L2
open SX
section
variable {X : Cx} {J : Gh} {M : Mem} {P : D → Mem → Prop}
def acc (f : Nat → Int) : Nat → Int
  | 0 => 0
  | i + 1 => acc f i + 2 ^ i * f i
end
end DX
namespace DX
open PySem PySem.Spec L2 PyProof.Rows StX

/-- t looks names up in the dict at D, one behind another, and ends in what fin says -/
def KwChainE {α : Type} (D : Addr) (fin : Sem α → Prop) : List (Str × Value) → Sem α → Prop
  | [], t => fin t
  | q :: l, t => ∃ (β γ : Type) (k1 : Option Value → Sem β) (k2 : β → Sem γ) (k3 : γ → Sem α) (a : β), t = ((nsGet D q.1 >>= k1) >>= k2) >>= k3 ∧ k1 (some q.2) = pure a ∧ KwChainE D fin l (k2 a >>= k3)
theorem KwChainE.run {α : Type} {K : PySem.W.Frag} {M : Model} {A : Around} {s : Shared} {D : Addr} {fin : Sem α → Prop} {Q : α → Shared → Prop} {E : Value → Shared → Prop} (X : K.In s.heap) (hf : ∀ t, fin t → wpAny M A t Q E s) :
    ∀ {l : List (Str × Value)} {t : Sem α}, (∀ q ∈ l, PySem.W.nsIn K D q.1 = some (some q.2)) → KwChainE D fin l t → wpAny M A t Q E s
  | [], t, _, e => hf t e
  | q :: l, t, hl, e => by
    obtain ⟨β, γ, k1, k2, k3, a, e1, e2, e3⟩ := e
    have l1 : PySem.W.Looks M s.heap (nsGet D q.1 >>= k1) a := (PySem.W.looks_nsIn X (hl q (List.mem_cons_self ..))).andThen (PySem.W.Looks.of_pure e2)
    rw [e1, bind_assoc]
    exact wpAny_bind (l1.here (KwChainE.run X hf (fun p hp => hl p (List.mem_cons_of_mem _ hp)) e3))
section
variable {pg : Program} {w : World} {K : PySem.W.Frag} {mg : Str → Option Value} {base : Heap} {x qual : Str} {params : Arguments} {body : List Stmt} {scope : Scope} {kws : List (Str × V)} {f : Addr} {fd : FuncData} {N pn : List Str} {pv : Str} {k : Nat} {T : Tr} {gd : Bool}
theorem Rps.split {F : Hp} : ∀ {vs : List V} {d1 d2 : List D}, Rps K F vs (d1 ++ d2) → ∃ v1 v2, vs = v1 ++ v2 ∧ Rps K F v1 d1 ∧ Rps K F v2 d2
  | vs, [], d2, h => ⟨[], vs, rfl, .nil, h⟩
  | _, d :: d1, d2, h => by
    cases h with
    | cons a r =>
      obtain ⟨v1, v2, e, r1, r2⟩ := Rps.split r
      exact ⟨_ :: v1, v2, by rw [e]; rfl, .cons a r1, r2⟩
end

section
variable {X : Cx} {J : Gh} {e a b c o : Expr} {es : List Expr} {ρ ρ' : DEnv} {M M' : Mem} {F F' H H' : Hp} {σ : L2.St} {B : Bd} {K : PySem.W.Frag} {pos p apos cpos : Pos} {x : Str} {P : D → Mem → Prop}
def valD (kvs : List (Key × D)) (k : Key) : Option D := (kvs.find? fun kv => decide (kv.1 = k)).map (·.2)
def putD (kvs : List (Key × D)) (k : Key) (v : D) : List (Key × D) :=
  if (kvs.any fun kv => decide (kv.1 = k)) = true then kvs.map (fun kv => if kv.1 = k then (kv.1, v) else kv) else kvs ++ [(k, v)]
theorem Rks.get {k : Key} : ∀ {vs : List (Key × V)} {ds : List (Key × D)}, Rks K F vs ds → (valV vs k = none ∧ valD ds k = none) ∨ ∃ v d, valV vs k = some v ∧ valD ds k = some d ∧ Rp K F v d
  | _, _, .nil => .inl ⟨rfl, rfl⟩
  | _, _, .cons (x := y) h r => by
    by_cases e : y = k
    · exact .inr ⟨_, _, valV_pos e, by simp [valD, List.find?_cons, e], h⟩
    · rcases Rks.get (k := k) r with ⟨h1, h2⟩ | ⟨v, d, h1, h2, h3⟩
      · exact .inl ⟨by rw [valV_neg e]; exact h1, by simpa [valD, List.find?_cons, e] using h2⟩
      · exact .inr ⟨v, d, by rw [valV_neg e]; exact h1, by simpa [valD, List.find?_cons, e] using h2, h3⟩
theorem Rks.any {k : Key} : ∀ {vs : List (Key × V)} {ds : List (Key × D)}, Rks K F vs ds → (vs.any fun kv => decide (kv.1 = k)) = ds.any fun kv => decide (kv.1 = k)
  | _, _, .nil => rfl
  | _, _, .cons h r => by rw [List.any_cons, List.any_cons, Rks.any r]
theorem Rks.over {k : Key} {v : V} {d : D} (h : Rp K F v d) : ∀ {vs : List (Key × V)} {ds : List (Key × D)}, Rks K F vs ds → Rks K F (vs.map fun kv => if kv.1 = k then (kv.1, v) else kv) (ds.map fun kv => if kv.1 = k then (kv.1, d) else kv)
  | _, _, .nil => .nil
  | _, _, .cons (x := y) h' r => by
    rw [List.map_cons, List.map_cons]
    by_cases e : y = k
    · rw [if_pos e, if_pos e]; exact .cons h (Rks.over h r)
    · rw [if_neg e, if_neg e]; exact .cons h' (Rks.over h r)
theorem Rks.append : ∀ {v w : List (Key × V)} {d e : List (Key × D)}, Rks K F v d → Rks K F w e → Rks K F (v ++ w) (d ++ e)
  | _, _, _, _, .nil, s => s
  | _, _, _, _, .cons h r, s => .cons h (Rks.append r s)
theorem Rks.put {k : Key} {v : V} {d : D} {vs : List (Key × V)} {ds : List (Key × D)} (h : Rp K F v d) (r : Rks K F vs ds) : Rks K F (putK vs k v) (putD ds k d) := by
  unfold putK putD
  rw [r.any]
  split
  · exact r.over h
  · exact r.append (.cons h .nil)
end
end DX
namespace DX
open PySem PySem.Spec L2
/-- sys.modules' place holds a dict: read off the written part -/
def sysB (K : PySem.W.Frag) : Bool := match K.lookup sysModules with
  | some o => decide (o.cls = .type "dict")
  | none => false
end DX
namespace DX
open PySem PySem.Spec L2 StX PyProof.Rows
inductive Is (M : Mem) : D → Addr → List (Str × D) → Prop
  | frz {C : Addr} {gs : List (Str × D)} : Is M (.ins C gs) C gs
  | adr {p C : Addr} {gs : List (Str × D)} : M p = some (.ins C gs) → Is M (.adr p) C gs
section
variable {K : PySem.W.Frag} {F H : Hp} {M : Mem}
theorem Is.get {d : D} {C : Addr} {gs : List (Str × D)} {v : V} (s : Is M d C gs) (o : Ok K F M H) (r : Rp K F v d) : ∃ a dx fs, v = .ref a ∧ H a = some (.ins C dx fs) ∧ Rfs K F fs gs := by
  cases s with
  | frz =>
    cases r with
    | ins h r => exact ⟨_, _, _, rfl, o.ex _ _ h, r⟩
  | adr h =>
    cases r
    obtain ⟨_, dx, fs, h1, h2⟩ := o.mt _ _ h
    exact ⟨_, dx, fs, rfl, h1, h2⟩
theorem Rfs.look {f : Str} : ∀ {fs : List (Str × V)} {gs : List (Str × D)}, Rfs K F fs gs → (fs.lookup f = none ∧ gs.lookup f = none) ∨ ∃ v d, fs.lookup f = some v ∧ gs.lookup f = some d ∧ Rp K F v d
  | _, _, .nil => .inl ⟨rfl, rfl⟩
  | _, _, .cons (x := x) h r => by
    by_cases e : f = x
    · subst e; exact .inr ⟨_, _, by simp [List.lookup], by simp [List.lookup], h⟩
    · have e2 : (f == x) = false := by simpa using e
      rcases Rfs.look (f := f) r with ⟨h1, h2⟩ | ⟨v, d, h1, h2, h3⟩
      · exact .inl ⟨by simpa [List.lookup, e2] using h1, by simpa [List.lookup, e2] using h2⟩
      · exact .inr ⟨v, d, by simpa [List.lookup, e2] using h1, by simpa [List.lookup, e2] using h2, h3⟩
def putG (f : Str) (v : D) : List (Str × D) → List (Str × D)
  | [] => [(f, v)]
  | (g, x) :: r => if g = f then (g, v) :: r else (g, x) :: putG f v r
theorem Rfs.put {f : Str} {v : V} {d : D} (h : Rp K F v d) : ∀ {fs : List (Str × V)} {gs : List (Str × D)}, Rfs K F fs gs → Rfs K F (putF f v fs) (putG f d gs)
  | _, _, .nil => .cons h .nil
  | _, _, .cons (x := x) h' r => by
    unfold putF putG
    by_cases e : x = f
    · rw [if_pos e, if_pos e]; exact .cons h r
    · rw [if_neg e, if_neg e]; exact .cons h' (Rfs.put h r)
theorem Rfs.length : ∀ {fs : List (Str × V)} {gs : List (Str × D)}, Rfs K F fs gs → fs.length = gs.length
  | _, _, .nil => rfl
  | _, _, .cons _ r => congrArg Nat.succ r.length
/-- an object beside -/
theorem Ok.more (k : Ok K F M H) {a : Addr} {o : HO} (h : H a = none) : Ok K F M (upd H a o) := by
  refine ⟨fun b u e => ?_, fun b d e => ?_⟩
  · rw [upd_ne (ne_of_none (k.ex b u e) h)]; exact k.ex b u e
  · obtain ⟨m1, m2⟩ := k.mt b d e
    obtain ⟨o2, h2⟩ := m2.there
    exact ⟨m1, m2.mono (Same.refl F) (upd_ne (ne_of_none h2 h))⟩
end
end DX
namespace DX
open PySem PySem.Spec L2
def prAd (K : PySem.W.Frag) (C f : Str) : Addr × Addr := match PySem.W.findIn K (.ref (He.ga K C)) f with
  | some (some (.ref p)) => (match PySem.W.recIn K p "property" with
    | some (.ref g :: _) => (p, g)
    | _ => (match PySem.W.recIn K p "classmethod" with
      | some (.ref g :: _) => (p, g)
      | _ => (0, 0)))
  | _ => (0, 0)
def fnWA (K : PySem.W.Frag) (a : Addr) : He.FnW := match K.lookup a with
  | some ⟨_, _, .func fd, _⟩ => some (fd.name, fd.qualname, fd.params, fd.body, fd.scope, fd.globals, fd.closure, fd.builtins)
  | _ => none
/-- the same of a def that has captured a cell -/
def fnWS (K : PySem.W.Frag) (a : Addr) : He.FnW := match K.lookup a with
  | some ⟨_, _, .func fd, _⟩ => some (fd.name, fd.qualname, fd.params, fd.body, fd.scope, fd.globals, [], fd.builtins)
  | _ => none
/-- a property's getter: the class, the property's name; its def -/
def prB (K : PySem.W.Frag) (C f q : Str) : Bool :=
  He.eqO (PySem.W.findIn K (.ref (He.ga K C)) f) (some (some (.ref (prAd K C f).1))) && (He.eqO (PySem.W.specialIn K (.ref (prAd K C f).1) "__get__") (some (some (.builtin "property.__get__"))) &&
    (decide (PySem.W.takesIn K (.ref (prAd K C f).1) = some true) && ((match PySem.W.recIn K (prAd K C f).1 "property" with
      | some (v :: _) => decide (v = .ref (prAd K C f).2)
      | _ => false) && (PySem.W.keepIn K (.ref (prAd K C f).2) && (match K.lookup (prAd K C f).2 with
        | some ⟨_, _, .func fd, _⟩ => PySem.W.codeIn K fd.code q && (He.dflB K fd.defaults [] && He.kwdB K fd.kwdefaults [])
        | _ => false)))))
/-- a classmethod: the class, its name; its def -/
def cmB (K : PySem.W.Frag) (C f q : Str) : Bool :=
  PySem.W.readsIn K (He.ga K C) (.type "type") && (He.eqO (PySem.W.specialIn K (.ref (He.ga K C)) "__getattribute__") (some (some (.builtin "type.__getattribute__"))) &&
    ((match PySem.W.findCls K (.ref (He.ga K C)) (.type "type") f with
      | some (.get (.builtin g) (.ref p) .none (.ref D)) => decide (g = "classmethod.__get__") && (decide (p = (prAd K C f).1) && decide (D = He.ga K C))
      | _ => false) && ((match PySem.W.recIn K (prAd K C f).1 "classmethod" with
      | some (v :: _) => decide (v = .ref (prAd K C f).2)
      | _ => false) && (PySem.W.fnIn K (prAd K C f).2 && (PySem.W.keepIn K (.ref (prAd K C f).2) && (match K.lookup (prAd K C f).2 with
        | some ⟨_, _, .func fd, _⟩ => PySem.W.codeIn K fd.code q && (He.dflB K fd.defaults [] && He.kwdB K fd.kwdefaults [])
        | _ => false))))))
/-- a setter: the property's record, its second def -/
def psAd (K : PySem.W.Frag) (C f : Str) : Addr × Addr := match PySem.W.findIn K (.ref (He.ga K C)) f with
  | some (some (.ref p)) => (match PySem.W.recIn K p "property" with
    | some (_ :: .ref g :: _) => (p, g)
    | _ => (0, 0))
  | _ => (0, 0)
def psB (K : PySem.W.Frag) (C f q : Str) : Bool :=
  He.eqO (PySem.W.takerIn K (He.ga K C) f) (some (some (.ref (psAd K C f).1))) && (decide (PySem.W.typeIn K (.ref (psAd K C f).1) = some (.type "property")) &&
    ((match PySem.W.recIn K (psAd K C f).1 "property" with
      | some (_ :: v :: _) => decide (v = .ref (psAd K C f).2)
      | _ => false) && (PySem.W.keepIn K (.ref (psAd K C f).2) && (match K.lookup (psAd K C f).2 with
        | some ⟨_, _, .func fd, _⟩ => PySem.W.codeIn K fd.code q && (He.dflB K fd.defaults [] && He.kwdB K fd.kwdefaults [])
        | _ => false))))
/-- a getter's def (0; at_: the class, the property), a classmethod's (1), a setter's (2) -/
structure PrD where
  kd : Nat
  cls : Str
  nm : Str
  qual : Str
  params : Arguments
  body : List Stmt
  scope : Scope
def PrD.ad (K : PySem.W.Frag) (d : PrD) : Addr × Addr := match d.kd with
  | 2 => psAd K d.cls d.nm
  | 3 => (He.fAd K (d.cls, some d.nm), He.fAd K (d.cls, some d.nm))
  | _ => prAd K d.cls d.nm
/-- what is seen of it: a method that has captured a cell (3) without that cell -/
def PrD.fw (K : PySem.W.Frag) (d : PrD) : He.FnW := match d.kd with
  | 3 => fnWS K (d.ad K).2
  | _ => fnWA K (d.ad K).2
def PrD.okB (K : PySem.W.Frag) (d : PrD) : Bool := match d.kd with
  | 0 => prB K d.cls d.nm d.qual
  | 1 => cmB K d.cls d.nm d.qual
  | 2 => psB K d.cls d.nm d.qual
  | 3 => true
  | _ => false
def PrD.val (d : PrD) : He.FnW := some (d.nm, d.qual, d.params, .stmts d.body, d.scope, mainGlobals, [], builtinsNs)
def obsP (fa : List He.Fa) (fn : List He.DefD) (pr : List PrD) (ex : PySem.W.Frag → Bool) (K : PySem.W.Frag) : He.AlD × Bool × List He.FnW :=
  (He.obsD fa fn K, ex K && pr.all (fun d => d.okB K), pr.map fun d => d.fw K)
def SaysP (fa : List He.Fa) (fn : List He.DefD) (pr : List PrD) (ex : PySem.W.Frag → Bool) (K : PySem.W.Frag) : Prop := obsP fa fn pr ex K = (He.valD fn, true, pr.map PrD.val)
section
variable {fa : List He.Fa} {fn : List He.DefD} {pr : List PrD} {ex : PySem.W.Frag → Bool} {K : PySem.W.Frag}
theorem SaysP.says (c : SaysP fa fn pr ex K) : He.SaysD fa fn K := congrArg Prod.fst c
end
end DX
namespace DX
open PySem PySem.Spec L2
section
variable {X : Cx} {J : Gh} {e a b c : Expr} {es : List Expr} {ρ ρ' : DEnv} {M M' : Mem} {F F' H H' : Hp} {σ : St} {B : Bd} {K : PySem.W.Frag} {pos p : Pos} {x : Str} {P : D → Mem → Prop}
variable {scope : Scope} {tg iter elt : Expr} {ifs : List Expr}
theorem En.frz : ∀ {σ : St} {ρ : DEnv} {i : Nat} {q : Addr} {d : D}, En K F σ ρ → DX.look ρ i = some (.adr q) → Rp K F (.ref q) d → En K F σ (DX.put ρ i d)
  | _, _, i, _, _, .nil, e, _ => by simp [DX.look] at e
  | _, _, 0, q, d, .cons h r, e, rq => .cons (fun x z => by
    obtain ⟨y, a, b⟩ := h (.adr q) e
    cases z
    cases b
    exact ⟨_, a, rq⟩) r
  | _, _, i + 1, q, d, .cons h r, e, rq => .cons h (En.frz r e rq)
end
end DX
namespace DX
open PySem PySem.Spec L2 SX

noncomputable section
theorem so {α : Type} {a b : α} (h : some a = some b) : a = b := Option.some.inj h
def frzD : D → Bool
  | .lst _ => true
  | .ins _ _ => true
  | .dct _ => true
  | _ => false
/-- x, as it stands in a name, is seen as d -/
inductive Vw (M : Mem) : D → D → Prop
  | id {d : D} : Vw M d d
  | ad {p : Addr} {d : D} : M p = some d → frzD d = true → Vw M (.adr p) d
section
variable {X : Cx} {J : Gh} {e a b c o : Expr} {es : List Expr} {ρ ρ' : DEnv} {M M' : Mem} {F F' H H' : Hp} {σ : L2.St} {B : Bd} {K : PySem.W.Frag} {pos p apos cpos : Pos} {x y dx dy z : D} {P : D → Mem → Prop} {t : Bool}
theorem Vw.sl {ds : List D} (v : Vw M x (.lst ds)) : Sl M x ds := by
  cases v with
  | id => exact .lst
  | ad h hf => exact .adr h
theorem Vw.sq {ds : List D} (v : Vw M x (.lst ds)) : Sq M x ds := v.sl.sq
theorem Vw.rtup {ds : List D} {v : V} (w : Vw M x (.tup ds)) (o : Ok K F M H) (r : Rp K F v x) : Rp K F v (.tup ds) := by
  cases w with
  | id => exact r
  | ad h hf => exact (o.mt _ _ h).2.elim
theorem Vw.int {i : Int} (w : Vw M x (.int i)) (o : Ok K F M H) : x = .int i := by
  cases w with
  | id => rfl
  | ad h hf => exact (o.mt _ _ h).2.elim
theorem Vw.str {i : Str} (w : Vw M x (.str i)) (o : Ok K F M H) : x = .str i := by
  cases w with
  | id => rfl
  | ad h hf => exact (o.mt _ _ h).2.elim
/-- a list, a tuple, as lists of V -/
theorem Vw.seq {ds : List D} {v : V} (w : Vw M x z) (hz : z = .lst ds ∨ z = .tup ds) (o : Ok K F M H) (r : Rp K F v x) : ∃ p xs, v = .ref p ∧ (SqL K H p xs ∨ SqT K H p xs) ∧ Rps K F xs ds := by
  rcases hz with rfl | rfl
  · exact w.sq.get o r
  · have r := w.rtup o r
    cases r with
    | tup h r => exact ⟨_, _, rfl, .inr (same_t o.ex h), r⟩
/-- plain data but in what changes -/
def imm : D → Bool
  | .lst _ => false
  | .ins _ _ => false
  | .dct _ => false
  | .tbl _ => false
  | _ => true
theorem Vw.rp {v : V} (w : Vw M x z) (hz : imm z = true) (o : Ok K F M H) (r : Rp K F v x) : Rp K F v z := by
  cases w with
  | id => exact r
  | ad h hf =>
    have := (o.mt _ _ h).2
    cases z <;> first | exact this.elim | cases hz

end
end
end DX
namespace DX
open PySem PySem.Spec L2 SX
noncomputable section
section
variable {X : Cx} {J : Gh} {e a b c o : Expr} {es : List Expr} {ρ ρ' : DEnv} {M M' M0 M1 : Mem} {F F' H H' : Hp} {σ : L2.St} {B : Bd} {K : PySem.W.Frag} {pos p apos cpos : Pos} {x y dx dy z : D} {P : D → Mem → Prop} {t : Bool}
def Sub (M0 M1 : Mem) : Prop := ∀ a d, M0 a = some d → M1 a = some d
def SubX (p : Addr) (M0 M1 : Mem) : Prop := ∀ a d, M0 a = some d → a ≠ p ∧ M1 a = some d
theorem Ok.sub (o : Ok K F M1 H) (s : Sub M0 M1) : Ok K F M0 H := ⟨o.ex, fun a d h => o.mt a d (s a d h)⟩
theorem Ok.frz {p : Addr} {u : HO} (o : Ok K F M1 H) (s : SubX p M0 M1) {d : D} (hp : M1 p = some d) (hH : H p = some u) : Same F (upd F p u) ∧ Ok K (upd F p u) M0 H := by
  obtain ⟨h1, h2⟩ := o.freeze hp hH
  refine ⟨h1, h2.sub fun a d' q => ?_⟩
  obtain ⟨q1, q2⟩ := s a d' q
  unfold rm; rw [if_neg q1]; exact q2
theorem Mt.rp {p : Addr} {d : D} {u : HO} (m : Mt K F H p d) (h : H p = some u) (s : Same F F') (hF : F' p = some u) (hf : frzD d = true) : Rp K F' (.ref p) d := by
  cases d <;> first
    | exact m.elim
    | (cases hf; done)
    | (obtain ⟨xs, g1, g2⟩ := m; rw [h] at g1; cases g1; first | exact .lst hF (g2.mono s) | exact .dct hF (g2.mono s))
    | (obtain ⟨dx, fs, g1, g2⟩ := m; rw [h] at g1; cases g1; exact .ins hF (g2.mono s))
theorem AX.imp {P' Q' : List D → Mem → Prop} (h : AX X J es ρ M P') (k : ∀ d M', P' d M' → Q' d M') : AX X J es ρ M Q' := ax_of h fun F σ H Q st q => ⟨F, st, fun d v M' F' H' p => q d v M' F' H' (k d M' p)⟩
end
end
end DX
namespace DX
open PySem PySem.Spec L2
open PyProof.Rows hiding St
section
variable {X : Cx} {J : Gh} {e a b c o : Expr} {es : List Expr} {ρ : DEnv} {M : Mem} {F F' H H' : Hp} {σ : St} {K : PySem.W.Frag} {pos p q apos cpos : Pos} {P : D → Mem → Prop} {f : Str}
/-- an instance, or the place of one that may change -/
inductive Iw (M : Mem) : D → D → Prop
  | id {d : D} : Iw M d d
  | ad {p : Addr} {d : D} : M p = some d → Iw M (.adr p) d
theorem Iw.is {d : D} {C : Addr} {gs : List (Str × D)} (w : Iw M d (.ins C gs)) : Is M d C gs := by
  cases w with
  | id => exact .frz
  | ad h => exact .adr h
end
end DX
namespace DX
open PySem PySem.Spec L2 PyProof.Rows StX
/-- what is let out: a class, the fields, what may change -/
abbrev RX := Addr → List (Str × D) → Mem → Prop
def noX : RX := fun _ _ _ => False
def ExR (K : PySem.W.Frag) (F : Hp) (C : Addr) (gs : List (Str × D)) (cls : Value) (d : Option Addr) : Prop :=
  cls = .ref C ∧ ((gs = [] ∧ d = none) ∨ ∃ dd fs, d = some dd ∧ F dd = some (.xd fs) ∧ Rfs K F fs gs)
def Kx (K : PySem.W.Frag) (F : Hp) (R : RX) (E : XK) : Prop := ∀ C gs M' F' H' cls d, R C gs M' → Same F F' → Ok K F' M' H' → ExR K F' C gs cls d → E cls d H'
theorem Kx.to {K : PySem.W.Frag} {F F' : Hp} {R : RX} {E : XK} (k : Kx K F R E) (e : Same F F') : Kx K F' R E := fun C gs M' F2 H' cls d r e2 => k C gs M' F2 H' cls d r (e.trans e2)
theorem Kx.no {K : PySem.W.Frag} {F : Hp} {E : XK} : Kx K F noX E := fun _ _ _ _ _ _ _ r => r.elim
abbrev TrX := List D → List D → Mem → (D → Mem → Prop) → RX → Prop
structure FnX (pg : Program) (w : World) (K : PySem.W.Frag) (mg : Str → Option Value) (base : Heap) (gd : Bool) (k : Nat) (f : Addr) (ks : List Str) (T : TrX) : Prop where
  go : ∀ (A : Around) (outer : List PySem.Env) (s : Shared) (H F : Hp) (M : Mem) (ds zs : List D) (P : D → Mem → Prop) (R : RX) (us ws : List Value) (vs xs : List V) (Q : VK) (E : XK), (gd = true → A.guards = some []) → Room k A → Env0 pg w K mg base A outer s H →
    Vals vs us → Vals xs ws → ws.length = ks.length → Ok K F M H → Rps K F vs ds → Rps K F xs zs → T ds zs M P R → Kt K F P Q → Kx K F R E → codeAny (model pg w) A (.call (.ref f) ⟨us, ks.zip ws⟩) (CR (L2.CX pg w) outer pg w H s Q E) s
theorem FnX.mono {pg : Program} {w : World} {K : PySem.W.Frag} {mg : Str → Option Value} {base : Heap} {gd : Bool} {j k : Nat} {f : Addr} {ks : List Str} {T : TrX} (G : FnX pg w K mg base gd j f ks T) (h : j ≤ k) : FnX pg w K mg base gd k f ks T :=
  ⟨fun A outer s H F M ds zs P R us ws vs xs Q E hg hr => G.go A outer s H F M ds zs P R us ws vs xs Q E hg (hr.mono h)⟩
/-- the context lets out what R tells -/
structure Lets (X : Cx) (J : Gh) (R : Addr → List (Str × D) → DEnv → Mem → Prop) : Prop where
  ex : ∃ W : L2.WX, Takes X W ∧ ∀ cls d σ H F ρ M C gs, Sts X.K J F σ H ρ M → ExR X.K F C gs cls d → R C gs ρ M → W cls d σ H
theorem takes_no {X : Cx} : Takes X (fun _ _ _ _ => False) := fun _ _ x => by
  obtain ⟨_, _, _, _, _, _, _, _, _, _, _, _, _, _, _, _, z⟩ := x
  exact z.elim
theorem Lets.no {X : Cx} {J : Gh} : Lets X J (fun _ _ _ _ => False) := ⟨_, takes_no, fun _ _ _ _ _ _ _ _ _ _ _ r => r⟩
end DX
namespace DX
open PySem PySem.Spec L2 PyProof.Rows StX
section
variable {X : Cx} {J : Gh} {e a b o : Expr} {es : List Expr} {kws : List Keyword} {ks : List Str} {ρ : DEnv} {M M1 M2 : Mem} {F F' H H' : Hp} {σ : L2.St} {K : PySem.W.Frag} {pos p apos : Pos} {x m f : Str} {P : D → Mem → Prop} {PA : List D → List D → Mem → Prop} {RR : Addr → List (Str × D) → DEnv → Mem → Prop}
/-- the arguments are ds by place, zs by the keywords ks -/
def EvA (X : Cx) (J : Gh) (pos : Pos) (args : List Expr) (kws : List Keyword) (ks : List Str) (ρ : DEnv) (M : Mem) (PA : List D → List D → Mem → Prop) : Prop :=
  ∀ (fv : Value) (pins : List (Addr × Obj)) (σ : L2.St) (H F : Hp) (s : Shared) (Qa : Args → Shared → Prop), L2.Inv X pins σ H s → Sts X.K J F σ H ρ M →
    (∀ us ws vs xs ds zs F2 M2 H2 s2, L2.Inv X pins σ H2 s2 → Same F F2 → Ok X.K F2 M2 H2 → Vals vs us → Vals xs ws → Rps X.K F2 vs ds → Rps X.K F2 xs zs → zs.length = ks.length → PA ds zs M2 → Qa ⟨us, ks.zip ws⟩ s2) →
    wpAny (model X.prog X.w) X.A (evalArgs fv true (backTo pos (starEach args X.env)) (backToKw pos (keywordEach kws X.env))) Qa X.xe s
end
end DX
namespace DX
open PySem PySem.Spec L2 PyProof.Rows StX
/-- a value, that of an instance that changes no more, or one that may change -/
theorem Iw.rp {K : PySem.W.Frag} {F H : Hp} {M : Mem} {d : D} {C : Addr} {gs : List (Str × D)} {v : V} (i : Iw M d (.ins C gs)) (o : Ok K F M H) (r : Rp K F v d) : ∃ a dx fs, v = .ref a ∧ H a = some (.ins C dx fs) ∧ Rfs K F fs gs := i.is.get o r
section
variable {X : Cx} {J : Gh} {e a b o : Expr} {es : List Expr} {kws : List Keyword} {ks : List Str} {ρ : DEnv} {M M1 M2 : Mem} {F F' H H' : Hp} {σ : L2.St} {K : PySem.W.Frag} {pos p apos : Pos} {x m f : Str} {P : D → Mem → Prop} {RR : Addr → List (Str × D) → DEnv → Mem → Prop}
/-- the other side of a comparison: a value of a built-in type, or an instance of a class that does not go first -/
def Other (K : PySem.W.Frag) (C : Addr) (M : Mem) (y : D) : Prop := (plain y = true ∧ ∀ n ∈ ["NoneType", "bool", "int", "str", "tuple", "list", "dict"], PySem.W.subIn K (.type n) (.ref C) = some false) ∨ ∃ C' hs, Is M y C' hs ∧ PySem.W.notFirst K C (.ref C') = true
theorem Other.ty {C : Addr} {y : D} {v : V} {u : Value} {pins : List (Addr × Obj)} {s : Shared} (h : Other X.K C M y) (I : L2.Inv X pins σ H s) (o : Ok X.K F M H) (r : Rp X.K F v y) (rv : RelV v u) : ∃ tb, PySem.W.Looks (model X.prog X.w) s.heap (typeOf u) tb ∧ PySem.W.notFirst X.K C tb = true := by
  rcases h with ⟨h, hn⟩ | ⟨C', hs, hi, hn⟩
  · have ty := ty_of h o.ex r
    refine ⟨.type (kn y), ?_, by unfold PySem.W.notFirst; rw [hn _ (kn_mem y)]; simp⟩
    obtain ⟨Pk, kx, hp, _⟩ := kit_of I rv ty
    exact kx.ty _ _ I.kIn hp
  · obtain ⟨b, dy, fs', rfl, h2, _⟩ := hi.get o r
    obtain rfl : u = Value.ref b := rv
    obtain ⟨oy, od', J1, _⟩ := insC_at (X := X) I (.inr ⟨dy, fs', h2⟩)
    exact ⟨.ref C', J1.type, hn⟩
end
end DX
namespace DX
open PySem PySem.Spec L2 PyProof.Rows StX
abbrev mroV : List Value := [.type "ValueError", .type "Exception", .type "BaseException", .type "object"]
abbrev mroL : List Value := [.type "LookupError", .type "Exception", .type "BaseException", .type "object"]
abbrev mroO : List Value := [.type "OverflowError", .type "ArithmeticError", .type "Exception", .type "BaseException", .type "object"]
end DX
namespace DX
open PySem PySem.Spec L2 PyProof.Rows StX
def Zk (K : PySem.W.Frag) : Str → Addr := fun x => He.ga K x
/-- an instance of the class C -/
def isC (C : Addr) : D → Option (List (Str × D))
  | .ins C' gs => if C' = C then some gs else none
  | _ => none
def oexB (newId : String) (bmB : List Value) (K : PySem.W.Frag) (C : Addr) : Bool :=
  PySem.W.excInitIn K C bmB newId && (He.eqO (PySem.W.findIn K (.ref C) "__setattr__") (some (some (.builtin "object.__setattr__"))) && (decide (PySem.W.subIn K (.ref C) (.type "BaseException") = some true) && (decide (PySem.W.typeIn K (.ref C) = some (.type "type")) &&
    (PySem.W.keepIn K (.ref C) && (PySem.W.excOver K C bmB && PySem.W.hasDictIn K C)))))
def errB (newId : String) (bmB : List Value) (K : PySem.W.Frag) (C : Str) : Bool :=
  oexB newId bmB K (He.ga K C) && (He.eqO (PySem.W.findIn K (.ref (He.ga K C)) "__init__") (some (some (.ref (He.fAd K (C, some "__init__"))))) && decide (PySem.W.typeIn K (.ref (He.fAd K (C, some "__init__"))) = some (.type "function")))
/-- a property of each of some classes, checked -/
def allB (K : PySem.W.Frag) (L : List Str) (p : Addr → Bool) : Bool := L.all fun x => p (He.ga K x)
def excB (K : PySem.W.Frag) (C : Addr) : Bool :=
  He.eqO (PySem.W.findIn K (.ref C) "__getattribute__") (some (some (.builtin "BaseException.__getattribute__"))) && (He.eqO (PySem.W.findIn K (.ref C) "__getattr__") (some none) && (decide (PySem.W.subIn K (.ref C) (.type "BaseException") = some true) && (PySem.W.hasDictIn K C &&
    (He.eqO (PySem.W.findIn K (.ref C) "__class__") (some (some (.builtin "object.__class__"))) && (He.eqO (PySem.W.specialIn K (.builtin "object.__class__") "__get__") (some (some (.builtin "getset_descriptor.__get__"))) &&
      (decide (PySem.W.takesIn K (.builtin "object.__class__") = some true) && decide (PySem.W.mroIn K C (.type "object") = some true)))))))
end DX
namespace DX
open PySem PySem.Spec L2 PyProof.Rows StX LamX
/-- a def's code object and its table of code objects -/
def ctA (K : PySem.W.Frag) (x : Str × Option Str) : Addr × Addr := match K.lookup (He.fAd K x) with
  | some ⟨_, _, .func fd, _⟩ => (match fd.code with
    | .ref c => (match K.lookup c with
      | some ⟨_, _, .fields vs, _⟩ => (match (vs[11]? : Option Value) with
        | some (.ref P) => (c, P)
        | _ => (0, 0))
      | _ => (0, 0))
    | _ => (0, 0))
  | _ => (0, 0)
/-- the places of the tables and the names of what stands in them -/
abbrev TbL := List ((Str × Option Str) × Str)
end DX
namespace DX
open PySem PySem.Spec L2 PyProof.Rows StX LamX
abbrev TbN := List (Str × Option Str)
/-- what is known of the tables -/
structure TbK (K : PySem.W.Frag) (tn : TbN) (h : Heap) : Prop where
  ex : ∀ x ∈ tn, PySem.W.CodeHd h (ctA K x).1 (ctA K x).2 ∧ h.get? (ctA K x).2 = some { cls := .none, data := .fields #[] } ∧ K.lookup (ctA K x).2 = none
def tbOne (K : PySem.W.Frag) (tl : TbL) : Bool := tl.all fun x => match tl.find? fun y => (ctA K y.1).2 == (ctA K x.1).2 with
  | some y => decide (y.2 = x.2)
  | none => false
def cutK (K : PySem.W.Frag) (ps : List Addr) : PySem.W.Frag := K.filter fun p => !ps.contains p.1
theorem cutK_sub {ps : List Addr} {a : Addr} {o : Obj} : ∀ {K : PySem.W.Frag}, (cutK K ps).lookup a = some o → K.lookup a = some o
  | [], h => h
  | (b, ob) :: r, h => by
    unfold cutK at h
    rw [List.filter_cons] at h
    by_cases e : (!ps.contains b) = true
    · rw [if_pos (by exact e)] at h
      rw [List.lookup_cons] at h ⊢
      cases q : a == b with
      | true => rw [q] at h; exact h
      | false => rw [q] at h; exact cutK_sub (K := r) h
    · rw [if_neg (by exact e)] at h
      have h2 := cutK_sub (K := r) h
      rw [List.lookup_cons]
      cases q : a == b with
      | true =>
        have : a = b := beq_iff_eq.mp q
        subst this
        exfalso
        have hc : ps.contains a = true := by simpa using e
        have none_ : ∀ K : PySem.W.Frag, (cutK K ps).lookup a = none := fun K => by
          induction K with
          | nil => rfl
          | cons p r ih =>
            unfold cutK at ih ⊢
            rw [List.filter_cons]
            split
            · rename_i hq
              rw [List.lookup_cons]
              cases z : a == p.1 with
              | true =>
                have : a = p.1 := beq_iff_eq.mp z
                rw [← this, hc] at hq
                cases hq
              | false => exact ih
            · exact ih
        have := none_ r
        unfold cutK at this
        rw [this] at h; cases h
      | false => exact h2
def emptyTab (o : Option Obj) : Bool := match o with
  | some ⟨.none, none, .fields vs, sl⟩ => vs.size == 0 && sl.size == 0
  | _ => false
theorem emptyTab_eq {o : Option Obj} (h : emptyTab o = true) : o = some { cls := .none, data := .fields #[] } := by
  unfold emptyTab at h
  split at h
  · rename_i vs sl
    obtain ⟨h1, h2⟩ := He.ba h
    have e1 : vs = #[] := Array.eq_empty_of_size_eq_zero (beq_iff_eq.mp h1)
    have e2 : sl = #[] := Array.eq_empty_of_size_eq_zero (beq_iff_eq.mp h2)
    rw [e1, e2]
  · cases h
abbrev LookT := (He.AlD × Bool × List He.FnW) × Bool
def tabsB (K0 K : PySem.W.Frag) (tl : TbL) : Bool := tl.all (fun x => PySem.W.codeHdIn K (ctA K x.1).1 (ctA K x.1).2 && (emptyTab (K0.lookup (ctA K x.1).2) && (K.lookup (ctA K x.1).2).isNone)) && tbOne K tl
def addM : List Addr → List Addr → Nat → List Addr × Nat
  | [], acc, m => (acc, m)
  | a :: as, acc, m => match Nat.beq (Nat.land (Nat.shiftRight m a) 1) 1 with
    | true => addM as acc m
    | false => addM as (a :: acc) (Nat.lor m (Nat.shiftLeft 1 a))
def stepM (g : Addr → Option Obj) : List Addr → List Addr → Nat → List Addr × Nat
  | [], acc, m => (acc, m)
  | a :: as, acc, m => match g a with
    | some o => let r := addM (He.refsD o) acc m; stepM g as r.1 r.2
    | none => stepM g as acc m
def asM (g : Addr → Option Obj) : Nat → List Addr → Nat → List Addr
  | 0, fr, _ => fr
  | n + 1, fr, m => let r := stepM g fr [] m; fr ++ asM g n r.1 r.2
def asN (g : Addr → Option Obj) (n : Nat) : List Addr := asM g n [mainGlobals] (Nat.shiftLeft 1 mainGlobals)
def lookT (fa : List He.Fa) (fn : List He.DefD) (pr : List PrD) (ex : PySem.W.Frag → Bool) (tl : TbL) (n : Nat) (g : Addr → Option Obj) : LookT :=
  let K0 := He.frG g (cStatics :: sysModules :: asN g n)
  let K := cutK K0 (tl.map fun x => (ctA K0 x.1).2)
  (obsP fa fn pr ex K, tabsB K0 K tl)
def SaysT (fa : List He.Fa) (fn : List He.DefD) (pr : List PrD) (ex : PySem.W.Frag → Bool) (tl : TbL) (h : Heap) : Prop := ∃ K : PySem.W.Frag, K.In h ∧ SaysP fa fn pr ex K ∧ TbK K (tl.map (·.1)) h ∧ tbOne K tl = true
theorem saysT_of {fa : List He.Fa} {fn : List He.DefD} {pr : List PrD} {ex : PySem.W.Frag → Bool} {tl : TbL} {n : Nat} {h : Heap} (e : lookT fa fn pr ex tl n h.get? = ((He.valD fn, true, pr.map PrD.val), true)) : SaysT fa fn pr ex tl h := by
  have e1 := congrArg Prod.fst e
  have e2 : tabsB _ _ tl = true := congrArg Prod.snd e
  have in0 : PySem.W.Frag.In (He.frG h.get? (cStatics :: sysModules :: asN h.get? n)) h := He.frG_in
  refine ⟨_, fun b o z => in0 b o (cutK_sub z), e1, ⟨fun x hx => ?_⟩, (He.ba e2).2⟩
  obtain ⟨y, hy, rfl⟩ := List.mem_map.mp hx
  obtain ⟨q1, q⟩ := He.ba (List.all_eq_true.mp (He.ba e2).1 y hy)
  obtain ⟨q2, q3⟩ := He.ba q
  exact ⟨PySem.W.codeHd_of_K (fun b o z => in0 b o (cutK_sub z)) q1, in0 _ _ (emptyTab_eq q2), Option.isNone_iff_eq_none.mp q3⟩
def hookT (n : Nat) (fa : List He.Fa) (fn : List He.DefD) (pr : List PrD) (ex : PySem.W.Frag → Bool) (tl : TbL) : PySem.W.Hook where
  α := LookT
  obs := fun s => lookT fa fn pr ex tl n s.heap.get?
  val := fun _ => ((He.valD fn, true, pr.map PrD.val), true)
  says := fun _ h => SaysT fa fn pr ex tl h
  of := fun _ _ e => saysT_of e
  keeps := fun _ _ _ ⟨K, hK, c, t, u⟩ k => ⟨K, PySem.W.Frag.In.keeps hK k, c, ⟨fun x hx => let ⟨q1, q2, q3⟩ := t.ex x hx; ⟨q1.keeps k, k _ _ q2, q3⟩⟩, u⟩
end DX
namespace ZipL
open PySem PySem.Spec L2 PyProof.Rows
theorem zip_no_len : typeLookup (.type "zip") "__len__" = pure none := by rw [typeLookup_type, builtinLookup_eq_fast]; kernel_rfl
theorem zip_no_hint : typeLookup (.type "zip") "__length_hint__" = pure none := by rw [typeLookup_type, builtinLookup_eq_fast]; kernel_rfl
/-- the zip has given i pairs -/
def ZSt (z TI TO i1 i2 l1 l2 S : Addr) (xs ys : Array Value) (i : Nat) (h : Heap) : Prop :=
  IsPair h TI (.ref i1) (.ref i2) ∧ h.IsListIter i1 l1 i ∧ h.IsListIter i2 l2 i ∧ h.IsList l1 xs ∧ h.IsList l2 ys ∧ ((IsZip h z TI TO .none ∧ ∃ a b, IsPair h TO a b) ∨ ∃ T f oT, IsZipHeld h z TI TO T f ∧ h.get? T = some oT ∧ T ≠ z ∧ T ≠ i1 ∧ T ≠ i2 ∧ T ≠ S)
/-- the pairs given so far -/
def Acc (S : Addr) (xs ys : Array Value) (ts : List Addr) (h : Heap) : Prop :=
  (∀ T ∈ ts, S < T ∧ ∃ o, h.get? T = some o) ∧ ts.Pairwise (· < ·) ∧ ∀ (j : Nat) T, ts[j]? = some T → ∃ x y, xs[j]? = some x ∧ ys[j]? = some y ∧ IsPair h T x y
theorem Acc.keep {S : Addr} {xs ys : Array Value} {ts : List Addr} {h h' : Heap} (a : Acc S xs ys ts h) (k : ∀ b o, S < b → h.get? b = some o → h'.get? b = some o) : Acc S xs ys ts h' :=
  ⟨fun T hT => ⟨(a.1 T hT).1, let ⟨o, ho⟩ := (a.1 T hT).2; ⟨o, k _ _ (a.1 T hT).1 ho⟩⟩, a.2.1, fun j T hj => by
    obtain ⟨x, y, e1, e2, e3⟩ := a.2.2 j T hj
    exact ⟨x, y, e1, e2, k _ _ (a.1 T (List.mem_of_getElem? hj)).1 e3⟩⟩
theorem Acc.more {S T0 : Addr} {xs ys : Array Value} {ts : List Addr} {h : Heap} {x y : Value} (a : Acc S xs ys ts h) (hT : S < T0) (hl : ∀ T ∈ ts, T < T0) (ex : xs[ts.length]? = some x) (ey : ys[ts.length]? = some y) (e : IsPair h T0 x y) : Acc S xs ys (ts ++ [T0]) h := by
  refine ⟨fun T hm => ?_, ?_, fun j T hj => ?_⟩
  · rcases List.mem_append.mp hm with hm | hm
    · exact a.1 T hm
    · rw [List.mem_singleton] at hm; subst hm; exact ⟨hT, _, e⟩
  · rw [List.pairwise_append]
    exact ⟨a.2.1, List.pairwise_singleton _ _, fun u hu v hv => by rw [List.mem_singleton] at hv; subst hv; exact hl u hu⟩
  · by_cases hb : j < ts.length
    · rw [List.getElem?_append_left hb] at hj
      exact a.2.2 j T hj
    · rw [List.getElem?_append_right (by omega)] at hj
      have e1 : j - ts.length = 0 := by
        have := (List.getElem?_eq_some_iff.mp hj).1
        simp only [List.length_singleton] at this
        omega
      rw [e1] at hj
      have e2 : T0 = T := by simpa using hj
      subst e2
      have e3 : j = ts.length := by omega
      subst e3
      exact ⟨x, y, ex, ey, e⟩
section
variable {prog : Program} {w : World} {A : Around} {R : Result → Shared → Prop} {z TI TO i1 i2 l1 l2 S : Addr} {xs ys : Array Value}
/-- S stands behind all that the zip writes -/
structure Off (z TI TO i1 i2 l1 l2 S : Addr) : Prop where
  z : z < S
  TI : TI < S
  TO : TO < S
  i1 : i1 < S
  i2 : i2 < S
  l1 : l1 < S
  l2 : l2 < S
theorem loop (hh : A.in1.handled = none) (D : ZipApart z TI TO i1 i2 l1 l2) (O : Off z TI TO i1 i2 l1 l2 S) (hn : min xs.size ys.size ≤ sizeLine) (res : Value) :
    ∀ (k : Nat) (s : Shared) (ts : List Addr) (c : Nat), min xs.size ys.size - ts.length = k → ts.length ≤ min xs.size ys.size → ZSt z TI TO i1 i2 l1 l2 S xs ys ts.length s.heap →
    s.heap.get? S = some { cls := .type "list", dict := none, data := .seq (ts.map Value.ref).toArray c, slots := #[] } → Acc S xs ys ts s.heap →
    (∀ h' ts' c', (∀ b o, b ≠ S → b ≠ z → b ≠ TO → b ≠ i1 → b ≠ i2 → s.heap.get? b = some o → h'.get? b = some o) → h'.get? S = some { cls := .type "list", dict := none, data := .seq (ts'.map Value.ref).toArray c', slots := #[] } →
      ts'.length = min xs.size ys.size → Acc S xs ys ts' h' → R (.ok (.ret res)) { s with heap := h' }) →
    codeAny (model prog w) A (.builtin "list.extend.loop" ⟨[.ref S, .ref z, res], []⟩) R s := by
  intro k
  induction k with
  | zero =>
    intro s ts c hk hi hst hS hacc hR
    have hin : ts.length = min xs.size ys.size := by omega
    refine codeAny_builtin F.entry_extend_loop ?_
    rw [Around.under_plainId F.plain_extend_loop _]
    show wpAny _ A.in1 (pyNext (.ref z) >>= _) _ _ s
    obtain ⟨hTI, h1, h2, hl1, hl2, hz⟩ := hst
    have hend : xs[ts.length]? = none ∨ ys[ts.length]? = none := by
      rcases Nat.le_total xs.size ys.size with h | h
      · exact .inl (Array.getElem?_eq_none (by omega))
      · exact .inr (Array.getElem?_eq_none (by omega))
    have fin : ∀ h', (∀ b o, b ≠ z → b ≠ TO → b ≠ i1 → b ≠ i2 → s.heap.get? b = some o → h'.get? b = some o) → R (.ok (.ret res)) { s with heap := h' } := fun h' kp =>
      hR h' ts c (fun b o _ a1 a2 a3 a4 e => kp b o a1 a2 a3 a4 e) (kp _ _ (Nat.ne_of_gt O.z) (Nat.ne_of_gt O.TO) (Nat.ne_of_gt O.i1) (Nat.ne_of_gt O.i2) hS) hin (hacc.keep fun b o hb e => kp b o (Nat.ne_of_gt (Nat.lt_trans O.z hb)) (Nat.ne_of_gt (Nat.lt_trans O.TO hb)) (Nat.ne_of_gt (Nat.lt_trans O.i1 hb)) (Nat.ne_of_gt (Nat.lt_trans O.i2 hb)) e)
    rcases hz with ⟨hz, a, b, hTO⟩ | ⟨T, f, oT, hz, hT, r1, r2, r3, r4⟩
    · exact wpAny_bind (wpAny_pyNext_zip_end hh D hz hTI hTO h1 h2 hl1 hl2 hend fun h' hk => wpAny_pure (fin h' fun b o a1 a2 a3 a4 e => hk b o a1 a2 a3 a4 e))
    · exact wpAny_bind (wpAny_pyNext_zip_end_held hh D hz hT hTI h1 h2 hl1 hl2 hend fun h' hk => wpAny_pure (fin h' fun b o a1 a2 a3 a4 e => hk b o a1 a3 a4 e))
  | succ k ih =>
    intro s ts c hk hi hst hS hacc hR
    have hlt : ts.length < min xs.size ys.size := by omega
    refine codeAny_builtin F.entry_extend_loop ?_
    rw [Around.under_plainId F.plain_extend_loop _]
    show wpAny _ A.in1 (pyNext (.ref z) >>= _) _ _ s
    obtain ⟨hTI, h1, h2, hl1, hl2, hz⟩ := hst
    have hix : ts.length < xs.size := by omega
    have hiy : ts.length < ys.size := by omega
    have ex := Array.getElem?_eq_getElem hix
    have ey := Array.getElem?_eq_getElem hiy
    have Sl : S < s.heap.objs.size := Heap.lt_size hS
    have lt : ∀ {c o}, s.heap.get? c = some o → c < s.heap.objs.size := fun e => Heap.lt_size e
    -- one pair more
    have step : ∀ h', (∀ b o, b ≠ z → b ≠ TO → b ≠ i1 → b ≠ i2 → s.heap.get? b = some o → h'.get? b = some o) → h'.get? TI = some { cls := .type "tuple", data := .seq #[.ref i1, .ref i2] } → h'.IsListIter i1 l1 (ts.length + 1) → h'.IsListIter i2 l2 (ts.length + 1) →
        IsPair h' s.heap.objs.size xs[ts.length] ys[ts.length] → (∃ T f oT, IsZipHeld h' z TI TO T f ∧ h'.get? T = some oT ∧ T ≠ z ∧ T ≠ i1 ∧ T ≠ i2 ∧ T ≠ S) →
        wpAny (model prog w) A.in1 (updateSeq S (·.push (.ref s.heap.objs.size)) >>= fun _ => again (.builtin "list.extend.loop" ⟨[.ref S, .ref z, res], []⟩))
          (fun fin s' => match fin with | .done f => R (.ok f) s' | .again c' => c'.quiet = true ∧ codeAny (model prog w) A c' R s') (fun e s' => R (.error e) s') { s with heap := h' } := by
      intro h' kp qTI q1 q2 qT qz
      have hS' := kp _ _ (Nat.ne_of_gt O.z) (Nat.ne_of_gt O.TO) (Nat.ne_of_gt O.i1) (Nat.ne_of_gt O.i2) hS
      refine wpAny_bind ?_
      have hS2 := Heap.get?_update_self (Obj.mapSeq (·.push (Value.ref s.heap.objs.size))) hS' rfl
      obtain ⟨c2, hS3⟩ : ∃ c2, (h'.update S (Obj.mapSeq (·.push (Value.ref s.heap.objs.size)))).get? S = some { cls := .type "list", dict := none, data := .seq ((ts ++ [s.heap.objs.size]).map Value.ref).toArray c2, slots := #[] } :=
        ⟨if ((ts.map Value.ref).toArray.push (Value.ref s.heap.objs.size)).size == (ts.map Value.ref).toArray.size then c else c + 1, hS2.trans (by simp [Obj.mapSeq])⟩
      have oth : ∀ b o, b ≠ S → h'.get? b = some o → (h'.update S (Obj.mapSeq (·.push (Value.ref s.heap.objs.size)))).get? b = some o := fun b o hb e => (Heap.get?_update_other _ _ (Ne.symm hb)).trans e
      have a1 : Acc S xs ys ts h' := hacc.keep fun b o hb e => kp b o (Nat.ne_of_gt (Nat.lt_trans O.z hb)) (Nat.ne_of_gt (Nat.lt_trans O.TO hb)) (Nat.ne_of_gt (Nat.lt_trans O.i1 hb)) (Nat.ne_of_gt (Nat.lt_trans O.i2 hb)) e
      have a2 : Acc S xs ys (ts ++ [s.heap.objs.size]) h' := a1.more Sl (fun T hT => let ⟨o, ho⟩ := (hacc.1 T hT).2; lt ho) ex ey qT
      have a3 : Acc S xs ys (ts ++ [s.heap.objs.size]) (h'.update S (Obj.mapSeq (·.push (Value.ref s.heap.objs.size)))) := a2.keep fun b o hb e => oth b o (Nat.ne_of_gt hb) e
      refine wpAny_updateSeq hS' rfl (wpAny_pure ⟨plainId_quiet F.plain_extend_loop _, ih { s with heap := h'.update S (Obj.mapSeq (·.push (Value.ref s.heap.objs.size))) } (ts ++ [s.heap.objs.size]) c2 (by rw [List.length_append, List.length_singleton]; omega) (by rw [List.length_append, List.length_singleton]; omega) ?_ hS3 a3 fun h'' ts' c' kp2 e2 hl2 hA => ?_⟩)
        (by rw [List.size_toArray, List.length_map]; omega) (by rw [Array.size_push, List.size_toArray, List.length_map]; omega)
      · rw [List.length_append, List.length_singleton]
        refine ⟨oth _ _ (Nat.ne_of_lt O.TI) qTI, q1.at fun o e => oth _ o (Nat.ne_of_lt O.i1) e, q2.at fun o e => oth _ o (Nat.ne_of_lt O.i2) e, (hl1.at fun o e => kp _ o D.l1z D.l1TO D.l1i1 D.l1i2 e).at fun o e => oth _ o (Nat.ne_of_lt O.l1) e, (hl2.at fun o e => kp _ o D.l2z D.l2TO D.l2i1 D.l2i2 e).at fun o e => oth _ o (Nat.ne_of_lt O.l2) e, .inr ?_⟩
        obtain ⟨T, f, oT, w1, w2, w3, w4, w5, w6⟩ := qz
        exact ⟨T, f, oT, oth _ _ (Nat.ne_of_lt O.z) w1, oth _ _ w6 w2, w3, w4, w5, w6⟩
      · exact hR h'' ts' c' (fun b o b1 b2 b3 b4 b5 e => kp2 b o b1 b2 b3 b4 b5 (oth b o b1 (kp b o b2 b3 b4 b5 e))) e2 hl2 hA
    rcases hz with ⟨hz, a, b, hTO⟩ | ⟨T, f, oT, hz, hT, r1, r2, r3, r4⟩
    · refine wpAny_bind (wpAny_pyNext_zip_item D hz hTI hTO h1 h2 hl1 hl2 ex ey fun h' a1 a2 a3 a4 a5 a6 hk => ?_)
      refine step h' hk (hk _ _ D.TIz D.TITO D.TIi1 D.TIi2 hTI) a3 a4 a5 ⟨s.heap.objs.size, false, _, a1, a5, Nat.ne_of_gt (lt hz), ?_, ?_, Nat.ne_of_gt Sl⟩
      · obtain ⟨o, e, _⟩ := h1; exact Nat.ne_of_gt (lt e)
      · obtain ⟨o, e, _⟩ := h2; exact Nat.ne_of_gt (lt e)
    · refine wpAny_bind (wpAny_pyNext_zip_item_held D hz hT hTI h1 h2 hl1 hl2 ex ey fun h' a1 a3 a4 a5 a6 hk => ?_)
      exact step h' (fun b o b1 b2 b3 b4 e => hk b o b1 b3 b4 e) (hk _ _ D.TIz D.TIi1 D.TIi2 hTI) a3 a4 a5 ⟨T, true, oT, a1, hk _ _ r1 r2 r3 hT, r1, r2, r3, r4⟩
end
section
variable {prog : Program} {w : World} {A : Around} {R : Result → Shared → Prop} {E : Value → Shared → Prop} {s : Shared} {z TI TO i1 i2 l1 l2 S : Addr} {xs ys : Array Value}
theorem extend (hh : A.in1.handled = none) (D : ZipApart z TI TO i1 i2 l1 l2) (O : Off z TI TO i1 i2 l1 l2 S) (hn : min xs.size ys.size ≤ sizeLine) (res : Value) (c : Nat) (hz : IsZip s.heap z TI TO .none) (hst : ZSt z TI TO i1 i2 l1 l2 S xs ys 0 s.heap)
    (hS : s.heap.get? S = some { cls := .type "list", data := .seq #[] c })
    (hR : ∀ h' ts' c', (∀ b o, b ≠ S → b ≠ z → b ≠ TO → b ≠ i1 → b ≠ i2 → s.heap.get? b = some o → h'.get? b = some o) → h'.get? S = some { cls := .type "list", dict := none, data := .seq (ts'.map Value.ref).toArray c', slots := #[] } →
      ts'.length = min xs.size ys.size → Acc S xs ys ts' h' → R (.ok (.ret res)) { s with heap := h' }) :
    wpAny (model prog w) A.in1 (Builtin.List.listExtendWith (.ref S) (.ref z) res)
      (fun fin s' => match fin with | .done f => R (.ok f) s' | .again c' => c'.quiet = true ∧ codeAny (model prog w) A c' R s') (fun e s' => R (.error e) s') s := by
  have hT : s.TypeIs (.ref z) "zip" := ⟨_, hz, rfl⟩
  unfold Builtin.List.listExtendWith
  refine wpAny_bind (wpAny_typeOf hT ?_)
  have h1 : Builtin.List.listSameRef (.ref S) (.ref z) = false := by simp [Builtin.List.listSameRef, Nat.ne_of_gt O.z]
  have h2 : (Value.type "zip" == Value.type "list") = false := by decide
  have h3 : (Value.type "zip" == Value.type "tuple") = false := by decide
  simp only [h1, h2, h3, Bool.or_false, Bool.false_eq_true, if_false]
  refine wpAny_bind (wpAny_pyIter_zip hz ?_)
  refine wpAny_bind (wpAny_holding ?_)
  unfold Builtin.List.listLengthHint
  refine wpAny_bind (wpAny_specialOf hT zip_no_len ?_)
  show wpAny _ A.in1 (specialOf (Value.ref z) (Str.ofString "__length_hint__") >>= _) _ _ _
  refine wpAny_bind (wpAny_specialOf hT zip_no_hint ?_)
  refine wpAny_pure ?_
  show wpAny _ A.in1 (rule "list.extend.makes-room" >>= fun _ => Builtin.List.listTouch (.ref S) >>= fun _ =>
    again (.builtin "list.extend.loop" ⟨[.ref S, .ref z, res], []⟩)) _ _ _
  refine wpAny_bind (wpAny_rule ?_)
  refine wpAny_bind ?_
  show wpAny _ A.in1 (updateSeq S (·.push .none) >>= fun _ => updateSeq S (·.pop)) _ _ _
  refine wpAny_bind (wpAny_updateSeq hS rfl ?_)
  have hS₂ := Heap.get?_update_self (Obj.mapSeq (·.push Value.none)) hS rfl
  refine wpAny_updateSeq (hz := by seq_fits) hS₂ rfl ?_
  have hS₃ := Heap.get?_update_self (Obj.mapSeq (·.pop)) hS₂ rfl
  have oth : ∀ b o, b ≠ S → s.heap.get? b = some o → ((s.heap.update S (Obj.mapSeq (·.push Value.none))).update S (Obj.mapSeq (·.pop))).get? b = some o :=
    fun b o hb e => (Heap.get?_update_other _ _ (Ne.symm hb)).trans ((Heap.get?_update_other _ _ (Ne.symm hb)).trans e)
  have hst' : ZSt z TI TO i1 i2 l1 l2 S xs ys 0 ((s.heap.update S (Obj.mapSeq (·.push Value.none))).update S (Obj.mapSeq (·.pop))) := by
    obtain ⟨a1, a2, a3, a4, a5, a6⟩ := hst
    refine ⟨oth _ _ (Nat.ne_of_lt O.TI) a1, a2.at fun o e => oth _ o (Nat.ne_of_lt O.i1) e, a3.at fun o e => oth _ o (Nat.ne_of_lt O.i2) e, a4.at fun o e => oth _ o (Nat.ne_of_lt O.l1) e, a5.at fun o e => oth _ o (Nat.ne_of_lt O.l2) e, ?_⟩
    rcases a6 with ⟨q1, a, b, q2⟩ | ⟨T, f, oT, q1, q2, q3, q4, q5, q6⟩
    · exact .inl ⟨oth _ _ (Nat.ne_of_lt O.z) q1, a, b, oth _ _ (Nat.ne_of_lt O.TO) q2⟩
    · exact .inr ⟨T, f, oT, oth _ _ (Nat.ne_of_lt O.z) q1, oth _ _ q6 q2, q3, q4, q5, q6⟩
  exact wpAny_pure ⟨plainId_quiet F.plain_extend_loop _, loop hh D O hn res _ _ [] _ rfl (Nat.zero_le _) hst' hS₃ ⟨fun T hT => (nomatch hT), List.Pairwise.nil, fun j T hj => by simp at hj⟩ fun h' ts' c' kp e hl hA =>
    hR h' ts' c' (fun b o b1 b2 b3 b4 b5 e => kp b o b1 b2 b3 b4 b5 (oth b o b1 e)) e hl hA⟩
end
end ZipL
namespace DX
open PySem PySem.Spec L2 PyProof.Rows
section
variable {X : Cx} {J : Gh} {e o : Expr} {es : List Expr} {ρ ρ' : DEnv} {M M0 M1 : Mem} {F F' H H' : Hp} {σ : L2.St} {P : D → Mem → Prop} {K : PySem.W.Frag} {pos apos cpos : Pos}
def stillF (F H : Hp) (M : Mem) : Hp := fun a => if (M a).isSome = true then H a else F a
theorem still_same (k : Ok K F M H) : Same F (stillF F H M) := fun a u h => by
  unfold stillF
  split
  · rename_i q
    obtain ⟨d, hd⟩ := Option.isSome_iff_exists.mp q
    rw [(k.mt a d hd).1] at h; cases h
  · exact h
inductive StillE (M : Mem) : DEnv → DEnv → Prop
  | nil : StillE M [] []
  | same {d : Option D} {ρ ρ' : DEnv} : StillE M ρ ρ' → StillE M (d :: ρ) (d :: ρ')
  | ad {p : Addr} {d : D} {ρ ρ' : DEnv} : M p = some d → frzD d = true → StillE M ρ ρ' → StillE M (some (.adr p) :: ρ) (some d :: ρ')
theorem StillE.en (k : Ok K F M H) : ∀ {ρ ρ' : DEnv}, StillE M ρ ρ' → ∀ {σ : L2.St}, En K F σ ρ → En K (stillF F H M) σ ρ'
  | _, _, .nil, _, .nil => .nil
  | _, _, .same h, _, .cons x r => .cons (fun y q => let ⟨z, a, b⟩ := x y q; ⟨z, a, b.mono (still_same k)⟩) (h.en k r)
  | _, _, .ad (p := p) (d := d) hp hf h, _, .cons x r => .cons (fun y q => by
      cases q
      obtain ⟨z, a, b⟩ := x _ rfl
      cases b
      obtain ⟨u, hu⟩ := (k.mt p _ hp).2.there
      exact ⟨_, a, (k.mt p _ hp).2.rp hu (still_same k) (show stillF F H M p = some u by unfold stillF; rw [hp]; exact hu) hf⟩) (h.en k r)
end
end DX
namespace DX
open PySem PySem.Spec L2 PyProof.Rows StX LamX
mutual
/-- no instance of these classes within -/
def noI (L : List Addr) : D → Bool
  | .tup ds => noIs L ds
  | .lst ds => noIs L ds
  | .stup ds => noIs L ds
  | .ins C gs => decide (C ∉ L) && noIk L gs
  | .dct kvs => noId L kvs
  | .exn _ gs => noIk L gs
  | _ => true
def noIs (L : List Addr) : List D → Bool
  | [] => true
  | d :: ds => noI L d && noIs L ds
def noIk (L : List Addr) : List (Str × D) → Bool
  | [] => true
  | (_, d) :: ds => noI L d && noIk L ds
def noId (L : List Addr) : List (Key × D) → Bool
  | [] => true
  | (_, d) :: ds => noI L d && noId L ds
end
structure KeepsP (L : List Addr) (F F2 : Hp) : Prop where
  k : ∀ a u, F a = some u → (∀ C dx fs, u = .ins C dx fs → C ∉ L) → F2 a = some u
section
variable {K : PySem.W.Frag} {F F2 : Hp} {L : List Addr}
theorem KeepsP.rd (h : KeepsP L F F2) {a : Addr} {u : HO} (hu : ∀ C dx fs, u ≠ .ins C dx fs) (r : Rd F a u) : Rd F2 a u := by
  rcases r with r | ⟨o, r⟩
  · exact .inl (h.k _ _ r fun C dx fs e => absurd e (hu C dx fs))
  · exact .inr ⟨o, h.k _ _ r fun C dx fs e => by cases e⟩
theorem KeepsP.sl (h : KeepsP L F F2) {a : Addr} {xs : List V} (r : SqL K F a xs) : SqL K F2 a xs := by
  rcases r with r | r
  · exact .inl (h.rd (fun _ _ _ e => by cases e) r)
  · exact .inr r
theorem KeepsP.st (h : KeepsP L F F2) {a : Addr} {xs : List V} (r : SqT K F a xs) : SqT K F2 a xs := by
  rcases r with r | r
  · exact .inl (h.rd (fun _ _ _ e => by cases e) r)
  · exact .inr r
mutual
theorem rp_noI (h : KeepsP L F F2) : ∀ (d : D) (v : V), noI L d = true → Rp K F v d → Rp K F2 v d
  | .non, _, _, .non => .non
  | .bl b, _, _, .bl _ => .bl _
  | .int i, _, _, .int _ => .int _
  | .str x, _, _, .str _ => .str _
  | .adr a, _, _, .adr _ => .adr _
  | .ty n, _, _, .ty _ => .ty _
  | .scr ns, _, _, .scr r => .scr (h.sl r)
  | .tup ds, _, q, .tup h1 h2 => .tup (h.st h1) (rps_noI h ds _ (by rw [noI] at q; exact q) h2)
  | .lst ds, _, q, .lst h1 h2 => .lst (h.k _ _ h1 fun _ _ _ e => by cases e) (rps_noI h ds _ (by rw [noI] at q; exact q) h2)
  | .stup ds, _, q, .stup h1 h2 h3 => .stup (h.k _ _ h1 fun _ _ _ e => by cases e) h2 (rps_noI h ds _ (by rw [noI] at q; exact q) h3)
  | .stup [], _, _, .stupK h1 h2 => .stupK h1 h2
  | .ins C gs, _, q, .ins h1 h2 => by
    rw [noI, Bool.and_eq_true] at q
    exact .ins (h.k _ _ h1 fun _ _ _ e => by cases e; exact of_decide_eq_true q.1) (rfs_noI h gs _ q.2 h2)
  | .dct kvs, _, q, .dct h1 h2 => .dct (h.k _ _ h1 fun _ _ _ e => by cases e) (rks_noI h kvs _ (by rw [noI] at q; exact q) h2)
  | .exn C gs, _, q, .exn h1 h2 h3 => .exn (h.k _ _ h1 fun _ _ _ e => by cases e) (h2.imp id fun ⟨dd, e, r⟩ => ⟨dd, e, h.k _ _ r fun _ _ _ e => by cases e⟩) (rfs_noI h gs _ (by rw [noI] at q; exact q) h3)
  | .tbl _, _, _, r => nomatch r
theorem rps_noI (h : KeepsP L F F2) : ∀ (ds : List D) (vs : List V), noIs L ds = true → Rps K F vs ds → Rps K F2 vs ds
  | [], _, _, .nil => .nil
  | d :: ds, _, q, .cons h1 h2 => by
    rw [noIs, Bool.and_eq_true] at q
    exact .cons (rp_noI h d _ q.1 h1) (rps_noI h ds _ q.2 h2)
theorem rfs_noI (h : KeepsP L F F2) : ∀ (ds : List (Str × D)) (vs : List (Str × V)), noIk L ds = true → Rfs K F vs ds → Rfs K F2 vs ds
  | [], _, _, .nil => .nil
  | (x, d) :: ds, _, q, .cons h1 h2 => by
    rw [noIk, Bool.and_eq_true] at q
    exact .cons (rp_noI h d _ q.1 h1) (rfs_noI h ds _ q.2 h2)
theorem rks_noI (h : KeepsP L F F2) : ∀ (ds : List (Key × D)) (vs : List (Key × V)), noId L ds = true → Rks K F vs ds → Rks K F2 vs ds
  | [], _, _, .nil => .nil
  | (x, d) :: ds, _, q, .cons h1 h2 => by
    rw [noId, Bool.and_eq_true] at q
    exact .cons (rp_noI h d _ q.1 h1) (rks_noI h ds _ q.2 h2)
end
end
end DX
namespace DX
open PySem PySem.Spec L2 PyProof.Rows StX LamX
/-- besides: what stands at p is seen as d -/
def Gh.hold (J : Gh) (K : PySem.W.Frag) (p : Addr) (d : D) : Gh := ⟨fun F => J.p F ∧ Rp K F (.ref p) d, fun _ _ e h => ⟨J.mono _ _ e h.1, h.2.mono e⟩⟩
section
variable {X : Cx} {J : Gh} {ρ ρ' : DEnv} {M M0 : Mem} {P : D → Mem → Prop} {L : List Addr} {x : Str} {pos : Pos} {K : PySem.W.Frag} {F F2 : Hp} {σ : L2.St} {st : Stmt} {rest : List Stmt} {B : Bd}
/-- names behind the statement: their values hold no instance of these classes, or are forgotten -/
inductive NoE (L : List Addr) : DEnv → DEnv → Prop
  | nil : NoE L [] []
  | keep {d : D} {ρ ρ' : DEnv} : noI L d = true → NoE L ρ ρ' → NoE L (some d :: ρ) (some d :: ρ')
  | drop {d : Option D} {ρ ρ' : DEnv} : NoE L ρ ρ' → NoE L (d :: ρ) (none :: ρ')
theorem NoE.en (kp : KeepsP L F F2) : ∀ {ρ ρ' : DEnv}, NoE L ρ ρ' → ∀ {σ : L2.St}, En K F σ ρ → En K F2 σ ρ'
  | _, _, .nil, _, .nil => .nil
  | _, _, .keep hd h, _, .cons x r => .cons (fun y q => by
      obtain ⟨z, a, b⟩ := x y q
      cases q
      exact ⟨z, a, rp_noI kp _ z hd b⟩) (h.en kp r)
  | _, _, .drop h, _, .cons x r => .cons (fun y q => nomatch q) (h.en kp r)
end
end DX
namespace DX
open PySem PySem.Spec L2 PyProof.Rows StX
section
variable {X : Cx} {J : Gh} {e a b o : Expr} {es : List Expr} {kws : List Keyword} {ks : List Str} {ρ : DEnv} {M M1 M2 : Mem} {F F' H H' : Hp} {σ : L2.St} {K : PySem.W.Frag} {pos p apos : Pos} {x m f : Str} {P : D → Mem → Prop} {PA PA' : List D → List D → Mem → Prop} {RR : Addr → List (Str × D) → DEnv → Mem → Prop} {L : List Addr} {TU : TrX} {k : Nat}
theorem EvA.imp (h : EvA X J pos es kws ks ρ M PA) (kk : ∀ ds zs M', PA ds zs M' → PA' ds zs M') : EvA X J pos es kws ks ρ M PA' :=
  fun fv pins σ H F s Qa I st q => h fv pins σ H F s Qa I st fun us ws vs xs ds zs F2 M2 H2 s2 I2 e2 o2 r rx rd rz hl t => q us ws vs xs ds zs F2 M2 H2 s2 I2 e2 o2 r rx rd rz hl (kk _ _ _ t)
end
end DX
namespace DX
open PySem PySem.Spec L2
open PyProof.Rows hiding St
/-- a dict as a value, or the place of one that changes -/
inductive Kw (M : Mem) : D → List (Key × D) → Prop
  | id {kvs : List (Key × D)} : Kw M (.dct kvs) kvs
  | ad {p : Addr} {kvs : List (Key × D)} : M p = some (.dct kvs) → Kw M (.adr p) kvs
section
variable {X : Cx} {J : Gh} {e a b o : Expr} {es : List Expr} {ρ : DEnv} {M M1 : Mem} {F F' H H' : Hp} {σ : St} {K : PySem.W.Frag} {pos p apos : Pos} {x m f : Str} {P : D → Mem → Prop} {B : Bd}
theorem Kw.get {d : D} {kvs : List (Key × D)} {v : V} (w : Kw M d kvs) (k : Ok K F M H) (r : Rp K F v d) : ∃ q vs, v = .ref q ∧ H q = some (.dK vs) ∧ Rks K F vs kvs := by
  cases w with
  | id =>
    cases r with
    | dct h1 h2 => exact ⟨_, _, rfl, k.ex _ _ h1, h2⟩
  | ad h =>
    cases r
    obtain ⟨vs, h1, h2⟩ := (k.mt _ _ h).2
    exact ⟨_, vs, rfl, h1, h2⟩
theorem Rks.len : ∀ {vs : List (Key × V)} {ds : List (Key × D)}, Rks K F vs ds → vs.length = ds.length
  | _, _, .nil => rfl
  | _, _, .cons _ r => congrArg Nat.succ (Rks.len r)
end
end DX
namespace DX
open PySem PySem.Spec L2 GenW
open PyProof.Rows hiding St
/-- what is wanted behind a statement of a generator: what is out, the names, what may change -/
structure GBd where
  nx : List D → DEnv → Mem → Prop
  rt : List D → D → Mem → Prop := fun _ _ _ => False
  bk : List D → DEnv → Mem → Prop := fun _ _ _ => False
  ct : List D → DEnv → Mem → Prop := fun _ _ _ => False
def GBd.at (B : GBd) (ys : List D) : Bd := ⟨B.nx ys, B.rt ys, B.bk ys, B.ct ys⟩
structure KGd (K : PySem.W.Frag) (F : Hp) (B : GBd) (E : GEnds) : Prop where
  nx : ∀ F' σ' H' ρ' M' ys vs, B.nx ys ρ' M' → Same F F' → En K F' σ' ρ' → Ok K F' M' H' → Rps K F' vs ys → E.nx vs σ' H'
  rt : ∀ d v M' F' H' ys vs, B.rt ys d M' → Same F F' → Ok K F' M' H' → Rp K F' v d → Rps K F' vs ys → E.rt vs v H'
  bk : ∀ F' σ' H' ρ' M' ys vs, B.bk ys ρ' M' → Same F F' → En K F' σ' ρ' → Ok K F' M' H' → Rps K F' vs ys → E.bk vs σ' H'
  ct : ∀ F' σ' H' ρ' M' ys vs, B.ct ys ρ' M' → Same F F' → En K F' σ' ρ' → Ok K F' M' H' → Rps K F' vs ys → E.ct vs σ' H'
def tGd (K : PySem.W.Frag) (J : Gh) (ys : List D) (ρ : DEnv) (M : Mem) (B : GBd) : TGn := fun D vs σ H => ∃ F, Sts K J F σ H ρ M ∧ Rps K F vs ys ∧ KGd K F B D
def GGX (X : Cx) (J : Gh) (st : List Stmt) (ys : List D) (ρ : DEnv) (M : Mem) (B : GBd) : Prop := GSs X st (tGd X.K J ys ρ M B)
def GG1 (X : Cx) (J : Gh) (st : Stmt) (ys : List D) (ρ : DEnv) (M : Mem) (B : GBd) : Prop := GS X st (tGd X.K J ys ρ M B)
def tGSe (X : Cx) (st : List Stmt) : TGn := fun D vs σ H => ∃ t, GSs X st t ∧ t D vs σ H
def tGS1 (X : Cx) (st : Stmt) : TGn := fun D vs σ H => ∃ t, GS X st t ∧ t D vs σ H
section
variable {X : Cx} {J : Gh} {e a b c : Expr} {es : List Expr} {st : Stmt} {rest sts : List Stmt} {ys : List D} {ρ ρ' : DEnv} {M M0 M' : Mem} {F F' H H' : Hp} {σ : St} {B : GBd} {K : PySem.W.Frag} {pos p yp : Pos} {E : GEnds}
theorem KGd.to (k : KGd K F B E) (e : Same F F') : KGd K F' B E :=
  ⟨fun F2 σ' H' ρ' M' ys vs p e2 => k.nx F2 σ' H' ρ' M' ys vs p (e.trans e2), fun d v M' F2 H' ys vs p e2 => k.rt d v M' F2 H' ys vs p (e.trans e2), fun F2 σ' H' ρ' M' ys vs p e2 => k.bk F2 σ' H' ρ' M' ys vs p (e.trans e2), fun F2 σ' H' ρ' M' ys vs p e2 => k.ct F2 σ' H' ρ' M' ys vs p (e.trans e2)⟩
theorem GGX.go {vs : List V} (h : GGX X J sts ys ρ M B) (s : Sts X.K J F σ H ρ M) (r : Rps X.K F vs ys) (k : KGd X.K F B E) : tGSe X sts E vs σ H := ⟨_, h, F, s, r, k⟩
theorem GG1.go {vs : List V} (h : GG1 X J st ys ρ M B) (s : Sts X.K J F σ H ρ M) (r : Rps X.K F vs ys) (k : KGd X.K F B E) : tGS1 X st E vs σ H := ⟨_, h, F, s, r, k⟩
end
end DX
namespace DX
open PySem PySem.Spec L2 PyProof.Rows StX
section
variable {X : Cx} {J : Gh} {M : Mem} {P : D → Mem → Prop} {pins : List (Addr × Obj)} {σ : L2.St} {F : Hp} {k : Nat} {C g : Addr} {T : TrX}
/-- two instances of C, equal by f -/
def eqO (C : Addr) (f : D → D → Option D) (a b : D) : Option Unit := (isC C a).bind fun _ => (isC C b).bind fun _ => (f a b).bind fun v => match v with
  | .bl true => some ()
  | _ => none
end
end DX
namespace DX
open PySem PySem.Spec
open L2 PyProof.Rows StX
section
variable {X : Cx} {J : Gh} {e a b o : Expr} {es : List Expr} {kws : List Keyword} {ks : List Str} {ρ : DEnv} {M M1 M2 : Mem} {F F' H H1 H' : Hp} {σ : L2.St} {K : PySem.W.Frag} {pos p rpos : Pos} {x f f1 f2 : Str} {newId : String} {bmB : List Value} {C g : Addr} {fd : FuncData} {ps : List Str} {P : D → Mem → Prop} {pins : List (Addr × Obj)} {s : Shared}
def errNB (newId : String) (bmB : List Value) (K : PySem.W.Frag) (C : Str) : Bool :=
  PySem.W.excIn K (He.ga K C) bmB newId && (PySem.W.keepIn K (.ref (He.ga K C)) && (decide (PySem.W.subIn K (.ref (He.ga K C)) (.type "BaseException") = some true) && decide (PySem.W.typeIn K (.ref (He.ga K C)) = some (.type "type"))))
end
end DX
namespace DX
open PySem PySem.Spec L2 SX
section
variable {α β : Type} {f : D → Option D} {xs : List D}
/-- what holds of what comes -/
def Gives {α : Type} (o : Option α) (Q : α → Prop) : Prop := ∃ y, o = some y ∧ Q y
theorem Gives.bind {o : Option α} {f : α → Option β} {Q : β → Prop} (h : Gives o fun a => Gives (f a) Q) : Gives (o.bind f) Q := by
  obtain ⟨y, rfl, h⟩ := h
  exact h
theorem Gives.imp {o : Option α} {Q Q' : α → Prop} (h : Gives o Q) (k : ∀ a, Q a → Q' a) : Gives o Q' := by
  obtain ⟨y, e, h⟩ := h
  exact ⟨y, e, k y h⟩
end
end DX
namespace My
open PySem PySem.Spec L2 DX SX
noncomputable section
abbrev HzL : List PySem.Str := ["InvalidSize", "InvalidNumber", "InvalidTrial", "InvalidPosition", "InvalidCells", "InvalidOutputs", "InvalidStuck", "InvalidRow", "InvalidCarry", "InvalidWire", "InvalidFault", "InvalidEdit", "InvalidText", "UnknownCommand", "NotAlike", "NotEnough", "Contradicted", "InUse", "NoNode", "NoCell", "NoOutput", "NoPlace", "NoTrial", "NoMark", "NothingToUndo", "NothingToRedo", "Finished", "NotFinished", "TooMany"]
def Hz (Z : Str → Addr) : Prop := (HzL.map Z).Nodup
instance {Z : Str → Addr} : Decidable (Hz Z) := inferInstanceAs (Decidable ((HzL.map Z).Nodup))
end
end My
namespace My
open PySem PySem.Spec L2 DX SX PyProof.Rows StX LamX
def topS (i : Nat) : Stmt := PySem.Challenge.pw_carryprobe_k08_errors_and_their_fields.main.body.getD i (.Pass ⟨0, 0, 0, 0⟩)
abbrev s_Lbegin : Stmt := topS 33
abbrev s_Ltake : Stmt := topS 34
abbrev s_Lthing : Stmt := topS 35
abbrev s_Lmade : Stmt := topS 36
abbrev s_Lkinds : Stmt := topS 39
abbrev s_Lbases : Stmt := topS 40
abbrev s_Lplaced : Stmt := topS 38
abbrev s_Lnamed : Stmt := topS 37
abbrev s_law : Stmt := topS 41
abbrev s_InvalidSize___init__ : Stmt := inClass (topS 2) 0
abbrev s_InvalidNumber___init__ : Stmt := inClass (topS 3) 0
abbrev s_InvalidTrial___init__ : Stmt := inClass (topS 4) 0
abbrev s_InvalidPosition___init__ : Stmt := inClass (topS 5) 0
abbrev s_InvalidCells___init__ : Stmt := inClass (topS 6) 0
abbrev s_InvalidOutputs___init__ : Stmt := inClass (topS 7) 0
abbrev s_InvalidStuck___init__ : Stmt := inClass (topS 8) 0
abbrev s_InvalidRow___init__ : Stmt := inClass (topS 9) 0
abbrev s_InvalidCarry___init__ : Stmt := inClass (topS 10) 0
abbrev s_InvalidWire___init__ : Stmt := inClass (topS 11) 0
abbrev s_InvalidFault___init__ : Stmt := inClass (topS 18) 0
abbrev s_InvalidEdit___init__ : Stmt := inClass (topS 12) 0
abbrev s_InvalidText___init__ : Stmt := inClass (topS 13) 0
abbrev s_UnknownCommand___init__ : Stmt := inClass (topS 14) 0
abbrev s_NotAlike___init__ : Stmt := inClass (topS 15) 0
abbrev s_InUse___init__ : Stmt := inClass (topS 19) 0
abbrev s_NoNode___init__ : Stmt := inClass (topS 21) 0
abbrev s_NoCell___init__ : Stmt := inClass (topS 22) 0
abbrev s_NoOutput___init__ : Stmt := inClass (topS 23) 0
abbrev s_NoPlace___init__ : Stmt := inClass (topS 24) 0
abbrev s_NoTrial___init__ : Stmt := inClass (topS 25) 0
abbrev s_NoMark___init__ : Stmt := inClass (topS 26) 0
abbrev s_TooMany___init__ : Stmt := inClass (topS 31) 0
abbrev tl : TbL := []
def dd_Lbegin : He.DefD := ⟨("_law_begin", none), "_law_begin", "_law_begin", defArgs s_Lbegin, defBody s_Lbegin, defScope s_Lbegin, [], []⟩
def dd_Ltake : He.DefD := ⟨("_law_take", none), "_law_take", "_law_take", defArgs s_Ltake, defBody s_Ltake, defScope s_Ltake, [], []⟩
def dd_Lthing : He.DefD := ⟨("_law_thing", none), "_law_thing", "_law_thing", defArgs s_Lthing, defBody s_Lthing, defScope s_Lthing, [], []⟩
def dd_Lmade : He.DefD := ⟨("_law_made", none), "_law_made", "_law_made", defArgs s_Lmade, defBody s_Lmade, defScope s_Lmade, [], []⟩
def dd_Lkinds : He.DefD := ⟨("_law_kinds", none), "_law_kinds", "_law_kinds", defArgs s_Lkinds, defBody s_Lkinds, defScope s_Lkinds, [], []⟩
def dd_Lbases : He.DefD := ⟨("_law_bases", none), "_law_bases", "_law_bases", defArgs s_Lbases, defBody s_Lbases, defScope s_Lbases, [], []⟩
def dd_Lplaced : He.DefD := ⟨("_law_placed", none), "_law_placed", "_law_placed", defArgs s_Lplaced, defBody s_Lplaced, defScope s_Lplaced, [], []⟩
def dd_Lnamed : He.DefD := ⟨("_law_named", none), "_law_named", "_law_named", defArgs s_Lnamed, defBody s_Lnamed, defScope s_Lnamed, [], []⟩
def dd_law : He.DefD := ⟨("law", none), "law", "law", defArgs s_law, defBody s_law, defScope s_law, [], []⟩
def dd_InvalidSize___init__ : He.DefD := ⟨("InvalidSize", some "__init__"), "__init__", "InvalidSize.__init__", defArgs s_InvalidSize___init__, defBody s_InvalidSize___init__, defScope s_InvalidSize___init__, [], []⟩
def dd_InvalidNumber___init__ : He.DefD := ⟨("InvalidNumber", some "__init__"), "__init__", "InvalidNumber.__init__", defArgs s_InvalidNumber___init__, defBody s_InvalidNumber___init__, defScope s_InvalidNumber___init__, [], []⟩
def dd_InvalidTrial___init__ : He.DefD := ⟨("InvalidTrial", some "__init__"), "__init__", "InvalidTrial.__init__", defArgs s_InvalidTrial___init__, defBody s_InvalidTrial___init__, defScope s_InvalidTrial___init__, [], []⟩
def dd_InvalidPosition___init__ : He.DefD := ⟨("InvalidPosition", some "__init__"), "__init__", "InvalidPosition.__init__", defArgs s_InvalidPosition___init__, defBody s_InvalidPosition___init__, defScope s_InvalidPosition___init__, [], []⟩
def dd_InvalidCells___init__ : He.DefD := ⟨("InvalidCells", some "__init__"), "__init__", "InvalidCells.__init__", defArgs s_InvalidCells___init__, defBody s_InvalidCells___init__, defScope s_InvalidCells___init__, [], []⟩
def dd_InvalidOutputs___init__ : He.DefD := ⟨("InvalidOutputs", some "__init__"), "__init__", "InvalidOutputs.__init__", defArgs s_InvalidOutputs___init__, defBody s_InvalidOutputs___init__, defScope s_InvalidOutputs___init__, [], []⟩
def dd_InvalidStuck___init__ : He.DefD := ⟨("InvalidStuck", some "__init__"), "__init__", "InvalidStuck.__init__", defArgs s_InvalidStuck___init__, defBody s_InvalidStuck___init__, defScope s_InvalidStuck___init__, [], []⟩
def dd_InvalidRow___init__ : He.DefD := ⟨("InvalidRow", some "__init__"), "__init__", "InvalidRow.__init__", defArgs s_InvalidRow___init__, defBody s_InvalidRow___init__, defScope s_InvalidRow___init__, [], []⟩
def dd_InvalidCarry___init__ : He.DefD := ⟨("InvalidCarry", some "__init__"), "__init__", "InvalidCarry.__init__", defArgs s_InvalidCarry___init__, defBody s_InvalidCarry___init__, defScope s_InvalidCarry___init__, [], []⟩
def dd_InvalidWire___init__ : He.DefD := ⟨("InvalidWire", some "__init__"), "__init__", "InvalidWire.__init__", defArgs s_InvalidWire___init__, defBody s_InvalidWire___init__, defScope s_InvalidWire___init__, [], []⟩
def dd_InvalidFault___init__ : He.DefD := ⟨("InvalidFault", some "__init__"), "__init__", "InvalidFault.__init__", defArgs s_InvalidFault___init__, defBody s_InvalidFault___init__, defScope s_InvalidFault___init__, [], []⟩
def dd_InvalidEdit___init__ : He.DefD := ⟨("InvalidEdit", some "__init__"), "__init__", "InvalidEdit.__init__", defArgs s_InvalidEdit___init__, defBody s_InvalidEdit___init__, defScope s_InvalidEdit___init__, [], []⟩
def dd_InvalidText___init__ : He.DefD := ⟨("InvalidText", some "__init__"), "__init__", "InvalidText.__init__", defArgs s_InvalidText___init__, defBody s_InvalidText___init__, defScope s_InvalidText___init__, [], []⟩
def dd_UnknownCommand___init__ : He.DefD := ⟨("UnknownCommand", some "__init__"), "__init__", "UnknownCommand.__init__", defArgs s_UnknownCommand___init__, defBody s_UnknownCommand___init__, defScope s_UnknownCommand___init__, [], []⟩
def dd_NotAlike___init__ : He.DefD := ⟨("NotAlike", some "__init__"), "__init__", "NotAlike.__init__", defArgs s_NotAlike___init__, defBody s_NotAlike___init__, defScope s_NotAlike___init__, [], []⟩
def dd_InUse___init__ : He.DefD := ⟨("InUse", some "__init__"), "__init__", "InUse.__init__", defArgs s_InUse___init__, defBody s_InUse___init__, defScope s_InUse___init__, [], []⟩
def dd_NoNode___init__ : He.DefD := ⟨("NoNode", some "__init__"), "__init__", "NoNode.__init__", defArgs s_NoNode___init__, defBody s_NoNode___init__, defScope s_NoNode___init__, [], []⟩
def dd_NoCell___init__ : He.DefD := ⟨("NoCell", some "__init__"), "__init__", "NoCell.__init__", defArgs s_NoCell___init__, defBody s_NoCell___init__, defScope s_NoCell___init__, [], []⟩
def dd_NoOutput___init__ : He.DefD := ⟨("NoOutput", some "__init__"), "__init__", "NoOutput.__init__", defArgs s_NoOutput___init__, defBody s_NoOutput___init__, defScope s_NoOutput___init__, [], []⟩
def dd_NoPlace___init__ : He.DefD := ⟨("NoPlace", some "__init__"), "__init__", "NoPlace.__init__", defArgs s_NoPlace___init__, defBody s_NoPlace___init__, defScope s_NoPlace___init__, [], []⟩
def dd_NoTrial___init__ : He.DefD := ⟨("NoTrial", some "__init__"), "__init__", "NoTrial.__init__", defArgs s_NoTrial___init__, defBody s_NoTrial___init__, defScope s_NoTrial___init__, [], []⟩
def dd_NoMark___init__ : He.DefD := ⟨("NoMark", some "__init__"), "__init__", "NoMark.__init__", defArgs s_NoMark___init__, defBody s_NoMark___init__, defScope s_NoMark___init__, [], []⟩
def dd_TooMany___init__ : He.DefD := ⟨("TooMany", some "__init__"), "__init__", "TooMany.__init__", defArgs s_TooMany___init__, defBody s_TooMany___init__, defScope s_TooMany___init__, [], []⟩
def fn : List He.DefD := [dd_Lbegin, dd_Ltake, dd_Lthing, dd_Lmade, dd_Lkinds, dd_Lbases, dd_Lplaced, dd_Lnamed, dd_law, dd_InvalidSize___init__, dd_InvalidNumber___init__, dd_InvalidTrial___init__, dd_InvalidPosition___init__, dd_InvalidCells___init__, dd_InvalidOutputs___init__, dd_InvalidStuck___init__, dd_InvalidRow___init__, dd_InvalidCarry___init__, dd_InvalidWire___init__, dd_InvalidFault___init__, dd_InvalidEdit___init__, dd_InvalidText___init__, dd_UnknownCommand___init__, dd_NotAlike___init__, dd_InUse___init__, dd_NoNode___init__, dd_NoCell___init__, dd_NoOutput___init__, dd_NoPlace___init__, dd_NoTrial___init__, dd_NoMark___init__, dd_TooMany___init__]
def fa : List He.Fa := [.glo "_law_begin", .glo "_law_take", .glo "_law_thing", .glo "_law_made", .glo "_law_kinds", .glo "_law_bases", .glo "_law_placed", .glo "_law_named", .glo "law", .glo "TooMany", .glo "NotFinished", .glo "Finished", .glo "NothingToRedo", .glo "NothingToUndo", .glo "NoMark", .glo "NoTrial", .glo "NoPlace", .glo "NoOutput", .glo "NoCell", .glo "NoNode", .glo "InUse", .glo "Contradicted", .glo "NotEnough", .glo "NotAlike", .glo "UnknownCommand", .glo "InvalidText", .glo "InvalidEdit", .glo "InvalidFault", .glo "InvalidWire", .glo "InvalidCarry", .glo "InvalidRow", .glo "InvalidStuck", .glo "InvalidOutputs", .glo "InvalidCells", .glo "InvalidPosition", .glo "InvalidTrial", .glo "InvalidNumber", .glo "InvalidSize", .glo "AbsentError", .glo "ProbeError", .free "IndexError", .free "KeyError", .free "LookupError", .free "OverflowError", .free "ValueError", .free "abs", .free "enumerate", .free "int", .free "isinstance", .free "len", .free "list", .free "range", .free "repr"]
abbrev R : PySem.W.OpenRow := PySem.W.OpenLaw.row PySem.Challenge.rw_carryprobe_k08_errors_and_their_fields
def exq (K : PySem.W.Frag) : Bool := (errB "ValueError.__new__" mroV K "InvalidSize") && (He.eqO (PySem.W.findIn K (.ref (He.ga K "InvalidSize")) "value") (some none)) && (errB "ValueError.__new__" mroV K "InvalidNumber") && (He.eqO (PySem.W.findIn K (.ref (He.ga K "InvalidNumber")) "value") (some none)) && (errB "ValueError.__new__" mroV K "InvalidTrial") && (He.eqO (PySem.W.findIn K (.ref (He.ga K "InvalidTrial")) "value") (some none)) && (errB "ValueError.__new__" mroV K "InvalidPosition") && (He.eqO (PySem.W.findIn K (.ref (He.ga K "InvalidPosition")) "index") (some none)) && (errB "ValueError.__new__" mroV K "InvalidCells") && (He.eqO (PySem.W.findIn K (.ref (He.ga K "InvalidCells")) "index") (some none)) && (errB "ValueError.__new__" mroV K "InvalidOutputs") && (He.eqO (PySem.W.findIn K (.ref (He.ga K "InvalidOutputs")) "index") (some none)) && (errB "ValueError.__new__" mroV K "InvalidStuck") && (He.eqO (PySem.W.findIn K (.ref (He.ga K "InvalidStuck")) "index") (some none)) && (errB "ValueError.__new__" mroV K "InvalidRow") && (He.eqO (PySem.W.findIn K (.ref (He.ga K "InvalidRow")) "value") (some none)) && (errB "ValueError.__new__" mroV K "InvalidCarry") && (He.eqO (PySem.W.findIn K (.ref (He.ga K "InvalidCarry")) "value") (some none)) && (errB "ValueError.__new__" mroV K "InvalidWire") && (He.eqO (PySem.W.findIn K (.ref (He.ga K "InvalidWire")) "value") (some none)) && (errB "ValueError.__new__" mroV K "InvalidFault") && (He.eqO (PySem.W.findIn K (.ref (He.ga K "InvalidFault")) "value") (some none)) && (errB "ValueError.__new__" mroV K "InvalidEdit") && (He.eqO (PySem.W.findIn K (.ref (He.ga K "InvalidEdit")) "index") (some none)) && (errB "ValueError.__new__" mroV K "InvalidText") && (He.eqO (PySem.W.findIn K (.ref (He.ga K "InvalidText")) "line") (some none)) && (He.eqO (PySem.W.findIn K (.ref (He.ga K "InvalidText")) "word") (some none)) && (errB "ValueError.__new__" mroV K "UnknownCommand") && (He.eqO (PySem.W.findIn K (.ref (He.ga K "UnknownCommand")) "word") (some none)) && (errB "ValueError.__new__" mroV K "NotAlike") && (He.eqO (PySem.W.findIn K (.ref (He.ga K "NotAlike")) "first") (some none)) && (He.eqO (PySem.W.findIn K (.ref (He.ga K "NotAlike")) "second") (some none)) && (errNB "ValueError.__new__" mroV K "NotEnough") && (errNB "ValueError.__new__" mroV K "Contradicted") && (errB "ValueError.__new__" mroV K "InUse") && (He.eqO (PySem.W.findIn K (.ref (He.ga K "InUse")) "cell") (some none)) && (errB "LookupError.__new__" mroL K "NoNode") && (He.eqO (PySem.W.findIn K (.ref (He.ga K "NoNode")) "node") (some none)) && (errB "LookupError.__new__" mroL K "NoCell") && (He.eqO (PySem.W.findIn K (.ref (He.ga K "NoCell")) "index") (some none)) && (errB "LookupError.__new__" mroL K "NoOutput") && (He.eqO (PySem.W.findIn K (.ref (He.ga K "NoOutput")) "output") (some none)) && (errB "LookupError.__new__" mroL K "NoPlace") && (He.eqO (PySem.W.findIn K (.ref (He.ga K "NoPlace")) "index") (some none)) && (errB "LookupError.__new__" mroL K "NoTrial") && (He.eqO (PySem.W.findIn K (.ref (He.ga K "NoTrial")) "index") (some none)) && (errB "LookupError.__new__" mroL K "NoMark") && (He.eqO (PySem.W.findIn K (.ref (He.ga K "NoMark")) "name") (some none)) && (errNB "LookupError.__new__" mroL K "NothingToUndo") && (errNB "LookupError.__new__" mroL K "NothingToRedo") && (errNB "LookupError.__new__" mroL K "Finished") && (errNB "LookupError.__new__" mroL K "NotFinished") && (errB "OverflowError.__new__" mroO K "TooMany") && (He.eqO (PySem.W.findIn K (.ref (He.ga K "TooMany")) "most") (some none)) && (allB K (["InvalidSize", "InvalidNumber", "InvalidTrial", "InvalidPosition", "InvalidCells", "InvalidOutputs", "InvalidStuck", "InvalidRow", "InvalidCarry", "InvalidWire", "InvalidFault", "InvalidEdit", "InvalidText", "UnknownCommand", "NotAlike", "NotEnough", "Contradicted", "InUse", "NoNode", "NoCell", "NoOutput", "NoPlace", "NoTrial", "NoMark", "NothingToUndo", "NothingToRedo", "Finished", "NotFinished", "TooMany"] : List PySem.Str) fun C => excB K C) && (allB K (["InvalidSize", "InvalidNumber", "InvalidTrial", "InvalidPosition", "InvalidCells", "InvalidOutputs", "InvalidStuck", "InvalidRow", "InvalidCarry", "InvalidWire", "InvalidFault", "InvalidEdit", "InvalidText", "UnknownCommand", "NotAlike", "NotEnough", "Contradicted", "InUse", "NoNode", "NoCell", "NoOutput", "NoPlace", "NoTrial", "NoMark", "NothingToUndo", "NothingToRedo", "Finished", "NotFinished", "TooMany"] : List PySem.Str) fun C => decide (PySem.W.kitOne K (.ref C) (.ref (He.ga K "InvalidSize")) = some (decide (C ∈ (["InvalidSize"] : List PySem.Str).map (Zk K))))) && ((["NoneType", "bool", "int", "str", "tuple", "list", "dict"] : List String).all fun n => decide (PySem.W.kitOne K (.type n) (.ref (He.ga K "InvalidSize")) = some false)) && (allB K (["InvalidSize", "InvalidNumber", "InvalidTrial", "InvalidPosition", "InvalidCells", "InvalidOutputs", "InvalidStuck", "InvalidRow", "InvalidCarry", "InvalidWire", "InvalidFault", "InvalidEdit", "InvalidText", "UnknownCommand", "NotAlike", "NotEnough", "Contradicted", "InUse", "NoNode", "NoCell", "NoOutput", "NoPlace", "NoTrial", "NoMark", "NothingToUndo", "NothingToRedo", "Finished", "NotFinished", "TooMany"] : List PySem.Str) fun C => decide (PySem.W.kitOne K (.ref C) (.ref (He.ga K "InvalidNumber")) = some (decide (C ∈ (["InvalidNumber"] : List PySem.Str).map (Zk K))))) && ((["NoneType", "bool", "int", "str", "tuple", "list", "dict"] : List String).all fun n => decide (PySem.W.kitOne K (.type n) (.ref (He.ga K "InvalidNumber")) = some false)) && (allB K (["InvalidSize", "InvalidNumber", "InvalidTrial", "InvalidPosition", "InvalidCells", "InvalidOutputs", "InvalidStuck", "InvalidRow", "InvalidCarry", "InvalidWire", "InvalidFault", "InvalidEdit", "InvalidText", "UnknownCommand", "NotAlike", "NotEnough", "Contradicted", "InUse", "NoNode", "NoCell", "NoOutput", "NoPlace", "NoTrial", "NoMark", "NothingToUndo", "NothingToRedo", "Finished", "NotFinished", "TooMany"] : List PySem.Str) fun C => decide (PySem.W.kitOne K (.ref C) (.ref (He.ga K "InvalidTrial")) = some (decide (C ∈ (["InvalidTrial"] : List PySem.Str).map (Zk K))))) && ((["NoneType", "bool", "int", "str", "tuple", "list", "dict"] : List String).all fun n => decide (PySem.W.kitOne K (.type n) (.ref (He.ga K "InvalidTrial")) = some false)) && (allB K (["InvalidSize", "InvalidNumber", "InvalidTrial", "InvalidPosition", "InvalidCells", "InvalidOutputs", "InvalidStuck", "InvalidRow", "InvalidCarry", "InvalidWire", "InvalidFault", "InvalidEdit", "InvalidText", "UnknownCommand", "NotAlike", "NotEnough", "Contradicted", "InUse", "NoNode", "NoCell", "NoOutput", "NoPlace", "NoTrial", "NoMark", "NothingToUndo", "NothingToRedo", "Finished", "NotFinished", "TooMany"] : List PySem.Str) fun C => decide (PySem.W.kitOne K (.ref C) (.ref (He.ga K "InvalidPosition")) = some (decide (C ∈ (["InvalidPosition"] : List PySem.Str).map (Zk K))))) && ((["NoneType", "bool", "int", "str", "tuple", "list", "dict"] : List String).all fun n => decide (PySem.W.kitOne K (.type n) (.ref (He.ga K "InvalidPosition")) = some false)) && (allB K (["InvalidSize", "InvalidNumber", "InvalidTrial", "InvalidPosition", "InvalidCells", "InvalidOutputs", "InvalidStuck", "InvalidRow", "InvalidCarry", "InvalidWire", "InvalidFault", "InvalidEdit", "InvalidText", "UnknownCommand", "NotAlike", "NotEnough", "Contradicted", "InUse", "NoNode", "NoCell", "NoOutput", "NoPlace", "NoTrial", "NoMark", "NothingToUndo", "NothingToRedo", "Finished", "NotFinished", "TooMany"] : List PySem.Str) fun C => decide (PySem.W.kitOne K (.ref C) (.ref (He.ga K "InvalidCells")) = some (decide (C ∈ (["InvalidCells"] : List PySem.Str).map (Zk K))))) && ((["NoneType", "bool", "int", "str", "tuple", "list", "dict"] : List String).all fun n => decide (PySem.W.kitOne K (.type n) (.ref (He.ga K "InvalidCells")) = some false)) && (allB K (["InvalidSize", "InvalidNumber", "InvalidTrial", "InvalidPosition", "InvalidCells", "InvalidOutputs", "InvalidStuck", "InvalidRow", "InvalidCarry", "InvalidWire", "InvalidFault", "InvalidEdit", "InvalidText", "UnknownCommand", "NotAlike", "NotEnough", "Contradicted", "InUse", "NoNode", "NoCell", "NoOutput", "NoPlace", "NoTrial", "NoMark", "NothingToUndo", "NothingToRedo", "Finished", "NotFinished", "TooMany"] : List PySem.Str) fun C => decide (PySem.W.kitOne K (.ref C) (.ref (He.ga K "InvalidOutputs")) = some (decide (C ∈ (["InvalidOutputs"] : List PySem.Str).map (Zk K))))) && ((["NoneType", "bool", "int", "str", "tuple", "list", "dict"] : List String).all fun n => decide (PySem.W.kitOne K (.type n) (.ref (He.ga K "InvalidOutputs")) = some false)) && (allB K (["InvalidSize", "InvalidNumber", "InvalidTrial", "InvalidPosition", "InvalidCells", "InvalidOutputs", "InvalidStuck", "InvalidRow", "InvalidCarry", "InvalidWire", "InvalidFault", "InvalidEdit", "InvalidText", "UnknownCommand", "NotAlike", "NotEnough", "Contradicted", "InUse", "NoNode", "NoCell", "NoOutput", "NoPlace", "NoTrial", "NoMark", "NothingToUndo", "NothingToRedo", "Finished", "NotFinished", "TooMany"] : List PySem.Str) fun C => decide (PySem.W.kitOne K (.ref C) (.ref (He.ga K "InvalidStuck")) = some (decide (C ∈ (["InvalidStuck"] : List PySem.Str).map (Zk K))))) && ((["NoneType", "bool", "int", "str", "tuple", "list", "dict"] : List String).all fun n => decide (PySem.W.kitOne K (.type n) (.ref (He.ga K "InvalidStuck")) = some false)) && (allB K (["InvalidSize", "InvalidNumber", "InvalidTrial", "InvalidPosition", "InvalidCells", "InvalidOutputs", "InvalidStuck", "InvalidRow", "InvalidCarry", "InvalidWire", "InvalidFault", "InvalidEdit", "InvalidText", "UnknownCommand", "NotAlike", "NotEnough", "Contradicted", "InUse", "NoNode", "NoCell", "NoOutput", "NoPlace", "NoTrial", "NoMark", "NothingToUndo", "NothingToRedo", "Finished", "NotFinished", "TooMany"] : List PySem.Str) fun C => decide (PySem.W.kitOne K (.ref C) (.ref (He.ga K "InvalidRow")) = some (decide (C ∈ (["InvalidRow"] : List PySem.Str).map (Zk K))))) && ((["NoneType", "bool", "int", "str", "tuple", "list", "dict"] : List String).all fun n => decide (PySem.W.kitOne K (.type n) (.ref (He.ga K "InvalidRow")) = some false)) && (allB K (["InvalidSize", "InvalidNumber", "InvalidTrial", "InvalidPosition", "InvalidCells", "InvalidOutputs", "InvalidStuck", "InvalidRow", "InvalidCarry", "InvalidWire", "InvalidFault", "InvalidEdit", "InvalidText", "UnknownCommand", "NotAlike", "NotEnough", "Contradicted", "InUse", "NoNode", "NoCell", "NoOutput", "NoPlace", "NoTrial", "NoMark", "NothingToUndo", "NothingToRedo", "Finished", "NotFinished", "TooMany"] : List PySem.Str) fun C => decide (PySem.W.kitOne K (.ref C) (.ref (He.ga K "InvalidCarry")) = some (decide (C ∈ (["InvalidCarry"] : List PySem.Str).map (Zk K))))) && ((["NoneType", "bool", "int", "str", "tuple", "list", "dict"] : List String).all fun n => decide (PySem.W.kitOne K (.type n) (.ref (He.ga K "InvalidCarry")) = some false)) && (allB K (["InvalidSize", "InvalidNumber", "InvalidTrial", "InvalidPosition", "InvalidCells", "InvalidOutputs", "InvalidStuck", "InvalidRow", "InvalidCarry", "InvalidWire", "InvalidFault", "InvalidEdit", "InvalidText", "UnknownCommand", "NotAlike", "NotEnough", "Contradicted", "InUse", "NoNode", "NoCell", "NoOutput", "NoPlace", "NoTrial", "NoMark", "NothingToUndo", "NothingToRedo", "Finished", "NotFinished", "TooMany"] : List PySem.Str) fun C => decide (PySem.W.kitOne K (.ref C) (.ref (He.ga K "InvalidWire")) = some (decide (C ∈ (["InvalidWire"] : List PySem.Str).map (Zk K))))) && ((["NoneType", "bool", "int", "str", "tuple", "list", "dict"] : List String).all fun n => decide (PySem.W.kitOne K (.type n) (.ref (He.ga K "InvalidWire")) = some false)) && (allB K (["InvalidSize", "InvalidNumber", "InvalidTrial", "InvalidPosition", "InvalidCells", "InvalidOutputs", "InvalidStuck", "InvalidRow", "InvalidCarry", "InvalidWire", "InvalidFault", "InvalidEdit", "InvalidText", "UnknownCommand", "NotAlike", "NotEnough", "Contradicted", "InUse", "NoNode", "NoCell", "NoOutput", "NoPlace", "NoTrial", "NoMark", "NothingToUndo", "NothingToRedo", "Finished", "NotFinished", "TooMany"] : List PySem.Str) fun C => decide (PySem.W.kitOne K (.ref C) (.ref (He.ga K "InvalidFault")) = some (decide (C ∈ (["InvalidFault"] : List PySem.Str).map (Zk K))))) && ((["NoneType", "bool", "int", "str", "tuple", "list", "dict"] : List String).all fun n => decide (PySem.W.kitOne K (.type n) (.ref (He.ga K "InvalidFault")) = some false)) && (allB K (["InvalidSize", "InvalidNumber", "InvalidTrial", "InvalidPosition", "InvalidCells", "InvalidOutputs", "InvalidStuck", "InvalidRow", "InvalidCarry", "InvalidWire", "InvalidFault", "InvalidEdit", "InvalidText", "UnknownCommand", "NotAlike", "NotEnough", "Contradicted", "InUse", "NoNode", "NoCell", "NoOutput", "NoPlace", "NoTrial", "NoMark", "NothingToUndo", "NothingToRedo", "Finished", "NotFinished", "TooMany"] : List PySem.Str) fun C => decide (PySem.W.kitOne K (.ref C) (.ref (He.ga K "InvalidEdit")) = some (decide (C ∈ (["InvalidEdit"] : List PySem.Str).map (Zk K))))) && ((["NoneType", "bool", "int", "str", "tuple", "list", "dict"] : List String).all fun n => decide (PySem.W.kitOne K (.type n) (.ref (He.ga K "InvalidEdit")) = some false)) && (allB K (["InvalidSize", "InvalidNumber", "InvalidTrial", "InvalidPosition", "InvalidCells", "InvalidOutputs", "InvalidStuck", "InvalidRow", "InvalidCarry", "InvalidWire", "InvalidFault", "InvalidEdit", "InvalidText", "UnknownCommand", "NotAlike", "NotEnough", "Contradicted", "InUse", "NoNode", "NoCell", "NoOutput", "NoPlace", "NoTrial", "NoMark", "NothingToUndo", "NothingToRedo", "Finished", "NotFinished", "TooMany"] : List PySem.Str) fun C => decide (PySem.W.kitOne K (.ref C) (.ref (He.ga K "InvalidText")) = some (decide (C ∈ (["InvalidText"] : List PySem.Str).map (Zk K))))) && ((["NoneType", "bool", "int", "str", "tuple", "list", "dict"] : List String).all fun n => decide (PySem.W.kitOne K (.type n) (.ref (He.ga K "InvalidText")) = some false)) && (allB K (["InvalidSize", "InvalidNumber", "InvalidTrial", "InvalidPosition", "InvalidCells", "InvalidOutputs", "InvalidStuck", "InvalidRow", "InvalidCarry", "InvalidWire", "InvalidFault", "InvalidEdit", "InvalidText", "UnknownCommand", "NotAlike", "NotEnough", "Contradicted", "InUse", "NoNode", "NoCell", "NoOutput", "NoPlace", "NoTrial", "NoMark", "NothingToUndo", "NothingToRedo", "Finished", "NotFinished", "TooMany"] : List PySem.Str) fun C => decide (PySem.W.kitOne K (.ref C) (.ref (He.ga K "UnknownCommand")) = some (decide (C ∈ (["UnknownCommand"] : List PySem.Str).map (Zk K))))) && ((["NoneType", "bool", "int", "str", "tuple", "list", "dict"] : List String).all fun n => decide (PySem.W.kitOne K (.type n) (.ref (He.ga K "UnknownCommand")) = some false)) && (allB K (["InvalidSize", "InvalidNumber", "InvalidTrial", "InvalidPosition", "InvalidCells", "InvalidOutputs", "InvalidStuck", "InvalidRow", "InvalidCarry", "InvalidWire", "InvalidFault", "InvalidEdit", "InvalidText", "UnknownCommand", "NotAlike", "NotEnough", "Contradicted", "InUse", "NoNode", "NoCell", "NoOutput", "NoPlace", "NoTrial", "NoMark", "NothingToUndo", "NothingToRedo", "Finished", "NotFinished", "TooMany"] : List PySem.Str) fun C => decide (PySem.W.kitOne K (.ref C) (.ref (He.ga K "NotAlike")) = some (decide (C ∈ (["NotAlike"] : List PySem.Str).map (Zk K))))) && ((["NoneType", "bool", "int", "str", "tuple", "list", "dict"] : List String).all fun n => decide (PySem.W.kitOne K (.type n) (.ref (He.ga K "NotAlike")) = some false)) && (allB K (["InvalidSize", "InvalidNumber", "InvalidTrial", "InvalidPosition", "InvalidCells", "InvalidOutputs", "InvalidStuck", "InvalidRow", "InvalidCarry", "InvalidWire", "InvalidFault", "InvalidEdit", "InvalidText", "UnknownCommand", "NotAlike", "NotEnough", "Contradicted", "InUse", "NoNode", "NoCell", "NoOutput", "NoPlace", "NoTrial", "NoMark", "NothingToUndo", "NothingToRedo", "Finished", "NotFinished", "TooMany"] : List PySem.Str) fun C => decide (PySem.W.kitOne K (.ref C) (.ref (He.ga K "NotEnough")) = some (decide (C ∈ (["NotEnough"] : List PySem.Str).map (Zk K))))) && ((["NoneType", "bool", "int", "str", "tuple", "list", "dict"] : List String).all fun n => decide (PySem.W.kitOne K (.type n) (.ref (He.ga K "NotEnough")) = some false)) && (allB K (["InvalidSize", "InvalidNumber", "InvalidTrial", "InvalidPosition", "InvalidCells", "InvalidOutputs", "InvalidStuck", "InvalidRow", "InvalidCarry", "InvalidWire", "InvalidFault", "InvalidEdit", "InvalidText", "UnknownCommand", "NotAlike", "NotEnough", "Contradicted", "InUse", "NoNode", "NoCell", "NoOutput", "NoPlace", "NoTrial", "NoMark", "NothingToUndo", "NothingToRedo", "Finished", "NotFinished", "TooMany"] : List PySem.Str) fun C => decide (PySem.W.kitOne K (.ref C) (.ref (He.ga K "Contradicted")) = some (decide (C ∈ (["Contradicted"] : List PySem.Str).map (Zk K))))) && ((["NoneType", "bool", "int", "str", "tuple", "list", "dict"] : List String).all fun n => decide (PySem.W.kitOne K (.type n) (.ref (He.ga K "Contradicted")) = some false)) && (allB K (["InvalidSize", "InvalidNumber", "InvalidTrial", "InvalidPosition", "InvalidCells", "InvalidOutputs", "InvalidStuck", "InvalidRow", "InvalidCarry", "InvalidWire", "InvalidFault", "InvalidEdit", "InvalidText", "UnknownCommand", "NotAlike", "NotEnough", "Contradicted", "InUse", "NoNode", "NoCell", "NoOutput", "NoPlace", "NoTrial", "NoMark", "NothingToUndo", "NothingToRedo", "Finished", "NotFinished", "TooMany"] : List PySem.Str) fun C => decide (PySem.W.kitOne K (.ref C) (.ref (He.ga K "InUse")) = some (decide (C ∈ (["InUse"] : List PySem.Str).map (Zk K))))) && ((["NoneType", "bool", "int", "str", "tuple", "list", "dict"] : List String).all fun n => decide (PySem.W.kitOne K (.type n) (.ref (He.ga K "InUse")) = some false)) && (allB K (["InvalidSize", "InvalidNumber", "InvalidTrial", "InvalidPosition", "InvalidCells", "InvalidOutputs", "InvalidStuck", "InvalidRow", "InvalidCarry", "InvalidWire", "InvalidFault", "InvalidEdit", "InvalidText", "UnknownCommand", "NotAlike", "NotEnough", "Contradicted", "InUse", "NoNode", "NoCell", "NoOutput", "NoPlace", "NoTrial", "NoMark", "NothingToUndo", "NothingToRedo", "Finished", "NotFinished", "TooMany"] : List PySem.Str) fun C => decide (PySem.W.kitOne K (.ref C) (.ref (He.ga K "NoNode")) = some (decide (C ∈ (["NoNode"] : List PySem.Str).map (Zk K))))) && ((["NoneType", "bool", "int", "str", "tuple", "list", "dict"] : List String).all fun n => decide (PySem.W.kitOne K (.type n) (.ref (He.ga K "NoNode")) = some false)) && (allB K (["InvalidSize", "InvalidNumber", "InvalidTrial", "InvalidPosition", "InvalidCells", "InvalidOutputs", "InvalidStuck", "InvalidRow", "InvalidCarry", "InvalidWire", "InvalidFault", "InvalidEdit", "InvalidText", "UnknownCommand", "NotAlike", "NotEnough", "Contradicted", "InUse", "NoNode", "NoCell", "NoOutput", "NoPlace", "NoTrial", "NoMark", "NothingToUndo", "NothingToRedo", "Finished", "NotFinished", "TooMany"] : List PySem.Str) fun C => decide (PySem.W.kitOne K (.ref C) (.ref (He.ga K "NoCell")) = some (decide (C ∈ (["NoCell"] : List PySem.Str).map (Zk K))))) && ((["NoneType", "bool", "int", "str", "tuple", "list", "dict"] : List String).all fun n => decide (PySem.W.kitOne K (.type n) (.ref (He.ga K "NoCell")) = some false)) && (allB K (["InvalidSize", "InvalidNumber", "InvalidTrial", "InvalidPosition", "InvalidCells", "InvalidOutputs", "InvalidStuck", "InvalidRow", "InvalidCarry", "InvalidWire", "InvalidFault", "InvalidEdit", "InvalidText", "UnknownCommand", "NotAlike", "NotEnough", "Contradicted", "InUse", "NoNode", "NoCell", "NoOutput", "NoPlace", "NoTrial", "NoMark", "NothingToUndo", "NothingToRedo", "Finished", "NotFinished", "TooMany"] : List PySem.Str) fun C => decide (PySem.W.kitOne K (.ref C) (.ref (He.ga K "NoOutput")) = some (decide (C ∈ (["NoOutput"] : List PySem.Str).map (Zk K))))) && ((["NoneType", "bool", "int", "str", "tuple", "list", "dict"] : List String).all fun n => decide (PySem.W.kitOne K (.type n) (.ref (He.ga K "NoOutput")) = some false)) && (allB K (["InvalidSize", "InvalidNumber", "InvalidTrial", "InvalidPosition", "InvalidCells", "InvalidOutputs", "InvalidStuck", "InvalidRow", "InvalidCarry", "InvalidWire", "InvalidFault", "InvalidEdit", "InvalidText", "UnknownCommand", "NotAlike", "NotEnough", "Contradicted", "InUse", "NoNode", "NoCell", "NoOutput", "NoPlace", "NoTrial", "NoMark", "NothingToUndo", "NothingToRedo", "Finished", "NotFinished", "TooMany"] : List PySem.Str) fun C => decide (PySem.W.kitOne K (.ref C) (.ref (He.ga K "NoPlace")) = some (decide (C ∈ (["NoPlace"] : List PySem.Str).map (Zk K))))) && ((["NoneType", "bool", "int", "str", "tuple", "list", "dict"] : List String).all fun n => decide (PySem.W.kitOne K (.type n) (.ref (He.ga K "NoPlace")) = some false)) && (allB K (["InvalidSize", "InvalidNumber", "InvalidTrial", "InvalidPosition", "InvalidCells", "InvalidOutputs", "InvalidStuck", "InvalidRow", "InvalidCarry", "InvalidWire", "InvalidFault", "InvalidEdit", "InvalidText", "UnknownCommand", "NotAlike", "NotEnough", "Contradicted", "InUse", "NoNode", "NoCell", "NoOutput", "NoPlace", "NoTrial", "NoMark", "NothingToUndo", "NothingToRedo", "Finished", "NotFinished", "TooMany"] : List PySem.Str) fun C => decide (PySem.W.kitOne K (.ref C) (.ref (He.ga K "NoTrial")) = some (decide (C ∈ (["NoTrial"] : List PySem.Str).map (Zk K))))) && ((["NoneType", "bool", "int", "str", "tuple", "list", "dict"] : List String).all fun n => decide (PySem.W.kitOne K (.type n) (.ref (He.ga K "NoTrial")) = some false)) && (allB K (["InvalidSize", "InvalidNumber", "InvalidTrial", "InvalidPosition", "InvalidCells", "InvalidOutputs", "InvalidStuck", "InvalidRow", "InvalidCarry", "InvalidWire", "InvalidFault", "InvalidEdit", "InvalidText", "UnknownCommand", "NotAlike", "NotEnough", "Contradicted", "InUse", "NoNode", "NoCell", "NoOutput", "NoPlace", "NoTrial", "NoMark", "NothingToUndo", "NothingToRedo", "Finished", "NotFinished", "TooMany"] : List PySem.Str) fun C => decide (PySem.W.kitOne K (.ref C) (.ref (He.ga K "NoMark")) = some (decide (C ∈ (["NoMark"] : List PySem.Str).map (Zk K))))) && ((["NoneType", "bool", "int", "str", "tuple", "list", "dict"] : List String).all fun n => decide (PySem.W.kitOne K (.type n) (.ref (He.ga K "NoMark")) = some false)) && (allB K (["InvalidSize", "InvalidNumber", "InvalidTrial", "InvalidPosition", "InvalidCells", "InvalidOutputs", "InvalidStuck", "InvalidRow", "InvalidCarry", "InvalidWire", "InvalidFault", "InvalidEdit", "InvalidText", "UnknownCommand", "NotAlike", "NotEnough", "Contradicted", "InUse", "NoNode", "NoCell", "NoOutput", "NoPlace", "NoTrial", "NoMark", "NothingToUndo", "NothingToRedo", "Finished", "NotFinished", "TooMany"] : List PySem.Str) fun C => decide (PySem.W.kitOne K (.ref C) (.ref (He.ga K "NothingToUndo")) = some (decide (C ∈ (["NothingToUndo"] : List PySem.Str).map (Zk K))))) && ((["NoneType", "bool", "int", "str", "tuple", "list", "dict"] : List String).all fun n => decide (PySem.W.kitOne K (.type n) (.ref (He.ga K "NothingToUndo")) = some false)) && (allB K (["InvalidSize", "InvalidNumber", "InvalidTrial", "InvalidPosition", "InvalidCells", "InvalidOutputs", "InvalidStuck", "InvalidRow", "InvalidCarry", "InvalidWire", "InvalidFault", "InvalidEdit", "InvalidText", "UnknownCommand", "NotAlike", "NotEnough", "Contradicted", "InUse", "NoNode", "NoCell", "NoOutput", "NoPlace", "NoTrial", "NoMark", "NothingToUndo", "NothingToRedo", "Finished", "NotFinished", "TooMany"] : List PySem.Str) fun C => decide (PySem.W.kitOne K (.ref C) (.ref (He.ga K "NothingToRedo")) = some (decide (C ∈ (["NothingToRedo"] : List PySem.Str).map (Zk K))))) && ((["NoneType", "bool", "int", "str", "tuple", "list", "dict"] : List String).all fun n => decide (PySem.W.kitOne K (.type n) (.ref (He.ga K "NothingToRedo")) = some false)) && (allB K (["InvalidSize", "InvalidNumber", "InvalidTrial", "InvalidPosition", "InvalidCells", "InvalidOutputs", "InvalidStuck", "InvalidRow", "InvalidCarry", "InvalidWire", "InvalidFault", "InvalidEdit", "InvalidText", "UnknownCommand", "NotAlike", "NotEnough", "Contradicted", "InUse", "NoNode", "NoCell", "NoOutput", "NoPlace", "NoTrial", "NoMark", "NothingToUndo", "NothingToRedo", "Finished", "NotFinished", "TooMany"] : List PySem.Str) fun C => decide (PySem.W.kitOne K (.ref C) (.ref (He.ga K "Finished")) = some (decide (C ∈ (["Finished"] : List PySem.Str).map (Zk K))))) && ((["NoneType", "bool", "int", "str", "tuple", "list", "dict"] : List String).all fun n => decide (PySem.W.kitOne K (.type n) (.ref (He.ga K "Finished")) = some false)) && (allB K (["InvalidSize", "InvalidNumber", "InvalidTrial", "InvalidPosition", "InvalidCells", "InvalidOutputs", "InvalidStuck", "InvalidRow", "InvalidCarry", "InvalidWire", "InvalidFault", "InvalidEdit", "InvalidText", "UnknownCommand", "NotAlike", "NotEnough", "Contradicted", "InUse", "NoNode", "NoCell", "NoOutput", "NoPlace", "NoTrial", "NoMark", "NothingToUndo", "NothingToRedo", "Finished", "NotFinished", "TooMany"] : List PySem.Str) fun C => decide (PySem.W.kitOne K (.ref C) (.ref (He.ga K "NotFinished")) = some (decide (C ∈ (["NotFinished"] : List PySem.Str).map (Zk K))))) && ((["NoneType", "bool", "int", "str", "tuple", "list", "dict"] : List String).all fun n => decide (PySem.W.kitOne K (.type n) (.ref (He.ga K "NotFinished")) = some false)) && (allB K (["InvalidSize", "InvalidNumber", "InvalidTrial", "InvalidPosition", "InvalidCells", "InvalidOutputs", "InvalidStuck", "InvalidRow", "InvalidCarry", "InvalidWire", "InvalidFault", "InvalidEdit", "InvalidText", "UnknownCommand", "NotAlike", "NotEnough", "Contradicted", "InUse", "NoNode", "NoCell", "NoOutput", "NoPlace", "NoTrial", "NoMark", "NothingToUndo", "NothingToRedo", "Finished", "NotFinished", "TooMany"] : List PySem.Str) fun C => decide (PySem.W.kitOne K (.ref C) (.ref (He.ga K "TooMany")) = some (decide (C ∈ (["TooMany"] : List PySem.Str).map (Zk K))))) && ((["NoneType", "bool", "int", "str", "tuple", "list", "dict"] : List String).all fun n => decide (PySem.W.kitOne K (.type n) (.ref (He.ga K "TooMany")) = some false)) && (allB K (["InvalidSize", "InvalidNumber", "InvalidTrial", "InvalidPosition", "InvalidCells", "InvalidOutputs", "InvalidStuck", "InvalidRow", "InvalidCarry", "InvalidWire", "InvalidFault", "InvalidEdit", "InvalidText", "UnknownCommand", "NotAlike", "NotEnough", "Contradicted", "InUse", "NoNode", "NoCell", "NoOutput", "NoPlace", "NoTrial", "NoMark", "NothingToUndo", "NothingToRedo", "Finished", "NotFinished", "TooMany"] : List PySem.Str) fun C => decide (PySem.W.kitOne K (.ref C) (.ref (He.ga K "ProbeError")) = some (decide (C ∈ (["InvalidSize", "InvalidNumber", "InvalidTrial", "InvalidPosition", "InvalidCells", "InvalidOutputs", "InvalidStuck", "InvalidRow", "InvalidCarry", "InvalidWire", "InvalidFault", "InvalidEdit", "InvalidText", "UnknownCommand", "NotAlike", "NotEnough", "Contradicted", "InUse"] : List PySem.Str).map (Zk K))))) && ((["NoneType", "bool", "int", "str", "tuple", "list", "dict"] : List String).all fun n => decide (PySem.W.kitOne K (.type n) (.ref (He.ga K "ProbeError")) = some false)) && (allB K (["InvalidSize", "InvalidNumber", "InvalidTrial", "InvalidPosition", "InvalidCells", "InvalidOutputs", "InvalidStuck", "InvalidRow", "InvalidCarry", "InvalidWire", "InvalidFault", "InvalidEdit", "InvalidText", "UnknownCommand", "NotAlike", "NotEnough", "Contradicted", "InUse", "NoNode", "NoCell", "NoOutput", "NoPlace", "NoTrial", "NoMark", "NothingToUndo", "NothingToRedo", "Finished", "NotFinished", "TooMany"] : List PySem.Str) fun C => decide (PySem.W.kitOne K (.ref C) (.type "ValueError") = some (decide (C ∈ (["InvalidSize", "InvalidNumber", "InvalidTrial", "InvalidPosition", "InvalidCells", "InvalidOutputs", "InvalidStuck", "InvalidRow", "InvalidCarry", "InvalidWire", "InvalidFault", "InvalidEdit", "InvalidText", "UnknownCommand", "NotAlike", "NotEnough", "Contradicted", "InUse"] : List PySem.Str).map (Zk K))))) && ((["NoneType", "bool", "int", "str", "tuple", "list", "dict"] : List String).all fun n => decide (PySem.W.kitOne K (.type n) (.type "ValueError") = some false)) && (allB K (["InvalidSize", "InvalidNumber", "InvalidTrial", "InvalidPosition", "InvalidCells", "InvalidOutputs", "InvalidStuck", "InvalidRow", "InvalidCarry", "InvalidWire", "InvalidFault", "InvalidEdit", "InvalidText", "UnknownCommand", "NotAlike", "NotEnough", "Contradicted", "InUse", "NoNode", "NoCell", "NoOutput", "NoPlace", "NoTrial", "NoMark", "NothingToUndo", "NothingToRedo", "Finished", "NotFinished", "TooMany"] : List PySem.Str) fun C => decide (PySem.W.kitOne K (.ref C) (.ref (He.ga K "AbsentError")) = some (decide (C ∈ (["NoNode", "NoCell", "NoOutput", "NoPlace", "NoTrial", "NoMark", "NothingToUndo", "NothingToRedo", "Finished", "NotFinished"] : List PySem.Str).map (Zk K))))) && ((["NoneType", "bool", "int", "str", "tuple", "list", "dict"] : List String).all fun n => decide (PySem.W.kitOne K (.type n) (.ref (He.ga K "AbsentError")) = some false)) && (allB K (["InvalidSize", "InvalidNumber", "InvalidTrial", "InvalidPosition", "InvalidCells", "InvalidOutputs", "InvalidStuck", "InvalidRow", "InvalidCarry", "InvalidWire", "InvalidFault", "InvalidEdit", "InvalidText", "UnknownCommand", "NotAlike", "NotEnough", "Contradicted", "InUse", "NoNode", "NoCell", "NoOutput", "NoPlace", "NoTrial", "NoMark", "NothingToUndo", "NothingToRedo", "Finished", "NotFinished", "TooMany"] : List PySem.Str) fun C => decide (PySem.W.kitOne K (.ref C) (.type "LookupError") = some (decide (C ∈ (["NoNode", "NoCell", "NoOutput", "NoPlace", "NoTrial", "NoMark", "NothingToUndo", "NothingToRedo", "Finished", "NotFinished"] : List PySem.Str).map (Zk K))))) && ((["NoneType", "bool", "int", "str", "tuple", "list", "dict"] : List String).all fun n => decide (PySem.W.kitOne K (.type n) (.type "LookupError") = some false)) && (allB K (["InvalidSize", "InvalidNumber", "InvalidTrial", "InvalidPosition", "InvalidCells", "InvalidOutputs", "InvalidStuck", "InvalidRow", "InvalidCarry", "InvalidWire", "InvalidFault", "InvalidEdit", "InvalidText", "UnknownCommand", "NotAlike", "NotEnough", "Contradicted", "InUse", "NoNode", "NoCell", "NoOutput", "NoPlace", "NoTrial", "NoMark", "NothingToUndo", "NothingToRedo", "Finished", "NotFinished", "TooMany"] : List PySem.Str) fun C => decide (PySem.W.kitAny K (.ref C) [.type "KeyError", .type "IndexError"] = some (decide (C ∈ ([] : List PySem.Str).map (Zk K))))) && ((["NoneType", "bool", "int", "str", "tuple", "list", "dict"] : List String).all fun n => decide (PySem.W.kitAny K (.type n) [.type "KeyError", .type "IndexError"] = some false)) && (allB K (["InvalidSize", "InvalidNumber", "InvalidTrial", "InvalidPosition", "InvalidCells", "InvalidOutputs", "InvalidStuck", "InvalidRow", "InvalidCarry", "InvalidWire", "InvalidFault", "InvalidEdit", "InvalidText", "UnknownCommand", "NotAlike", "NotEnough", "Contradicted", "InUse", "NoNode", "NoCell", "NoOutput", "NoPlace", "NoTrial", "NoMark", "NothingToUndo", "NothingToRedo", "Finished", "NotFinished", "TooMany"] : List PySem.Str) fun C => decide (PySem.W.kitOne K (.ref C) (.type "OverflowError") = some (decide (C ∈ (["TooMany"] : List PySem.Str).map (Zk K))))) && ((["NoneType", "bool", "int", "str", "tuple", "list", "dict"] : List String).all fun n => decide (PySem.W.kitOne K (.type n) (.type "OverflowError") = some false)) && (allB K (["InvalidSize", "InvalidNumber", "InvalidTrial", "InvalidRow", "InvalidCarry", "InvalidWire", "InvalidFault"] : List PySem.Str) fun C => (excB K C && He.eqO (PySem.W.findIn K (.ref C) "value") (some none))) && (allB K (["InvalidPosition", "InvalidCells", "InvalidOutputs", "InvalidStuck", "InvalidEdit", "NoCell", "NoPlace", "NoTrial"] : List PySem.Str) fun C => (excB K C && He.eqO (PySem.W.findIn K (.ref C) "index") (some none))) && (allB K (["InvalidText"] : List PySem.Str) fun C => (excB K C && He.eqO (PySem.W.findIn K (.ref C) "line") (some none))) && (allB K (["InvalidText", "UnknownCommand"] : List PySem.Str) fun C => (excB K C && He.eqO (PySem.W.findIn K (.ref C) "word") (some none))) && (allB K (["NotAlike"] : List PySem.Str) fun C => (excB K C && He.eqO (PySem.W.findIn K (.ref C) "first") (some none))) && (allB K (["InUse"] : List PySem.Str) fun C => (excB K C && He.eqO (PySem.W.findIn K (.ref C) "cell") (some none))) && (allB K (["NoNode"] : List PySem.Str) fun C => (excB K C && He.eqO (PySem.W.findIn K (.ref C) "node") (some none))) && (allB K (["NoOutput"] : List PySem.Str) fun C => (excB K C && He.eqO (PySem.W.findIn K (.ref C) "output") (some none))) && (allB K (["NoMark"] : List PySem.Str) fun C => (excB K C && He.eqO (PySem.W.findIn K (.ref C) "name") (some none))) && (allB K (["TooMany"] : List PySem.Str) fun C => (excB K C && He.eqO (PySem.W.findIn K (.ref C) "most") (some none))) && (allB K (["NotAlike"] : List PySem.Str) fun C => (excB K C && He.eqO (PySem.W.findIn K (.ref C) "second") (some none))) && (decide (Hz (Zk K))) && sysB K
def pr : List DX.PrD := []
abbrev hk : PySem.W.Hook := DX.hookT 5 fa fn pr exq tl
def ob (s : PySem.W.SharedT) : DX.LookT := DX.lookT fa fn pr exq tl 5 (HandSHeadRun.getT s)
def loose : List PySem.Str := (["ProbeError", "InvalidSize", "InvalidNumber", "InvalidTrial", "InvalidPosition", "InvalidCells", "InvalidOutputs", "InvalidStuck", "InvalidRow", "InvalidCarry", "InvalidWire", "InvalidEdit", "InvalidText", "UnknownCommand", "NotAlike", "NotEnough", "Contradicted", "InvalidFault", "InUse", "AbsentError", "NoNode", "NoCell", "NoOutput", "NoPlace", "NoTrial", "NoMark", "NothingToUndo", "NothingToRedo", "Finished", "NotFinished"] : List PySem.Str) ++ (["TooMany", "_law_begin", "_law_take", "_law_thing", "_law_made", "_law_named", "_law_placed", "_law_kinds", "_law_bases"] : List PySem.Str)
theorem run (w : World) : HandSHeadRun.RunEq R (PySem.W.view R.prog [41]) hk ob 12000 loose w := by
  intro os
  kernel_rfl
end My
end
namespace DX
open PySem PySem.Spec L2

section
variable {K : PySem.W.Frag} {F F' H H' : Hp}
theorem Rps.getV : ∀ {v : List V} {d : List D} {i : Nat} {y : V}, Rps K F v d → v[i]? = some y → ∃ x, d[i]? = some x ∧ Rp K F y x
  | _, _, i, _, .nil, e => by simp at e
  | _, _, 0, _, .cons h _, e => by simp at e; subst e; exact ⟨_, rfl, h⟩
  | _, _, i + 1, x, .cons _ r, e => by
    obtain ⟨y, h1, h2⟩ := Rps.getV (i := i) (y := x) r (by simpa using e)
    exact ⟨y, by simpa using h1, h2⟩
theorem Rps.take : ∀ {v : List V} {d : List D} (i : Nat), Rps K F v d → Rps K F (v.take i) (d.take i)
  | _, _, 0, _ => .nil
  | _, _, _ + 1, .nil => .nil
  | _, _, i + 1, .cons h r => .cons h (Rps.take i r)
theorem Rps.rep {v : List V} {d : List D} (r : Rps K F v d) : ∀ n : Nat, Rps K F (List.replicate n v).flatten (List.replicate n d).flatten
  | 0 => .nil
  | n + 1 => by
    rw [List.replicate_succ, List.replicate_succ, List.flatten_cons, List.flatten_cons]
    exact r.append (Rps.rep r n)
theorem Rps.reverse : ∀ {v : List V} {d : List D}, Rps K F v d → Rps K F v.reverse d.reverse
  | _, _, .nil => .nil
  | _, _, .cons h r => by
    rw [List.reverse_cons, List.reverse_cons]
    exact (Rps.reverse r).append (.cons h .nil)
theorem Rps.ints : ∀ {v : List V} {ns : List Int}, Rps K F v (ns.map D.int) → v = ns.map V.int
  | v, [], h => by cases h; rfl
  | v, n :: ns, h => by
    cases h with
    | cons a r =>
      cases a
      rw [Rps.ints r]; rfl
theorem Rps.ofInts : ∀ {ns : List Int}, Rps K F (ns.map V.int) (ns.map D.int)
  | [] => .nil
  | n :: ns => .cons (.int n) Rps.ofInts
theorem Rps.strs : ∀ {v : List V} {ns : List Str}, Rps K F v (ns.map D.str) → v = ns.map V.str
  | v, [], h => by cases h; rfl
  | v, n :: ns, h => by
    cases h with
    | cons a r =>
      cases a
      rw [Rps.strs r]; rfl
theorem Rps.ofStrs : ∀ {ns : List Str}, Rps K F (ns.map V.str) (ns.map D.str)
  | [] => .nil
  | n :: ns => .cons (.str n) Rps.ofStrs
end

/-- a slot forgotten -/
def cut : DEnv → Nat → DEnv
  | [], _ => []
  | _ :: r, 0 => none :: r
  | x :: r, n + 1 => x :: cut r n
def cuts (ρ : DEnv) : List Nat → DEnv
  | [] => ρ
  | v :: vs => cut (cuts ρ vs) v
section
variable {K : PySem.W.Frag} {F F' H H' : Hp}
theorem En.cut : ∀ {σ : St} {ρ : DEnv} (i : Nat), En K F σ ρ → En K F (σ.set i none) (DX.cut ρ i)
  | _, _, _, .nil => .nil
  | _, _, 0, .cons _ r => .cons (fun x q => by cases q) r
  | _, _, i + 1, .cons h' r => .cons h' (En.cut i r)
theorem En.cuts {σ : St} {ρ : DEnv} (h : En K F σ ρ) : ∀ vs : List Nat, En K F (wipe σ vs) (DX.cuts ρ vs)
  | [] => h
  | v :: vs => En.cut v (En.cuts h vs)
def startD (n : Nat) (ds : List D) : DEnv := ds.map some ++ List.replicate n none
theorem En.rep : ∀ n : Nat, En K F (List.replicate n none) (List.replicate n none)
  | 0 => .nil
  | n + 1 => .cons (fun x q => by cases q) (En.rep n)
theorem En.start : ∀ {vs : List V} {ds : List D} (n : Nat), Rps K F vs ds → En K F (vs.map some ++ List.replicate n none) (startD n ds)
  | _, _, n, .nil => En.rep n
  | _, _, n, .cons h r => .cons (fun x q => ⟨_, rfl, by cases q; exact h⟩) (En.start n r)
end

theorem up_up {M : Mem} {a : Addr} {d e : D} : up (up M a d) a e = up M a e := by
  funext b; unfold up; split <;> rfl
theorem rm_up {M : Mem} {a : Addr} {d : D} (h : M a = none) : rm (up M a d) a = M := by
  funext c; unfold rm up
  by_cases h1 : c = a
  · subst h1; rw [if_pos rfl, h]
  · rw [if_neg h1, if_neg h1]
section
variable {K : PySem.W.Frag} {F F' H H' : Hp} {M : Mem}
theorem Ok.nn (k : Ok K F M H) {a : Addr} (h : H a = none) : F a = none ∧ M a = none := by
  refine ⟨k.ex.free h, ?_⟩
  cases q : M a with
  | none => rfl
  | some d =>
    obtain ⟨o, e⟩ := (k.mt a d q).2.there
    rw [h] at e; cases e
/-- a new object that is never to change -/
theorem Ok.fix (k : Ok K F M H) {a : Addr} {o : HO} (h : H a = none) : Ok K (upd F a o) M (upd H a o) := by
  obtain ⟨h1, h2⟩ := k.nn h
  refine ⟨fun b u e => ?_, fun b d e => ?_⟩
  · by_cases hb : b = a
    · subst hb; rw [upd_same] at e ⊢; exact e
    · rw [upd_ne hb] at e ⊢; exact k.ex b u e
  · have hb : b ≠ a := fun z => by subst z; rw [h2] at e; cases e
    obtain ⟨m1, m2⟩ := k.mt b d e
    exact ⟨by rw [upd_ne hb]; exact m1, m2.mono (same_new h1) (upd_ne hb)⟩
theorem Ok.fixSame (k : Ok K F M H) {a : Addr} {o : HO} (h : H a = Option.none) : Same F (upd F a o) := same_new (k.nn h).1
/-- a new object that may change -/
theorem Ok.lay (k : Ok K F M H) {a : Addr} {o : HO} {d : D} (h : H a = Option.none) (m : Mt K F (upd H a o) a d) : Ok K F (up M a d) (upd H a o) := by
  obtain ⟨h1, h2⟩ := k.nn h
  refine ⟨fun b u e => ?_, fun b d' e => ?_⟩
  · rw [upd_ne (ne_of_none e h1)]
    exact k.ex b u e
  · by_cases hb : b = a
    · subst hb
      rw [up_same] at e; cases e
      exact ⟨h1, m⟩
    · rw [up_ne hb] at e
      obtain ⟨m1, m2⟩ := k.mt b d' e
      exact ⟨m1, m2.mono (Same.refl F) (upd_ne hb)⟩
end

def Gh.triv : Gh := ⟨fun _ => True, fun _ _ _ h => h⟩
section
variable {X : Cx} {J : Gh} {e : Expr} {es : List Expr} {ρ : DEnv} {M M' : Mem} {F F' H H' : Hp} {σ : St} {P : D → Mem → Prop} {K : PySem.W.Frag}
theorem pe_any : PE X e (tE X e) := ⟨fun pins s σ H Q I ⟨t, h, q⟩ => h.run pins s σ H Q I q⟩
theorem pt_any : PT X e (tTe X e) := ⟨fun pins s σ H Q I ⟨t, h, q⟩ => h.run pins s σ H Q I q⟩
theorem pw_any : PW X e (tWe X e) := ⟨fun wh pins s σ H Q I ⟨t, h, q⟩ => h.run wh pins s σ H Q I q⟩
theorem pa_any : PA X es (tAe X es) := ⟨fun pos pins s σ H Q I ⟨t, h, q⟩ => h.run pos pins s σ H Q I q⟩
theorem wx_of {t : TT} {P : Bool → Mem → Prop} (h : PW X e t) (k : ∀ F σ H Q, Sts X.K J F σ H ρ M → Kb X.K F P Q → t σ H Q) : WX X J e ρ M P := ⟨fun wh pins s σ H Q I ⟨F, st, q⟩ => h.run wh pins s σ H Q I (k F σ H Q st q)⟩
end
end DX
namespace DX
open PySem PySem.Spec L2

section
variable {X : Cx} {J : Gh} {e a b c : Expr} {es : List Expr} {ρ : DEnv} {M M' : Mem} {F F' H H' : Hp} {σ : St} {P : D → Mem → Prop} {PB : Bool → Mem → Prop} {PA' : List D → Mem → Prop} {K : PySem.W.Frag} {pos : Pos} {x : Str}

theorem ex_var {d : D} (i : Nat) (h : look ρ i = some d) (p : P d M) (hN : X.N[i]? = some x := by rfl) (hv : Vis X.env.scope x := by first | exact Or.inl rfl | exact Or.inr (Or.inl rfl) | exact Or.inr (Or.inr rfl)) (hd : (x == ("__debug__" : Str)) = false := by decide)
    (hcd : (x == ("__classdict__" : Str)) = false := by decide) : EX X J (.Name x pos) ρ M P :=
  ex_of (pe_var hN hv hd hcd) fun F σ H Q st k => by
    obtain ⟨v, h1, h2⟩ := st.en.look h
    exact ⟨v, h1, k.here p st.ok h2⟩
theorem ex_int {i : Int} {j} (p : P (.int i) M) : EX X J (.Constant (.int i) j pos) ρ M P := ex_of pe_int fun F σ H Q st k => k.here p st.ok (.int i)
theorem ex_bl {i : Bool} {j} (p : P (.bl i) M) : EX X J (.Constant (.bool i) j pos) ρ M P := ex_of pe_bl fun F σ H Q st k => k.here p st.ok (.bl i)
theorem ex_non {j} (p : P .non M) : EX X J (.Constant .none j pos) ρ M P := ex_of pe_non fun F σ H Q st k => k.here p st.ok .non
theorem ex_str {i : Str} {j} (p : P (.str i) M) : EX X J (.Constant (.str i) j pos) ρ M P := ex_of pe_str fun F σ H Q st k => k.here p st.ok (.str i)
/-- a module's constant -/
theorem ex_glob {v : V} {u : Value} {d : D} (hg : Gl X x) (hm : X.mg x = some u) (r : RelV v u) (hr : ∀ F, Rp X.K F v d) (p : P d M) (hd : (x == ("__debug__" : Str)) = false := by decide) : EX X J (.Name x pos) ρ M P :=
  ex_of (pe_glob hg hm r hd) fun F σ H Q st k => k.here p st.ok (hr F)

theorem ax_nil (p : PA' [] M) : AX X J [] ρ M PA' := ax_of pa_nil fun F σ H Q st k => k [] [] M F H p (Same.refl F) st.ok .nil
theorem ax_cons (h : EX X J e ρ M fun d M1 => AX X J es ρ M1 fun ds M2 => PA' (d :: ds) M2) (hs : starEach (e :: es) X.env = (false, eval e X.env) :: starEach es X.env := by rfl) : AX X J (e :: es) ρ M PA' :=
  ax_of (pa_cons pe_any pa_any hs) fun F σ H Q st k => h.go st fun d v M1 F1 H1 p e1 o1 r1 => AX.go p (st.to e1 o1) fun ds vs M2 F2 H2 p2 e2 o2 r2 => k _ _ M2 F2 H2 p2 (e1.trans e2) o2 (.cons (r1.mono e2) r2)

theorem op_any {f : Value → Value → Sem Value} : OpR X f (rAnyO X f) := fun pins s σ H x y v u Q I rx ry ⟨r, h, q⟩ => h pins s σ H x y v u Q I rx ry q
theorem ex_bin {op : Operator} (h : EX X J a ρ M fun x M1 => EX X J b ρ M1 fun y M2 => OD X (binaryOp op) x y M2 P) : EX X J (.BinOp a op b pos) ρ M P :=
  ex_of (pe_op op_any pe_any pe_any) fun F σ H Q st k => h.go st fun d v M1 F1 H1 p e1 o1 r1 => EX.go p (st.to e1 o1) fun d2 v2 M2 F2 H2 p2 e2 o2 r2 => p2.go o2 (r1.mono e2) r2 (k.to (e1.trans e2))
/-- a comparison as a value; as a test -/
theorem ex_cmp {op : CmpOp} (h : EX X J a ρ M fun x M1 => EX X J b ρ M1 fun y M2 => OD X (compareOp op) x y M2 P) (hm : behindInMarks op b = false := by rfl) : EX X J (.Compare a [op] [b] pos) ρ M P :=
  ex_of (pe_cmpR op_any pe_any pe_any hm) fun F σ H Q st k => h.go st fun d v M1 F1 H1 p e1 o1 r1 => EX.go p (st.to e1 o1) fun d2 v2 M2 F2 H2 p2 e2 o2 r2 => p2.go o2 (r1.mono e2) r2 (k.to (e1.trans e2))
def PBl (PB : Bool → Mem → Prop) : D → Mem → Prop := fun d M => ∃ c, d = .bl c ∧ PB c M
theorem kt_bl {Q : Bool → Hp → Prop} (k : Kb K F PB Q) : Kt K F (PBl PB) (fun x H' => ∃ k, x = .bl k ∧ Q k H') := fun d v M' F' H' p e o r => by
  obtain ⟨c, rfl, p⟩ := p
  cases r
  exact ⟨c, rfl, k c M' F' H' p e o⟩
theorem tx_cmp {op : CmpOp} (h : EX X J a ρ M fun x M1 => EX X J b ρ M1 fun y M2 => OD X (compareOp op) x y M2 (PBl PB)) (hm : behindInMarks op b = false := by rfl) : TX X J (.Compare a [op] [b] pos) ρ M PB :=
  tx_of (pt_cmpR op_any pe_any pe_any hm) fun F σ H Q st k => h.go st fun d v M1 F1 H1 p e1 o1 r1 => EX.go p (st.to e1 o1) fun d2 v2 M2 F2 H2 p2 e2 o2 r2 => p2.go o2 (r1.mono e2) r2 ((kt_bl k).to (e1.trans e2))
theorem od_int {f : Value → Value → Sem Value} {C : Int → Int → Prop} {g : Int → Int → V} {g' : Int → Int → D} (h : OpR X f (rI C g)) {i j : Int} (hc : C i j) (hr : ∀ F, Rp X.K F (g i j) (g' i j)) (p : P (g' i j) M) : OD X f (.int i) (.int j) M P :=
  ⟨_, h, fun F H v u Q o rx ry k => by
    cases rx; cases ry
    exact ⟨i, j, rfl, rfl, hc, k.here p o (hr F)⟩⟩
theorem od_int0 {f : Value → Value → Sem Value} {g : Int → Int → V} {g' : Int → Int → D} (h : OpR X f (rI0 g)) {i j : Int} (hr : ∀ F, Rp X.K F (g i j) (g' i j)) (p : P (g' i j) M) : OD X f (.int i) (.int j) M P :=
  ⟨_, h, fun F H v u Q o rx ry k => by
    cases rx; cases ry
    exact ⟨i, j, rfl, rfl, k.here p o (hr F)⟩⟩
variable {i j : Int}
theorem od_add (p : P (.int (i + j)) M) : OD X (binaryOp .Add) (.int i) (.int j) M P := od_int0 (g' := fun i j => .int (i + j)) op_add (fun F => .int _) p
theorem od_sub (p : P (.int (i - j)) M) : OD X (binaryOp .Sub) (.int i) (.int j) M P := od_int0 (g' := fun i j => .int (i - j)) op_sub (fun F => .int _) p
theorem od_mul (hc : CMul i j) (p : P (.int (i * j)) M) : OD X (binaryOp .Mult) (.int i) (.int j) M P := od_int (g' := fun i j => .int (i * j)) op_mul hc (fun F => .int _) p
theorem od_fdiv (hc : CDiv i j) (p : P (.int (i / j)) M) : OD X (binaryOp .FloorDiv) (.int i) (.int j) M P := od_int (g' := fun i j => .int (i / j)) op_fdiv hc (fun F => .int _) p
theorem od_mod (hc : 0 < j) (p : P (.int (i % j)) M) : OD X (binaryOp .Mod) (.int i) (.int j) M P := od_int (g' := fun i j => .int (i % j)) op_mod hc (fun F => .int _) p
theorem od_pow (hc : CPow i j) (p : P (.int (i ^ j.toNat)) M) : OD X (binaryOp .Pow) (.int i) (.int j) M P := od_int (g' := fun i j => .int (i ^ j.toNat)) op_pow hc (fun F => .int _) p
theorem od_lt (p : P (.bl (decide (i < j))) M) : OD X (compareOp .Lt) (.int i) (.int j) M P := od_int0 (g' := fun i j => .bl (decide (i < j))) op_lt (fun F => .bl _) p
theorem od_gt (p : P (.bl (decide (j < i))) M) : OD X (compareOp .Gt) (.int i) (.int j) M P := od_int0 (g' := fun i j => .bl (decide (j < i))) op_gt (fun F => .bl _) p
theorem od_ge (p : P (.bl (decide (j ≤ i))) M) : OD X (compareOp .GtE) (.int i) (.int j) M P := od_int0 (g' := fun i j => .bl (decide (j ≤ i))) op_ge (fun F => .bl _) p
/-- scalars: == and != -/
def sc : D → D → Bool
  | .non, .non => true
  | .non, .int _ => true
  | .int _, .non => true
  | .non, .bl _ => true
  | .bl _, .non => true
  | .non, .str _ => true
  | .str _, .non => true
  | .int _, .int _ => true
  | .bl _, .bl _ => true
  | .str _, .str _ => true
  | .int _, .str _ => true
  | .str _, .int _ => true
  | .bl _, .str _ => true
  | .str _, .bl _ => true
  | _, _ => false
def sceq : D → D → Bool
  | .non, .non => true
  | .int i, .int j => decide (i = j)
  | .bl i, .bl j => decide (i = j)
  | .str i, .str j => decide (i = j)
  | _, _ => false
theorem sc_ok {x y : D} {v u : V} (h : sc x y = true) (rx : Rp K F v x) (ry : Rp K F u y) : scal v u = true ∧ decide (v = u) = sceq x y := by
  cases rx <;> cases ry <;> first
    | exact absurd h Bool.false_ne_true
    | exact ⟨rfl, by simp [sceq]⟩
theorem od_eq {x y : D} (h : sc x y = true) (p : P (.bl (sceq x y)) M) : OD X (compareOp .Eq) x y M P :=
  ⟨_, op_eq, fun F H v u Q o rx ry k => by
    obtain ⟨h1, h2⟩ := sc_ok h rx ry
    exact ⟨h1, by rw [h2]; exact k.here p o (.bl _)⟩⟩
theorem od_ne {x y : D} (h : sc x y = true) (p : P (.bl (!sceq x y)) M) : OD X (compareOp .NotEq) x y M P :=
  ⟨_, op_ne, fun F H v u Q o rx ry k => by
    obtain ⟨h1, h2⟩ := sc_ok h rx ry
    exact ⟨h1, by rw [h2]; exact k.here p o (.bl _)⟩⟩
theorem tx_pw (h : WX X J e ρ M PB) : TX X J e ρ M PB := PW.pt h
theorem wx_and1 (h : TX X J a ρ M PB) : WX X J (.BoolOp .And [a] pos) ρ M PB := pw_and1 h
theorem wx_or1 (h : TX X J a ρ M PB) : WX X J (.BoolOp .Or [a] pos) ρ M PB := pw_or1 h
theorem wx_and {rest : List Expr} (h : TX X J a ρ M fun t M1 => (t = true → WX X J (.BoolOp .And (b :: rest) pos) ρ M1 PB) ∧ (t = false → PB false M1)) : WX X J (.BoolOp .And (a :: b :: rest) pos) ρ M PB :=
  wx_of (pw_and pt_any pw_any) fun F σ H Q st k => h.go st fun t M1 F1 H1 p e1 o1 => by
    cases t with
    | true => exact iteT ((p.1 rfl).go (st.to e1 o1) (k.to e1))
    | false => exact iteF (k _ _ _ _ (p.2 rfl) e1 o1)
theorem wx_or {rest : List Expr} (h : TX X J a ρ M fun t M1 => (t = false → WX X J (.BoolOp .Or (b :: rest) pos) ρ M1 PB) ∧ (t = true → PB true M1)) : WX X J (.BoolOp .Or (a :: b :: rest) pos) ρ M PB :=
  wx_of (pw_or pt_any pw_any) fun F σ H Q st k => h.go st fun t M1 F1 H1 p e1 o1 => by
    cases t with
    | false => exact iteF ((p.1 rfl).go (st.to e1 o1) (k.to e1))
    | true => exact iteT (k _ _ _ _ (p.2 rfl) e1 o1)
/-- a new tuple, a new list that is not to change -/
theorem ex_tup {x1} (h : AX X J es ρ M fun ds M1 => ds.length ≤ 1000000 ∧ P (.tup ds) M1) : EX X J (.Tuple es x1 pos) ρ M P :=
  ex_of (pe_tup pa_any) fun F σ H Q st k => h.go st fun ds vs M1 F1 H1 p e1 o1 r1 => ⟨by rw [r1.length, sizeLine_eq]; omega, fun q hq =>
    k _ _ _ _ _ p.2 (e1.trans (o1.fixSame hq)) (o1.fix hq) (.tup (SqT.of upd_same) (r1.mono (o1.fixSame hq)))⟩
theorem ex_lst (h : AX X J es ρ M fun ds M1 => ds.length ≤ 1000000 ∧ P (.lst ds) M1) : EX X J (.List es pos) ρ M P :=
  ex_of (pe_lst pa_any) fun F σ H Q st k => h.go st fun ds vs M1 F1 H1 p e1 o1 r1 => ⟨by rw [r1.length, sizeLine_eq]; omega, fun q hq =>
    k _ _ _ _ _ p.2 (e1.trans (o1.fixSame hq)) (o1.fix hq) (.lst upd_same (r1.mono (o1.fixSame hq)))⟩
/-- a new list that may change -/
theorem ex_lstM (h : AX X J es ρ M fun ds M1 => ds.length ≤ 1000000 ∧ ∀ p, M1 p = none → P (.adr p) (up M1 p (.lst ds))) : EX X J (.List es pos) ρ M P :=
  ex_of (pe_lst pa_any) fun F σ H Q st k => h.go st fun ds vs M1 F1 H1 p e1 o1 r1 => ⟨by rw [r1.length, sizeLine_eq]; omega, fun q hq =>
    k _ _ _ _ _ (p.2 q (o1.nn hq).2) e1 (o1.lay hq ⟨vs, upd_same, r1⟩) (.adr q)⟩
/-- x[i] -/
def rAnyI (X : Cx) : R2 := fun v u H Q => ∃ r, IxR X r ∧ r v u H Q
theorem ix_any : IxR X (rAnyI X) := fun value slice pins s σ H x y v u Q I rx ry ⟨r, h, q⟩ hs => h value slice pins s σ H x y v u Q I rx ry q hs
def ID (X : Cx) (x y : D) (M : Mem) (P : D → Mem → Prop) : Prop :=
  ∃ r, IxR X r ∧ ∀ F H v u Q, Ok X.K F M H → Rp X.K F v x → Rp X.K F u y → Kt X.K F P Q → r v u H Q
theorem ex_ix (h : EX X J a ρ M fun x M1 => EX X J b ρ M1 fun y M2 => ID X x y M2 P) (hs : PlainIx b := by intro _ _; rfl) : EX X J (.Subscript a b pos) ρ M P :=
  ex_of (pe_ix ix_any pe_any pe_any hs) fun F σ H Q st k => h.go st fun d v M1 F1 H1 p e1 o1 r1 => EX.go p (st.to e1 o1) fun d2 v2 M2 F2 H2 p2 e2 o2 r2 => by
    obtain ⟨r, h1, h2⟩ := p2
    exact ⟨r, h1, h2 F2 H2 v v2 Q o2 (r1.mono e2) r2 (k.to (e1.trans e2))⟩
theorem atI_of {ds : List D} {xs : List V} {i : Int} {d : D} (r : Rps K F xs ds) (h : atI ds i = some d) : ∃ v, atI xs i = some v ∧ Rp K F v d := by
  unfold atI at h ⊢
  rw [r.length]
  cases e : ixN ds.length i with
  | none => rw [e] at h; cases h
  | some j =>
    rw [e] at h
    obtain ⟨v, h1, h2⟩ := r.get (show ds[j]? = some d from h)
    exact ⟨v, h1, h2⟩
theorem id_seq {x d : D} {ds : List D} (s : Sq M x ds) (h : atI ds i = some d) (p : P d M) : ID X x (.int i) M P :=
  ⟨_, ix_list.or ix_tup, fun F H v u Q o rx ry k => by
    cases ry
    obtain ⟨q, xs, rfl, hs, r⟩ := s.get o rx
    obtain ⟨w, h1, h2⟩ := atI_of r h
    rcases hs with hs | hs
    · exact .inl ⟨q, xs, i, w, rfl, rfl, hs, h1, k.here p o h2⟩
    · exact .inr ⟨q, xs, i, w, rfl, rfl, hs, h1, k.here p o h2⟩⟩
theorem id_str {z : Str} {n : Nat} (hz : z.length ≤ 1000000) (h : atI z.cps.toList i = some n) (p : P (.str ⟨#[n]⟩) M) : ID X (.str z) (.int i) M P :=
  ⟨_, ix_str, fun F H v u Q o rx ry k => by
    cases rx; cases ry
    exact ⟨z, i, n, rfl, rfl, by rw [sizeLine_eq]; omega, h, k.here p o (.str _)⟩⟩
/-- x + y of texts, lists, tuples; x * n -/
theorem od_addS {x y : Str} (hz : x.length + y.length ≤ 1000000) (p : P (.str (x ++ y)) M) : OD X (binaryOp .Add) (.str x) (.str y) M P :=
  ⟨_, op_add_str, fun F H v u Q o rx ry k => by
    cases rx; cases ry
    exact ⟨x, y, rfl, rfl, by rw [sizeLine_eq]; omega, k.here p o (.str _)⟩⟩
theorem od_addL {x y : D} {ds es : List D} (sx : Sl M x ds) (sy : Sl M y es) (hz : ds.length + es.length ≤ 1000000) (p : P (.lst (ds ++ es)) M) : OD X (binaryOp .Add) x y M P :=
  ⟨_, op_cat, fun F H v u Q o rx ry k => by
    obtain ⟨a, xs, rfl, h1, r1⟩ := sx.get o rx
    obtain ⟨b, ys, rfl, h2, r2⟩ := sy.get o ry
    exact ⟨a, b, xs, ys, rfl, rfl, h1, h2, by rw [r1.length, r2.length, sizeLine_eq]; omega, fun q hq => k _ _ _ _ _ p (o.fixSame hq) (o.fix hq) (.lst upd_same ((r1.append r2).mono (o.fixSame hq)))⟩⟩
theorem od_addT {ds es : List D} (hz : ds.length + es.length ≤ 1000000) (p : P (.tup (ds ++ es)) M) : OD X (binaryOp .Add) (.tup ds) (.tup es) M P :=
  ⟨_, op_catA, fun F H v u Q o rx ry k => by
    cases rx with
    | @tup a xs _ h1 r1 =>
    cases ry with
    | @tup b ys _ h2 r2 =>
      have g1 := same_t o.ex h1
      have g2 := same_t o.ex h2
      refine ⟨a, b, xs, ys, rfl, rfl, g1, g2, by rw [r1.length, r2.length, sizeLine_eq]; omega, fun e => ?_, fun _ e => ?_, fun _ _ q hq => ?_⟩
      · subst e
        have : ds = [] := by cases r1; rfl
        subst this
        exact k.here p o (.tup h2 (by simpa using r2))
      · subst e
        have : es = [] := by cases r2; rfl
        subst this
        exact k.here p o (.tup h1 (by simpa using r1))
      · exact k _ _ _ _ _ p (o.fixSame hq) (o.fix hq) (.tup (SqT.of upd_same) ((r1.append r2).mono (o.fixSame hq)))⟩
theorem od_mulL {x : D} {ds : List D} {n : Int} (sx : Sl M x ds) (h0 : -(2 ^ 62) ≤ n ∧ n < 2 ^ 62) (hz : ds.length * n.toNat ≤ 1000000) (p : P (.lst (List.replicate n.toNat ds).flatten) M) : OD X (binaryOp .Mult) x (.int n) M P :=
  ⟨_, op_rep, fun F H v u Q o rx ry k => by
    cases ry
    obtain ⟨a, xs, rfl, h1, r1⟩ := sx.get o rx
    exact ⟨a, n, xs, rfl, rfl, h1, by omega, by omega, by rw [r1.length, sizeLine_eq]; omega, fun q hq => k _ _ _ _ _ p (o.fixSame hq) (o.fix hq) (.lst upd_same ((r1.rep _).mono (o.fixSame hq)))⟩⟩
/-- slices of lists, tuples, texts -/
def tOe (X : Cx) (e : Option Expr) : TO := fun σ H Q => ∃ t, PO X e t ∧ t σ H Q
theorem po_any {eo : Option Expr} : PO X eo (tOe X eo) := ⟨fun pins s σ H Q I ⟨t, h, q⟩ => h.run pins s σ H Q I q⟩
def Ko (K : PySem.W.Frag) (F : Hp) (P : Option Int → Mem → Prop) (Q : Option Int → Hp → Prop) : Prop := ∀ b M' F' H', P b M' → Same F F' → Ok K F' M' H' → Q b H'
def OX (X : Cx) (J : Gh) (eo : Option Expr) (ρ : DEnv) (M : Mem) (P : Option Int → Mem → Prop) : Prop := ∀ F σ H Q, Sts X.K J F σ H ρ M → Ko X.K F P Q → tOe X eo σ H Q
theorem ox_none {PO' : Option Int → Mem → Prop} (p : PO' none M) : OX X J none ρ M PO' := fun F σ H Q st k => ⟨_, po_none, k _ _ _ _ p (Same.refl F) st.ok⟩
def rAnyS (X : Cx) : V → Option Int → Option Int → Hp → VK → Prop := fun v l h H Q => ∃ r, SlR X r ∧ r v l h H Q
theorem sl_any : SlR X (rAnyS X) := fun pins s σ H x v vl vu lo hi sl Q I rx hs pl pu ⟨r, h1, h2⟩ => h1 pins s σ H x v vl vu lo hi sl Q I rx hs pl pu h2
def SD (X : Cx) (x : D) (l h : Option Int) (M : Mem) (P : D → Mem → Prop) : Prop :=
  ∃ r, SlR X r ∧ ∀ F H v Q, Ok X.K F M H → Rp X.K F v x → Kt X.K F P Q → r v l h H Q
theorem ex_slice {lo hi : Option Expr} {p2 : Pos} (h : EX X J e ρ M fun x M1 => OX X J lo ρ M1 fun l M2 => OX X J hi ρ M2 fun u M3 => SD X x l u M3 P) : EX X J (.Subscript e (.Slice lo hi none p2) pos) ρ M P :=
  ex_of (pe_slice sl_any pe_any po_any po_any) fun F σ H Q st k => h.go st fun d v M1 F1 H1 p e1 o1 r1 => p F1 σ H1 _ (st.to e1 o1) fun l M2 F2 H2 p2 e2 o2 => p2 F2 σ H2 _ (st.to (e1.trans e2) o2) fun u M3 F3 H3 p3 e3 o3 => by
    obtain ⟨r, h1, h2⟩ := p3
    exact ⟨r, h1, h2 F3 H3 v Q o3 ((r1.mono e2).mono e3) (k.to ((e1.trans e2).trans e3))⟩
def cutD (ds : List D) (lo hi : Option Int) : List D := (ds.drop (HT.sIx ds.length 0 lo)).take (HT.sIx ds.length ds.length hi - HT.sIx ds.length 0 lo)
theorem cut_of {ds : List D} {xs : List V} (r : Rps K F xs ds) (lo hi : Option Int) : Rps K F (cutV xs lo hi) (cutD ds lo hi) := by
  unfold cutV cutD
  rw [r.length]
  exact (r.drop _).take _
theorem sd_list {x : D} {ds : List D} {l u : Option Int} (s : Sl M x ds) (p : P (.lst (cutD ds l u)) M) : SD X x l u M P :=
  ⟨_, sl_list, fun F H v Q o rx k => by
    obtain ⟨a, xs, rfl, h1, r1⟩ := s.get o rx
    exact ⟨a, xs, rfl, SqL.of h1, fun q hq => k _ _ _ _ _ p (o.fixSame hq) (o.fix hq) (.lst upd_same ((cut_of r1 l u).mono (o.fixSame hq)))⟩⟩
end
end DX
namespace DX
open PySem PySem.Spec L2

section
variable {X : Cx} {J : Gh} {e a b c : Expr} {es : List Expr} {st : Stmt} {rest sts : List Stmt} {ρ ρ' : DEnv} {M M' : Mem} {F F' H H' : Hp} {σ : St} {B : Bd} {K : PySem.W.Frag} {pos p : Pos} {x : Str} {E : Ends}
theorem pss_any : PSs X sts (tSe X sts) := ⟨fun pins s σ H D I ⟨t, h, q⟩ => h.run pins s σ H D I q⟩
theorem ps_any : PS X st (tS1 X st) := ⟨fun pins s σ H D I ⟨t, h, q⟩ => h.run pins s σ H D I q⟩
theorem g1_of {t : TS} (h : PS X st t) (k : ∀ F σ H E, Sts X.K J F σ H ρ M → Kd X.K F B E → t E σ H) : G1 X J st ρ M B := ⟨fun pins s σ H D I ⟨F, st, q⟩ => h.run pins s σ H D I (k F σ H D st q)⟩
/-- the ends with another way on -/
def Bd.thn (B : Bd) (nx : DEnv → Mem → Prop) : Bd := { B with nx := nx }
theorem gx_nil (h : B.nx ρ M) : GX X J [] ρ M B := gx_of pss_nil fun F σ H E st k => k.nx F σ H ρ M h (Same.refl F) st.en st.ok
/-- a statement, then the rest -/
theorem gx_cons (h : G1 X J st ρ M (B.thn fun ρ' M' => GX X J rest ρ' M' B)) (hJ : ∀ F, J.p F → ∀ F', Same F F' → J.p F') : GX X J (st :: rest) ρ M B :=
  gx_of (pss_cons ps_any pss_any) fun F σ H E s k => h.go s
    ⟨fun F' σ' H' ρ' M' q e en o => GX.go q ⟨en, o, J.mono _ _ e s.gh⟩ (k.to e), k.rt, k.bk, k.ct⟩
theorem gx_seq (h : G1 X J st ρ M (B.thn fun ρ' M' => GX X J rest ρ' M' B)) : GX X J (st :: rest) ρ M B := gx_cons h fun F q F' e => J.mono F F' e q
/-- at d, into the names ρ: then P of the names -/
def AsD (X : Cx) (target : Expr) (d : D) (ρ : DEnv) (P : DEnv → Prop) : Prop :=
  ∃ g, PG X target g ∧ ∀ F M v σ H Q, Ok X.K F M H → Rp X.K F v d → En X.K F σ ρ → (∀ σ' ρ', P ρ' → En X.K F σ' ρ' → Q σ' H) → g v σ H Q
def AsDs (X : Cx) (ts : List Expr) (ds : List D) (ρ : DEnv) (P : DEnv → Prop) : Prop :=
  ∃ g, PGs X ts g ∧ ∀ F M vs σ H Q, Ok X.K F M H → Rps X.K F vs ds → En X.K F σ ρ → (∀ σ' ρ', P ρ' → En X.K F σ' ρ' → Q σ' H) → g vs σ H Q
def gE (X : Cx) (target : Expr) : TG := fun v σ H Q => ∃ g, PG X target g ∧ g v σ H Q
theorem pg_any {target : Expr} : PG X target (gE X target) := ⟨fun pins s σ H v u Q I r ⟨g, h, q⟩ => h.run pins s σ H v u Q I r q⟩
theorem as_name {d : D} {P : DEnv → Prop} (i : Nat) (h : P (put ρ i d)) (hN : X.N.Nodup := by rfl) (hi : X.N[i]? = some x := by rfl) (hx : Loc X.env.scope x := by first | exact Or.inl rfl | exact Or.inr rfl) (hf : X.fn x = true ∨ X.env.scope.names.lookup x = some .local := by first | exact .inl rfl | exact .inr rfl) : AsD X (.Name x pos) d ρ P :=
  ⟨_, pg_name hN hi hx hf, fun F M v σ H Q o r en k => k _ _ h (en.put i r)⟩
theorem as_tup {ds : List D} {k : Nat} {P : DEnv → Prop} (hc : X.calm = true) (hl : (assignEach es X.env).length = ds.length) (h : AsDs X es ds ρ P) (hst : (assignEach es X.env).findIdx? (·.1) = none := by rfl) : AsD X (.Tuple es k pos) (.tup ds) ρ P := by
  obtain ⟨g, hg, h⟩ := h
  refine ⟨_, pg_tup hc hg hl hst, fun F M v σ H Q o r en k => ?_⟩
  cases r with
  | tup h1 r1 => exact ⟨_, _, rfl, same_t o.ex h1, r1.length, h F M _ σ H Q o r1 en k⟩
theorem asd_go {target : Expr} {d : D} {P : DEnv → Prop} (h : AsD X target d ρ P) {v : V} {Q : St → Hp → Prop} (o : Ok X.K F M H) (r : Rp X.K F v d) (en : En X.K F σ ρ) (k : ∀ σ' ρ', P ρ' → En X.K F σ' ρ' → Q σ' H) : gE X target v σ H Q := by
  obtain ⟨g, hg, h⟩ := h
  exact ⟨g, hg, h F M v σ H Q o r en k⟩
theorem asd_nil {P : DEnv → Prop} (h : P ρ) : AsDs X [] [] ρ P := ⟨_, pgs_nil, fun F M vs σ H Q o r en k => by cases r; exact ⟨rfl, k _ _ h en⟩⟩
theorem asd_cons {t : Expr} {ts : List Expr} {d : D} {ds : List D} {P : DEnv → Prop} (h : AsD X t d ρ fun ρ' => AsDs X ts ds ρ' P)
    (hs : (assignEach (t :: ts) X.env).map (·.2) = assign t X.env :: (assignEach ts X.env).map (·.2) := by rfl) : AsDs X (t :: ts) (d :: ds) ρ P :=
  ⟨_, pgs_cons pg_any (⟨fun pins s σ H vs us Q I r ⟨g, h, q⟩ => h.run pins s σ H vs us Q I r q⟩ : PGs X ts (fun vs σ H Q => ∃ g, PGs X ts g ∧ g vs σ H Q)) hs, fun F M vs σ H Q o r en k => by
    cases r with
    | cons h1 r1 => exact ⟨_, _, rfl, asd_go h o h1 en fun σ' ρ' q en' => by
        obtain ⟨g, hg, q⟩ := q
        exact ⟨g, hg, q F M _ σ' H Q o r1 en' k⟩⟩⟩

theorem g1_asg {tg : Expr} (h : EX X J e ρ M fun d M1 => AsD X tg d ρ fun ρ' => B.nx ρ' M1) (hs : swapsWithSole [tg] e pos.line X.env = pure false := by rfl) (hw : swappedStores [tg] e X.env = pure none := by rfl)
    (h1 : (assignEach [tg] X.env).map (·.2) = [assign tg X.env] := by rfl) : G1 X J (.Assign [tg] e pos) ρ M B :=
  g1_of (ps_asg pe_any pg_any hs hw h1) fun F σ H E s k => h.go s fun d v M1 F1 H1 p e1 o1 r1 => asd_go p o1 r1 (s.en.mono e1) fun σ' ρ' q en => k.nx F1 σ' H1 ρ' M1 q e1 en o1
/-- a, b = x, y -/
theorem g1_par {x y : Str} {px py pt : Pos} {kt k2 pt2} (i j : Nat) (hc : X.calm = true) (hij : i ≠ j) (h : AX X J [a, b] ρ M fun ds M1 => ∃ d1 d2, ds = [d1, d2] ∧ B.nx (put (put ρ i d1) j d2) M1)
    (hN : X.N.Nodup := by rfl) (hi : X.N[i]? = some x := by rfl) (hj : X.N[j]? = some y := by rfl) (hx : X.env.scope.names.lookup x = some .local := by rfl) (hy : X.env.scope.names.lookup y = some .local := by rfl)
    (hw : swappedStores [.Tuple [.Name x px, .Name y py] kt pt] (.Tuple [a, b] k2 pt2) X.env = pure (some [x, y]) := by rfl)
    (hs : swapsWithSole [.Tuple [.Name x px, .Name y py] kt pt] (.Tuple [a, b] k2 pt2) pos.line X.env = pure false := by rfl) :
    G1 X J (.Assign [.Tuple [.Name x px, .Name y py] kt pt] (.Tuple [a, b] k2 pt2) pos) ρ M B :=
  g1_of (ps_par hc hN hi hj hij hx hy pa_any hw hs) fun F σ H E s k => h.go s fun ds vs M1 F1 H1 p e1 o1 r1 => by
    obtain ⟨d1, d2, rfl, p⟩ := p
    cases r1 with
    | cons h1 r1 =>
      cases r1 with
      | cons h2 r1 =>
        cases r1
        exact ⟨_, _, rfl, k.nx F1 _ H1 _ M1 p e1 (((s.en.mono e1).put i h1).put j h2) o1⟩
theorem g1_ret (h : EX X J e ρ M B.rt) : G1 X J (.Return (some e) pos) ρ M B := g1_of (ps_ret pe_any) fun F σ H E s k => h.go s k.rt
theorem g1_if {s1 s2 : List Stmt} (h : TX X J c ρ M fun t M1 => (t = true → GX X J s1 ρ M1 B) ∧ (t = false → GX X J s2 ρ M1 B)) : G1 X J (.If c s1 s2 pos) ρ M B :=
  g1_of (ps_if pt_any pss_any pss_any) fun F σ H E s k => h.go s fun t M1 F1 H1 p e1 o1 => by
    cases t with
    | true => exact iteT ((p.1 rfl).go (s.to e1 o1) (k.to e1))
    | false => exact iteF ((p.2 rfl).go (s.to e1 o1) (k.to e1))

theorem pi_any {tg iter : Expr} : PI X tg iter (tIe X tg iter) := ⟨fun pins s σ H R I ⟨t, h, q⟩ => h.run pins s σ H R I q⟩
theorem ix_of {tg iter : Expr} {t : TI} {P : List D → Mem → Prop} (h : PI X tg iter t) (k : ∀ F σ H R, Sts X.K J F σ H ρ M → Ki X.K F P R → t σ H R) : IX X J tg iter ρ M P := ⟨fun pins s σ H R I ⟨F, st, q⟩ => h.run pins s σ H R I (k F σ H R st q)⟩
theorem wk_tup {q : Addr} {xs : List V} {ds : List D} (h : SqT K F q xs) (r : Rps K F xs ds) : Wk K F (Itt K q) ds :=
  ⟨fun i H hi s => ⟨xs, xs[i]'(by rw [r.length]; exact hi), same_t s h, by simp⟩, fun H s => ⟨xs, same_t s h, by rw [r.length]; exact Nat.le_refl _⟩,
    fun i d H x H' F1 M hd s o y => by
      obtain ⟨rfl, y⟩ := y
      obtain ⟨v, h1, h2⟩ := r.get hd
      have e1 := y xs (same_t o.ex (same_t s h))
      rw [h1] at e1; cases e1
      exact ⟨F1, Same.refl _, o, h2.mono s⟩⟩
theorem ix_tup {tg : Expr} {P : List D → Mem → Prop} (h : EX X J e ρ M fun d M1 => ∃ ds, d = .tup ds ∧ P ds M1) : IX X J tg e ρ M P :=
  ix_of (pi_tup pe_any) fun F σ H R s k => h.go s fun d v M1 F1 H1 p e1 o1 r1 => by
    obtain ⟨ds, rfl, p⟩ := p
    cases r1 with
    | tup h1 r1 => exact ⟨_, rfl, ⟨_, same_t o1.ex h1⟩, k ds _ M1 F1 H1 p e1 o1 (wk_tup h1 r1)⟩
def rngD (lo : Int) (n : Nat) : List D := (List.range n).map fun (i : Nat) => D.int (lo + (i : Int))
theorem rngD_len {lo : Int} {n : Nat} : (rngD lo n).length = n := by unfold rngD; simp
theorem rngD_at {lo : Int} {n i : Nat} {d : D} (h : (rngD lo n)[i]? = some d) : i < n ∧ d = .int (lo + (i : Int)) := by
  unfold rngD at h
  rw [List.getElem?_map] at h
  by_cases hi : i < n
  · rw [List.getElem?_range hi] at h
    cases h
    exact ⟨hi, rfl⟩
  · rw [List.getElem?_eq_none (by simp; omega)] at h
    cases h
theorem wk_rng {lo : Int} {n : Nat} : Wk K F (Itr lo n) (rngD lo n) :=
  ⟨fun i H hi s => by rw [rngD_len] at hi; exact hi, fun H s => by rw [rngD_len]; exact Nat.le_refl _, fun i d H x H' F1 M hd s o y => by
    obtain ⟨rfl, rfl⟩ := y
    obtain ⟨_, rfl⟩ := rngD_at hd
    exact ⟨F1, Same.refl _, o, .int _⟩⟩
theorem ix_range1 {tg : Expr} {P : List D → Mem → Prop} (hm : X.mg "range" = none) (h : AX X J [a] ρ M fun ds M1 => ∃ j, ds = [.int j] ∧ (-(2 ^ 62) ≤ j ∧ j < 2 ^ 62) ∧ P (rngD 0 j.toNat) M1) (hg : Gl X "range" := by rfl)
    (hs : starEach [a] X.env = [(false, eval a X.env)] := by rfl) : IX X J tg (.Call (.Name "range" p) [a] [] pos) ρ M P :=
  ix_of (pi_range1 hg hm pa_any hs) fun F σ H R s k => h.go s fun ds vs M1 F1 H1 q e1 o1 r1 => by
    obtain ⟨j, rfl, hj, q⟩ := q
    cases r1 with
    | cons h1 r1 =>
      cases r1
      cases h1
      exact ⟨j, rfl, hj.1, hj.2, k _ _ M1 F1 H1 q e1 o1 wk_rng⟩
/-- zip of two lists, of two tuples -/
def zipD : List D → List D → List D
  | x :: xs, y :: ys => .tup [x, y] :: zipD xs ys
  | _, _ => []
theorem pair_new {x y d1 d2 : D} {v1 v2 : V} {T : Addr} (o : Ok K F M H) (h : H T = none) (r1 : Rp K F v1 d1) (r2 : Rp K F v2 d2) : ∃ F2, Same F F2 ∧ Ok K F2 M (upd H T (.tup [v1, v2])) ∧ Rp K F2 (.ref T) (.tup [d1, d2]) :=
  ⟨_, o.fixSame h, o.fix h, .tup (SqT.of upd_same) (.cons (r1.mono (o.fixSame h)) (.cons (r2.mono (o.fixSame h)) .nil))⟩
/-- both lists, or both tuples -/
inductive Zs : D → D → List D → List D → Prop
  | lst {ds es : List D} : Zs (.lst ds) (.lst es) ds es
  | tup {ds es : List D} : Zs (.tup ds) (.tup es) ds es
/-- enumerate of a list -/
def enumD (i : Nat) : List D → List D
  | [] => []
  | x :: xs => .tup [.int (i : Int), x] :: enumD (i + 1) xs
theorem enumD_len : ∀ (i : Nat) (xs : List D), (enumD i xs).length = xs.length
  | i, [] => rfl
  | i, x :: xs => by simp [enumD, enumD_len (i + 1) xs]
theorem enumD_at : ∀ {xs : List D} {k i : Nat} {d : D}, (enumD k xs)[i]? = some d → ∃ x, xs[i]? = some x ∧ d = .tup [.int ((k + i : Nat) : Int), x]
  | [], k, i, d, h => by simp [enumD] at h
  | x :: xs, k, 0, d, h => by simp [enumD] at h; exact ⟨x, rfl, h.symm⟩
  | x :: xs, k, i + 1, d, h => by
    obtain ⟨y, h1, h2⟩ := enumD_at (xs := xs) (k := k + 1) (i := i) (by simpa [enumD] using h)
    exact ⟨y, by simpa using h1, by rw [h2, Nat.add_assoc, Nat.add_comm 1 i]⟩
theorem wk_enum {q : Addr} {xs : List V} {ds : List D} (h : F q = some (.lst xs)) (hx : Rps K F xs ds) : Wk K F (Ite K q) (enumD 0 ds) := by
  refine ⟨fun i H hi s => ?_, fun H s => ⟨xs, SqL.of (s _ _ h), by rw [enumD_len, hx.length]; exact Nat.le_refl _⟩, fun i d H x H' F1 M hd s o y => ?_⟩
  · rw [enumD_len] at hi
    have h1 : i < xs.length := by rw [hx.length]; omega
    exact ⟨xs, xs[i], SqL.of (s _ _ h), by simp [h1]⟩
  · obtain ⟨T, v1, rfl, h2, rfl, h4⟩ := y
    obtain ⟨d1, g1, rfl⟩ := enumD_at hd
    obtain ⟨w1, k1, k2⟩ := hx.get g1
    have e1 := h4 xs (SqL.of (o.ex _ _ (s _ _ h)))
    rw [k1] at e1; cases e1
    rw [Nat.zero_add]
    exact pair_new (x := d1) (y := d1) o h2 (.int _) (k2.mono s)
theorem ix_enum {elts : List Expr} {kk : Nat} {tpos : Pos} {P : List D → Mem → Prop} (hm : X.mg "enumerate" = none) (h : AX X J [a] ρ M fun ws M1 => ∃ ds, ws = [.lst ds] ∧ P (enumD 0 ds) M1) (hg : Gl X "enumerate" := by rfl)
    (hs : starEach [a] X.env = [(false, eval a X.env)] := by rfl) : IX X J (.Tuple elts kk tpos) (.Call (.Name "enumerate" p) [a] [] pos) ρ M P :=
  ix_of (pi_enum hg hm pa_any hs) fun F σ H R s k => h.go s fun ws vs M1 F1 H1 q e1 o1 r1 => by
    obtain ⟨ds, rfl, q⟩ := q
    cases r1 with
    | cons h1 r1 =>
      cases r1
      cases h1 with
      | lst h1 k1 => exact ⟨_, _, rfl, SqL.of (o1.ex _ _ h1), k _ _ M1 F1 H1 q e1 o1 (wk_enum h1 k1)⟩
/-- the signs of a text -/
def signs (z : Str) : List D := z.cps.toList.map fun c => D.str ⟨#[c]⟩
theorem wk_str {z : Str} : Wk K F (Its z) (signs z) := by
  refine ⟨fun i H hi s => ?_, fun H s => ?_, fun i d H x H' F1 M hd s o y => ?_⟩
  · unfold signs at hi; simp at hi; exact hi
  · unfold signs; simp; exact Nat.le_refl _
  · obtain ⟨rfl, c, h1, rfl⟩ := y
    unfold signs at hd
    rw [List.getElem?_map] at hd
    have : z.cps.toList[i]? = some c := by simpa using h1
    rw [this] at hd
    cases hd
    exact ⟨F1, Same.refl _, o, .str _⟩
theorem ix_str {tg : Expr} {P : List D → Mem → Prop} (h : EX X J e ρ M fun d M1 => ∃ z, d = .str z ∧ P (signs z) M1) : IX X J tg e ρ M P :=
  ix_of (pi_str pe_any) fun F σ H R s k => h.go s fun d v M1 F1 H1 p e1 o1 r1 => by
    obtain ⟨z, rfl, p⟩ := p
    cases r1
    exact ⟨z, rfl, k _ _ M1 F1 H1 p e1 o1 wk_str⟩
/-- for -/
theorem g1_for {tg iter : Expr} {body : List Stmt} (hp : PassesOwn (model X.prog X.w) X.A X.env X.xe) (hc : X.calm = true)
    (h : IX X J tg iter ρ M fun ds M1 => ∃ Wd : Nat → DEnv → Mem → Prop, Wd 0 ρ M1 ∧
      (∀ i d ρ' M', ds[i]? = some d → Wd i ρ' M' → AsD X tg d ρ' fun ρ2 => GX X J body ρ2 M' ⟨Wd (i + 1), B.rt, B.nx, Wd (i + 1)⟩) ∧ ∀ ρ' M', Wd ds.length ρ' M' → B.nx ρ' M')
    (hs : ∀ x, foldedSetIterable iter X.env x = pure x := by intro _; rfl) : G1 X J (.For tg iter body [] pos) ρ M B :=
  g1_of (ps_for hp hc pi_any pg_any pss_any hs) fun F σ H E s k => h.go s fun ds I M1 F1 H1 ⟨Wd, h0, hs, hd⟩ e1 o1 w => by
    refine ⟨fun i m σ H => m = ds.length - i ∧ i ≤ ds.length ∧ ∃ F' ρ' M', Same F1 F' ∧ Sts X.K J F' σ H ρ' M' ∧ Wd i ρ' M', ⟨ds.length, by simp, Nat.zero_le _, F1, ρ, M1, Same.refl _, s.to e1 o1, h0⟩, ?_⟩
    rintro i m σ' H' ⟨rfl, hi, F', ρ', M', e2, s2, q⟩
    by_cases hlt : i < ds.length
    · refine .inr ⟨w.goes i H' hlt (e2.trans s2.ok.ex), _, fun σ3 H3 n3 => n3, fun x H3 y => ?_⟩
      · obtain ⟨F3, e3, o3, r3⟩ := w.yields i ds[i] H' x H3 F' M' (by simp [hlt]) e2 s2.ok y
        refine asd_go (hs i ds[i] ρ' M' (by simp [hlt]) q) o3 r3 (s2.en.mono e3) fun σ4 ρ4 q4 en4 => GX.go q4 ⟨en4, o3, J.mono _ _ e3 s2.gh⟩ ?_
        have nxt : ∀ F' σ' H' ρ' M', Wd (i + 1) ρ' M' → Same F3 F' → En X.K F' σ' ρ' → Ok X.K F' M' H' → ∃ m', m' < ds.length - i ∧ m' = ds.length - (i + 1) ∧ i + 1 ≤ ds.length ∧ ∃ F' ρ' M', Same F1 F' ∧ Sts X.K J F' σ' H' ρ' M' ∧ Wd (i + 1) ρ' M' :=
          fun F5 σ5 H5 ρ5 M5 q5 e5 en5 o5 => ⟨_, by omega, rfl, hlt, F5, ρ5, M5, (e2.trans e3).trans e5, ⟨en5, o5, J.mono _ _ (e3.trans e5) s2.gh⟩, q5⟩
        exact ⟨nxt, k.rt.to ((e1.trans e2).trans e3), fun F5 σ5 H5 ρ5 M5 q5 e5 en5 o5 => k.nx F5 σ5 H5 ρ5 M5 q5 (((e1.trans e2).trans e3).trans e5) en5 o5, nxt⟩
    · have e : i = ds.length := by omega
      subst e
      exact .inl ⟨w.stops H' (e2.trans s2.ok.ex), k.nx F' σ' H' ρ' M' (hd ρ' M' q) (e1.trans e2) s2.en s2.ok⟩
end
end DX
namespace DX
open PySem PySem.Spec L2

theorem wipe_get (σ : St) (i : Nat) : ∀ vs : List Nat, (wipe σ vs)[i]? = if i ∈ vs then (σ[i]?).map (fun _ => none) else σ[i]?
  | [] => by simp [wipe]
  | v :: vs => by
    unfold wipe
    rw [List.getElem?_set]
    by_cases h : v = i
    · subst h
      rw [if_pos rfl, wipe_length]
      by_cases hl : v < σ.length
      · rw [if_pos hl, if_pos List.mem_cons_self, List.getElem?_eq_getElem hl]; rfl
      · rw [if_neg hl, if_pos List.mem_cons_self, List.getElem?_eq_none (by omega)]; rfl
    · rw [if_neg h, wipe_get σ i vs]
      have e : (i ∈ v :: vs) = (i ∈ vs) := by simp [Ne.symm h]
      simp only [e]
theorem wipe_set {σ : St} {j : Nat} {x : Option V} {vs : List Nat} (h : j ∈ vs) : wipe (σ.set j x) vs = wipe σ vs := by
  apply List.ext_getElem?
  intro i
  rw [wipe_get, wipe_get]
  by_cases hi : i ∈ vs
  · rw [if_pos hi, if_pos hi, List.getElem?_set]
    by_cases hj : j = i
    · subst hj
      rw [if_pos rfl]
      by_cases hl : j < σ.length
      · rw [if_pos hl, List.getElem?_eq_getElem hl]; rfl
      · rw [if_neg hl, List.getElem?_eq_none (by omega)]
    · rw [if_neg hj]
  · rw [if_neg hi, if_neg hi, List.getElem?_set_ne]
    intro z; subst z; exact hi h
theorem wipe_wipe (σ : St) (vs : List Nat) : wipe (wipe σ vs) vs = wipe σ vs := by
  apply List.ext_getElem?
  intro i
  rw [wipe_get, wipe_get]
  by_cases hi : i ∈ vs
  · rw [if_pos hi, if_pos hi]
    cases σ[i]? <;> rfl
  · rw [if_neg hi, if_neg hi]

section
variable {X : Cx} {J : Gh} {e a b c : Expr} {es : List Expr} {st : Stmt} {rest sts : List Stmt} {ρ ρ' : DEnv} {M M' : Mem} {F F' H H' : Hp} {σ : St} {B : Bd} {K : PySem.W.Frag} {pos p apos : Pos} {x : Str} {P : D → Mem → Prop}

abbrev Blk (X : Cx) (scope : Scope) : Type := Shared × Hp × Addr × List (Str × Addr) × List Addr
abbrev Blk.cx {X : Cx} {scope : Scope} (b : Blk X scope) : Cx := X.blk b.1 b.2.1 scope (compEnvC scope b.2.2.2.1 b.2.2.1 X.env) b.2.2.2.2
def EXb (X : Cx) (J : Gh) (scope : Scope) (e : Expr) (ρ : DEnv) (M : Mem) (P : D → Mem → Prop) : Prop := ∀ (s : Shared) (H : Hp) (C : Addr) (cl : List (Str × Addr)) (fp : List Addr), EX (X.blk s H scope (compEnvC scope cl C X.env) fp) J e ρ M P
def TXb (X : Cx) (J : Gh) (scope : Scope) (ifs : List Expr) (ρ : DEnv) (M : Mem) (P : Bool → Mem → Prop) : Prop := ∃ t, (∀ (s : Shared) (H : Hp) (C : Addr) (cl : List (Str × Addr)) (fp : List Addr), PTs (X.blk s H scope (compEnvC scope cl C X.env) fp) ifs t) ∧ ∀ F σ H Q, Sts X.K J F σ H ρ M → Kb X.K F P Q → t σ H Q
def AsB (X : Cx) (scope : Scope) (vs : List Nat) (target : Expr) (d : D) (ρ : DEnv) (P : DEnv → Prop) : Prop :=
  ∃ g, (∀ (s : Shared) (H : Hp) (C : Addr) (cl : List (Str × Addr)) (fp : List Addr), PG (X.blk s H scope (compEnvC scope cl C X.env) fp) target g) ∧
    ∀ F M v σ H Q, Ok X.K F M H → Rp X.K F v d → En X.K F σ ρ → (∀ σ' ρ', P ρ' → En X.K F σ' ρ' → wipe σ' vs = wipe σ vs → Q σ' H) → g v σ H Q
def AsBs (X : Cx) (scope : Scope) (vs : List Nat) (ts : List Expr) (ds : List D) (ρ : DEnv) (P : DEnv → Prop) : Prop :=
  ∃ g, (∀ (s : Shared) (H : Hp) (C : Addr) (cl : List (Str × Addr)) (fp : List Addr), PGs (X.blk s H scope (compEnvC scope cl C X.env) fp) ts g) ∧
    ∀ F M xs σ H Q, Ok X.K F M H → Rps X.K F xs ds → En X.K F σ ρ → (∀ σ' ρ', P ρ' → En X.K F σ' ρ' → wipe σ' vs = wipe σ vs → Q σ' H) → g xs σ H Q
def tEb (X : Cx) (scope : Scope) (e : Expr) : TE := fun σ H Q => ∃ t, (∀ (s : Shared) (H : Hp) (C : Addr) (cl : List (Str × Addr)) (fp : List Addr), PE (X.blk s H scope (compEnvC scope cl C X.env) fp) e t) ∧ t σ H Q
def tTb (X : Cx) (scope : Scope) (ifs : List Expr) : TT := fun σ H Q => ∃ t, (∀ (s : Shared) (H : Hp) (C : Addr) (cl : List (Str × Addr)) (fp : List Addr), PTs (X.blk s H scope (compEnvC scope cl C X.env) fp) ifs t) ∧ t σ H Q
def gB (X : Cx) (scope : Scope) (target : Expr) : TG := fun v σ H Q => ∃ g, (∀ (s : Shared) (H : Hp) (C : Addr) (cl : List (Str × Addr)) (fp : List Addr), PG (X.blk s H scope (compEnvC scope cl C X.env) fp) target g) ∧ g v σ H Q
variable {scope : Scope} {tg iter elt : Expr} {ifs : List Expr}
theorem txb_nil {P : Bool → Mem → Prop} (h : P true M) : TXb X J scope [] ρ M P := ⟨tYes, fun _ _ _ _ _ => pts_nil, fun F σ H Q st k => k _ _ _ _ h (Same.refl F) st.ok⟩
theorem pe_lcA {own : List (Str × Nat)} (hc : X.calm = true) (hN : X.N.Nodup) (ok : BlkOk X.N X.env.scope scope own) (hs : ∀ x, foldedSetIterable iter X.env x = pure x := by intro _; rfl) :
    PE X (.ListComp elt [⟨tg, iter, ifs, 0⟩] scope pos) (tLc (tIe X tg iter) (gB X scope tg) (tTb X scope ifs) (tEb X scope elt) (own.map (·.2))) :=
  pe_lc hc hN pi_any ok (fun s H C cl fp => ⟨fun pins s' σ H' v u Q I r ⟨g, h, q⟩ => (h s H C cl fp).run pins s' σ H' v u Q I r q⟩)
    (fun s H C cl fp => ⟨fun pins s' σ H' Q I ⟨t, h, q⟩ => (h s H C cl fp).run pins s' σ H' Q I q⟩) (fun s H C cl fp => ⟨fun pins s' σ H' Q I ⟨t, h, q⟩ => (h s H C cl fp).run pins s' σ H' Q I q⟩) hs
theorem asb_name {d : D} {vs : List Nat} {P : DEnv → Prop} (i : Nat) (h : P (put ρ i d)) (hv : i ∈ vs := by decide) (hN : X.N.Nodup := by rfl) (hi : X.N[i]? = some x := by rfl) (hx : ∀ (s : Shared) (H : Hp) (C : Addr) (cl : List (Str × Addr)) (fp : List Addr), Loc (X.blk s H scope (compEnvC scope cl C X.env) fp).env.scope x := by intros; first | exact Or.inl rfl | exact Or.inr rfl)
    (hf : ∀ (s : Shared) (H : Hp) (C : Addr) (cl : List (Str × Addr)) (fp : List Addr), (X.blk s H scope (compEnvC scope cl C X.env) fp).fn x = true ∨ (X.blk s H scope (compEnvC scope cl C X.env) fp).env.scope.names.lookup x = some .local := by intros; first | exact .inr rfl | exact .inl rfl) : AsB X scope vs (.Name x pos) d ρ P :=
  ⟨_, fun s H C cl fp => pg_name (X := X.blk s H scope (compEnvC scope cl C X.env) fp) hN hi (hx s H C cl fp) (hf s H C cl fp), fun F M v σ H Q o r en k => k _ _ h (en.put i r) (wipe_set hv)⟩
/-- [elt for tg in iter if ..]: the word by the turn, what is made so far, the memory (the new list, at Dl, in it while a turn runs) -/
def LcW (X : Cx) (J : Gh) (scope : Scope) (vs : List Nat) (tg : Expr) (ifs : List Expr) (elt : Expr) (ρ : DEnv) (P : D → Mem → Prop) (ds : List D) (M1 : Mem) : Prop := ∃ Wd : Nat → List D → Mem → Prop, Wd 0 [] M1 ∧
  (∀ i d acc M' Dl, ds[i]? = some d → Wd i acc M' → M' Dl = none → acc.length < 1000000 ∧ AsB X scope vs tg d (cuts ρ vs) fun ρ2 =>
    TXb X J scope ifs ρ2 (up M' Dl (.lst acc)) fun t M2 => (t = true → EXb X J scope elt ρ2 M2 fun y M3 => ∃ M4, M4 Dl = none ∧ M3 = up M4 Dl (.lst acc) ∧ Wd (i + 1) (acc ++ [y]) M4) ∧
      (t = false → ∃ M4, M4 Dl = none ∧ M2 = up M4 Dl (.lst acc) ∧ Wd (i + 1) acc M4)) ∧
  ∀ acc M', Wd ds.length acc M' → P (.lst acc) M'
theorem lc_go {vs : List Nat} {Q : VK} (st : Sts X.K J F σ H ρ M) (k : Kt X.K F P Q) (h : IX X J tg iter ρ M (LcW X J scope vs tg ifs elt ρ P)) :
    tLc (tIe X tg iter) (gB X scope tg) (tTb X scope ifs) (tEb X scope elt) vs σ H Q := by
  refine h.go st fun ds I M1 F1 H1 ⟨Wd, h0, hs, hd⟩ e1 o1 w Dl hD => ?_
  have hm1 := o1.nn hD
  refine ⟨fun i m H2 => m = ds.length - i ∧ i ≤ ds.length ∧ ∃ F' M' acc xs, Same F1 F' ∧ Ok X.K F' (up M' Dl (.lst acc)) H2 ∧ M' Dl = none ∧ H2 Dl = some (.lst xs) ∧ Wd i acc M', ⟨ds.length, by simp, Nat.zero_le _, F1, M1, [], [], Same.refl _, o1.lay hD ⟨[], upd_same, .nil⟩, hm1.2, upd_same, h0⟩, ?_⟩
  rintro i m H2 ⟨rfl, hi, F', M', acc, xs, e2, o2, hn, hx, q⟩
  by_cases hlt : i < ds.length
  · refine .inr ⟨w.goes i H2 hlt (e2.trans o2.ex), fun H3 => ∃ m', m' < ds.length - i ∧ m' = ds.length - (i + 1) ∧ i + 1 ≤ ds.length ∧ ∃ F' M' acc xs, Same F1 F' ∧ Ok X.K F' (up M' Dl (.lst acc)) H3 ∧ M' Dl = none ∧ H3 Dl = some (.lst xs) ∧ Wd (i + 1) acc M', fun H3 n3 => n3, fun x H3 y => ?_⟩
    obtain ⟨F3, e3, o3, r3⟩ := w.yields i ds[i] H2 x H3 F' _ (by simp [hlt]) e2 o2 y
    obtain ⟨ha, g, hg, hgo⟩ := hs i ds[i] acc M' Dl (by simp [hlt]) q hn
    have en3 : En X.K F3 (wipe σ vs) (cuts ρ vs) := (((st.en.cuts vs).mono e1).mono e2).mono e3
    refine ⟨g, hg, hgo F3 _ x _ H3 _ o3 r3 en3 fun σ4 ρ4 q4 en4 w4 => ⟨w4.trans (wipe_wipe σ vs), ?_⟩⟩
    obtain ⟨t, ht, q4⟩ := q4
    refine ⟨t, ht, q4 F3 σ4 H3 _ ⟨en4, o3, J.mono _ _ ((e1.trans e2).trans e3) st.gh⟩ fun tb M5 F5 H5 q5 e5 o5 => ?_⟩
    have fin : ∀ F6 M6 acc6 H6, Same F5 F6 → M6 Dl = none → Ok X.K F6 (up M6 Dl (.lst acc6)) H6 → Wd (i + 1) acc6 M6 → ∃ m', m' < ds.length - i ∧ m' = ds.length - (i + 1) ∧ i + 1 ≤ ds.length ∧ ∃ F' M' acc xs, Same F1 F' ∧ Ok X.K F' (up M' Dl (.lst acc)) H6 ∧ M' Dl = none ∧ H6 Dl = some (.lst xs) ∧ Wd (i + 1) acc M' := by
      intro F6 M6 acc6 H6 e6 n6 o6 q6
      obtain ⟨_, xs6, h6, _⟩ := o6.mt Dl _ up_same
      exact ⟨_, by omega, rfl, hlt, F6, M6, acc6, xs6, ((e2.trans e3).trans e5).trans e6, o6, n6, h6, q6⟩
    cases tb with
    | true =>
      refine iteT ⟨tD X.K J ρ4 M5 _, q5.1 rfl, F5, ⟨en4.mono e5, o5, J.mono _ _ (((e1.trans e2).trans e3).trans e5) st.gh⟩, fun y v M7 F7 H7 ⟨M4, n4, e4, q7⟩ e7 o7 r7 => ?_⟩
      subst e4
      obtain ⟨_, ys, hy, ry⟩ := o7.mt Dl _ up_same
      refine ⟨ys, hy, by rw [ry.length, sizeLine_eq]; omega, fin F7 M4 (acc ++ [y]) _ e7 n4 ?_ q7⟩
      have := o7.set (o := .lst (ys ++ [v])) (d' := .lst (acc ++ [y])) up_same ⟨_, upd_same, ry.append (.cons r7 .nil)⟩
      rwa [up_up] at this
    | false =>
      obtain ⟨M4, n4, e4, q7⟩ := q5.2 rfl
      subst e4
      exact iteF (fin F5 M4 acc H5 (Same.refl _) n4 o5 q7)
  · have e : i = ds.length := by omega
    subst e
    obtain ⟨_, ys, hy, ry⟩ := o2.mt Dl _ up_same
    obtain ⟨s1, o4⟩ := o2.freeze up_same hy
    rw [rm_up hn] at o4
    exact .inl ⟨w.stops H2 (e2.trans o2.ex), k _ _ _ _ _ (hd acc M' q) ((e1.trans e2).trans s1) o4 (.lst upd_same (ry.mono s1))⟩
theorem ex_lc {own : List (Str × Nat)} (hc : X.calm = true) (h : IX X J tg iter ρ M (LcW X J scope (own.map (·.2)) tg ifs elt ρ P)) (hN : X.N.Nodup := by rfl) (ok : blkC X.N X.env.scope scope own = true := by rfl) (hs : ∀ x, foldedSetIterable iter X.env x = pure x := by intro _; rfl) :
    EX X J (.ListComp elt [⟨tg, iter, ifs, 0⟩] scope pos) ρ M P :=
  ex_of (pe_lcA hc hN (blkOk_by ok) hs) fun F σ H Q st k => lc_go st k h
def SpD (K : PySem.W.Frag) (T : Tr) : Sp := fun vs H Q _ => ∃ F M ds P, Ok K F M H ∧ Rps K F vs ds ∧ T ds M P ∧ Kt K F P Q
def rAnyC (X : Cx) (f : Value) : List V → Hp → VK → Prop := fun vs H Q => ∃ r, CallR X f r ∧ r vs H Q
theorem cr_anyR {f : Value} : CallR X f (rAnyC X f) := fun pins s σ H vs us Q I r ⟨t, h, q⟩ => h pins s σ H vs us Q I r q
def CD (X : Cx) (f : Value) (ds : List D) (M : Mem) (P : D → Mem → Prop) : Prop :=
  ∃ r, CallR X f r ∧ ∀ F H vs Q, Ok X.K F M H → Rps X.K F vs ds → Kt X.K F P Q → r vs H Q
theorem ex_blt {id : String} (hm : X.mg x = none) (hv : bootBuiltins x = some (.builtin id)) (h : AX X J (e :: es) ρ M fun ds M1 => CD X (.builtin id) ds M1 P) (hg : Gl X x := by rfl) (hn : x ≠ "__name__" := by decide) (hdb : (x == ("__debug__" : Str)) = false := by decide)
    (he : starEach (e :: es) X.env = (false, eval e X.env) :: starEach es X.env := by rfl) (hpl : (backTo pos (starEach es X.env)).any (·.1) = false := by rfl) : EX X J (.Call (.Name x p) (e :: es) [] pos) ρ M P :=
  ex_of (pe_callB cr_anyR hg hm hv pa_any hn hdb he hpl) fun F σ H Q st k => h.go st fun ds vs M1 F1 H1 q e1 o1 r1 => by
    obtain ⟨r, h1, h2⟩ := q
    exact ⟨r, h1, h2 F1 H1 vs Q o1 r1 (k.to e1)⟩
theorem ex_ty {T : String} (hm : X.mg x = none) (hv : bootBuiltins x = some (.type T)) (h : AX X J (e :: es) ρ M fun ds M1 => CD X (.type T) ds M1 P) (hg : Gl X x := by rfl) (hn : x ≠ "__name__" := by decide) (hdb : (x == ("__debug__" : Str)) = false := by decide)
    (he : starEach (e :: es) X.env = (false, eval e X.env) :: starEach es X.env := by rfl) (hpl : (backTo pos (starEach es X.env)).any (·.1) = false := by rfl) : EX X J (.Call (.Name x p) (e :: es) [] pos) ρ M P :=
  ex_of (pe_callTy cr_anyR hg hm hv pa_any hn hdb he hpl) fun F σ H Q st k => h.go st fun ds vs M1 F1 H1 q e1 o1 r1 => by
    obtain ⟨r, h1, h2⟩ := q
    exact ⟨r, h1, h2 F1 H1 vs Q o1 r1 (k.to e1)⟩
theorem bb_len : bootBuiltins "len" = some (.builtin "len") := by decide +kernel
theorem bb_abs : bootBuiltins "abs" = some (.builtin "abs") := by decide +kernel
theorem bb_repr : bootBuiltins "repr" = some (.builtin "repr") := by decide +kernel
theorem bb_isi : bootBuiltins "isinstance" = some (.builtin "isinstance") := by decide +kernel
theorem bb_int : bootBuiltins "int" = some (.type "int") := by decide +kernel
theorem bb_list : bootBuiltins "list" = some (.type "list") := by decide +kernel
theorem cd_len {d : D} {ds : List D} (s : Sq M d ds) (q : P (.int (ds.length : Int)) M) : CD X (.builtin "len") [d] M P :=
  ⟨_, call_len_seq, fun F H vs Q o r k => by
    cases r with
    | cons h1 r =>
      cases r
      obtain ⟨a, xs, rfl, h2, r2⟩ := s.get o h1
      refine ⟨a, xs, rfl, h2, ?_⟩
      rw [r2.length]
      exact k.here q o (.int _)⟩
theorem cd_lenS {z : Str} (hz : z.length ≤ 1000000) (q : P (.int (z.length : Int)) M) : CD X (.builtin "len") [.str z] M P :=
  ⟨_, call_len_str, fun F H vs Q o r k => by
    cases r with
    | cons h1 r =>
      cases r
      cases h1
      exact ⟨z, rfl, by rw [sizeLine_eq]; omega, k.here q o (.int _)⟩⟩
theorem cd_list {d : D} {ds : List D} (s : Sq M d ds) (q : P (.lst ds) M) : CD X (.type "list") [d] M P :=
  ⟨_, call_list_of, fun F H vs Q o r k => by
    cases r with
    | cons h1 r =>
      cases r
      obtain ⟨a, xs, rfl, h2, r2⟩ := s.get o h1
      exact ⟨a, xs, rfl, h2, fun l hl => k _ _ _ _ _ q (o.fixSame hl) (o.fix hl) (.lst upd_same (r2.mono (o.fixSame hl)))⟩⟩
theorem cd_intB {t : Bool} (q : P (.int (if t = true then 1 else 0)) M) : CD X (.type "int") [.bl t] M P :=
  ⟨_, call_int1, fun F H vs Q o r k => by
    cases r with
    | cons h1 r =>
      cases r
      cases h1
      exact .inr ⟨t, rfl, k.here q o (.int _)⟩⟩
theorem cd_intI {t : Int} (q : P (.int t) M) : CD X (.type "int") [.int t] M P :=
  ⟨_, call_int1, fun F H vs Q o r k => by
    cases r with
    | cons h1 r =>
      cases r
      cases h1
      exact .inl ⟨t, rfl, k.here q o (.int _)⟩⟩
theorem cd_abs {t : Int} (q : P (.int (if t < 0 then -t else t)) M) : CD X (.builtin "abs") [.int t] M P :=
  ⟨_, call_abs, fun F H vs Q o r k => by
    cases r with
    | cons h1 r =>
      cases r
      cases h1
      exact ⟨t, rfl, k.here q o (.int _)⟩⟩
mutual
def D.py : D → Option PyData
  | .non => some .none
  | .bl b => some (.bool b)
  | .int i => some (.int i)
  | .str x => some (.str x)
  | .tup ds => (pys ds).map .tuple
  | .lst ds => (pys ds).map .list
  | _ => none
def pys : List D → Option (List PyData)
  | [] => some []
  | d :: ds => (D.py d).bind fun z => (pys ds).map fun zs => z :: zs
end
mutual
theorem Rp.dp (hs : Same F H) : ∀ {d : D} {v : V} {z : PyData}, Rp K F v d → d.py = some z → Dp K H v z
  | .non, _, z, .non, e => by simp [D.py] at e; subst e; exact .non
  | .bl b, _, z, .bl _, e => by simp [D.py] at e; subst e; exact .bl b
  | .int i, _, z, .int _, e => by simp [D.py] at e; subst e; exact .int i
  | .str x, _, z, .str _, e => by simp [D.py] at e; subst e; exact .str x
  | .tup ds, _, z, .tup h r, e => by
    rw [D.py] at e
    obtain ⟨zs, h1, rfl⟩ := Option.map_eq_some_iff.mp e
    exact .tup (same_t hs h) (Rps.dps hs r h1)
  | .lst ds, _, z, .lst h r, e => by
    rw [D.py] at e
    obtain ⟨zs, h1, rfl⟩ := Option.map_eq_some_iff.mp e
    exact .lst (SqL.of (hs _ _ h)) (Rps.dps hs r h1)
  | .adr _, _, z, _, e => by simp [D.py] at e
  | .ty _, _, z, _, e => by simp [D.py] at e
  | .ins _ _, _, z, _, e => by simp [D.py] at e
  | .scr _, _, z, _, e => by simp [D.py] at e
  | .dct _, _, z, _, e => by simp [D.py] at e
  | .stup _, _, z, _, e => by simp [D.py] at e
theorem Rps.dps (hs : Same F H) : ∀ {ds : List D} {vs : List V} {zs : List PyData}, Rps K F vs ds → pys ds = some zs → DpAll K H vs zs
  | [], _, zs, .nil, e => by simp [pys] at e; subst e; exact .nil
  | d :: ds, _, zs, .cons h r, e => by
    rw [pys] at e
    obtain ⟨z, h1, e⟩ := Option.bind_eq_some_iff.mp e
    obtain ⟨ws, h2, rfl⟩ := Option.map_eq_some_iff.mp e
    exact .cons (Rp.dp hs h h1) (Rps.dps hs r h2)
end
end
end DX
namespace DX
open PySem PySem.Spec L2

section
variable {X : Cx} {J : Gh} {e a b c : Expr} {es : List Expr} {ρ ρ' : DEnv} {M M' : Mem} {F F' H H' : Hp} {σ : St} {B : Bd} {K : PySem.W.Frag} {pos p apos : Pos} {x : Str} {P : D → Mem → Prop}
end
end DX
namespace DX
open PySem PySem.Spec L2

mutual
/-- ints below 2^200, texts of signs, lists and tuples of such -/
def good : D → Prop
  | .non => True
  | .bl _ => True
  | .int i => -(2 ^ 200) ≤ i ∧ i ≤ 2 ^ 200
  | .str x => PyData.strOk x = true
  | .tup ds => goods ds
  | .lst ds => goods ds
  | _ => False
def goods : List D → Prop
  | [] => True
  | d :: ds => good d ∧ goods ds
end
mutual
/-- at least as much as its text is long -/
def wt : D → Nat
  | .str x => 10 * x.length + 2
  | .tup ds => wts ds + 3
  | .lst ds => wts ds + 3
  | _ => 64
def wts : List D → Nat
  | [] => 0
  | d :: ds => wt d + 2 + wts ds
end
mutual
def dep : D → Nat
  | .tup ds => deps ds + 1
  | .lst ds => deps ds + 1
  | _ => 0
def deps : List D → Nat
  | [] => 0
  | d :: ds => max (dep d) (deps ds)
end
mutual
def pyd : D → PyData
  | .bl b => .bool b
  | .int i => .int i
  | .str x => .str x
  | .tup ds => .tuple (pyds ds)
  | .lst ds => .list (pyds ds)
  | _ => .none
def pyds : List D → List PyData
  | [] => []
  | d :: ds => pyd d :: pyds ds
end
/-- the text that repr gives -/
def txt (d : D) : Str := (pyd d).shown
theorem small_log {i : Int} (h : -(2 ^ 200) ≤ i ∧ i ≤ 2 ^ 200) : i.natAbs.log2 < 1920 := by
  have h1 : i.natAbs ≤ 2 ^ 200 := by omega
  by_cases h0 : i.natAbs = 0
  · rw [h0]; decide
  · rw [Nat.log2_lt h0]
    exact Nat.lt_of_le_of_lt h1 (by decide)
mutual
theorem good_py : ∀ {d : D}, good d → d.py = some (pyd d)
  | .non, _ => rfl
  | .bl _, _ => rfl
  | .int _, _ => rfl
  | .str _, _ => rfl
  | .tup ds, h => by rw [D.py, goods_py h]; rfl
  | .lst ds, h => by rw [D.py, goods_py h]; rfl
theorem goods_py : ∀ {ds : List D}, goods ds → pys ds = some (pyds ds)
  | [], _ => rfl
  | d :: ds, h => by rw [pys, good_py h.1, goods_py h.2]; rfl
end
mutual
theorem good_lay : ∀ {d : D}, good d → (pyd d).canLay0 = true
  | .non, _ => by simp [pyd, PyData.canLay0]
  | .bl _, _ => by simp [pyd, PyData.canLay0]
  | .int _, _ => by simp [pyd, PyData.canLay0]
  | .str _, h => by simp only [pyd, PyData.canLay0]; exact h
  | .tup ds, h => by simp only [pyd, PyData.canLay0]; exact goods_lay h
  | .lst ds, h => by simp only [pyd, PyData.canLay0]; exact goods_lay h
theorem goods_lay : ∀ {ds : List D}, goods ds → PyData.canLayAll0 (pyds ds) = true
  | [], _ => by simp [pyds, PyData.canLayAll0]
  | d :: ds, h => by simp only [pyds, PyData.canLayAll0, good_lay h.1, goods_lay h.2, Bool.and_self]
end
mutual
theorem good_show : ∀ {d : D}, good d → (pyd d).showable = true
  | .non, _ => by simp [pyd, PyData.showable]
  | .bl _, _ => by simp [pyd, PyData.showable]
  | .int i, h => by simp only [pyd, PyData.showable]; exact decide_eq_true (small_log h)
  | .str _, h => by simp [pyd, PyData.showable]
  | .tup ds, h => by simp only [pyd, PyData.showable]; exact goods_show h
  | .lst ds, h => by simp only [pyd, PyData.showable]; exact goods_show h
theorem goods_show : ∀ {ds : List D}, goods ds → PyData.showableAll (pyds ds) = true
  | [], _ => by simp [pyds, PyData.showableAll]
  | d :: ds, h => by simp only [pyds, PyData.showableAll, good_show h.1, goods_show h.2, Bool.and_self]
end
mutual
theorem dep_py : ∀ {d : D}, good d → (pyd d).depth ≤ dep d + 1
  | .non, _ => by simp [pyd, PyData.depth]
  | .bl _, _ => by simp [pyd, PyData.depth]
  | .int i, h => by simp [pyd, PyData.depth]
  | .str _, h => by simp [pyd, PyData.depth]
  | .tup ds, h => by simp only [pyd, PyData.depth, dep]; have := deps_py (ds := ds) h; omega
  | .lst ds, h => by simp only [pyd, PyData.depth, dep]; have := deps_py (ds := ds) h; omega
theorem deps_py : ∀ {ds : List D}, goods ds → PyData.depthAll (pyds ds) ≤ deps ds + 1
  | [], _ => by simp [pyds, PyData.depthAll]
  | d :: ds, h => by
    simp only [pyds, PyData.depthAll, deps]
    have h1 := dep_py h.1
    have h2 := deps_py h.2
    omega
end
mutual
theorem wt_py : ∀ {d : D}, good d → (pyd d).shown.length ≤ wt d
  | .non, _ => by simp only [pyd, PyData.shown, wt]; decide +kernel
  | .bl b, _ => by cases b <;> (simp only [pyd, PyData.shown, wt]; decide +kernel)
  | .int i, h => by
    simp only [pyd, PyData.shown, wt]
    have h0 : -(2 ^ 200) ≤ i ∧ i ≤ 2 ^ 200 := h
    have h1 : i.natAbs < 10 ^ 61 := Nat.lt_of_le_of_lt (show i.natAbs ≤ 2 ^ 200 by omega) (by decide)
    have h2 := int_text_length_le10 (a := i) (k := 61) (by decide) h1
    rw [← PySem.ofString_length] at h2
    omega
  | .str x, h => by
    simp only [pyd, PyData.shown, wt]
    refine StrLaws.reprText_len x fun c hc => ?_
    have h1 : x.cps.all (· < 0x110000) = true := h
    have h2 := Array.all_eq_true_iff_forall_mem.mp h1 c (by simpa using hc)
    have h3 : c < 0x110000 := by simpa using h2
    exact Nat.lt_trans h3 (by decide)
  | .tup ds, h => by
    simp only [pyd, PyData.shown, wt]
    have h1 := tupleText_len_le (PyData.shownAll (pyds ds))
    have h2 := wts_py (ds := ds) h
    omega
  | .lst ds, h => by
    simp only [pyd, PyData.shown, wt]
    have h1 := listText_len_le (PyData.shownAll (pyds ds))
    have h2 := wts_py (ds := ds) h
    omega
theorem wts_py : ∀ {ds : List D}, goods ds → ((PyData.shownAll (pyds ds)).map (·.length)).sum + 2 * (PyData.shownAll (pyds ds)).length ≤ wts ds
  | [], _ => by simp [pyds, PyData.shownAll, wts]
  | d :: ds, h => by
    simp only [pyds, PyData.shownAll, wts, List.map_cons, List.sum_cons, List.length_cons]
    have h1 := wt_py h.1
    have h2 := wts_py h.2
    omega
end
mutual
theorem eqv_refl : ∀ {d : D}, good d → PyData.eqv (pyd d) (pyd d) = true
  | .non, _ => by simp [pyd, PyData.eqv]
  | .bl b, _ => by cases b <;> simp [pyd, PyData.eqv]
  | .int i, h => by simp [pyd, PyData.eqv]
  | .str _, h => by simp [pyd, PyData.eqv]
  | .tup ds, h => by simp only [pyd, PyData.eqv]; exact eqvs_refl h
  | .lst ds, h => by simp only [pyd, PyData.eqv]; exact eqvs_refl h
theorem eqvs_refl : ∀ {ds : List D}, goods ds → PyData.eqvAll (pyds ds) (pyds ds) = true
  | [], _ => by simp [pyds, PyData.eqvAll]
  | d :: ds, h => by simp only [pyds, PyData.eqvAll, eqv_refl h.1, eqvs_refl h.2, Bool.and_self]
end

section
variable {X : Cx} {J : Gh} {e a b c o : Expr} {es : List Expr} {ρ ρ' : DEnv} {M M' : Mem} {F F' H H' : Hp} {σ : St} {B : Bd} {K : PySem.W.Frag} {pos p apos cpos : Pos} {x : Str} {P : D → Mem → Prop}
def rReprD (K : PySem.W.Frag) : List V → Hp → VK → Prop := fun xs H Q => ∃ y z, xs = [y] ∧ Dp K H y z ∧ z.showable = true ∧ z.hasDict = false ∧ z.depth ≤ 60 ∧ z.shown.length ≤ sizeLine ∧ Q (.str z.shown) H
theorem shaped_good {d : D} (h : good d) (hd : dep d ≤ 50) : SeqAt.shaped (pyd d) = true := by
  have := dep_py h
  unfold SeqAt.shaped
  rw [good_lay h, Bool.true_and]
  exact decide_eq_true (by omega)
/-- == of data -/
def eqD (d1 d2 : D) : Bool := PyData.eqv (pyd d1) (pyd d2)
theorem eqD_refl {d : D} (h : good d) : eqD d d = true := eqv_refl h
/-- at h stands d; with another in its place the memory is f of it -/
structure At (M : Mem) (h : Addr) (d : D) (f : D → Mem) : Prop where
  get : M h = some d
  set : ∀ d', f d' = up M h d'
theorem at0 {h : Addr} {d : D} : At (up M h d) h d (fun d' => up M h d') := ⟨up_same, fun _ => up_up.symm⟩
/-- x[i] = e -/
theorem g1_setIx {tp : Pos} (h : EX X J e ρ M fun y M1 => EX X J o ρ M1 fun d M2 => EX X J a ρ M2 fun i M3 => ∃ q ds f n m, d = .adr q ∧ i = .int n ∧ At M3 q (.lst ds) f ∧ ixN ds.length n = some m ∧ B.nx ρ (f (.lst (ds.set m y))))
    (hs : swapsWithSole [.Subscript o a tp] e pos.line X.env = pure false := by rfl) (hw : swappedStores [.Subscript o a tp] e X.env = pure none := by rfl)
    (h1 : (assignEach [.Subscript o a tp] X.env).map (·.2) = [assign (.Subscript o a tp) X.env] := by rfl)
    (ha : ∀ v, assign (.Subscript o a tp) X.env v = (do let ov ← holding [v] (eval o X.env); let iv ← holding [v, ov] (eval a X.env); standAt tp; holding [v, ov, iv] (setItem ov iv v); release [v, ov, iv] []) := by intro _; rfl) : G1 X J (.Assign [.Subscript o a tp] e pos) ρ M B :=
  g1_of (ps_asg pe_any (pg_sub pe_any pe_any set_list ha) hs hw h1) fun F σ H E s k => h.go s fun y v M1 F1 H1 q1 e1 o1 r1 => q1.go (s.to e1 o1) fun d w M2 F2 H2 q2 e2 o2 r2 => q2.go (s.to (e1.trans e2) o2) fun i u M3 F3 H3 q3 e3 o3 r3 => by
    obtain ⟨q, ds, f, n, m, rfl, rfl, hA, hm, q3⟩ := q3
    cases r2; cases r3
    obtain ⟨_, xs, hx, rx⟩ := o3.mt _ _ hA.get
    refine ⟨q, xs, n, m, rfl, rfl, hx, by rw [rx.length]; exact hm, k.nx F3 _ _ _ _ q3 ((e1.trans e2).trans e3) (((s.en.mono e1).mono e2).mono e3) ?_⟩
    rw [hA.set]
    exact o3.set (o := .lst (xs.set m v)) hA.get ⟨_, upd_same, rx.set m ((r1.mono e2).mono e3)⟩

def pick {α : Type} (l : List α) (ix : List Nat) : List α := ix.filterMap fun i => l[i]?
theorem pick_vals {vs : List V} {us : List Value} (r : Vals vs us) : ∀ ix : List Nat, Vals (pick vs ix) (pick us ix)
  | [] => .nil
  | i :: ix => by
    unfold pick
    rw [List.filterMap_cons, List.filterMap_cons]
    cases e : vs[i]? with
    | none => rw [Vals.none_of r e]; exact pick_vals r ix
    | some v =>
      obtain ⟨u, h1, h2⟩ := r.get e
      rw [h1]
      exact .cons h2 (pick_vals r ix)
theorem pick_rps {vs : List V} {ds : List D} (r : Rps K F vs ds) : ∀ ix : List Nat, Rps K F (pick vs ix) (pick ds ix)
  | [] => .nil
  | i :: ix => by
    unfold pick
    rw [List.filterMap_cons, List.filterMap_cons]
    cases e : vs[i]? with
    | none =>
      have : ds[i]? = none := by
        rw [List.getElem?_eq_none_iff] at e ⊢
        rw [← r.length]; exact e
      rw [this]; exact pick_rps r ix
    | some v =>
      obtain ⟨d, h1, h2⟩ := r.getV e
      rw [h1]
      exact .cons h2 (pick_rps r ix)
theorem pk_any {kws : List Keyword} : PK X kws (tKe X kws) := ⟨fun pos pins s σ H Q I ⟨t, h, q⟩ => h.run pos pins s σ H Q I q⟩
theorem kx_nil {P : List D → Mem → Prop} (q : P [] M) : KX X J [] ρ M P := ⟨fun pos pins s σ H Q I ⟨F, st, k⟩ => pk_nil.run pos pins s σ H Q I (k [] [] M F H q (Same.refl F) st.ok .nil)⟩
theorem kx_cons {kws : List Keyword} {nm : Option Str} {kpos : Pos} {P : List D → Mem → Prop} (h : EX X J e ρ M fun d M1 => KX X J kws ρ M1 fun ds M2 => P (d :: ds) M2) : KX X J (⟨nm, e, kpos⟩ :: kws) ρ M P :=
  ⟨fun pos pins s σ H Q I ⟨F, st, k⟩ => (pk_cons pe_any pk_any).run pos pins s σ H Q I (h.go st fun d v M1 F1 H1 q e1 o1 r1 => KX.go q (st.to e1 o1) fun ds vs M2 F2 H2 q2 e2 o2 r2 => k _ _ M2 F2 H2 q2 (e1.trans e2) o2 (.cons (r1.mono e2) r2))⟩
end
end DX
namespace DX
open PySem PySem.Spec L2
theorem le_b {m n : Nat} (h : Nat.ble m n = true) : m ≤ n := Nat.le_of_ble_eq_true h
section
variable {X : Cx} {J : Gh} {e a b c o : Expr} {es : List Expr} {st : Stmt} {ρ ρ' : DEnv} {M M' : Mem} {F F' H H' : Hp} {σ : St} {B : Bd} {K : PySem.W.Frag} {pos p apos cpos : Pos} {x : Str} {P : D → Mem → Prop}
/-- a word between a statement and the rest -/
theorem g1_mid (Mid : DEnv → Mem → Prop) (h : G1 X J st ρ M (B.thn Mid)) (k : ∀ ρ' M', Mid ρ' M' → B.nx ρ' M') : G1 X J st ρ M B :=
  g1_of h fun F σ H E st kd => ⟨F, st, fun F' σ' H' ρ' M' q => kd.nx F' σ' H' ρ' M' (k _ _ q), kd.rt, kd.bk, kd.ct⟩
/-- the script's first items, as a list -/
theorem sd_scr {ns : List Int} {k : Nat} (q : P (.lst ((ns.take k).map D.int)) M) : SD X (.scr ns) none (some (k : Int)) M P :=
  ⟨_, sl_list, fun F H v Q o rx kt => by
    cases rx with
    | scr h =>
      refine ⟨_, _, rfl, same_l o.ex h, fun q' hq => kt _ _ _ _ _ q (o.fixSame hq) (o.fix hq) (.lst upd_same ?_)⟩
      have e1 : cutV (ns.map V.int) none (some (k : Int)) = (ns.take k).map V.int := by
        unfold cutV
        rw [HT.sIx_none, HT.sIx_nat, Nat.sub_zero, List.drop_zero, List.map_take, List.length_map]
        by_cases hk : k ≤ ns.length
        · rw [Nat.min_eq_left hk]
        · rw [Nat.min_eq_right (by omega), List.take_of_length_le (by simp), List.take_of_length_le (by simp; omega)]
      rw [e1]
      exact Rps.ofInts⟩
theorem pyds_ints : ∀ ns : List Int, pys (ns.map D.int) = some (ns.map PyData.int)
  | [] => rfl
  | n :: ns => by rw [List.map_cons, pys, pyds_ints ns]; rfl
theorem lay_ints : ∀ ns : List Int, PyData.canLayAll0 (ns.map PyData.int) = true
  | [] => by simp [PyData.canLayAll0]
  | n :: ns => by simp only [List.map_cons, PyData.canLayAll0, PyData.canLay0, lay_ints ns, Bool.and_self]
theorem dep_ints : ∀ ns : List Int, PyData.depthAll (ns.map PyData.int) ≤ 1
  | [] => by simp [PyData.depthAll]
  | n :: ns => by have := dep_ints ns; simp only [List.map_cons, PyData.depthAll, PyData.depth]; omega
theorem shaped_ints (ns : List Int) : SeqAt.shaped (.list (ns.map PyData.int)) = true := by
  have := dep_ints ns
  unfold SeqAt.shaped
  rw [Bool.and_eq_true]
  exact ⟨by simp only [PyData.canLay0]; exact lay_ints ns, decide_eq_true (by simp only [PyData.depth]; omega)⟩
end

def hand (s : Hs) : D := .lst [.lst (s.cells.map D.int), .int s.at_, .int s.gr]
/-- a draw: any number below the bound -/
def trTake : Tr := fun ds M P => ∃ h s b M0 n, ds = [.adr h, .int b] ∧ M = up M0 h (hand s) ∧ HOk s n ∧ n ≤ 1000000 ∧ (0 < b ∧ b < 1000000000) ∧ ∀ k s', 0 ≤ k → k < b → HOk s' (n + 1) → P (.int k) (up M0 h (hand s'))
def trBegin : Tr := fun ds M P => ∃ ns, ds = [.scr ns] ∧ ∀ h s, M h = none → HOk s 0 → P (.adr h) (up M h (hand s))
theorem law_start {T : Tr} (hT : ∀ ns M P, (∀ M', P (.bl true) M') → T [.scr ns] M P) {K : PySem.W.Frag} {H : Hp} {a : Addr} {ns : List Int} (hS : SqL K H a (ns.map V.int)) : ∃ F M ds, Ok K F M H ∧ Rps K F [.ref a] ds ∧ T ds M fun d _ => d = .bl true :=
  ⟨H, fun _ => none, [.scr ns], ⟨Same.refl H, fun a d e => by cases e⟩, .cons (.scr hS) .nil, hT ns _ _ fun _ => rfl⟩
end DX
namespace DX
open PySem PySem.Spec L2
def isi (n : String) (d : D) : Bool := (kn d == n) || (kn d == "bool" && n == "int")
section
variable {X : Cx} {J : Gh} {e a b c o : Expr} {es : List Expr} {st : Stmt} {ρ ρ' : DEnv} {M M' : Mem} {F F' H H' : Hp} {σ : St} {B : Bd} {K : PySem.W.Frag} {pos p apos cpos : Pos} {x : Str} {P : D → Mem → Prop}
/-- a built-in type by its name -/
theorem ex_tyn {n : String} (hm : X.mg x = none) (hv : bootBuiltins x = some (.type n)) (q : P (.ty n) M) (hg : Gl X x := by rfl) (hn : x ≠ "__name__" := by decide) (hd : (x == ("__debug__" : Str)) = false := by decide) : EX X J (.Name x pos) ρ M P :=
  ex_of (pe_bltn (v := .ty n) hg hm hv rfl hn hd) fun F σ H Q st k => k.here q st.ok (.ty n)
end
end DX
namespace DX
open PySem PySem.Spec L2
section
variable {X : Cx} {J : Gh} {e : Expr} {ρ : DEnv} {M : Mem} {P : D → Mem → Prop}
end
def bits (v : Int) (n : Nat) : List D := (List.range n).map fun i => D.int (v / 2 ^ i % 2)
/-- adding bit by bit: the sum of the low parts -/
def low (a b c : Int) (i : Nat) : Int := a % 2 ^ i + b % 2 ^ i + c
end DX
namespace DX
open PySem PySem.Spec L2
open PyProof.Rows hiding St
section
variable {X : Cx} {J : Gh} {e a b c o : Expr} {es : List Expr} {ρ : DEnv} {M : Mem} {F F' H H' : Hp} {σ : St} {K : PySem.W.Frag} {pos p apos cpos : Pos} {P : D → Mem → Prop}
def toS : D → Str
  | .str z => z
  | _ => Str.empty
def AllS (ds : List D) : Prop := (ds.map toS).map D.str = ds
def sizeJ (ds : List D) : Nat := ((ds.map toS).map (·.length)).sum
def rngC (a c : Int) (n : Nat) : List D := (List.range n).map fun (i : Nat) => D.int (a + (i : Int) * c)
def PRc (X : Cx) (e : Expr) (t : St → Hp → (Int → Int → Nat → Hp → Prop) → Prop) : Prop :=
  ∀ (pins : List (Addr × Obj)) (s : Shared) (σ : St) (H : Hp) (Q : Int → Int → Nat → Hp → Prop), Inv X pins σ H s → t σ H Q →
    wpAny (model X.prog X.w) X.A (eval e X.env) (fun x s' => ∃ r a b c n t u v H', x = .ref r ∧ IsRange s'.heap r a b c t u v ∧ RgC a b c n ∧ n ≤ 2 ^ 24 ∧ Inv X pins σ H' s' ∧ Q a c n H') X.xe s
def tRc (ta : TA) : St → Hp → (Int → Int → Nat → Hp → Prop) → Prop := fun σ H Q => ta σ H fun vs H1 => ∃ i j c n, (vs = [.int i, .int j, .int c] ∨ (vs = [.int i, .int j] ∧ c = 1) ∨ (vs = [.int j] ∧ i = 0 ∧ c = 1)) ∧ RgC i j c n ∧ n ≤ 2 ^ 24 ∧ Q i c n H1
def rgC (a c : Int) (n : Nat) : List V := (List.range n).map fun (i : Nat) => V.int (a + (i : Int) * c)
def tLstRc (te : St → Hp → (Int → Int → Nat → Hp → Prop) → Prop) : TE := fun σ H Q => te σ H fun a c n H1 => ∀ q, H1 q = none → Q (.ref q) (upd H1 q (.lst (rgC a c n)))
def tTupRc (te : St → Hp → (Int → Int → Nat → Hp → Prop) → Prop) : TE := fun σ H Q => te σ H fun a c n H1 => ∀ q, H1 q = none → Q (.ref q) (upd H1 q (.tup (rgC a c n)))
variable {te : St → Hp → (Int → Int → Nat → Hp → Prop) → Prop}
/-- what range is asked -/
def Rg (ds : List D) (i c : Int) (n : Nat) : Prop := ∃ j, (ds = [.int i, .int j, .int c] ∨ (ds = [.int i, .int j] ∧ c = 1) ∨ (ds = [.int j] ∧ i = 0 ∧ c = 1)) ∧ RgC i j c n ∧ n ≤ 2 ^ 24
end
end DX
namespace DX
open PySem PySem.Spec L2
open SX
section
variable {X : Cx} {J : Gh} {M : Mem} {P : D → Mem → Prop}
def isS (c : Nat) : Prop := c = 71 ∨ c = 75 ∨ c = 80
def sgl (L : List Nat) : List D := L.map fun c => D.str (S [c])
def stp (l : List Nat) (p : Int) : Nat := l.getD (l.length - 1 - p.toNat) 0
def firstS (l : List Nat) : List Int → Nat
  | [] => 80
  | p :: ps => if stp l p = 80 then firstS l ps else stp l p
def carryS (c : Nat) : Int := if c = 71 then 1 else 0
def down (a b : Int) : List Int := (List.range (a - b).toNat).map fun (i : Nat) => a + (i : Int) * (-1)
def dueP (n o : Int) (r : Bool) : List Int := if r then down o 0 ++ down n o else down o (-1)
def upto (a b : Int) : List Int := (List.range (b - a).toNat).map fun (i : Nat) => a + (i : Int)
def isRing (l : List Nat) : Bool := decide (stp l 0 = 80)
def trueS (l : List Nat) (o : Int) : Int := carryS (firstS l (dueP ((l.length : Int) - 1) o (isRing l)))
def trueAll (l : List Nat) : List Int := (upto (if isRing l then 1 else 0) ((l.length : Int) - 1 + 1)).map (trueS l)
end
end DX
namespace DX
open PySem PySem.Spec L2
open SX
section
variable {X : Cx} {J : Gh} {M : Mem} {P : D → Mem → Prop}
def cutA {α : Type} (xs : List α) (lo hi : Option Int) : List α := (xs.drop (HT.sIx xs.length 0 lo)).take (HT.sIx xs.length xs.length hi - HT.sIx xs.length 0 lo)
theorem sd_str {z : Str} {l u : Option Int} (hz : z.cps.toList.length ≤ 1000000) (p : P (.str (S (cutA z.cps.toList l u))) M) : SD X (.str z) l u M P :=
  ⟨_, sl_str, fun F H v Q o rx k => by
    cases rx
    have hl : z.length = z.cps.toList.length := by unfold Str.length; rw [Array.length_toList]
    refine ⟨z, rfl, by rw [sizeLine_eq]; omega, ?_⟩
    have e : cutS z l u = S (cutA z.cps.toList l u) := by unfold cutS cutA; rw [hl]
    rw [e]
    exact k.here p o (.str _)⟩
/-- the state that two bits make -/
def ltr (x y : Int) : Nat := if x ≠ y then 80 else if x = 1 then 71 else 75
def stL (a b : Int) (n : Nat) : List Nat := (List.range n).map fun i => ltr (a / 2 ^ i % 2) (b / 2 ^ i % 2)
def fA (L : List Nat) (i : Nat) : Int := if L.getD i 0 = 75 then 0 else 1
def fB (L : List Nat) (i : Nat) : Int := if L.getD i 0 = 71 then 1 else 0
end
end DX
namespace DX
open PySem PySem.Spec L2
open SX
section
variable {X : Cx} {J : Gh} {M : Mem} {P : D → Mem → Prop}
def inS (z : Str) (ds : List D) : Bool := ds.any fun d => decide (toS d = z)
end
def lookY (fa : List He.Fa) (fn : List He.DefD) (ex : PySem.W.Frag → Bool) (n : Nat) (g : Addr → Option Obj) : He.AlD × Bool :=
  (He.obsDG n fa fn g, ex (He.frG g (He.asD g n)))
def hookY (n : Nat) (fa : List He.Fa) (fn : List He.DefD) (ex : PySem.W.Frag → Bool) : PySem.W.Hook where
  α := He.AlD × Bool
  obs := fun s => lookY fa fn ex n s.heap.get?
  val := fun _ => (He.valD fn, true)
  says := fun _ h => ∃ K : PySem.W.Frag, K.In h ∧ He.SaysD fa fn K ∧ ex K = true
  of := fun _ _ e => ⟨_, He.frG_in, congrArg Prod.fst e, congrArg Prod.snd e⟩
  keeps := fun _ _ _ ⟨K, hK, c, d⟩ k => ⟨K, PySem.W.Frag.In.keeps hK k, c, d⟩
end DX
namespace DX
open PySem PySem.Spec L2 PyProof.Rows StX

abbrev TrV := List D → List D → Mem → (D → Mem → Prop) → Prop
structure FnV (pg : Program) (w : World) (K : PySem.W.Frag) (mg : Str → Option Value) (base : Heap) (gd : Bool) (k : Nat) (f : Addr) (ks : List Str) (T : TrV) : Prop where
  go : ∀ (A : Around) (outer : List PySem.Env) (s : Shared) (H F : Hp) (M : Mem) (ds zs : List D) (P : D → Mem → Prop) (us ws : List Value) (vs xs : List V) (Q : VK), (gd = true → A.guards = some []) → Room k A → Env0 pg w K mg base A outer s H →
    Vals vs us → Vals xs ws → ws.length = ks.length → Ok K F M H → Rps K F vs ds → Rps K F xs zs → T ds zs M P → Kt K F P Q → codeAny (model pg w) A (.call (.ref f) ⟨us, ks.zip ws⟩) (CR CX0 outer pg w H s Q E0) s
/-- a def's body keeps the promise T of what stands in its parameters -/
def BodyOk (pg : Program) (w : World) (K : PySem.W.Frag) (mg : Str → Option Value) (base : Heap) (gd : Bool) (k : Nat) (f : Addr) (qual : Str) (body : List Stmt) (scope : Scope) (N ps : List Str) (T : Tr) : Prop :=
  ∀ (cdv : Value) (A : Around) (outer : List PySem.Env) (s : Shared) (H : Hp) (ds : List D) (M : Mem) (P : D → Mem → Prop), (gd = true → A.guards = some []) → Room k (A.deeper (PyProof.Rows.envOfC qual scope s.heap.objs.size f cdv)) → T ds M P →
      GX (cxOf CX0 pg w K mg base N qual scope f cdv A outer s H E0).nox Gh.triv body (startD (N.length - ps.length) ds) M ⟨fun _ M' => P .non M', P, fun _ _ => False, fun _ _ => False⟩
section
variable {pg : Program} {w : World} {K : PySem.W.Frag} {mg : Str → Option Value} {base : Heap} {x qual : Str} {params : Arguments} {body : List Stmt} {scope : Scope} {kws : List (Str × V)} {f : Addr} {fd : FuncData} {N pn : List Str} {pv : Str} {k : Nat} {T : Tr} {gd : Bool}
end

section
variable {X : Cx} {J : Gh} {e a b c o : Expr} {es : List Expr} {ρ ρ' : DEnv} {M M' : Mem} {F F' H H' : Hp} {σ : L2.St} {B : Bd} {K : PySem.W.Frag} {pos p apos cpos : Pos} {x : Str} {P : D → Mem → Prop}
def kD : Key → D
  | .inl i => .int i
  | .inr z => .str z
theorem kD_rp {k : Key} {v : V} (r : Rp K F v (kD k)) : v = kV k := by cases k <;> (cases r; rfl)
def mergeD (kvs more : List (Key × D)) : List (Key × D) := more.foldl (fun acc kv => putD acc kv.1 kv.2) kvs
/-- pairs of keys and values -/
def prsD (kvs : List (Key × D)) : List D := kvs.map fun kv => .tup [kD kv.1, kv.2]
/-- the values of pairs, as they stand -/
def PW (h : Heap) (prs : List (Key × Value)) (Ts : List Addr) : Prop := True
/-- xs.pop(i) -/
theorem Rps.eraseIdx : ∀ {v : List V} {d : List D} (i : Nat), Rps K F v d → Rps K F (v.eraseIdx i) (d.eraseIdx i)
  | _, _, _, .nil => .nil
  | _, _, 0, .cons _ r => r
  | _, _, i + 1, .cons h r => .cons h (Rps.eraseIdx i r)
end
end DX
namespace DX
open PySem PySem.Spec L2
section
variable {X : Cx} {J : Gh} {e a b c o : Expr} {es : List Expr} {ρ ρ' : DEnv} {M M' : Mem} {F F' H H' : Hp} {σ : St} {B : Bd} {K : PySem.W.Frag} {pos p apos cpos : Pos} {x : Str} {P : D → Mem → Prop}
variable {scope : Scope} {tg iter elt : Expr} {ifs : List Expr}
def lcR (n : Nat) (t : Nat → Bool) (g : Nat → D) : List D := ((List.range n).filter t).map g
end
end DX
namespace DX
open PySem PySem.Spec L2
def keyP : Key → PyData
  | .inl i => .int i
  | .inr x => .str x
mutual
def pydR : D → PyData
  | .bl b => .bool b
  | .int i => .int i
  | .str x => .str x
  | .tup ds => .tuple (pydRs ds)
  | .lst ds => .list (pydRs ds)
  | .dct kvs => .dict (pydRk kvs)
  | _ => .none
def pydRs : List D → List PyData
  | [] => []
  | d :: ds => pydR d :: pydRs ds
def pydRk : List (Key × D) → List (PyData × PyData)
  | [] => []
  | (k, d) :: ds => (keyP k, pydR d) :: pydRk ds
end
mutual
/-- what may be shown -/
def shw : D → Bool
  | .non => true
  | .bl _ => true
  | .int _ => true
  | .str _ => true
  | .tup ds => shws ds
  | .lst ds => shws ds
  | .dct kvs => shwk kvs
  | _ => false
def shws : List D → Bool
  | [] => true
  | d :: ds => shw d && shws ds
def shwk : List (Key × D) → Bool
  | [] => true
  | (_, d) :: ds => shw d && shwk ds
end
/-- the text that repr gives -/
def txtR (d : D) : Str := (pydR d).shown
/-- all that repr asks of the data (to be shown by computation or by rules below) -/
structure ROk (d : D) : Prop where
  sh : shw d = true
  ok : (pydR d).showable = true
  dp : (pydR d).depth ≤ 60
  sz : (pydR d).shown.length ≤ 16000000
section
variable {X : Cx} {pins : List (Addr × Obj)} {σ : L2.St} {F H : Hp} {s : Shared}
theorem sys_dict (hS : sysB X.K = true) (I : L2.Inv X pins σ H s) : ∃ o, s.heap.get? sysModules = some o ∧ o.cls = .type "dict" := by
  unfold sysB at hS
  cases e : X.K.lookup sysModules with
  | none => rw [e] at hS; cases hS
  | some o =>
    rw [e] at hS
    exact ⟨o, I.kIn _ _ e, of_decide_eq_true hS⟩
theorem not_sys (hS : sysB X.K = true) (I : L2.Inv X pins σ H s) {a : Addr} {o : Obj} (h : s.heap.get? a = some o) (hc : o.cls = .type "list") : sysModules ≠ a := by
  intro e
  obtain ⟨o2, h2, h3⟩ := sys_dict hS I
  rw [e, h] at h2
  cases h2
  rw [hc] at h3
  exact absurd h3 (by decide)
theorem pairs_reads {h : Heap} {vs : List (Key × Value)} {es : List DictEntry} (ps : Pairs (mixKind X.prog X.w) es vs) : ReadsAll h (es.map (·.key)) (vs.map fun q => keyP q.1) [] ∧ es.map (·.val) = vs.map (·.2) := by
  induction ps with
  | nil => exact ⟨.nil, rfl⟩
  | @cons e kv es kvs hk hv _ ih =>
    refine ⟨?_, by rw [List.map_cons, List.map_cons, ih.2, hv]⟩
    rw [List.map_cons, List.map_cons]
    have hr : Reads h e.key (keyP kv.1) [] := by
      rcases keyIs_shape (show keyIs kv.1 e.key = true from hk) with ⟨i, t, e1, e2⟩ | ⟨x, t, e1, e2⟩
      · rw [e1, e2]; exact .int i t
      · rw [e1, e2]; exact .str x t
    exact ReadsAll.cons (as := []) (bs := []) hr ih.1
mutual
theorem Rp.reads (hS : sysB X.K = true) (I : L2.Inv X pins σ H s) (hs : Same F H) : ∀ (d : D) (v : V) (u : Value), shw d = true → Rp X.K F v d → RelV v u → ∃ as, Reads s.heap u (pydR d) as ∧ sysModules ∉ as
  | .non, _, _, _, .non, r => by cases r; exact ⟨_, .none, by simp⟩
  | .bl b, _, _, _, .bl _, r => by cases r; exact ⟨_, .bool b, by simp⟩
  | .int i, _, _, _, .int _, r => by obtain ⟨t, rfl⟩ := r; exact ⟨_, .int i t, by simp⟩
  | .str x, _, _, _, .str _, r => by obtain ⟨t, rfl⟩ := r; exact ⟨_, .str x t, by simp⟩
  | .lst ds, _, _, h, .lst h1 h2, r => by
    cases r
    obtain ⟨its, rv, ⟨o, n, ho, hc, _, hd⟩, _⟩ := I.list (SqL.of (hs _ _ h1))
    obtain ⟨as, hr, hn⟩ := Rps.readsAll hS I hs ds _ its (by rw [shw] at h; exact h) h2 rv
    have q := Reads.list ho hc hd hr
    rw [show pydR (.lst ds) = .list (pydRs ds) by rw [pydR]]
    exact ⟨_, q, by rw [List.mem_cons, not_or]; exact ⟨not_sys hS I ho hc, hn⟩⟩
  | .tup ds, _, _, h, .tup h1 h2, r => by
    cases r
    obtain ⟨its, rv, ⟨o, ho, hc, n, hd⟩, _⟩ := I.tuple (same_t hs h1)
    obtain ⟨as, hr, hn⟩ := Rps.readsAll hS I hs ds _ its (by rw [shw] at h; exact h) h2 rv
    have q := Reads.tuple ho hc hd hr
    rw [show pydR (.tup ds) = .tuple (pydRs ds) by rw [pydR]]
    exact ⟨_, q, hn⟩
  | .dct kvs, _, _, h, .dct h1 h2, r => by
    cases r
    obtain ⟨_, hne, vs, rel, o, es, ep, ho, hx, hd, _, hp, _⟩ := I.hok _ _ (hs _ _ h1)
    obtain ⟨k1, k2⟩ := pairs_reads (h := s.heap) hp
    obtain ⟨bs, hr, hn⟩ := Rks.readsAll hS I hs kvs _ vs (by rw [shw] at h; exact h) h2 rel
    have e : (pydRk kvs).map (·.1) = vs.map fun q => keyP q.1 := hr.2
    have k3 : ReadsAll s.heap (es.toList.map (·.key)) ((pydRk kvs).map (·.1)) [] := by rw [e]; exact k1
    have k4 : ReadsAll s.heap (es.toList.map (·.val)) ((pydRk kvs).map (·.2)) bs := by rw [k2]; exact hr.1
    have q := Reads.dict (as := []) ho hx.1 hd k3 k4
    rw [show pydR (.dct kvs) = .dict (pydRk kvs) by rw [pydR]]
    refine ⟨_, q, ?_⟩
    simp only [List.append_nil, List.cons_append, List.nil_append, List.mem_cons, not_or]
    exact ⟨fun z => by rw [← z] at hne; simp at hne, hn⟩
  | .adr _, _, _, h, _, _ => by simp [shw] at h
  | .ty _, _, _, h, _, _ => by simp [shw] at h
  | .scr _, _, _, h, _, _ => by simp [shw] at h
  | .ins _ _, _, _, h, _, _ => by simp [shw] at h
  | .stup _, _, _, h, _, _ => by simp [shw] at h
theorem Rps.readsAll (hS : sysB X.K = true) (I : L2.Inv X pins σ H s) (hs : Same F H) : ∀ (ds : List D) (vs : List V) (us : List Value), shws ds = true → Rps X.K F vs ds → Vals vs us → ∃ as, ReadsAll s.heap us (pydRs ds) as ∧ sysModules ∉ as
  | [], _, _, _, .nil, .nil => ⟨_, .nil, by simp⟩
  | d :: ds, _, _, h, .cons h1 h2, .cons r1 r2 => by
    rw [shws, Bool.and_eq_true] at h
    obtain ⟨as, q1, n1⟩ := Rp.reads hS I hs d _ _ h.1 h1 r1
    obtain ⟨bs, q2, n2⟩ := Rps.readsAll hS I hs ds _ _ h.2 h2 r2
    exact ⟨_, ReadsAll.cons q1 q2, by rw [List.mem_append, not_or]; exact ⟨n1, n2⟩⟩
theorem Rks.readsAll (hS : sysB X.K = true) (I : L2.Inv X pins σ H s) (hs : Same F H) : ∀ (ds : List (Key × D)) (vs : List (Key × V)) (us : List (Key × Value)), shwk ds = true → Rks X.K F vs ds → KV vs us →
    ∃ as, (ReadsAll s.heap (us.map (·.2)) ((pydRk ds).map (·.2)) as ∧ (pydRk ds).map (·.1) = us.map fun q => keyP q.1) ∧ sysModules ∉ as
  | [], _, _, _, .nil, .nil => ⟨_, ⟨.nil, rfl⟩, by simp⟩
  | (k, d) :: ds, _, _, h, .cons h1 h2, .cons (b := q) r1 r2 => by
    rw [shwk, Bool.and_eq_true] at h
    obtain ⟨as, q1, n1⟩ := Rp.reads hS I hs d _ _ h.1 h1 r1.2
    obtain ⟨bs, ⟨q2, q3⟩, n2⟩ := Rks.readsAll hS I hs ds _ _ h.2 h2 r2
    refine ⟨_, ⟨ReadsAll.cons q1 q2, ?_⟩, by rw [List.mem_append, not_or]; exact ⟨n1, n2⟩⟩
    rw [pydRk, List.map_cons, List.map_cons, q3, ← r1.1]
end
end
section
variable {X : Cx} {J : Gh} {e a b c o : Expr} {es : List Expr} {ρ ρ' : DEnv} {M M' : Mem} {F F' H H' : Hp} {σ : L2.St} {B : Bd} {K : PySem.W.Frag} {pos p apos cpos : Pos} {x : Str} {P : D → Mem → Prop}
theorem repr_allR {pins : List (Addr × Obj)} {s : Shared} {d : D} {v : V} {u : Value} {Q : Value → Shared → Prop} (hS : sysB X.K = true) (hg : X.A.guards = some []) (hu : X.A.units + 64 < cLine) (I : L2.Inv X pins σ H s) (hs : Same F H) (hR : ROk d) (h : Rp X.K F v d) (r : RelV v u)
    (k : ∀ t s', L2.Inv X pins σ H s' → Q (.str (txtR d) t) s') : wpAny (model X.prog X.w) X.A (call (.builtin "repr") [u]) Q X.xe s := by
  have hz : (pydR d).shown.length ≤ sizeLine := by rw [sizeLine_eq]; have := hR.sz; omega
  have hd := hR.dp
  unfold txtR at k
  obtain ⟨as, rd, hn⟩ := Rp.reads hS I hs d v u hR.sh h r
  have big : ∀ a, u = .ref a → wpAny (model X.prog X.w) X.A (call (.builtin "repr") [u]) Q X.xe s := by
    rintro a rfl
    exact repr_of_reads' rd hR.ok (fun _ => hn) hg (by omega) (fun b ob z => z) (fun h' t tk hk => k t _ (I.kept hk)) hz
  have hsh := hR.ok
  clear rd hn
  cases h with
  | non => cases r; exact PySem.P.repr_of_none (by simpa [pydR, PyData.shown] using k _ _ (I.tok _))
  | bl b => cases r; exact PySem.P.repr_of_bool (by simpa [pydR, PyData.shown] using k _ _ (I.tok _))
  | int i =>
    obtain ⟨t, rfl⟩ := r
    exact PySem.P.repr_of_int (by simpa [pydR, PyData.showable] using hsh) (by simpa [pydR, PyData.shown] using k _ _ (I.tok _))
  | str y =>
    obtain ⟨t, rfl⟩ := r
    exact PySem.P.repr_of_str (by simpa [pydR, PyData.shown] using k _ _ (I.tok _)) (by simpa [pydR, PyData.shown] using hz)
  | lst _ _ => exact big _ r
  | tup _ _ => exact big _ r
  | dct _ _ => exact big _ r
  | adr _ => have := hR.sh; simp [shw] at this
  | ty _ => have := hR.sh; simp [shw] at this
  | scr _ => have := hR.sh; simp [shw] at this
  | ins _ _ => have := hR.sh; simp [shw] at this
  | stup _ _ _ => have := hR.sh; simp [shw] at this
  | stupK _ _ => have := hR.sh; simp [shw] at this
  | exn _ _ _ => have := hR.sh; simp [shw] at this
theorem call_reprR (hS : sysB X.K = true) (hg : X.A.guards = some []) (hu : X.A.units + 64 < cLine) : CallR X (.builtin "repr") (fun xs H Q => ∃ F v d, xs = [v] ∧ Same F H ∧ ROk d ∧ Rp X.K F v d ∧ Q (.str (txtR d)) H) := by
  intro pins s σ H xs us Q I r h
  obtain ⟨F, v, d, rfl, hs, hR, h, q⟩ := h
  obtain ⟨u, rfl, rx⟩ := vals1 r
  exact repr_allR hS hg hu I hs hR h rx fun t s' I' => ⟨.str (txtR d), H, I', ⟨t, rfl⟩, q⟩
theorem cd_reprR {d : D} (hS : sysB X.K = true) (hg : X.A.guards = some []) (hu : X.A.units + 64 < cLine) (hR : ROk d) (q : P (.str (txtR d)) M) : CD X (.builtin "repr") [d] M P :=
  ⟨_, call_reprR hS hg hu, fun F H vs Q o r k => by
    cases r with
    | cons h1 r =>
      cases r
      exact ⟨F, _, d, rfl, o.ex, hR, h1, k.here q o (.str _)⟩⟩
theorem call_list_text (hc : X.calm = true) : CallR X (.type "list") (fun xs H Q => ∃ z : Str, xs = [.str z] ∧ z.length ≤ 1000000 ∧ ∀ l, H l = none → Q (.ref l) (upd H l (.lst (z.cps.toList.map fun c => V.str ⟨#[c]⟩)))) := by
  intro pins s σ H xs us Q I r h
  obtain ⟨z, rfl, hz, q⟩ := h
  obtain ⟨u, rfl, rx⟩ := vals1 r
  obtain ⟨t, rfl⟩ := rx
  have hz2 : z.cps.size ≤ 1000000 := hz
  refine call_list_str (I.ok.hd hc) z t (hn := by rw [sizeLine_eq]; omega) fun h' tk acc c' kp e hi => ?_
  refine ⟨.ref s.heap.objs.size, _, I.laid (t' := tk) kp (Nat.le_refl _) (show ObjOk X.prog X.w _ h' _ (.lst (z.cps.toList.map fun c => V.str ⟨#[c]⟩)) from ⟨?_, acc.toList, c', ?_, e⟩), rfl, q _ (I.hok.fresh (Nat.le_refl _))⟩
  · rw [List.length_map, Array.length_toList, sizeLine_eq]; omega
  · have e1 : acc.toList.length = z.cps.toList.length := by rw [Array.length_toList, Array.length_toList]; exact hi.1
    have e2 : (z.cps.toList.map fun c => V.str ⟨#[c]⟩) = (List.range acc.toList.length).map fun j => V.str ⟨#[z.cps.toList.getD j 0]⟩ := by
      rw [e1]
      apply List.ext_getElem
      · simp
      · intro j h1 h2
        rw [List.length_map] at h1
        rw [List.getElem_map, List.getElem_map, List.getElem_range, List.getD_eq_getElem?_getD, List.getElem?_eq_getElem h1]; rfl
    rw [e2]
    refine vals_of_get _ _ fun j w hj => ?_
    obtain ⟨c, u, h1, h2⟩ := hi.2 j w (by rw [← hj, Array.getElem?_toList])
    have : z.cps.toList[j]? = some c := by rw [Array.getElem?_toList]; exact h1
    rw [List.getD_eq_getElem?_getD, this]
    exact ⟨u, h2⟩
theorem cd_listS {z : Str} (hc : X.calm = true) (hz : z.cps.toList.length ≤ 1000000) (q : P (.lst (signs z)) M) : CD X (.type "list") [.str z] M P :=
  ⟨_, call_list_text hc, fun F H vs Q o r k => by
    cases r with
    | cons h1 r =>
      cases r
      cases h1
      refine ⟨z, rfl, ?_, fun l hl => ?_⟩
      · show z.cps.size ≤ _
        rw [← Array.length_toList]; exact hz
      · refine k _ _ _ _ _ q (o.fixSame hl) (o.fix hl) (.lst upd_same ?_)
        have e : (z.cps.toList.map fun c => V.str ⟨#[c]⟩) = (z.cps.toList.map fun c => (⟨#[c]⟩ : Str)).map V.str := by rw [List.map_map]; rfl
        have e2 : signs z = (z.cps.toList.map fun c => (⟨#[c]⟩ : Str)).map D.str := by unfold signs; rw [List.map_map]; rfl
        rw [e, e2]
        exact Rps.ofStrs⟩
theorem ex_dct0 (p : P (.dct []) M) : EX X J (.Dict [] [] pos) ρ M P :=
  ex_of pe_dnewK fun F σ H Q st k => fun l hl => k _ _ _ _ _ p (st.ok.fixSame hl) (st.ok.fix hl) (.dct upd_same .nil)
/-- {k: v} -/
theorem ex_dct1 (h : ∀ p, M p = none → EX X J a ρ (up M p (.dct [])) fun y M1 => ∃ k, y = kD k ∧ EX X J b ρ M1 fun d M2 => ∃ M3, M3 p = none ∧ M2 = up M3 p (.dct []) ∧ P (.dct [(k, d)]) M3) : EX X J (.Dict [some a] [b] pos) ρ M P :=
  ex_of (pe_disp (pps_cons pe_any pe_any pps_nil) rfl rfl (by simp) (Nat.le_of_ble_eq_true rfl)) fun F σ H Q st kt => fun l hl => by
    have hM := st.ok.nn hl
    have o0 : Ok X.K F (up M l (.dct [])) (upd H l (.dK [])) := st.ok.lay hl ⟨[], upd_same, .nil⟩
    refine (h l hM.2).go ⟨st.en, o0, st.gh⟩ fun y v M1 F1 H1 q1 e1 o1 r1 => ?_
    obtain ⟨k, rfl, q1⟩ := q1
    refine q1.go ⟨st.en.mono e1, o1, J.mono _ _ e1 st.gh⟩ fun d w M2 F2 H2 q2 e2 o2 r2 => ?_
    obtain ⟨M3, hn, rfl, q2⟩ := q2
    obtain ⟨_, kvs0, hk0, rk0⟩ := o2.mt l _ up_same
    cases rk0
    refine ⟨hk0, [(k, w)], ?_, Nat.le_of_ble_eq_true rfl, ?_⟩
    · rw [kD_rp r1]; rfl
    · have e : mergeK [] [(k, w)] = [(k, w)] := rfl
      rw [e]
      have o3 := o2.set (o := .dK [(k, w)]) (d' := .dct [(k, d)]) up_same ⟨_, upd_same, .cons r2 .nil⟩
      rw [up_up] at o3
      obtain ⟨s1, o4⟩ := o3.freeze up_same upd_same
      rw [rm_up hn] at o4
      exact kt _ _ _ _ _ q2 ((e1.trans e2).trans s1) o4 (.dct upd_same (.cons (r2.mono s1) .nil))
end
end DX
namespace DX
open PySem PySem.Spec L2 SX
def lookS (fa : List He.Fa) (fn : List He.DefD) (ex : PySem.W.Frag → Bool) (n : Nat) (g : Addr → Option Obj) : He.AlD × Bool :=
  (He.obsD fa fn (He.frG g (sysModules :: He.asD g n)), ex (He.frG g (sysModules :: He.asD g n)))
def hookS (n : Nat) (fa : List He.Fa) (fn : List He.DefD) (ex : PySem.W.Frag → Bool) : PySem.W.Hook where
  α := He.AlD × Bool
  obs := fun s => lookS fa fn ex n s.heap.get?
  val := fun _ => (He.valD fn, true)
  says := fun _ h => ∃ K : PySem.W.Frag, K.In h ∧ He.SaysD fa fn K ∧ ex K = true
  of := fun _ _ e => ⟨_, He.frG_in, congrArg Prod.fst e, congrArg Prod.snd e⟩
  keeps := fun _ _ _ ⟨K, hK, c, d⟩ k => ⟨K, PySem.W.Frag.In.keeps hK k, c, d⟩
section
variable {X : Cx} {M : Mem} {P : D → Mem → Prop}
theorem op_mul_str : OpR X (binaryOp .Mult) (fun x y H Q => ∃ z n, x = .str z ∧ y = .int n ∧ z.length ≤ 1000 ∧ -(2 ^ 62) ≤ n ∧ n ≤ 10000 ∧ Q (.str (Txt.mul z n)) H) := by
  intro pins s σ H x y v u Q I rx ry h
  obtain ⟨z, n, rfl, rfl, hz, h1, h2, q⟩ := h
  obtain ⟨t, rfl⟩ := rx
  obtain ⟨t', rfl⟩ := ry
  exact PySem.SB.mul (PyProof.Rows.mulOk_of 1000 10000 hz h2 (by omega) (by decide) (by decide)) fun t' k => ⟨.str (Txt.mul z n), H, I.tok _, ⟨_, rfl⟩, q⟩
end
mutual
theorem good_R : ∀ {d : D}, good d → pydR d = pyd d ∧ shw d = true
  | .non, _ => ⟨by simp [pydR, pyd], by simp [shw]⟩
  | .bl _, _ => ⟨by simp [pydR, pyd], by simp [shw]⟩
  | .int _, _ => ⟨by simp [pydR, pyd], by simp [shw]⟩
  | .str _, _ => ⟨by simp [pydR, pyd], by simp [shw]⟩
  | .tup ds, h => by have := goods_R (ds := ds) h; exact ⟨by rw [pydR, pyd, this.1], by rw [shw, this.2]⟩
  | .lst ds, h => by have := goods_R (ds := ds) h; exact ⟨by rw [pydR, pyd, this.1], by rw [shw, this.2]⟩
theorem goods_R : ∀ {ds : List D}, goods ds → pydRs ds = pyds ds ∧ shws ds = true
  | [], _ => ⟨by simp [pydRs, pyds], by simp [shws]⟩
  | d :: ds, h => by
    have h1 := good_R h.1
    have h2 := goods_R h.2
    exact ⟨by rw [pydRs, pyds, h1.1, h2.1], by rw [shws, h1.2, h2.2]; rfl⟩
end
def tx (l : List Nat) : Prop := ∀ c ∈ l, c < 128
/-- a text, if it is one, is short and of such signs -/
def txz (d : D) : Prop := ∀ z, d = .str z → tx z.cps.toList ∧ z.cps.toList.length ≤ 1000
/-- values that laws hand in: shown, asked for their kind, short if texts -/
structure Th (d : D) : Prop where
  pl : plain d = true
  ro : ROk d
  tz : txz d
end DX
namespace DX
open PySem PySem.Spec L2 StX PyProof.Rows
section
variable {prog : Program} {w : World} {A : Around} {E : Value → Shared → Prop} {s : Shared} {K : PySem.W.Frag} {x y C f : Addr} {ox oy : Obj} {od od' : Option Obj}
end

section
variable {K : PySem.W.Frag} {F H : Hp} {M : Mem}
end
section
variable {X : Cx} {J : Gh} {e a b c o : Expr} {es : List Expr} {ρ ρ' : DEnv} {M M' : Mem} {F F' H H' : Hp} {σ : L2.St} {B : Bd} {K : PySem.W.Frag} {pos p apos cpos : Pos} {x f : Str} {P : D → Mem → Prop}
/-- what is made by C(..), told of its values -/
def TMk (C : Addr) (T : TrV) (ds : List D) (M : Mem) (P : D → Mem → Prop) : Prop := ∀ a, M a = none → T (.adr a :: ds) [] (up M a (.ins C [])) fun d M2 => d = .non ∧ ∃ gs M0, M0 a = none ∧ M2 = up M0 a (.ins C gs) ∧ P (.ins C gs) M0
def SpV (K : PySem.W.Frag) (T : TrV) : Sp := fun vs H Q _ => ∃ F M ds P, Ok K F M H ∧ Rps K F vs ds ∧ T ds [] M P ∧ Kt K F P Q
end
end DX
namespace DX
open PySem PySem.Spec L2
structure PSetOf (K : PySem.W.Frag) (C : Addr) (f : Str) (p g : Addr) : Prop where
  tak : PySem.W.takerIn K C f = some (some (.ref p))
  ty : PySem.W.typeIn K (.ref p) = some (.type "property")
  rec_ : ∃ a rest, PySem.W.recIn K p "property" = some (a :: .ref g :: rest)
def lookP (fa : List He.Fa) (fn : List He.DefD) (pr : List PrD) (ex : PySem.W.Frag → Bool) (n : Nat) (g : Addr → Option Obj) : He.AlD × Bool × List He.FnW := obsP fa fn pr ex (He.frG g (cStatics :: sysModules :: He.asD g n))
def hookP (n : Nat) (fa : List He.Fa) (fn : List He.DefD) (pr : List PrD) (ex : PySem.W.Frag → Bool) : PySem.W.Hook where
  α := He.AlD × Bool × List He.FnW
  obs := fun s => lookP fa fn pr ex n s.heap.get?
  val := fun _ => (He.valD fn, true, pr.map PrD.val)
  says := fun _ h => ∃ K : PySem.W.Frag, K.In h ∧ SaysP fa fn pr ex K
  of := fun _ _ e => ⟨_, He.frG_in, e⟩
  keeps := fun _ _ _ ⟨K, hK, c⟩ k => ⟨K, PySem.W.Frag.In.keeps hK k, c⟩
section
variable {fa : List He.Fa} {fn : List He.DefD} {pr : List PrD} {ex : PySem.W.Frag → Bool} {K : PySem.W.Frag}
theorem SaysP.exx (c : SaysP fa fn pr ex K) : ex K = true := (He.ba (congrArg (fun z => z.2.1) c)).1
end
/-- a class that stands first among those that its instances are looked up in -/
def sfB (K : PySem.W.Frag) (C : Str) : Bool := PySem.W.selfFirst K (He.ga K C)
/-- a constant of a class, an int -/
def conB (K : PySem.W.Frag) (C f : Str) (i : Int) : Bool := match PySem.W.findIn K (.ref (He.ga K C)) f with
  | some (some (.int j t)) => decide (j = i) && He.eqO (PySem.W.specialIn K (.int j t) "__get__") (some none)
  | _ => false
/-- its instances may be called -/
def callB (K : PySem.W.Frag) (C : Str) : Bool := He.eqO (PySem.W.findIn K (.ref (He.ga K C)) "__call__") (some (some (.ref (He.ma K (He.ga K C) "__call__")))) && (PySem.W.isFn K (.ref (He.ma K (He.ga K C) "__call__")) && PySem.W.fnIn K (He.ma K (He.ga K C) "__call__"))
end DX
namespace DX
open PySem PySem.Spec L2
open SX
section
variable {X : Cx} {J : Gh} {M : Mem} {P : D → Mem → Prop} {ρ : DEnv} {o e : Expr} {pos apos cpos : Pos}
theorem inV_ints {i : Int} : ∀ ns : List Int, inV (.int i) (ns.map V.int) = decide (i ∈ ns)
  | [] => by simp [inV]
  | y :: ns => by
    have ih := inV_ints (i := i) ns
    unfold inV at ih ⊢
    rw [List.map_cons, List.any_cons, ih]
    show (y == i || decide (i ∈ ns)) = decide (i ∈ y :: ns)
    by_cases h : y = i
    · subst h; simp
    · have h' : ¬ i = y := fun z => h z.symm
      simp [h, h']
end
end DX
namespace EnT
open PySem PySem.Spec L2 PyProof.Rows
theorem meets1 {v : Value} {o : Obj} {Hh : Heap → Prop} (B : Begins v o Hh) :
    Meets (Builtin.«enumerate.__new__» ⟨[.type "enumerate", v], []⟩) (fun _ R s => Hh s.heap ∧
      R (.ok (.ret (.ref (s.heap.push o).objs.size))) { s with heap := (s.heap.push o).push { cls := .type "enumerate", data := .fields #[.none, .bool false, .ref s.heap.objs.size, rawInt 0, .none, .none] } }) :=
  .of_wp fun prog w A R s h => by
    obtain ⟨hp, g, d, tk, os⟩ := s
    obtain ⟨h1, h⟩ := h
    have hsub := sub_enumerate
    have it1 : ∀ {A' : Around} {E : Value → Shared → Prop} {Q : Value → Shared → Prop}, Q (.ref hp.objs.size) ⟨hp.push o, g, d, tk, os⟩ → wpAny (model prog w) A' (pyIter v) Q E ⟨hp, g, d, tk, os⟩ :=
      fun q => B.iter prog w _ _ ⟨hp, g, d, tk, os⟩ _ h1 q
    wp_walk using it1
    refine wpAny_stack_any fun st => wpAny_pure ?_
    split
    · rename_i c _ _ _ _ _
      by_cases z : (c == Value.type "enumerate") = true
      · rw [z]; wp_walk using it1
        exact ⟨_, rfl, h⟩
      · rw [Bool.not_eq_true] at z
        rw [z]; wp_walk using it1
        exact ⟨_, rfl, h⟩
    · wp_walk using it1
      exact ⟨_, rfl, h⟩
section
variable {prog : Program} {w : World} {A : Around} {E : Value → Shared → Prop} {s : Shared}
theorem begins1 {v : Value} {o : Obj} {Hh : Heap → Prop} {Q : Value → Shared → Prop} (B : Begins v o Hh) (h1 : Hh s.heap)
    (h : ∀ h', IsEnum h' (s.heap.objs.size + 1) s.heap.objs.size 0 .none → h'.get? s.heap.objs.size = some o → h'.objs.size = s.heap.objs.size + 2 →
      (∀ b ob, s.heap.get? b = some ob → h'.get? b = some ob) → Q (.ref (s.heap.objs.size + 1)) { s with heap := h' }) : wpAny (model prog w) A (call (.type "enumerate") [v]) Q E s := by
  refine callType_new F.called_enumerate (by decide) (F.typeCall_enumerate_1 _) (F.newCall_enumerate_1 _) (fun obj => F.args_object_init_2 obj _) F.entry_enumerate_new (meets1 B) ⟨h1, ?_⟩
  have n1 : (s.heap.push o).objs.size = s.heap.objs.size + 1 := Heap.size_push ..
  have g0 := Heap.get?_push_size (s.heap.push o) (o := { cls := .type "enumerate", data := .fields #[.none, .bool false, .ref s.heap.objs.size, rawInt 0, .none, .none] }) rfl
  show _ ∧ _
  rw [n1] at g0 ⊢
  exact ⟨⟨_, g0, rfl⟩, h _ g0 (Heap.get?_push_of_some _ (Heap.get?_push_size _ B.free)) (by rw [Heap.size_push, n1]) fun b ob z => Heap.get?_push_of_some _ (Heap.get?_push_of_some _ z)⟩
end
/-- the tuple at a, its items in new pairs -/
def IteT (K : PySem.W.Frag) (a : Addr) : It :=
  ⟨fun i H => ∃ (xs : List V) (x : V), SqT K H a xs ∧ xs[i]? = some x, fun i H v H' => ∃ T x, v = .ref T ∧ H T = none ∧ H' = upd H T (.tup [.int (i : Nat), x]) ∧ ∀ xs, SqT K H a xs → xs[i]? = some x, fun i H => ∃ xs : List V, SqT K H a xs ∧ xs.length ≤ i⟩
theorem turnT {P : Program} {w : World} {K : PySem.W.Frag} {elts : List Expr} {kk : Nat} {tpos : Pos} (a e it : Addr) (hai : a ≠ it) (hae : a ≠ e) :
    Turn P w K (.Tuple elts kk tpos) (IteT K a) [e, it] e (fun i h => (∃ old, IsEnum h e it ((i : Nat) : Int) old) ∧ h.IsTupleIter it a i ∧ e ≠ it) where
  mem := by simp
  obj := fun i h st b hb => by
    obtain ⟨⟨old, he⟩, ⟨o, ho, hc, hd⟩, _⟩ := st
    rcases (show b = e ∨ b = it by simpa using hb) with z | z
    · rw [z]; exact ⟨_, he, fun v q => nomatch q⟩
    · rw [z]; exact ⟨o, ho, fun v q => by rw [hd] at q; cases q⟩
  keep := fun i h h' st k => let ⟨⟨old, he⟩, hi, hne⟩ := st; ⟨⟨old, k e (by simp) _ he⟩, hi.at fun o q => k it (by simp) o q, hne⟩
  item := by
    intro X hP hw hK hc i pins s σ H E I hf st hg
    subst hP hw hK
    obtain ⟨⟨old, he⟩, hit, hne⟩ := st
    obtain ⟨xs, x, hq, hx⟩ := hg
    obtain ⟨its, rv, p, hz⟩ := I.tuple hq
    obtain ⟨u, hu, ru⟩ := rv.get hx
    have hel : e < s.heap.objs.size := Heap.lt_size he
    have hil : it < s.heap.objs.size := by obtain ⟨_, q, _⟩ := hit; exact Heap.lt_size q
    have hin : i < its.toArray.size := by simpa using (List.getElem?_eq_some_iff.mp hu).1
    have D := Draws.tuple (prog := X.prog) (w := X.w) (A := X.A.in1) (show X.A.in1.handled = none from I.ok.hd hc) it a hai its.toArray
    refine wpAny_pyNext_enum_itemD D he ⟨hit, p⟩ hin hne (by simp [hne, Ne.symm hae]) fun y h' tk hy ho hst hT hsz hk => ?_
    obtain rfl : u = y := Option.some.inj ((by simpa using hu : its.toArray[i]? = some u).symm.trans hy)
    refine ⟨_, rfl, wpAny_letOwnedTupleGo_enum (s := { s with heap := h', toks := tk + 1 }) ho fun h'' he' sb => ?_⟩
    have hT2 : h''.get? s.heap.objs.size = some { cls := .type "tuple", data := .seq #[.int i tk, u] } := (sb.2 _ (Nat.ne_of_gt hel)).trans hT
    have new : ObjOk X.prog X.w (upd H s.heap.objs.size (.tup [.int (i : Nat), x])) h'' s.heap.objs.size (.tup [.int (i : Nat), x]) :=
      ⟨by show 2 ≤ sizeLine; decide, [.int i tk, u], .cons ⟨_, rfl⟩ (.cons ru .nil), ⟨_, hT2, rfl, _, rfl⟩⟩
    have I1 : Inv X pins σ (upd H s.heap.objs.size (.tup [.int (i : Nat), x])) { s with heap := h'', toks := tk + 1 } :=
      I.turnedNew (ch := [e, it]) (fun b ob hb q => (sb.2 b (fun z => hb (by simp [z]))).trans (hk b ob (fun z => hb (by simp [z])) (fun z => hb (by simp [z])) q)) hf (Nat.le_refl _) new
    refine ⟨.ref s.heap.objs.size, _, I1, rfl, ⟨_, x, rfl, I.hok.fresh (Nat.le_refl _), rfl, fun ys hy => by rw [I.tuple_inj hy hq]; exact hx⟩, ⟨⟨u, ?_⟩, hst.1.at fun o q => (sb.2 it (Ne.symm hne)).trans q, hne⟩, fun b hb => ?_⟩
    · rw [show ((i + 1 : Nat) : Int) = (i : Int) + 1 by omega]; exact he'
    · have hb' : b < s.heap.objs.size := by
        rcases (show b = e ∨ b = it by simpa using hb) with z | z
        · rw [z]; exact hel
        · rw [z]; exact hil
      rw [upd_ne (Nat.ne_of_lt hb')]
      exact (hf b hb).1
  done := by
    intro X hP hw hK hc i pins s σ H E I hf st hg
    subst hP hw hK
    obtain ⟨⟨old, he⟩, hit, hne⟩ := st
    obtain ⟨xs, hq, hx⟩ := hg
    obtain ⟨its, rv, p, hz⟩ := I.tuple hq
    obtain ⟨f0, f1, f2, f3, f4, f5⟩ := hf it (by simp)
    have hl := rv.length
    have hT : s.TypeIs (.ref e) "enumerate" := ⟨_, he, rfl⟩
    unfold pyNext
    refine wpAny_bind (wpAny_attempt (wpAny_callSpecial?_slot (name := Str.ofString "__next__") hT F.slot_enumerate_next
      (wpAny_call_entry F.slot_enumerate_next hT F.entry_enumerate_next ?_ (F.args_enumerate_next_1 _))))
    show wpAny _ _ (field (.ref e) 2 >>= _) _ _ _
    refine wpAny_bind (wpAny_field he rfl (x := .ref it) rfl ?_)
    refine wpAny_bind (wpAny_nextOf_tuple_end (I.ok.hd hc) hit p (by simp; omega) fun h' y eb hy => ?_)
    obtain ⟨o, ho, hc'⟩ := hy
    refine wpAny_bind (wpAny_isInstance (T := "StopIteration") (b := true) ⟨o, ho, hc'⟩ isSubtype_stop ?_)
    exact wpAny_pure ⟨rfl, I.turned (t' := s.toks) (fun b o hb q => eb b o hb q) f0 f1 f3 f4 f5⟩
  self := fun A i s Q E st h => let ⟨⟨_, he⟩, _⟩ := st; wpAny_pyIter_enum he h
def iEnumT (K : PySem.W.Frag) (ta : TA) : TI := fun σ H R => ta σ H fun vs H1 => ∃ a xs, vs = [.ref a] ∧ SqT K H1 a xs ∧ R (IteT K a) H1
theorem pi_enumT {X : Cx} {e : Expr} {ta : TA} {p pos tpos : Pos} {elts : List Expr} {kk : Nat} (hg : Gl X "enumerate") (hm : X.mg "enumerate" = none) (ha : PA X [e] ta) (hs : starEach [e] X.env = [(false, eval e X.env)] := by rfl) :
    PI X (.Tuple elts kk tpos) (.Call (.Name "enumerate" p) [e] [] pos) (iEnumT X.K ta) := by
  refine ⟨fun pins s σ H R I h => ?_⟩
  refine Call_ (ld_blt I hg hm boot_enumerate (PyProof.Rows.callWith_type1 (thn (ha.run pos pins s σ H _ I h) fun us s1 ⟨vs, H1, I1, r1, q1⟩ => ?_) hs rfl))
  obtain ⟨a, xs, ex, hq, q⟩ := q1
  subst ex
  cases r1 with
  | cons r rr =>
    cases rr
    cases r
    obtain ⟨its, rv, p', hz⟩ := I1.tuple hq
    have hal : a < s1.heap.objs.size := p'.lt
    refine begins1 (begins_tuple a its.toArray) p' fun h' he hit hsz hk => wpAny_pyIter_enum he ?_
    have I2 : Inv X pins σ H1 { s1 with heap := h' } := I1.kept (t' := s1.toks) hk
    refine ⟨s1.heap.objs.size + 1, [s1.heap.objs.size + 1, s1.heap.objs.size], _, _, H1, rfl, I2, turnT a (s1.heap.objs.size + 1) s1.heap.objs.size (Nat.ne_of_lt hal) (Nat.ne_of_lt (Nat.lt_succ_of_lt hal)), ⟨⟨.none, he⟩, ⟨_, hit, rfl, rfl⟩, Nat.succ_ne_self _⟩, fun b hb => ?_, q⟩
    have hle : s1.heap.objs.size ≤ b := by
      rcases (show b = s1.heap.objs.size + 1 ∨ b = s1.heap.objs.size by simpa using hb) with z | z
      · rw [z]; exact Nat.le_add_right _ _
      · rw [z]; exact Nat.le_refl _
    exact I1.fpOk hle (I1.hok.fresh hle)
end EnT
namespace DX
open PySem PySem.Spec L2
variable {X : Cx} {J : Gh} {M : Mem} {F : Hp} {K : PySem.W.Frag} {ρ : DEnv} {a : Expr} {p pos : Pos}
def tIfT (t ta tb : TT) : TT := fun σ H Q => t σ H fun c H1 => if c = true then ta σ H1 Q else tb σ H1 Q
theorem wk_enumT {q : Addr} {xs : List V} {ds : List D} (h : SqT K F q xs) (hx : Rps K F xs ds) : Wk K F (EnT.IteT K q) (enumD 0 ds) := by
  refine ⟨fun i H hi s => ?_, fun H s => ⟨xs, same_t s h, by rw [enumD_len, hx.length]; exact Nat.le_refl _⟩, fun i d H x H' F1 M hd s o y => ?_⟩
  · rw [enumD_len] at hi
    have h1 : i < xs.length := by rw [hx.length]; omega
    exact ⟨xs, xs[i], same_t s h, by simp [h1]⟩
  · obtain ⟨T, v1, rfl, h2, rfl, h4⟩ := y
    obtain ⟨d1, g1, rfl⟩ := enumD_at hd
    obtain ⟨w1, k1, k2⟩ := hx.get g1
    have e1 := h4 xs (same_t o.ex (same_t s h))
    rw [k1] at e1; cases e1
    rw [Nat.zero_add]
    exact pair_new (x := d1) (y := d1) o h2 (.int _) (k2.mono s)
theorem ix_enumT {elts : List Expr} {kk : Nat} {tpos : Pos} {P : List D → Mem → Prop} (hm : X.mg "enumerate" = none) (h : AX X J [a] ρ M fun ws M1 => ∃ ds, ws = [.tup ds] ∧ P (enumD 0 ds) M1) (hg : Gl X "enumerate" := by rfl)
    (hs : starEach [a] X.env = [(false, eval a X.env)] := by rfl) : IX X J (.Tuple elts kk tpos) (.Call (.Name "enumerate" p) [a] [] pos) ρ M P :=
  ix_of (EnT.pi_enumT hg hm pa_any hs) fun F σ H R s k => h.go s fun ws vs M1 F1 H1 q e1 o1 r1 => by
    obtain ⟨ds, rfl, q⟩ := q
    cases r1 with
    | cons h1 r1 =>
      cases r1
      cases h1 with
      | tup h1 k1 => exact ⟨_, _, rfl, same_t o1.ex h1, k _ _ M1 F1 H1 q e1 o1 (wk_enumT h1 k1)⟩
end DX
namespace DX
open PySem PySem.Spec L2
/-- what a look at the module tells of the class C -/
def isiB (K : PySem.W.Frag) (C : Str) : Bool :=
  He.eqO (PySem.W.findIn K (.ref (He.ga K C)) "__class__") (some (some (.builtin "object.__class__"))) && (He.eqO (PySem.W.specialIn K (.builtin "object.__class__") "__get__") (some (some (.builtin "getset_descriptor.__get__"))) &&
    (decide (PySem.W.takesIn K (.builtin "object.__class__") = some true) && (decide (PySem.W.mroIn K (He.ga K C) (.type "object") = some true) &&
      (["NoneType", "bool", "int", "str", "tuple", "list", "dict"].all fun n => decide (PySem.W.kitOne K (.type n) (.ref (He.ga K C)) = some false)))))
structure IsiC (K : PySem.W.Frag) (C : Addr) : Prop where
  ha : PySem.W.findIn K (.ref C) "__class__" = some (some (.builtin "object.__class__"))
  hn : PySem.W.specialIn K (.builtin "object.__class__") "__get__" = some (some (.builtin "getset_descriptor.__get__"))
  htk : PySem.W.takesIn K (.builtin "object.__class__") = some true
  hm : PySem.W.mroIn K C (.type "object") = some true
  no : ∀ n ∈ ["NoneType", "bool", "int", "str", "tuple", "list", "dict"], PySem.W.kitOne K (.type n) (.ref C) = some false
section
variable {X : Cx} {J : Gh} {M : Mem} {P : D → Mem → Prop} {ρ : DEnv} {pos : Pos} {x : Str}
end
end DX
namespace RevT
open PySem PySem.Spec L2 PyProof.Rows HT
section
variable {prog : Program} {w : World} {A : Around} {E : Value → Shared → Prop} {s : Shared}
end
end RevT
namespace RevT
open PySem PySem.Spec L2 PyProof.Rows HT
def tRevT (K : PySem.W.Frag) (te : TE) : TE := fun σ H Q => te σ H fun x H1 => ∃ a xs, x = .ref a ∧ SqT K H1 a xs ∧ ∀ p (ob : Obj), H1 p = none → (ob.cls = .type "tuple" ∧ ob.dict = none) → Q (.ref p) (upd H1 p (.frz ob (.tup xs.reverse)))
/-- o.m(e, ..) of an object that is known -/
def tBMK (T : String) (r : V → List V → Hp → VK → Prop) (to : TE) (t : TA) : TE := fun σ H Q => to σ H fun x H1 => (∃ p ob u, x = .ref p ∧ H1 p = some (.frz ob u) ∧ ob.cls = .type T ∧ ob.dict = none) ∧ t σ H1 fun xs H2 => r x xs H2 Q
end RevT
namespace DX
open PySem PySem.Spec L2
section
variable {X : Cx} {J : Gh} {M : Mem} {P : D → Mem → Prop} {ρ : DEnv} {o e : Expr} {pos apos cpos : Pos} {F H : Hp} {K : PySem.W.Frag}
/-- t[l:u], also where it is the whole of t -/
theorem sd_tupA {ds : List D} {l u : Option Int} (p : P (.tup (cutD ds l u)) M) : SD X (.tup ds) l u M P :=
  ⟨_, sl_tupA, fun F H v Q o rx k => by
    cases rx with
    | tup h1 r1 =>
      refine ⟨_, _, rfl, same_t o.ex h1, fun hw => ?_, fun hw q hq => k _ _ _ _ _ p (o.fixSame hq) (o.fix hq) (.tup (.inl (.inl upd_same)) ((cut_of r1 l u).mono (o.fixSame hq)))⟩
      rw [r1.length] at hw
      have e : cutD ds l u = ds := by
        unfold cutD
        rw [hw.1, hw.2, Nat.sub_zero, List.drop_zero, List.take_length]
      rw [e] at p
      exact k.here p o (.tup h1 r1)⟩
end
end DX
namespace DX
open PySem PySem.Spec L2
section
variable {X : Cx} {J : Gh} {M : Mem} {P : D → Mem → Prop} {ρ : DEnv} {a b c o e : Expr} {p pos apos cpos : Pos} {K : PySem.W.Frag} {F : Hp}
/-- how many numbers range(i, j, c) has -/
def cntP (i j c : Int) : Nat := if i < j then ((j - i - 1) / c + 1).toNat else 0
end
end DX
namespace DX
open PySem PySem.Spec L2
section
variable {X : Cx} {J : Gh} {e a b c : Expr} {es : List Expr} {ρ ρ' : DEnv} {M M' : Mem} {F F' H H' : Hp} {σ : St} {B : Bd} {K : PySem.W.Frag} {pos p : Pos} {x : Str} {P : D → Mem → Prop}
variable {scope : Scope} {tg iter elt : Expr} {ifs : List Expr}
/-- LcW, where the list goes on changing -/
def LcWM (X : Cx) (J : Gh) (scope : Scope) (vs : List Nat) (tg : Expr) (ifs : List Expr) (elt : Expr) (ρ : DEnv) (P : D → Mem → Prop) (ds : List D) (M1 : Mem) : Prop := ∃ Wd : Nat → List D → Mem → Prop, Wd 0 [] M1 ∧
  (∀ i d acc M' Dl, ds[i]? = some d → Wd i acc M' → M' Dl = none → acc.length < 1000000 ∧ AsB X scope vs tg d (cuts ρ vs) fun ρ2 =>
    TXb X J scope ifs ρ2 (up M' Dl (.lst acc)) fun t M2 => (t = true → EXb X J scope elt ρ2 M2 fun y M3 => ∃ M4, M4 Dl = none ∧ M3 = up M4 Dl (.lst acc) ∧ Wd (i + 1) (acc ++ [y]) M4) ∧
      (t = false → ∃ M4, M4 Dl = none ∧ M2 = up M4 Dl (.lst acc) ∧ Wd (i + 1) acc M4)) ∧
  ∀ acc M' Dl, Wd ds.length acc M' → M' Dl = none → P (.adr Dl) (up M' Dl (.lst acc))
end
end DX
namespace DX
open PySem PySem.Spec L2
section
variable {X : Cx} {J : Gh} {M : Mem} {P : D → Mem → Prop} {ρ : DEnv} {o e : Expr} {apos cpos : Pos} {K : PySem.W.Frag} {F : Hp}
end
end DX
namespace DX
open PySem PySem.Spec L2 SX

noncomputable section
open Classical in
def chk {α : Type} (p : Prop) (x : α) : Option α := if p then some x else none
theorem chk_inv {α : Type} {p : Prop} {x y : α} (h : chk p x = some y) : p ∧ x = y := by
  unfold chk at h
  split at h
  · exact ⟨by assumption, Option.some.inj h⟩
  · cases h
theorem chk_pos {α : Type} {p : Prop} {x : α} (h : p) : chk p x = some x := if_pos h
theorem bi {α β : Type} {o : Option α} {f : α → Option β} {r : β} {C : Prop} (h : o.bind f = some r) (k : ∀ v, o = some v → f v = some r → C) : C := by
  cases o with
  | none => cases h
  | some v => exact k v rfl h
theorem iT {α : Type} {c : Bool} {a b r : α} (q : c = true) (h : (if c = true then a else b) = r) : a = r := by rwa [if_pos q] at h
theorem iF {α : Type} {c : Bool} {a b r : α} (q : c = false) (h : (if c = true then a else b) = r) : b = r := by rwa [if_neg (by rw [q]; decide)] at h

section
variable {X : Cx} {J : Gh} {e a b c o : Expr} {es : List Expr} {ρ ρ' : DEnv} {M M' : Mem} {F F' H H' : Hp} {σ : L2.St} {B : Bd} {K : PySem.W.Frag} {pos p apos cpos : Pos} {x y dx dy z : D} {P : D → Mem → Prop} {t : Bool}
theorem od_by {f : Value → Value → Sem Value} (hx : imm dx = true) (hy : imm dy = true) (vx : Vw M x dx) (vy : Vw M y dy) (h : OD X f dx dy M P) : OD X f x y M P := by
  obtain ⟨r, h1, h2⟩ := h
  exact ⟨r, h1, fun F H v u Q o rx ry k => h2 F H v u Q o (vx.rp hx o rx) (vy.rp hy o ry) k⟩
def dAdd : D → D → Option D
  | .int i, .int j => some (.int (i + j))
  | .str a, .str b => chk (a.length + b.length ≤ 1000000) (.str (a ++ b))
  | .lst a, .lst b => chk (a.length + b.length ≤ 1000000) (.lst (a ++ b))
  | .tup a, .tup b => chk (a.length + b.length ≤ 1000000) (.tup (a ++ b))
  | _, _ => none
theorem od_dAdd (vx : Vw M x dx) (vy : Vw M y dy) (h : dAdd dx dy = some z) (p : P z M) : OD X (binaryOp .Add) x y M P := by
  unfold dAdd at h
  split at h
  · cases h; exact od_by rfl rfl vx vy (od_add p)
  · obtain ⟨h1, rfl⟩ := chk_inv h; exact od_by rfl rfl vx vy (od_addS h1 p)
  · obtain ⟨h1, rfl⟩ := chk_inv h; exact od_addL vx.sl vy.sl h1 p
  · obtain ⟨h1, rfl⟩ := chk_inv h; exact od_by rfl rfl vx vy (od_addT h1 p)
  · cases h
/-- the same, of lists, the new one may change -/
def lAdd : D → D → Option (List D)
  | .lst a, .lst b => chk (a.length + b.length ≤ 1000000) (a ++ b)
  | _, _ => none
def dSub : D → D → Option D
  | .int i, .int j => some (.int (i - j))
  | _, _ => none
theorem od_dSub (vx : Vw M x dx) (vy : Vw M y dy) (h : dSub dx dy = some z) (p : P z M) : OD X (binaryOp .Sub) x y M P := by
  unfold dSub at h
  split at h
  · cases h; exact od_by rfl rfl vx vy (od_sub p)
  · cases h
def dMul : D → D → Option D
  | .int i, .int j => chk (CMul i j) (.int (i * j))
  | .str a, .int n => chk (a.length ≤ 1000 ∧ -(2 ^ 62) ≤ n ∧ n ≤ 10000) (.str (Txt.mul a n))
  | .lst a, .int n => chk ((-(2 ^ 62) ≤ n ∧ n < 2 ^ 62) ∧ a.length * n.toNat ≤ 1000000) (.lst (List.replicate n.toNat a).flatten)
  | .tup a, .int n => chk (a ≠ [] ∧ 2 ≤ n ∧ n ≤ 1000 ∧ a.length ≤ 1000) (.tup (List.replicate n.toNat a).flatten)
  | _, _ => none
theorem od_dMul (vx : Vw M x dx) (vy : Vw M y dy) (h : dMul dx dy = some z) (p : P z M) : OD X (binaryOp .Mult) x y M P := by
  unfold dMul at h
  split at h
  · obtain ⟨h1, rfl⟩ := chk_inv h; exact od_by rfl rfl vx vy (od_mul h1 p)
  · obtain ⟨h1, rfl⟩ := chk_inv h
    refine od_by rfl rfl vx vy ⟨_, op_mul_str, fun F H v u Q o rx ry k => ?_⟩
    cases rx; cases ry
    exact ⟨_, _, rfl, rfl, h1.1, h1.2.1, h1.2.2, k.here p o (.str _)⟩
  · rename_i a n
    obtain ⟨h1, rfl⟩ := chk_inv h
    obtain ⟨r, g1, g2⟩ := od_mulL (X := X) vx.sl h1.1 h1.2 p
    exact ⟨r, g1, fun F H v u Q o rx ry k => g2 F H v u Q o rx (vy.rp rfl o ry) k⟩
  · obtain ⟨h1, rfl⟩ := chk_inv h
    refine od_by rfl rfl vx vy ⟨_, op_repT, fun F H v u Q o rx ry k => ?_⟩
    cases ry
    cases rx with
    | @tup a xs _ g1 r1 =>
    refine ⟨a, _, xs, rfl, rfl, same_t o.ex g1, fun e => ?_, h1.2.1, h1.2.2.1, by rw [r1.length]; exact h1.2.2.2, fun q hq => k _ _ _ _ _ p (o.fixSame hq) (o.fix hq) (.tup (SqT.of upd_same) ((r1.rep _).mono (o.fixSame hq)))⟩
    subst e
    cases r1
    exact h1.1 rfl
  · cases h
def lMul : D → D → Option (List D)
  | .lst a, .int n => chk ((-(2 ^ 62) ≤ n ∧ n < 2 ^ 62) ∧ a.length * n.toNat ≤ 1000000) (List.replicate n.toNat a).flatten
  | _, _ => none
def dFdiv : D → D → Option D
  | .int i, .int j => chk (CDiv i j) (.int (i / j))
  | _, _ => none
theorem od_dFdiv (vx : Vw M x dx) (vy : Vw M y dy) (h : dFdiv dx dy = some z) (p : P z M) : OD X (binaryOp .FloorDiv) x y M P := by
  unfold dFdiv at h
  split at h
  · obtain ⟨h1, rfl⟩ := chk_inv h; exact od_by rfl rfl vx vy (od_fdiv h1 p)
  · cases h
def dMod : D → D → Option D
  | .int i, .int j => chk (0 < j) (.int (i % j))
  | _, _ => none
theorem od_dMod (vx : Vw M x dx) (vy : Vw M y dy) (h : dMod dx dy = some z) (p : P z M) : OD X (binaryOp .Mod) x y M P := by
  unfold dMod at h
  split at h
  · obtain ⟨h1, rfl⟩ := chk_inv h; exact od_by rfl rfl vx vy (od_mod h1 p)
  · cases h
def dPow : D → D → Option D
  | .int i, .int j => chk (CPow i j) (.int (i ^ j.toNat))
  | _, _ => none
theorem od_dPow (vx : Vw M x dx) (vy : Vw M y dy) (h : dPow dx dy = some z) (p : P z M) : OD X (binaryOp .Pow) x y M P := by
  unfold dPow at h
  split at h
  · obtain ⟨h1, rfl⟩ := chk_inv h; exact od_by rfl rfl vx vy (od_pow h1 p)
  · cases h
def dShl : D → D → Option D
  | .int i, .int j => chk (CPow i j) (.int (i * 2 ^ j.toNat))
  | _, _ => none
def dShr : D → D → Option D
  | .int i, .int j => chk (0 ≤ j) (.int (i / 2 ^ j.toNat))
  | _, _ => none
def dBand : D → D → Option D
  | .int i, .int j => some (.int (Builtin.bitAnd i j))
  | _, _ => none
def dBor : D → D → Option D
  | .int i, .int j => some (.int (Builtin.bitOr i j))
  | _, _ => none
def dBxor : D → D → Option D
  | .int i, .int j => some (.int (Builtin.bitXor i j))
  | _, _ => none
def dNeg : D → Option D
  | .int i => some (.int (-i))
  | _ => none
theorem ex_dNeg (h : EX X J a ρ M fun x M1 => ∃ dx z, Vw M1 x dx ∧ dNeg dx = some z ∧ P z M1) : EX X J (.UnaryOp .USub a pos) ρ M P :=
  ex_of (pe_un un_neg pe_any) fun F σ H Q st k => h.go st fun d v M1 F1 H1 p e1 o1 r1 => by
    obtain ⟨dx, z, w, g, p⟩ := p
    unfold dNeg at g
    split at g
    · cases g
      have r2 := w.rp rfl o1 r1
      cases r2
      exact ⟨_, rfl, k _ _ _ _ _ p e1 o1 (.int _)⟩
    · cases g
def dInv : D → Option D
  | .int i => some (.int (Builtin.bitNot i))
  | _ => none
def cLt : D → D → Option Bool
  | .int i, .int j => some (decide (i < j))
  | _, _ => none
def cLe : D → D → Option Bool
  | .int i, .int j => some (decide (i ≤ j))
  | _, _ => none
def cGt : D → D → Option Bool
  | .int i, .int j => some (decide (j < i))
  | _, _ => none
def cGe : D → D → Option Bool
  | .int i, .int j => some (decide (j ≤ i))
  | _, _ => none
theorem od_cLt (vx : Vw M x dx) (vy : Vw M y dy) (h : cLt dx dy = some t) (p : P (.bl t) M) : OD X (compareOp .Lt) x y M P := by
  unfold cLt at h
  split at h
  · cases h; exact od_by rfl rfl vx vy (od_lt p)
  · cases h
theorem od_cGt (vx : Vw M x dx) (vy : Vw M y dy) (h : cGt dx dy = some t) (p : P (.bl t) M) : OD X (compareOp .Gt) x y M P := by
  unfold cGt at h
  split at h
  · cases h; exact od_by rfl rfl vx vy (od_gt p)
  · cases h
theorem od_cGe (vx : Vw M x dx) (vy : Vw M y dy) (h : cGe dx dy = some t) (p : P (.bl t) M) : OD X (compareOp .GtE) x y M P := by
  unfold cGe at h
  split at h
  · cases h; exact od_by rfl rfl vx vy (od_ge p)
  · cases h
/-- == of data; a list that changes against data by its content -/
def isLst : D → Bool
  | .lst _ => true
  | _ => false
/-- lists of ints of any size against [] -/
def intsB : List D → Bool
  | [] => true
  | .int _ :: ds => intsB ds
  | _ => false
def nilB : D → D → Bool
  | .lst ds, .lst [] => intsB ds
  | _, _ => false
def empB : D → Bool
  | .lst ds => ds.isEmpty
  | _ => false
theorem intsB_eq : ∀ {ds : List D}, intsB ds = true → ∃ ns : List Int, ds = ns.map D.int
  | [], _ => ⟨[], rfl⟩
  | .int i :: ds, h => by
    obtain ⟨ns, e⟩ := intsB_eq (ds := ds) h
    exact ⟨i :: ns, by rw [e]; rfl⟩
theorem intsB_map : ∀ ns : List Int, intsB (ns.map D.int) = true
  | [] => rfl
  | n :: ns => intsB_map ns
/-- lists of unlike lengths; a tuple against the empty one -/
def lenB : D → D → Bool
  | .lst ds, .lst es => ds.length != es.length
  | .tup (_ :: _), .tup [] => true
  | _, _ => false
def strsL : D → Option (List Str)
  | .lst ds => ds.mapM fun d => match d with
    | .str z => some z
    | _ => none
  | _ => none
theorem strsL_eq {d : D} {xs : List Str} (h : strsL d = some xs) : d = .lst (xs.map D.str) := by
  have main : ∀ (ds : List D) (xs : List Str), (ds.mapM fun d => match d with | .str z => some z | _ => none) = some xs → ds = xs.map D.str := by
    intro ds
    induction ds with
    | nil => intro xs h; cases h; rfl
    | cons d ds ih =>
      intro xs h
      rw [List.mapM_cons] at h
      obtain ⟨z, h1, h2⟩ := Option.bind_eq_some_iff.mp h
      obtain ⟨zs, h3, h4⟩ := Option.bind_eq_some_iff.mp h2
      cases h4
      rw [List.map_cons, ← ih zs h3]
      cases d <;> first | (cases h1; rfl) | cases h1
  cases d <;> first
    | (rename_i ds; exact congrArg D.lst (main ds xs h))
    | cases h
theorem all_eq {xs ys : List Str} (hl : xs.length = ys.length) : ((List.range xs.length).all fun j => xs.getD j Str.empty == ys.getD j Str.empty) = decide (xs = ys) := by
  by_cases h : xs = ys
  · subst h
    rw [decide_eq_true rfl, List.all_eq_true]
    intro j _
    simp
  · rw [decide_eq_false h, List.all_eq_false]
    by_cases g : ∃ j, j < xs.length ∧ xs.getD j Str.empty ≠ ys.getD j Str.empty
    · obtain ⟨j, h1, h2⟩ := g
      exact ⟨j, List.mem_range.mpr h1, by simpa using h2⟩
    · refine absurd (List.ext_getElem hl fun j h1 h2 => ?_) h
      have e : xs.getD j Str.empty = ys.getD j Str.empty := Decidable.byContradiction fun q => g ⟨j, h1, q⟩
      rw [List.getD_eq_getElem?_getD, List.getD_eq_getElem?_getD, List.getElem?_eq_getElem h1, List.getElem?_eq_getElem h2] at e
      exact e
theorem vals_strT {xs : List Str} {us : List Value} (r : Vals (xs.map V.str) us) : us.length = xs.length ∧ ∀ j (h : j < us.length), ∃ t, us[j] = .str (xs.getD j Str.empty) t := by
  induction xs generalizing us with
  | nil => cases r; exact ⟨rfl, fun j h => absurd h (Nat.not_lt_zero _)⟩
  | cons x xs ih =>
    cases r with
    | cons r1 r2 =>
      obtain ⟨t, rfl⟩ := r1
      obtain ⟨h1, h2⟩ := ih r2
      refine ⟨by simp [h1], fun j h => ?_⟩
      cases j with
      | zero => exact ⟨t, rfl⟩
      | succ j =>
        obtain ⟨t2, e⟩ := h2 j (by simpa using h)
        exact ⟨t2, by simpa using e⟩
theorem op_strsEq (hu : X.A.units + 64 < cLine) : OpR X (compareOp .Eq) (fun x y H Q => ∃ (a b : Addr) (xs ys : List Str), x = .ref a ∧ y = .ref b ∧ H a = some (.lst (xs.map V.str)) ∧ H b = some (.lst (ys.map V.str)) ∧ xs.length = ys.length ∧ Q (.bl (decide (xs = ys))) H) := by
  intro pins s σ H x y v u Q I rx ry ⟨a, b, xs, ys, e1, e2, h1, h2, hn, q⟩
  subst e1 e2
  cases (show v = Value.ref a from rx)
  cases (show u = Value.ref b from ry)
  obtain ⟨us, r1, p1, _⟩ := I.list (SqL.of h1)
  obtain ⟨ws, r2, p2, _⟩ := I.list (SqL.of h2)
  obtain ⟨l1, g1⟩ := vals_strT r1
  obtain ⟨l2, g2⟩ := vals_strT r2
  refine SeqAt.RcAt.lists (e := fun j => xs.getD j Str.empty == ys.getD j Str.empty) p1.isList p2.isList (by rw [List.size_toArray, List.size_toArray, l1, l2, hn]) (by omega) (fun j h3 h4 => ?_) _ _ _ _ ?_
  · obtain ⟨t1, e1⟩ := g1 j (by simpa using h3)
    obtain ⟨t2, e2⟩ := g2 j (by simpa using h4)
    rw [show us.toArray[j] = us[j]'(by simpa using h3) from by simp, show ws.toArray[j] = ws[j]'(by simpa using h4) from by simp, e1, e2]
    exact SeqAt.EqAt.str_str _ _ _ _
  · rw [List.size_toArray, l1, all_eq hn]
    exact ⟨.bl _, H, I, rfl, q⟩
theorem op_strsNe (hu : X.A.units + 64 < cLine) : OpR X (compareOp .NotEq) (fun x y H Q => ∃ (a b : Addr) (xs ys : List Str), x = .ref a ∧ y = .ref b ∧ H a = some (.lst (xs.map V.str)) ∧ H b = some (.lst (ys.map V.str)) ∧ xs.length = ys.length ∧ Q (.bl (!decide (xs = ys))) H) := by
  intro pins s σ H x y v u Q I rx ry ⟨a, b, xs, ys, e1, e2, h1, h2, hn, q⟩
  subst e1 e2
  cases (show v = Value.ref a from rx)
  cases (show u = Value.ref b from ry)
  obtain ⟨us, r1, p1, _⟩ := I.list (SqL.of h1)
  obtain ⟨ws, r2, p2, _⟩ := I.list (SqL.of h2)
  obtain ⟨l1, g1⟩ := vals_strT r1
  obtain ⟨l2, g2⟩ := vals_strT r2
  refine SeqAt.RcNeAt.lists (e := fun j => xs.getD j Str.empty == ys.getD j Str.empty) p1.isList p2.isList (by rw [List.size_toArray, List.size_toArray, l1, l2, hn]) (by omega) (fun j h3 h4 => ?_) _ _ _ _ ?_
  · obtain ⟨t1, e1⟩ := g1 j (by simpa using h3)
    obtain ⟨t2, e2⟩ := g2 j (by simpa using h4)
    rw [show us.toArray[j] = us[j]'(by simpa using h3) from by simp, show ws.toArray[j] = ws[j]'(by simpa using h4) from by simp, e1, e2]
    exact SeqAt.EqAt.str_str _ _ _ _
  · rw [List.size_toArray, l1, all_eq hn]
    exact ⟨.bl _, H, I, rfl, q⟩
def cEq (a b : D) : Option Bool :=
  if sc a b = true then some (sceq a b) else if nilB a b = true then some (empB a) else match chk (good a ∧ good b ∧ dep a ≤ 50 ∧ dep b ≤ 50) (eqD a b) with
    | some t => some t
    | none => if lenB a b = true then some false else match strsL a, strsL b with
      | some xs, some ys => some (decide (xs = ys))
      | _, _ => none
theorem op_lenEq (hu : X.A.units + 64 < cLine) : OpR X (compareOp .Eq) (fun x y H Q => ∃ a b xs ys, x = .ref a ∧ y = .ref b ∧ H a = some (.lst xs) ∧ H b = some (.lst ys) ∧ xs.length ≠ ys.length ∧ Q (.bl false) H) := by
  intro pins s σ H x y v u Q I rx ry ⟨a, b, xs, ys, e1, e2, h1, h2, hn, q⟩
  subst e1 e2
  cases (show v = Value.ref a from rx)
  cases (show u = Value.ref b from ry)
  obtain ⟨us, r1, p1, _⟩ := I.list (SqL.of h1)
  obtain ⟨ws, r2, p2, _⟩ := I.list (SqL.of h2)
  refine SeqAt.RcAt.lists_lengths p1.isList p2.isList ?_ (by omega) _ _ _ _ ⟨.bl false, H, I, rfl, q⟩
  rw [List.size_toArray, List.size_toArray, ← r1.length, ← r2.length]
  simpa using hn
theorem op_lenNe (hu : X.A.units + 64 < cLine) : OpR X (compareOp .NotEq) (fun x y H Q => ∃ a b xs ys, x = .ref a ∧ y = .ref b ∧ H a = some (.lst xs) ∧ H b = some (.lst ys) ∧ xs.length ≠ ys.length ∧ Q (.bl true) H) := by
  intro pins s σ H x y v u Q I rx ry ⟨a, b, xs, ys, e1, e2, h1, h2, hn, q⟩
  subst e1 e2
  cases (show v = Value.ref a from rx)
  cases (show u = Value.ref b from ry)
  obtain ⟨us, r1, p1, _⟩ := I.list (SqL.of h1)
  obtain ⟨ws, r2, p2, _⟩ := I.list (SqL.of h2)
  refine SeqAt.RcNeAt.lists_lengths p1.isList p2.isList ?_ (by omega) _ _ _ _ ⟨.bl true, H, I, rfl, q⟩
  rw [List.size_toArray, List.size_toArray, ← r1.length, ← r2.length]
  simpa using hn
theorem op_tupNilEq (hu : X.A.units + 64 < cLine) : OpR X (compareOp .Eq) (fun x y H Q => ∃ a b xs, x = .ref a ∧ y = .ref b ∧ SqT X.K H a xs ∧ SqT X.K H b [] ∧ xs ≠ [] ∧ Q (.bl false) H) := by
  intro pins s σ H x y v u Q I rx ry ⟨a, b, xs, e1, e2, h1, h2, hn, q⟩
  subst e1 e2
  cases (show v = Value.ref a from rx)
  cases (show u = Value.ref b from ry)
  obtain ⟨us, r1, p1, _⟩ := I.tuple h1
  obtain ⟨ws, r2, p2, _⟩ := I.tuple h2
  cases r2
  have hl := r1.length
  have hne : us.length ≠ 0 := fun z => hn (List.eq_nil_of_length_eq_zero (by omega))
  have key := SeqAt.RcAt.tuples (A := X.A) (e := fun _ => true) (show s.heap.IsTuple a us.toArray from p1) (show s.heap.IsTuple b ([] : List Value).toArray from p2) (by omega) (fun j h1 h2 => absurd h2 (by simp))
  rw [show ((List.range (min us.toArray.size ([] : List Value).toArray.size)).all (fun _ => true) && us.toArray.size == ([] : List Value).toArray.size) = false by simp; exact fun z => hne (by rw [z]; rfl)] at key
  exact key _ _ _ _ ⟨.bl false, H, I, rfl, q⟩
theorem op_tupNilNe (hu : X.A.units + 64 < cLine) : OpR X (compareOp .NotEq) (fun x y H Q => ∃ a b xs, x = .ref a ∧ y = .ref b ∧ SqT X.K H a xs ∧ SqT X.K H b [] ∧ xs ≠ [] ∧ Q (.bl true) H) := by
  intro pins s σ H x y v u Q I rx ry ⟨a, b, xs, e1, e2, h1, h2, hn, q⟩
  subst e1 e2
  cases (show v = Value.ref a from rx)
  cases (show u = Value.ref b from ry)
  obtain ⟨us, r1, p1, _⟩ := I.tuple h1
  obtain ⟨ws, r2, p2, _⟩ := I.tuple h2
  cases r2
  have hl := r1.length
  have hne : us.length ≠ 0 := fun z => hn (List.eq_nil_of_length_eq_zero (by omega))
  have key := SeqAt.RcNeAt.tuples (A := X.A) (e := fun _ => true) (show s.heap.IsTuple a us.toArray from p1) (show s.heap.IsTuple b ([] : List Value).toArray from p2) (by omega) (fun j h1 h2 => absurd h2 (by simp))
  rw [show (!((List.range (min us.toArray.size ([] : List Value).toArray.size)).all (fun _ => true) && us.toArray.size == ([] : List Value).toArray.size)) = true by simp; exact fun z => hne (by rw [z]; rfl)] at key
  exact key _ _ _ _ ⟨.bl true, H, I, rfl, q⟩
theorem tupnil_at {v w : V} {d : D} {ds : List D} (vx : Vw M x (.tup (d :: ds))) (vy : Vw M y (.tup [])) (o : Ok K F M H) (rx : Rp K F v x) (ry : Rp K F w y) :
    ∃ a b xs, v = .ref a ∧ w = .ref b ∧ SqT K H a xs ∧ SqT K H b [] ∧ xs ≠ [] := by
  cases vx.rp rfl o rx with
  | tup h1 k1 =>
    cases vy.rp rfl o ry with
    | tup h2 k2 =>
      cases k2
      exact ⟨_, _, _, rfl, rfl, same_t o.ex h1, same_t o.ex h2, fun z => by rw [z] at k1; cases k1⟩
theorem cEq_inv {a b : D} {t : Bool} (h : (match chk (good a ∧ good b ∧ dep a ≤ 50 ∧ dep b ≤ 50) (eqD a b) with
    | some t => some t
    | none => if lenB a b = true then some false else match strsL a, strsL b with
      | some xs, some ys => some (decide (xs = ys))
      | _, _ => none) = some t) : ((good a ∧ good b ∧ dep a ≤ 50 ∧ dep b ≤ 50) ∧ t = eqD a b) ∨ (t = false ∧ ((∃ ds es, a = .lst ds ∧ b = .lst es ∧ ds.length ≠ es.length) ∨ ∃ d ds, a = .tup (d :: ds) ∧ b = .tup [])) ∨
      ∃ xs ys : List Str, a = .lst (xs.map D.str) ∧ b = .lst (ys.map D.str) ∧ xs.length = ys.length ∧ t = decide (xs = ys) := by
  split at h
  · rename_i t' e
    cases h
    obtain ⟨g, e⟩ := chk_inv e
    exact .inl ⟨g, by rw [e]⟩
  · split at h
    · rename_i hl
      cases h
      refine .inr (.inl ⟨rfl, ?_⟩)
      unfold lenB at hl
      split at hl
      · exact .inl ⟨_, _, rfl, rfl, by simpa using hl⟩
      · exact .inr ⟨_, _, rfl, rfl⟩
      · cases hl
    · rename_i hl
      split at h
      · rename_i xs ys h1 h2
        cases h
        have e1 := strsL_eq h1
        have e2 := strsL_eq h2
        subst e1 e2
        refine .inr (.inr ⟨xs, ys, rfl, rfl, ?_, rfl⟩)
        simpa [lenB] using hl
      · cases h
theorem strs_at {v w : V} {xs ys : List Str} (vx : Vw M x (.lst (xs.map D.str))) (vy : Vw M y (.lst (ys.map D.str))) (o : Ok K F M H) (rx : Rp K F v x) (ry : Rp K F w y) :
    ∃ a b, v = .ref a ∧ w = .ref b ∧ H a = some (.lst (xs.map V.str)) ∧ H b = some (.lst (ys.map V.str)) := by
  obtain ⟨q, us, rfl, h1, r1⟩ := vx.sl.get o rx
  obtain ⟨q2, ws, rfl, h2, r2⟩ := vy.sl.get o ry
  rw [Rps.strs r1] at h1
  rw [Rps.strs r2] at h2
  exact ⟨q, q2, rfl, rfl, h1, h2⟩
theorem lenat_v {v w : V} {ds es : List D} (vx : Vw M x (.lst ds)) (vy : Vw M y (.lst es)) (o : Ok K F M H) (rx : Rp K F v x) (ry : Rp K F w y) (hn : ds.length ≠ es.length) :
    ∃ a b xs ys, v = .ref a ∧ w = .ref b ∧ H a = some (.lst xs) ∧ H b = some (.lst ys) ∧ xs.length ≠ ys.length := by
  obtain ⟨q, xs, rfl, h1, r1⟩ := vx.sl.get o rx
  obtain ⟨q2, ys, rfl, h2, r2⟩ := vy.sl.get o ry
  exact ⟨q, q2, xs, ys, rfl, rfl, h1, h2, by rw [r1.length, r2.length]; exact hn⟩
theorem nil_dp {v w : V} (h : nilB dx dy = true) (vx : Vw M x dx) (vy : Vw M y dy) (o : Ok K F M H) (rx : Rp K F v x) (ry : Rp K F w y) :
    ∃ z1, Dp K H v z1 ∧ Dp K H w (.list []) ∧ SeqAt.shaped z1 = true ∧ SeqAt.shaped (.list []) = true ∧ PyData.eqv z1 (.list []) = empB dx := by
  unfold nilB at h
  split at h
  · obtain ⟨ns, rfl⟩ := intsB_eq h
    obtain ⟨q, xs, rfl, h1, r1⟩ := vx.sl.get o rx
    obtain ⟨q2, ys, rfl, h2, r2⟩ := vy.sl.get o ry
    have e2 : ys = [] := by cases r2; rfl
    subst e2
    refine ⟨.list (ns.map PyData.int), .lst (SqL.of h1) (r1.dps o.ex (pyds_ints ns)), .lst (SqL.of h2) .nil, shaped_ints ns, shaped_ints [], ?_⟩
    cases ns with
    | nil => simp [PyData.eqv, PyData.eqvAll, empB]
    | cons n ns => simp [PyData.eqv, PyData.eqvAll, empB]
  · cases h
theorem sc_imm (h : sc dx dy = true) : imm dx = true ∧ imm dy = true := by
  cases dx <;> cases dy <;> first | exact ⟨rfl, rfl⟩ | cases h
theorem Vw.dp {v : V} (w : Vw M x dx) (g : good dx) (o : Ok K F M H) (r : Rp K F v x) : Dp K H v (pyd dx) := by
  cases w with
  | id => exact r.dp o.ex (good_py g)
  | ad h hf =>
    obtain ⟨_, hm⟩ := o.mt _ _ h
    cases dx with
    | lst ds =>
      obtain ⟨xs, h1, h2⟩ := hm
      cases r
      rw [pyd]
      exact .lst (SqL.of h1) (h2.dps o.ex (goods_py (by simpa [good] using g)))
    | _ => first | exact hm.elim | exact g.elim
theorem od_cEq (hu : X.A.units + 64 < cLine) (vx : Vw M x dx) (vy : Vw M y dy) (h : cEq dx dy = some t) (p : P (.bl t) M) : OD X (compareOp .Eq) x y M P := by
  unfold cEq at h
  split at h
  · rename_i hs
    cases h
    exact od_by (sc_imm hs).1 (sc_imm hs).2 vx vy (od_eq hs p)
  split at h
  · rename_i hs
    cases h
    refine ⟨_, op_eqD hu, fun F H v u Q o rx ry k => ?_⟩
    obtain ⟨z1, g1, g2, s1, s2, e⟩ := nil_dp hs vx vy o rx ry
    exact ⟨_, _, g1, g2, s1, s2, by rw [e]; exact k.here p o (.bl _)⟩
  rcases cEq_inv h with ⟨⟨g1, g2, d1, d2⟩, rfl⟩ | ⟨rfl, ⟨ds, es, rfl, rfl, hn⟩ | ⟨d, ds, rfl, rfl⟩⟩ | ⟨xs, ys, rfl, rfl, hn, rfl⟩
  rotate_left
  rotate_left
  rotate_left
  · refine ⟨_, op_strsEq hu, fun F H v u Q o rx ry k => ?_⟩
    obtain ⟨a, b, e1, e2, h1, h2⟩ := strs_at vx vy o rx ry
    exact ⟨a, b, xs, ys, e1, e2, h1, h2, hn, k.here p o (.bl _)⟩
  rotate_left
  · refine ⟨_, op_lenEq hu, fun F H v u Q o rx ry k => ?_⟩
    obtain ⟨a, b, xs, ys, e1, e2, h1, h2, h3⟩ := lenat_v vx vy o rx ry hn
    exact ⟨a, b, xs, ys, e1, e2, h1, h2, h3, k.here p o (.bl _)⟩
  · refine ⟨_, op_tupNilEq hu, fun F H v u Q o rx ry k => ?_⟩
    obtain ⟨a, b, xs, e1, e2, h1, h2, h3⟩ := tupnil_at vx vy o rx ry
    exact ⟨a, b, xs, e1, e2, h1, h2, h3, k.here p o (.bl _)⟩
  · exact ⟨_, op_eqD hu, fun F H v u Q o rx ry k => ⟨_, _, vx.dp g1 o rx, vy.dp g2 o ry, shaped_good g1 d1, shaped_good g2 d2, k.here p o (.bl _)⟩⟩
def cNe (a b : D) : Option Bool := (cEq a b).map (!·)
theorem od_cNe (hu : X.A.units + 64 < cLine) (vx : Vw M x dx) (vy : Vw M y dy) (h : cNe dx dy = some t) (p : P (.bl t) M) : OD X (compareOp .NotEq) x y M P := by
  unfold cNe at h
  obtain ⟨t2, h', e'⟩ := Option.map_eq_some_iff.mp h
  subst e'
  clear h
  have h := h'
  unfold cEq at h
  split at h
  · rename_i hs
    cases h
    exact od_by (sc_imm hs).1 (sc_imm hs).2 vx vy (od_ne hs p)
  split at h
  · rename_i hs
    cases h
    refine ⟨_, op_neD hu, fun F H v u Q o rx ry k => ?_⟩
    obtain ⟨z1, g1, g2, s1, s2, e⟩ := nil_dp hs vx vy o rx ry
    exact ⟨_, _, g1, g2, s1, s2, by rw [e]; exact k.here p o (.bl _)⟩
  rcases cEq_inv h with ⟨⟨g1, g2, d1, d2⟩, rfl⟩ | ⟨rfl, ⟨ds, es, rfl, rfl, hn⟩ | ⟨d, ds, rfl, rfl⟩⟩ | ⟨xs, ys, rfl, rfl, hn, rfl⟩
  rotate_left
  rotate_left
  rotate_left
  · refine ⟨_, op_strsNe hu, fun F H v u Q o rx ry k => ?_⟩
    obtain ⟨a, b, e1, e2, h1, h2⟩ := strs_at vx vy o rx ry
    exact ⟨a, b, xs, ys, e1, e2, h1, h2, hn, k.here p o (.bl _)⟩
  rotate_left
  · refine ⟨_, op_lenNe hu, fun F H v u Q o rx ry k => ?_⟩
    obtain ⟨a, b, xs, ys, e1, e2, h1, h2, h3⟩ := lenat_v vx vy o rx ry hn
    exact ⟨a, b, xs, ys, e1, e2, h1, h2, h3, k.here p o (.bl _)⟩
  · refine ⟨_, op_tupNilNe hu, fun F H v u Q o rx ry k => ?_⟩
    obtain ⟨a, b, xs, e1, e2, h1, h2, h3⟩ := tupnil_at vx vy o rx ry
    exact ⟨a, b, xs, e1, e2, h1, h2, h3, k.here p o (.bl _)⟩
  · exact ⟨_, op_neD hu, fun F H v u Q o rx ry k => ⟨_, _, vx.dp g1 o rx, vy.dp g2 o ry, shaped_good g1 d1, shaped_good g2 d2, k.here p o (.bl _)⟩⟩
/-- is, is not: with None; of bools -/
def isNonD : D → Option Bool
  | .non => some true
  | .int _ => some false
  | .bl _ => some false
  | .str _ => some false
  | .tup _ => some false
  | .lst _ => some false
  | .ins _ _ => some false
  | .dct _ => some false
  | .exn _ _ => some false
  | _ => none
def cIs : D → D → Option Bool
  | .bl a, .bl b => some (decide (a = b))
  | x, .non => isNonD x
  | _, _ => none
def cIsnt (a b : D) : Option Bool := (cIs a b).map (!·)
/-- flat data as values -/
def flD : D → Option V
  | .non => some .non
  | .bl b => some (.bl b)
  | .int i => some (.int i)
  | .str z => some (.str z)
  | _ => none
def flDs : List D → Option (List V)
  | [] => some []
  | d :: ds => (flD d).bind fun v => (flDs ds).map fun vs => v :: vs
theorem flDs_ints : ∀ ns : List Int, flDs (ns.map D.int) = some (ns.map V.int)
  | [] => rfl
  | n :: ns => by rw [List.map_cons, flDs, flDs_ints ns]; rfl
def itemsD : D → Option (List D)
  | .lst ds => some ds
  | .tup ds => some ds
  | _ => none
/-- x in c: flat x among flat items; a sign in a text; a key in a dict -/
def cIn (a c : D) : Option Bool := match a, c with
  | .str y, .str z => match y.cps.toList with
    | [n] => some (decide (n ∈ z.cps.toList))
    | _ => none
  | a, c => (flD a).bind fun v => (itemsD c).bind fun ds => (flDs ds).bind fun vs => some (inV v vs)
def cNin (a c : D) : Option Bool := (cIn a c).map (!·)
def dTru : D → Option Bool
  | .non => some false
  | .bl b => some b
  | .int i => some (i != 0)
  | .str y => chk (y.length ≤ 1000000) ((y.length : Int) != 0)
  | .lst ds => some (!ds.isEmpty)
  | .tup ds => some (!ds.isEmpty)
  | _ => none
theorem tx_fix {PB : Bool → Mem → Prop} (v : Bool) (M1 : Mem) (h : TX X J e ρ M fun d M' => d = v ∧ M' = M1) (k : PB v M1) : TX X J e ρ M PB := h.imp fun d M' q => by rw [q.1, q.2]; exact k
def dIx : D → D → Option D
  | .lst ds, .int i => atI ds i
  | .tup ds, .int i => atI ds i
  | .str z, .int i => (atI z.cps.toList i).bind fun n => chk (z.length ≤ 1000000) (.str ⟨#[n]⟩)
  | _, _ => none
theorem id_dIx (vx : Vw M x dx) (vy : Vw M y dy) (h : dIx dx dy = some z) (p : P z M) : ID X x y M P := by
  unfold dIx at h
  split at h
  · rename_i ds i
    obtain ⟨r, h1, h2⟩ := id_seq (X := X) vx.sq h p
    exact ⟨r, h1, fun F H v u Q o rx ry k => h2 F H v u Q o rx (vy.rp rfl o ry) k⟩
  · rename_i ds i
    obtain ⟨r, h1, h2⟩ := id_seq (X := X) (.tup : Sq M (.tup ds) ds) h p
    exact ⟨r, h1, fun F H v u Q o rx ry k => h2 F H v u Q o (vx.rp rfl o rx) (vy.rp rfl o ry) k⟩
  · obtain ⟨n, h1, h⟩ := Option.bind_eq_some_iff.mp h
    obtain ⟨h2, rfl⟩ := chk_inv h
    obtain ⟨r, g1, g2⟩ := id_str (X := X) h2 h1 p
    exact ⟨r, g1, fun F H v u Q o rx ry k => g2 F H v u Q o (vx.rp rfl o rx) (vy.rp rfl o ry) k⟩
  · cases h
/-- a slice's end -/
def dEnd : D → Option Int
  | .int i => some i
  | _ => none
theorem ox_d {PO' : Option Int → Mem → Prop} (h : EX X J e ρ M fun x M1 => ∃ dx i, Vw M1 x dx ∧ dEnd dx = some i ∧ PO' (some i) M1) : OX X J (some e) ρ M PO' := fun F σ H Q st k => ⟨_, po_some pe_any, h.go st fun d v M1 F1 H1 p e1 o1 r1 => by
  obtain ⟨dx, i, w, g, p⟩ := p
  unfold dEnd at g
  split at g
  · cases g
    have r2 := w.rp rfl o1 r1
    cases r2
    exact ⟨_, rfl, k _ _ _ _ p e1 o1⟩
  · cases g⟩
def dCut (d : D) (l u : Option Int) : Option D := match d, l, u with
  | .lst ds, l, u => some (.lst (cutD ds l u))
  | .tup ds, l, u => some (.tup (cutD ds l u))
  | .str z, l, u => chk (z.cps.toList.length ≤ 1000000) (.str (S (cutA z.cps.toList l u)))
  | .scr ns, none, some (.ofNat k) => some (.lst ((ns.take k).map D.int))
  | _, _, _ => none
theorem sd_by {l u : Option Int} (w : Vw M x dx) (hz : imm dx = true) (h : SD X dx l u M P) : SD X x l u M P := by
  obtain ⟨r, h1, h2⟩ := h
  exact ⟨r, h1, fun F H v Q o rx k => h2 F H v Q o (w.rp hz o rx) k⟩
theorem sd_dCut {l u : Option Int} (w : Vw M x dx) (h : dCut dx l u = some z) (p : P z M) : SD X x l u M P := by
  unfold dCut at h
  split at h
  · cases h; exact sd_list w.sl p
  · cases h; exact sd_by w rfl (sd_tupA p)
  · obtain ⟨h1, rfl⟩ := chk_inv h; exact sd_by w rfl (sd_str h1 p)
  · cases h; exact sd_by w rfl (sd_scr p)
  · cases h
theorem cd_by {f : Value} (w : Vw M x dx) (hz : imm dx = true) (h : CD X f [dx] M P) : CD X f [x] M P := by
  obtain ⟨r, h1, h2⟩ := h
  exact ⟨r, h1, fun F H vs Q o rs k => by
    cases rs with
    | cons r1 rs => exact h2 F H _ Q o (.cons (w.rp hz o r1) rs) k⟩
def dLen : D → Option D
  | .lst ds => some (.int (ds.length : Int))
  | .tup ds => some (.int (ds.length : Int))
  | .str z => chk (z.length ≤ 1000000) (.int (z.length : Int))
  | _ => none
theorem cd_dLen (w : Vw M x dx) (h : dLen dx = some z) (p : P z M) : CD X (.builtin "len") [x] M P := by
  unfold dLen at h
  split at h
  · cases h; exact cd_len w.sq p
  · cases h; exact cd_by w rfl (cd_len .tup p)
  · obtain ⟨h1, rfl⟩ := chk_inv h; exact cd_by w rfl (cd_lenS h1 p)
  · cases h
def dAbs : D → Option D
  | .int t => some (.int (if t < 0 then -t else t))
  | _ => none
theorem cd_dAbs (w : Vw M x dx) (h : dAbs dx = some z) (p : P z M) : CD X (.builtin "abs") [x] M P := by
  unfold dAbs at h
  split at h
  · cases h; exact cd_by w rfl (cd_abs p)
  · cases h
def dInt : D → Option D
  | .int t => some (.int t)
  | .bl t => some (.int (if t = true then 1 else 0))
  | _ => none
theorem cd_dInt (w : Vw M x dx) (h : dInt dx = some z) (p : P z M) : CD X (.type "int") [x] M P := by
  unfold dInt at h
  split at h
  · cases h; exact cd_by w rfl (cd_intI p)
  · cases h; exact cd_by w rfl (cd_intB p)
  · cases h
def dStr : D → Option D
  | .int i => chk (i.natAbs.log2 < 1920) (.str (toString i))
  | _ => none
/-- list(x), tuple(x) -/
def lList : D → Option (List D)
  | .lst ds => some ds
  | .tup ds => some ds
  | .str z => chk (z.cps.toList.length ≤ 1000000) (signs z)
  | _ => none
theorem cd_lList {l : List D} (hc : X.calm = true) (w : Vw M x dx) (h : lList dx = some l) (p : P (.lst l) M) : CD X (.type "list") [x] M P := by
  unfold lList at h
  split at h
  · cases h; exact cd_list w.sq p
  · cases h; exact cd_by w rfl (cd_list .tup p)
  · obtain ⟨h1, rfl⟩ := chk_inv h; exact cd_by w rfl (cd_listS hc h1 p)
  · cases h
def lListM : D → Option (List D)
  | .lst ds => some ds
  | .tup ds => some ds
  | _ => none
/-- lists of ints, of bools -/
def intsD : List D → Option (List Int)
  | [] => some []
  | .int i :: ds => (intsD ds).map fun l => i :: l
  | _ => none
theorem intsD_map : ∀ ns : List Int, intsD (ns.map D.int) = some ns
  | [] => rfl
  | n :: ns => by rw [List.map_cons, intsD, intsD_map ns]; rfl
def blsD : List D → Option (List Bool)
  | [] => some []
  | .bl i :: ds => (blsD ds).map fun l => i :: l
  | _ => none
theorem blsD_map : ∀ ns : List Bool, blsD (ns.map D.bl) = some ns
  | [] => rfl
  | n :: ns => by rw [List.map_cons, blsD, blsD_map ns]; rfl
def lstD : D → Option (List D)
  | .lst ds => some ds
  | _ => none
def maxI : List Int → Int
  | [] => 0
  | n :: ns => ns.foldl max n
def minI : List Int → Int
  | [] => 0
  | n :: ns => ns.foldl min n
def dMax (d : D) : Option D := (lstD d).bind fun ds => (intsD ds).bind fun ns => chk (0 < ns.length) (.int (maxI ns))
def dMin (d : D) : Option D := (lstD d).bind fun ds => (intsD ds).bind fun ns => chk (0 < ns.length) (.int (minI ns))
def dSum (d : D) : Option D := (lstD d).bind fun ds => (intsD ds).bind fun ns => some (.int ns.sum)
def dAll (d : D) : Option D := (lstD d).bind fun ds => (blsD ds).bind fun ns => some (.bl (ns.all id))
def dAny (d : D) : Option D := (lstD d).bind fun ds => (blsD ds).bind fun ns => some (.bl (ns.any id))
def dMax2 : D → D → Option D
  | .int i, .int j => some (.int (if j > i then j else i))
  | _, _ => none
def dMin2 : D → D → Option D
  | .int i, .int j => some (.int (if j < i then j else i))
  | _, _ => none
/-- repr of data without dicts -/
def dRepr (d : D) : Option D := chk (good d ∧ wt d ≤ 16000000 ∧ dep d ≤ 50) (.str (txt d))
/-- isinstance with a built-in class -/
def dIsi (n : String) (d : D) : Option Bool := chk (plain d = true) (isi n d)
end
end
end DX
namespace ZMix
open PySem PySem.Spec L2 PyProof.Rows
def SeqK : Bool → Heap → Addr → Array Value → Prop
  | true, h, a, its => h.IsTuple a its
  | false, h, a, its => h.IsList a its
def WalkK : Bool → Heap → Addr → Addr → Nat → Prop
  | true, h, it, a, i => h.IsTupleIter it a i
  | false, h, it, a, i => h.IsListIter it a i
def SqK : Bool → PySem.W.Frag → Hp → Addr → List V → Prop
  | true, K, H, a, xs => SqT K H a xs
  | false, K, H, a, xs => SqL K H a xs
def objK : Bool → Addr → Obj
  | true, a => { cls := .type "tuple_iterator", data := .fields #[.ref a, .int 0 0] }
  | false, a => { cls := .type "list_iterator", data := .fields #[.ref a, .int 0 0] }
/-- both walked side by side, in new pairs -/
def ItM (t u : Bool) (K : PySem.W.Frag) (a b : Addr) : It :=
  ⟨fun i H => ∃ xs ys : List V, ∃ x y : V, SqK t K H a xs ∧ SqK u K H b ys ∧ xs[i]? = some x ∧ ys[i]? = some y,
   fun i H v H' => ∃ n : Addr, ∃ x y : V, v = .ref n ∧ H n = none ∧ H' = upd H n (.tup [x, y]) ∧ (∀ xs, SqK t K H a xs → xs[i]? = some x) ∧ (∀ ys, SqK u K H b ys → ys[i]? = some y),
   fun i H => ∃ xs ys : List V, SqK t K H a xs ∧ SqK u K H b ys ∧ i ≤ xs.length ∧ i ≤ ys.length ∧ (i = xs.length ∨ i = ys.length)⟩
structure Far (z TI TO i1 i2 a b : Addr) : Prop where
  s : ZipSep2 z TI TO i1 i2 [i1, a] [i2, b]
  a1 : a ≠ i1
  b1 : b ≠ i2
  i12 : i1 ≠ i2
def iZipM (t u : Bool) (K : PySem.W.Frag) (ta : TA) : TI := fun σ H R => ta σ H fun vs H1 => ∃ a b : Addr, ∃ xs ys : List V, vs = [.ref a, .ref b] ∧ SqK t K H1 a xs ∧ SqK u K H1 b ys ∧ R (ItM t u K a b) H1
end ZMix
namespace DX
open PySem PySem.Spec L2 ZMix
variable {X : Cx} {J : Gh} {M : Mem} {F : Hp} {K : PySem.W.Frag} {ρ : DEnv} {a b : Expr} {p pos : Pos}
end DX
namespace DX
open PySem PySem.Spec L2 SX
noncomputable section
inductive Ctl (S R : Type) where
  | go (s : S) | brk (s : S) | ret (r : R)
def foldO {S : Type} (f : S → D → Option S) : S → List D → Option S
  | s, [] => some s
  | s, x :: xs => (f s x).bind fun s' => foldO f s' xs
/-- how a loop that may be left ends: brk never -/
def loopC {S R : Type} (f : S → D → Option (Ctl S R)) : S → List D → Option (Ctl S R)
  | s, [] => some (.go s)
  | s, x :: xs => (f s x).bind fun
    | .go s' => loopC f s' xs
    | .brk s' => some (.go s')
    | .ret r => some (.ret r)
def ctl {S R T : Type} (c : Ctl S R) (f : S → Option T) (g : R → Option T) : Option T := match c with
  | .go s => f s
  | .brk s => f s
  | .ret r => g r
theorem ctl_retS {S R : Type} {c : Ctl S R} {f : S → Option R} {v z : R} (h : ctl c f (fun v => some v) = some z) (e : c = .ret v) : some v = some z := by subst e; exact h
theorem ctl_retR {S R T : Type} {c : Ctl S R} {f : S → Option (Ctl T R)} {v : R} {z : Ctl T R} (h : ctl c f (fun v => some (.ret v)) = some z) (e : c = .ret v) : some (.ret v) = some z := by subst e; exact h
theorem ctl_go {S R T : Type} {c : Ctl S R} {f : S → Option T} {g : R → Option T} {v : S} {z : T} (h : ctl c f g = some z) (e : c = .go v) : f v = some z := by subst e; exact h
def whileO {S : Type} (c : S → Option Bool) (f : S → Option S) : Nat → S → Option S
  | 0, _ => none
  | n + 1, s => (c s).bind fun t => if t = true then (f s).bind fun s' => whileO c f n s' else some s
def mapO (f : D → Option D) : List D → Option (List D)
  | [] => some []
  | x :: xs => (f x).bind fun y => (mapO f xs).map fun ys => y :: ys
def filtO (f : D → Option (Option D)) : List D → Option (List D)
  | [] => some []
  | x :: xs => (f x).bind fun o => (filtO f xs).map fun ys => match o with
    | some y => y :: ys
    | none => ys
def mapS {S : Type} (f : S → D → Option (D × S)) : S → List D → Option (List D × S)
  | s, [] => some ([], s)
  | s, x :: xs => (f s x).bind fun p => (mapS f p.2 xs).map fun q => (p.1 :: q.1, q.2)
def filtS {S : Type} (f : S → D → Option (Option D × S)) : S → List D → Option (List D × S)
  | s, [] => some ([], s)
  | s, x :: xs => (f s x).bind fun p => (filtS f p.2 xs).map fun q => (match p.1 with
    | some y => y :: q.1
    | none => q.1, q.2)
/-- the tuple's parts -/
def un1 : D → Option D
  | .tup [a] => some a
  | _ => none
def un2 : D → Option (D × D)
  | .tup [a, b] => some (a, b)
  | _ => none
def un3 : D → Option (D × D × D)
  | .tup [a, b, c] => some (a, b, c)
  | _ => none
def un4 : D → Option (D × D × D × D)
  | .tup [a, b, c, d] => some (a, b, c, d)
  | _ => none
def un5 : D → Option (D × D × D × D × D)
  | .tup [a, b, c, d, e] => some (a, b, c, d, e)
  | _ => none
theorem un2_eq {d : D} {p : D × D} (h : un2 d = some p) : d = .tup [p.1, p.2] := by unfold un2 at h; split at h <;> cases h; rfl
/-- what is walked -/
def dIter : D → Option (List D)
  | .lst ds => some ds
  | .tup ds => some ds
  | .str z => some (signs z)
  | _ => none
def dZip : D → D → Option (List D)
  | .lst a, .lst b => some (zipD a b)
  | .tup a, .tup b => some (zipD a b)
  | .tup a, .lst b => some (zipD a b)
  | .lst a, .tup b => some (zipD a b)
  | _, _ => none
def dEnum : D → Option (List D)
  | .lst a => some (enumD 0 a)
  | .tup a => some (enumD 0 a)
  | _ => none
def dRange : List D → Option (List D)
  | [.int j] => chk (-1000000 ≤ j ∧ j ≤ 1000000) (rngD 0 j.toNat)
  | [.int i, .int j] => chk ((0 ≤ i ∧ i ≤ 1000000) ∧ -1000000 ≤ j ∧ j ≤ 1000000) (rngD i (j - i).toNat)
  | [.int i, .int j, .int c] => if c = -1 then chk ((-1000000 ≤ i ∧ i ≤ 1000000) ∧ -1000000 ≤ j ∧ j ≤ 1000000) (rngC i (-1) (i - j).toNat)
    else chk ((-1000000 ≤ i ∧ i ≤ 1000000) ∧ (-1000000 ≤ j ∧ j ≤ 1000000) ∧ 1 ≤ c ∧ c ≤ 1000) (rngC i c (cntP i j c))
  | _ => none
/-- x[i] = v; x.pop(i); x.pop() -/
def lSet (l : List D) (i v : D) : Option (List D) := match i with
  | .int n => (ixN l.length n).map fun m => l.set m v
  | _ => none
def lPopAt (l : List D) (i : D) : Option (D × List D) := match i with
  | .int n => (chk (-(2 ^ 62) ≤ n ∧ n < 2 ^ 62) ()).bind fun _ => (ixN l.length n).bind fun m => (l[m]?).map fun v => (v, l.eraseIdx m)
  | _ => none
def lPop (l : List D) : Option (D × List D) := (l[l.length - 1]?).map fun v => (v, l.dropLast)
def dJoin (z d : D) : Option D := match z, itemsD d with
  | .str z, some ds => chk (AllS ds ∧ sizeJ ds + ds.length * z.length ≤ 16777216) (.str (Txt.join z (ds.map toS)))
  | _, _ => none
section
variable {X : Cx} {J : Gh} {e a b c o : Expr} {es : List Expr} {ρ ρ' : DEnv} {M M' M0 M1 : Mem} {F F' H H' : Hp} {σ : L2.St} {B : Bd} {K : PySem.W.Frag} {pos p apos cpos : Pos} {x y dx dy z : D} {P : D → Mem → Prop} {t : Bool}
theorem up_none {a b : Addr} {d : D} (h : up M a d b = none) : a ≠ b ∧ M b = none := by
  unfold up at h
  split at h
  · cases h
  · rename_i q; exact ⟨fun e => q e.symm, h⟩
theorem nn {a b : Addr} {d : D} (q : a ≠ b) (h : M b = none) : up M a d b = none := by rw [up_ne (Ne.symm q)]; exact h
theorem At.ne {h b : Addr} {d : D} {f : D → Mem} (A : At M h d f) (q : M b = none) : h ≠ b := by rintro rfl; rw [A.get] at q; cases q
theorem sub_refl : Sub M M := fun _ _ h => h
theorem sub_drop {a : Addr} {d : D} (s : Sub M0 M1) (h : M1 a = none) : Sub M0 (up M1 a d) := fun b d' q => by
  have q1 := s b d' q
  rw [up_ne (fun e => by rw [e, h] at q1; cases q1)]; exact q1
theorem sub_keep {a : Addr} {d : D} (s : Sub M0 M1) : Sub (up M0 a d) (up M1 a d) := fun b d' q => by
  unfold up at q ⊢
  split at q
  · rename_i e; rw [if_pos e]; exact q
  · rename_i e; rw [if_neg e]; exact s b d' q
theorem ex_less (h : EX X J e ρ M fun d M1 => ∃ M0, Sub M0 M1 ∧ P d M0) : EX X J e ρ M P :=
  ex_of h fun F σ H Q st k => ⟨F, st, fun d v M' F' H' q e1 o1 r1 => by
    obtain ⟨M0, s, q⟩ := q
    exact k d v M0 F' H' q e1 (o1.sub s) r1⟩
theorem ret0 {v r : D} (e : v = r) (k : P r M) : P v M := by subst e; exact k
theorem ret1 {v : D} {r : D × List D} {l : List D} {W : D → Mem} (e : (v, l) = r) (k : P r.1 (W (.lst r.2))) : P v (W (.lst l)) := by subst e; exact k
theorem as_eq {tg : Expr} {d d' : D} {Q : DEnv → Prop} (e : d = d') (h : AsD X tg d' ρ Q) : AsD X tg d ρ Q := by subst e; exact h
theorem ix_enumU {elts : List Expr} {kk : Nat} {tpos : Pos} {v : D} {ds : List D} {M2 : Mem} {P : List D → Mem → Prop} (hm : X.mg "enumerate" = none) (h : AX X J [a] ρ M fun ws M' => ws = [v] ∧ M' = M2) (hv : dEnum v = some ds) (k : P ds M2) (hg : Gl X "enumerate" := by rfl)
    (hs : starEach [a] X.env = [(false, eval a X.env)] := by rfl) : IX X J (.Tuple elts kk tpos) (.Call (.Name "enumerate" p) [a] [] pos) ρ M P := by
  cases v <;> cases hv
  · exact ix_enumT hm (h.imp fun d M' q => ⟨_, q.1, by rw [q.2]; exact k⟩) hg hs
  · exact ix_enum hm (h.imp fun d M' q => ⟨_, q.1, by rw [q.2]; exact k⟩) hg hs
theorem ix_range1U {tg : Expr} {v : D} {ds : List D} {M2 : Mem} {P : List D → Mem → Prop} (hm : X.mg "range" = none) (h : AX X J [a] ρ M fun ws M' => ws = [v] ∧ M' = M2) (hv : dRange [v] = some ds) (k : P ds M2) (hg : Gl X "range" := by rfl)
    (hs : starEach [a] X.env = [(false, eval a X.env)] := by rfl) : IX X J tg (.Call (.Name "range" p) [a] [] pos) ρ M P := by
  cases v <;> first | (cases hv; done) | skip
  obtain ⟨h1, rfl⟩ := chk_inv hv
  exact ix_range1 hm (h.imp fun d M' q => ⟨_, q.1, ⟨by omega, by omega⟩, by rw [q.2]; exact k⟩) hg hs
section
variable {S R : Type} {xs : List D} {tg : Expr} {stm : List Stmt}
theorem drop_at {i : Nat} {d : D} (h : xs[i]? = some d) : xs.drop i = d :: xs.drop (i + 1) := by
  have hi : i < xs.length := by
    by_cases q : i < xs.length
    · exact q
    · rw [List.getElem?_eq_none (by omega)] at h; cases h
  rw [List.getElem?_eq_getElem hi] at h
  cases h
  exact List.drop_eq_getElem_cons hi
theorem forC {f : S → D → Option (Ctl S R)} {s0 : S} {c : Ctl S R} (hl : loopC f s0 xs = some c) (V : S → DEnv → Mem → Prop) (h0 : V s0 ρ M)
    (hs : ∀ d s b, f s d = some b → (∀ r, b = .ret r → c = .ret r) → ∀ ρ' M', V s ρ' M' → AsD X tg d ρ' fun ρ2 => GX X J stm ρ2 M' ⟨fun ρ M => ∃ s', b = .go s' ∧ V s' ρ M, B.rt, fun ρ M => ∃ s', b = .brk s' ∧ V s' ρ M, fun ρ M => ∃ s', b = .go s' ∧ V s' ρ M⟩)
    (hd : ∀ s', c = .go s' → ∀ ρ' M', V s' ρ' M' → B.nx ρ' M') :
    ∃ Wd : Nat → DEnv → Mem → Prop, Wd 0 ρ M ∧ (∀ i d ρ' M', xs[i]? = some d → Wd i ρ' M' → AsD X tg d ρ' fun ρ2 => GX X J stm ρ2 M' ⟨Wd (i + 1), B.rt, B.nx, Wd (i + 1)⟩) ∧ ∀ ρ' M', Wd xs.length ρ' M' → B.nx ρ' M' := by
  refine ⟨fun i ρ' M' => ∃ s, loopC f s (xs.drop i) = some c ∧ V s ρ' M', ⟨s0, hl, h0⟩, fun i d ρ' M' hi ⟨s, h1, h2⟩ => ?_, fun ρ' M' ⟨s, h1, h2⟩ => ?_⟩
  · rw [drop_at hi, loopC] at h1
    obtain ⟨b, h3, h4⟩ := Option.bind_eq_some_iff.mp h1
    obtain ⟨g, hg, h⟩ := hs d s b h3 (fun r e => by subst e; cases h4; rfl) ρ' M' h2
    refine ⟨g, hg, fun F M v σ H Q o r en k => h F M v σ H Q o r en fun σ' ρ2 q en2 => k σ' ρ2 (q.imp (fun _ _ z => ?_) (fun _ _ z => z) (fun _ _ z => ?_) (fun _ _ z => ?_)) en2⟩
    · obtain ⟨s', e, z⟩ := z; subst e; exact ⟨s', h4, z⟩
    · obtain ⟨s', e, z⟩ := z; subst e; exact hd s' (so h4).symm _ _ z
    · obtain ⟨s', e, z⟩ := z; subst e; exact ⟨s', h4, z⟩
  · rw [List.drop_length, loopC] at h1
    exact hd s (so h1).symm ρ' M' h2
end
section
variable {S : Type} {scope : Scope} {tg elt : Expr} {ifs : List Expr} {vs : List Nat} {xs ys : List D}
theorem len_at {i : Nat} {d : D} (h : xs[i]? = some d) : i < xs.length := by
  by_cases q : i < xs.length
  · exact q
  · rw [List.getElem?_eq_none (by omega)] at h; cases h
theorem lcF {f : D → Option D} (hl : mapO f xs = some ys) (hz : xs.length ≤ 1000000)
    (hs : ∀ d y acc Dl, f d = some y → M Dl = none → AsB X scope vs tg d (cuts ρ vs) fun ρ2 => EXb X J scope elt ρ2 (up M Dl (.lst acc)) fun y' M3 => y' = y ∧ M3 = up M Dl (.lst acc)) (k : P (.lst ys) M) : LcW X J scope vs tg [] elt ρ P xs M := by
  refine ⟨fun i acc M' => M' = M ∧ acc.length = i ∧ ∃ r, mapO f (xs.drop i) = some r ∧ acc ++ r = ys, ⟨rfl, rfl, ys, hl, rfl⟩, fun i d acc M' Dl hi ⟨e, ha, r, h1, h2⟩ hD => ?_, fun acc M' ⟨e, ha, r, h1, h2⟩ => ?_⟩
  · subst e
    have hi2 := len_at hi
    refine ⟨by omega, ?_⟩
    rw [drop_at hi, mapO] at h1
    obtain ⟨y, h3, h1⟩ := Option.bind_eq_some_iff.mp h1
    obtain ⟨r', h4, rfl⟩ := Option.map_eq_some_iff.mp h1
    obtain ⟨g, hg, h⟩ := hs d y acc Dl h3 hD
    refine ⟨g, hg, fun F M v σ H Q o r en k => h F M v σ H Q o r en fun σ' ρ2 q en2 w => k σ' ρ2 ?_ en2 w⟩
    refine txb_nil ⟨fun _ => fun s H C cl fp => (q s H C cl fp).imp fun y' M3 z => ?_, fun h => nomatch h⟩
    obtain ⟨rfl, rfl⟩ := z
    exact ⟨M', hD, rfl, rfl, by rw [List.length_append, ha]; rfl, r', h4, by rw [List.append_assoc]; exact h2⟩
  · rw [List.drop_length, mapO] at h1
    cases h1
    subst e
    rw [List.append_nil] at h2
    subst h2
    exact k
end
def strD : D → Option Str
  | .str z => some z
  | _ => none
def dJoinS (z : Str) (d : D) : Option D := (itemsD d).bind fun ds => chk (AllS ds ∧ sizeJ ds + ds.length * z.length ≤ 16777216) (.str (Txt.join z (ds.map toS)))
def lExt (l : List D) (v : D) : Option (List D) := (lstD v).bind fun es => chk (l.length + es.length ≤ 1000000) (l ++ es)
theorem g1_setIxF {tp : Pos} (h : EX X J e ρ M fun y M1 => EX X J o ρ M1 fun d M2 => EX X J a ρ M2 fun i M3 => ∃ q l f l', d = .adr q ∧ At M3 q (.lst l) f ∧ lSet l i y = some l' ∧ B.nx ρ (f (.lst l')))
    (hs : swapsWithSole [.Subscript o a tp] e pos.line X.env = pure false := by rfl) (hw : swappedStores [.Subscript o a tp] e X.env = pure none := by rfl)
    (h1 : (assignEach [.Subscript o a tp] X.env).map (·.2) = [assign (.Subscript o a tp) X.env] := by rfl)
    (ha : ∀ v, assign (.Subscript o a tp) X.env v = (do let ov ← holding [v] (eval o X.env); let iv ← holding [v, ov] (eval a X.env); standAt tp; holding [v, ov, iv] (setItem ov iv v); release [v, ov, iv] []) := by intro _; rfl) : G1 X J (.Assign [.Subscript o a tp] e pos) ρ M B :=
  g1_setIx (h.imp fun y M1 q => q.imp fun d M2 q => q.imp fun i M3 q => by
    obtain ⟨q, l, f, l', e1, hA, h1, k⟩ := q
    unfold lSet at h1
    split at h1
    · obtain ⟨m, h2, rfl⟩ := Option.map_eq_some_iff.mp h1
      exact ⟨q, l, f, _, m, e1, rfl, hA, h2, k⟩
    · cases h1) hs hw h1 ha
end
end
end DX
namespace DX
open PySem PySem.Spec L2 SX
noncomputable section
def iOp (f : Int → Int → Int) : D → D → Option D
  | .int i, .int j => some (.int (f i j))
  | _, _ => none
def keyD : D → Option Key
  | .int i => some (.inl i)
  | .str z => some (.inr z)
  | _ => none
def dctD : D → Option (List (Key × D))
  | .dct l => some l
  | _ => none
def kvsD : List D → Option (List (Key × D))
  | [] => some []
  | .tup [a, b] :: ds => (keyD a).bind fun k => (kvsD ds).map fun l => (k, b) :: l
  | _ => none
section
variable {X : Cx} {J : Gh} {e a b c o : Expr} {es : List Expr} {ρ ρ' : DEnv} {M M' M0 M1 : Mem} {F F' H H' : Hp} {σ : L2.St} {B : Bd} {K : PySem.W.Frag} {pos p apos cpos : Pos} {x y dx dy z : D} {P : D → Mem → Prop} {t : Bool}
def dLstrip (z : Str) : D → Option D
  | .str y => chk (z.length ≤ 1000000) (.str (Txt.lstripChars z y))
  | _ => none
theorem cwS {M : Model} {A : Around} {E : Value → Shared → Prop} {s : Shared} {f : Value} {first : List Value} {pos : Pos} {Q : Value → Shared → Prop} {Ph : Heap → Prop} {args : List (Bool × Sem Value)} {kw : List (Option Str × Sem Value)} (hst : (args.any (·.1) || kw.any (·.1.isNone)) = true)
    (hk : ∀ h, Ph h → ∃ k, (k = Keeper.frame ∨ k = Keeper.machine ∨ k = Keeper.boundFrame) ∧ PySem.W.Looks M h (keeperOf f) k)
    (h : wpAny M A (evalArgs f true args kw) (fun a s1 => Ph s1.heap ∧ wpAny M A (call f (first ++ a.pos) a.kw) Q E s1) E s) : wpAny M A (callWith pos f first args kw) Q E s := by
  unfold callWith
  refine wpAny_bind (wpAny_holding (wpAny_mono h (fun a s1 g => wpAny_bind (wpAny_standAt ?_)) fun _ _ x => x))
  obtain ⟨k, hk', L⟩ := hk _ g.1
  simp only [hst]
  refine wpAny_bind (L.here ?_)
  have fin : ∀ {z : Sem Value}, wpAny M A z Q E s1 → wpAny M A (z >>= fun r => holding [r] point >>= fun _ => pure r) Q E s1 := by
    intro z hz
    exact wpAny_bind (wpAny_mono hz (fun r s2 hr => wpAny_bind (wpAny_holding (wpAny_point (wpAny_pure hr)))) fun _ _ x => x)
  rcases hk' with rfl | rfl | rfl
  · refine fin ?_
    show wpAny M A (callMarked _ f (first ++ a.pos) a.kw) Q E s1
    unfold callMarked
    exact Calls.wpAny_keep g.2
  · exact fin (wpAny_operating g.2)
  · exact fin (wpAny_operating g.2)
end
end
end DX
namespace DX
open PySem PySem.Spec L2
open PyProof.Rows hiding St
section
variable {X : Cx} {J : Gh} {e a b c o : Expr} {es : List Expr} {ρ : DEnv} {M : Mem} {F F' H H' : Hp} {σ : St} {K : PySem.W.Frag} {pos p q apos cpos : Pos} {P : D → Mem → Prop}
/-- the numbers, each once -/
def difI : List Int → List Int
  | [] => []
  | n :: ns => if n ∈ ns then difI ns else n :: difI ns
def tDif (K : PySem.W.Frag) (ta : TE) : TE := fun σ H Q => ta σ H fun x H1 => ∃ l : Addr, ∃ ns : List Int, x = .ref l ∧ (SqL K H1 l (ns.map V.int) ∨ SqT K H1 l (ns.map V.int)) ∧ ns.length ≤ 4000 ∧ Q (.int ((difI ns).length : Nat)) H1
/-- len(set(x)) -/
noncomputable def dLenSet : D → Option D
  | .lst ds => (intsD ds).bind fun ns => chk (ns.length ≤ 4000) (.int ((difI ns).length : Int))
  | .tup ds => (intsD ds).bind fun ns => chk (ns.length ≤ 4000) (.int ((difI ns).length : Int))
  | _ => none
/-- x[::-1] -/
def dRev : D → Option D
  | .lst ds => some (.lst ds.reverse)
  | .tup ds => some (.tup ds.reverse)
  | _ => none
end
end DX
namespace DX
open PySem PySem.Spec L2
open PyProof.Rows hiding St
section
variable {X : Cx} {J : Gh} {e a b c o : Expr} {es : List Expr} {ρ : DEnv} {M : Mem} {F F' H H' : Hp} {σ : St} {K : PySem.W.Frag} {pos p q apos cpos : Pos} {P : D → Mem → Prop} {f : Str}
/-- e.f, a field of an instance of one of the classes L -/
def dFld (L : List Addr) (f : Str) : D → Option D
  | .ins C gs => if C ∈ L then gs.lookup f else none
  | _ => none
/-- e.f, a constant of the class: for each class its value -/
def dCon (L : List (Addr × D)) (f : Str) : D → Option D
  | .ins C gs => if gs.lookup f = none then L.lookup C else none
  | _ => none
end
end DX
namespace DX
open PySem PySem.Spec L2 PyProof.Rows StX
abbrev TrB := List D → Mem → (D → Mem → Prop) → RX → Prop
/-- what stood at the beginning stands -/
def ghF (F0 : Hp) : Gh := ⟨fun F => Same F0 F, fun F F' e h => Same.trans h e⟩
/-- the def at f has the code cdv -/
def CodeAt (K : PySem.W.Frag) (f : Addr) (cdv : Value) : Prop := ∃ oc od osl fd, K.lookup f = some ⟨oc, od, .func fd, osl⟩ ∧ fd.code = cdv
def BodyX (pg : Program) (w : World) (K : PySem.W.Frag) (mg : Str → Option Value) (base : Heap) (gd : Bool) (k : Nat) (f : Addr) (qual : Str) (body : List Stmt) (scope : Scope) (N ps : List Str) (T : TrB) : Prop :=
  ∀ (cdv : Value), CodeAt K f cdv → ∀ (A : Around) (outer : List PySem.Env) (s : Shared) (H F0 : Hp) (E : XK) (ds : List D) (M : Mem) (P : D → Mem → Prop) (R : RX), (gd = true → A.guards = some []) → Room k (A.deeper (PyProof.Rows.envOfC qual scope s.heap.objs.size f cdv)) → T ds M P R →
      Lets (cxOf (L2.CX pg w) pg w K mg base N qual scope f cdv A outer s H E) (ghF F0) (fun C gs _ M' => R C gs M') →
      PassesOwn (model pg w) (cxOf (L2.CX pg w) pg w K mg base N qual scope f cdv A outer s H E).A (cxOf (L2.CX pg w) pg w K mg base N qual scope f cdv A outer s H E).env (cxOf (L2.CX pg w) pg w K mg base N qual scope f cdv A outer s H E).xe →
      Kx K F0 R E →
      GX (cxOf (L2.CX pg w) pg w K mg base N qual scope f cdv A outer s H E) (ghF F0) body (startD (N.length - ps.length) ds) M ⟨fun _ M' => P .non M', P, fun _ _ => False, fun _ _ => False⟩
section
variable {pg : Program} {w : World} {K : PySem.W.Frag} {mg : Str → Option Value} {base : Heap} {x qual : Str} {params : Arguments} {body : List Stmt} {scope : Scope} {kws : List (Str × V)} {f : Addr} {fd : FuncData} {N pn : List Str} {pv : Str} {k : Nat} {T : TrB} {gd : Bool}
theorem lets_body {F0 : Hp} {R : RX} {E : XK} {cdv : Value} {A : Around} {outer : List PySem.Env} {s : Shared} {H : Hp} (kx : Kx K F0 R E) :
    Lets (cxOf (L2.CX pg w) pg w K mg base N qual scope f cdv A outer s H E) (ghF F0) (fun C gs _ M' => R C gs M') :=
  ⟨fun cls d _ H => E cls d H, takes_of rfl rfl rfl rfl, fun cls d σ H' F ρ M C gs st x r => kx C gs M F H' cls d r st.gh st.ok x⟩
theorem body_runX {ps : List Str} (B : BodyX pg w K mg base gd k f qual body scope N ps T) (cdv : Value) (hcv : CodeAt K f cdv) {A : Around} {outer : List PySem.Env} {s2 : Shared} {H2 F : Hp} {M : Mem} {ds : List D} {vs : List V} {P : D → Mem → Prop} {R : RX} {Q : VK} {E : XK}
    (hg : gd = true → A.guards = some []) (hr : Room k (A.deeper (PyProof.Rows.envOfC qual scope s2.heap.objs.size f cdv))) (hl : vs.length = ps.length) (o : Ok K F M H2) (rd : Rps K F vs ds) (t : T ds M P R) (kt : Kt K F P Q) (kx : Kx K F R E) :
    ∃ t, PSs (cxOf (L2.CX pg w) pg w K mg base N qual scope f cdv A outer s2 H2 E) body t ∧ t { nx := fun _ H' => Q .non H', rt := Q } (L2.start N vs) H2 := by
  have hb := B cdv hcv A outer s2 H2 F E ds M P R hg hr t (lets_body kx) (passes_of rfl) kx
  refine ⟨_, hb, F, ⟨?_, o, Same.refl F⟩, ⟨fun F' σ' H' ρ' M' p e en o' => kt _ _ _ _ _ p e o' .non, kt, fun F' σ' H' ρ' M' p => p.elim, fun F' σ' H' ρ' M' p => p.elim⟩⟩
  unfold L2.start
  rw [hl]
  exact En.start _ rd
end
end DX
namespace DX
open PySem PySem.Spec L2 PyProof.Rows StX
section
variable {pg : Program} {w : World} {K : PySem.W.Frag} {mg : Str → Option Value} {base : Heap} {x qual : Str} {params : Arguments} {body : List Stmt} {scope : Scope} {kws : List (Str × V)} {f : Addr} {fd : FuncData} {N pn : List Str} {pv : Str} {k : Nat} {T : TrB} {gd : Bool}
/-- no defaults by place: values, keywords, keyword-only defaults -/
theorem fn_kwX (F : FunD K x qual params body scope [] kws f fd) (S : FnScope N pn scope) (B : BodyX pg w K mg base gd k f qual body scope N pn T) (np : Nat) (ks : List Str) (ms : List (Str × V)) (mds : List D) (ix : List Nat)
    (hms : ∀ q ∈ ms, q ∈ kws) (hmd : ∀ F, Rps K F (ms.map (·.2)) mds)
    (h : ∀ (kV : Value) (D : Addr) (doc pm : Value) (an : Option Addr) (cdv ct : Value) (us mv ws : List Value), (kws ≠ [] → kV = .ref D) → us.length = np → mv.length = ms.length → ws.length = ks.length →
      KwChainE D (fun t => t = pure (pn.zip (pick (us ++ (mv ++ ws)) ix))) ((ms.map (·.1)).zip mv) (bindArgs (PySem.W.fnOf x qual params body scope .none kV doc pm an cdv ct) ⟨us, ks.zip ws⟩))
    (hix : ∀ (us mv ws : List V), us.length = np → mv.length = ms.length → ws.length = ks.length → (pick (us ++ (mv ++ ws)) ix).length = pn.length) :
    FnX pg w K mg base gd (k + 1) f ks (fun ds zs M P R => ds.length = np ∧ zs.length = ks.length ∧ T (pick (ds ++ (mds ++ zs)) ix) M P R) := by
  obtain ⟨oc, od, dV, kV, doc, pm, an, cdv, ct, osl, rfl, lk, hcd, hD, hK⟩ := F.ex
  obtain rfl : dV = .none := by
    rcases hD with ⟨_, e⟩ | ⟨e, _⟩
    · exact e
    · exact absurd rfl e
  obtain ⟨D, hkV, hq⟩ : ∃ D : Addr, (kws ≠ [] → kV = .ref D) ∧ ∀ q ∈ kws, ∃ u, PySem.W.nsIn K D q.1 = some (some u) ∧ RelV q.2 u := by
    rcases hK with e | ⟨D, e, hq⟩
    · exact ⟨0, fun z => absurd e z, fun q hq => by rw [e] at hq; cases hq⟩
    · exact ⟨D, fun _ => e, hq⟩
  obtain ⟨mv, hml, rmv, hmk⟩ := kwd_vals (ms := ms) fun q hm => hq q (hms q hm)
  refine ⟨fun A outer s H F0 M ds zs P R us ws vs xs Q E hg hr e0 rv rx hw o rd rz t kt kx => ?_⟩
  obtain ⟨hd0, hzl, t⟩ := t
  have l1 : us.length = np := by rw [← rv.length, rd.length]; exact hd0
  have lm : mv.length = ms.length := hml
  have vl : (pick (vs ++ (ms.map (·.2) ++ xs)) ix).length = pn.length := hix _ _ _ (by rw [rv.length]; exact l1) (by rw [List.length_map]) (by rw [rx.length]; exact hw)
  have vr : Vals (pick (vs ++ (ms.map (·.2) ++ xs)) ix) (pick (us ++ (mv ++ ws)) ix) := pick_vals (rv.append (rmv.append rx)) ix
  refine run_bnd (CX := L2.CX pg w) (E := E) lk hcd S hr e0 (G := fun ys H2 => ys = pick (vs ++ (ms.map (·.2) ++ xs)) ix ∧ H2 = H) (fun A' Ex Q' hh => ?_) fun s2 H2 ys ⟨ey, eH⟩ hr' => ?_
  · refine KwChainE.run (K := K) (e0.mod.kin.keeps fun b o e => (e0.bs b o e).1) (fun t et => ?_) (fun q hq => hmk q hq) (h kV D doc pm an cdv ct us mv ws hkV l1 lm hw)
    subst et
    exact wpAny_pure (hh s H _ _ e0 Un.refl rfl (fun e s' z => z) vr vl ⟨rfl, rfl⟩)
  · subst ey eH
    exact body_runX B cdv ⟨_, _, _, _, lk, rfl⟩ hg hr' vl o (pick_rps (rd.append ((hmd _).append rz)) ix) t kt kx
end
end DX
namespace DX
open PySem PySem.Spec L2 PyProof.Rows StX
section
variable {X : Cx} {J : Gh} {e a b o : Expr} {es : List Expr} {kws : List Keyword} {ks : List Str} {ρ : DEnv} {M M1 M2 : Mem} {F F' H H' : Hp} {σ : L2.St} {K : PySem.W.Frag} {pos p apos : Pos} {x m f : Str} {P : D → Mem → Prop} {PA : List D → List D → Mem → Prop} {RR : Addr → List (Str × D) → DEnv → Mem → Prop}
theorem ev_a (h : AX X J (e :: es) ρ M fun ds M1 => KX X J kws ρ M1 fun zs M2 => zs.length = ks.length ∧ PA ds zs M2) (hall : (backToKw pos (keywordEach kws X.env)).all (·.1.isSome) = true := by rfl) (hks : (backToKw pos (keywordEach kws X.env)).filterMap (·.1) = ks := by rfl)
    (he : starEach (e :: es) X.env = (false, eval e X.env) :: starEach es X.env := by rfl) : EvA X J pos (e :: es) kws ks ρ M PA := by
  intro fv pins σ H F s Qa I st k
  refine PyProof.Rows.evalArgs_kw2 hall (thn ((pa_any (X := X) (es := e :: es)).run pos pins s σ H (fun vs H1 => ∃ F1 M1 ds, Same F F1 ∧ Ok X.K F1 M1 H1 ∧ Rps X.K F1 vs ds ∧ KX X J kws ρ M1 fun zs M2 => zs.length = ks.length ∧ PA ds zs M2) I
    (h.go st fun ds vs M1 F1 H1 q e1 o1 r1 => ⟨F1, M1, ds, e1, o1, r1, q⟩)) fun us s1 ⟨vs, H1, I1, r, F1, M1, ds, e1, o1, rd, q⟩ => ?_) he
  refine thn ((pk_any (X := X) (kws := kws)).run pos pins s1 σ H1 (fun xs H2 => ∃ F2 M2 zs, Same F1 F2 ∧ Ok X.K F2 M2 H2 ∧ Rps X.K F2 xs zs ∧ zs.length = ks.length ∧ PA ds zs M2) I1 (q.go (st.to e1 o1) fun zs xs M2 F2 H2 q2 e2 o2 r2 => ⟨F2, M2, zs, e2, o2, r2, q2.1, q2.2⟩)) fun ws s2 ⟨xs, H2, I2, rx, F2, M2, zs, e2, o2, rz, hl, t⟩ => ?_
  rw [hks]
  exact k us ws vs xs ds zs F2 M2 H2 s2 I2 (e1.trans e2) o2 r rx (rd.mono e2) rz hl t
theorem ev_0 (h : KX X J kws ρ M fun zs M2 => zs.length = ks.length ∧ PA [] zs M2) (hall : (backToKw pos (keywordEach kws X.env)).all (·.1.isSome) = true := by rfl) (hks : (backToKw pos (keywordEach kws X.env)).filterMap (·.1) = ks := by rfl) : EvA X J pos [] kws ks ρ M PA := by
  intro fv pins σ H F s Qa I st k
  refine PyProof.Rows.evalArgs_kw2_nil hall (thn ((pk_any (X := X) (kws := kws)).run pos pins s σ H (fun xs H2 => ∃ F2 M2 zs, Same F F2 ∧ Ok X.K F2 M2 H2 ∧ Rps X.K F2 xs zs ∧ zs.length = ks.length ∧ PA [] zs M2) I (h.go st fun zs xs M2 F2 H2 q2 e2 o2 r2 => ⟨F2, M2, zs, e2, o2, r2, q2.1, q2.2⟩)) fun ws s2 ⟨xs, H2, I2, rx, F2, M2, zs, e2, o2, rz, hl, t⟩ => ?_)
  rw [hks]
  exact k [] ws [] xs [] zs F2 M2 H2 s2 I2 e2 o2 .nil rx .nil rz hl t
end
end DX
namespace DX
open PySem PySem.Spec L2 PyProof.Rows StX
/-- what a context lets out, told where the names are known -/
def Rof (RR : Addr → List (Str × D) → DEnv → Mem → Prop) (ρ : DEnv) : RX := fun C gs M' => ∃ M2, Sub M2 M' ∧ RR C gs ρ M2
section
variable {X : Cx} {J : Gh} {e a b o : Expr} {es : List Expr} {kws : List Keyword} {ks : List Str} {ρ : DEnv} {M M1 M2 : Mem} {F F' H H' : Hp} {σ : L2.St} {K : PySem.W.Frag} {pos p apos : Pos} {x m f : Str} {P : D → Mem → Prop} {RR : Addr → List (Str × D) → DEnv → Mem → Prop}
theorem run_fnX {k : Nat} {gd : Bool} {g : Addr} {T : TrX} {pins : List (Addr × Obj)} {s : Shared} {Q : VK} {us ws : List Value} {vs xs : List V} {ds zs : List D} (G : FnX X.prog X.w X.K X.mg X.base gd k g ks T) (L : Lets X J RR) (hg : gd = true → X.A.guards = some []) (hr : Room k X.A)
    (I : L2.Inv X pins σ H s) (st : Sts X.K J F σ H ρ M) (r : Vals vs us) (rx : Vals xs ws) (hw : zs.length = ks.length) (rd : Rps X.K F vs ds) (rz : Rps X.K F xs zs) (t : T ds zs M P (Rof RR ρ)) (kt : Kt X.K F P Q) :
    wpAny (model X.prog X.w) X.A (call (.ref g) us (ks.zip ws)) (EP X pins σ Q) X.xe s := by
  obtain ⟨W, tk, hW⟩ := L.ex
  refine wpAny_call (codeAny_mono (G.go X.A X.stack s H F M ds zs P (Rof RR ρ) us ws vs xs Q (fun cls d H' => W cls d σ H') hg hr I.env0 r rx (by rw [← rx.length, rz.length]; exact hw) st.ok rd rz t kt (fun C gs M' F' H' cls d q e o x => ?_)) fun res s' end_ => ?_)
  · obtain ⟨M2, sb, q⟩ := q
    exact hW _ _ _ _ _ _ _ _ _ ⟨st.en.mono e, o.sub sb, J.mono _ _ e st.gh⟩ x q
  · match res, end_ with
    | .error _, end_ => exact tk _ _ (XE.of_call I (fun _ _ _ h => h) end_)
    | .ok (.ret _), end_ => exact I.after end_
    | .ok .next, end_ => exact end_.elim
    | .ok .brk, end_ => exact end_.elim
    | .ok .cont, end_ => exact end_.elim
theorem cwAny {Mo : Model} {A : Around} {E : Value → Shared → Prop} {s : Shared} {fv : Value} {first : List Value} {Q : Value → Shared → Prop} {Ph : Heap → Prop} {args : List (Bool × Sem Value)} {kw : List (Option Str × Sem Value)}
    (hk : ∀ h, Ph h → ∃ k, (k = Keeper.frame ∨ k = Keeper.machine ∨ k = Keeper.boundFrame) ∧ PySem.W.Looks Mo h (keeperOf fv) k)
    (h : wpAny Mo A (evalArgs fv true args kw) (fun a s1 => Ph s1.heap ∧ wpAny Mo A (call fv (first ++ a.pos) a.kw) Q E s1) E s) : wpAny Mo A (callWith pos fv first args kw) Q E s := by
  cases hst : (args.any (·.1) || kw.any (·.1.isNone)) with
  | false => exact PySem.W.callWith_of hst hk h
  | true => exact cwS hst hk h
/-- f(..) -/
theorem ex_callX {k : Nat} {gd : Bool} {g : Addr} {T : TrX} (G : FnX X.prog X.w X.K X.mg X.base gd k g ks T) (L : Lets X J RR) (hgd : gd = true → X.A.guards = some []) (hr : Room k X.A) (hm : X.mg x = some (.ref g)) (hk : PySem.W.keepIn X.K (.ref g) = true)
    (h : EvA X J pos es kws ks ρ M fun ds zs M1 => T ds zs M1 P (Rof RR ρ)) (hg : Gl X x := by rfl) (hdb : (x == ("__debug__" : Str)) = false := by decide) : EX X J (.Call (.Name x p) es kws pos) ρ M P := by
  refine ⟨fun pins s σ H Q I ⟨F, st, kt⟩ => ?_⟩
  refine wpAny_Call_Name_kw (ld_glob I hg hm ?_ hdb)
  refine cwAny (PySem.W.keeps_K hk) (h _ pins σ H F s _ I st fun us ws vs xs ds zs F2 M2 H2 s2 I2 e2 o2 r rx rd rz hl t => ⟨I2.kIn, ?_⟩)
  exact run_fnX G L hgd hr I2 (st.to e2 o2) r rx hl rd rz t (kt.to e2)
/-- what is made by C(..) -/
def TMkX (C : Addr) (T : TrX) (ds zs : List D) (M : Mem) (P : D → Mem → Prop) (R : RX) : Prop := ∀ a, M a = none → T (.adr a :: ds) zs (up M a (.ins C [])) (fun d M2 => d = .non ∧ ∃ gs M0, M0 a = none ∧ M2 = up M0 a (.ins C gs) ∧ P (.ins C gs) M0) R
end
end DX
namespace DX
open PySem PySem.Spec L2 PyProof.Rows StX
section
variable {prog : Program} {w : World} {A : Around} {E : Value → Shared → Prop} {s : Shared} {K : PySem.W.Frag} {x C L f : Addr} {h₀ : Heap} {m : Str → Option Value} {ox : Obj} {od : Option Obj} {b tb : Value}
end
def SpXR (K : PySem.W.Frag) (T : TrX) : Sp := fun vs H Q E => ∃ F M ds P R, Ok K F M H ∧ Rps K F vs ds ∧ T ds [] M P R ∧ Kt K F P Q ∧ Kx K F R E
theorem pass_no {X : Cx} : Passes (L2.CX X.prog X.w) X (fun _ _ _ => False) := fun pins σ H s e s' I c => takes_no e s' (XE.of_call (W := fun _ _ _ _ => False) I (fun _ _ _ h => h) c)
/-- who may be asked: the class, its names -/
def clsD (L : List (Addr × List Str)) : D → Option Addr
  | .ins C gs => if (C, gs.map (·.1)) ∈ L then some C else none
  | _ => none
section
variable {X : Cx} {J : Gh} {e a b o : Expr} {es : List Expr} {kws : List Keyword} {ks : List Str} {ρ : DEnv} {M M1 M2 : Mem} {F F' H H' : Hp} {σ : L2.St} {K : PySem.W.Frag} {pos p apos : Pos} {x m f : Str} {P : D → Mem → Prop} {RR : Addr → List (Str × D) → DEnv → Mem → Prop}
end
end DX
namespace DX
open PySem PySem.Spec L2 PyProof.Rows StX
section
variable {X : Cx} {J : Gh} {e a b o : Expr} {es : List Expr} {kws : List Keyword} {ks : List Str} {ρ : DEnv} {M M1 M2 : Mem} {F F' H H' : Hp} {σ : L2.St} {K : PySem.W.Frag} {pos p apos : Pos} {x m f : Str} {P : D → Mem → Prop} {RR : Addr → List (Str × D) → DEnv → Mem → Prop}
end
end DX
namespace DX
open PySem PySem.Spec L2 PyProof.Rows StX
open PySem.W PySem.Calls Builtin Builtin.ObjectAttr in
section
variable {prog : Program} {w : World} {A : Around} {E : Value → Shared → Prop} {R : Result → Shared → Prop} {hp : Heap} {g : Array GenState} {d : Drawn} {t : Nat} {os : OsState} {K : PySem.W.Frag} {name : Str} {tk : Tok} {v : Value} {x C dx : Addr} {fv : Array Value} {B : String} {bmB : List Value}
theorem taker_no (ha : PySem.W.findIn K (.ref C) name = some none) : PySem.W.takerIn K C name = some none := by
  unfold PySem.W.takerIn
  rw [ha]
  rfl
/-- the first field -/
theorem osaN (SF : StoreFacts B bmB "object.__setattr__" "object") (X : K.In hp) (hx : hp.get? x = some { cls := .ref C, data := .fields fv }) (ho : PySem.W.excOver K C bmB = true) (hh : PySem.W.hasDictIn K C = true) (ha : PySem.W.findIn K (.ref C) name = some none)
    (hq : ∀ h' tk' dx, (∀ b o, b ≠ x → hp.get? b = some o → h'.get? b = some o) → hp.objs.size ≤ dx → dx ≠ x → h'.get? x = some { cls := .ref C, dict := some dx, data := .fields fv } → h'.Ns1 dx (fun y => if y = name then some v else none) → R (.ok (.ret .none)) ⟨h', g, d, tk', os⟩) :
    codeAny (model prog w) A (.call (.builtin "object.__setattr__") ⟨[.ref x, .str name tk, v], []⟩) R ⟨hp, g, d, t, os⟩ := by
  have I : PySem.W.InstAt hp x { cls := .ref C, data := .fields fv } C none := ⟨hx, rfl, rfl, trivial⟩
  obtain ⟨cd, hcd, hd⟩ := PySem.W.any_some hh
  have far : x ≠ hp.objs.size := Nat.ne_of_lt (Heap.lt_size hx)
  have kcls : PySem.W.Looks (model prog w) hp (classData C) cd := PySem.W.looks_clsIn X hcd
  refine PySem.W.osa_openX (s := ⟨hp, g, d, t, os⟩) (r := none) SF X I ho (taker_no ha) fun b => ?_
  show wpAny _ _ (Builtin.ObjectAttr.storeInOwnDict (.ref x) (.ref C) (.str name tk) name v b) _ _ _
  obtain ⟨nm, bs, mro, ns, qn, hd0, sn, sb, ab, col, del⟩ := cd
  dsimp only at hd
  subst hd
  unfold Builtin.ObjectAttr.storeInOwnDict Builtin.ObjectAttr.ownDictForStores
  repeat (first | with_reducible refine PySem.HandSPX.store_in_new ?_ ?_ | with_reducible refine wpAny_loadPart_at hx ?_ | with_reducible refine kcls.at ?_ | wp_step)
  · exact ⟨_, #[], _, (Heap.get?_update_ne _ _ _ _ far.symm).trans (Heap.get?_push_at rfl rfl), rfl, fun e he => absurd he (by simp), fun _ => rfl⟩
  · intro h' tk' hn same
    have up : (hp.push { cls := .type "dict", data := .dict #[] }).get? x = some { cls := .ref C, data := .fields fv } := Heap.get?_push_of_some _ hx
    refine hq h' tk' hp.objs.size (fun b o hb e => ?_) (Nat.le_refl _) far.symm ?_ hn
    · exact (same.2 b (Nat.ne_of_lt (Heap.lt_size e))).trans ((Heap.get?_update_ne _ _ _ _ hb).trans (Heap.get?_push_of_some _ e))
    · exact (same.2 x far).trans (Heap.get?_update_self _ up rfl)
/-- a further field -/
theorem osaM {m0 : Str → Option Value} {nl : List Str} (SF : StoreFacts B bmB "object.__setattr__" "object") (X : K.In hp) (hx : hp.get? x = some { cls := .ref C, dict := some dx, data := .fields fv }) (hns : hp.Ns1 dx m0) (hw : Within m0 nl) (hz : nl.length ≤ 1000) (ho : PySem.W.excOver K C bmB = true) (hh : PySem.W.hasDictIn K C = true)
    (ha : PySem.W.findIn K (.ref C) name = some none) (hq : ∀ h' tk', (∀ b o, b ≠ dx → hp.get? b = some o → h'.get? b = some o) → h'.Ns1 dx (fun y => if y = name then some v else m0 y) → R (.ok (.ret .none)) ⟨h', g, d, tk', os⟩) :
    codeAny (model prog w) A (.call (.builtin "object.__setattr__") ⟨[.ref x, .str name tk, v], []⟩) R ⟨hp, g, d, t, os⟩ := by
  obtain ⟨oD, esD, epD, hoD, hdD, _⟩ := hns.count hw
  have I : PySem.W.InstAt hp x { cls := .ref C, dict := some dx, data := .fields fv } C (some oD) := ⟨hx, rfl, rfl, hoD⟩
  obtain ⟨cd, hcd, hd⟩ := PySem.W.any_some hh
  have kcls : PySem.W.Looks (model prog w) hp (classData C) cd := PySem.W.looks_clsIn X hcd
  refine PySem.W.osa_openX (s := ⟨hp, g, d, t, os⟩) (r := none) SF X I ho (taker_no ha) fun b => ?_
  show wpAny _ _ (Builtin.ObjectAttr.storeInOwnDict (.ref x) (.ref C) (.str name tk) name v b) _ _ _
  obtain ⟨nm, bs, mro, ns, qn, hd0, sn, sb, ab, col, del⟩ := cd
  dsimp only at hd
  subst hd
  unfold Builtin.ObjectAttr.storeInOwnDict Builtin.ObjectAttr.ownDictForStores
  repeat (first | with_reducible refine PySem.OEX.store_in_old hns hw hz ?_ | with_reducible refine wpAny_loadPart_at hx ?_ | with_reducible refine kcls.at ?_ | wp_step)
  intro h' tk' hn same
  exact hq h' tk' (fun b o hb e => (same.2 b hb).trans e) hn
end
end DX
namespace DX
open PySem PySem.Spec L2 PyProof.Rows StX
structure OexG (newId : String) (bmB : List Value) (K : PySem.W.Frag) (C : Addr) : Prop where
  cls : ∃ nm q N bs bm sn sub ab col dd k0 k1 k2 k3 k5, K.lookup C = some (excClassObj nm q C N bs bm true sn sub ab col dd k0 k1 k2 k3 k5 newId) ∧ PySem.W.excTail bmB bm = true
  sa : PySem.W.findIn K (.ref C) "__setattr__" = some (some (.builtin "object.__setattr__"))
  exC : PySem.W.subIn K (.ref C) (.type "BaseException") = some true
  tyC : PySem.W.typeIn K (.ref C) = some (.type "type")
  kC : PySem.W.keepIn K (.ref C) = true
  ov : PySem.W.excOver K C bmB = true
  hd : PySem.W.hasDictIn K C = true
/-- a built-in error class over which own ones stand -/
structure Bas (newId : String) (bmB : List Value) : Prop where
  ex : ∃ B initId, ExcBaseFacts B newId initId bmB ∧ StoreFacts B bmB "object.__setattr__" "object"
theorem basV : Bas "ValueError.__new__" mroV := ⟨_, _, F.excBase_ValueError, F.store_ValueError⟩
theorem basL : Bas "LookupError.__new__" mroL := ⟨_, _, F.excBase_LookupError, F.store_LookupError⟩
theorem basO : Bas "OverflowError.__new__" mroO := ⟨_, _, F.excBase_OverflowError, F.store_OverflowError⟩
section
variable {X : Cx} {pins : List (Addr × Obj)} {σ : L2.St} {H : Hp} {s : Shared} {a C dx : Addr} {f : Str} {y : V} {u : Value} {fs : List (Str × V)} {Q : Unit → Shared → Prop} {E : Value → Shared → Prop} {A : Around} {newId : String} {bmB : List Value}
theorem ostN (T : OexG newId bmB X.K C) (B : Bas newId bmB) (I : L2.Inv X pins σ H s) (e : H a = some (exo a C none)) (hno : PySem.W.findIn X.K (.ref C) f = some none) (ry : RelV y u)
    (h : ∀ dx s', H dx = none → dx ≠ a → L2.Inv X pins σ (upd (upd H dx (exd dx [(f, y)])) a (exo a C (some dx))) s' → Q () s') : wpAny (model X.prog X.w) A (setAttr (.ref a) f u) Q E s := by
  obtain ⟨_, _, _, SF⟩ := B.ex
  obtain ⟨tp, at_⟩ := exo_at I.hok e
  obtain ⟨hp, g, d, t, os⟩ := s
  refine PySem.W.set_plain I.kIn (od := none) ⟨at_, rfl, rfl, trivial⟩ T.sa ?_
  refine osaN SF I.kIn at_ T.ov T.hd hno fun h' tk' dx keep new ne now dict => ?_
  have nD : H dx = none := I.hok.fresh new
  have old : ∀ {b : Addr} {o : Obj}, hp.get? b = some o → b ≠ dx := fun z => Nat.ne_of_lt (Nat.lt_of_lt_of_le (Heap.lt_size z) new)
  have away : ∀ {b : Addr}, H b = none → b ≠ a := fun n z => by rw [z, e] at n; cases n
  have un : Un X.fs [] H (upd (upd H dx (exd dx [(f, y)])) a (exo a C (some dx))) hp h' := by
    refine ⟨fun b o z n _ _ => keep b o (away n) z, fun b o z n _ _ => ⟨o.slots, keep b o (away n) z⟩, fun b o z n _ => ?_, fun b o z _ => ?_, fun b xs z => ?_, fun b o v z => ?_, fun b ps z => ⟨#[], ?_⟩⟩
    · rw [upd_ne (away n), upd_ne (old z)]; exact n
    · rcases Decidable.em (b = a) with rfl | q
      · exact ⟨_, now⟩
      · exact ⟨o, keep b o q z⟩
    · rw [upd_ne (at_ne e z exo_tup), upd_ne (ne_of_none z nD)]; exact z
    · rw [upd_ne (at_ne e z exo_frz), upd_ne (ne_of_none z nD)]; exact z
    · rw [upd_ne (at_ne e z exo_tbl), upd_ne (ne_of_none z nD), z]; simp
  refine h dx _ nD ne (I.un (t' := tk') un fun b o z => ?_)
  rcases Decidable.em (b = a) with rfl | hb
  · rw [upd_same] at z; cases z
    exact exo_ok now
  · rw [upd_ne hb] at z
    rcases Decidable.em (b = dx) with rfl | hd
    · rw [upd_same] at z; cases z
      exact exd_ok dict (relO_put (fs := []) ry fun g => True.intro)
    · rw [upd_ne hd] at z
      refine (I.hok b o z).stay (fun c v hc q => keep c v ?_ q) (fun c hc => by rw [upd_ne (at_ne e hc exo_own), upd_ne (ne_of_none hc nD)]; exact hc) fun c xs hc => by rw [upd_ne (at_ne e hc exo_tup), upd_ne (ne_of_none hc nD)]; exact hc
      rcases hc with rfl | hc
      · exact hb
      · exact at_ne e hc exo_own
theorem ostM (T : OexG newId bmB X.K C) (B : Bas newId bmB) (I : L2.Inv X pins σ H s) (e : H a = some (exo a C (some dx))) (ed : H dx = some (exd dx fs)) (hl : fs.length ≤ 900) (hno : PySem.W.findIn X.K (.ref C) f = some none) (ry : RelV y u)
    (h : ∀ s', L2.Inv X pins σ (upd H dx (exd dx ((f, y) :: fs))) s' → Q () s') : wpAny (model X.prog X.w) A (setAttr (.ref a) f u) Q E s := by
  obtain ⟨_, _, _, SF⟩ := B.ex
  obtain ⟨tp, at_⟩ := exo_at I.hok e
  obtain ⟨mA, hns, rel⟩ := exd_at I.hok ed
  have wi := within_of rel
  obtain ⟨hp, g, d, t, os⟩ := s
  obtain ⟨oD, _, _, hoD, _, _⟩ := hns.count wi
  refine PySem.W.set_plain I.kIn (od := some oD) ⟨at_, rfl, rfl, hoD⟩ T.sa ?_
  refine osaM SF I.kIn at_ hns wi (by rw [List.length_map]; omega) T.ov T.hd hno fun h' tk' keep dict => ?_
  have there : ∃ o, h'.get? dx = some o := dict.imp fun o z => by
    obtain ⟨_, _, z, _⟩ := z
    exact z
  exact h _ (I.write (t' := tk') (x := dx) (e := dx) (o := exd dx ((f, y) :: fs)) (by rw [ed]; exact True.intro) (.inl rfl) keep there (exd_ok dict (relO_put ry rel)))
end
/-- self.f = e, self an error that is being made -/
def tOstG (newId : String) (bmB : List Value) (K : PySem.W.Frag) (f : Str) (to te : TE) : TS := fun D σ H => te σ H fun y H1 => to σ H1 fun x H2 => ∃ a C : Addr, x = .ref a ∧ OexG newId bmB K C ∧ Bas newId bmB ∧ PySem.W.findIn K (.ref C) f = some none ∧
  ((H2 a = some (exo a C none) ∧ ∀ dx, H2 dx = none → dx ≠ a → D.nx σ (upd (upd H2 dx (exd dx [(f, y)])) a (exo a C (some dx)))) ∨
    ∃ (dx : Addr) (fs : List (Str × V)), H2 a = some (exo a C (some dx)) ∧ H2 dx = some (exd dx fs) ∧ fs.length ≤ 900 ∧ D.nx σ (upd H2 dx (exd dx ((f, y) :: fs))))
section
variable {X : Cx} {o e : Expr} {es : List Expr} {to te : TE} {ta : TA} {f : Str} {p p' p1 p2 pos : Pos} {newId : String} {bmB : List Value}
theorem ps_ostG (ho : PE X o to) (he : PE X e te) (hs : swapsWith e (some (.Attribute o f p')) pos.line X.env = pure false := by rfl) : PS X (.Assign [.Attribute o f p'] e pos) (tOstG newId bmB X.K f to te) := by
  refine ⟨fun pins s σ H D I h => ?_⟩
  refine plainObj_wpAny_Assign_Attribute (thn (he.run pins s σ H _ I h) fun v s1 ⟨y, H1, I1, ry, q1⟩ => thn (ho.run pins s1 σ H1 _ I1 q1) fun u s2 ⟨x, H2, I2, rx, a, C, ex, T, B, hno, q⟩ => ?_) hs
  subst ex
  obtain rfl : u = Value.ref a := rx
  rcases q with ⟨ea, q⟩ | ⟨dx, fs, ea, ed, hl, q⟩
  · exact ostN T B I2 ea hno ry fun dx s' n ne J => ⟨σ, _, J, q dx n ne⟩
  · exact ostM T B I2 ea ed hl hno ry fun s' J => ⟨σ, _, J, q⟩
end
end DX
namespace DX
open PySem PySem.Spec L2 PyProof.Rows StX
def spI1 (C : Addr) (f : Str) : Sp := fun vs H Q _ => ∃ a y, vs = [.ref a, y] ∧ H a = some (exo a C none) ∧ ∀ dx, H dx = none → dx ≠ a → Q .non (upd (upd H dx (exd dx [(f, y)])) a (exo a C (some dx)))
def spI2 (C : Addr) (f1 f2 : Str) : Sp := fun vs H Q _ => ∃ a y z, vs = [.ref a, y, z] ∧ H a = some (exo a C none) ∧ ∀ dx, H dx = none → dx ≠ a → Q .non (upd (upd (upd H dx (exd dx [(f1, y)])) a (exo a C (some dx))) dx (exd dx [(f2, z), (f1, y)]))
section
variable {P : Program} {w : World} {K : PySem.W.Frag} {mg : Str → Option Value} {base : Heap} {x qual : Str} {params : Arguments} {body : List Stmt} {scope : Scope} {g C : Addr} {fd : FuncData} {newId : String} {bmB : List Value} {CX : CXT} {sf v1 v2 f1 f2 : Str}
theorem vis_of {N ps : List Str} (S : FnScope N ps scope) {n : Str} (h : n ∈ ps) : Vis scope n := (S.par n h).elim (fun z => .inl z) fun z => .inr (.inl z)
theorem init1 (F : FunD K x qual params body scope [] [] g fd) (S : FnScope [sf, v1] [sf, v1] scope) (hb : ∃ p1 p2 p3 p4, body = [.Assign [.Attribute (.Name sf p1) f1 p2] (.Name v1 p3) p4]) (T : OexG newId bmB K C) (B : Bas newId bmB) (hno : PySem.W.findIn K (.ref C) f1 = some none)
    (n1 : (sf == ("__debug__" : Str)) = false := by decide) (n2 : (v1 == ("__debug__" : Str)) = false := by decide) (n3 : (sf == ("__classdict__" : Str)) = false := by decide) (n4 : (v1 == ("__classdict__" : Str)) = false := by decide) :
    FnOk P w K mg base CX 1 g fd [sf, v1] (spI1 C f1) := by
  obtain ⟨p1, p2, p3, p4, rfl⟩ := hb
  refine F.ok S (fun vs H Q E h => ?_) fun cdv A outer s H vs Q E hr h => ?_
  · obtain ⟨a, y, rfl, _⟩ := h; rfl
  · obtain ⟨a, y, rfl, ha, q⟩ := h
    refine ⟨_, pss_one (ps_ostG (newId := newId) (bmB := bmB) (pe_var (i := 0) rfl (vis_of S (by simp)) n1 n3) (pe_var (i := 1) rfl (vis_of S (by simp)) n2 n4)), ?_⟩
    exact ⟨y, rfl, .ref a, rfl, a, C, rfl, T, B, hno, .inl ⟨ha, q⟩⟩
theorem init2 (F : FunD K x qual params body scope [] [] g fd) (S : FnScope [sf, v1, v2] [sf, v1, v2] scope) (hb : ∃ p1 p2 p3 p4 p5 p6 p7 p8, body = [.Assign [.Attribute (.Name sf p1) f1 p2] (.Name v1 p3) p4, .Assign [.Attribute (.Name sf p5) f2 p6] (.Name v2 p7) p8]) (T : OexG newId bmB K C) (B : Bas newId bmB) (hno : PySem.W.findIn K (.ref C) f1 = some none) (hno2 : PySem.W.findIn K (.ref C) f2 = some none)
    (n1 : (sf == ("__debug__" : Str)) = false := by decide) (n2 : (v1 == ("__debug__" : Str)) = false := by decide) (n3 : (sf == ("__classdict__" : Str)) = false := by decide) (n4 : (v1 == ("__classdict__" : Str)) = false := by decide) (n5 : (v2 == ("__debug__" : Str)) = false := by decide) (n6 : (v2 == ("__classdict__" : Str)) = false := by decide) :
    FnOk P w K mg base CX 1 g fd [sf, v1, v2] (spI2 C f1 f2) := by
  obtain ⟨p1, p2, p3, p4, p5, p6, p7, p8, rfl⟩ := hb
  refine F.ok S (fun vs H Q E h => ?_) fun cdv A outer s H vs Q E hr h => ?_
  · obtain ⟨a, y, z, rfl, _⟩ := h; rfl
  · obtain ⟨a, y, z, rfl, ha, q⟩ := h
    refine ⟨_, pss_cons (ps_ostG (newId := newId) (bmB := bmB) (pe_var (i := 0) rfl (vis_of S (by simp)) n1 n3) (pe_var (i := 1) rfl (vis_of S (by simp)) n2 n4)) (pss_one (ps_ostG (newId := newId) (bmB := bmB) (pe_var (i := 0) rfl (vis_of S (by simp)) n1 n3) (pe_var (i := 2) rfl (vis_of S (by simp)) n5 n6))), ?_⟩
    refine ⟨y, rfl, .ref a, rfl, a, C, rfl, T, B, hno, .inl ⟨ha, fun dx hd ne => ?_⟩⟩
    exact ⟨z, rfl, .ref a, rfl, a, C, rfl, T, B, hno2, .inr ⟨dx, [(f1, y)], upd_same, by rw [upd_ne ne, upd_same], by simp, q dx hd ne⟩⟩
end
section
variable {X : Cx} {J : Gh} {e a b o : Expr} {es : List Expr} {ρ : DEnv} {M M1 M2 : Mem} {F F' H H' : Hp} {σ : L2.St} {K : PySem.W.Frag} {pos p rpos : Pos} {x f f1 f2 : Str} {B : Bd} {RR : Addr → List (Str × D) → DEnv → Mem → Prop} {newId : String} {bmB : List Value} {C g : Addr} {fd : FuncData} {ps : List Str}
theorem backG {H1 : Hp} {q dx : Addr} {u u2 u3 : HO} {fs : List (Str × V)} (hn : H1 q = none) : upd (del (upd (upd (upd H1 q u) dx u2) q u3) q) dx (.xd fs) = upd H1 dx (.xd fs) := by
  funext b
  by_cases h1 : b = dx
  · subst h1; rw [upd_same, upd_same]
  · rw [upd_ne h1, upd_ne h1]
    by_cases h2 : b = q
    · subst h2; rw [del_same, hn]
    · rw [del_ne h2, upd_ne h2, upd_ne h1, upd_ne h2]
theorem backH {H1 : Hp} {q dx : Addr} {u u2 u3 u4 : HO} {fs : List (Str × V)} (hn : H1 q = none) : upd (del (upd (upd (upd (upd H1 q u) dx u2) q u3) dx u4) q) dx (.xd fs) = upd H1 dx (.xd fs) := by
  funext b
  by_cases h1 : b = dx
  · subst h1; rw [upd_same, upd_same]
  · rw [upd_ne h1, upd_ne h1]
    by_cases h2 : b = q
    · subst h2; rw [del_same, hn]
    · rw [del_ne h2, upd_ne h1, upd_ne h2, upd_ne h1, upd_ne h2]
end
end DX
namespace DX
open PySem PySem.Spec L2 PyProof.Rows StX
section
variable {prog : Program} {w : World} {A : Around} {E : Value → Shared → Prop} {s : Shared} {K : PySem.W.Frag} {x C : Addr} {ox : Obj} {od : Option Obj}
open PySem.W PySem.Calls Builtin in
theorem classE {Q : Option Value → Shared → Prop} (T : ExcC K C) (X : K.In s.heap) (I : PySem.W.InstAt s.heap x ox C od) (h : Q (some (.ref C)) { s with toks := s.toks + 1 }) : wpAny (model prog w) A (getAttr? (.ref x) "__class__") Q E s := by
  have hc : (PySem.W.clsIn K C).isSome = true := by
    obtain ⟨cd, z, _⟩ := PySem.W.any_some T.hd
    rw [z]; rfl
  have hf : PySem.W.findObj K C od "__class__" = some (.bind (.builtin "getset_descriptor.__get__") (.builtin "object.__class__")) := by
    cases od with
    | none => exact PySem.W.findObj_dataN hc T.ha T.hn T.ht
    | some o => exact PySem.W.findObj_data hc T.ha T.hn T.ht
  obtain ⟨hp, g, d, t, os⟩ := s
  have K0 := I.type (M := model prog w)
  have K1 := PySem.W.looks_findIn (M := model prog w) X T.hg
  have K2 := PySem.W.looks_findIn (M := model prog w) X T.hk
  have K3 := PySem.W.looks_find (M := model prog w) X I hf
  have isE : PySem.W.Looks (model prog w) hp (isInstance (.ref x) (.type "BaseException")) true := K0.andThen (PySem.W.looks_subIn X T.hs)
  have n0 : (false && onTheHeap (Value.builtin "BaseException.__getattribute__")) = false := rfl
  have n2 : (Value.builtin "BaseException.__getattribute__" == Value.builtin "object.__getattribute__") = false := by decide +kernel
  have n1 : (onTheHeap (Value.ref C) && Value.builtin "BaseException.__getattribute__" == Value.builtin "object.__getattribute__") = false := by rw [n2]; rfl
  unfold getAttr? getAttrBy? getAttrBy
  refine wpAny_bind (wpAny_mkText (wpAny_bind (wpAny_attempt (wpAny_holding (wpAny_bind (K0.at (wpAny_bind (K1.at ?_))))))))
  show wpAny _ _ (if (onTheHeap (Value.ref C) && Value.builtin "BaseException.__getattribute__" == Value.builtin "object.__getattribute__") = true then _ else _) _ _ _
  rw [n1, if_neg Bool.false_ne_true]
  unfold getAttrByItsOwn hookBefore
  refine wpAny_bind ?_
  rw [if_pos (show onTheHeap (Value.ref C) = true from rfl)]
  refine K2.at ?_
  refine wpAny_bind (wpAny_attempt (wpAny_holding ?_))
  unfold callGetattribute
  rw [n0, if_neg Bool.false_ne_true]
  unfold boundAndCalled
  rw [PySem.F.excAttr_ValueError.ga.bind (.ref x)]
  refine wpAny_bind (wpAny_pure ?_)
  show wpAny _ _ (call (.builtin "BaseException.__getattribute__") [.ref x, .str "__class__" t]) _ _ _
  refine wpAny_call (codeAny_call_builtin PySem.F.excAttr_ValueError.ga.plain PySem.F.entry_bexc_ga ?_)
  refine @PySem.W.check_slot (model prog w) _ _ ⟨hp, g, d, t + 1, os⟩ "BaseException.__getattribute__" "BaseException" "__getattribute__" (.ref x) [.str "__class__" t] [] _ (by decide +kernel) (by decide +kernel) isE (PySem.F.args_bexc_ga (.ref x) (.str "__class__" t)) ?_
  unfold Builtin.«object.__getattribute__»
  refine wpAny_bind (wpAny_of_eq (a := ((Value.ref x : Value), [Value.str "__class__" t])) (by first | rfl | (simp only [Builtin.slotArgs]; rfl)) ?_)
  refine wpAny_bind (wpAny_pure (wpAny_bind (K0.at (wpAny_bind (K3.at ?_)))))
  show wpAny _ _ (holding [Value.builtin "object.__class__"] (call (.builtin "getset_descriptor.__get__") [.builtin "object.__class__", .ref x, .ref C]) >>= ret) _ _ _
  refine wpAny_bind (wpAny_holding (wpAny_call (PySem.W.class_get (s := ⟨hp, g, d, t + 1, os⟩) (ox := ox) (od := od) X I T.hm ?_)))
  refine wpAny_pure ?_
  show wpAny _ _ (handedOut (.ref C)) _ _ _
  rw [PySem.W.handedOut_of (v := .ref C) rfl]
  first
    | exact wpAny_pure (wpAny_pure h)
    | exact wpAny_pure h
    | exact wpAny_pure (wpAny_bind (wpAny_pure (wpAny_pure h)))
theorem kitE (T : ExcC K C) : PySem.W.KitX K (.ref x) (.ref C) (fun h => ∃ ox od, PySem.W.InstAt h x ox C od) where
  ty := fun _ _ _ ⟨_, _, I⟩ => I.type
  it := fun _ _ X _ => by
    obtain ⟨cdD, hcD, _⟩ := PySem.W.any_some T.hd
    unfold PySem.W.clsIn at hcD
    split at hcD
    · rename_i c' d' cd' sl' ho
      intro A' Q' E' s' k q
      unfold isType loadHead
      exact wpAny_bind (wpAny_loadPart (k _ _ (X _ _ ho)) (wpAny_pure q))
    · cases hcD
  ne := fun h tp dd its n sl X htp => by
    obtain ⟨cdD, hcD, _⟩ := PySem.W.any_some T.hd
    unfold PySem.W.clsIn at hcD
    split at hcD
    · rename_i c' d' cd' sl' ho
      refine Bool.eq_false_iff.mpr fun q => ?_
      obtain rfl : C = tp := Value.ref.inj (beq_iff_eq.mp q)
      have z := (X _ _ ho).symm.trans htp
      cases z
    · cases hcD
  ca := fun X ⟨_, _, I⟩ k => classE T X I k
end
section
variable {X : Cx} {J : Gh} {e a b o : Expr} {es : List Expr} {ρ : DEnv} {M M1 M2 : Mem} {F F' H H' : Hp} {σ : L2.St} {K : PySem.W.Frag} {pos p rpos : Pos} {x f : Str} {P : D → Mem → Prop} {C : Addr}
/-- the object of a caught error -/
theorem exn_inst {gs : List (Str × D)} {v : V} {pins : List (Addr × Obj)} {s : Shared} (I : L2.Inv X pins σ H s) (o : Ok X.K F M H) (r : Rp X.K F v (.exn C gs)) :
    ∃ q ox od fs, v = .ref q ∧ PySem.W.InstAt s.heap q ox C od ∧ Rfs X.K F fs gs ∧ ∀ n y, fs.lookup n = some y → ∃ u o', od = some o' ∧ RelV y u ∧ PySem.W.lookIn n o' = some (some u) := by
  cases r with
  | exn h1 c r1 =>
    rename_i q dd fs
    have h2 := o.ex _ _ h1
    obtain ⟨⟨oe, vs, g1, g2, g3, g4⟩, _, _⟩ := (show ObjOk X.prog X.w H s.heap q (exH q C dd) from I.hok q _ h2)
    have nc : PySem.W.notCls oe = true := by unfold PySem.W.notCls; rw [g4]
    rcases c with ⟨rfl, rfl⟩ | ⟨d1, rfl, hd⟩
    · exact ⟨q, oe, none, [], rfl, ⟨g1, g2, nc, by rw [g3]; trivial⟩, r1, fun n y z => by cases z⟩
    · obtain ⟨mA, hns, hr⟩ := (show ObjOk X.prog X.w H s.heap d1 (.xd fs) from I.hok d1 _ (o.ex _ _ hd))
      obtain ⟨od, ho, hl⟩ := lookIn_ns hns
      refine ⟨q, oe, some od, fs, rfl, ⟨g1, g2, nc, by rw [g3]; exact ho⟩, r1, fun n y z => ?_⟩
      obtain ⟨u, hu, ru⟩ := RelO.some_of (v := y) (o := mA n) (by rw [← z]; exact hr n)
      exact ⟨u, od, rfl, ru, by rw [hl, hu]⟩
/-- what a caught error is: of the classes subs, by the classes L that may come -/
def isiE (L subs : List Addr) : D → Option Bool
  | .exn C _ => if C ∈ L then some (decide (C ∈ subs)) else none
  | d => if plain d = true then some false else none
theorem isiE_inv {L subs : List Addr} {d : D} {t : Bool} (h : isiE L subs d = some t) : (∃ C gs, d = .exn C gs ∧ C ∈ L ∧ t = decide (C ∈ subs)) ∨ (plain d = true ∧ t = false) := by
  have pl : ∀ {d : D}, (if plain d = true then some false else none) = some t → plain d = true ∧ t = false := by
    intro d h
    split at h
    · rename_i q; cases h; exact ⟨q, rfl⟩
    · cases h
  cases d with
  | exn C gs =>
    have h : (if C ∈ L then some (decide (C ∈ subs)) else none) = some t := h
    split at h
    · rename_i q; cases h; exact .inl ⟨C, gs, rfl, q, rfl⟩
    · cases h
  | _ => exact .inr (pl h)
/-- isinstance(o, c) -/
theorem cd_isiE {d : D} {cd : D} {cv : Value} {L subs : List Addr} {t : Bool} (hT : ∀ C ∈ L, ExcC X.K C) (hk : ∀ C ∈ L, PySem.W.kitOne X.K (.ref C) cv = some (decide (C ∈ subs))) (hp : ∀ n ∈ ["NoneType", "bool", "int", "str", "tuple", "list", "dict"], PySem.W.kitOne X.K (.type n) cv = some false)
    (hc : ∀ F v, Rp X.K F v cd → ClsV v cv) (h : isiE L subs d = some t) (q : P (.bl t) M) : CD X (.builtin "isinstance") [d, cd] M P :=
  ⟨fun vs H Q => ∃ F, Ok X.K F M H ∧ Rps X.K F vs [d, cd] ∧ Kt X.K F P Q, fun pins s σ H xs us Q I r ⟨F, o, rd, kt⟩ => (by
    cases rd with
    | cons rd rn =>
      cases rn with
      | cons rc rn =>
        cases rn
        obtain ⟨u1, u2, rfl, r1, r2⟩ := vals2 r
        have cl := hc _ _ rc
        have e2 : u2 = cv := cl.eq r2
        subst e2
        rcases isiE_inv h with ⟨C, gs, rfl, hC, rfl⟩ | ⟨hpl, rfl⟩
        · obtain ⟨q1, ox, od, fs, rfl, J0, _, _⟩ := exn_inst I o rd
          obtain rfl : u1 = Value.ref q1 := r1
          exact PySem.W.kia_one (kitE (hT C hC)) I.kIn ⟨ox, od, J0⟩ (hk C hC) (fun z => nomatch z) fun tk => ⟨.bl _, H, I.tok tk, rfl, kt.here q o (.bl _)⟩
        · obtain ⟨Pk, kx, hp1, hx⟩ := kit_of I r1 (ty_of hpl o.ex rd)
          exact PySem.W.kia_one kx I.kIn hp1 (hp _ (kn_mem _)) hx fun tk => ⟨.bl _, H, I.tok tk, rfl, kt.here q o (.bl _)⟩), fun F H vs Q o r kt => ⟨F, o, r, kt⟩⟩
/-- isinstance(o, (c, ..)) -/
theorem cd_isiET {d : D} {cds : List D} {cvs : List Value} {L subs : List Addr} {t : Bool} (hT : ∀ C ∈ L, ExcC X.K C) (hk : ∀ C ∈ L, PySem.W.kitAny X.K (.ref C) cvs = some (decide (C ∈ subs))) (hp : ∀ n ∈ ["NoneType", "bool", "int", "str", "tuple", "list", "dict"], PySem.W.kitAny X.K (.type n) cvs = some false)
    (hc : ∀ F vs, Rps X.K F vs cds → Paired ClsV vs cvs) (h : isiE L subs d = some t) (q : P (.bl t) M) : CD X (.builtin "isinstance") [d, .tup cds] M P :=
  ⟨fun vs H Q => ∃ F, Ok X.K F M H ∧ Rps X.K F vs [d, .tup cds] ∧ Kt X.K F P Q, fun pins s σ H xs us Q I r ⟨F, o, rd, kt⟩ => (by
    cases rd with
    | cons rd rn =>
      cases rn with
      | cons rc rn =>
        cases rn
        cases rc with
        | tup hq rcs =>
          obtain ⟨u1, u2, rfl, r1, r2⟩ := vals2 r
          obtain rfl : u2 = Value.ref _ := r2
          obtain ⟨its, rv, ⟨ob, g1, g2, n, g3⟩, _⟩ := I.tuple (same_t o.ex hq)
          have e2 : its = cvs := ClsV.all (hc _ _ rcs) rv
          subst e2
          obtain ⟨oc, od0, dt, sl⟩ := ob
          dsimp only at g2 g3
          subst g2 g3
          rcases isiE_inv h with ⟨C, gs, rfl, hC, rfl⟩ | ⟨hpl, rfl⟩
          · obtain ⟨q1, ox, od, fs, rfl, J0, _, _⟩ := exn_inst I o rd
            obtain rfl : u1 = Value.ref q1 := r1
            exact PySem.W.kia_tup (kitE (hT C hC)) I.kIn ⟨ox, od, J0⟩ g1 (hk C hC) (fun z => nomatch z) fun tk => ⟨.bl _, H, I.tok tk, rfl, kt.here q o (.bl _)⟩
          · obtain ⟨Pk, kx, hp1, hx⟩ := kit_of I r1 (ty_of hpl o.ex rd)
            exact PySem.W.kia_tup kx I.kIn hp1 g1 (hp _ (kn_mem _)) hx fun tk => ⟨.bl _, H, I.tok tk, rfl, kt.here q o (.bl _)⟩), fun F H vs Q o r kt => ⟨F, o, r, kt⟩⟩
end
end DX
namespace DX
open PySem PySem.Spec L2 PyProof.Rows StX
/-- what an except clause asks: of which classes -/
def ExT (X : Cx) (t : Expr) (cs : List Value) : Prop := ∀ (a : Addr) (pins : List (Addr × Obj)) (σ : L2.St) (H : Hp) (s : Shared) (e : Addr) (cls : Value) (b : Bool) (Q : Bool → Shared → Prop) (E : Value → Shared → Prop),
  L2.Inv { X with A := X.A.mark (some (.ref a)), calm := false, xe := fun _ _ => False } pins σ H s → PySem.W.Looks (model X.prog X.w) s.heap (typeOf (.ref e)) cls → PySem.W.exmAny X.K cls cs = some b →
  (∀ h', (∀ q o, s.heap.get? q = some o → h'.get? q = some o) → Q b { s with heap := h' }) →
  wpAny (model X.prog X.w) (X.A.mark (some (.ref a))) (eval t X.env) (fun c s1 => wpAny (model X.prog X.w) (X.A.mark (some (.ref a))) (excMatches (.ref e) c) Q E s1) E s
section
variable {X : Cx} {x1 x2 x3 : Str} {C1 C2 C3 : Addr} {p1 p2 p3 tpos : Pos} {kk : Nat}
end
/-- the suite's context: the error stands as a thing of ours -/
abbrev sui (X : Cx) (a : Addr) : Cx := { X with A := X.A.mark (some (.ref a)), calm := false, xe := fun _ _ => False }
section
variable {X : Cx} {J : Gh} {ρ : DEnv} {M : Mem} {F H : Hp} {σ : L2.St} {s : Shared} {pins : List (Addr × Obj)} {B : Bd} {RR : Addr → List (Str × D) → DEnv → Mem → Prop} {a C : Addr} {d : Option Addr}
theorem exH_ok {P : Program} {w : World} {H' : Hp} {h : Heap} {oe : Obj} {vs : Array Value} (e : h.get? a = some oe) (hc : oe.cls = .ref C) (hd : oe.dict = d) (hv : oe.data = .fields vs) : ObjOk P w H' h a (exH a C d) :=
  ⟨⟨oe, vs, e, hc, hd, hv⟩, ⟨_, e⟩, fun h1 h2 ⟨oe, vs, e, z⟩ k => ⟨oe, vs, k _ e, z⟩⟩
/-- an object that was not there at the beginning becomes one of ours -/
theorem adopt {oe : Obj} {vs : Array Value} (I : L2.Inv X pins σ H s) (e : s.heap.get? a = some oe) (hc : oe.cls = .ref C) (hd : oe.dict = d) (hv : oe.data = .fields vs) (na : H a = none) (n0 : X.s_0.heap.get? a = none) (nL : a ≠ X.env.locals) (np : ∀ p ∈ X.pn ++ pins, p.1 ≠ a) :
    L2.Inv X pins σ (upd H a (exH a C d)) s := by
  refine ⟨I.ok, I.os, I.bare, ⟨fun b o z n hf hx => I.base.keep b o z n hf hx, fun b o z n hf hx => I.base.slot b o z n hf hx, fun b o z n hx => ?_, fun b o z hx => I.base.there b o z hx, fun b xs z => ?_, fun b o u z => ?_, fun b ps z => ?_⟩, I.loc, I.cell, ?_, fun y c z => ?_, fun p hp => ?_, fun b o z => ?_, I.len⟩
  · have : b ≠ a := fun q => by rw [q, n0] at z; cases z
    rw [upd_ne this]; exact I.base.free b o z n hx
  · have := I.base.tups b xs z
    rw [upd_ne (ne_of_none this na)]; exact this
  · have := I.base.frzs b o u z
    rw [upd_ne (ne_of_none this na)]; exact this
  · obtain ⟨more, q⟩ := I.base.tbls b ps z
    exact ⟨more, by rw [upd_ne (ne_of_none q na)]; exact q⟩
  · rw [upd_ne (Ne.symm nL)]; exact I.free
  · obtain ⟨v, oc, ho, hcl⟩ := I.cell y c z
    have : c ≠ a := fun q => by
      rw [q, e] at ho; cases ho
      rw [hv] at hcl; cases hcl
    rw [upd_ne this]; exact I.freeC y c z
  · obtain ⟨h1, h2, h3⟩ := I.pin p hp
    exact ⟨h1, by rw [upd_ne (np p hp)]; exact h2, h3⟩
  · rcases Decidable.em (b = a) with rfl | hb
    · rw [upd_same] at z; cases z
      exact exH_ok e hc hd hv
    · rw [upd_ne hb] at z
      exact (I.hok b o z).stay (fun _ _ _ q => q) (fun c q => by rw [upd_ne (ne_of_none q na)]; exact q) fun c xs q => by rw [upd_ne (ne_of_none q na)]; exact q
end
end DX
namespace DX
open PySem PySem.Spec L2 PyProof.Rows StX
section
variable {X : Cx} {J : Gh} {ρ : DEnv} {M : Mem} {B : Bd} {RR : Addr → List (Str × D) → DEnv → Mem → Prop}
def Bd.cuts (B : Bd) (i : Nat) : Bd := ⟨fun ρ' M' => B.nx (cut ρ' i) M', B.rt, fun ρ' M' => B.bk (cut ρ' i) M', fun ρ' M' => B.ct (cut ρ' i) M'⟩
/-- what the body may let out -/
def RTry (X : Cx) (cs : List Value) (i : Nat) (suite : List Stmt) (B : Bd) (RR : Addr → List (Str × D) → DEnv → Mem → Prop) : Addr → List (Str × D) → DEnv → Mem → Prop :=
  fun C gs ρ' M' => ∃ b, PySem.W.exmAny X.K (.ref C) cs = some b ∧ (b = true → ∀ (a : Addr) (J2 : Gh), GX (sui X a) J2 suite (put ρ' i (.exn C gs)) M' (B.cuts i)) ∧ (b = false → RR C gs ρ' M')
end
end DX
namespace DX
open PySem PySem.Spec L2 PyProof.Rows StX
abbrev Er := Addr × List (Str × D)
def exC {A B : Type} (r : Except Er A) (ke : Er → Option B) (kv : A → Option B) : Option B := match r with
  | .error e => ke e
  | .ok v => kv v
def resX {A : Type} (r : Except Er A) (p : A → Prop) (q : Er → Prop) : Prop := match r with
  | .error e => q e
  | .ok v => p v
/-- an instance of the class C that has no field m of its own -/
def mthC (C : Addr) (m : Str) (d : D) : Option (List (Str × D)) := (isC C d).bind fun gs => if gs.lookup m = none then some gs else none
def insA : D → Option Unit
  | .ins _ _ => some ()
  | _ => none
def blD : D → Option Bool
  | .bl b => some b
  | _ => none
def natD : D → Option Int
  | .int i => if 0 ≤ i ∧ i < 2 ^ 63 then some i else none
  | _ => none
def txtD : D → Option Str
  | .str y => some y
  | _ => none
/-- the other side of a comparison -/
def othD (L : List Addr) (d : D) : Option Unit := if plain d = true then some () else match d with
  | .ins C _ => if C ∈ L then some () else none
  | _ => none
/-- isinstance(o, C), C an own class that is no error -/
def isiC (C : Addr) (d : D) : Option Bool := match d with
  | .ins C' _ => if C' = C then some true else none
  | d => if plain d = true then some false else none
section
variable {X : Cx} {M : Mem} {P : D → Mem → Prop}
end
/-- a field of a caught error of one of the classes L -/
def xflD (L : List Addr) (f : Str) : D → Option D
  | .exn C gs => if C ∈ L then gs.lookup f else none
  | _ => none
theorem xflD_eq {L : List Addr} {f : Str} {d z : D} (h : xflD L f d = some z) : ∃ C gs, d = .exn C gs ∧ C ∈ L ∧ gs.lookup f = some z := by
  unfold xflD at h
  split at h
  · split at h
    · rename_i C gs q; exact ⟨C, gs, rfl, q, h⟩
    · cases h
  · cases h
section
variable {X : Cx} {J : Gh} {e : Expr} {ρ : DEnv} {M : Mem} {pos : Pos} {f : Str} {P : D → Mem → Prop}
theorem ex_xflL {L : List Addr} (hL : ∀ C ∈ L, XfC X.K C ∧ PySem.W.findIn X.K (.ref C) f = some none) (h : EX X J e ρ M fun d M1 => ∃ z, xflD L f d = some z ∧ P z M1) (hb : attributeBase e f X.env (eval e X.env) = eval e X.env := by rfl) : EX X J (.Attribute e f pos) ρ M P := by
  refine ⟨fun pins s σ H Q I ⟨F, st, kt⟩ => ?_⟩
  refine attr_of hb (thn ((pe_any (X := X) (e := e)).run pins s σ H (fun v H1 => ∃ F1 M1 d, Same F F1 ∧ Ok X.K F1 M1 H1 ∧ Rp X.K F1 v d ∧ ∃ z, xflD L f d = some z ∧ P z M1) I (h.go st fun d v M1 F1 H1 q e1 o1 r1 => ⟨F1, M1, d, e1, o1, r1, q⟩)) fun u s1 ⟨v, H1, I1, rv, F1, M1, d, e1, o1, rd, y, hy, q⟩ => ?_)
  obtain ⟨C, gs, rfl, hC, hl⟩ := xflD_eq hy
  obtain ⟨T, hno⟩ := hL C hC
  obtain ⟨q1, ox, od, fs, rfl, J0, r2, look⟩ := exn_inst I1 o1 rd
  obtain rfl : u = Value.ref q1 := rv
  rcases r2.look (f := f) with ⟨_, h4⟩ | ⟨v', d', h3, h4, h5⟩
  · rw [h4] at hl; cases hl
  · rw [h4] at hl; cases hl
    obtain ⟨u, o', rfl, ru, hu⟩ := look f v' h3
    exact HandSPX.exc_get I1.kIn J0 T.ga T.gg T.exC (PySem.W.findObj_own T.hdC hno rfl hu) (handed_of ru) ⟨v', H1, I1.tok _, ru, kt _ _ _ _ _ q e1 o1 h5⟩
/-- a class by its name -/
theorem ex_cls {C : Addr} {x : Str} (hm : X.mg x = some (.ref C)) (q : P (.adr C) M) (hg : Gl X x := by rfl) (hd : (x == ("__debug__" : Str)) = false := by decide) : EX X J (.Name x pos) ρ M P := ex_glob (v := .ref C) hg hm rfl (fun F => .adr C) q hd
end
structure ErrC (newId : String) (bmB : List Value) (K : PySem.W.Frag) (C : Str) : Prop where
  oex : OexG newId bmB K (He.ga K C)
  ini : PySem.W.findIn K (.ref (He.ga K C)) "__init__" = some (some (.ref (He.fAd K (C, some "__init__"))))
  fn : PySem.W.typeIn K (.ref (He.fAd K (C, some "__init__"))) = some (.type "function")
theorem oexB_ok {newId : String} {bmB : List Value} {K : PySem.W.Frag} {C : Addr} (h : oexB newId bmB K C = true) : OexG newId bmB K C := by
  obtain ⟨h1, h⟩ := He.ba h
  obtain ⟨h2, h⟩ := He.ba h
  obtain ⟨h3, h⟩ := He.ba h
  obtain ⟨h4, h⟩ := He.ba h
  obtain ⟨h5, h⟩ := He.ba h
  obtain ⟨h6, h7⟩ := He.ba h
  refine ⟨?_, He.eqO_ok h2, of_decide_eq_true h3, of_decide_eq_true h4, h5, h6, h7⟩
  unfold PySem.W.excInitIn at h1
  split at h1
  · rename_i dd cd sl ho
    split at h1
    · rename_i C' bm k0 k1 k2 k3 n k5 hm hs
      simp only [Bool.and_eq_true, beq_iff_eq, Bool.not_eq_true'] at h1
      obtain ⟨⟨⟨rfl, rfl⟩, hdel⟩, tl⟩ := h1
      obtain ⟨cd2, hc2, hd2⟩ := PySem.W.any_some h7
      unfold PySem.W.clsIn at hc2
      rw [ho] at hc2
      obtain rfl : cd = cd2 := Option.some.inj hc2
      obtain ⟨nm, bs, mro, ns, qn, hd, sn, sub, ab, col, del⟩ := cd
      dsimp only at hm hdel hd2
      subst hm hdel hd2
      have hsl : sl = #[k0, k1, k2, k3, some (.builtin n), k5] := by
        obtain ⟨l⟩ := sl
        dsimp only at hs
        rw [hs]
      subst hsl
      exact ⟨nm, qn, ns, bs, bm, sn, sub, ab, col, dd, k0, k1, k2, k3, k5, ho, tl⟩
    · cases h1
  · cases h1
theorem errB_ok {newId : String} {bmB : List Value} {K : PySem.W.Frag} {C : Str} (h : errB newId bmB K C = true) : ErrC newId bmB K C := by
  obtain ⟨h1, h⟩ := He.ba h
  obtain ⟨h2, h3⟩ := He.ba h
  exact ⟨oexB_ok h1, He.eqO_ok h2, of_decide_eq_true h3⟩
theorem allB_ok {K : PySem.W.Frag} {L : List Str} {p : Addr → Bool} {q : Addr → Prop} (h : allB K L p = true) (hp : ∀ C, p C = true → q C) : ∀ C ∈ L.map (Zk K), q C := fun C hC => by
  obtain ⟨x, hx, rfl⟩ := List.mem_map.mp hC
  exact hp _ (List.all_eq_true.mp h x hx)
theorem excB_ok {K : PySem.W.Frag} {C : Addr} (h : excB K C = true) : ExcC K C := by
  obtain ⟨h1, h⟩ := He.ba h
  obtain ⟨h2, h⟩ := He.ba h
  obtain ⟨h3, h⟩ := He.ba h
  obtain ⟨h4, h⟩ := He.ba h
  obtain ⟨h5, h⟩ := He.ba h
  obtain ⟨h6, h⟩ := He.ba h
  obtain ⟨h7, h8⟩ := He.ba h
  exact ⟨He.eqO_ok h1, He.eqO_ok h2, of_decide_eq_true h3, h4, He.eqO_ok h5, He.eqO_ok h6, of_decide_eq_true h7, of_decide_eq_true h8⟩
theorem excB_xf {K : PySem.W.Frag} {C : Addr} (h : excB K C = true) : XfC K C := by
  have T := excB_ok h
  exact ⟨T.hg, T.hk, T.hs, T.hd⟩
end DX
namespace DX
open PySem PySem.Spec L2 PyProof.Rows StX
theorem no_err {pg : Program} {w : World} {outer : List PySem.Env} {H : Hp} {s s' : Shared} {er : Value} (h : L2.CX pg w outer H s (fun _ _ _ => False) er s') : False := by
  obtain ⟨_, _, _, _, _, _, _, _, _, _, _, _, _, z⟩ := h
section
variable {X : Cx} {J : Gh} {e a b : Expr} {ρ : DEnv} {M : Mem} {pos p rpos : Pos} {f f1 f2 : Str} {B : Bd} {RR : Addr → List (Str × D) → DEnv → Mem → Prop} {newId : String} {bmB : List Value} {C : Str} {fd : FuncData} {qual : Str} {params : Arguments} {body : List Stmt} {scope : Scope} {s1 v1 v2 : Str}
end
end DX
namespace DX
open PySem PySem.Spec L2 PyProof.Rows StX
section
variable {X : Cx} {J : Gh} {e o : Expr} {ρ : DEnv} {M : Mem} {pos fp : Pos} {f : Str} {B : Bd}
end
end DX
namespace DX
open PySem PySem.Spec L2 PyProof.Rows StX
section
variable {X : Cx} {J : Gh} {e a b o : Expr} {es : List Expr} {ρ : DEnv} {M M1 : Mem} {F F' H H' : Hp} {σ : L2.St} {K : PySem.W.Frag} {pos p : Pos} {f x : Str} {P : D → Mem → Prop}
def unl2 : D → Option (D × D)
  | .lst [a, b] => some (a, b)
  | _ => none
def unl3 : D → Option (D × D × D)
  | .lst [a, b, c] => some (a, b, c)
  | _ => none
def unl4 : D → Option (D × D × D × D)
  | .lst [a, b, c, d] => some (a, b, c, d)
  | _ => none
/-- repr of data, dicts among them -/
noncomputable def dReprR (d : D) : Option D := chk (shw d = true ∧ (pydR d).showable = true ∧ (pydR d).depth ≤ 60 ∧ (pydR d).shown.length ≤ 16000000) (.str (txtR d))
theorem cd_dReprR {d z : D} (hS : sysB X.K = true) (hg : X.A.guards = some []) (hu : X.A.units + 64 < cLine) (h : dReprR d = some z) (q : P z M) : CD X (.builtin "repr") [d] M P := by
  obtain ⟨⟨h1, h2, h3, h4⟩, rfl⟩ := chk_inv h
  exact cd_reprR hS hg hu ⟨h1, h2, h3, h4⟩ q
/-- what {..} shows -/
noncomputable def fmtD : D → Option Str
  | .str y => chk (y.length ≤ 1000000) y
  | .int i => chk (i.natAbs.log2 < 1920) (toString i)
  | _ => none
/-- the parts of an f-string -/
def JX (X : Cx) (J : Gh) (es : List Expr) (acc : Str) (ρ : DEnv) (M : Mem) (P : Str → Mem → Prop) : Prop :=
  ∀ F H σ Q, Sts X.K J F σ H ρ M → (∀ out M' F' H', P out M' → Same F F' → Ok X.K F' M' H' → Q out H') → tJs (es.map (tE X)) acc σ H Q
end
def cvalB (K : PySem.W.Frag) (C f : Str) (i : Int) : Bool := PySem.W.readsIn K (He.ga K C) (.type "type") && (He.eqO (PySem.W.specialIn K (.ref (He.ga K C)) "__getattribute__") (some (some (.builtin "type.__getattribute__"))) && match PySem.W.findCls K (.ref (He.ga K C)) (.type "type") f with
  | some (.val (.int j t)) => decide (j = i)
  | _ => false)
end DX
namespace DX
open PySem PySem.Spec L2 PyProof.Rows StX
noncomputable def dIsiT (ns : List String) (d : D) : Option Bool := chk (plain d = true) (ns.any fun m => isi m d)
section
variable {X : Cx} {M : Mem} {P : D → Mem → Prop}
end
def conSB (K : PySem.W.Frag) (C f x : Str) : Bool := match PySem.W.findIn K (.ref (He.ga K C)) f with
  | some (some (.str y t)) => decide (y = x) && He.eqO (PySem.W.specialIn K (.str y t) "__get__") (some none)
  | _ => false
def cvalSB (K : PySem.W.Frag) (C f x : Str) : Bool := PySem.W.readsIn K (He.ga K C) (.type "type") && (He.eqO (PySem.W.specialIn K (.ref (He.ga K C)) "__getattribute__") (some (some (.builtin "type.__getattribute__"))) && match PySem.W.findCls K (.ref (He.ga K C)) (.type "type") f with
  | some (.val (.str y t)) => decide (y = x)
  | _ => false)
end DX
namespace DX
open PySem PySem.Spec L2 PyProof.Rows StX LamX
def TbM (K : PySem.W.Frag) (tl : TbL) (M : Mem) : Prop := ∀ x ∈ tl, M (ctA K x.1).2 = some (.tbl x.2)
section
variable {K : PySem.W.Frag} {F H : Hp} {M : Mem}
/-- a table grows by a code object -/
theorem Ok.grow (k : Ok K F M H) {P c : Addr} {q : Str} {ps : Array Value} {p1 : Pos} (hM : M P = some (.tbl q)) (hP : H P = some (.tbl ps)) (hc : H c = none) :
    Same F (upd F c (CodeO c q)) ∧ Ok K (upd F c (CodeO c q)) M (upd (upd H P (.tbl (ps ++ #[rawInt p1.line, rawInt p1.col, .ref c]))) c (CodeO c q)) := by
  obtain ⟨nF, nM⟩ := k.nn hc
  have sm : Same F (upd F c (CodeO c q)) := same_new nF
  obtain ⟨fP, ps', hP', tr, ht⟩ := k.mt P _ hM
  rw [hP] at hP'; cases hP'
  have nPc : P ≠ c := ne_of_none hP hc
  refine ⟨sm, fun b u e => ?_, fun b d e => ?_⟩
  · by_cases hb : b = c
    · subst hb; rw [upd_same] at e ⊢; exact e
    · rw [upd_ne hb] at e ⊢
      rw [upd_ne (ne_of_none e fP)]
      exact k.ex b u e
  · have hb : b ≠ c := fun z => by rw [z, nM] at e; cases e
    obtain ⟨m1, m2⟩ := k.mt b d e
    refine ⟨by rw [upd_ne hb]; exact m1, ?_⟩
    by_cases hp : b = P
    · subst hp
      rw [hM] at e; cases e
      refine ⟨_, by rw [upd_ne hb, upd_same], ?_, fun pos cv z => ?_⟩
      · have el : (ps ++ #[rawInt p1.line, rawInt p1.col, Value.ref c]).toList = ps.toList ++ [rawInt p1.line, rawInt p1.col, .ref c] := by simp
        rw [el]; exact PySem.TriplesOk_snoc _ _ _ _ tr
      · have el : (ps ++ #[rawInt p1.line, rawInt p1.col, Value.ref c]).toList = ps.toList ++ [rawInt p1.line, rawInt p1.col, .ref c] := by simp
        rw [el] at z
        rcases among_app _ tr z with z | z
        · obtain ⟨c0, h1, h2⟩ := ht pos cv z
          exact ⟨c0, h1, sm _ _ h2⟩
        · exact ⟨c, z, upd_same⟩
    · exact m2.mono sm (by rw [upd_ne hb, upd_ne hp])
end
section
variable {X : Cx} {pins : List (Addr × Obj)} {σ : L2.St} {H F : Hp} {M : Mem} {s : Shared}
abbrev lamO (X : Cx) (params : Arguments) (body : Expr) (scope : Scope) (pm : Value) (c' : Addr) (ctv : Value) : Obj :=
  PySem.W.kla_obj "<lambda>" (X.env.qual ++ "<lambda>") params body scope (cloFrom X.env.cells scope.names []) pm c' ctv
/-- what the call of a name that holds the lambda does, in the def that got it -/
def LamAt (Z : Cx) (a : Str) (i : Nat) (f : Addr) (F0 : Hp) (M : Mem) (T : (D → Mem → Prop) → RX → Prop) : Prop :=
  ∀ (pn : List (Addr × Obj)) (xe : Value → Shared → Prop) (J : Gh) (ρ : DEnv) (P : D → Mem → Prop) (RR : Addr → List (Str × D) → DEnv → Mem → Prop) (p1 p2 : Pos), (∀ F, J.p F → Same F0 F) → Lets (Z.tr pn xe) J RR → look ρ i = some (.adr f) → T P (Rof RR ρ) → EX (Z.tr pn xe) J (.Call (.Name a p1) [] [] p2) ρ M P
end
/-- the body of a def that gets a lambda (its one parameter a) and calls it -/
def BodyL (pg : Program) (w : World) (K : PySem.W.Frag) (mg : Str → Option Value) (base : Heap) (gd : Bool) (k : Nat) (g : Addr) (qual : Str) (body : List Stmt) (scope : Scope) (N : List Str) (a : Str) (T' : ((D → Mem → Prop) → RX → Prop) → Mem → (D → Mem → Prop) → Prop) : Prop :=
  ∀ (cdv : Value) (A : Around) (outer : List PySem.Env) (s : Shared) (H F0 : Hp) (E : XK) (f : Addr) (M : Mem) (T : (D → Mem → Prop) → RX → Prop) (P : D → Mem → Prop), (gd = true → A.guards = some []) → Room k (A.deeper (envOfC qual scope s.heap.objs.size g cdv)) → T' T M P →
    LamAt (cxOf (L2.CX pg w) pg w K mg base N qual scope g cdv A outer s H E) a 0 f F0 M T →
    PassesOwn (model pg w) (cxOf (L2.CX pg w) pg w K mg base N qual scope g cdv A outer s H E).A (cxOf (L2.CX pg w) pg w K mg base N qual scope g cdv A outer s H E).env (cxOf (L2.CX pg w) pg w K mg base N qual scope g cdv A outer s H E).xe →
    GX (cxOf (L2.CX pg w) pg w K mg base N qual scope g cdv A outer s H E) (ghF F0) body (startD (N.length - 1) [.adr f]) M ⟨fun _ M' => P .non M', P, fun _ _ => False, fun _ _ => False⟩
section
variable {X : Cx} {J : Gh} {ρ : DEnv} {M : Mem} {P : D → Mem → Prop} {x a qg : Str} {g c Pt : Addr} {k kb : Nat} {gd : Bool} {pg : Arguments} {bg : List Stmt} {sg : Scope} {fd : FuncData} {Ng : List Str} {params : Arguments} {body : Expr} {scope : Scope} {p lpos pos : Pos}
  {T : (D → Mem → Prop) → RX → Prop} {T' : ((D → Mem → Prop) → RX → Prop) → Mem → (D → Mem → Prop) → Prop}
end
end DX
namespace DX
open PySem PySem.Spec L2 PyProof.Rows StX LamX
/-- the names of the lambdas, at their tables -/
def tbMem (K : PySem.W.Frag) (tl : TbL) : Mem := fun a => (tl.find? fun x => (ctA K x.1).2 == a).map fun x => .tbl x.2
theorem tbMem_ok {K : PySem.W.Frag} {tl : TbL} (h : tbOne K tl = true) : TbM K tl (tbMem K tl) := fun x hx => by
  have := List.all_eq_true.mp h x hx
  unfold tbMem
  cases e : tl.find? fun y => (ctA K y.1).2 == (ctA K x.1).2 with
  | none => rw [e] at this; cases this
  | some y => rw [e] at this; rw [Option.map_some, of_decide_eq_true this]
theorem tbMem_in {K : PySem.W.Frag} {tl : TbL} {a : Addr} {d : D} (h : tbMem K tl a = some d) : ∃ x ∈ tl, (ctA K x.1).2 = a ∧ d = .tbl x.2 := by
  unfold tbMem at h
  cases e : tl.find? fun y => (ctA K y.1).2 == a with
  | none => rw [e] at h; cases h
  | some y =>
    rw [e] at h; cases h
    have hy := List.find?_some e
    exact ⟨y, List.mem_of_find?_eq_some e, beq_iff_eq.mp hy, rfl⟩
def hid (K : PySem.W.Frag) (tl : TbL) (H : Hp) : Hp := fun b => if (tl.any fun x => (ctA K x.1).2 == b) = true then none else H b
theorem law_startT {T : TrX} {K : PySem.W.Frag} {tl : TbL} {H : Hp} {a : Addr} {ns : List Int} (h1 : tbOne K tl = true) (hS : SqL K H a (ns.map V.int)) (hT : ∀ x ∈ tl, H (ctA K x.1).2 = some (.tbl #[])) (ht : ∀ M, TbM K tl M → T [.scr ns] [] M (fun d _ => d = .bl true) noX) :
    ∃ F M ds, Ok K F M H ∧ Rps K F [.ref a] ds ∧ T ds [] M (fun d _ => d = .bl true) noX := by
  have nT : ∀ b, (∀ x ∈ tl, (ctA K x.1).2 ≠ b) → hid K tl H b = H b := fun b h => if_neg (fun z => by
    obtain ⟨x, hx, e⟩ := List.any_eq_true.mp z
    exact h x hx (beq_iff_eq.mp e))
  refine ⟨hid K tl H, tbMem K tl, [.scr ns], ⟨fun b u e => ?_, fun b d e => ?_⟩, .cons (.scr ?_) .nil, ht _ (tbMem_ok h1)⟩
  · unfold hid at e
    split at e
    · cases e
    · exact e
  · obtain ⟨x, hx, rfl, rfl⟩ := tbMem_in e
    have hh : (tl.any fun y => (ctA K y.1).2 == (ctA K x.1).2) = true := List.any_eq_true.mpr ⟨x, hx, beq_iff_eq.mpr rfl⟩
    refine ⟨if_pos hh, #[], hT x hx, trivial, fun pos cv z => ?_⟩
    have z : codeAmong pos [] = some cv := z
    simp [codeAmong] at z
  · rcases hS with hS | hS
    · refine .inl ?_
      rcases hS with hS | ⟨o, hS⟩
      · exact .inl ((nT a fun x hx e => by rw [← e, hT x hx] at hS; cases hS).trans hS)
      · exact .inr ⟨o, (nT a fun x hx e => by rw [← e, hT x hx] at hS; cases hS).trans hS⟩
    · exact .inr hS
theorem law_goT {pg : Program} {w : World} {K : PySem.W.Frag} {mg mb : Str → Option Value} {k : Nat} {fa a : Addr} {T : TrX} {s1 : Shared} {vs : List Value} {ns : List Int} {tn : TbN}
    (KX : K.In s1.heap) (gN : s1.heap.Ns mainGlobals mg) (bN : s1.heap.Ns builtinsNs mb) (bA : ∀ y : Str, y ≠ "__name__" → mb y = bootBuiltins y) (lim : s1.heap.NoLimit) (gens : s1.gens = #[])
    (bM : ∃ (bm : Addr) (ob : Obj), mg "__builtins__" = some (.ref bm) ∧ bm ≠ builtinsNs ∧ s1.heap.get? bm = some ob ∧ ob.cls = .type "module" ∧ ob.dict = some builtinsNs ∧ ob.data = .plain) (TK : TbK K tn s1.heap)
    (ha : s1.heap.get? a = some { cls := .type "list", data := .seq vs.toArray }) (hi : PyProof.Rows.IntsAre vs ns) (hl : ns.length ≤ sizeLine) (hr : Room k callerA)
    (G : ∀ base : Heap, K.In base → base.Ns mainGlobals mg → (∀ x ∈ tn, TabB base mg (ctA K x).1 (ctA K x).2) → FnX pg w K mg base true k fa [] T)
    (ht : ∀ H : Hp, SqL K H a (ns.map V.int) → (∀ x ∈ tn, H (ctA K x).2 = some (.tbl #[])) → ∃ F M ds, Ok K F M H ∧ Rps K F [.ref a] ds ∧ T ds [] M (fun d _ => d = .bl true) noX) :
    codeAny (model pg w) callerA (.call (.ref fa) ⟨[.ref a], []⟩) (fun r s' => r = .ok (.ret (.bool true)) ∧ OldK s1.heap s'.heap ∧ s'.os = s1.os ∧ PyProof.Rows.AllBare s'.gens) s1 := by
  have vals := vals_ints hi
  let isP : Addr → Prop := fun b => ∃ x ∈ tn, (ctA K x).2 = b
  have tabAt : ∀ {b}, isP b → s1.heap.get? b = some { cls := .none, data := .fields #[] } := fun ⟨x, hx, e⟩ => e ▸ (TK.ex x hx).2.1
  have tabK : ∀ {b}, isP b → K.lookup b = none := fun ⟨x, hx, e⟩ => e ▸ (TK.ex x hx).2.2
  have naP : ¬ isP a := fun z => by
    have q := tabAt z
    rw [ha] at q
    have q : Data.seq vs.toArray _ = Data.fields #[] := congrArg Obj.data (Option.some.inj q)
    cases q
  have main : ∀ H : Hp, (∀ b u, H b = some u → (b = a ∧ K.lookup a = none ∧ u = .frz { cls := .type "list", data := .seq vs.toArray } (.lst (ns.map V.int))) ∨ (isP b ∧ u = .tbl #[])) → (∀ b, isP b → H b = some (.tbl #[])) → SqL K H a (ns.map V.int) → L2.HOk pg w H s1.heap →
      codeAny (model pg w) callerA (.call (.ref fa) ⟨[.ref a], []⟩) (fun r s' => r = .ok (.ret (.bool true)) ∧ OldK s1.heap s'.heap ∧ s'.os = s1.os ∧ PyProof.Rows.AllBare s'.gens) s1 := by
    intro H only tabs seq hok
    have seen : ∀ {b : Addr} {ob : Obj}, s1.heap.get? b = some ob → (∀ l n, ob.data ≠ .seq l n) → ob.data ≠ .fields #[] → (hidT s1.heap H).get? b = some ob := by
      intro b ob e n1 n2
      refine hidT_get e ?_
      cases q : H b with
      | none => rfl
      | some u =>
        rcases only b u q with ⟨rfl, _, _⟩ | ⟨z, _⟩
        · rw [ha] at e; cases e
          exact absurd rfl (n1 _ _)
        · rw [tabAt z] at e; cases e
          exact absurd rfl n2
    have kept : ∀ {b : Addr} {m : Str → Option Value}, s1.heap.Ns b m → (hidT s1.heap H).Ns b m := by
      rintro b m ⟨ob, es, ep, h1, h2, h3⟩
      exact ⟨ob, es, ep, seen h1 (fun l n z => by rw [h2] at z; cases z) (fun z => by rw [h2] at z; cases z), h2, h3⟩
    have kin : K.In (hidT s1.heap H) := by
      intro b ob h1
      refine hidT_get (KX b ob h1) ?_
      cases q : H b with
      | none => rfl
      | some u =>
        rcases only b u q with ⟨rfl, h2, _⟩ | ⟨z, _⟩
        · rw [h2] at h1; cases h1
        · rw [tabK z] at h1; cases h1
    have tb : ∀ x ∈ tn, TabB (hidT s1.heap H) mg (ctA K x).1 (ctA K x).2 := fun x hx => by
      obtain ⟨C, hP, _⟩ := TK.ex x hx
      obtain ⟨oc, us, fl, tf, fg, tg, bf, tx, tt, c1, c2, c3, c4, c5⟩ := C
      refine ⟨⟨oc, us, fl, tf, fg, tg, bf, tx, tt, seen c1 (fun l n z => by rw [c3] at z; cases z) (fun z => by rw [c3] at z; cases z; simp at c4), c2, c3, c4, c5⟩, ?_, fun z => ?_⟩
      · obtain ⟨bm, ob, m1, m2, m3, m4, m5, m6⟩ := bM
        refine ⟨bm, ob, m1, m2, fun z => ?_, fun z => ?_, seen m3 (fun l n z => by rw [m6] at z; cases z) (fun z => by rw [m6] at z; cases z), m4, m5, m6⟩
        · obtain ⟨o2, es, ep, g1, g2, _⟩ := gN
          rw [z, g1] at m3; cases m3
          rw [g2] at m6; cases m6
        · rw [z, hP] at m3; cases m3
          cases m6
      · obtain ⟨o2, es, ep, g1, g2, _⟩ := gN
        rw [z, hP] at g1; cases g1
        cases g2
    have start_ : Env0 pg w K mg (hidT s1.heap H) callerA [] s1 H :=
      ⟨rfl, ⟨kin, kept gN, ⟨mb, kept bN, bA⟩, let ⟨mc, z1, z2⟩ := lim; ⟨mc, kept z1, z2⟩⟩, fun b ob z => of_hidT z, Nat.le_of_eq (hidT_size _ _), trivial, fun b z => (List.not_mem_nil z).elim, hok, .of_eq gens⟩
    obtain ⟨F, M, ds, o, rd, t⟩ := ht H seq fun x hx => tabs _ ⟨x, hx, rfl⟩
    refine codeAny_mono ((G _ kin (kept gN) tb).go callerA [] s1 H F M ds [] _ noX [.ref a] [] [.ref a] [] (fun v _ => v = .bl true) (fun _ _ _ => False) (fun _ => rfl) hr start_ (.cons rfl .nil) .nil rfl o rd .nil t (fun d v M' F' H' z1 _ _ z2 => by subst z1; cases z2; rfl) Kx.no) fun res s' end_ => ?_
    match res, end_ with
    | .error _, end_ => exact (no_err end_).elim
    | .ok .next, end_ => exact end_.elim
    | .ok .brk, end_ => exact end_.elim
    | .ok .cont, end_ => exact end_.elim
    | .ok (.ret u), ⟨v, H', h1, h2, h3, h4, h5, h6⟩ =>
      subst h6
      cases (show u = Value.bool true from h5)
      have now : ∀ b ob, s1.heap.get? b = some ob → s'.heap.get? b = some ob ∨ (isP b ∧ ∃ more : Array Value, s'.heap.get? b = some { cls := .none, data := .fields more }) := fun b ob z => by
        cases q : H b with
        | none => exact .inl (h3.keep b ob z q List.not_mem_nil List.not_mem_nil)
        | some u =>
          rcases only b u q with ⟨rfl, _, rfl⟩ | ⟨hp, rfl⟩
          · obtain ⟨e1, _⟩ := h4 b _ (h3.frzs b _ _ q)
            rw [ha] at z; cases z
            exact .inl e1
          · obtain ⟨more, e⟩ := h3.tbls b #[] q
            exact .inr ⟨hp, _, h4 b _ e⟩
      refine ⟨rfl, ⟨fun b ob z => ?_, fun b ob z => ?_⟩, h1, h2⟩
      · rcases now b ob z with e | ⟨⟨x, hx, rfl⟩, more, e⟩
        · exact .inl e
        · obtain ⟨C, hP, _⟩ := TK.ex x hx
          rw [hP] at z; cases z
          exact .inr (.inl ⟨(C.tab hP).isCodeTable, rfl, #[], more, rfl, by rw [Array.empty_append]; exact e⟩)
      · rcases now b ob z with e | ⟨_, more, e⟩
        · exact ⟨_, e⟩
        · exact ⟨_, e⟩
  classical
  cases q : K.lookup a with
  | some ob =>
    have e1 := KX a ob q
    rw [ha] at e1; cases e1
    have own : ∀ b u, (if isP b then some (HO.tbl #[]) else none) = some u → isP b ∧ u = .tbl #[] := fun b u z => by
      by_cases e : isP b
      · rw [if_pos e] at z; cases z; exact ⟨e, rfl⟩
      · rw [if_neg e] at z; cases z
    refine main (fun b => if isP b then some (.tbl #[]) else none) (fun b u z => .inr (own b u z)) (fun b z => if_pos z) (.inr ⟨_, vs.toArray, _, q, rfl, rfl, rfl, by simpa [hi.length] using hl, by simpa using vals⟩) fun b u z => ?_
    obtain ⟨h1, rfl⟩ := own b u z
    exact tabAt h1
  | none =>
    have own : ∀ b u, (if b = a then some (HO.frz { cls := .type "list", data := .seq vs.toArray } (.lst (ns.map V.int))) else if isP b then some (HO.tbl #[]) else none) = some u → (b = a ∧ u = .frz { cls := .type "list", data := .seq vs.toArray } (.lst (ns.map V.int))) ∨ (isP b ∧ u = .tbl #[]) := by
      intro b u z
      by_cases e : b = a
      · rw [if_pos e] at z; cases z; exact .inl ⟨e, rfl⟩
      · rw [if_neg e] at z
        by_cases e2 : isP b
        · rw [if_pos e2] at z; cases z; exact .inr ⟨e2, rfl⟩
        · rw [if_neg e2] at z; cases z
    refine main (fun b => if b = a then some (.frz { cls := .type "list", data := .seq vs.toArray } (.lst (ns.map V.int))) else if isP b then some (.tbl #[]) else none) (fun b u z => (own b u z).imp (fun z => ⟨z.1, q, z.2⟩) id) (fun b z => (if_neg (fun e : b = a => naP (by rw [e] at z; exact z))).trans (if_pos z)) (.inl (.inr ⟨_, if_pos rfl⟩)) fun b u z => ?_
    rcases own b u z with ⟨rfl, rfl⟩ | ⟨h1, rfl⟩
    · exact ⟨ha, by rw [List.length_map]; exact hl, vs, _, vals, ha⟩
    · exact tabAt h1
theorem walk_ofT {l : PySem.W.OpenLaw} {k : Nat} {q : Program} {loose : List Str} {XP : (Str → Option Value) → Heap → Prop} {YP : World → Heap → Prop} {d : DefRec} {tn : TbN} (hn : l.most = some 63) (hdf : d.params.defaults = []) (hr : Room k callerA)
    (G : ∀ (w : World) (mg : Str → Option Value) (fa : Addr) (h : Heap), YP w h → h.Ns mainGlobals mg → mg d.name = some (.ref fa) →
      ∃ (K : PySem.W.Frag) (T : TrX), K.In h ∧ TbK K tn h ∧
        (∀ (H : Hp) (a : Addr) (ns : List Int), ns.length ≤ 63 → SqL K H a (ns.map V.int) → (∀ x ∈ tn, H (ctA K x).2 = some (.tbl #[])) → ∃ F M ds, Ok K F M H ∧ Rps K F [.ref a] ds ∧ T ds [] M (fun d _ => d = .bl true) noX) ∧
        ∀ base : Heap, K.In base → base.Ns mainGlobals mg → (∀ x ∈ tn, TabB base mg (ctA K x).1 (ctA K x).2) → FnX l.prog w K mg base true k fa [] T) :
    PySem.W.WalkO q loose XP YP l.row.toRowW d [] (fun f vs => PySem.call f vs) :=
  Att.attach_call hn hdf fun w s0 s1 mg mb fa o pm cd doc a vs ns Gr Y ho hd hcd hmg hobj hints hlen hgens => by
    obtain ⟨K, T, KX, TK, ht, hF⟩ := G w mg fa _ Y Gr.T.g hmg
    exact law_goT KX Gr.T.g Gr.T.b Gr.T.builtins Gr.T.nolimit hgens Gr.T.bmain TK hobj hints (Nat.le_trans hlen (by decide)) hr hF fun H hS hP => ht H a ns hlen hS hP
theorem lookT_eq {n : Nat} {fa : List He.Fa} {fn : List He.DefD} {pr : List PrD} {ex : PySem.W.Frag → Bool} {tl : TbL} {g : Addr → Option Obj} {s : Shared} (h : ∀ a, g a = s.heap.get? a) : lookT fa fn pr ex tl n g = (hookT n fa fn pr ex tl).obs s := by
  have e : g = s.heap.get? := funext h
  subst e
  rfl
end DX
namespace DX
open PySem PySem.Spec L2 PyProof.Rows StX
noncomputable def dLower : D → Option D
  | .str z => chk (z.length ≤ 1000000) (.str (Txt.lower z))
  | _ => none
def unstD : D → D
  | .stup ds => .tup ds
  | d => d
def stupD : D → Option (List D)
  | .stup ds => some ds
  | _ => none
section
variable {X : Cx} {J : Gh} {e o : Expr} {ρ : DEnv} {M : Mem} {P : D → Mem → Prop} {pos apos cpos : Pos} {k : Nat} {K : PySem.W.Frag} {F : Hp}
end
end DX
namespace ZipL
open PySem PySem.Spec L2 PyProof.Rows
section
variable {prog : Program} {w : World} {A : Around} {R : Result → Shared → Prop} {z TI TO i1 i2 l1 l2 S : Addr} {xs ys : Array Value}
end
section
variable {prog : Program} {w : World} {A : Around} {R : Result → Shared → Prop} {E : Value → Shared → Prop} {s : Shared} {z TI TO i1 i2 l1 l2 S : Addr} {xs ys : Array Value}
end
def zH : Hp → List (Addr × V × V) → Hp
  | H, [] => H
  | H, (T, x, y) :: r => zH (upd H T (.tup [x, y])) r
def FrL : Hp → List (Addr × V × V) → Prop
  | _, [] => True
  | H, (T, x, y) :: r => H T = none ∧ FrL (upd H T (.tup [x, y])) r
section
variable {X : Cx} {pins : List (Addr × Obj)} {σ : L2.St} {H H' : Hp} {s : Shared} {h' : Heap}
end
def tLZ (K : PySem.W.Frag) (ta : TA) : TE := fun σ H Q => ta σ H fun vs H1 => ∃ a b xs ys, vs = [.ref a, .ref b] ∧ SqL K H1 a xs ∧ SqL K H1 b ys ∧
  ∀ (l : List (Addr × V × V)) (S : Addr), l.map (·.2) = xs.zip ys → FrL H1 l → zH H1 l S = none → Q (.ref S) (upd (zH H1 l) S (.lst (l.map fun t => V.ref t.1)))
end ZipL
namespace DX
open PySem PySem.Spec L2 PyProof.Rows ZipL
section
variable {X : Cx} {J : Gh} {M : Mem} {F : Hp} {K : PySem.W.Frag} {ρ : DEnv} {a b : Expr} {p pos p' pos' : Pos} {P : D → Mem → Prop}
def dZipL : D → D → Option (List D)
  | .lst ds, .lst es => some (zipD ds es)
  | _, _ => none
end
end DX
namespace EnK
open PySem PySem.Spec L2 PyProof.Rows
section
variable {M : Model} {A : Around} {E : Value → Shared → Prop} {s : Shared} {env : Env}
end
/-- the tuple at a, its items in new pairs, counted from k -/
def IteK (K : PySem.W.Frag) (a : Addr) (k : Nat) : It :=
  ⟨fun i H => ∃ (xs : List V) (x : V), SqT K H a xs ∧ xs[i]? = some x, fun i H v H' => ∃ T x, v = .ref T ∧ H T = none ∧ H' = upd H T (.tup [.int (k + i : Nat), x]) ∧ ∀ xs, SqT K H a xs → xs[i]? = some x, fun i H => ∃ xs : List V, SqT K H a xs ∧ xs.length ≤ i⟩
def iEnumK (K : PySem.W.Frag) (ta tk : TA) : TI := fun σ H R => ta σ H fun vs H1 => tk σ H1 fun zs H2 => ∃ a xs, ∃ k : Nat, vs = [.ref a] ∧ zs = [.int (k : Int)] ∧ k < 1000000 ∧ SqT K H2 a xs ∧ R (IteK K a k) H2
end EnK
namespace DX
open PySem PySem.Spec L2 EnK
def dEnumK : D → D → Option (List D)
  | .tup ds, .int k => if 0 ≤ k ∧ k < 1000000 then some (enumD k.toNat ds) else none
  | _, _ => none
section
variable {X : Cx} {J : Gh} {M : Mem} {F : Hp} {K : PySem.W.Frag} {ρ : DEnv} {a b : Expr} {p pos kp : Pos}
end
end DX
namespace DX
open PySem PySem.Spec L2 PyProof.Rows
def isFl : D → Bool
  | .int _ => true
  | .str _ => true
  | _ => false
def isI (i : Int) : D → Bool
  | .int j => decide (j = i)
  | _ => false
def isSt (z : Str) : D → Bool
  | .str w => decide (w = z)
  | _ => false
def isBl : D → Bool
  | .bl _ => true
  | _ => false
def isB (b : Bool) : D → Bool
  | .bl c => c == b
  | _ => false
def dLidx : D → D → Option D
  | .lst ds, .bl b => if ds.all isBl = true then (ds.findIdx? (isB b)).map fun (j : Nat) => .int (j : Int) else none
  | .lst ds, .str z => if ds.all isFl = true then (ds.findIdx? (isSt z)).map fun (j : Nat) => .int (j : Int) else none
  | .lst ds, .int i => if ds.all isFl = true then (ds.findIdx? (isI i)).map fun (j : Nat) => .int (j : Int) else none
  | _, _ => none
section
variable {X : Cx} {J : Gh} {M : Mem} {ρ : DEnv} {o e : Expr} {apos cpos : Pos} {P : D → Mem → Prop}
end
end DX
namespace DX
open PySem PySem.Spec L2 PyProof.Rows
section
variable {X : Cx} {J : Gh} {e o : Expr} {es : List Expr} {ρ ρ' : DEnv} {M M0 M1 : Mem} {F F' H H' : Hp} {σ : L2.St} {P : D → Mem → Prop} {K : PySem.W.Frag} {pos apos cpos : Pos}
def Mz : Mem := fun _ => none
def flatD : D → Bool
  | .int _ => true
  | .bl _ => true
  | .str _ => true
  | .non => true
  | _ => false
noncomputable def dLcnt : D → D → Option D
  | .lst ds, y => chk (goods ds ∧ good y ∧ dep y ≤ 50) (.int ((ds.countP fun z => eqD z y : Nat) : Int))
  | _, _ => none
end
end DX
namespace DX
open PySem PySem.Spec L2 PyProof.Rows StX LamX
/-- no instance changes here -/
def NoIns (M : Mem) : Prop := ∀ a C gs, M a ≠ some (.ins C gs)
mutual
/-- without lists and dicts -/
def lf : D → Bool
  | .non => true
  | .bl _ => true
  | .int _ => true
  | .str _ => true
  | .tup ds => lfs ds
  | .stup ds => lfs ds
  | .ins _ gs => lfk gs
  | _ => false
def lfs : List D → Bool
  | [] => true
  | d :: ds => lf d && lfs ds
def lfk : List (Str × D) → Bool
  | [] => true
  | (_, d) :: ds => lf d && lfk ds
end
structure Keeps (K : PySem.W.Frag) (F F2 : Hp) : Prop where
  t : ∀ a xs, SqT K F a xs → SqT K F2 a xs
  i : ∀ a C dx fs, F a = some (.ins C dx fs) → F2 a = some (.ins C dx fs)
  s : ∀ a o xs, F a = some (.frz o (.tup xs)) → F2 a = some (.frz o (.tup xs))
section
variable {K : PySem.W.Frag} {F F2 : Hp}
mutual
theorem rp_lf (h : Keeps K F F2) : ∀ (d : D) (v : V), lf d = true → Rp K F v d → Rp K F2 v d
  | .non, _, _, .non => .non
  | .bl b, _, _, .bl _ => .bl _
  | .int i, _, _, .int _ => .int _
  | .str x, _, _, .str _ => .str _
  | .tup ds, _, q, .tup h1 h2 => .tup (h.t _ _ h1) (rps_lf h ds _ (by rw [lf] at q; exact q) h2)
  | .stup ds, _, q, .stup h1 h2 h3 => .stup (h.s _ _ _ h1) h2 (rps_lf h ds _ (by rw [lf] at q; exact q) h3)
  | .stup [], _, _, .stupK h1 h2 => .stupK h1 h2
  | .ins C gs, _, q, .ins h1 h2 => .ins (h.i _ _ _ _ h1) (rfs_lf h gs _ (by rw [lf] at q; exact q) h2)
  | .lst _, _, q, _ => by simp [lf] at q
  | .dct _, _, q, _ => by simp [lf] at q
  | .adr _, _, q, _ => by simp [lf] at q
  | .ty _, _, q, _ => by simp [lf] at q
  | .scr _, _, q, _ => by simp [lf] at q
  | .exn _ _, _, q, _ => by simp [lf] at q
  | .tbl _, _, q, _ => by simp [lf] at q
theorem rps_lf (h : Keeps K F F2) : ∀ (ds : List D) (vs : List V), lfs ds = true → Rps K F vs ds → Rps K F2 vs ds
  | [], _, _, .nil => .nil
  | d :: ds, _, q, .cons h1 h2 => by
    rw [lfs, Bool.and_eq_true] at q
    exact .cons (rp_lf h d _ q.1 h1) (rps_lf h ds _ q.2 h2)
theorem rfs_lf (h : Keeps K F F2) : ∀ (ds : List (Str × D)) (vs : List (Str × V)), lfk ds = true → Rfs K F vs ds → Rfs K F2 vs ds
  | [], _, _, .nil => .nil
  | (x, d) :: ds, _, q, .cons h1 h2 => by
    rw [lfk, Bool.and_eq_true] at q
    exact .cons (rp_lf h d _ q.1 h1) (rfs_lf h ds _ q.2 h2)
end
end
section
variable {X : Cx} {J : Gh} {e : Expr} {ρ ρ' : DEnv} {M : Mem} {F F' H H' : Hp} {P : D → Mem → Prop} {K : PySem.W.Frag}
/-- what was held still may change again -/
def freeF (F' : Hp) (M : Mem) : Hp := fun a => if (M a).isSome = true then none else F' a
theorem free_eq {a : Addr} (h : M a = none) : freeF F' M a = F' a := by unfold freeF; rw [h]; rfl
theorem still_kind (k : Ok K F M H) (e : Same (stillF F H M) F') {a : Addr} {d : D} (h : M a = some d) : ∃ u, F' a = some u ∧ H a = some u ∧ Mt K F H a d := by
  obtain ⟨_, m2⟩ := k.mt a d h
  obtain ⟨u, hu⟩ := m2.there
  exact ⟨u, e _ _ (show stillF F H M a = some u by unfold stillF; rw [h]; exact hu), hu, m2⟩
theorem free_same (k : Ok K F M H) (e : Same (stillF F H M) F') : Same F (freeF F' M) := fun a u h => by
  have : M a = none := by
    cases hm : M a with
    | none => rfl
    | some d => rw [(k.mt a d hm).1] at h; cases h
  rw [free_eq this]
  exact e _ _ (still_same k _ _ h)
theorem free_ok (k : Ok K F M H) (e : Same (stillF F H M) F') {M' : Mem} (k' : Ok K F' M' H') : Ok K (freeF F' M) M H' := by
  refine ⟨fun a u h => ?_, fun a d hd => ?_⟩
  · cases hm : M a with
    | none => rw [free_eq hm] at h; exact k'.ex _ _ h
    | some d => unfold freeF at h; rw [hm] at h; cases h
  · obtain ⟨u, h1, h2, h3⟩ := still_kind k e hd
    refine ⟨by unfold freeF; rw [hd]; rfl, h3.mono (free_same k e) ((k'.ex _ _ h1).trans h2.symm)⟩
end
end DX
namespace DX
open PySem PySem.Spec L2 PyProof.Rows StX LamX
/-- the instances that change here are of these classes -/
def InsIn (L : List Addr) (M : Mem) : Prop := ∀ a C gs, M a = some (.ins C gs) → C ∈ L
mutual
/-- without lists and dicts, and without instances of these classes -/
def lfN (L : List Addr) : D → Bool
  | .non => true
  | .bl _ => true
  | .int _ => true
  | .str _ => true
  | .tup ds => lfsN L ds
  | .stup ds => lfsN L ds
  | .ins C gs => decide (C ∉ L) && lfkN L gs
  | _ => false
def lfsN (L : List Addr) : List D → Bool
  | [] => true
  | d :: ds => lfN L d && lfsN L ds
def lfkN (L : List Addr) : List (Str × D) → Bool
  | [] => true
  | (_, d) :: ds => lfN L d && lfkN L ds
end
structure KeepsN (L : List Addr) (K : PySem.W.Frag) (F F2 : Hp) : Prop where
  t : ∀ a xs, SqT K F a xs → SqT K F2 a xs
  i : ∀ a C dx fs, C ∉ L → F a = some (.ins C dx fs) → F2 a = some (.ins C dx fs)
  s : ∀ a o xs, F a = some (.frz o (.tup xs)) → F2 a = some (.frz o (.tup xs))
section
variable {K : PySem.W.Frag} {F F2 : Hp} {L : List Addr}
mutual
theorem rp_lfN (h : KeepsN L K F F2) : ∀ (d : D) (v : V), lfN L d = true → Rp K F v d → Rp K F2 v d
  | .non, _, _, .non => .non
  | .bl b, _, _, .bl _ => .bl _
  | .int i, _, _, .int _ => .int _
  | .str x, _, _, .str _ => .str _
  | .tup ds, _, q, .tup h1 h2 => .tup (h.t _ _ h1) (rps_lfN h ds _ (by rw [lfN] at q; exact q) h2)
  | .stup ds, _, q, .stup h1 h2 h3 => .stup (h.s _ _ _ h1) h2 (rps_lfN h ds _ (by rw [lfN] at q; exact q) h3)
  | .stup [], _, _, .stupK h1 h2 => .stupK h1 h2
  | .ins C gs, _, q, .ins h1 h2 => by
    rw [lfN, Bool.and_eq_true] at q
    exact .ins (h.i _ _ _ _ (of_decide_eq_true q.1) h1) (rfs_lfN h gs _ q.2 h2)
  | .lst _, _, q, _ => by simp [lfN] at q
  | .dct _, _, q, _ => by simp [lfN] at q
  | .adr _, _, q, _ => by simp [lfN] at q
  | .ty _, _, q, _ => by simp [lfN] at q
  | .scr _, _, q, _ => by simp [lfN] at q
  | .exn _ _, _, q, _ => by simp [lfN] at q
  | .tbl _, _, q, _ => by simp [lfN] at q
theorem rps_lfN (h : KeepsN L K F F2) : ∀ (ds : List D) (vs : List V), lfsN L ds = true → Rps K F vs ds → Rps K F2 vs ds
  | [], _, _, .nil => .nil
  | d :: ds, _, q, .cons h1 h2 => by
    rw [lfsN, Bool.and_eq_true] at q
    exact .cons (rp_lfN h d _ q.1 h1) (rps_lfN h ds _ q.2 h2)
theorem rfs_lfN (h : KeepsN L K F F2) : ∀ (ds : List (Str × D)) (vs : List (Str × V)), lfkN L ds = true → Rfs K F vs ds → Rfs K F2 vs ds
  | [], _, _, .nil => .nil
  | (x, d) :: ds, _, q, .cons h1 h2 => by
    rw [lfkN, Bool.and_eq_true] at q
    exact .cons (rp_lfN h d _ q.1 h1) (rfs_lfN h ds _ q.2 h2)
end
end
section
variable {X : Cx} {J : Gh} {e o : Expr} {es : List Expr} {kws : List Keyword} {ks : List Str} {ρ ρ' : DEnv} {M : Mem} {F F' H H' : Hp} {P : D → Mem → Prop} {K : PySem.W.Frag} {L : List Addr} {pos fp p : Pos} {x f : Str} {σ : L2.St} {B : Bd} {RR : Addr → List (Str × D) → DEnv → Mem → Prop}
def TMkM (C : Addr) (T : TrX) (ds zs : List D) (M : Mem) (P : D → Mem → Prop) (R : RX) : Prop := ∀ a, M a = none → T (.adr a :: ds) zs (up M a (.ins C [])) (fun d M2 => d = .non ∧ P (.adr a) M2) R
end
end DX
namespace DX
open PySem PySem.Spec L2 PyProof.Rows StX LamX
section
variable {K : PySem.W.Frag} {F F2 : Hp} {L : List Addr}
end
/-- what changes here holds no instance of these classes -/
def NoIc (L : List Addr) (M : Mem) : Prop := ∀ a d, M a = some d → (∃ ds, d = .lst ds ∧ noIs L ds = true) ∨ ∃ q, d = .tbl q
def Bare (M : Mem) : Prop := ∀ a d, M a = some d → ∃ q, d = .tbl q
section
variable {X : Cx} {J : Gh} {e : Expr} {ρ : DEnv} {M M0 : Mem} {P : D → Mem → Prop} {L : List Addr}
/-- M1 is M0 and what stands at p -/
def InsX (p : Addr) (M0 M1 : Mem) : Prop := ∀ a, a ≠ p → M1 a = M0 a
def rmF (F : Hp) (p : Addr) : Hp := fun a => if a = p then none else F a
end
section
variable {X : Cx} {M : Mem} {P : D → Mem → Prop}
end
end DX
namespace DX
open PySem PySem.Spec L2 PyProof.Rows StX LamX
section
variable {X : Cx} {J : Gh} {ρ ρ' : DEnv} {M M0 : Mem} {P : D → Mem → Prop} {L : List Addr} {x : Str} {pos : Pos} {K : PySem.W.Frag} {F F2 : Hp} {σ : L2.St} {st : Stmt} {rest : List Stmt} {B : Bd}
/-- what comes behind -/
abbrev HoldNx (X : Cx) (J : Gh) (L : List Addr) (p C : Addr) (gs : List (Str × D)) (rest : List Stmt) (B : Bd) (ρ' : DEnv) (M' : Mem) : Prop := ∃ ρ2, NoE L ρ' ρ2 ∧ NoIc L M' ∧ ∃ M2, InsX p M' M2 ∧ M2 p = some (.ins C gs) ∧ GX X J rest ρ2 M2 B
end
section
variable {X : Cx} {M : Mem} {P : D → Mem → Prop} {x dx : D}
def lCut (d : D) (l u : Option Int) : Option (List D) := match d with
  | .lst ds => some (cutD ds l u)
  | _ => none
end
section
variable {X : Cx} {J : Gh} {e o : Expr} {es : List Expr} {kws : List Keyword} {ks : List Str} {ρ : DEnv} {M : Mem} {P : D → Mem → Prop} {pos : Pos} {RR : Addr → List (Str × D) → DEnv → Mem → Prop}
end
end DX
namespace DX
open PySem PySem.Spec L2 PyProof.Rows StX
open Sem (wp)
section
variable {prog : Program} {w : World} {A : Around} {E : Value → Shared → Prop} {s : Shared}
end
def gStar (X : Cx) (k : Nat) (t : TGs) : TG := fun v σ H Q => ∃ a xs, v = .ref a ∧ SqL X.K H a xs ∧ k ≤ xs.length ∧ ∀ q, H q = none → t (xs.take k ++ [.ref q]) σ (upd H q (.lst (xs.drop k))) Q
section
variable {X : Cx} {pos : Pos} {es : List Expr}
end
end DX
namespace DX
open PySem PySem.Spec L2 PyProof.Rows StX
noncomputable section
def dSplit : D → D → Option D
  | .str x, .str y => chk ((y.length == 0) = false ∧ x.length ≤ 1000000) (.lst ((Txt.split x y).map D.str))
  | _, _ => none
/-- int(x), of a text too -/
def dIntT : D → Option D
  | .str x => (PySem.intText? x).bind fun n => chk (x.length ≤ 640) (.int n)
  | d => dInt d
end
def stD1 : D → Option (D × D)
  | .lst (a :: r) => some (a, .lst r)
  | _ => none
def stD2 : D → Option (D × D × D)
  | .lst (a :: b :: r) => some (a, b, .lst r)
  | _ => none
/-- the first k, then the list of the rest -/
def stD (k : Nat) : D → Option (List D)
  | .lst ds => if k ≤ ds.length then some (ds.take k ++ [.lst (ds.drop k)]) else none
  | _ => none
section
variable {X : Cx} {J : Gh} {e o : Expr} {es : List Expr} {ρ : DEnv} {M : Mem} {P : D → Mem → Prop} {B : Bd} {pos apos cpos : Pos} {K : PySem.W.Frag} {F : Hp} {x dx dy z : D}
end
end DX
namespace DX
open PySem PySem.Spec L2 PyProof.Rows StX
def clsIs (C : Addr) : D → Bool
  | .ins C' _ => decide (C' = C)
  | _ => false
def isU (L : List Addr) : D → Option (List (Str × D))
  | .ins C gs => if C ∈ L then some gs else none
  | _ => none
/-- the other side of a comparison -/
def othU (L : List (Addr × Addr)) (x d : D) : Option Unit := if plain d = true then some () else match x, d with
  | .ins C _, .ins C' _ => if (C, C') ∈ L then some () else none
  | _, _ => none
def mthU (L : List Addr) (m : Str) (d : D) : Option (List (Str × D)) := (isU L d).bind fun gs => if gs.lookup m = none then some gs else none
/-- for each class of L the def that is meant -/
def UFn (pg : Program) (w : World) (K : PySem.W.Frag) (mg : Str → Option Value) (base : Heap) (gd : Bool) (ks : List Str) (k : Nat) (L : List Addr) (W : Addr → Addr → Prop) (TU : TrX) : Prop :=
  ∀ C ∈ L, ∃ (g : Addr) (T : TrX), W C g ∧ FnX pg w K mg base gd k g ks T ∧ ∀ gs ds zs M P R, TU (.ins C gs :: ds) zs M P R → T (.ins C gs :: ds) zs M P R
section
variable {X : Cx} {J : Gh} {e a b o : Expr} {es : List Expr} {kws : List Keyword} {ks : List Str} {ρ : DEnv} {M M1 M2 : Mem} {F F' H H' : Hp} {σ : L2.St} {K : PySem.W.Frag} {pos p apos : Pos} {x m f : Str} {P : D → Mem → Prop} {PA PA' : List D → List D → Mem → Prop} {RR : Addr → List (Str × D) → DEnv → Mem → Prop} {L : List Addr} {TU : TrX} {k : Nat}
/-- isinstance(o, C) for values of some own classes: what is told of each -/
def isiL (L : List (Addr × Bool)) (d : D) : Option Bool := match d with
  | .ins C' _ => L.lookup C'
  | d => if plain d = true then some false else none
end
end DX
namespace DX
open PySem PySem.Spec L2 PyProof.Rows StX
/-- what is asked of a specification -/
structure ColS (sp : Str) (f : Builtin.Float.FormatSpec) (W : Nat) : Prop where
  ne : (sp.length == 0) = false
  few : sp.length ≤ 10
  asc : ((sp.cps.toList.drop 1).any (· ≥ 128) || (sp.cps.getD 0 0 ≥ 128 && !([60, 62, 61, 94] : List Nat).contains (sp.cps.getD 1 0))) = false
  ps : ∀ name, Builtin.Float.parseFormatSpec sp.cps.toList name 62 = .ok f
  ty : f.type.getD (if (sp.cps.back? == some 0) = true then 0 else 100) = 100
  pr : f.precision = none
  nz : f.noNeg0 = false
  al : f.alt = false
  wi : f.width = some W
  sm : W ≤ 100
  gr : f.grouping = none
  sg : f.sign = none
  fi : f.fill = 32
  an : f.align = 62
/-- {x:>4} -/
noncomputable def fmtW (d : D) (sp : Str) : Option Str := match d with
  | .int i => chk (i.natAbs.log2 < 1920) (intSpecTextOf sp i)
  | _ => none
section
variable {X : Cx} {J : Gh} {e sp1 : Expr} {ρ : DEnv} {M : Mem} {P : D → Mem → Prop} {pos p2 : Pos} {sp : Str}
end
end DX
namespace DX
open PySem PySem.Spec L2
open PyProof.Rows hiding St
section
variable {X : Cx} {J : Gh} {e a b o : Expr} {es : List Expr} {ρ : DEnv} {M M1 : Mem} {F F' H H' : Hp} {σ : St} {K : PySem.W.Frag} {pos p apos : Pos} {x m f : Str} {P : D → Mem → Prop} {B : Bd}
/-- d[k] -/
def dGetK (kvs : List (Key × D)) (d : D) : Option D := (keyD d).bind fun k => valD kvs k
/-- k in d -/
def dInK (kvs : List (Key × D)) (d : D) : Option Bool := (keyD d).map fun k => (valD kvs k).isSome
/-- d[k] = v -/
noncomputable def dPutK (kvs : List (Key × D)) (d v : D) : Option (List (Key × D)) := (keyD d).bind fun k => chk (kvs.length < 1000000) (putD kvs k v)
end
def mapKO (f : D → Option (Key × D)) : List D → Option (List (Key × D))
  | [] => some []
  | d :: ds => (f d).bind fun p => (mapKO f ds).map fun r => p :: r
section
variable {X : Cx} {J : Gh} {ρ : DEnv} {M : Mem} {F F' H H' : Hp} {σ : St} {K : PySem.W.Frag} {pos p : Pos} {P : D → Mem → Prop}
variable {scope : Scope} {tg iter kx vx : Expr}
/-- {kx: vx for tg in iter}: the pairs one by one, nothing else changes -/
def DcW (X : Cx) (J : Gh) (scope : Scope) (vs : List Nat) (tg kx vx : Expr) (ρ : DEnv) (PE : List (Key × D) → Mem → Prop) (ds : List D) (M1 : Mem) : Prop := ∃ (f : D → Option (Key × D)) (ps : List (Key × D)), mapKO f ds = some ps ∧ ds.length ≤ 1000000 ∧
  (∀ d kv acc Dl, f d = some kv → M1 Dl = none → AsB X scope vs tg d (cuts ρ vs) fun ρ2 => EXb X J scope kx ρ2 (up M1 Dl (.dct acc)) fun y M3 => y = kD kv.1 ∧ M3 = up M1 Dl (.dct acc) ∧ EXb X J scope vx ρ2 (up M1 Dl (.dct acc)) fun z M4 => z = kv.2 ∧ M4 = up M1 Dl (.dct acc)) ∧ PE (mergeD [] ps) M1
variable {B : Bd}
end
end DX
namespace DX
open PySem PySem.Spec L2
open PyProof.Rows hiding St
section
variable {X : Cx} {J : Gh} {ρ : DEnv} {M M1 : Mem} {F F' H H' : Hp} {σ : St} {K : PySem.W.Frag} {P : D → Mem → Prop}
def dDictL (d : D) : Option (List (Key × D)) := (lstD d).bind fun l => (kvsD l).bind fun kv => some (mergeD [] kv)
end
end DX
namespace DX
open PySem PySem.Spec L2 PyProof.Rows StX
/-- a def that says super(): it has captured its class Dc in the cell cc -/
structure FunC (K : PySem.W.Frag) (x qual : Str) (params : Arguments) (body : List Stmt) (scope : Scope) (dvs : List V) (file : Str) (f c cc Dc : Addr) : Prop where
  ex : ∃ (oc : Value) (od : Option Addr) (dV kV doc pm : Value) (an : Option Addr) (ct : Value) (osl : Array (Option Value)),
    K.lookup f = some ⟨oc, od, .func (PySem.W.ksFn x qual params body scope dV kV doc pm an (.ref c) ct cc), osl⟩ ∧ PySem.W.codeIn K (.ref c) qual = true ∧ DflV K dV dvs
  kp : PySem.W.keepIn K (.ref f) = true
  cell : ∃ (cl : Value) (cld : Option Addr) (csl : Array (Option Value)), K.lookup cc = some ⟨cl, cld, .cell (some (.ref Dc)), csl⟩
  code : ∃ (cl : Value) (cld : Option Addr) (vs : Array Value) (csl : Array (Option Value)) (tf : Tok), K.lookup c = some ⟨cl, cld, .fields vs, csl⟩ ∧ vs[2]? = some (.str file tf)
  cls : ∃ cd, PySem.W.clsIn K Dc = some cd
/-- how super() finds the name in an instance of C -/
structure SupOf (K : PySem.W.Frag) (C Dc : Addr) (name : Str) (g : Addr) : Prop where
  at_ : PySem.W.ks_superIn K C Dc name = some (some (.ref g))
  ty : PySem.W.typeIn K (.ref g) = some (.type "function")
  fi : PySem.W.fnIn K g = true
  sub : PySem.W.mroIn K C (.ref Dc) = some true
  opq : PySem.W.nsIn K cStatics "thirdparty.any" = some none
/-- what the program says of super and of its own file -/
structure SupP (pg : Program) (file : Str) : Prop where
  file : ((pg.main.file : Str) == file) = true
  top : (pg.main.scope.names.lookup ("super" : Str)).isSome = false
def GXA (X : Cx) (J : Gh) (b0 : List Stmt) (st : List Stmt) (ρ : DEnv) (M : Mem) (B : Bd) : Prop :=
  ∀ (pins : List (Addr × Obj)) (s : Shared) (σ : L2.St) (H : Hp) (E : Ends), L2.Inv X pins σ H s → tSd X.K J ρ M B E σ H → PySem.wpAt (model X.prog X.w) X.A (.func b0 X.env) (execs st X.env) (SP X pins E) X.xe s
section
variable {X : Cx} {J : Gh} {e : Expr} {es : List Expr} {rest b0 : List Stmt} {ρ : DEnv} {M : Mem} {B : Bd} {p0 p1 apos pos spos : Pos} {RR : Addr → List (Str × D) → DEnv → Mem → Prop}
end
section
variable {pg : Program} {w : World} {K : PySem.W.Frag} {mg : Str → Option Value} {base : Heap} {x qual file : Str} {params : Arguments} {body : List Stmt} {scope : Scope} {f c cc Dc : Addr} {N pn : List Str} {k : Nat} {T : TrB}
abbrev nfS (x qual : Str) (params : Arguments) (body : List Stmt) (scope : Scope) (c cc : Addr) : NdefX.NF := ⟨x, qual, params, body, scope, [("__class__", cc)], c⟩
abbrev cxS (pg : Program) (w : World) (K : PySem.W.Frag) (mg : Str → Option Value) (base : Heap) (N : List Str) (x qual : Str) (params : Arguments) (body : List Stmt) (scope : Scope) (f c cc : Addr) (A : Around) (outer : List PySem.Env) (s : Shared) (H : Hp) (E : XK) : Cx :=
  NdefX.ncx (L2.CX pg w) pg w K mg base N (nfS x qual params body scope c cc) f A outer s H E
def BodyS (pg : Program) (w : World) (K : PySem.W.Frag) (mg : Str → Option Value) (base : Heap) (k : Nat) (x qual : Str) (params : Arguments) (body : List Stmt) (scope : Scope) (f c cc : Addr) (N ps : List Str) (T : TrB) : Prop :=
  ∀ (A : Around) (outer : List PySem.Env) (s : Shared) (H F0 : Hp) (E : XK) (ds : List D) (M : Mem) (P : D → Mem → Prop) (R : RX), Room k (A.deeper (NdefX.envF (nfS x qual params body scope c cc) f s.heap.objs.size)) → T ds M P R →
      Lets (cxS pg w K mg base N x qual params body scope f c cc A outer s H E) (ghF F0) (fun C gs _ M' => R C gs M') →
      PassesOwn (model pg w) (cxS pg w K mg base N x qual params body scope f c cc A outer s H E).A (cxS pg w K mg base N x qual params body scope f c cc A outer s H E).env (cxS pg w K mg base N x qual params body scope f c cc A outer s H E).xe →
      Kx K F0 R E →
      GXA (cxS pg w K mg base N x qual params body scope f c cc A outer s H E) (ghF F0) body body (startD (N.length - ps.length) ds) M ⟨fun _ M' => P .non M', P, fun _ _ => False, fun _ _ => False⟩
end
end DX
namespace DX
open PySem PySem.Spec L2 PyProof.Rows StX
/-- its code, the cell that it has captured, the class in the cell -/
def supA (K : PySem.W.Frag) (a : Addr) : Addr × Addr × Addr := match K.lookup a with
  | some ⟨_, _, .func fd, _⟩ => (match fd.code with
    | .ref c => (match fd.closure with
      | [(_, cc)] => (match K.lookup cc with
        | some ⟨_, _, .cell (some (.ref D)), _⟩ => (c, cc, D)
        | _ => (0, 0, 0))
      | _ => (0, 0, 0))
    | _ => (0, 0, 0))
  | _ => (0, 0, 0)
def fileB (file : Str) : Option Value → Bool
  | some (.str fl _) => decide (fl = file)
  | _ => false
def supB (K : PySem.W.Frag) (a : Addr) (q file : Str) (dvs : List V) : Bool :=
  PySem.W.keepIn K (.ref a) && ((match K.lookup a with
    | some ⟨_, _, .func fd, _⟩ => decide (fd.code = .ref (supA K a).1) && (PySem.W.codeIn K fd.code q && (decide (fd.closure = [(("__class__" : Str), (supA K a).2.1)]) && He.dflB K fd.defaults dvs))
    | _ => false) && ((match K.lookup (supA K a).2.1 with
      | some ⟨_, _, .cell (some v), _⟩ => decide (v = .ref (supA K a).2.2)
      | _ => false) && ((match K.lookup (supA K a).1 with
        | some ⟨_, _, .fields vs, _⟩ => fileB file vs[2]?
        | _ => false) && (PySem.W.clsIn K (supA K a).2.2).isSome)))
/-- how super() finds a name, looked at -/
def supO (K : PySem.W.Frag) (C Dc : Addr) (name : Str) (g : Addr) : Bool :=
  He.eqO (PySem.W.ks_superIn K C Dc name) (some (some (.ref g))) && (decide (PySem.W.typeIn K (.ref g) = some (.type "function")) && (PySem.W.fnIn K g && (decide (PySem.W.mroIn K C (.ref Dc) = some true) && He.eqO (PySem.W.nsIn K cStatics "thirdparty.any") (some none))))
/-- an empty tuple -/
def tup0B (K : PySem.W.Frag) (a : Addr) : Bool := match K.lookup a with
  | some ⟨.type c, none, .seq its _, _⟩ => decide (c = "tuple") && decide (its.toList = [])
  | _ => false
end DX
namespace DX
open PySem PySem.Spec L2 GenW
open PyProof.Rows hiding St
section
variable {M : Model} {A : Around} {R : GenEnd} {Y : Protocol} {n : Nat} {s₀ : Shared} {c : Code} {fs : List Frame} {s : Shared} {env : Env}
  {K : Flow → Sem PySem.Fin} {J : Value → Sem PySem.Fin} {gd : Bool → Bool} {lv : List Value → List Value}
end
section
variable {prog : Program} {w : World} {A : Around} {R : GenEnd} {Y : Protocol} {n : Nat} {s₀ : Shared} {fs : List Frame} {s : Shared} {env : Env}
abbrev noted (env : Env) (e : Value) : Sem PySem.Fin := (do noteFrame e env; theTreesLotGoes e : Sem Unit).wrap (fun _ => .raise e) .raise id id
end
section
variable {X : Cx}
def tGIf (tc : TT) (ta tb : TGn) : TGn := fun D ys σ H => tc σ H fun b H1 => if b = true then ta D ys σ H1 else tb D ys σ H1
def tGFor (wi : TI) (g : TG) (tb : TGn) : TGn := fun D ys σ H => wi σ H fun J H1 => ∃ W : Nat → Nat → List V → St → Hp → Prop, (∃ m, W 0 m ys σ H1) ∧ ∀ i m ys σ H, W i m ys σ H →
  (J.stop i H ∧ D.nx ys σ H) ∨ (J.go i H ∧ ∃ N : List V → St → Hp → Prop, (∀ ys' σ' H', N ys' σ' H' → ∃ m', m' < m ∧ W (i + 1) m' ys' σ' H') ∧ ∀ x H', J.yld i H x H' → g x σ H' fun σ2 H2 => tb { D with nx := N, ct := N, bk := D.nx } ys σ2 H2)
end
end DX
namespace DX
open PySem PySem.Spec L2 GenW
open PyProof.Rows hiding St
def GBd.thn (B : GBd) (nx : List D → DEnv → Mem → Prop) : GBd := { B with nx := nx }
section
variable {X : Cx} {J : Gh} {e a b c : Expr} {es : List Expr} {st : Stmt} {rest sts : List Stmt} {ys : List D} {ρ ρ' : DEnv} {M M0 M' : Mem} {F F' H H' : Hp} {σ : St} {B : GBd} {K : PySem.W.Frag} {pos p yp : Pos} {E : GEnds}
end
abbrev TrG := List D → Mem → (List D → Mem → Prop) → Prop
abbrev TrGX := List D → List D → Mem → (List D → Mem → Prop) → Prop
def noK : XK := fun _ _ _ => False
structure GFnX (pg : Program) (w : World) (K : PySem.W.Frag) (mg : Str → Option Value) (base : Heap) (k : Nat) (f : Addr) (ks : List Str) (T : TrGX) : Prop where
  go : ∀ (A : Around) (outer : List PySem.Env) (s : Shared) (H F : Hp) (M : Mem) (ds zs : List D) (cont : List D → Mem → Prop) (us ws : List Value) (vs xs : List V) (Q : List V → Hp → Prop), Room k A → Env0 pg w K mg base A outer s H → Vals vs us → Vals xs ws → ws.length = ks.length →
    Ok K F M H → Rps K F vs ds → Rps K F xs zs → T ds zs M cont → (∀ ys vys M' F' H', cont ys M' → Same F F' → Ok K F' M' H' → Rps K F' vys ys → Q vys H') →
    codeAny (model pg w) A (.call (.ref f) ⟨us, ks.zip ws⟩) (fun r s' => match r with | .ok (.ret u) => GMade pg w k outer H s [] Q noK u s' | _ => False) s
def GBodyX (pg : Program) (w : World) (K : PySem.W.Frag) (mg : Str → Option Value) (base : Heap) (k : Nat) (f : Addr) (qual : Str) (body : List Stmt) (scope : Scope) (N ps : List Str) (T : TrG) : Prop :=
  ∀ (cdv : Value), CodeAt K f cdv → ∀ (A : Around) (outer : List PySem.Env) (s : Shared) (H F0 : Hp) (pn : List (Addr × Obj)) (ds : List D) (M : Mem) (cont : List D → Mem → Prop), Room k (A.deeper (PyProof.Rows.envOfC qual scope s.heap.objs.size f cdv)) → T ds M cont →
    PassesOwn (model pg w) (gcxOf pg w K mg base N qual scope f cdv A outer s H noK pn).A (gcxOf pg w K mg base N qual scope f cdv A outer s H noK pn).env (gcxOf pg w K mg base N qual scope f cdv A outer s H noK pn).xe →
    GGX (gcxOf pg w K mg base N qual scope f cdv A outer s H noK pn) (ghF F0) body [] (startD (N.length - ps.length) ds) M ⟨fun ys _ M' => cont ys M', fun ys d M' => d = .non ∧ cont ys M', fun _ _ _ => False, fun _ _ _ => False⟩
section
variable {pg : Program} {w : World} {K : PySem.W.Frag} {mg : Str → Option Value} {base : Heap} {x qual : Str} {params : Arguments} {body : List Stmt} {scope : Scope} {kws : List (Str × V)} {f : Addr} {fd : FuncData} {N pn : List Str} {k : Nat} {T : TrG}
end
section
variable {X : Cx} {J : Gh} {es : List Expr} {kws : List Keyword} {ks : List Str} {ρ : DEnv} {M : Mem} {pos pos' p p1 : Pos} {x : Str} {P : D → Mem → Prop} {k : Nat} {f : Addr} {T : TrGX}
end
end DX
namespace TupF
open PySem PySem.Spec L2 PyProof.Rows DX
def tTupF (t : TA) : TE := fun σ H Q => t σ H fun xs H1 => xs.length ≤ sizeLine ∧ ∀ p (ob : Obj), H1 p = none → (ob.cls = .type "tuple" ∧ ob.dict = none) → Q (.ref p) (upd H1 p (.frz ob (.tup xs)))
end TupF
namespace DX
open PySem PySem.Spec L2 PyProof.Rows StX
section
variable {X : Cx} {J : Gh} {es : List Expr} {ρ : DEnv} {M : Mem} {P : D → Mem → Prop} {pos : Pos} {k : Nat} {x dx : D}
/-- tuple(x) for a list, or a tuple whose object is known -/
def sTup : D → Option (List D)
  | .lst ds => some ds
  | .stup ds => some ds
  | _ => none
@[simp] theorem sTup_l {l : List D} : sTup (.lst l) = some l := rfl
@[simp] theorem sTup_s {l : List D} : sTup (.stup l) = some l := rfl
@[simp] theorem unstD_s {l : List D} : unstD (.stup l) = .tup l := rfl
@[simp] theorem unstD_l {l : List D} : unstD (.lst l) = .lst l := rfl
@[simp] theorem unstD_t {l : List D} : unstD (.tup l) = .tup l := rfl
end
end DX
namespace DX
open PySem PySem.Spec L2 PyProof.Rows
noncomputable def cInG (a : D) : D → Option Bool
  | .lst ds => chk (good a ∧ good (.lst ds) ∧ dep a ≤ 50 ∧ dep (.lst ds) ≤ 50) (ds.any fun z => eqD z a)
  | _ => none
noncomputable def cNinG (a c : D) : Option Bool := (cInG a c).map (!·)
section
variable {X : Cx} {M : Mem} {x y dx dy : D} {t : Bool} {P : D → Mem → Prop}
end
end DX
namespace DX
open PySem PySem.Spec L2 PyProof.Rows StX
section
variable {prog : Program} {w : World} {A : Around} {E : Value → Shared → Prop} {s : Shared} {K : PySem.W.Frag} {x y C C' L f : Addr} {h₀ : Heap} {m : Str → Option Value} {ox oy : Obj} {od od' : Option Obj}
end
section
variable {X : Cx} {J : Gh} {M : Mem} {P : D → Mem → Prop}
/-- a text's index of a text -/
def dSidx : D → D → Option D
  | .str z, .str y => match Builtin.Str.occurrences z y 0 z.length 1 with
    | i :: _ => some (.int ((i : Nat) : Int))
    | [] => none
  | _, _ => none
end
end DX
namespace TupNe
open PySem PySem.SeqAt
open AutoSeq1 (wpAny_loadPart')
open MeetsSeq MeetsSeq2 MeetsSeq3 SeqRoads2
section
variable {prog : Program} {w : World} {A : Around} {R : Result → Shared → Prop}
end
section
variable {prog : Program} {w : World} {A : Around} {E : Value → Shared → Prop} {s : Shared}
end
end TupNe
namespace DX
open PySem PySem.Spec L2 PyProof.Rows StX
section
variable {X : Cx} {J : Gh} {M : Mem} {P : D → Mem → Prop} {pins : List (Addr × Obj)} {σ : L2.St} {F : Hp} {k : Nat} {C g : Addr} {T : TrX}
/-- behind some calls that make objects alone -/
def IvX (X : Cx) (pins : List (Addr × Obj)) (σ : L2.St) (F : Hp) (M : Mem) (s' : Shared) : Prop := ∃ H' F', L2.Inv X pins σ H' s' ∧ Same F F' ∧ Ok X.K F' M H'
/-- one by one the same, by f -/
def eqAllT (f : D → D → Option Unit) : List D → List D → Option Unit
  | [], [] => some ()
  | a :: as, b :: bs => (f a b).bind fun _ => eqAllT f as bs
  | _, _ => none
def itemsT : D → Option (List D)
  | .tup ds => some ds
  | _ => none
end
end DX
namespace DX
open PySem PySem.Spec
section
variable {prog : Program} {w : World} {M : Model} {A : Around} {E : Value → Shared → Prop} {R : Result → Shared → Prop} {h : Heap} {g : Array GenState} {d : Drawn} {t : Nat} {os : OsState} {kw : List (Str × Value)}
variable {nm q : Str} {C N : Addr} {bs bm bmB : List Value} {hdct : Bool} {sn : List Str} {sub : List Value} {ab : Bool} {col : Option Bool} {dd : Option Addr} {k0 k1 k2 k3 k5 : Option Value} {B newId initId : String}
theorem check_new_kw (F : ExcBaseFacts B newId initId bmB) (hT : ∀ X : String, bm.contains (.type X) = bmB.contains (.type X)) {rest : List Value} {Q : Unit → Shared → Prop}
    (hC : h.get? C = some (excClassObj nm q C N bs bm hdct sn sub ab col dd k0 k1 k2 k3 k5 newId)) (hq : Q () ⟨h, g, d, t, os⟩) : wpAny M A (checkBuiltinCall newId ⟨.ref C :: rest, kw⟩) Q E ⟨h, g, d, t, os⟩ := by
  have hcont : (Value.ref C :: bm).contains (.type B) = true := by rw [List.contains_cons, hT, F.hasB, Bool.or_true]
  have hstar := F.noStar
  simp only [checkBuiltinCall, F.newKind, F.newSplit, F.newRow]
  repeat (first | refine wpAny_loadPart_at hC ?_ | (refine wpAny_isSubtype_exc hC ?_; rw [hcont]) | refine wpAny_staticBase_exc hC ?_ | refine wpAny_madeBy_exc hC ?_ | simp only [bne_self_eq_false, Bool.false_eq_true, if_false] | wp_step)
  exact hq
theorem new_kw (F : ExcBaseFacts B newId initId bmB) (hT : ∀ X : String, bm.contains (.type X) = bmB.contains (.type X)) {rest : List Value}
    (hC : h.get? C = some (excClassObj nm q C N bs bm hdct sn sub ab col dd k0 k1 k2 k3 k5 newId))
    (hq : R (.ok (.ret (.ref (h.objs.size + 1)))) ⟨(h.push { cls := .type "tuple", data := .seq rest.toArray }).push
      { cls := .ref C, data := .fields #[.ref h.objs.size, .none, .none, .none, .bool false, .none] }, g, d, t, os⟩) (hrest : rest.length ≤ sizeLine) :
    codeAny (model prog w) A (.builtin newId ⟨.ref C :: rest, kw⟩) R ⟨h, g, d, t, os⟩ := by
  have hends := F.ends
  have hcB : (Value.ref C :: bm).contains (.type B) = true := by rw [List.contains_cons, hT, F.hasB, Bool.or_true]
  have hcA : (Value.ref C :: bm).contains (.type "AttributeError") = false := by rw [List.contains_cons, hT, F.noAttr]; rfl
  have hcN : (Value.ref C :: bm).contains (.type "NameError") = false := by rw [List.contains_cons, hT, F.noName]; rfl
  refine codeAny_builtinAt F.entry ?_
  unfold Builtin.«BaseException.__new__»
  refine wpAt_bind ?_
  show wpAt _ _ _ (stack >>= _) _ _ _
  refine wpAt_bind (wpAt_stack fun p below => wpAt_of_wpAny ?_)
  wp_walk
  refine wpAt_of_wpAny ?_
  rw [F.owner]
  repeat (first | with_reducible refine wpAny_madeHere_exc F.canon hC ?_ | with_reducible refine wpAny_loadPart_at hC ?_ | (with_reducible refine wpAny_isSubtype_exc hC ?_; first | rw [hcB] | rw [hcA] | rw [hcN]) | wp_step)
  show R _ _
  rw [Heap.size_push]
  exact hq
theorem type_call_kw (F : ExcBaseFacts B newId initId bmB) (hT : ∀ X : String, bm.contains (.type X) = bmB.contains (.type X)) {rest : List Value} {fI : Addr} {Q : Fin → Shared → Prop}
    (hC : h.get? C = some (excClassObj nm q C N bs bm hdct sn sub ab col dd k0 k1 k2 k3 k5 newId))
    (hi : W.Looks (model prog w) h (typeLookup (.ref C) "__init__") (some (.ref fI))) (hb : ∀ self, W.Looks (model prog w) h (bindSpecial (.ref fI) self) (.ref fI, [self])) (hrest : rest.length ≤ sizeLine)
    (hq : codeAny (model prog w) A (.call (.ref fI) ⟨.ref (h.objs.size + 1) :: rest, kw⟩)
      (fun r s' => match r with | .ok (.ret v) => v = .none ∧ Q (.done (.ret (.ref (h.objs.size + 1)))) s' | .ok _ => False | .error e => E e s')
      ⟨(h.push (W.kdv_tup rest)).push (HandSPX.excO C h.objs.size), g, d, t, os⟩) :
    wpAny (model prog w) A (Builtin.«type.__call__» ⟨.ref C :: rest, kw⟩) Q E ⟨h, g, d, t, os⟩ := by
  repeat (first | with_reducible refine wpAny_loadPart_at hC ?_ | with_reducible refine wpAny_madeBy_exc hC ?_ | wp_step)
  refine codeAny_call_builtin_code (Code.quiet_builtin _ F.quiet) (check_new_kw F hT hC ?_)
  refine new_kw F hT hC ?_ hrest
  show wpAny _ _ _ _ _ _
  have k : ∀ b o, h.get? b = some o → ((h.push (W.kdv_tup rest)).push (HandSPX.excO C h.objs.size)).get? b = some o := fun b o e => Heap.get?_push_of_some _ (Heap.get?_push_of_some _ e)
  have hC₁ := k _ _ hC
  have hget : ((h.push (W.kdv_tup rest)).push (HandSPX.excO C h.objs.size)).get? (h.objs.size + 1) = some (HandSPX.excO C h.objs.size) := by heap_get
  have hcC : (Value.ref C :: bm).contains (.ref C) = true := by simp
  have i1 := hi.keeps k
  have b1 := (hb (.ref (h.objs.size + 1))).keeps k
  unfold isInstance
  repeat (first | with_reducible refine wpAny_loadPart_at hget ?_ | (with_reducible refine wpAny_isSubtype_exc hC₁ ?_; rw [hcC]) | wp_step)
  show wpAny _ _ (typeLookup (.ref C) _) _ _ _
  refine i1.at ?_
  refine wpAny_holding (wpAny_bind (b1.at ?_))
  refine wpAny_bind (wpAny_call (codeAny_mono hq fun r s' z => ?_))
  rcases r with e | (v | _ | _ | _) <;> first | exact z | exact z.elim | skip
  obtain ⟨rfl, z⟩ := z
  first
    | exact wpAny_pure (wpAny_pure z)
    | (wp_walk; exact z)
theorem check_type_kw {rest : List Value} {Q : Unit → Shared → Prop} (hC : h.get? C = some (excClassObj nm q C N bs bm hdct sn sub ab col dd k0 k1 k2 k3 k5 newId))
    (hq : Q () ⟨h, g, d, t, os⟩) : wpAny M A (checkBuiltinCall "type.__call__" ⟨.ref C :: rest, kw⟩) Q E ⟨h, g, d, t, os⟩ := by
  have f3 := tc_sub
  have hT : (⟨h, g, d, t, os⟩ : Shared).TypeIs (.ref C) "type" := ⟨_, hC, rfl⟩
  simp only [checkBuiltinCall, tc_kind, tc_split]
  repeat (any_goals (first | assumption | with_reducible refine wpAny_loadPart_at hC ?_ | with_reducible refine wpAny_onRaise ?_ | with_reducible refine wpAny_map ?_ | wp_step))
theorem call_kw (F : ExcBaseFacts B newId initId bmB) (hT : ∀ X : String, bm.contains (.type X) = bmB.contains (.type X)) {rest : List Value} {fI : Addr}
    (hC : h.get? C = some (excClassObj nm q C N bs bm hdct sn sub ab col dd k0 k1 k2 k3 k5 newId))
    (hi : W.Looks (model prog w) h (typeLookup (.ref C) "__init__") (some (.ref fI))) (hb : ∀ self, W.Looks (model prog w) h (bindSpecial (.ref fI) self) (.ref fI, [self])) (hrest : rest.length ≤ sizeLine)
    (hq : codeAny (model prog w) (A.under (.builtin "type.__call__" ⟨.ref C :: rest, kw⟩)) (.call (.ref fI) ⟨.ref (h.objs.size + 1) :: rest, kw⟩) (W.InitBack (h.objs.size + 1) R)
      ⟨(h.push (W.kdv_tup rest)).push (HandSPX.excO C h.objs.size), g, d, t, os⟩) :
    codeAny (model prog w) A (.call (.ref C) ⟨rest, kw⟩) R ⟨h, g, d, t, os⟩ := by
  have f1 := tc_lookup
  have f2 := tc_bind (.ref C)
  have hTy : (⟨h, g, d, t, os⟩ : Shared).TypeIs (.ref C) "type" := ⟨_, hC, rfl⟩
  refine codeAny_of_tree ?_
  show wpAny _ _ (callAny (.ref C) _) _ _ _
  repeat (any_goals (first | assumption | with_reducible refine wpAny_loadPart_at hC ?_ | wp_step))
  refine ⟨rfl, ?_⟩
  refine codeAny_call_builtin_at (Code.quiet_builtin _ (by decide +kernel)) entry_typeCall (check_type_kw hC (type_call_kw F hT hC hi hb hrest ?_))
  refine codeAny_mono hq fun r s' z => ?_
  rcases r with e | (v | _ | _ | _) <;> exact z
end
open L2 PyProof.Rows StX
section
variable {X : Cx} {J : Gh} {e a b o : Expr} {es : List Expr} {kws : List Keyword} {ks : List Str} {ρ : DEnv} {M M1 M2 : Mem} {F F' H H1 H' : Hp} {σ : L2.St} {K : PySem.W.Frag} {pos p rpos : Pos} {x f f1 f2 : Str} {newId : String} {bmB : List Value} {C g : Addr} {fd : FuncData} {ps : List Str} {P : D → Mem → Prop} {pins : List (Addr × Obj)} {s : Shared}
/-- an error that was made stands -/
theorem mk_val {Q : VK} {u : Value} {s' : Shared} (hex : X.ex = []) (h : MkP X pins σ (fun cls d H' => ∃ C, cls = .ref C ∧ ∀ a, H' a = none → Q (.ref a) (upd H' a (exH a C d))) u s') : EP X pins σ Q u s' := by
  obtain ⟨a, oe, vs, sI, H', cls, d, rfl, J, k, hne, ha, hz, hd, h1, na, os, ag, r, C, rfl, q⟩ := h
  have J5 : L2.Inv X pins σ H' s' := J.landed (B := sI.heap) (fun _ _ z _ => z) k (Heap.UpToSlots.of_keeps k) os ag
  have n0 : X.s_0.heap.get? a = none := by
    cases q : X.s_0.heap.get? a with
    | none => rfl
    | some o =>
      have hx : a ∉ X.ex := fun m => by rw [hex] at m; cases m
      obtain ⟨o', q'⟩ := J.base.there a o q hx
      rw [hne] at q'; cases q'
  have nL : a ≠ X.env.locals := fun z => by
    obtain ⟨m, ⟨o, es, ep, e1, _⟩, _⟩ := J.loc
    rw [← z, hne] at e1; cases e1
  have np : ∀ p ∈ X.pn ++ pins, p.1 ≠ a := fun p hp z => by
    have := (J.pin p hp).1
    rw [z, hne] at this; cases this
  exact ⟨.ref a, _, adopt (C := C) (d := d) J5 ha hz.1 hz.2 hd na n0 nL np, rfl, q a na⟩
/-- the arguments by place, by name, two by name the other way round -/
structure Sel (gs : {α : Type} → List α → List α → List α) : Prop where
  v : ∀ {vs : List V} {us : List Value} {xs : List V} {ws : List Value}, Vals vs us → Vals xs ws → Vals (gs vs xs) (gs us ws)
  r : ∀ {K : PySem.W.Frag} {F : Hp} {vs xs : List V} {ds zs : List D}, Rps K F vs ds → Rps K F xs zs → Rps K F (gs vs xs) (gs ds zs)
def selP {α : Type} (a b : List α) : List α := a
def selK {α : Type} (a b : List α) : List α := b
def selR {α : Type} (a b : List α) : List α := match b with
  | [x, y] => [y, x]
  | l => l
theorem sel_P : Sel selP := ⟨fun r _ => r, fun r _ => r⟩
theorem sel_K : Sel selK := ⟨fun _ r => r, fun _ r => r⟩
theorem sel_R : Sel selR := ⟨fun _ r => by
  cases r with
  | nil => exact .nil
  | cons r1 r =>
    cases r with
    | nil => exact .cons r1 .nil
    | cons r2 r =>
      cases r with
      | nil => exact .cons r2 (.cons r1 .nil)
      | cons r3 r => exact .cons r1 (.cons r2 (.cons r3 r)), fun _ r => by
  cases r with
  | nil => exact .nil
  | cons r1 r =>
    cases r with
    | nil => exact .cons r1 .nil
    | cons r2 r =>
      cases r with
      | nil => exact .cons r2 (.cons r1 .nil)
      | cons r3 r => exact .cons r1 (.cons r2 (.cons r3 r))⟩
theorem err_call {CX : CXT} {k : Nat} {sp : Sp} {us ws all : List Value} {av : List V} {Q : XK} (T : OexG newId bmB X.K C) (Ba : Bas newId bmB) (iC : PySem.W.findIn X.K (.ref C) "__init__" = some (some (.ref g))) (tI : PySem.W.typeIn X.K (.ref g) = some (.type "function")) (G : FnOk X.prog X.w X.K X.mg X.base CX k g fd ps sp) (hr : Room (k + 1) X.A)
    (hb : ∀ (s : Shared) (q : Value), X.K.In s.heap → BindsTo s fd ⟨q :: us, ks.zip ws⟩ (ps.zip (q :: all))) (hx : Passes CX X (fun _ _ _ => False)) (I1 : L2.Inv X pins σ H1 s) (ra : Vals av all) (hus : us.length ≤ sizeLine)
    (q1 : ∀ a, H1 a = none → sp (.ref a :: av) (upd H1 a (exo a C none)) (fun v H2 => v = .non ∧ ∃ d fs, H2 a = some (exo a C (some d)) ∧ H2 d = some (exd d fs) ∧ H1 d = none ∧ Q (.ref C) (some d) (upd (del H2 a) d (.xd fs))) (fun _ _ _ => False)) :
    wpAny (model X.prog X.w) X.A (call (.ref C) us (ks.zip ws)) (MkP X pins σ Q) X.xe s := by
  obtain ⟨BN, initId, EB, _⟩ := Ba.ex
  obtain ⟨nm, q, N, bs, bm, sn, sub, ab, col, dd, k0, k1, k2, k3, k5, hC, tl⟩ := T.cls
  obtain ⟨hp, gg, dr, tk, os⟩ := s
  have up : hp.objs.size ≤ hp.objs.size + 1 := Nat.le_succ _
  have hn : H1 (hp.objs.size + 1) = none := I1.hok.fresh up
  have want := q1 (hp.objs.size + 1) hn
  have keep : ∀ b o, hp.get? b = some o → ((hp.push (PySem.W.kdv_tup us)).push (PySem.HandSPX.excO C hp.objs.size)).get? b = some o := fun b o z => Heap.get?_push_of_some _ (Heap.get?_push_of_some _ z)
  have there : ((hp.push (PySem.W.kdv_tup us)).push (PySem.HandSPX.excO C hp.objs.size)).get? (hp.objs.size + 1) = some (PySem.HandSPX.excO C hp.objs.size) := by heap_get
  have I2 : L2.Inv X pins σ (upd H1 (hp.objs.size + 1) (exo (hp.objs.size + 1) C none)) ⟨(hp.push (PySem.W.kdv_tup us)).push (PySem.HandSPX.excO C hp.objs.size), gg, dr, tk, os⟩ :=
    I1.laid (t' := tk) (a := hp.objs.size + 1) (o := exo (hp.objs.size + 1) C none) keep up (exo_ok there)
  have r2 : Vals (V.ref (hp.objs.size + 1) :: av) (Value.ref (hp.objs.size + 1) :: all) := .cons rfl ra
  refine wpAny_call (call_kw EB (fun Y => PySem.W.excTail_contains Y bm tl) (I1.kIn _ _ hC) (PySem.W.looks_findIn I1.kIn iC) (fun self => PySem.W.bind_fn I1.kIn self tI) hus
    (codeAny_mono (G.run _ X.stack _ _ ⟨Value.ref (hp.objs.size + 1) :: us, ks.zip ws⟩ _ _ _ (fun _ _ _ => False) (hr.make C us (ks.zip ws)) (I2.env0.make C us (ks.zip ws)) (hb _ _ I2.kIn) r2 want) fun res s' end_ => ?_))
  match res, end_ with
  | .error er, end_ => exact hx pins σ _ _ er s' I2 end_
  | .ok (.ret u), end_ =>
    obtain ⟨v, H2, os2, bare2, un2, hok2, rv, ev, d, fs, ea, ed, hd1, q2⟩ := end_
    subst ev
    obtain ⟨h2, g2, d2, t2, os'⟩ := s'
    exact ⟨rv, mk_end (raises_own T.exC T.tyC) I1 up keep un2 hok2 os2 bare2 ea ed hd1 q2⟩
  | .ok .next, end_ => exact end_.elim
  | .ok .brk, end_ => exact end_.elim
  | .ok .cont, end_ => exact end_.elim
theorem ex_err1 {qual : Str} {params : Arguments} {body : List Stmt} {scope : Scope} {s1 v1 : Str} {C : Str} {gs : {α : Type} → List α → List α → List α} (Se : Sel gs) (T : ErrC newId bmB X.K C) (Ba : Bas newId bmB) (F : FunD X.K "__init__" qual params body scope [] [] (He.fAd X.K (C, some "__init__")) fd) (S : FnScope [s1, v1] [s1, v1] scope)
    (hb : ∃ p1 p2 p3 p4, body = [.Assign [.Attribute (.Name s1 p1) f p2] (.Name v1 p3) p4]) (hno : PySem.W.findIn X.K (.ref (He.ga X.K C)) f = some none) (hr : Room 2 X.A) (n : Nat)
    (hbi : ∀ (kV doc pm : Value) (an : Option Addr) (cdv ct : Value) (q : Value) (us ws : List Value), us.length = n → ws.length = ks.length → bindArgs (PySem.W.fnOf "__init__" qual params body scope .none kV doc pm an cdv ct) ⟨q :: us, ks.zip ws⟩ = pure ([s1, v1].zip (q :: gs us ws)))
    (hm : X.mg C = some (.ref (He.ga X.K C)))
    (h : EvA X J pos es kws ks ρ M fun ds zs M1 => ∃ d, (ds.length = n ∧ n ≤ 900) ∧ gs ds zs = [d] ∧ P (.exn (He.ga X.K C) [(f, d)]) M1) (hg : Gl X C := by rfl) (hdb : (C == ("__debug__" : Str)) = false := by decide) (hex : X.ex = [] := by rfl)
    (n1 : (s1 == ("__debug__" : Str)) = false := by decide) (n2 : (v1 == ("__debug__" : Str)) = false := by decide) (n3 : (s1 == ("__classdict__" : Str)) = false := by decide) (n4 : (v1 == ("__classdict__" : Str)) = false := by decide) : EX X J (.Call (.Name C p) es kws pos) ρ M P := by
  refine ⟨fun pins s σ H Q I ⟨F0, st, kt⟩ => ?_⟩
  refine wpAny_Call_Name_kw (ld_glob I hg hm ?_ hdb)
  refine cwAny (PySem.W.keeps_K T.oex.kC) (h _ pins σ H F0 s _ I st fun us ws vs xs ds zs F2 M2 H2 s2 I2 e2 o2 r rx rd rz hl ⟨d, ⟨hn, hn9⟩, hd, q⟩ => ⟨I2.kIn, ?_⟩)
  have l1 : us.length = n := by rw [← r.length, rd.length]; exact hn
  have l2 : ws.length = ks.length := by rw [← rx.length, rz.length]; exact hl
  have rs := Se.r rd rz
  have rv := Se.v r rx
  rw [hd] at rs
  refine wpAny_mono (err_call (ks := ks) (all := gs us ws) (av := gs vs xs) (CX := L2.CX X.prog X.w) T.oex Ba T.ini T.fn (init1 F S hb T.oex Ba hno n1 n2 n3 n4) hr (fun s' q _ => ?_) pass_no I2 rv (by show us.length ≤ sizeLine; rw [l1, sizeLine_eq]; omega) fun a ha => ?_) (fun u s' hu => mk_val (Q := Q) hex hu) fun _ _ z => z
  · obtain ⟨oc, od, dV, kV, doc, pm, an, cdv, ct, osl, rfl, lk, hcd, hD, hK⟩ := F.ex
    rcases hD with ⟨_, rfl⟩ | ⟨e, _⟩
    · exact .of_eq (hbi kV doc pm an cdv ct q us ws l1 l2)
    · exact absurd rfl e
  · revert rs rv
    generalize gs vs xs = av
    intro rs rv
    cases rs with
    | @cons y _ _ _ rd rn =>
      cases rn
      refine ⟨a, _, rfl, upd_same, fun dx hdx ne => ⟨rfl, dx, _, upd_same, by rw [upd_ne ne, upd_same], by rw [upd_ne ne] at hdx; exact hdx, ?_⟩⟩
      rw [upd_ne ne] at hdx
      rw [backG ha]
      refine ⟨_, rfl, fun a' ha' => ?_⟩
      have s1 := o2.fixSame (o := .xd [(f, y)]) hdx
      have o3 := o2.fix (o := .xd [(f, y)]) hdx
      have s2 := o3.fixSame (o := exH a' (He.ga X.K C) (some dx)) ha'
      exact kt _ _ _ _ _ q ((e2.trans s1).trans s2) (o3.fix ha') (.exn upd_same (.inr ⟨dx, rfl, s2 _ _ upd_same⟩) (.cons (rd.mono (s1.trans s2)) .nil))
theorem ex_err2 {qual : Str} {params : Arguments} {body : List Stmt} {scope : Scope} {s1 v1 v2 : Str} {C : Str} {gs : {α : Type} → List α → List α → List α} (Se : Sel gs) (T : ErrC newId bmB X.K C) (Ba : Bas newId bmB) (F : FunD X.K "__init__" qual params body scope [] [] (He.fAd X.K (C, some "__init__")) fd) (S : FnScope [s1, v1, v2] [s1, v1, v2] scope)
    (hb : ∃ p1 p2 p3 p4 p5 p6 p7 p8, body = [.Assign [.Attribute (.Name s1 p1) f1 p2] (.Name v1 p3) p4, .Assign [.Attribute (.Name s1 p5) f2 p6] (.Name v2 p7) p8]) (hno : PySem.W.findIn X.K (.ref (He.ga X.K C)) f1 = some none) (hno2 : PySem.W.findIn X.K (.ref (He.ga X.K C)) f2 = some none) (hr : Room 2 X.A) (n : Nat)
    (hbi : ∀ (kV doc pm : Value) (an : Option Addr) (cdv ct : Value) (q : Value) (us ws : List Value), us.length = n → ws.length = ks.length → bindArgs (PySem.W.fnOf "__init__" qual params body scope .none kV doc pm an cdv ct) ⟨q :: us, ks.zip ws⟩ = pure ([s1, v1, v2].zip (q :: gs us ws)))
    (hm : X.mg C = some (.ref (He.ga X.K C)))
    (h : EvA X J pos es kws ks ρ M fun ds zs M1 => ∃ d d2, (ds.length = n ∧ n ≤ 900) ∧ gs ds zs = [d, d2] ∧ P (.exn (He.ga X.K C) [(f2, d2), (f1, d)]) M1) (hg : Gl X C := by rfl) (hdb : (C == ("__debug__" : Str)) = false := by decide) (hex : X.ex = [] := by rfl)
    (n1 : (s1 == ("__debug__" : Str)) = false := by decide) (n2 : (v1 == ("__debug__" : Str)) = false := by decide) (n3 : (s1 == ("__classdict__" : Str)) = false := by decide) (n4 : (v1 == ("__classdict__" : Str)) = false := by decide) (n5 : (v2 == ("__debug__" : Str)) = false := by decide) (n6 : (v2 == ("__classdict__" : Str)) = false := by decide) : EX X J (.Call (.Name C p) es kws pos) ρ M P := by
  refine ⟨fun pins s σ H Q I ⟨F0, st, kt⟩ => ?_⟩
  refine wpAny_Call_Name_kw (ld_glob I hg hm ?_ hdb)
  refine cwAny (PySem.W.keeps_K T.oex.kC) (h _ pins σ H F0 s _ I st fun us ws vs xs ds zs F2 M2 H2 s2 I2 e2 o2 r rx rd rz hl ⟨d, d2, ⟨hn, hn9⟩, hd, q⟩ => ⟨I2.kIn, ?_⟩)
  have l1 : us.length = n := by rw [← r.length, rd.length]; exact hn
  have l2 : ws.length = ks.length := by rw [← rx.length, rz.length]; exact hl
  have rs := Se.r rd rz
  have rv := Se.v r rx
  rw [hd] at rs
  refine wpAny_mono (err_call (ks := ks) (all := gs us ws) (av := gs vs xs) (CX := L2.CX X.prog X.w) T.oex Ba T.ini T.fn (init2 F S hb T.oex Ba hno hno2 n1 n2 n3 n4 n5 n6) hr (fun s' q _ => ?_) pass_no I2 rv (by show us.length ≤ sizeLine; rw [l1, sizeLine_eq]; omega) fun a ha => ?_) (fun u s' hu => mk_val (Q := Q) hex hu) fun _ _ z => z
  · obtain ⟨oc, od, dV, kV, doc, pm, an, cdv, ct, osl, rfl, lk, hcd, hD, hK⟩ := F.ex
    rcases hD with ⟨_, rfl⟩ | ⟨e, _⟩
    · exact .of_eq (hbi kV doc pm an cdv ct q us ws l1 l2)
    · exact absurd rfl e
  · revert rs rv
    generalize gs vs xs = av
    intro rs rv
    cases rs with
    | @cons y _ _ _ rd rn =>
      cases rn with
      | @cons z _ _ _ rd2 rn =>
        cases rn
        refine ⟨a, _, _, rfl, upd_same, fun dx hdx ne => ⟨rfl, dx, _, by rw [upd_ne (Ne.symm ne), upd_same], upd_same, by rw [upd_ne ne] at hdx; exact hdx, ?_⟩⟩
        rw [upd_ne ne] at hdx
        rw [backH ha]
        refine ⟨_, rfl, fun a' ha' => ?_⟩
        have s1 := o2.fixSame (o := .xd [(f2, z), (f1, y)]) hdx
        have o3 := o2.fix (o := .xd [(f2, z), (f1, y)]) hdx
        have s2 := o3.fixSame (o := exH a' (He.ga X.K C) (some dx)) ha'
        exact kt _ _ _ _ _ q ((e2.trans s1).trans s2) (o3.fix ha') (.exn upd_same (.inr ⟨dx, rfl, s2 _ _ upd_same⟩) (.cons (rd2.mono (s1.trans s2)) (.cons (rd.mono (s1.trans s2)) .nil)))
/-- an own error class without an own __init__ -/
structure ErrN (newId : String) (bmB : List Value) (K : PySem.W.Frag) (C : Str) : Prop where
  exc : PySem.W.excIn K (He.ga K C) bmB newId = true
  kC : PySem.W.keepIn K (.ref (He.ga K C)) = true
  exC : PySem.W.subIn K (.ref (He.ga K C)) (.type "BaseException") = some true
  tyC : PySem.W.typeIn K (.ref (He.ga K C)) = some (.type "type")
theorem errNB_ok {newId : String} {bmB : List Value} {K : PySem.W.Frag} {C : Str} (h : errNB newId bmB K C = true) : ErrN newId bmB K C := by
  obtain ⟨h1, h⟩ := He.ba h
  obtain ⟨h2, h⟩ := He.ba h
  obtain ⟨h3, h4⟩ := He.ba h
  exact ⟨h1, h2, of_decide_eq_true h3, of_decide_eq_true h4⟩
theorem ex_err0 {C : Str} (T : ErrN newId bmB X.K C) (Ba : Bas newId bmB) (hm : X.mg C = some (.ref (He.ga X.K C))) (q : P (.exn (He.ga X.K C) []) M) (hg : Gl X C := by rfl) (hdb : (C == ("__debug__" : Str)) = false := by decide) (hex : X.ex = [] := by rfl)
    (hall : (backToKw pos (keywordEach [] X.env)).all (·.1.isSome) = true := by rfl) (hks : (backToKw pos (keywordEach [] X.env)).filterMap (·.1) = [] := by rfl) : EX X J (.Call (.Name C p) [] [] pos) ρ M P := by
  refine ⟨fun pins s σ H Q I ⟨F0, st, kt⟩ => ?_⟩
  refine wpAny_Call_Name_kw (ld_glob I hg hm ?_ hdb)
  obtain ⟨_, _, EB, _⟩ := Ba.ex
  have ev : EvA X J pos [] [] [] ρ M (fun ds zs M1 => ds = [] ∧ P (.exn (He.ga X.K C) []) M1) := ev_0 (kx_nil ⟨rfl, rfl, q⟩) hall hks
  refine cwAny (PySem.W.keeps_K T.kC) (ev _ pins σ H F0 s _ I st fun us ws vs xs ds zs F2 M2 H2 s2 I2 e2 o2 r rx rd rz hl ⟨hd, q⟩ => ⟨I2.kIn, ?_⟩)
  subst hd
  cases rd
  cases r
  obtain ⟨bm, N, nm, qn, bs, hdct, sn, sub, ab, col, dd, k0, k1, k2, k3, k5, mN, hC, hN, hni, TT⟩ := exc_obj I2.kIn T.exc
  refine wpAny_mono (Q := MkP X pins σ fun cls d H' => ∃ C', cls = .ref C' ∧ ∀ a, H' a = none → Q (.ref a) (upd H' a (exH a C' d))) (wpAny_call_exc_subT EB TT hC hN hni (fun h' e hm => mk_of I2 hm (raises_own T.exC T.tyC) ⟨_, rfl, fun a' ha' => ?_⟩ (I2.hok.gone hm.new)) (by show ([] : List Value).length ≤ sizeLine; rw [sizeLine_eq]; exact Nat.zero_le _)) (fun u s' hu => mk_val (Q := Q) hex hu) fun _ _ z => z
  have s2 := o2.fixSame (o := exH a' (He.ga X.K C) none) ha'
  exact kt _ _ _ _ _ q (e2.trans s2) (o2.fix ha') (.exn (fs := []) upd_same (.inl ⟨rfl, rfl⟩) .nil)
end
end DX
namespace DX
/-- what a name holds, perhaps: o is known of it -/
def OptIs (o j : Option D) : Prop := ∀ v, o = some v → j = some v
end DX
namespace DX
open PySem PySem.Spec L2 SX
section
variable {i j : Int} {a b : Str} {l m : List D} {x y : D} {p q : Bool}
@[simp] theorem chk_true {α : Type} {x : α} : chk True x = some x := chk_pos trivial
@[simp] theorem dAdd_ii : dAdd (.int i) (.int j) = some (.int (i + j)) := rfl
@[simp] theorem dAdd_ll : dAdd (.lst l) (.lst m) = chk (l.length + m.length ≤ 1000000) (.lst (l ++ m)) := rfl
@[simp] theorem dAdd_tt : dAdd (.tup l) (.tup m) = chk (l.length + m.length ≤ 1000000) (.tup (l ++ m)) := rfl
@[simp] theorem dAdd_ss : dAdd (.str a) (.str b) = chk (a.length + b.length ≤ 1000000) (.str (a ++ b)) := rfl
@[simp] theorem lAdd_ll : lAdd (.lst l) (.lst m) = chk (l.length + m.length ≤ 1000000) (l ++ m) := rfl
@[simp] theorem dSub_ii : dSub (.int i) (.int j) = some (.int (i - j)) := rfl
@[simp] theorem dMul_ii : dMul (.int i) (.int j) = chk (CMul i j) (.int (i * j)) := rfl
@[simp] theorem dMul_li : dMul (.lst l) (.int j) = chk ((-(2 ^ 62) ≤ j ∧ j < 2 ^ 62) ∧ l.length * j.toNat ≤ 1000000) (.lst (List.replicate j.toNat l).flatten) := rfl
@[simp] theorem lMul_li : lMul (.lst l) (.int j) = chk ((-(2 ^ 62) ≤ j ∧ j < 2 ^ 62) ∧ l.length * j.toNat ≤ 1000000) (List.replicate j.toNat l).flatten := rfl
@[simp] theorem dFdiv_ii : dFdiv (.int i) (.int j) = chk (CDiv i j) (.int (i / j)) := rfl
@[simp] theorem dMod_ii : dMod (.int i) (.int j) = chk (0 < j) (.int (i % j)) := rfl
@[simp] theorem dPow_ii : dPow (.int i) (.int j) = chk (CPow i j) (.int (i ^ j.toNat)) := rfl
@[simp] theorem dShl_ii : dShl (.int i) (.int j) = chk (CPow i j) (.int (i * 2 ^ j.toNat)) := rfl
@[simp] theorem dShr_ii : dShr (.int i) (.int j) = chk (0 ≤ j) (.int (i / 2 ^ j.toNat)) := rfl
@[simp] theorem dBand_ii : dBand (.int i) (.int j) = some (.int (Builtin.bitAnd i j)) := rfl
@[simp] theorem dBor_ii : dBor (.int i) (.int j) = some (.int (Builtin.bitOr i j)) := rfl
@[simp] theorem dBxor_ii : dBxor (.int i) (.int j) = some (.int (Builtin.bitXor i j)) := rfl
@[simp] theorem dNeg_i : dNeg (.int i) = some (.int (-i)) := rfl
@[simp] theorem dInv_i : dInv (.int i) = some (.int (Builtin.bitNot i)) := rfl
@[simp] theorem cLt_ii : cLt (.int i) (.int j) = some (decide (i < j)) := rfl
@[simp] theorem cLe_ii : cLe (.int i) (.int j) = some (decide (i ≤ j)) := rfl
@[simp] theorem cGt_ii : cGt (.int i) (.int j) = some (decide (j < i)) := rfl
@[simp] theorem cGe_ii : cGe (.int i) (.int j) = some (decide (j ≤ i)) := rfl
@[simp] theorem cEq_ii : cEq (.int i) (.int j) = some (decide (i = j)) := rfl
@[simp] theorem cEq_bb : cEq (.bl p) (.bl q) = some (decide (p = q)) := rfl
@[simp] theorem cEq_ss : cEq (.str a) (.str b) = some (decide (a = b)) := rfl
@[simp] theorem cEq_si : cEq (.str a) (.int j) = some false := rfl
@[simp] theorem cEq_is : cEq (.int j) (.str a) = some false := rfl
@[simp] theorem cEq_bs : cEq (.bl p) (.str a) = some false := rfl
@[simp] theorem cEq_sb : cEq (.str a) (.bl p) = some false := rfl
@[simp] theorem cEq_nn : cEq .non .non = some true := rfl
@[simp] theorem cEq_ni : cEq .non (.int j) = some false := rfl
@[simp] theorem cEq_in : cEq (.int j) .non = some false := rfl
@[simp] theorem cEq_ns : cEq .non (.str a) = some false := rfl
@[simp] theorem cEq_sn : cEq (.str a) .non = some false := rfl
@[simp] theorem cNe_of {x y : D} : cNe x y = (cEq x y).map (!·) := rfl
@[simp] theorem cNin_of {x y : D} : cNin x y = (cIn x y).map (!·) := rfl
@[simp] theorem cIsnt_of {x y : D} : cIsnt x y = (cIs x y).map (!·) := rfl
@[simp] theorem cIs_bb : cIs (.bl p) (.bl q) = some (decide (p = q)) := rfl
@[simp] theorem cIs_nn : cIs .non .non = some true := rfl
@[simp] theorem cIs_tn : cIs (.tup l) .non = some false := rfl
@[simp] theorem cIs_ln : cIs (.lst l) .non = some false := rfl
@[simp] theorem cIs_in : cIs (.int i) .non = some false := rfl
@[simp] theorem cIs_sn : cIs (.str a) .non = some false := rfl
@[simp] theorem dTru_b : dTru (.bl p) = some p := rfl
@[simp] theorem dTru_i : dTru (.int i) = some (i != 0) := rfl
@[simp] theorem dTru_l : dTru (.lst l) = some (!l.isEmpty) := rfl
@[simp] theorem dTru_t : dTru (.tup l) = some (!l.isEmpty) := rfl
@[simp] theorem dTru_n : dTru .non = some false := rfl
@[simp] theorem dIx_li : dIx (.lst l) (.int i) = atI l i := rfl
@[simp] theorem dIx_ti : dIx (.tup l) (.int i) = atI l i := rfl
@[simp] theorem dIx_si : dIx (.str a) (.int i) = (atI a.cps.toList i).bind fun n => chk (a.length ≤ 1000000) (.str ⟨#[n]⟩) := rfl
@[simp] theorem dEnd_i : dEnd (.int i) = some i := rfl
@[simp] theorem dCut_l {u v : Option Int} : dCut (.lst l) u v = some (.lst (cutD l u v)) := rfl
@[simp] theorem dCut_t {u v : Option Int} : dCut (.tup l) u v = some (.tup (cutD l u v)) := rfl
@[simp] theorem dCut_s {u v : Option Int} : dCut (.str a) u v = chk (a.cps.toList.length ≤ 1000000) (.str (S (cutA a.cps.toList u v))) := rfl
@[simp] theorem dLen_l : dLen (.lst l) = some (.int (l.length : Int)) := rfl
@[simp] theorem dLen_t : dLen (.tup l) = some (.int (l.length : Int)) := rfl
@[simp] theorem dLen_s : dLen (.str a) = chk (a.length ≤ 1000000) (.int (a.length : Int)) := rfl
@[simp] theorem dAbs_i : dAbs (.int i) = some (.int (if i < 0 then -i else i)) := rfl
@[simp] theorem dInt_i : dInt (.int i) = some (.int i) := rfl
@[simp] theorem dInt_b : dInt (.bl p) = some (.int (if p = true then 1 else 0)) := rfl
@[simp] theorem lList_l : lList (.lst l) = some l := rfl
@[simp] theorem lList_t : lList (.tup l) = some l := rfl
@[simp] theorem lListM_l : lListM (.lst l) = some l := rfl
@[simp] theorem lListM_t : lListM (.tup l) = some l := rfl
@[simp] theorem dIter_l : dIter (.lst l) = some l := rfl
@[simp] theorem dIter_t : dIter (.tup l) = some l := rfl
@[simp] theorem dIter_s : dIter (.str a) = some (signs a) := rfl
@[simp] theorem items_l : itemsD (.lst l) = some l := rfl
@[simp] theorem items_t : itemsD (.tup l) = some l := rfl
@[simp] theorem dEnum_l : dEnum (.lst l) = some (enumD 0 l) := rfl
@[simp] theorem dEnum_t : dEnum (.tup l) = some (enumD 0 l) := rfl
@[simp] theorem dZip_l : dZip (.lst l) (.lst m) = some (zipD l m) := rfl
@[simp] theorem dZip_tl : dZip (.tup l) (.lst m) = some (zipD l m) := rfl
@[simp] theorem dZip_lt : dZip (.lst l) (.tup m) = some (zipD l m) := rfl
@[simp] theorem dZip_t : dZip (.tup l) (.tup m) = some (zipD l m) := rfl
@[simp] theorem dRange_1 : dRange [.int j] = chk (-1000000 ≤ j ∧ j ≤ 1000000) (rngD 0 j.toNat) := rfl
@[simp] theorem dRange_2 : dRange [.int i, .int j] = chk ((0 ≤ i ∧ i ≤ 1000000) ∧ -1000000 ≤ j ∧ j ≤ 1000000) (rngD i (j - i).toNat) := rfl
@[simp] theorem dRange_3 : dRange [.int i, .int j, .int (-1)] = chk ((-1000000 ≤ i ∧ i ≤ 1000000) ∧ -1000000 ≤ j ∧ j ≤ 1000000) (rngC i (-1) (i - j).toNat) := by simp only [dRange, if_pos]
@[simp] theorem lSet_i {v : D} : lSet l (.int i) v = (ixN l.length i).map fun m => l.set m v := rfl
@[simp] theorem un1_t : un1 (.tup [x]) = some x := rfl
@[simp] theorem un2_t : un2 (.tup [x, y]) = some (x, y) := rfl
@[simp] theorem un3_t {z : D} : un3 (.tup [x, y, z]) = some (x, y, z) := rfl
@[simp] theorem un4_t {z w : D} : un4 (.tup [x, y, z, w]) = some (x, y, z, w) := rfl
@[simp] theorem iOp_ii {f : Int → Int → Int} : iOp f (.int i) (.int j) = some (.int (f i j)) := rfl
@[simp] theorem strD_s : strD (.str a) = some a := rfl
@[simp] theorem lstD_l : lstD (.lst l) = some l := rfl
@[simp] theorem dctD_d {k : List (Key × D)} : dctD (.dct k) = some k := rfl
@[simp] theorem keyD_i : keyD (.int i) = some (.inl i) := rfl
@[simp] theorem keyD_s : keyD (.str a) = some (.inr a) := rfl
@[simp] theorem dMax2_ii : dMax2 (.int i) (.int j) = some (.int (if j > i then j else i)) := rfl
@[simp] theorem dMin2_ii : dMin2 (.int i) (.int j) = some (.int (if j < i then j else i)) := rfl
@[simp] theorem foldO_nil {S : Type} {f : S → D → Option S} {s : S} : foldO f s [] = some s := rfl
@[simp] theorem foldO_cons {S : Type} {f : S → D → Option S} {s : S} {x : D} {xs : List D} : foldO f s (x :: xs) = (f s x).bind fun s' => foldO f s' xs := rfl
@[simp] theorem mapO_nil {f : D → Option D} : mapO f [] = some [] := rfl
@[simp] theorem mapO_cons {f : D → Option D} {x : D} {xs : List D} : mapO f (x :: xs) = (f x).bind fun y => (mapO f xs).map fun ys => y :: ys := rfl
@[simp] theorem loopC_nil {S R : Type} {f : S → D → Option (Ctl S R)} {s : S} : loopC f s [] = some (.go s) := rfl
@[simp] theorem ctl_g {S R T : Type} {s : S} {f : S → Option T} {g : R → Option T} : ctl (.go s) f g = f s := rfl
@[simp] theorem ctl_r {S R T : Type} {s : R} {f : S → Option T} {g : R → Option T} : ctl (.ret s) f g = g s := rfl
@[simp] theorem dAll_b {bs : List Bool} : dAll (.lst (bs.map D.bl)) = some (.bl (bs.all id)) := by unfold dAll; simp [blsD_map]
@[simp] theorem dAny_b {bs : List Bool} : dAny (.lst (bs.map D.bl)) = some (.bl (bs.any id)) := by unfold dAny; simp [blsD_map]
@[simp] theorem dSum_i {ns : List Int} : dSum (.lst (ns.map D.int)) = some (.int ns.sum) := by unfold dSum; simp [intsD_map]
theorem cIn_ints {ns : List Int} : cIn (.int i) (.lst (ns.map D.int)) = some (decide (i ∈ ns)) := by
  unfold cIn
  simp [flD, flDs_ints, inV_ints]
end
section
variable {α β : Type} {f : D → Option D} {xs : List D}
theorem mapO_of {l : List α} {e : α → D} {g : α → D} (h : ∀ a ∈ l, f (e a) = some (g a)) : mapO f (l.map e) = some (l.map g) := by
  induction l with
  | nil => rfl
  | cons a l ih =>
    rw [List.map_cons, mapO_cons, h a List.mem_cons_self, Option.bind_some, ih fun b hb => h b (List.mem_cons_of_mem _ hb)]
    rfl
theorem Gives.mk {y : α} {Q : α → Prop} (h : Q y) : Gives (some y) Q := ⟨y, rfl, h⟩
theorem Gives.eq {o : Option α} {y : α} {Q : α → Prop} (e : o = some y) (h : Q y) : Gives o Q := ⟨y, e, h⟩
end
end DX
namespace My
open PySem PySem.Spec L2 DX SX
noncomputable section
def F_Lbegin (x0 : D) : Option (List D) :=
  (dEnd (D.int 63)).bind fun i1 => (dCut x0 none (some i1)).bind fun v2 => (lList v2).bind fun l3 => some [(D.lst l3), (D.int 0), (D.int 0)]
def F_Ltake (x0 : List D) (x1 : D) : Option (D × List D) :=
  (dIx (D.lst x0) (D.int 2)).bind fun v2 => (cGt v2 (D.int 0)).bind fun t3 => if t3 = true then (dIx (D.lst x0) (D.int 2)).bind fun v4 => (dMod v4 x1).bind fun v5 => (dIx (D.lst x0) (D.int 2)).bind fun v6 => (dFdiv v6 x1).bind fun v7 => (lSet x0 (D.int 2) v7).bind fun l8 => some (v5, l8) else (dIx (D.lst x0) (D.int 1)).bind fun v9 => (dAdd v9 (D.int 1)).bind fun v10 => (lSet x0 (D.int 1) v10).bind fun l11 => (dMul (D.int 40093) v9).bind fun v12 => (dAdd v12 (D.int 43)).bind fun v13 => ((dIx (D.lst l11) (D.int 0)).bind fun v16 => (cNe v16 (D.lst [])).bind fun t17 => if t17 = true then (dIx (D.lst l11) (D.int 0)).bind fun v18 => (dIx (D.lst l11) (D.int 0)).bind fun v19 => (dLen v19).bind fun v20 => (dMod v9 v20).bind fun v21 => (dIx v18 v21).bind fun v22 => some v22 else some v13).bind fun (r15 : D) => ((dIx (D.lst l11) (D.int 0)).bind fun v25 => (dLen v25).bind fun v26 => (cLt v9 v26).bind fun t27 => if t27 = true then (dAbs r15).bind fun v28 => (dPow (D.int 10) (D.int 18)).bind fun v29 => (cGe v28 v29).bind fun t30 => some t30 else some false).bind fun t31 => if t31 = true then (dAbs r15).bind fun v32 => (dPow (D.int 10) (D.int 18)).bind fun v33 => (dSub v32 v33).bind fun v34 => (dMul (D.int 2) v34).bind fun v35 => (cLt r15 (D.int 0)).bind fun t36 => (dInt (D.bl t36)).bind fun v37 => (dAdd v35 v37).bind fun v38 => (dFdiv v38 x1).bind fun v39 => (lSet l11 (D.int 2) v39).bind fun l40 => (dMod v38 x1).bind fun v41 => some (v41, l40) else (dMod r15 (D.int 2147483563)).bind fun v42 => (dMul (D.int 40093) v9).bind fun v43 => (dAdd v42 v43).bind fun v44 => (dMul (D.int 3) v9).bind fun v45 => (dMul v45 v9).bind fun v46 => (dAdd v44 v46).bind fun v47 => (dAdd v47 (D.int 43)).bind fun v48 => (dPow v48 (D.int 5)).bind fun v49 => (dMod v49 (D.int 2147483629)).bind fun v50 => (dMul (D.int 2) v9).bind fun v51 => (dAdd v51 (D.int 41)).bind fun v52 => (dMul v50 v52).bind fun v53 => (dMul (D.int 30091) v9).bind fun v54 => (dAdd v53 v54).bind fun v55 => (dAdd v55 (D.int 7)).bind fun v56 => (dPow v56 (D.int 3)).bind fun v57 => (dMod v57 (D.int 2147483587)).bind fun v58 => (dFdiv v58 (D.int 16)).bind fun v59 => (dMod v59 x1).bind fun v60 => some (v60, l11)
def F_Lthing (x0 : List D) : Option (D × List D) :=
  (dPow (D.int 10) (D.int 59)).bind fun v1 => (F_Ltake x0 (D.int 14)).bind fun v3 => (dIx (D.lst [D.non, (D.bl true), (D.int 0), (D.int (-1)), v1, (D.str ""), (D.str "G"), (D.tup []), (D.tup [(D.int 1), (D.str "K")]), (D.lst []), (D.lst [(D.int 0)]), (D.dct []), (D.dct [(Sum.inr "a", (D.int 1))]), (D.tup [(D.tup [(D.int 0), (D.int 1)]), (D.int 2)])]) v3.1).bind fun v4 => some (v4, v3.2)
def F_Lmade (Z : Str → Addr) (x0 : D) (x1 : D) : Option (D) :=
  (dAdd (D.lst [(D.exn (Z "InvalidSize") [("value", x0)]), (D.exn (Z "InvalidNumber") [("value", x0)]), (D.exn (Z "InvalidTrial") [("value", x0)]), (D.exn (Z "InvalidPosition") [("index", x0)]), (D.exn (Z "InvalidCells") [("index", x0)]), (D.exn (Z "InvalidOutputs") [("index", x0)])]) (D.lst [(D.exn (Z "InvalidStuck") [("index", x0)]), (D.exn (Z "InvalidRow") [("value", x0)]), (D.exn (Z "InvalidCarry") [("value", x0)]), (D.exn (Z "InvalidWire") [("value", x0)]), (D.exn (Z "InvalidFault") [("value", x0)]), (D.exn (Z "InvalidEdit") [("index", x0)])])).bind fun v1 => (dAdd v1 (D.lst [(D.exn (Z "InvalidText") [("word", x1), ("line", x0)]), (D.exn (Z "UnknownCommand") [("word", x0)]), (D.exn (Z "NotAlike") [("second", x1), ("first", x0)]), (D.exn (Z "NotEnough") []), (D.exn (Z "Contradicted") []), (D.exn (Z "InUse") [("cell", x0)])])).bind fun v2 => (dAdd v2 (D.lst [(D.exn (Z "NoNode") [("node", x0)]), (D.exn (Z "NoCell") [("index", x0)]), (D.exn (Z "NoOutput") [("output", x0)]), (D.exn (Z "NoPlace") [("index", x0)]), (D.exn (Z "NoTrial") [("index", x0)]), (D.exn (Z "NoMark") [("name", x0)])])).bind fun v3 => (dAdd v3 (D.lst [(D.exn (Z "NothingToUndo") []), (D.exn (Z "NothingToRedo") []), (D.exn (Z "Finished") []), (D.exn (Z "NotFinished") []), (D.exn (Z "TooMany") [("most", x0)])])).bind fun v4 => some v4
def F_Lkinds (Z : Str → Addr) (x0 : D) : Option (D) :=
  (isiE ((["InvalidSize", "InvalidNumber", "InvalidTrial", "InvalidPosition", "InvalidCells", "InvalidOutputs", "InvalidStuck", "InvalidRow", "InvalidCarry", "InvalidWire", "InvalidFault", "InvalidEdit", "InvalidText", "UnknownCommand", "NotAlike", "NotEnough", "Contradicted", "InUse", "NoNode", "NoCell", "NoOutput", "NoPlace", "NoTrial", "NoMark", "NothingToUndo", "NothingToRedo", "Finished", "NotFinished", "TooMany"] : List PySem.Str).map Z) ((["InvalidSize"] : List PySem.Str).map Z) x0).bind fun t1 => (isiE ((["InvalidSize", "InvalidNumber", "InvalidTrial", "InvalidPosition", "InvalidCells", "InvalidOutputs", "InvalidStuck", "InvalidRow", "InvalidCarry", "InvalidWire", "InvalidFault", "InvalidEdit", "InvalidText", "UnknownCommand", "NotAlike", "NotEnough", "Contradicted", "InUse", "NoNode", "NoCell", "NoOutput", "NoPlace", "NoTrial", "NoMark", "NothingToUndo", "NothingToRedo", "Finished", "NotFinished", "TooMany"] : List PySem.Str).map Z) ((["InvalidNumber"] : List PySem.Str).map Z) x0).bind fun t2 => (isiE ((["InvalidSize", "InvalidNumber", "InvalidTrial", "InvalidPosition", "InvalidCells", "InvalidOutputs", "InvalidStuck", "InvalidRow", "InvalidCarry", "InvalidWire", "InvalidFault", "InvalidEdit", "InvalidText", "UnknownCommand", "NotAlike", "NotEnough", "Contradicted", "InUse", "NoNode", "NoCell", "NoOutput", "NoPlace", "NoTrial", "NoMark", "NothingToUndo", "NothingToRedo", "Finished", "NotFinished", "TooMany"] : List PySem.Str).map Z) ((["InvalidTrial"] : List PySem.Str).map Z) x0).bind fun t3 => (isiE ((["InvalidSize", "InvalidNumber", "InvalidTrial", "InvalidPosition", "InvalidCells", "InvalidOutputs", "InvalidStuck", "InvalidRow", "InvalidCarry", "InvalidWire", "InvalidFault", "InvalidEdit", "InvalidText", "UnknownCommand", "NotAlike", "NotEnough", "Contradicted", "InUse", "NoNode", "NoCell", "NoOutput", "NoPlace", "NoTrial", "NoMark", "NothingToUndo", "NothingToRedo", "Finished", "NotFinished", "TooMany"] : List PySem.Str).map Z) ((["InvalidPosition"] : List PySem.Str).map Z) x0).bind fun t4 => (isiE ((["InvalidSize", "InvalidNumber", "InvalidTrial", "InvalidPosition", "InvalidCells", "InvalidOutputs", "InvalidStuck", "InvalidRow", "InvalidCarry", "InvalidWire", "InvalidFault", "InvalidEdit", "InvalidText", "UnknownCommand", "NotAlike", "NotEnough", "Contradicted", "InUse", "NoNode", "NoCell", "NoOutput", "NoPlace", "NoTrial", "NoMark", "NothingToUndo", "NothingToRedo", "Finished", "NotFinished", "TooMany"] : List PySem.Str).map Z) ((["InvalidCells"] : List PySem.Str).map Z) x0).bind fun t5 => (isiE ((["InvalidSize", "InvalidNumber", "InvalidTrial", "InvalidPosition", "InvalidCells", "InvalidOutputs", "InvalidStuck", "InvalidRow", "InvalidCarry", "InvalidWire", "InvalidFault", "InvalidEdit", "InvalidText", "UnknownCommand", "NotAlike", "NotEnough", "Contradicted", "InUse", "NoNode", "NoCell", "NoOutput", "NoPlace", "NoTrial", "NoMark", "NothingToUndo", "NothingToRedo", "Finished", "NotFinished", "TooMany"] : List PySem.Str).map Z) ((["InvalidOutputs"] : List PySem.Str).map Z) x0).bind fun t6 => (dAdd (D.lst [(D.bl t1), (D.bl t2), (D.bl t3)]) (D.lst [(D.bl t4), (D.bl t5), (D.bl t6)])).bind fun v7 => (isiE ((["InvalidSize", "InvalidNumber", "InvalidTrial", "InvalidPosition", "InvalidCells", "InvalidOutputs", "InvalidStuck", "InvalidRow", "InvalidCarry", "InvalidWire", "InvalidFault", "InvalidEdit", "InvalidText", "UnknownCommand", "NotAlike", "NotEnough", "Contradicted", "InUse", "NoNode", "NoCell", "NoOutput", "NoPlace", "NoTrial", "NoMark", "NothingToUndo", "NothingToRedo", "Finished", "NotFinished", "TooMany"] : List PySem.Str).map Z) ((["InvalidStuck"] : List PySem.Str).map Z) x0).bind fun t8 => (isiE ((["InvalidSize", "InvalidNumber", "InvalidTrial", "InvalidPosition", "InvalidCells", "InvalidOutputs", "InvalidStuck", "InvalidRow", "InvalidCarry", "InvalidWire", "InvalidFault", "InvalidEdit", "InvalidText", "UnknownCommand", "NotAlike", "NotEnough", "Contradicted", "InUse", "NoNode", "NoCell", "NoOutput", "NoPlace", "NoTrial", "NoMark", "NothingToUndo", "NothingToRedo", "Finished", "NotFinished", "TooMany"] : List PySem.Str).map Z) ((["InvalidRow"] : List PySem.Str).map Z) x0).bind fun t9 => (isiE ((["InvalidSize", "InvalidNumber", "InvalidTrial", "InvalidPosition", "InvalidCells", "InvalidOutputs", "InvalidStuck", "InvalidRow", "InvalidCarry", "InvalidWire", "InvalidFault", "InvalidEdit", "InvalidText", "UnknownCommand", "NotAlike", "NotEnough", "Contradicted", "InUse", "NoNode", "NoCell", "NoOutput", "NoPlace", "NoTrial", "NoMark", "NothingToUndo", "NothingToRedo", "Finished", "NotFinished", "TooMany"] : List PySem.Str).map Z) ((["InvalidCarry"] : List PySem.Str).map Z) x0).bind fun t10 => (dAdd v7 (D.lst [(D.bl t8), (D.bl t9), (D.bl t10)])).bind fun v11 => (isiE ((["InvalidSize", "InvalidNumber", "InvalidTrial", "InvalidPosition", "InvalidCells", "InvalidOutputs", "InvalidStuck", "InvalidRow", "InvalidCarry", "InvalidWire", "InvalidFault", "InvalidEdit", "InvalidText", "UnknownCommand", "NotAlike", "NotEnough", "Contradicted", "InUse", "NoNode", "NoCell", "NoOutput", "NoPlace", "NoTrial", "NoMark", "NothingToUndo", "NothingToRedo", "Finished", "NotFinished", "TooMany"] : List PySem.Str).map Z) ((["InvalidWire"] : List PySem.Str).map Z) x0).bind fun t12 => (isiE ((["InvalidSize", "InvalidNumber", "InvalidTrial", "InvalidPosition", "InvalidCells", "InvalidOutputs", "InvalidStuck", "InvalidRow", "InvalidCarry", "InvalidWire", "InvalidFault", "InvalidEdit", "InvalidText", "UnknownCommand", "NotAlike", "NotEnough", "Contradicted", "InUse", "NoNode", "NoCell", "NoOutput", "NoPlace", "NoTrial", "NoMark", "NothingToUndo", "NothingToRedo", "Finished", "NotFinished", "TooMany"] : List PySem.Str).map Z) ((["InvalidFault"] : List PySem.Str).map Z) x0).bind fun t13 => (isiE ((["InvalidSize", "InvalidNumber", "InvalidTrial", "InvalidPosition", "InvalidCells", "InvalidOutputs", "InvalidStuck", "InvalidRow", "InvalidCarry", "InvalidWire", "InvalidFault", "InvalidEdit", "InvalidText", "UnknownCommand", "NotAlike", "NotEnough", "Contradicted", "InUse", "NoNode", "NoCell", "NoOutput", "NoPlace", "NoTrial", "NoMark", "NothingToUndo", "NothingToRedo", "Finished", "NotFinished", "TooMany"] : List PySem.Str).map Z) ((["InvalidEdit"] : List PySem.Str).map Z) x0).bind fun t14 => (dAdd v11 (D.lst [(D.bl t12), (D.bl t13), (D.bl t14)])).bind fun v15 => (isiE ((["InvalidSize", "InvalidNumber", "InvalidTrial", "InvalidPosition", "InvalidCells", "InvalidOutputs", "InvalidStuck", "InvalidRow", "InvalidCarry", "InvalidWire", "InvalidFault", "InvalidEdit", "InvalidText", "UnknownCommand", "NotAlike", "NotEnough", "Contradicted", "InUse", "NoNode", "NoCell", "NoOutput", "NoPlace", "NoTrial", "NoMark", "NothingToUndo", "NothingToRedo", "Finished", "NotFinished", "TooMany"] : List PySem.Str).map Z) ((["InvalidText"] : List PySem.Str).map Z) x0).bind fun t16 => (isiE ((["InvalidSize", "InvalidNumber", "InvalidTrial", "InvalidPosition", "InvalidCells", "InvalidOutputs", "InvalidStuck", "InvalidRow", "InvalidCarry", "InvalidWire", "InvalidFault", "InvalidEdit", "InvalidText", "UnknownCommand", "NotAlike", "NotEnough", "Contradicted", "InUse", "NoNode", "NoCell", "NoOutput", "NoPlace", "NoTrial", "NoMark", "NothingToUndo", "NothingToRedo", "Finished", "NotFinished", "TooMany"] : List PySem.Str).map Z) ((["UnknownCommand"] : List PySem.Str).map Z) x0).bind fun t17 => (isiE ((["InvalidSize", "InvalidNumber", "InvalidTrial", "InvalidPosition", "InvalidCells", "InvalidOutputs", "InvalidStuck", "InvalidRow", "InvalidCarry", "InvalidWire", "InvalidFault", "InvalidEdit", "InvalidText", "UnknownCommand", "NotAlike", "NotEnough", "Contradicted", "InUse", "NoNode", "NoCell", "NoOutput", "NoPlace", "NoTrial", "NoMark", "NothingToUndo", "NothingToRedo", "Finished", "NotFinished", "TooMany"] : List PySem.Str).map Z) ((["NotAlike"] : List PySem.Str).map Z) x0).bind fun t18 => (dAdd v15 (D.lst [(D.bl t16), (D.bl t17), (D.bl t18)])).bind fun v19 => (isiE ((["InvalidSize", "InvalidNumber", "InvalidTrial", "InvalidPosition", "InvalidCells", "InvalidOutputs", "InvalidStuck", "InvalidRow", "InvalidCarry", "InvalidWire", "InvalidFault", "InvalidEdit", "InvalidText", "UnknownCommand", "NotAlike", "NotEnough", "Contradicted", "InUse", "NoNode", "NoCell", "NoOutput", "NoPlace", "NoTrial", "NoMark", "NothingToUndo", "NothingToRedo", "Finished", "NotFinished", "TooMany"] : List PySem.Str).map Z) ((["NotEnough"] : List PySem.Str).map Z) x0).bind fun t20 => (isiE ((["InvalidSize", "InvalidNumber", "InvalidTrial", "InvalidPosition", "InvalidCells", "InvalidOutputs", "InvalidStuck", "InvalidRow", "InvalidCarry", "InvalidWire", "InvalidFault", "InvalidEdit", "InvalidText", "UnknownCommand", "NotAlike", "NotEnough", "Contradicted", "InUse", "NoNode", "NoCell", "NoOutput", "NoPlace", "NoTrial", "NoMark", "NothingToUndo", "NothingToRedo", "Finished", "NotFinished", "TooMany"] : List PySem.Str).map Z) ((["Contradicted"] : List PySem.Str).map Z) x0).bind fun t21 => (isiE ((["InvalidSize", "InvalidNumber", "InvalidTrial", "InvalidPosition", "InvalidCells", "InvalidOutputs", "InvalidStuck", "InvalidRow", "InvalidCarry", "InvalidWire", "InvalidFault", "InvalidEdit", "InvalidText", "UnknownCommand", "NotAlike", "NotEnough", "Contradicted", "InUse", "NoNode", "NoCell", "NoOutput", "NoPlace", "NoTrial", "NoMark", "NothingToUndo", "NothingToRedo", "Finished", "NotFinished", "TooMany"] : List PySem.Str).map Z) ((["InUse"] : List PySem.Str).map Z) x0).bind fun t22 => (dAdd v19 (D.lst [(D.bl t20), (D.bl t21), (D.bl t22)])).bind fun v23 => (isiE ((["InvalidSize", "InvalidNumber", "InvalidTrial", "InvalidPosition", "InvalidCells", "InvalidOutputs", "InvalidStuck", "InvalidRow", "InvalidCarry", "InvalidWire", "InvalidFault", "InvalidEdit", "InvalidText", "UnknownCommand", "NotAlike", "NotEnough", "Contradicted", "InUse", "NoNode", "NoCell", "NoOutput", "NoPlace", "NoTrial", "NoMark", "NothingToUndo", "NothingToRedo", "Finished", "NotFinished", "TooMany"] : List PySem.Str).map Z) ((["NoNode"] : List PySem.Str).map Z) x0).bind fun t24 => (isiE ((["InvalidSize", "InvalidNumber", "InvalidTrial", "InvalidPosition", "InvalidCells", "InvalidOutputs", "InvalidStuck", "InvalidRow", "InvalidCarry", "InvalidWire", "InvalidFault", "InvalidEdit", "InvalidText", "UnknownCommand", "NotAlike", "NotEnough", "Contradicted", "InUse", "NoNode", "NoCell", "NoOutput", "NoPlace", "NoTrial", "NoMark", "NothingToUndo", "NothingToRedo", "Finished", "NotFinished", "TooMany"] : List PySem.Str).map Z) ((["NoCell"] : List PySem.Str).map Z) x0).bind fun t25 => (isiE ((["InvalidSize", "InvalidNumber", "InvalidTrial", "InvalidPosition", "InvalidCells", "InvalidOutputs", "InvalidStuck", "InvalidRow", "InvalidCarry", "InvalidWire", "InvalidFault", "InvalidEdit", "InvalidText", "UnknownCommand", "NotAlike", "NotEnough", "Contradicted", "InUse", "NoNode", "NoCell", "NoOutput", "NoPlace", "NoTrial", "NoMark", "NothingToUndo", "NothingToRedo", "Finished", "NotFinished", "TooMany"] : List PySem.Str).map Z) ((["NoOutput"] : List PySem.Str).map Z) x0).bind fun t26 => (isiE ((["InvalidSize", "InvalidNumber", "InvalidTrial", "InvalidPosition", "InvalidCells", "InvalidOutputs", "InvalidStuck", "InvalidRow", "InvalidCarry", "InvalidWire", "InvalidFault", "InvalidEdit", "InvalidText", "UnknownCommand", "NotAlike", "NotEnough", "Contradicted", "InUse", "NoNode", "NoCell", "NoOutput", "NoPlace", "NoTrial", "NoMark", "NothingToUndo", "NothingToRedo", "Finished", "NotFinished", "TooMany"] : List PySem.Str).map Z) ((["NoPlace"] : List PySem.Str).map Z) x0).bind fun t27 => (dAdd v23 (D.lst [(D.bl t24), (D.bl t25), (D.bl t26), (D.bl t27)])).bind fun v28 => (isiE ((["InvalidSize", "InvalidNumber", "InvalidTrial", "InvalidPosition", "InvalidCells", "InvalidOutputs", "InvalidStuck", "InvalidRow", "InvalidCarry", "InvalidWire", "InvalidFault", "InvalidEdit", "InvalidText", "UnknownCommand", "NotAlike", "NotEnough", "Contradicted", "InUse", "NoNode", "NoCell", "NoOutput", "NoPlace", "NoTrial", "NoMark", "NothingToUndo", "NothingToRedo", "Finished", "NotFinished", "TooMany"] : List PySem.Str).map Z) ((["NoTrial"] : List PySem.Str).map Z) x0).bind fun t29 => (isiE ((["InvalidSize", "InvalidNumber", "InvalidTrial", "InvalidPosition", "InvalidCells", "InvalidOutputs", "InvalidStuck", "InvalidRow", "InvalidCarry", "InvalidWire", "InvalidFault", "InvalidEdit", "InvalidText", "UnknownCommand", "NotAlike", "NotEnough", "Contradicted", "InUse", "NoNode", "NoCell", "NoOutput", "NoPlace", "NoTrial", "NoMark", "NothingToUndo", "NothingToRedo", "Finished", "NotFinished", "TooMany"] : List PySem.Str).map Z) ((["NoMark"] : List PySem.Str).map Z) x0).bind fun t30 => (isiE ((["InvalidSize", "InvalidNumber", "InvalidTrial", "InvalidPosition", "InvalidCells", "InvalidOutputs", "InvalidStuck", "InvalidRow", "InvalidCarry", "InvalidWire", "InvalidFault", "InvalidEdit", "InvalidText", "UnknownCommand", "NotAlike", "NotEnough", "Contradicted", "InUse", "NoNode", "NoCell", "NoOutput", "NoPlace", "NoTrial", "NoMark", "NothingToUndo", "NothingToRedo", "Finished", "NotFinished", "TooMany"] : List PySem.Str).map Z) ((["NothingToUndo"] : List PySem.Str).map Z) x0).bind fun t31 => (dAdd v28 (D.lst [(D.bl t29), (D.bl t30), (D.bl t31)])).bind fun v32 => (isiE ((["InvalidSize", "InvalidNumber", "InvalidTrial", "InvalidPosition", "InvalidCells", "InvalidOutputs", "InvalidStuck", "InvalidRow", "InvalidCarry", "InvalidWire", "InvalidFault", "InvalidEdit", "InvalidText", "UnknownCommand", "NotAlike", "NotEnough", "Contradicted", "InUse", "NoNode", "NoCell", "NoOutput", "NoPlace", "NoTrial", "NoMark", "NothingToUndo", "NothingToRedo", "Finished", "NotFinished", "TooMany"] : List PySem.Str).map Z) ((["NothingToRedo"] : List PySem.Str).map Z) x0).bind fun t33 => (isiE ((["InvalidSize", "InvalidNumber", "InvalidTrial", "InvalidPosition", "InvalidCells", "InvalidOutputs", "InvalidStuck", "InvalidRow", "InvalidCarry", "InvalidWire", "InvalidFault", "InvalidEdit", "InvalidText", "UnknownCommand", "NotAlike", "NotEnough", "Contradicted", "InUse", "NoNode", "NoCell", "NoOutput", "NoPlace", "NoTrial", "NoMark", "NothingToUndo", "NothingToRedo", "Finished", "NotFinished", "TooMany"] : List PySem.Str).map Z) ((["Finished"] : List PySem.Str).map Z) x0).bind fun t34 => (isiE ((["InvalidSize", "InvalidNumber", "InvalidTrial", "InvalidPosition", "InvalidCells", "InvalidOutputs", "InvalidStuck", "InvalidRow", "InvalidCarry", "InvalidWire", "InvalidFault", "InvalidEdit", "InvalidText", "UnknownCommand", "NotAlike", "NotEnough", "Contradicted", "InUse", "NoNode", "NoCell", "NoOutput", "NoPlace", "NoTrial", "NoMark", "NothingToUndo", "NothingToRedo", "Finished", "NotFinished", "TooMany"] : List PySem.Str).map Z) ((["NotFinished"] : List PySem.Str).map Z) x0).bind fun t35 => (dAdd v32 (D.lst [(D.bl t33), (D.bl t34), (D.bl t35)])).bind fun v36 => (isiE ((["InvalidSize", "InvalidNumber", "InvalidTrial", "InvalidPosition", "InvalidCells", "InvalidOutputs", "InvalidStuck", "InvalidRow", "InvalidCarry", "InvalidWire", "InvalidFault", "InvalidEdit", "InvalidText", "UnknownCommand", "NotAlike", "NotEnough", "Contradicted", "InUse", "NoNode", "NoCell", "NoOutput", "NoPlace", "NoTrial", "NoMark", "NothingToUndo", "NothingToRedo", "Finished", "NotFinished", "TooMany"] : List PySem.Str).map Z) ((["TooMany"] : List PySem.Str).map Z) x0).bind fun t37 => (dAdd v36 (D.lst [(D.bl t37)])).bind fun v38 => some v38
def F_Lbases (Z : Str → Addr) (x0 : D) : Option (D) :=
  (isiE ((["InvalidSize", "InvalidNumber", "InvalidTrial", "InvalidPosition", "InvalidCells", "InvalidOutputs", "InvalidStuck", "InvalidRow", "InvalidCarry", "InvalidWire", "InvalidFault", "InvalidEdit", "InvalidText", "UnknownCommand", "NotAlike", "NotEnough", "Contradicted", "InUse", "NoNode", "NoCell", "NoOutput", "NoPlace", "NoTrial", "NoMark", "NothingToUndo", "NothingToRedo", "Finished", "NotFinished", "TooMany"] : List PySem.Str).map Z) ((["InvalidSize", "InvalidNumber", "InvalidTrial", "InvalidPosition", "InvalidCells", "InvalidOutputs", "InvalidStuck", "InvalidRow", "InvalidCarry", "InvalidWire", "InvalidFault", "InvalidEdit", "InvalidText", "UnknownCommand", "NotAlike", "NotEnough", "Contradicted", "InUse"] : List PySem.Str).map Z) x0).bind fun t1 => (isiE ((["InvalidSize", "InvalidNumber", "InvalidTrial", "InvalidPosition", "InvalidCells", "InvalidOutputs", "InvalidStuck", "InvalidRow", "InvalidCarry", "InvalidWire", "InvalidFault", "InvalidEdit", "InvalidText", "UnknownCommand", "NotAlike", "NotEnough", "Contradicted", "InUse", "NoNode", "NoCell", "NoOutput", "NoPlace", "NoTrial", "NoMark", "NothingToUndo", "NothingToRedo", "Finished", "NotFinished", "TooMany"] : List PySem.Str).map Z) ((["InvalidSize", "InvalidNumber", "InvalidTrial", "InvalidPosition", "InvalidCells", "InvalidOutputs", "InvalidStuck", "InvalidRow", "InvalidCarry", "InvalidWire", "InvalidFault", "InvalidEdit", "InvalidText", "UnknownCommand", "NotAlike", "NotEnough", "Contradicted", "InUse"] : List PySem.Str).map Z) x0).bind fun t2 => (isiE ((["InvalidSize", "InvalidNumber", "InvalidTrial", "InvalidPosition", "InvalidCells", "InvalidOutputs", "InvalidStuck", "InvalidRow", "InvalidCarry", "InvalidWire", "InvalidFault", "InvalidEdit", "InvalidText", "UnknownCommand", "NotAlike", "NotEnough", "Contradicted", "InUse", "NoNode", "NoCell", "NoOutput", "NoPlace", "NoTrial", "NoMark", "NothingToUndo", "NothingToRedo", "Finished", "NotFinished", "TooMany"] : List PySem.Str).map Z) ((["NoNode", "NoCell", "NoOutput", "NoPlace", "NoTrial", "NoMark", "NothingToUndo", "NothingToRedo", "Finished", "NotFinished"] : List PySem.Str).map Z) x0).bind fun t3 => (isiE ((["InvalidSize", "InvalidNumber", "InvalidTrial", "InvalidPosition", "InvalidCells", "InvalidOutputs", "InvalidStuck", "InvalidRow", "InvalidCarry", "InvalidWire", "InvalidFault", "InvalidEdit", "InvalidText", "UnknownCommand", "NotAlike", "NotEnough", "Contradicted", "InUse", "NoNode", "NoCell", "NoOutput", "NoPlace", "NoTrial", "NoMark", "NothingToUndo", "NothingToRedo", "Finished", "NotFinished", "TooMany"] : List PySem.Str).map Z) ((["NoNode", "NoCell", "NoOutput", "NoPlace", "NoTrial", "NoMark", "NothingToUndo", "NothingToRedo", "Finished", "NotFinished"] : List PySem.Str).map Z) x0).bind fun t4 => (isiE ((["InvalidSize", "InvalidNumber", "InvalidTrial", "InvalidPosition", "InvalidCells", "InvalidOutputs", "InvalidStuck", "InvalidRow", "InvalidCarry", "InvalidWire", "InvalidFault", "InvalidEdit", "InvalidText", "UnknownCommand", "NotAlike", "NotEnough", "Contradicted", "InUse", "NoNode", "NoCell", "NoOutput", "NoPlace", "NoTrial", "NoMark", "NothingToUndo", "NothingToRedo", "Finished", "NotFinished", "TooMany"] : List PySem.Str).map Z) (([] : List PySem.Str).map Z) x0).bind fun t5 => (isiE ((["InvalidSize", "InvalidNumber", "InvalidTrial", "InvalidPosition", "InvalidCells", "InvalidOutputs", "InvalidStuck", "InvalidRow", "InvalidCarry", "InvalidWire", "InvalidFault", "InvalidEdit", "InvalidText", "UnknownCommand", "NotAlike", "NotEnough", "Contradicted", "InUse", "NoNode", "NoCell", "NoOutput", "NoPlace", "NoTrial", "NoMark", "NothingToUndo", "NothingToRedo", "Finished", "NotFinished", "TooMany"] : List PySem.Str).map Z) ((["TooMany"] : List PySem.Str).map Z) x0).bind fun t6 => (dAdd (D.lst [(D.bl t1), (D.bl t2), (D.bl t3)]) (D.lst [(D.bl t4), (D.bl t5), (D.bl t6)])).bind fun v7 => some v7
def F_Lplaced (Z : Str → Addr) (x0 : D) (x1 : D) : Option (D) :=
  (F_Lmade Z x0 x1).bind fun v1 => (dIx v1 (D.int 0)).bind fun v2 => (xflD ((["InvalidSize", "InvalidNumber", "InvalidTrial", "InvalidRow", "InvalidCarry", "InvalidWire", "InvalidFault"] : List PySem.Str).map Z) "value" v2).bind fun z3 => (dIx v1 (D.int 1)).bind fun v4 => (xflD ((["InvalidSize", "InvalidNumber", "InvalidTrial", "InvalidRow", "InvalidCarry", "InvalidWire", "InvalidFault"] : List PySem.Str).map Z) "value" v4).bind fun z5 => (dIx v1 (D.int 2)).bind fun v6 => (xflD ((["InvalidSize", "InvalidNumber", "InvalidTrial", "InvalidRow", "InvalidCarry", "InvalidWire", "InvalidFault"] : List PySem.Str).map Z) "value" v6).bind fun z7 => (dIx v1 (D.int 3)).bind fun v8 => (xflD ((["InvalidPosition", "InvalidCells", "InvalidOutputs", "InvalidStuck", "InvalidEdit", "NoCell", "NoPlace", "NoTrial"] : List PySem.Str).map Z) "index" v8).bind fun z9 => (dIx v1 (D.int 4)).bind fun v10 => (xflD ((["InvalidPosition", "InvalidCells", "InvalidOutputs", "InvalidStuck", "InvalidEdit", "NoCell", "NoPlace", "NoTrial"] : List PySem.Str).map Z) "index" v10).bind fun z11 => (dIx v1 (D.int 5)).bind fun v12 => (xflD ((["InvalidPosition", "InvalidCells", "InvalidOutputs", "InvalidStuck", "InvalidEdit", "NoCell", "NoPlace", "NoTrial"] : List PySem.Str).map Z) "index" v12).bind fun z13 => (dIx v1 (D.int 6)).bind fun v14 => (xflD ((["InvalidPosition", "InvalidCells", "InvalidOutputs", "InvalidStuck", "InvalidEdit", "NoCell", "NoPlace", "NoTrial"] : List PySem.Str).map Z) "index" v14).bind fun z15 => (dIx v1 (D.int 7)).bind fun v16 => (xflD ((["InvalidSize", "InvalidNumber", "InvalidTrial", "InvalidRow", "InvalidCarry", "InvalidWire", "InvalidFault"] : List PySem.Str).map Z) "value" v16).bind fun z17 => (dIx v1 (D.int 8)).bind fun v18 => (xflD ((["InvalidSize", "InvalidNumber", "InvalidTrial", "InvalidRow", "InvalidCarry", "InvalidWire", "InvalidFault"] : List PySem.Str).map Z) "value" v18).bind fun z19 => (dIx v1 (D.int 9)).bind fun v20 => (xflD ((["InvalidSize", "InvalidNumber", "InvalidTrial", "InvalidRow", "InvalidCarry", "InvalidWire", "InvalidFault"] : List PySem.Str).map Z) "value" v20).bind fun z21 => (dIx v1 (D.int 10)).bind fun v22 => (xflD ((["InvalidSize", "InvalidNumber", "InvalidTrial", "InvalidRow", "InvalidCarry", "InvalidWire", "InvalidFault"] : List PySem.Str).map Z) "value" v22).bind fun z23 => (dIx v1 (D.int 11)).bind fun v24 => (xflD ((["InvalidPosition", "InvalidCells", "InvalidOutputs", "InvalidStuck", "InvalidEdit", "NoCell", "NoPlace", "NoTrial"] : List PySem.Str).map Z) "index" v24).bind fun z25 => (dAdd (D.lst [z3, z5, z7, z9, z11, z13]) (D.lst [z15, z17, z19, z21, z23, z25])).bind fun v26 => (dIx v1 (D.int 12)).bind fun v27 => (xflD ((["InvalidText"] : List PySem.Str).map Z) "line" v27).bind fun z28 => (dIx v1 (D.int 13)).bind fun v29 => (xflD ((["InvalidText", "UnknownCommand"] : List PySem.Str).map Z) "word" v29).bind fun z30 => (dIx v1 (D.int 14)).bind fun v31 => (xflD ((["NotAlike"] : List PySem.Str).map Z) "first" v31).bind fun z32 => (dIx v1 (D.int 17)).bind fun v33 => (xflD ((["InUse"] : List PySem.Str).map Z) "cell" v33).bind fun z34 => (dIx v1 (D.int 18)).bind fun v35 => (xflD ((["NoNode"] : List PySem.Str).map Z) "node" v35).bind fun z36 => (dIx v1 (D.int 19)).bind fun v37 => (xflD ((["InvalidPosition", "InvalidCells", "InvalidOutputs", "InvalidStuck", "InvalidEdit", "NoCell", "NoPlace", "NoTrial"] : List PySem.Str).map Z) "index" v37).bind fun z38 => (dAdd v26 (D.lst [z28, z30, z32, z34, z36, z38])).bind fun v39 => (dIx v1 (D.int 20)).bind fun v40 => (xflD ((["NoOutput"] : List PySem.Str).map Z) "output" v40).bind fun z41 => (dIx v1 (D.int 21)).bind fun v42 => (xflD ((["InvalidPosition", "InvalidCells", "InvalidOutputs", "InvalidStuck", "InvalidEdit", "NoCell", "NoPlace", "NoTrial"] : List PySem.Str).map Z) "index" v42).bind fun z43 => (dIx v1 (D.int 22)).bind fun v44 => (xflD ((["InvalidPosition", "InvalidCells", "InvalidOutputs", "InvalidStuck", "InvalidEdit", "NoCell", "NoPlace", "NoTrial"] : List PySem.Str).map Z) "index" v44).bind fun z45 => (dIx v1 (D.int 23)).bind fun v46 => (xflD ((["NoMark"] : List PySem.Str).map Z) "name" v46).bind fun z47 => (dIx v1 (D.int 28)).bind fun v48 => (xflD ((["TooMany"] : List PySem.Str).map Z) "most" v48).bind fun z49 => (dAdd v39 (D.lst [z41, z43, z45, z47, z49])).bind fun v50 => (dIx v1 (D.int 12)).bind fun v51 => (xflD ((["InvalidText", "UnknownCommand"] : List PySem.Str).map Z) "word" v51).bind fun z52 => (dIx v1 (D.int 14)).bind fun v53 => (xflD ((["NotAlike"] : List PySem.Str).map Z) "second" v53).bind fun z54 => (dAdd v50 (D.lst [z52, z54])).bind fun v55 => some v55
def F_Lnamed (Z : Str → Addr) (x0 : D) (x1 : D) : Option (D) :=
  (xflD ((["InvalidSize", "InvalidNumber", "InvalidTrial", "InvalidRow", "InvalidCarry", "InvalidWire", "InvalidFault"] : List PySem.Str).map Z) "value" (D.exn (Z "InvalidSize") [("value", x0)])).bind fun z1 => (xflD ((["InvalidSize", "InvalidNumber", "InvalidTrial", "InvalidRow", "InvalidCarry", "InvalidWire", "InvalidFault"] : List PySem.Str).map Z) "value" (D.exn (Z "InvalidNumber") [("value", x0)])).bind fun z2 => (xflD ((["InvalidSize", "InvalidNumber", "InvalidTrial", "InvalidRow", "InvalidCarry", "InvalidWire", "InvalidFault"] : List PySem.Str).map Z) "value" (D.exn (Z "InvalidTrial") [("value", x0)])).bind fun z3 => (xflD ((["InvalidPosition", "InvalidCells", "InvalidOutputs", "InvalidStuck", "InvalidEdit", "NoCell", "NoPlace", "NoTrial"] : List PySem.Str).map Z) "index" (D.exn (Z "InvalidPosition") [("index", x0)])).bind fun z4 => (xflD ((["InvalidPosition", "InvalidCells", "InvalidOutputs", "InvalidStuck", "InvalidEdit", "NoCell", "NoPlace", "NoTrial"] : List PySem.Str).map Z) "index" (D.exn (Z "InvalidCells") [("index", x0)])).bind fun z5 => (xflD ((["InvalidPosition", "InvalidCells", "InvalidOutputs", "InvalidStuck", "InvalidEdit", "NoCell", "NoPlace", "NoTrial"] : List PySem.Str).map Z) "index" (D.exn (Z "InvalidOutputs") [("index", x0)])).bind fun z6 => (dAdd (D.lst [z1, z2, z3]) (D.lst [z4, z5, z6])).bind fun v7 => (xflD ((["InvalidPosition", "InvalidCells", "InvalidOutputs", "InvalidStuck", "InvalidEdit", "NoCell", "NoPlace", "NoTrial"] : List PySem.Str).map Z) "index" (D.exn (Z "InvalidStuck") [("index", x0)])).bind fun z8 => (xflD ((["InvalidSize", "InvalidNumber", "InvalidTrial", "InvalidRow", "InvalidCarry", "InvalidWire", "InvalidFault"] : List PySem.Str).map Z) "value" (D.exn (Z "InvalidRow") [("value", x0)])).bind fun z9 => (xflD ((["InvalidSize", "InvalidNumber", "InvalidTrial", "InvalidRow", "InvalidCarry", "InvalidWire", "InvalidFault"] : List PySem.Str).map Z) "value" (D.exn (Z "InvalidCarry") [("value", x0)])).bind fun z10 => (dAdd v7 (D.lst [z8, z9, z10])).bind fun v11 => (xflD ((["InvalidSize", "InvalidNumber", "InvalidTrial", "InvalidRow", "InvalidCarry", "InvalidWire", "InvalidFault"] : List PySem.Str).map Z) "value" (D.exn (Z "InvalidWire") [("value", x0)])).bind fun z12 => (xflD ((["InvalidSize", "InvalidNumber", "InvalidTrial", "InvalidRow", "InvalidCarry", "InvalidWire", "InvalidFault"] : List PySem.Str).map Z) "value" (D.exn (Z "InvalidFault") [("value", x0)])).bind fun z13 => (xflD ((["InvalidPosition", "InvalidCells", "InvalidOutputs", "InvalidStuck", "InvalidEdit", "NoCell", "NoPlace", "NoTrial"] : List PySem.Str).map Z) "index" (D.exn (Z "InvalidEdit") [("index", x0)])).bind fun z14 => (dAdd v11 (D.lst [z12, z13, z14])).bind fun v15 => (xflD ((["InvalidText"] : List PySem.Str).map Z) "line" (D.exn (Z "InvalidText") [("word", x1), ("line", x0)])).bind fun z16 => (xflD ((["InvalidText", "UnknownCommand"] : List PySem.Str).map Z) "word" (D.exn (Z "UnknownCommand") [("word", x0)])).bind fun z17 => (xflD ((["NotAlike"] : List PySem.Str).map Z) "first" (D.exn (Z "NotAlike") [("second", x1), ("first", x0)])).bind fun z18 => (dAdd v15 (D.lst [z16, z17, z18])).bind fun v19 => (xflD ((["InUse"] : List PySem.Str).map Z) "cell" (D.exn (Z "InUse") [("cell", x0)])).bind fun z20 => (xflD ((["NoNode"] : List PySem.Str).map Z) "node" (D.exn (Z "NoNode") [("node", x0)])).bind fun z21 => (xflD ((["InvalidPosition", "InvalidCells", "InvalidOutputs", "InvalidStuck", "InvalidEdit", "NoCell", "NoPlace", "NoTrial"] : List PySem.Str).map Z) "index" (D.exn (Z "NoCell") [("index", x0)])).bind fun z22 => (xflD ((["NoOutput"] : List PySem.Str).map Z) "output" (D.exn (Z "NoOutput") [("output", x0)])).bind fun z23 => (dAdd v19 (D.lst [z20, z21, z22, z23])).bind fun v24 => (xflD ((["InvalidPosition", "InvalidCells", "InvalidOutputs", "InvalidStuck", "InvalidEdit", "NoCell", "NoPlace", "NoTrial"] : List PySem.Str).map Z) "index" (D.exn (Z "NoPlace") [("index", x0)])).bind fun z25 => (xflD ((["InvalidPosition", "InvalidCells", "InvalidOutputs", "InvalidStuck", "InvalidEdit", "NoCell", "NoPlace", "NoTrial"] : List PySem.Str).map Z) "index" (D.exn (Z "NoTrial") [("index", x0)])).bind fun z26 => (xflD ((["NoMark"] : List PySem.Str).map Z) "name" (D.exn (Z "NoMark") [("name", x0)])).bind fun z27 => (xflD ((["TooMany"] : List PySem.Str).map Z) "most" (D.exn (Z "TooMany") [("most", x0)])).bind fun z28 => (dAdd v24 (D.lst [z25, z26, z27, z28])).bind fun v29 => (xflD ((["InvalidText", "UnknownCommand"] : List PySem.Str).map Z) "word" (D.exn (Z "InvalidText") [("word", x1), ("line", x0)])).bind fun z30 => (xflD ((["NotAlike"] : List PySem.Str).map Z) "second" (D.exn (Z "NotAlike") [("second", x1), ("first", x0)])).bind fun z31 => (dAdd v29 (D.lst [z30, z31])).bind fun v32 => some v32
def F_law (Z : Str → Addr) (x0 : D) : Option (D) :=
  (F_Lbegin x0).bind fun v1 => (un2 (D.tup [(D.bl true), (D.bl false)])).bind fun p3 => (dMul (D.lst [(D.lst [p3.1, p3.1, p3.2, p3.2, p3.2, p3.2])]) (D.int 18)).bind fun v4 => (dMul (D.lst [(D.lst [p3.2, p3.2, p3.1, p3.1, p3.2, p3.2])]) (D.int 10)).bind fun v5 => (dAdd v4 v5).bind fun v6 => (dAdd v6 (D.lst [(D.lst [p3.2, p3.2, p3.2, p3.2, p3.2, p3.1])])).bind fun v7 => (dRange [(D.int 4)]).bind fun l8 => (loopC (fun (s9 : List D) x11 => (F_Lthing s9).bind fun v14 => (F_Lthing v14.2).bind fun v15 => ((F_Lmade Z v14.1 v15.1).bind fun v16 => some v16).bind fun v17 => (dEnum v17).bind fun l18 => (loopC (fun (s19 : Unit) x21 => (un2 x21).bind fun p24 => ((F_Lkinds Z p24.2).bind fun v27 => (dRange [(D.int 29)]).bind fun l28 => (chk (l28.length ≤ 1000000) ()).bind fun _ => (mapO (fun x30 => (cEq x30 p24.1).bind fun t35 => some (D.bl t35)) l28).bind fun y31 => (cNe v27 (D.lst y31)).bind fun t36 => if t36 = true then some true else (F_Lbases Z p24.2).bind fun v37 => (dIx v7 p24.1).bind fun v38 => (cNe v37 v38).bind fun t39 => some t39).bind fun t40 => if t40 = true then some (.ret (D.bl false)) else some (.go ())) () l18).bind fun c22 => ctl c22 (fun (r20 : Unit) => ((F_Lplaced Z v14.1 v15.1).bind fun v43 => (dReprR v43).bind fun v44 => (dMul (D.lst [v14.1]) (D.int 23)).bind fun v45 => (dMul (D.lst [v15.1]) (D.int 2)).bind fun v46 => (dAdd v45 v46).bind fun v47 => (dReprR v47).bind fun v48 => (cNe v44 v48).bind fun t49 => if t49 = true then some true else (F_Lnamed Z v14.1 v15.1).bind fun v50 => (dReprR v50).bind fun v51 => (dMul (D.lst [v14.1]) (D.int 23)).bind fun v52 => (dMul (D.lst [v15.1]) (D.int 2)).bind fun v53 => (dAdd v52 v53).bind fun v54 => (dReprR v54).bind fun v55 => (cNe v51 v55).bind fun t56 => some t56).bind fun t57 => if t57 = true then some (.ret (D.bl false)) else some (.go v15.2)) (fun v => some (.ret v))) v1 l8).bind fun c12 => ctl c12 (fun (r10 : List D) => some (D.bl true)) (fun v => some v)
end
end My
namespace My
open PySem PySem.Spec L2 DX SX PyProof.Rows StX LamX
theorem ob_eq (s : PySem.W.SharedT) : ob s = hk.obs s.abs := DX.lookT_eq (HandSHeadRun.getT_eq s)
end My
namespace My
open PySem PySem.Spec L2 DX SX
def penL (s : Hs) : List D := [.lst (s.cells.map D.int), .int s.at_, .int s.gr]
theorem ixN_of {n : Nat} {i : Int} (h0 : 0 ≤ i) (h1 : i < n) : ixN n i = some i.toNat := by unfold ixN; rw [if_pos h0, if_pos h1]
theorem atI_of_get {α : Type} {l : List α} {i : Int} {x : α} (h0 : 0 ≤ i) (h : l[i.toNat]? = some x) : atI l i = some x := by
  have : i.toNat < l.length := by
    by_cases q : i.toNat < l.length
    · exact q
    · rw [List.getElem?_eq_none (by omega)] at h; cases h
  unfold atI
  rw [ixN_of h0 (by omega)]
  exact h
theorem nilB_ints {ns : List Int} : cEq (.lst (ns.map D.int)) (.lst []) = some ns.isEmpty := by
  have : sc (.lst (ns.map D.int)) (.lst []) = false := rfl
  unfold cEq
  rw [this]
  simp only [Bool.false_eq_true, if_false]
  rw [show nilB (.lst (ns.map D.int)) (.lst []) = true from intsB_map ns]
  cases ns <;> rfl
theorem cmul_small {i j : Int} (h : -(2 ^ 63) ≤ i ∧ i ≤ 2 ^ 63) : CMul i j := .inl ⟨by omega, by omega⟩
theorem cmul_smallr {i j : Int} (h : -(2 ^ 63) ≤ j ∧ j ≤ 2 ^ 63) : CMul i j := .inr ⟨by omega, by omega⟩
theorem fin_take {m b : Int} (hb : 0 < b) : 0 ≤ m % b ∧ m % b < b := ⟨Int.emod_nonneg _ (by omega), Int.emod_lt_of_pos _ hb⟩
theorem pen_set2 {c : D} {a g v : D} : lSet [c, a, g] (.int 2) v = some [c, a, v] := rfl
theorem pen_at0 {c a g : D} : dIx (.lst [c, a, g]) (.int 0) = some c := rfl
theorem pen_at1 {c a g : D} : dIx (.lst [c, a, g]) (.int 1) = some a := rfl
theorem pen_at2 {c a g : D} : dIx (.lst [c, a, g]) (.int 2) = some g := rfl
theorem cp_mixT {x a : Int} (h : 0 ≤ a ∧ a ≤ 1000000) : CPow (x % 2147483629 * (2 * a + 41) + 30091 * a + 7) 3 := by
  have h1 : 0 ≤ x % 2147483629 := Int.emod_nonneg _ (by decide)
  have h2 : x % 2147483629 < 2147483629 := Int.emod_lt_of_pos _ (by decide)
  have h3 : 0 ≤ x % 2147483629 * (2 * a + 41) := Int.mul_nonneg h1 (by omega)
  have h4 : x % 2147483629 * (2 * a + 41) ≤ 2147483629 * 2000041 := Int.mul_le_mul (by omega) (by omega) (by omega) (by omega)
  exact ⟨by omega, by omega, by omega⟩
theorem take_ok {s : Hs} {n b : Int} (h : HOk s n) (hn : n ≤ 1000000) (hb : 0 < b ∧ b < 1000000000) : Gives (F_Ltake (penL s) (.int b)) fun q => ∃ k s', q = (.int k, penL s') ∧ 0 ≤ k ∧ k < b ∧ HOk s' (n + 1) := by
  obtain ⟨a0, an, g0⟩ := h
  have hcd : CDiv s.gr b := ⟨hb.1, by omega⟩
  unfold F_Ltake penL
  rw [pen_at2]
  simp only [Option.bind_some, cGt_ii]
  by_cases hg : (0 : Int) < s.gr
  · rw [if_pos (decide_eq_true hg)]
    simp only [dMod_ii, dFdiv_ii, pen_set2, Option.bind_some, chk_pos hb.1, chk_pos hcd]
    exact .mk ⟨_, ⟨s.cells, s.at_, s.gr / b⟩, rfl, (fin_take hb.1).1, (fin_take hb.1).2, ⟨a0, by show s.at_ ≤ n + 1; omega, Int.ediv_nonneg g0 (by omega)⟩⟩
  rw [if_neg (by simpa using hg)]
  rw [pen_at1]
  simp only [Option.bind_some, dAdd_ii]
  rw [show lSet [D.lst (s.cells.map D.int), .int s.at_, .int s.gr] (.int 1) (.int (s.at_ + 1)) = some [D.lst (s.cells.map D.int), .int (s.at_ + 1), .int s.gr] from rfl]
  have hc1 : CMul 40093 s.at_ := cmul_small (by omega)
  simp only [Option.bind_some, dMul_ii, chk_pos hc1, dAdd_ii, pen_at0, cNe_of, nilB_ints, Option.map_some, dLen_l, List.length_map]
  refine .bind (Gives.imp (Q := fun r => ∃ q : Int, r = D.int q) ?_ fun r hr => ?_)
  · by_cases he : s.cells.isEmpty = true
    · rw [he]; exact .mk ⟨_, rfl⟩
    · have he : s.cells.isEmpty = false := by simpa using he
      have hl : (0 : Int) < (s.cells.length : Int) := by
        cases hcs : s.cells with
        | nil => rw [hcs] at he; cases he
        | cons a l => simp only [List.length_cons]; omega
      rw [he, if_pos (by rfl)]
      simp only [dMod_ii, chk_pos hl, Option.bind_some, dIx_li]
      have e1 := fin_take (m := s.at_) hl
      rw [atI_of_get (x := .int (s.cells.getD (s.at_ % (s.cells.length : Int)).toNat 0)) e1.1 (by rw [List.getElem?_map, List.getD_eq_getElem?_getD, List.getElem?_eq_getElem (by omega)]; rfl)]
      exact .mk ⟨_, rfl⟩
  obtain ⟨q, rfl⟩ := hr
  refine .bind (Gives.imp (Q := fun t => t = true → (10 : Int) ^ (18 : Int).toNat ≤ (if q < 0 then -q else q)) ?_ fun t ht => ?_)
  · simp only [cLt_ii, Option.bind_some]
    split
    · simp only [dAbs_i, dPow_ii, Option.bind_some]
      rw [chk_pos (show CPow 10 18 from ⟨by decide, by decide, by decide⟩)]
      exact .mk fun z => of_decide_eq_true z
    · exact .mk fun z => nomatch z
  cases t with
  | true =>
    rw [if_pos rfl]
    have hcd : ∀ i, CDiv i b := fun i => ⟨hb.1, by omega⟩
    simp only [dAbs_i, dPow_ii, Option.bind_some, chk_pos (show CPow 10 18 from ⟨by decide, by decide, by decide⟩), dSub_ii, dMul_ii]
    rw [chk_pos (show CMul 2 _ from cmul_small (by decide))]
    simp only [Option.bind_some, cLt_ii, dInt_b, dAdd_ii, dFdiv_ii, dMod_ii, chk_pos (hcd _), chk_pos hb.1, pen_set2]
    have big : (0 : Int) ≤ 2 * ((if q < 0 then -q else q) - 10 ^ (18 : Int).toNat) + (if decide (q < 0) = true then 1 else 0) := by
      have := ht rfl
      generalize (10 : Int) ^ (18 : Int).toNat = z at this ⊢
      split <;> split at this <;> omega
    exact .mk ⟨_, ⟨s.cells, s.at_ + 1, _⟩, rfl, (fin_take hb.1).1, (fin_take hb.1).2, ⟨by show 0 ≤ s.at_ + 1; omega, by show s.at_ + 1 ≤ n + 1; omega, Int.ediv_nonneg big (by omega)⟩⟩
  | false =>
    rw [if_neg (by decide)]
    have aa : 0 ≤ 3 * s.at_ * s.at_ := Int.mul_nonneg (by omega) a0
    have ab : 3 * s.at_ * s.at_ ≤ 3000000 * 1000000 := Int.mul_le_mul (by omega) (by omega) a0 (by omega)
    have p1 : CPow (q % 2147483563 + 40093 * s.at_ + 3 * s.at_ * s.at_ + 43) 5 := by
      have := fin_take (m := q) (b := 2147483563) (by decide)
      exact ⟨by omega, by omega, by omega⟩
    have p3 : ∀ z : Int, CMul (z % 2147483629) (2 * s.at_ + 41) := fun z => by
      have := fin_take (m := z) (b := 2147483629) (by decide)
      exact cmul_small (by omega)
    simp only [dMod_ii, dMul_ii, dAdd_ii, dPow_ii, dFdiv_ii, Option.bind_some, chk_pos (show (0 : Int) < 2147483563 by decide), chk_pos (show (0 : Int) < 2147483629 by decide), chk_pos (show (0 : Int) < 2147483587 by decide), chk_pos (show CMul 40093 s.at_ from cmul_small (by omega)),
      chk_pos (show CMul 3 s.at_ from cmul_small (by omega)), chk_pos (show CMul 2 s.at_ from cmul_small (by omega)), chk_pos (show CMul 30091 s.at_ from cmul_small (by omega)), chk_pos (show CMul (3 * s.at_) s.at_ from cmul_smallr (by omega)), chk_pos p1, chk_pos (p3 _), chk_pos (cp_mixT (x := _) (a := s.at_) ⟨a0, by omega⟩), chk_pos (show CDiv _ 16 from ⟨by decide, by decide⟩), chk_pos hb.1]
    exact .mk ⟨_, ⟨s.cells, s.at_ + 1, s.gr⟩, rfl, (fin_take hb.1).1, (fin_take hb.1).2, ⟨by show 0 ≤ s.at_ + 1; omega, by show s.at_ + 1 ≤ n + 1; omega, g0⟩⟩
theorem begin_ok (ns : List Int) : F_Lbegin (.scr ns) = some (penL ⟨ns.take 63, 0, 0⟩) := rfl
theorem beg_hok (ns : List Int) : HOk ⟨ns.take 63, 0, 0⟩ 0 := ⟨Int.le_refl 0, Int.le_refl 0, Int.le_refl 0⟩
theorem goods_map {α : Type} {f : α → D} : ∀ {l : List α}, (∀ a ∈ l, good (f a)) → goods (l.map f)
  | [], _ => trivial
  | a :: l, h => ⟨h a List.mem_cons_self, goods_map fun b hb => h b (List.mem_cons_of_mem _ hb)⟩
theorem deps_map {α : Type} {f : α → D} {k : Nat} : ∀ {l : List α}, (∀ a ∈ l, dep (f a) ≤ k) → deps (l.map f) ≤ k
  | [], _ => Nat.zero_le _
  | a :: l, h => by
    rw [List.map_cons, deps]
    exact Nat.max_le.mpr ⟨h a List.mem_cons_self, deps_map fun b hb => h b (List.mem_cons_of_mem _ hb)⟩
theorem wts_map {α : Type} {f : α → D} {k : Nat} : ∀ {l : List α}, (∀ a ∈ l, wt (f a) ≤ k) → wts (l.map f) ≤ l.length * (k + 2)
  | [], _ => Nat.zero_le _
  | a :: l, h => by
    rw [List.map_cons, wts, List.length_cons, Nat.succ_mul]
    have := wts_map (l := l) fun b hb => h b (List.mem_cons_of_mem _ hb)
    have := h a List.mem_cons_self
    omega
theorem cEq_good {a b : D} (hs : sc a b = false) (hn : nilB a b = false) (ha : good a) (hb : good b) (da : dep a ≤ 50) (db : dep b ≤ 50) : cEq a b = some (eqD a b) := by
  unfold cEq
  rw [hs, hn]
  simp only [Bool.false_eq_true, if_false]
  rw [chk_pos ⟨ha, hb, da, db⟩]
theorem eqD_nil {ds : List D} : eqD (.lst ds) (.lst []) = ds.isEmpty := by
  cases ds with
  | nil => simp [eqD, pyd, pyds, PyData.eqv, PyData.eqvAll]
  | cons d ds => simp [eqD, pyd, pyds, PyData.eqv, PyData.eqvAll]
/-- a loop that is never left -/
theorem gives_loop {S R : Type} {f : S → D → Option (Ctl S R)} {xs : List D} {s : S} (I : Nat → S → Prop) (h0 : I 0 s) (h : ∀ i x s, xs[i]? = some x → I i s → Gives (f s x) fun c => ∃ s', c = .go s' ∧ I (i + 1) s') : Gives (loopC f s xs) fun c => ∃ s', c = .go s' ∧ I xs.length s' := by
  induction xs generalizing s I with
  | nil => exact ⟨.go s, rfl, s, rfl, h0⟩
  | cons x xs ih =>
    rw [loopC]
    refine .bind ((h 0 x s rfl h0).imp fun c hc => ?_)
    obtain ⟨s', rfl, h1⟩ := hc
    exact ih (fun i => I (i + 1)) h1 fun i y s2 hy => h (i + 1) y s2 (by simpa using hy)
/-- a list against the empty one, whatever stands in it -/
theorem cEq_nilq {ds : List D} : cEq (.lst ds) (.lst []) = some ds.isEmpty := by
  have hs : sc (.lst ds) (.lst []) = false := rfl
  unfold cEq
  rw [hs]
  simp only [Bool.false_eq_true, if_false]
  split
  · rfl
  · split
    · rename_i t e
      obtain ⟨_, e⟩ := chk_inv e
      rw [← e, eqD_nil]
    · rename_i h
      cases ds with
      | nil => exact absurd rfl (by assumption : ¬ nilB (.lst []) (.lst []) = true)
      | cons d ds => rfl
structure RB (d : D) (k w : Nat) : Prop where
  sh : shw d = true
  ok : (pydR d).showable = true
  dp : (pydR d).depth ≤ k
  sz : (pydR d).shown.length ≤ w
structure RBs (ds : List D) (k w : Nat) : Prop where
  sh : shws ds = true
  ok : PyData.showableAll (pydRs ds) = true
  dp : PyData.depthAll (pydRs ds) ≤ k
  sz : ((PyData.shownAll (pydRs ds)).map (·.length)).sum + 2 * (PyData.shownAll (pydRs ds)).length ≤ w
theorem rb_good {d : D} {k w : Nat} (h : good d) (hw : wt d ≤ w) (hd : dep d + 1 ≤ k) : RB d k w := by
  have e := (good_R h).1
  exact ⟨(good_R h).2, by rw [e]; exact good_show h, by rw [e]; have := dep_py h; omega, by rw [e]; have := wt_py h; omega⟩
theorem RB.mono {d : D} {k w k' w' : Nat} (h : RB d k w) (hk : k ≤ k') (hw : w ≤ w') : RB d k' w' := ⟨h.sh, h.ok, Nat.le_trans h.dp hk, Nat.le_trans h.sz hw⟩
theorem rbs_nil {k : Nat} : RBs [] k 0 := ⟨by simp [shws], by simp [pydRs, PyData.showableAll], by simp [pydRs, PyData.depthAll], by simp [pydRs, PyData.shownAll]⟩
theorem rbs_cons {d : D} {ds : List D} {k w w2 : Nat} (h : RB d k w) (hs : RBs ds k w2) : RBs (d :: ds) k (w + w2 + 2) := by
  refine ⟨by simp only [shws, h.sh, hs.sh, Bool.and_self], by simp only [pydRs, PyData.showableAll, h.ok, hs.ok, Bool.and_self], ?_, ?_⟩
  · simp only [pydRs, PyData.depthAll]
    have := h.dp; have := hs.dp; omega
  · simp only [pydRs, PyData.shownAll, List.map_cons, List.sum_cons, List.length_cons]
    have := h.sz; have := hs.sz; omega
theorem rbs_all {k w : Nat} : ∀ {ds : List D}, (∀ d ∈ ds, RB d k w) → RBs ds k (ds.length * (w + 2))
  | [], _ => by simpa using rbs_nil
  | d :: ds, h => by
    have := rbs_cons (h d List.mem_cons_self) (rbs_all (ds := ds) fun x hx => h x (List.mem_cons_of_mem _ hx))
    rw [List.length_cons, Nat.succ_mul, show ds.length * (w + 2) + (w + 2) = w + ds.length * (w + 2) + 2 by omega]
    exact this
theorem rb_lst {ds : List D} {k w : Nat} (h : RBs ds k w) : RB (.lst ds) (k + 1) (w + 3) := by
  refine ⟨by simp only [shw]; exact h.sh, by simp only [pydR, PyData.showable]; exact h.ok, by simp only [pydR, PyData.depth]; have := h.dp; omega, ?_⟩
  simp only [pydR, PyData.shown]
  have := listText_len_le (PyData.shownAll (pydRs ds))
  have := h.sz
  omega
theorem rb_repr {d : D} {k w : Nat} (h : RB d k w) (hk : k ≤ 60) (hw : w ≤ 16000000) : ∃ y, dReprR d = some (.str y) := ⟨_, chk_pos ⟨h.sh, h.ok, Nat.le_trans h.dp hk, Nat.le_trans h.sz hw⟩⟩
theorem rb_int {i : Int} (h : -(2 ^ 200) ≤ i ∧ i ≤ 2 ^ 200) : RB (.int i) 5 100000 := rb_good h (by simp [wt]) (by simp [dep])
theorem rb_bl {b : Bool} : RB (.bl b) 5 100000 := rb_good trivial (by simp [wt]) (by simp [dep])
theorem rb_non : RB .non 5 100000 := rb_good trivial (by simp [wt]) (by simp [dep])
theorem rb_str {z : Str} (h : PyData.strOk z = true) (hz : z.length ≤ 1000) : RB (.str z) 5 100000 := rb_good h (by rw [wt]; omega) (by simp [dep])
theorem e200 : (2 : Int) ^ 200 = 1606938044258990275541962092341162602522202993782792835301376 := by decide +kernel
theorem e59 : (10 : Int) ^ (59 : Int).toNat = 100000000000000000000000000000000000000000000000000000000000 := by decide +kernel
structure G (x : D) (k n : Nat) : Prop where
  g : good x
  d : dep x ≤ k
  w : wt x ≤ n
structure Gs (ds : List D) (k w m : Nat) : Prop where
  a : ∀ d ∈ ds, G d k w
  l : ds.length ≤ m
theorem G.mono {d : D} {k w k' w' : Nat} (h : G d k w) (hk : k ≤ k') (hw : w ≤ w') : G d k' w' := ⟨h.g, Nat.le_trans h.d hk, Nat.le_trans h.w hw⟩
theorem Gs.good {ds : List D} {k w m : Nat} (h : Gs ds k w m) : goods ds := by
  have := goods_map (l := ds) (f := id) fun a ha => (h.a a ha).g
  simpa using this
theorem Gs.dep {ds : List D} {k w m : Nat} (h : Gs ds k w m) : deps ds ≤ k := by
  have := deps_map (l := ds) (f := id) (k := k) fun a ha => (h.a a ha).d
  simpa using this
theorem Gs.wt {ds : List D} {k w m : Nat} (h : Gs ds k w m) : wts ds ≤ m * (w + 2) := by
  have := wts_map (l := ds) (f := id) (k := w) fun a ha => (h.a a ha).w
  rw [List.map_id] at this
  exact Nat.le_trans this (Nat.mul_le_mul_right _ h.l)
theorem Gs.lst {ds : List D} {k w m : Nat} (h : Gs ds k w m) : G (.lst ds) (k + 1) (m * (w + 2) + 3) := ⟨h.good, by have := h.dep; rw [DX.dep]; omega, by have := h.wt; rw [DX.wt]; omega⟩
theorem Gs.tup {ds : List D} {k w m : Nat} (h : Gs ds k w m) : G (.tup ds) (k + 1) (m * (w + 2) + 3) := ⟨h.good, by have := h.dep; rw [DX.dep]; omega, by have := h.wt; rw [DX.wt]; omega⟩
theorem Gs.mono {ds : List D} {k w m k' w' m' : Nat} (h : Gs ds k w m) (hk : k ≤ k') (hw : w ≤ w') (hm : m ≤ m') : Gs ds k' w' m' := ⟨fun d hd => (h.a d hd).mono hk hw, Nat.le_trans h.l hm⟩
theorem g_bl {b : Bool} : G (.bl b) 0 64 := ⟨trivial, by simp [dep], by simp [wt]⟩
theorem Gs.sub {a b : List D} {k w m : Nat} (h : Gs a k w m) (hs : ∀ d ∈ b, d ∈ a) (hl : b.length ≤ a.length) : Gs b k w m := ⟨fun d hd => h.a d (hs d hd), Nat.le_trans hl h.l⟩
def nmE (k : Nat) : Str := HzL.getD k ""
theorem hzl_nm : HzL = (List.range 29).map nmE := rfl
theorem zn_inj {Z : Str → Addr} (hz : Hz Z) {i j : Nat} (hi : i < 29) (hj : j < 29) : Z (nmE j) = Z (nmE i) ↔ j = i := by
  constructor
  · intro e
    have hl : (HzL.map Z).length = 29 := rfl
    have g : ∀ k (hk : k < 29), (HzL.map Z)[k]'(by rw [hl]; exact hk) = Z (nmE k) := fun k hk => by
      rw [List.getElem_map]
      congr 1
      show _ = HzL.getD k ""
      rw [List.getD_eq_getElem?_getD, List.getElem?_eq_getElem (show k < HzL.length from hk)]
      rfl
    have pw := List.pairwise_iff_getElem.mp hz
    have e2 := (g j hj).trans (e.trans (g i hi).symm)
    rcases Nat.lt_trichotomy j i with q | q | q
    · exact absurd e2 (pw j i (by rw [hl]; exact hj) (by rw [hl]; exact hi) q)
    · exact q
    · exact absurd e2.symm (pw i j (by rw [hl]; exact hi) (by rw [hl]; exact hj) q)
  · rintro rfl; rfl
theorem zn_mem {Z : Str → Addr} (hz : Hz Z) {i a b : Nat} (hi : i < 29) (hb : a + b ≤ 29) : decide (Z (nmE i) ∈ ((List.range b).map fun j => nmE (a + j)).map Z) = decide (a ≤ i ∧ i < a + b) := by
  apply decide_eq_decide.mpr
  rw [List.map_map, List.mem_map]
  constructor
  · rintro ⟨j, hj, e⟩
    have hj := List.mem_range.mp hj
    have := (zn_inj hz hi (by omega)).mp e
    omega
  · rintro ⟨h1, h2⟩
    exact ⟨i - a, List.mem_range.mpr (by omega), by show Z (nmE (a + (i - a))) = _; rw [show a + (i - a) = i by omega]⟩
theorem isi_e {Z : Str → Addr} {S : List Addr} {fs : List (Str × D)} {i : Nat} (hi : i < 29) : isiE (HzL.map Z) S (.exn (Z (nmE i)) fs) = some (decide (Z (nmE i) ∈ S)) := by
  show (if Z (nmE i) ∈ HzL.map Z then some (decide (Z (nmE i) ∈ S)) else none) = _
  rw [if_pos]
  rw [hzl_nm, List.map_map]
  exact List.mem_map.mpr ⟨i, List.mem_range.mpr hi, rfl⟩
theorem xfl_e {Z : Str → Addr} {L : List Str} {n f : Str} {fs : List (Str × D)} (h : n ∈ L) : xflD (L.map Z) f (.exn (Z n) fs) = fs.lookup f := if_pos (List.mem_map_of_mem h)
theorem ix_l {l : List D} {i : Int} : dIx (.lst l) (.int i) = atI l i := rfl
def fldE (x y : D) : List (List (Str × D)) := [[("value", x)], [("value", x)], [("value", x)], [("index", x)], [("index", x)], [("index", x)], [("index", x)], [("value", x)], [("value", x)], [("value", x)], [("value", x)], [("index", x)],
  [("word", y), (("line" : Str), x)], [("word", x)], [("second", y), ("first", x)], [], [], [("cell", x)], [("node", x)], [("index", x)], [("output", x)], [("index", x)], [("index", x)], [("name", x)], [], [], [], [], [("most", x)]]
def errE (Z : Str → Addr) (x y : D) (k : Nat) : D := .exn (Z (nmE k)) ((fldE x y).getD k [])
theorem made_e {Z : Str → Addr} {x y : D} : F_Lmade Z x y = some (.lst ((List.range 29).map (errE Z x y))) := by
  unfold F_Lmade
  simp (disch := first | decide | exact le_b rfl) only [dAdd, chk_pos, Option.bind_some]
  rfl
theorem kinds_e {Z : Str → Addr} (hz : Hz Z) {i : Nat} {fs : List (Str × D)} (hi : i < 29) : F_Lkinds Z (.exn (Z (nmE i)) fs) = some (.lst ((List.range 29).map fun j => .bl (decide (j = i)))) := by
  have e : F_Lkinds Z (.exn (Z (nmE i)) fs) = some (.lst ((List.range 29).map fun j => .bl (decide (Z (nmE i) ∈ [nmE j].map Z)))) := by
    unfold F_Lkinds
    simp (disch := first | decide | exact le_b rfl) only [isi_e hi, dAdd, chk_pos, Option.bind_some]
    rfl
  rw [e]
  refine congrArg (fun l => some (D.lst l)) (List.map_congr_left fun j hj => ?_)
  have hj := List.mem_range.mp hj
  refine congrArg D.bl (decide_eq_decide.mpr ?_)
  rw [List.map_cons, List.map_nil, List.mem_singleton, eq_comm, zn_inj hz hi hj]
def rowE (i : Nat) : D := .lst [.bl (decide (0 ≤ i ∧ i < 0 + 18)), .bl (decide (0 ≤ i ∧ i < 0 + 18)), .bl (decide (18 ≤ i ∧ i < 18 + 10)), .bl (decide (18 ≤ i ∧ i < 18 + 10)), .bl false, .bl (decide (28 ≤ i ∧ i < 28 + 1))]
theorem bases_e {Z : Str → Addr} (hz : Hz Z) {i : Nat} {fs : List (Str × D)} (hi : i < 29) : F_Lbases Z (.exn (Z (nmE i)) fs) = some (rowE i) := by
  unfold rowE
  rw [← zn_mem hz hi (show 0 + 18 ≤ 29 by omega), ← zn_mem hz hi (show 18 + 10 ≤ 29 by omega), ← zn_mem hz hi (show 28 + 1 ≤ 29 by omega)]
  unfold F_Lbases
  simp (disch := first | decide | exact le_b rfl) only [isi_e hi, dAdd, chk_pos, Option.bind_some]
  rfl
def outE (x y : D) : D := .lst (List.replicate 23 x ++ [y, y])
theorem ixE {f : Nat → D} {i : Int} (h : 0 ≤ i ∧ i < 29) : dIx (.lst ((List.range 29).map f)) (.int i) = some (f i.toNat) := by
  rw [ix_l]
  refine atI_of_get h.1 ?_
  rw [List.getElem?_map, List.getElem?_range (by omega)]
  rfl
theorem xflE {Z : Str → Addr} {L : List Str} {f : Str} {x y : D} {k : Nat} (h : nmE k ∈ L) : xflD (L.map Z) f (errE Z x y k) = ((fldE x y).getD k []).lookup f := xfl_e h
theorem lk_w {x y : D} : [(("word" : Str), y), (("line" : Str), x)].lookup ("line" : Str) = some x := rfl
theorem lk_s {x y : D} : [(("second" : Str), y), (("first" : Str), x)].lookup ("first" : Str) = some x := rfl
theorem placed_e {Z : Str → Addr} {x y : D} : F_Lplaced Z x y = some (outE x y) := by
  unfold F_Lplaced
  rw [made_e, Option.bind_some]
  simp (disch := first | decide | exact le_b rfl) only [ixE, xflE, fldE, Int.reduceToNat, List.getD_cons_succ, List.getD_cons_zero, List.lookup_cons_self, lk_w, lk_s, dAdd, chk_pos, Option.bind_some]
  rfl
theorem named_e {Z : Str → Addr} {x y : D} : F_Lnamed Z x y = some (outE x y) := by
  unfold F_Lnamed
  simp (disch := first | decide | exact le_b rfl) only [xfl_e, List.lookup_cons_self, lk_w, lk_s, dAdd, chk_pos, Option.bind_some]
  rfl
theorem rb_dctA : RB (.dct [(Sum.inr "a", .int 1)]) 5 100000 := by
  refine ⟨by simp [shw, shwk], by decide +kernel, by decide +kernel, by decide +kernel⟩
theorem at_all {l : List D} {P : D → Prop} (h : ∀ d ∈ l, P d) {i : Int} (h0 : 0 ≤ i) (h1 : i < (l.length : Int)) : ∃ d, atI l i = some d ∧ P d := by
  have hi : i.toNat < l.length := by omega
  exact ⟨l[i.toNat], atI_of_get h0 (List.getElem?_eq_getElem hi), h _ (List.getElem_mem hi)⟩
theorem thing_ok {s : Hs} {n : Int} (h : HOk s n) (hn : n ≤ 1000000) : Gives (F_Lthing (penL s)) fun q => ∃ d s', q = (d, penL s') ∧ RB d 5 100000 ∧ HOk s' (n + 1) := by
  unfold F_Lthing
  rw [dPow_ii, chk_pos (show CPow 10 59 from ⟨by decide, by decide, by decide⟩), Option.bind_some]
  refine .bind ((take_ok h hn (by decide)).imp fun q hq => ?_)
  obtain ⟨k, s', rfl, k0, kb, h1⟩ := hq
  dsimp only
  rw [ix_l]
  obtain ⟨d, e, hd⟩ := at_all (P := fun d => RB d 5 100000) (l := [D.non, (D.bl true), (D.int 0), (D.int (-1)), (D.int (10 ^ (59 : Int).toNat)), (D.str ""), (D.str "G"), (D.tup []), (D.tup [(D.int 1), (D.str "K")]), (D.lst []), (D.lst [(D.int 0)]), (D.dct []), (D.dct [(Sum.inr "a", (D.int 1))]), (D.tup [(D.tup [(D.int 0), (D.int 1)]), (D.int 2)])]) (fun d hd => by
    have i1 : ∀ i : Int, -5 ≤ i ∧ i ≤ 5 → RB (.int i) 5 100000 := fun i hi => rb_int (by rw [e200]; omega)
    simp only [List.mem_cons, List.not_mem_nil, or_false] at hd
    rcases hd with rfl | rfl | rfl | rfl | rfl | rfl | rfl | rfl | rfl | rfl | rfl | rfl | rfl | rfl
    · exact rb_non
    · exact rb_bl
    · exact i1 _ (by decide)
    · exact i1 _ (by decide)
    · exact rb_int (by rw [e59, e200]; decide)
    · exact rb_str (by decide +kernel) (by decide)
    · exact rb_str (by decide +kernel) (by decide)
    · exact ⟨by decide +kernel, by decide +kernel, by decide +kernel, by decide +kernel⟩
    · exact ⟨by decide +kernel, by decide +kernel, by decide +kernel, by decide +kernel⟩
    · exact ⟨by decide +kernel, by decide +kernel, by decide +kernel, by decide +kernel⟩
    · exact ⟨by decide +kernel, by decide +kernel, by decide +kernel, by decide +kernel⟩
    · exact ⟨by decide +kernel, by decide +kernel, by decide +kernel, by decide +kernel⟩
    · exact rb_dctA
    · exact ⟨by decide +kernel, by decide +kernel, by decide +kernel, by decide +kernel⟩) k0 kb
  rw [e]
  exact .mk ⟨d, s', rfl, hd, h1⟩
theorem repr_e {x y : D} (hx : RB x 5 100000) (hy : RB y 5 100000) : ∃ t, dReprR (outE x y) = some (.str t) := by
  refine rb_repr (k := 6) (w := 25 * (100000 + 2) + 3) ?_ (by decide) (by decide)
  have := rb_lst (rbs_all (ds := List.replicate 23 x ++ [y, y]) (k := 5) (w := 100000) fun d hd => by
    rcases List.mem_append.mp hd with h | h
    · rw [(List.mem_replicate.mp h).2]; exact hx
    · have : d = y := by simpa using h
      rw [this]; exact hy)
  exact this
theorem self_bls {bs : List Bool} (h : bs.length ≤ 1000) : cNe (.lst (bs.map D.bl)) (.lst (bs.map D.bl)) = some false := by
  have g : G (.lst (bs.map D.bl)) 1 100000 := ((show Gs (bs.map D.bl) 0 64 1000 from ⟨fun d hd => by
      obtain ⟨x, _, rfl⟩ := List.mem_map.mp hd
      exact g_bl, by rw [List.length_map]; exact h⟩).lst).mono (by decide) (by decide)
  have e : cEq (.lst (bs.map D.bl)) (.lst (bs.map D.bl)) = some true := by
    cases bs with
    | nil => rw [List.map_nil, cEq_nilq]; rfl
    | cons b bs => rw [cEq_good rfl rfl g.g g.g (by have := g.d; omega) (by have := g.d; omega), eqD_refl g.g]
  rw [cNe_of, e]; rfl
theorem loopC_goE {α S R : Type} {f : S → D → Option (Ctl S R)} {s : S} {e : α → D} : ∀ {l : List α}, (∀ a ∈ l, f s (e a) = some (.go s)) → loopC f s (l.map e) = some (.go s)
  | [], _ => rfl
  | a :: l, h => by
    rw [List.map_cons, loopC, h a List.mem_cons_self]
    exact loopC_goE fun b hb => h b (List.mem_cons_of_mem _ hb)
theorem due_1 : dMul (D.lst [D.lst [D.bl true, D.bl true, D.bl false, D.bl false, D.bl false, D.bl false]]) (D.int 18) = some (.lst ((List.range 18).map rowE)) := chk_pos ⟨by decide, le_b rfl⟩
theorem due_2 : dMul (D.lst [D.lst [D.bl false, D.bl false, D.bl true, D.bl true, D.bl false, D.bl false]]) (D.int 10) = some (.lst ((List.range' 18 10).map rowE)) := chk_pos ⟨by decide, le_b rfl⟩
theorem due_3 : dAdd (.lst ((List.range 18).map rowE)) (.lst ((List.range' 18 10).map rowE)) = some (.lst ((List.range 28).map rowE)) := chk_pos (le_b rfl)
theorem due_4 : dAdd (.lst ((List.range 28).map rowE)) (D.lst [D.lst [D.bl false, D.bl false, D.bl false, D.bl false, D.bl false, D.bl true]]) = some (.lst ((List.range 29).map rowE)) := chk_pos (le_b rfl)
theorem out_b {B : Type} {x y : D} {g : D → Option B} : ((dMul (D.lst [x]) (D.int 23)).bind fun v45 => (dMul (D.lst [y]) (D.int 2)).bind fun v46 => (dAdd v45 v46).bind g) = g (outE x y) := by
  rw [show dMul (D.lst [x]) (D.int 23) = some (.lst (List.replicate 23 x)) from chk_pos ⟨by decide, le_b rfl⟩, Option.bind_some, show dMul (D.lst [y]) (D.int 2) = some (.lst [y, y]) from chk_pos ⟨by decide, le_b rfl⟩, Option.bind_some, show dAdd (.lst (List.replicate 23 x)) (D.lst [y, y]) = some (outE x y) from chk_pos (le_b rfl), Option.bind_some]
theorem flags_e {i : Nat} : mapO (fun x30 => (cEq x30 (.int (i : Int))).bind fun t35 => some (D.bl t35)) (rngD 0 29) = some ((List.range 29).map fun j => D.bl (decide (j = i))) := by
  rw [show rngD 0 29 = (List.range 29).map (fun j : Nat => D.int (j : Int)) from rfl, mapO_of (g := fun j : Nat => D.bl (decide (j = i))) fun j _ => ?_]
  rw [cEq_ii, Option.bind_some, show decide ((j : Int) = (i : Int)) = decide (j = i) from decide_eq_decide.mpr Int.ofNat_inj]
theorem row_self {i : Nat} : cNe (rowE i) (rowE i) = some false := self_bls (bs := [decide (0 ≤ i ∧ i < 0 + 18), decide (0 ≤ i ∧ i < 0 + 18), decide (18 ≤ i ∧ i < 18 + 10), decide (18 ≤ i ∧ i < 18 + 10), false, decide (28 ≤ i ∧ i < 28 + 1)]) (le_b rfl)
theorem law_true (Z : Str → Addr) (hz : Hz Z) (ns : List Int) : F_law Z (.scr ns) = some (.bl true) := by
  suffices h : Gives (F_law Z (.scr ns)) fun v => v = .bl true by
    obtain ⟨v, e, rfl⟩ := h
    exact e
  unfold F_law
  rw [begin_ok, Option.bind_some, show un2 (D.tup [D.bl true, D.bl false]) = some (D.bl true, D.bl false) from rfl, Option.bind_some]
  dsimp only
  rw [due_1, Option.bind_some, due_2, Option.bind_some, due_3, Option.bind_some, due_4, Option.bind_some, dRange_1, chk_pos (by decide), Option.bind_some]
  refine .bind ((gives_loop (fun i s => ∃ s' : Hs, s = penL s' ∧ HOk s' ((i : Int) * 2)) ⟨_, rfl, beg_hok ns⟩ fun i y s hy hI => ?_).imp fun c hc => ?_)
  · obtain ⟨s0, rfl, h0⟩ := hI
    have hi : i < 4 := by
      have := (List.getElem?_eq_some_iff.mp hy).1
      rwa [rngD_len] at this
    refine .bind ((thing_ok h0 (by omega)).imp fun q hq => ?_)
    obtain ⟨x, s1, rfl, rx, h1⟩ := hq
    refine .bind ((thing_ok h1 (by omega)).imp fun q hq => ?_)
    obtain ⟨y, s2, rfl, ry, h2⟩ := hq
    dsimp only
    rw [made_e, Option.bind_some, Option.bind_some, show dEnum (.lst ((List.range 29).map (errE Z x y))) = some ((List.range 29).map fun k : Nat => D.tup [.int (k : Int), errE Z x y k]) from rfl, Option.bind_some]
    rw [loopC_goE (e := fun k : Nat => D.tup [.int (k : Int), errE Z x y k]) (fun k hk => ?_), Option.bind_some, ctl_g, placed_e, Option.bind_some]
    · obtain ⟨t, et⟩ := repr_e rx ry
      rw [et, Option.bind_some, out_b, et, Option.bind_some, cNe_of, cEq_ss, decide_eq_true rfl, Option.map_some, Option.bind_some, if_neg (by decide), named_e, Option.bind_some, et, Option.bind_some, out_b, et, Option.bind_some, cNe_of, cEq_ss, decide_eq_true rfl, Option.map_some, Option.bind_some, Option.bind_some, if_neg (by decide)]
      exact .mk ⟨_, rfl, s2, rfl, h2.mono (by omega)⟩
    · have hk := List.mem_range.mp hk
      have e1 : F_Lkinds Z (errE Z x y k) = _ := kinds_e hz hk
      have e2 : F_Lbases Z (errE Z x y k) = _ := bases_e hz hk
      rw [show un2 (D.tup [.int (k : Int), errE Z x y k]) = some (.int (k : Int), errE Z x y k) from rfl, Option.bind_some]
      dsimp only
      rw [e1, Option.bind_some, dRange_1, chk_pos (by decide), Option.bind_some, chk_pos (by rw [rngD_len]; decide), Option.bind_some, show (29 : Int).toNat = 29 from rfl, flags_e, Option.bind_some]
      rw [show (D.lst ((List.range 29).map fun j => D.bl (decide (j = k)))) = .lst (((List.range 29).map fun j => decide (j = k)).map D.bl) from by rw [List.map_map]; rfl, self_bls (by rw [List.length_map, List.length_range]; decide), Option.bind_some, if_neg (by decide), e2, Option.bind_some, ixE (by omega), Option.bind_some, Int.toNat_natCast, row_self, Option.bind_some, Option.bind_some, if_neg (by decide)]
  · obtain ⟨s', rfl, _⟩ := hc
    exact .mk rfl
end My
namespace My
open PySem PySem.Spec L2 DX SX PyProof.Rows StX LamX
theorem sc_Lbegin : FnScope ["_law_script"] ["_law_script"] (defScope s_Lbegin) := ⟨rfl, rfl, rfl, by decide +kernel, rfl, by decide +kernel, by decide +kernel⟩
theorem sc_Ltake : FnScope ["_law_hand", "_law_bound", "_law_digit", "_law_at", "_law_piece", "_law_great", "_law_mixed"] ["_law_hand", "_law_bound"] (defScope s_Ltake) := ⟨rfl, rfl, rfl, by decide +kernel, rfl, by decide +kernel, by decide +kernel⟩
theorem sc_Lthing : FnScope ["_law_hand", "_law_some"] ["_law_hand"] (defScope s_Lthing) := ⟨rfl, rfl, rfl, by decide +kernel, rfl, by decide +kernel, by decide +kernel⟩
theorem sc_Lmade : FnScope ["_law_x", "_law_y", "_law_found"] ["_law_x", "_law_y"] (defScope s_Lmade) := ⟨rfl, rfl, rfl, by decide +kernel, rfl, by decide +kernel, by decide +kernel⟩
theorem sc_Lkinds : FnScope ["_law_e", "_law_found"] ["_law_e"] (defScope s_Lkinds) := ⟨rfl, rfl, rfl, by decide +kernel, rfl, by decide +kernel, by decide +kernel⟩
theorem sc_Lbases : FnScope ["_law_e", "_law_found"] ["_law_e"] (defScope s_Lbases) := ⟨rfl, rfl, rfl, by decide +kernel, rfl, by decide +kernel, by decide +kernel⟩
theorem sc_Lplaced : FnScope ["_law_x", "_law_y", "_law_some", "_law_found"] ["_law_x", "_law_y"] (defScope s_Lplaced) := ⟨rfl, rfl, rfl, by decide +kernel, rfl, by decide +kernel, by decide +kernel⟩
theorem sc_Lnamed : FnScope ["_law_x", "_law_y", "_law_found"] ["_law_x", "_law_y"] (defScope s_Lnamed) := ⟨rfl, rfl, rfl, by decide +kernel, rfl, by decide +kernel, by decide +kernel⟩
theorem sc_law : FnScope ["_law_script", "_law_hand", "_law_yes", "_law_no", "_law_due", "_law_turn", "_law_x", "_law_y", "_law_k", "_law_e", "_law_j"] ["_law_script"] (defScope s_law) := ⟨rfl, rfl, rfl, by decide +kernel, rfl, by decide +kernel, by decide +kernel⟩
theorem sc_InvalidSize___init__ : FnScope ["self", "value"] ["self", "value"] (defScope s_InvalidSize___init__) := ⟨rfl, rfl, rfl, by decide +kernel, rfl, by decide +kernel, by decide +kernel⟩
theorem sc_InvalidNumber___init__ : FnScope ["self", "value"] ["self", "value"] (defScope s_InvalidNumber___init__) := ⟨rfl, rfl, rfl, by decide +kernel, rfl, by decide +kernel, by decide +kernel⟩
theorem sc_InvalidTrial___init__ : FnScope ["self", "value"] ["self", "value"] (defScope s_InvalidTrial___init__) := ⟨rfl, rfl, rfl, by decide +kernel, rfl, by decide +kernel, by decide +kernel⟩
theorem sc_InvalidPosition___init__ : FnScope ["self", "index"] ["self", "index"] (defScope s_InvalidPosition___init__) := ⟨rfl, rfl, rfl, by decide +kernel, rfl, by decide +kernel, by decide +kernel⟩
theorem sc_InvalidCells___init__ : FnScope ["self", "index"] ["self", "index"] (defScope s_InvalidCells___init__) := ⟨rfl, rfl, rfl, by decide +kernel, rfl, by decide +kernel, by decide +kernel⟩
theorem sc_InvalidOutputs___init__ : FnScope ["self", "index"] ["self", "index"] (defScope s_InvalidOutputs___init__) := ⟨rfl, rfl, rfl, by decide +kernel, rfl, by decide +kernel, by decide +kernel⟩
theorem sc_InvalidStuck___init__ : FnScope ["self", "index"] ["self", "index"] (defScope s_InvalidStuck___init__) := ⟨rfl, rfl, rfl, by decide +kernel, rfl, by decide +kernel, by decide +kernel⟩
theorem sc_InvalidRow___init__ : FnScope ["self", "value"] ["self", "value"] (defScope s_InvalidRow___init__) := ⟨rfl, rfl, rfl, by decide +kernel, rfl, by decide +kernel, by decide +kernel⟩
theorem sc_InvalidCarry___init__ : FnScope ["self", "value"] ["self", "value"] (defScope s_InvalidCarry___init__) := ⟨rfl, rfl, rfl, by decide +kernel, rfl, by decide +kernel, by decide +kernel⟩
theorem sc_InvalidWire___init__ : FnScope ["self", "value"] ["self", "value"] (defScope s_InvalidWire___init__) := ⟨rfl, rfl, rfl, by decide +kernel, rfl, by decide +kernel, by decide +kernel⟩
theorem sc_InvalidFault___init__ : FnScope ["self", "value"] ["self", "value"] (defScope s_InvalidFault___init__) := ⟨rfl, rfl, rfl, by decide +kernel, rfl, by decide +kernel, by decide +kernel⟩
theorem sc_InvalidEdit___init__ : FnScope ["self", "index"] ["self", "index"] (defScope s_InvalidEdit___init__) := ⟨rfl, rfl, rfl, by decide +kernel, rfl, by decide +kernel, by decide +kernel⟩
theorem sc_InvalidText___init__ : FnScope ["self", "line", "word"] ["self", "line", "word"] (defScope s_InvalidText___init__) := ⟨rfl, rfl, rfl, by decide +kernel, rfl, by decide +kernel, by decide +kernel⟩
theorem sc_UnknownCommand___init__ : FnScope ["self", "word"] ["self", "word"] (defScope s_UnknownCommand___init__) := ⟨rfl, rfl, rfl, by decide +kernel, rfl, by decide +kernel, by decide +kernel⟩
theorem sc_NotAlike___init__ : FnScope ["self", "first", "second"] ["self", "first", "second"] (defScope s_NotAlike___init__) := ⟨rfl, rfl, rfl, by decide +kernel, rfl, by decide +kernel, by decide +kernel⟩
theorem sc_InUse___init__ : FnScope ["self", "cell"] ["self", "cell"] (defScope s_InUse___init__) := ⟨rfl, rfl, rfl, by decide +kernel, rfl, by decide +kernel, by decide +kernel⟩
theorem sc_NoNode___init__ : FnScope ["self", "node"] ["self", "node"] (defScope s_NoNode___init__) := ⟨rfl, rfl, rfl, by decide +kernel, rfl, by decide +kernel, by decide +kernel⟩
theorem sc_NoCell___init__ : FnScope ["self", "index"] ["self", "index"] (defScope s_NoCell___init__) := ⟨rfl, rfl, rfl, by decide +kernel, rfl, by decide +kernel, by decide +kernel⟩
theorem sc_NoOutput___init__ : FnScope ["self", "output"] ["self", "output"] (defScope s_NoOutput___init__) := ⟨rfl, rfl, rfl, by decide +kernel, rfl, by decide +kernel, by decide +kernel⟩
theorem sc_NoPlace___init__ : FnScope ["self", "index"] ["self", "index"] (defScope s_NoPlace___init__) := ⟨rfl, rfl, rfl, by decide +kernel, rfl, by decide +kernel, by decide +kernel⟩
theorem sc_NoTrial___init__ : FnScope ["self", "index"] ["self", "index"] (defScope s_NoTrial___init__) := ⟨rfl, rfl, rfl, by decide +kernel, rfl, by decide +kernel, by decide +kernel⟩
theorem sc_NoMark___init__ : FnScope ["self", "name"] ["self", "name"] (defScope s_NoMark___init__) := ⟨rfl, rfl, rfl, by decide +kernel, rfl, by decide +kernel, by decide +kernel⟩
theorem sc_TooMany___init__ : FnScope ["self", "most"] ["self", "most"] (defScope s_TooMany___init__) := ⟨rfl, rfl, rfl, by decide +kernel, rfl, by decide +kernel, by decide +kernel⟩
structure Txt0 (K : PySem.W.Frag) (mg : Str → Option Value) : Prop where
  d_Lbegin : ∃ fd, FunD K "_law_begin" "_law_begin" (defArgs s_Lbegin) (defBody s_Lbegin) (defScope s_Lbegin) [] [] (He.fAd K ("_law_begin", none)) fd
  m_Lbegin : mg "_law_begin" = some (.ref (He.fAd K ("_law_begin", none)))
  d_Ltake : ∃ fd, FunD K "_law_take" "_law_take" (defArgs s_Ltake) (defBody s_Ltake) (defScope s_Ltake) [] [] (He.fAd K ("_law_take", none)) fd
  m_Ltake : mg "_law_take" = some (.ref (He.fAd K ("_law_take", none)))
  d_Lthing : ∃ fd, FunD K "_law_thing" "_law_thing" (defArgs s_Lthing) (defBody s_Lthing) (defScope s_Lthing) [] [] (He.fAd K ("_law_thing", none)) fd
  m_Lthing : mg "_law_thing" = some (.ref (He.fAd K ("_law_thing", none)))
  d_Lmade : ∃ fd, FunD K "_law_made" "_law_made" (defArgs s_Lmade) (defBody s_Lmade) (defScope s_Lmade) [] [] (He.fAd K ("_law_made", none)) fd
  m_Lmade : mg "_law_made" = some (.ref (He.fAd K ("_law_made", none)))
  d_Lkinds : ∃ fd, FunD K "_law_kinds" "_law_kinds" (defArgs s_Lkinds) (defBody s_Lkinds) (defScope s_Lkinds) [] [] (He.fAd K ("_law_kinds", none)) fd
  m_Lkinds : mg "_law_kinds" = some (.ref (He.fAd K ("_law_kinds", none)))
  d_Lbases : ∃ fd, FunD K "_law_bases" "_law_bases" (defArgs s_Lbases) (defBody s_Lbases) (defScope s_Lbases) [] [] (He.fAd K ("_law_bases", none)) fd
  m_Lbases : mg "_law_bases" = some (.ref (He.fAd K ("_law_bases", none)))
  d_Lplaced : ∃ fd, FunD K "_law_placed" "_law_placed" (defArgs s_Lplaced) (defBody s_Lplaced) (defScope s_Lplaced) [] [] (He.fAd K ("_law_placed", none)) fd
  m_Lplaced : mg "_law_placed" = some (.ref (He.fAd K ("_law_placed", none)))
  d_Lnamed : ∃ fd, FunD K "_law_named" "_law_named" (defArgs s_Lnamed) (defBody s_Lnamed) (defScope s_Lnamed) [] [] (He.fAd K ("_law_named", none)) fd
  m_Lnamed : mg "_law_named" = some (.ref (He.fAd K ("_law_named", none)))
  d_law : ∃ fd, FunD K "law" "law" (defArgs s_law) (defBody s_law) (defScope s_law) [] [] (He.fAd K ("law", none)) fd
  m_law : mg "law" = some (.ref (He.fAd K ("law", none)))
  d_InvalidSize___init__ : ∃ fd, FunD K "__init__" "InvalidSize.__init__" (defArgs s_InvalidSize___init__) (defBody s_InvalidSize___init__) (defScope s_InvalidSize___init__) [] [] (He.fAd K ("InvalidSize", some "__init__")) fd
  d_InvalidNumber___init__ : ∃ fd, FunD K "__init__" "InvalidNumber.__init__" (defArgs s_InvalidNumber___init__) (defBody s_InvalidNumber___init__) (defScope s_InvalidNumber___init__) [] [] (He.fAd K ("InvalidNumber", some "__init__")) fd
  d_InvalidTrial___init__ : ∃ fd, FunD K "__init__" "InvalidTrial.__init__" (defArgs s_InvalidTrial___init__) (defBody s_InvalidTrial___init__) (defScope s_InvalidTrial___init__) [] [] (He.fAd K ("InvalidTrial", some "__init__")) fd
  d_InvalidPosition___init__ : ∃ fd, FunD K "__init__" "InvalidPosition.__init__" (defArgs s_InvalidPosition___init__) (defBody s_InvalidPosition___init__) (defScope s_InvalidPosition___init__) [] [] (He.fAd K ("InvalidPosition", some "__init__")) fd
  d_InvalidCells___init__ : ∃ fd, FunD K "__init__" "InvalidCells.__init__" (defArgs s_InvalidCells___init__) (defBody s_InvalidCells___init__) (defScope s_InvalidCells___init__) [] [] (He.fAd K ("InvalidCells", some "__init__")) fd
  d_InvalidOutputs___init__ : ∃ fd, FunD K "__init__" "InvalidOutputs.__init__" (defArgs s_InvalidOutputs___init__) (defBody s_InvalidOutputs___init__) (defScope s_InvalidOutputs___init__) [] [] (He.fAd K ("InvalidOutputs", some "__init__")) fd
  d_InvalidStuck___init__ : ∃ fd, FunD K "__init__" "InvalidStuck.__init__" (defArgs s_InvalidStuck___init__) (defBody s_InvalidStuck___init__) (defScope s_InvalidStuck___init__) [] [] (He.fAd K ("InvalidStuck", some "__init__")) fd
  d_InvalidRow___init__ : ∃ fd, FunD K "__init__" "InvalidRow.__init__" (defArgs s_InvalidRow___init__) (defBody s_InvalidRow___init__) (defScope s_InvalidRow___init__) [] [] (He.fAd K ("InvalidRow", some "__init__")) fd
  d_InvalidCarry___init__ : ∃ fd, FunD K "__init__" "InvalidCarry.__init__" (defArgs s_InvalidCarry___init__) (defBody s_InvalidCarry___init__) (defScope s_InvalidCarry___init__) [] [] (He.fAd K ("InvalidCarry", some "__init__")) fd
  d_InvalidWire___init__ : ∃ fd, FunD K "__init__" "InvalidWire.__init__" (defArgs s_InvalidWire___init__) (defBody s_InvalidWire___init__) (defScope s_InvalidWire___init__) [] [] (He.fAd K ("InvalidWire", some "__init__")) fd
  d_InvalidFault___init__ : ∃ fd, FunD K "__init__" "InvalidFault.__init__" (defArgs s_InvalidFault___init__) (defBody s_InvalidFault___init__) (defScope s_InvalidFault___init__) [] [] (He.fAd K ("InvalidFault", some "__init__")) fd
  d_InvalidEdit___init__ : ∃ fd, FunD K "__init__" "InvalidEdit.__init__" (defArgs s_InvalidEdit___init__) (defBody s_InvalidEdit___init__) (defScope s_InvalidEdit___init__) [] [] (He.fAd K ("InvalidEdit", some "__init__")) fd
  d_InvalidText___init__ : ∃ fd, FunD K "__init__" "InvalidText.__init__" (defArgs s_InvalidText___init__) (defBody s_InvalidText___init__) (defScope s_InvalidText___init__) [] [] (He.fAd K ("InvalidText", some "__init__")) fd
  d_UnknownCommand___init__ : ∃ fd, FunD K "__init__" "UnknownCommand.__init__" (defArgs s_UnknownCommand___init__) (defBody s_UnknownCommand___init__) (defScope s_UnknownCommand___init__) [] [] (He.fAd K ("UnknownCommand", some "__init__")) fd
  d_NotAlike___init__ : ∃ fd, FunD K "__init__" "NotAlike.__init__" (defArgs s_NotAlike___init__) (defBody s_NotAlike___init__) (defScope s_NotAlike___init__) [] [] (He.fAd K ("NotAlike", some "__init__")) fd
  d_InUse___init__ : ∃ fd, FunD K "__init__" "InUse.__init__" (defArgs s_InUse___init__) (defBody s_InUse___init__) (defScope s_InUse___init__) [] [] (He.fAd K ("InUse", some "__init__")) fd
  d_NoNode___init__ : ∃ fd, FunD K "__init__" "NoNode.__init__" (defArgs s_NoNode___init__) (defBody s_NoNode___init__) (defScope s_NoNode___init__) [] [] (He.fAd K ("NoNode", some "__init__")) fd
  d_NoCell___init__ : ∃ fd, FunD K "__init__" "NoCell.__init__" (defArgs s_NoCell___init__) (defBody s_NoCell___init__) (defScope s_NoCell___init__) [] [] (He.fAd K ("NoCell", some "__init__")) fd
  d_NoOutput___init__ : ∃ fd, FunD K "__init__" "NoOutput.__init__" (defArgs s_NoOutput___init__) (defBody s_NoOutput___init__) (defScope s_NoOutput___init__) [] [] (He.fAd K ("NoOutput", some "__init__")) fd
  d_NoPlace___init__ : ∃ fd, FunD K "__init__" "NoPlace.__init__" (defArgs s_NoPlace___init__) (defBody s_NoPlace___init__) (defScope s_NoPlace___init__) [] [] (He.fAd K ("NoPlace", some "__init__")) fd
  d_NoTrial___init__ : ∃ fd, FunD K "__init__" "NoTrial.__init__" (defArgs s_NoTrial___init__) (defBody s_NoTrial___init__) (defScope s_NoTrial___init__) [] [] (He.fAd K ("NoTrial", some "__init__")) fd
  d_NoMark___init__ : ∃ fd, FunD K "__init__" "NoMark.__init__" (defArgs s_NoMark___init__) (defBody s_NoMark___init__) (defScope s_NoMark___init__) [] [] (He.fAd K ("NoMark", some "__init__")) fd
  d_TooMany___init__ : ∃ fd, FunD K "__init__" "TooMany.__init__" (defArgs s_TooMany___init__) (defBody s_TooMany___init__) (defScope s_TooMany___init__) [] [] (He.fAd K ("TooMany", some "__init__")) fd
  er_InvalidSize : ErrC "ValueError.__new__" mroV K "InvalidSize"
  nf_InvalidSize_value : PySem.W.findIn K (.ref (He.ga K "InvalidSize")) "value" = some none
  er_InvalidNumber : ErrC "ValueError.__new__" mroV K "InvalidNumber"
  nf_InvalidNumber_value : PySem.W.findIn K (.ref (He.ga K "InvalidNumber")) "value" = some none
  er_InvalidTrial : ErrC "ValueError.__new__" mroV K "InvalidTrial"
  nf_InvalidTrial_value : PySem.W.findIn K (.ref (He.ga K "InvalidTrial")) "value" = some none
  er_InvalidPosition : ErrC "ValueError.__new__" mroV K "InvalidPosition"
  nf_InvalidPosition_index : PySem.W.findIn K (.ref (He.ga K "InvalidPosition")) "index" = some none
  er_InvalidCells : ErrC "ValueError.__new__" mroV K "InvalidCells"
  nf_InvalidCells_index : PySem.W.findIn K (.ref (He.ga K "InvalidCells")) "index" = some none
  er_InvalidOutputs : ErrC "ValueError.__new__" mroV K "InvalidOutputs"
  nf_InvalidOutputs_index : PySem.W.findIn K (.ref (He.ga K "InvalidOutputs")) "index" = some none
  er_InvalidStuck : ErrC "ValueError.__new__" mroV K "InvalidStuck"
  nf_InvalidStuck_index : PySem.W.findIn K (.ref (He.ga K "InvalidStuck")) "index" = some none
  er_InvalidRow : ErrC "ValueError.__new__" mroV K "InvalidRow"
  nf_InvalidRow_value : PySem.W.findIn K (.ref (He.ga K "InvalidRow")) "value" = some none
  er_InvalidCarry : ErrC "ValueError.__new__" mroV K "InvalidCarry"
  nf_InvalidCarry_value : PySem.W.findIn K (.ref (He.ga K "InvalidCarry")) "value" = some none
  er_InvalidWire : ErrC "ValueError.__new__" mroV K "InvalidWire"
  nf_InvalidWire_value : PySem.W.findIn K (.ref (He.ga K "InvalidWire")) "value" = some none
  er_InvalidFault : ErrC "ValueError.__new__" mroV K "InvalidFault"
  nf_InvalidFault_value : PySem.W.findIn K (.ref (He.ga K "InvalidFault")) "value" = some none
  er_InvalidEdit : ErrC "ValueError.__new__" mroV K "InvalidEdit"
  nf_InvalidEdit_index : PySem.W.findIn K (.ref (He.ga K "InvalidEdit")) "index" = some none
  er_InvalidText : ErrC "ValueError.__new__" mroV K "InvalidText"
  nf_InvalidText_line : PySem.W.findIn K (.ref (He.ga K "InvalidText")) "line" = some none
  nf_InvalidText_word : PySem.W.findIn K (.ref (He.ga K "InvalidText")) "word" = some none
  er_UnknownCommand : ErrC "ValueError.__new__" mroV K "UnknownCommand"
  nf_UnknownCommand_word : PySem.W.findIn K (.ref (He.ga K "UnknownCommand")) "word" = some none
  er_NotAlike : ErrC "ValueError.__new__" mroV K "NotAlike"
  nf_NotAlike_first : PySem.W.findIn K (.ref (He.ga K "NotAlike")) "first" = some none
  nf_NotAlike_second : PySem.W.findIn K (.ref (He.ga K "NotAlike")) "second" = some none
  en_NotEnough : ErrN "ValueError.__new__" mroV K "NotEnough"
  en_Contradicted : ErrN "ValueError.__new__" mroV K "Contradicted"
  er_InUse : ErrC "ValueError.__new__" mroV K "InUse"
  nf_InUse_cell : PySem.W.findIn K (.ref (He.ga K "InUse")) "cell" = some none
  er_NoNode : ErrC "LookupError.__new__" mroL K "NoNode"
  nf_NoNode_node : PySem.W.findIn K (.ref (He.ga K "NoNode")) "node" = some none
  er_NoCell : ErrC "LookupError.__new__" mroL K "NoCell"
  nf_NoCell_index : PySem.W.findIn K (.ref (He.ga K "NoCell")) "index" = some none
  er_NoOutput : ErrC "LookupError.__new__" mroL K "NoOutput"
  nf_NoOutput_output : PySem.W.findIn K (.ref (He.ga K "NoOutput")) "output" = some none
  er_NoPlace : ErrC "LookupError.__new__" mroL K "NoPlace"
  nf_NoPlace_index : PySem.W.findIn K (.ref (He.ga K "NoPlace")) "index" = some none
  er_NoTrial : ErrC "LookupError.__new__" mroL K "NoTrial"
  nf_NoTrial_index : PySem.W.findIn K (.ref (He.ga K "NoTrial")) "index" = some none
  er_NoMark : ErrC "LookupError.__new__" mroL K "NoMark"
  nf_NoMark_name : PySem.W.findIn K (.ref (He.ga K "NoMark")) "name" = some none
  en_NothingToUndo : ErrN "LookupError.__new__" mroL K "NothingToUndo"
  en_NothingToRedo : ErrN "LookupError.__new__" mroL K "NothingToRedo"
  en_Finished : ErrN "LookupError.__new__" mroL K "Finished"
  en_NotFinished : ErrN "LookupError.__new__" mroL K "NotFinished"
  er_TooMany : ErrC "OverflowError.__new__" mroO K "TooMany"
  nf_TooMany_most : PySem.W.findIn K (.ref (He.ga K "TooMany")) "most" = some none
  g_TooMany : mg "TooMany" = some (.ref (He.ga K "TooMany"))
  g_NotFinished : mg "NotFinished" = some (.ref (He.ga K "NotFinished"))
  g_Finished : mg "Finished" = some (.ref (He.ga K "Finished"))
  g_NothingToRedo : mg "NothingToRedo" = some (.ref (He.ga K "NothingToRedo"))
  g_NothingToUndo : mg "NothingToUndo" = some (.ref (He.ga K "NothingToUndo"))
  g_NoMark : mg "NoMark" = some (.ref (He.ga K "NoMark"))
  g_NoTrial : mg "NoTrial" = some (.ref (He.ga K "NoTrial"))
  g_NoPlace : mg "NoPlace" = some (.ref (He.ga K "NoPlace"))
  g_NoOutput : mg "NoOutput" = some (.ref (He.ga K "NoOutput"))
  g_NoCell : mg "NoCell" = some (.ref (He.ga K "NoCell"))
  g_NoNode : mg "NoNode" = some (.ref (He.ga K "NoNode"))
  g_InUse : mg "InUse" = some (.ref (He.ga K "InUse"))
  g_Contradicted : mg "Contradicted" = some (.ref (He.ga K "Contradicted"))
  g_NotEnough : mg "NotEnough" = some (.ref (He.ga K "NotEnough"))
  g_NotAlike : mg "NotAlike" = some (.ref (He.ga K "NotAlike"))
  g_UnknownCommand : mg "UnknownCommand" = some (.ref (He.ga K "UnknownCommand"))
  g_InvalidText : mg "InvalidText" = some (.ref (He.ga K "InvalidText"))
  g_InvalidEdit : mg "InvalidEdit" = some (.ref (He.ga K "InvalidEdit"))
  g_InvalidFault : mg "InvalidFault" = some (.ref (He.ga K "InvalidFault"))
  g_InvalidWire : mg "InvalidWire" = some (.ref (He.ga K "InvalidWire"))
  g_InvalidCarry : mg "InvalidCarry" = some (.ref (He.ga K "InvalidCarry"))
  g_InvalidRow : mg "InvalidRow" = some (.ref (He.ga K "InvalidRow"))
  g_InvalidStuck : mg "InvalidStuck" = some (.ref (He.ga K "InvalidStuck"))
  g_InvalidOutputs : mg "InvalidOutputs" = some (.ref (He.ga K "InvalidOutputs"))
  g_InvalidCells : mg "InvalidCells" = some (.ref (He.ga K "InvalidCells"))
  g_InvalidPosition : mg "InvalidPosition" = some (.ref (He.ga K "InvalidPosition"))
  g_InvalidTrial : mg "InvalidTrial" = some (.ref (He.ga K "InvalidTrial"))
  g_InvalidNumber : mg "InvalidNumber" = some (.ref (He.ga K "InvalidNumber"))
  g_InvalidSize : mg "InvalidSize" = some (.ref (He.ga K "InvalidSize"))
  xc_0 : ∀ C ∈ (["InvalidSize", "InvalidNumber", "InvalidTrial", "InvalidPosition", "InvalidCells", "InvalidOutputs", "InvalidStuck", "InvalidRow", "InvalidCarry", "InvalidWire", "InvalidFault", "InvalidEdit", "InvalidText", "UnknownCommand", "NotAlike", "NotEnough", "Contradicted", "InUse", "NoNode", "NoCell", "NoOutput", "NoPlace", "NoTrial", "NoMark", "NothingToUndo", "NothingToRedo", "Finished", "NotFinished", "TooMany"] : List PySem.Str).map (Zk K), ExcC K C
  ki_1 : ∀ C ∈ (["InvalidSize", "InvalidNumber", "InvalidTrial", "InvalidPosition", "InvalidCells", "InvalidOutputs", "InvalidStuck", "InvalidRow", "InvalidCarry", "InvalidWire", "InvalidFault", "InvalidEdit", "InvalidText", "UnknownCommand", "NotAlike", "NotEnough", "Contradicted", "InUse", "NoNode", "NoCell", "NoOutput", "NoPlace", "NoTrial", "NoMark", "NothingToUndo", "NothingToRedo", "Finished", "NotFinished", "TooMany"] : List PySem.Str).map (Zk K), PySem.W.kitOne K (.ref C) (.ref (He.ga K "InvalidSize")) = some (decide (C ∈ (["InvalidSize"] : List PySem.Str).map (Zk K)))
  kp_2 : ∀ n ∈ (["NoneType", "bool", "int", "str", "tuple", "list", "dict"] : List String), PySem.W.kitOne K (.type n) (.ref (He.ga K "InvalidSize")) = some false
  ki_3 : ∀ C ∈ (["InvalidSize", "InvalidNumber", "InvalidTrial", "InvalidPosition", "InvalidCells", "InvalidOutputs", "InvalidStuck", "InvalidRow", "InvalidCarry", "InvalidWire", "InvalidFault", "InvalidEdit", "InvalidText", "UnknownCommand", "NotAlike", "NotEnough", "Contradicted", "InUse", "NoNode", "NoCell", "NoOutput", "NoPlace", "NoTrial", "NoMark", "NothingToUndo", "NothingToRedo", "Finished", "NotFinished", "TooMany"] : List PySem.Str).map (Zk K), PySem.W.kitOne K (.ref C) (.ref (He.ga K "InvalidNumber")) = some (decide (C ∈ (["InvalidNumber"] : List PySem.Str).map (Zk K)))
  kp_4 : ∀ n ∈ (["NoneType", "bool", "int", "str", "tuple", "list", "dict"] : List String), PySem.W.kitOne K (.type n) (.ref (He.ga K "InvalidNumber")) = some false
  ki_5 : ∀ C ∈ (["InvalidSize", "InvalidNumber", "InvalidTrial", "InvalidPosition", "InvalidCells", "InvalidOutputs", "InvalidStuck", "InvalidRow", "InvalidCarry", "InvalidWire", "InvalidFault", "InvalidEdit", "InvalidText", "UnknownCommand", "NotAlike", "NotEnough", "Contradicted", "InUse", "NoNode", "NoCell", "NoOutput", "NoPlace", "NoTrial", "NoMark", "NothingToUndo", "NothingToRedo", "Finished", "NotFinished", "TooMany"] : List PySem.Str).map (Zk K), PySem.W.kitOne K (.ref C) (.ref (He.ga K "InvalidTrial")) = some (decide (C ∈ (["InvalidTrial"] : List PySem.Str).map (Zk K)))
  kp_6 : ∀ n ∈ (["NoneType", "bool", "int", "str", "tuple", "list", "dict"] : List String), PySem.W.kitOne K (.type n) (.ref (He.ga K "InvalidTrial")) = some false
  ki_7 : ∀ C ∈ (["InvalidSize", "InvalidNumber", "InvalidTrial", "InvalidPosition", "InvalidCells", "InvalidOutputs", "InvalidStuck", "InvalidRow", "InvalidCarry", "InvalidWire", "InvalidFault", "InvalidEdit", "InvalidText", "UnknownCommand", "NotAlike", "NotEnough", "Contradicted", "InUse", "NoNode", "NoCell", "NoOutput", "NoPlace", "NoTrial", "NoMark", "NothingToUndo", "NothingToRedo", "Finished", "NotFinished", "TooMany"] : List PySem.Str).map (Zk K), PySem.W.kitOne K (.ref C) (.ref (He.ga K "InvalidPosition")) = some (decide (C ∈ (["InvalidPosition"] : List PySem.Str).map (Zk K)))
  kp_8 : ∀ n ∈ (["NoneType", "bool", "int", "str", "tuple", "list", "dict"] : List String), PySem.W.kitOne K (.type n) (.ref (He.ga K "InvalidPosition")) = some false
  ki_9 : ∀ C ∈ (["InvalidSize", "InvalidNumber", "InvalidTrial", "InvalidPosition", "InvalidCells", "InvalidOutputs", "InvalidStuck", "InvalidRow", "InvalidCarry", "InvalidWire", "InvalidFault", "InvalidEdit", "InvalidText", "UnknownCommand", "NotAlike", "NotEnough", "Contradicted", "InUse", "NoNode", "NoCell", "NoOutput", "NoPlace", "NoTrial", "NoMark", "NothingToUndo", "NothingToRedo", "Finished", "NotFinished", "TooMany"] : List PySem.Str).map (Zk K), PySem.W.kitOne K (.ref C) (.ref (He.ga K "InvalidCells")) = some (decide (C ∈ (["InvalidCells"] : List PySem.Str).map (Zk K)))
  kp_10 : ∀ n ∈ (["NoneType", "bool", "int", "str", "tuple", "list", "dict"] : List String), PySem.W.kitOne K (.type n) (.ref (He.ga K "InvalidCells")) = some false
  ki_11 : ∀ C ∈ (["InvalidSize", "InvalidNumber", "InvalidTrial", "InvalidPosition", "InvalidCells", "InvalidOutputs", "InvalidStuck", "InvalidRow", "InvalidCarry", "InvalidWire", "InvalidFault", "InvalidEdit", "InvalidText", "UnknownCommand", "NotAlike", "NotEnough", "Contradicted", "InUse", "NoNode", "NoCell", "NoOutput", "NoPlace", "NoTrial", "NoMark", "NothingToUndo", "NothingToRedo", "Finished", "NotFinished", "TooMany"] : List PySem.Str).map (Zk K), PySem.W.kitOne K (.ref C) (.ref (He.ga K "InvalidOutputs")) = some (decide (C ∈ (["InvalidOutputs"] : List PySem.Str).map (Zk K)))
  kp_12 : ∀ n ∈ (["NoneType", "bool", "int", "str", "tuple", "list", "dict"] : List String), PySem.W.kitOne K (.type n) (.ref (He.ga K "InvalidOutputs")) = some false
  ki_13 : ∀ C ∈ (["InvalidSize", "InvalidNumber", "InvalidTrial", "InvalidPosition", "InvalidCells", "InvalidOutputs", "InvalidStuck", "InvalidRow", "InvalidCarry", "InvalidWire", "InvalidFault", "InvalidEdit", "InvalidText", "UnknownCommand", "NotAlike", "NotEnough", "Contradicted", "InUse", "NoNode", "NoCell", "NoOutput", "NoPlace", "NoTrial", "NoMark", "NothingToUndo", "NothingToRedo", "Finished", "NotFinished", "TooMany"] : List PySem.Str).map (Zk K), PySem.W.kitOne K (.ref C) (.ref (He.ga K "InvalidStuck")) = some (decide (C ∈ (["InvalidStuck"] : List PySem.Str).map (Zk K)))
  kp_14 : ∀ n ∈ (["NoneType", "bool", "int", "str", "tuple", "list", "dict"] : List String), PySem.W.kitOne K (.type n) (.ref (He.ga K "InvalidStuck")) = some false
  ki_15 : ∀ C ∈ (["InvalidSize", "InvalidNumber", "InvalidTrial", "InvalidPosition", "InvalidCells", "InvalidOutputs", "InvalidStuck", "InvalidRow", "InvalidCarry", "InvalidWire", "InvalidFault", "InvalidEdit", "InvalidText", "UnknownCommand", "NotAlike", "NotEnough", "Contradicted", "InUse", "NoNode", "NoCell", "NoOutput", "NoPlace", "NoTrial", "NoMark", "NothingToUndo", "NothingToRedo", "Finished", "NotFinished", "TooMany"] : List PySem.Str).map (Zk K), PySem.W.kitOne K (.ref C) (.ref (He.ga K "InvalidRow")) = some (decide (C ∈ (["InvalidRow"] : List PySem.Str).map (Zk K)))
  kp_16 : ∀ n ∈ (["NoneType", "bool", "int", "str", "tuple", "list", "dict"] : List String), PySem.W.kitOne K (.type n) (.ref (He.ga K "InvalidRow")) = some false
  ki_17 : ∀ C ∈ (["InvalidSize", "InvalidNumber", "InvalidTrial", "InvalidPosition", "InvalidCells", "InvalidOutputs", "InvalidStuck", "InvalidRow", "InvalidCarry", "InvalidWire", "InvalidFault", "InvalidEdit", "InvalidText", "UnknownCommand", "NotAlike", "NotEnough", "Contradicted", "InUse", "NoNode", "NoCell", "NoOutput", "NoPlace", "NoTrial", "NoMark", "NothingToUndo", "NothingToRedo", "Finished", "NotFinished", "TooMany"] : List PySem.Str).map (Zk K), PySem.W.kitOne K (.ref C) (.ref (He.ga K "InvalidCarry")) = some (decide (C ∈ (["InvalidCarry"] : List PySem.Str).map (Zk K)))
  kp_18 : ∀ n ∈ (["NoneType", "bool", "int", "str", "tuple", "list", "dict"] : List String), PySem.W.kitOne K (.type n) (.ref (He.ga K "InvalidCarry")) = some false
  ki_19 : ∀ C ∈ (["InvalidSize", "InvalidNumber", "InvalidTrial", "InvalidPosition", "InvalidCells", "InvalidOutputs", "InvalidStuck", "InvalidRow", "InvalidCarry", "InvalidWire", "InvalidFault", "InvalidEdit", "InvalidText", "UnknownCommand", "NotAlike", "NotEnough", "Contradicted", "InUse", "NoNode", "NoCell", "NoOutput", "NoPlace", "NoTrial", "NoMark", "NothingToUndo", "NothingToRedo", "Finished", "NotFinished", "TooMany"] : List PySem.Str).map (Zk K), PySem.W.kitOne K (.ref C) (.ref (He.ga K "InvalidWire")) = some (decide (C ∈ (["InvalidWire"] : List PySem.Str).map (Zk K)))
  kp_20 : ∀ n ∈ (["NoneType", "bool", "int", "str", "tuple", "list", "dict"] : List String), PySem.W.kitOne K (.type n) (.ref (He.ga K "InvalidWire")) = some false
  ki_21 : ∀ C ∈ (["InvalidSize", "InvalidNumber", "InvalidTrial", "InvalidPosition", "InvalidCells", "InvalidOutputs", "InvalidStuck", "InvalidRow", "InvalidCarry", "InvalidWire", "InvalidFault", "InvalidEdit", "InvalidText", "UnknownCommand", "NotAlike", "NotEnough", "Contradicted", "InUse", "NoNode", "NoCell", "NoOutput", "NoPlace", "NoTrial", "NoMark", "NothingToUndo", "NothingToRedo", "Finished", "NotFinished", "TooMany"] : List PySem.Str).map (Zk K), PySem.W.kitOne K (.ref C) (.ref (He.ga K "InvalidFault")) = some (decide (C ∈ (["InvalidFault"] : List PySem.Str).map (Zk K)))
  kp_22 : ∀ n ∈ (["NoneType", "bool", "int", "str", "tuple", "list", "dict"] : List String), PySem.W.kitOne K (.type n) (.ref (He.ga K "InvalidFault")) = some false
  ki_23 : ∀ C ∈ (["InvalidSize", "InvalidNumber", "InvalidTrial", "InvalidPosition", "InvalidCells", "InvalidOutputs", "InvalidStuck", "InvalidRow", "InvalidCarry", "InvalidWire", "InvalidFault", "InvalidEdit", "InvalidText", "UnknownCommand", "NotAlike", "NotEnough", "Contradicted", "InUse", "NoNode", "NoCell", "NoOutput", "NoPlace", "NoTrial", "NoMark", "NothingToUndo", "NothingToRedo", "Finished", "NotFinished", "TooMany"] : List PySem.Str).map (Zk K), PySem.W.kitOne K (.ref C) (.ref (He.ga K "InvalidEdit")) = some (decide (C ∈ (["InvalidEdit"] : List PySem.Str).map (Zk K)))
  kp_24 : ∀ n ∈ (["NoneType", "bool", "int", "str", "tuple", "list", "dict"] : List String), PySem.W.kitOne K (.type n) (.ref (He.ga K "InvalidEdit")) = some false
  ki_25 : ∀ C ∈ (["InvalidSize", "InvalidNumber", "InvalidTrial", "InvalidPosition", "InvalidCells", "InvalidOutputs", "InvalidStuck", "InvalidRow", "InvalidCarry", "InvalidWire", "InvalidFault", "InvalidEdit", "InvalidText", "UnknownCommand", "NotAlike", "NotEnough", "Contradicted", "InUse", "NoNode", "NoCell", "NoOutput", "NoPlace", "NoTrial", "NoMark", "NothingToUndo", "NothingToRedo", "Finished", "NotFinished", "TooMany"] : List PySem.Str).map (Zk K), PySem.W.kitOne K (.ref C) (.ref (He.ga K "InvalidText")) = some (decide (C ∈ (["InvalidText"] : List PySem.Str).map (Zk K)))
  kp_26 : ∀ n ∈ (["NoneType", "bool", "int", "str", "tuple", "list", "dict"] : List String), PySem.W.kitOne K (.type n) (.ref (He.ga K "InvalidText")) = some false
  ki_27 : ∀ C ∈ (["InvalidSize", "InvalidNumber", "InvalidTrial", "InvalidPosition", "InvalidCells", "InvalidOutputs", "InvalidStuck", "InvalidRow", "InvalidCarry", "InvalidWire", "InvalidFault", "InvalidEdit", "InvalidText", "UnknownCommand", "NotAlike", "NotEnough", "Contradicted", "InUse", "NoNode", "NoCell", "NoOutput", "NoPlace", "NoTrial", "NoMark", "NothingToUndo", "NothingToRedo", "Finished", "NotFinished", "TooMany"] : List PySem.Str).map (Zk K), PySem.W.kitOne K (.ref C) (.ref (He.ga K "UnknownCommand")) = some (decide (C ∈ (["UnknownCommand"] : List PySem.Str).map (Zk K)))
  kp_28 : ∀ n ∈ (["NoneType", "bool", "int", "str", "tuple", "list", "dict"] : List String), PySem.W.kitOne K (.type n) (.ref (He.ga K "UnknownCommand")) = some false
  ki_29 : ∀ C ∈ (["InvalidSize", "InvalidNumber", "InvalidTrial", "InvalidPosition", "InvalidCells", "InvalidOutputs", "InvalidStuck", "InvalidRow", "InvalidCarry", "InvalidWire", "InvalidFault", "InvalidEdit", "InvalidText", "UnknownCommand", "NotAlike", "NotEnough", "Contradicted", "InUse", "NoNode", "NoCell", "NoOutput", "NoPlace", "NoTrial", "NoMark", "NothingToUndo", "NothingToRedo", "Finished", "NotFinished", "TooMany"] : List PySem.Str).map (Zk K), PySem.W.kitOne K (.ref C) (.ref (He.ga K "NotAlike")) = some (decide (C ∈ (["NotAlike"] : List PySem.Str).map (Zk K)))
  kp_30 : ∀ n ∈ (["NoneType", "bool", "int", "str", "tuple", "list", "dict"] : List String), PySem.W.kitOne K (.type n) (.ref (He.ga K "NotAlike")) = some false
  ki_31 : ∀ C ∈ (["InvalidSize", "InvalidNumber", "InvalidTrial", "InvalidPosition", "InvalidCells", "InvalidOutputs", "InvalidStuck", "InvalidRow", "InvalidCarry", "InvalidWire", "InvalidFault", "InvalidEdit", "InvalidText", "UnknownCommand", "NotAlike", "NotEnough", "Contradicted", "InUse", "NoNode", "NoCell", "NoOutput", "NoPlace", "NoTrial", "NoMark", "NothingToUndo", "NothingToRedo", "Finished", "NotFinished", "TooMany"] : List PySem.Str).map (Zk K), PySem.W.kitOne K (.ref C) (.ref (He.ga K "NotEnough")) = some (decide (C ∈ (["NotEnough"] : List PySem.Str).map (Zk K)))
  kp_32 : ∀ n ∈ (["NoneType", "bool", "int", "str", "tuple", "list", "dict"] : List String), PySem.W.kitOne K (.type n) (.ref (He.ga K "NotEnough")) = some false
  ki_33 : ∀ C ∈ (["InvalidSize", "InvalidNumber", "InvalidTrial", "InvalidPosition", "InvalidCells", "InvalidOutputs", "InvalidStuck", "InvalidRow", "InvalidCarry", "InvalidWire", "InvalidFault", "InvalidEdit", "InvalidText", "UnknownCommand", "NotAlike", "NotEnough", "Contradicted", "InUse", "NoNode", "NoCell", "NoOutput", "NoPlace", "NoTrial", "NoMark", "NothingToUndo", "NothingToRedo", "Finished", "NotFinished", "TooMany"] : List PySem.Str).map (Zk K), PySem.W.kitOne K (.ref C) (.ref (He.ga K "Contradicted")) = some (decide (C ∈ (["Contradicted"] : List PySem.Str).map (Zk K)))
  kp_34 : ∀ n ∈ (["NoneType", "bool", "int", "str", "tuple", "list", "dict"] : List String), PySem.W.kitOne K (.type n) (.ref (He.ga K "Contradicted")) = some false
  ki_35 : ∀ C ∈ (["InvalidSize", "InvalidNumber", "InvalidTrial", "InvalidPosition", "InvalidCells", "InvalidOutputs", "InvalidStuck", "InvalidRow", "InvalidCarry", "InvalidWire", "InvalidFault", "InvalidEdit", "InvalidText", "UnknownCommand", "NotAlike", "NotEnough", "Contradicted", "InUse", "NoNode", "NoCell", "NoOutput", "NoPlace", "NoTrial", "NoMark", "NothingToUndo", "NothingToRedo", "Finished", "NotFinished", "TooMany"] : List PySem.Str).map (Zk K), PySem.W.kitOne K (.ref C) (.ref (He.ga K "InUse")) = some (decide (C ∈ (["InUse"] : List PySem.Str).map (Zk K)))
  kp_36 : ∀ n ∈ (["NoneType", "bool", "int", "str", "tuple", "list", "dict"] : List String), PySem.W.kitOne K (.type n) (.ref (He.ga K "InUse")) = some false
  ki_37 : ∀ C ∈ (["InvalidSize", "InvalidNumber", "InvalidTrial", "InvalidPosition", "InvalidCells", "InvalidOutputs", "InvalidStuck", "InvalidRow", "InvalidCarry", "InvalidWire", "InvalidFault", "InvalidEdit", "InvalidText", "UnknownCommand", "NotAlike", "NotEnough", "Contradicted", "InUse", "NoNode", "NoCell", "NoOutput", "NoPlace", "NoTrial", "NoMark", "NothingToUndo", "NothingToRedo", "Finished", "NotFinished", "TooMany"] : List PySem.Str).map (Zk K), PySem.W.kitOne K (.ref C) (.ref (He.ga K "NoNode")) = some (decide (C ∈ (["NoNode"] : List PySem.Str).map (Zk K)))
  kp_38 : ∀ n ∈ (["NoneType", "bool", "int", "str", "tuple", "list", "dict"] : List String), PySem.W.kitOne K (.type n) (.ref (He.ga K "NoNode")) = some false
  ki_39 : ∀ C ∈ (["InvalidSize", "InvalidNumber", "InvalidTrial", "InvalidPosition", "InvalidCells", "InvalidOutputs", "InvalidStuck", "InvalidRow", "InvalidCarry", "InvalidWire", "InvalidFault", "InvalidEdit", "InvalidText", "UnknownCommand", "NotAlike", "NotEnough", "Contradicted", "InUse", "NoNode", "NoCell", "NoOutput", "NoPlace", "NoTrial", "NoMark", "NothingToUndo", "NothingToRedo", "Finished", "NotFinished", "TooMany"] : List PySem.Str).map (Zk K), PySem.W.kitOne K (.ref C) (.ref (He.ga K "NoCell")) = some (decide (C ∈ (["NoCell"] : List PySem.Str).map (Zk K)))
  kp_40 : ∀ n ∈ (["NoneType", "bool", "int", "str", "tuple", "list", "dict"] : List String), PySem.W.kitOne K (.type n) (.ref (He.ga K "NoCell")) = some false
  ki_41 : ∀ C ∈ (["InvalidSize", "InvalidNumber", "InvalidTrial", "InvalidPosition", "InvalidCells", "InvalidOutputs", "InvalidStuck", "InvalidRow", "InvalidCarry", "InvalidWire", "InvalidFault", "InvalidEdit", "InvalidText", "UnknownCommand", "NotAlike", "NotEnough", "Contradicted", "InUse", "NoNode", "NoCell", "NoOutput", "NoPlace", "NoTrial", "NoMark", "NothingToUndo", "NothingToRedo", "Finished", "NotFinished", "TooMany"] : List PySem.Str).map (Zk K), PySem.W.kitOne K (.ref C) (.ref (He.ga K "NoOutput")) = some (decide (C ∈ (["NoOutput"] : List PySem.Str).map (Zk K)))
  kp_42 : ∀ n ∈ (["NoneType", "bool", "int", "str", "tuple", "list", "dict"] : List String), PySem.W.kitOne K (.type n) (.ref (He.ga K "NoOutput")) = some false
  ki_43 : ∀ C ∈ (["InvalidSize", "InvalidNumber", "InvalidTrial", "InvalidPosition", "InvalidCells", "InvalidOutputs", "InvalidStuck", "InvalidRow", "InvalidCarry", "InvalidWire", "InvalidFault", "InvalidEdit", "InvalidText", "UnknownCommand", "NotAlike", "NotEnough", "Contradicted", "InUse", "NoNode", "NoCell", "NoOutput", "NoPlace", "NoTrial", "NoMark", "NothingToUndo", "NothingToRedo", "Finished", "NotFinished", "TooMany"] : List PySem.Str).map (Zk K), PySem.W.kitOne K (.ref C) (.ref (He.ga K "NoPlace")) = some (decide (C ∈ (["NoPlace"] : List PySem.Str).map (Zk K)))
  kp_44 : ∀ n ∈ (["NoneType", "bool", "int", "str", "tuple", "list", "dict"] : List String), PySem.W.kitOne K (.type n) (.ref (He.ga K "NoPlace")) = some false
  ki_45 : ∀ C ∈ (["InvalidSize", "InvalidNumber", "InvalidTrial", "InvalidPosition", "InvalidCells", "InvalidOutputs", "InvalidStuck", "InvalidRow", "InvalidCarry", "InvalidWire", "InvalidFault", "InvalidEdit", "InvalidText", "UnknownCommand", "NotAlike", "NotEnough", "Contradicted", "InUse", "NoNode", "NoCell", "NoOutput", "NoPlace", "NoTrial", "NoMark", "NothingToUndo", "NothingToRedo", "Finished", "NotFinished", "TooMany"] : List PySem.Str).map (Zk K), PySem.W.kitOne K (.ref C) (.ref (He.ga K "NoTrial")) = some (decide (C ∈ (["NoTrial"] : List PySem.Str).map (Zk K)))
  kp_46 : ∀ n ∈ (["NoneType", "bool", "int", "str", "tuple", "list", "dict"] : List String), PySem.W.kitOne K (.type n) (.ref (He.ga K "NoTrial")) = some false
  ki_47 : ∀ C ∈ (["InvalidSize", "InvalidNumber", "InvalidTrial", "InvalidPosition", "InvalidCells", "InvalidOutputs", "InvalidStuck", "InvalidRow", "InvalidCarry", "InvalidWire", "InvalidFault", "InvalidEdit", "InvalidText", "UnknownCommand", "NotAlike", "NotEnough", "Contradicted", "InUse", "NoNode", "NoCell", "NoOutput", "NoPlace", "NoTrial", "NoMark", "NothingToUndo", "NothingToRedo", "Finished", "NotFinished", "TooMany"] : List PySem.Str).map (Zk K), PySem.W.kitOne K (.ref C) (.ref (He.ga K "NoMark")) = some (decide (C ∈ (["NoMark"] : List PySem.Str).map (Zk K)))
  kp_48 : ∀ n ∈ (["NoneType", "bool", "int", "str", "tuple", "list", "dict"] : List String), PySem.W.kitOne K (.type n) (.ref (He.ga K "NoMark")) = some false
  ki_49 : ∀ C ∈ (["InvalidSize", "InvalidNumber", "InvalidTrial", "InvalidPosition", "InvalidCells", "InvalidOutputs", "InvalidStuck", "InvalidRow", "InvalidCarry", "InvalidWire", "InvalidFault", "InvalidEdit", "InvalidText", "UnknownCommand", "NotAlike", "NotEnough", "Contradicted", "InUse", "NoNode", "NoCell", "NoOutput", "NoPlace", "NoTrial", "NoMark", "NothingToUndo", "NothingToRedo", "Finished", "NotFinished", "TooMany"] : List PySem.Str).map (Zk K), PySem.W.kitOne K (.ref C) (.ref (He.ga K "NothingToUndo")) = some (decide (C ∈ (["NothingToUndo"] : List PySem.Str).map (Zk K)))
  kp_50 : ∀ n ∈ (["NoneType", "bool", "int", "str", "tuple", "list", "dict"] : List String), PySem.W.kitOne K (.type n) (.ref (He.ga K "NothingToUndo")) = some false
  ki_51 : ∀ C ∈ (["InvalidSize", "InvalidNumber", "InvalidTrial", "InvalidPosition", "InvalidCells", "InvalidOutputs", "InvalidStuck", "InvalidRow", "InvalidCarry", "InvalidWire", "InvalidFault", "InvalidEdit", "InvalidText", "UnknownCommand", "NotAlike", "NotEnough", "Contradicted", "InUse", "NoNode", "NoCell", "NoOutput", "NoPlace", "NoTrial", "NoMark", "NothingToUndo", "NothingToRedo", "Finished", "NotFinished", "TooMany"] : List PySem.Str).map (Zk K), PySem.W.kitOne K (.ref C) (.ref (He.ga K "NothingToRedo")) = some (decide (C ∈ (["NothingToRedo"] : List PySem.Str).map (Zk K)))
  kp_52 : ∀ n ∈ (["NoneType", "bool", "int", "str", "tuple", "list", "dict"] : List String), PySem.W.kitOne K (.type n) (.ref (He.ga K "NothingToRedo")) = some false
  ki_53 : ∀ C ∈ (["InvalidSize", "InvalidNumber", "InvalidTrial", "InvalidPosition", "InvalidCells", "InvalidOutputs", "InvalidStuck", "InvalidRow", "InvalidCarry", "InvalidWire", "InvalidFault", "InvalidEdit", "InvalidText", "UnknownCommand", "NotAlike", "NotEnough", "Contradicted", "InUse", "NoNode", "NoCell", "NoOutput", "NoPlace", "NoTrial", "NoMark", "NothingToUndo", "NothingToRedo", "Finished", "NotFinished", "TooMany"] : List PySem.Str).map (Zk K), PySem.W.kitOne K (.ref C) (.ref (He.ga K "Finished")) = some (decide (C ∈ (["Finished"] : List PySem.Str).map (Zk K)))
  kp_54 : ∀ n ∈ (["NoneType", "bool", "int", "str", "tuple", "list", "dict"] : List String), PySem.W.kitOne K (.type n) (.ref (He.ga K "Finished")) = some false
  ki_55 : ∀ C ∈ (["InvalidSize", "InvalidNumber", "InvalidTrial", "InvalidPosition", "InvalidCells", "InvalidOutputs", "InvalidStuck", "InvalidRow", "InvalidCarry", "InvalidWire", "InvalidFault", "InvalidEdit", "InvalidText", "UnknownCommand", "NotAlike", "NotEnough", "Contradicted", "InUse", "NoNode", "NoCell", "NoOutput", "NoPlace", "NoTrial", "NoMark", "NothingToUndo", "NothingToRedo", "Finished", "NotFinished", "TooMany"] : List PySem.Str).map (Zk K), PySem.W.kitOne K (.ref C) (.ref (He.ga K "NotFinished")) = some (decide (C ∈ (["NotFinished"] : List PySem.Str).map (Zk K)))
  kp_56 : ∀ n ∈ (["NoneType", "bool", "int", "str", "tuple", "list", "dict"] : List String), PySem.W.kitOne K (.type n) (.ref (He.ga K "NotFinished")) = some false
  ki_57 : ∀ C ∈ (["InvalidSize", "InvalidNumber", "InvalidTrial", "InvalidPosition", "InvalidCells", "InvalidOutputs", "InvalidStuck", "InvalidRow", "InvalidCarry", "InvalidWire", "InvalidFault", "InvalidEdit", "InvalidText", "UnknownCommand", "NotAlike", "NotEnough", "Contradicted", "InUse", "NoNode", "NoCell", "NoOutput", "NoPlace", "NoTrial", "NoMark", "NothingToUndo", "NothingToRedo", "Finished", "NotFinished", "TooMany"] : List PySem.Str).map (Zk K), PySem.W.kitOne K (.ref C) (.ref (He.ga K "TooMany")) = some (decide (C ∈ (["TooMany"] : List PySem.Str).map (Zk K)))
  kp_58 : ∀ n ∈ (["NoneType", "bool", "int", "str", "tuple", "list", "dict"] : List String), PySem.W.kitOne K (.type n) (.ref (He.ga K "TooMany")) = some false
  ki_59 : ∀ C ∈ (["InvalidSize", "InvalidNumber", "InvalidTrial", "InvalidPosition", "InvalidCells", "InvalidOutputs", "InvalidStuck", "InvalidRow", "InvalidCarry", "InvalidWire", "InvalidFault", "InvalidEdit", "InvalidText", "UnknownCommand", "NotAlike", "NotEnough", "Contradicted", "InUse", "NoNode", "NoCell", "NoOutput", "NoPlace", "NoTrial", "NoMark", "NothingToUndo", "NothingToRedo", "Finished", "NotFinished", "TooMany"] : List PySem.Str).map (Zk K), PySem.W.kitOne K (.ref C) (.ref (He.ga K "ProbeError")) = some (decide (C ∈ (["InvalidSize", "InvalidNumber", "InvalidTrial", "InvalidPosition", "InvalidCells", "InvalidOutputs", "InvalidStuck", "InvalidRow", "InvalidCarry", "InvalidWire", "InvalidFault", "InvalidEdit", "InvalidText", "UnknownCommand", "NotAlike", "NotEnough", "Contradicted", "InUse"] : List PySem.Str).map (Zk K)))
  kp_60 : ∀ n ∈ (["NoneType", "bool", "int", "str", "tuple", "list", "dict"] : List String), PySem.W.kitOne K (.type n) (.ref (He.ga K "ProbeError")) = some false
  ki_61 : ∀ C ∈ (["InvalidSize", "InvalidNumber", "InvalidTrial", "InvalidPosition", "InvalidCells", "InvalidOutputs", "InvalidStuck", "InvalidRow", "InvalidCarry", "InvalidWire", "InvalidFault", "InvalidEdit", "InvalidText", "UnknownCommand", "NotAlike", "NotEnough", "Contradicted", "InUse", "NoNode", "NoCell", "NoOutput", "NoPlace", "NoTrial", "NoMark", "NothingToUndo", "NothingToRedo", "Finished", "NotFinished", "TooMany"] : List PySem.Str).map (Zk K), PySem.W.kitOne K (.ref C) (.type "ValueError") = some (decide (C ∈ (["InvalidSize", "InvalidNumber", "InvalidTrial", "InvalidPosition", "InvalidCells", "InvalidOutputs", "InvalidStuck", "InvalidRow", "InvalidCarry", "InvalidWire", "InvalidFault", "InvalidEdit", "InvalidText", "UnknownCommand", "NotAlike", "NotEnough", "Contradicted", "InUse"] : List PySem.Str).map (Zk K)))
  kp_62 : ∀ n ∈ (["NoneType", "bool", "int", "str", "tuple", "list", "dict"] : List String), PySem.W.kitOne K (.type n) (.type "ValueError") = some false
  ki_63 : ∀ C ∈ (["InvalidSize", "InvalidNumber", "InvalidTrial", "InvalidPosition", "InvalidCells", "InvalidOutputs", "InvalidStuck", "InvalidRow", "InvalidCarry", "InvalidWire", "InvalidFault", "InvalidEdit", "InvalidText", "UnknownCommand", "NotAlike", "NotEnough", "Contradicted", "InUse", "NoNode", "NoCell", "NoOutput", "NoPlace", "NoTrial", "NoMark", "NothingToUndo", "NothingToRedo", "Finished", "NotFinished", "TooMany"] : List PySem.Str).map (Zk K), PySem.W.kitOne K (.ref C) (.ref (He.ga K "AbsentError")) = some (decide (C ∈ (["NoNode", "NoCell", "NoOutput", "NoPlace", "NoTrial", "NoMark", "NothingToUndo", "NothingToRedo", "Finished", "NotFinished"] : List PySem.Str).map (Zk K)))
  kp_64 : ∀ n ∈ (["NoneType", "bool", "int", "str", "tuple", "list", "dict"] : List String), PySem.W.kitOne K (.type n) (.ref (He.ga K "AbsentError")) = some false
  ki_65 : ∀ C ∈ (["InvalidSize", "InvalidNumber", "InvalidTrial", "InvalidPosition", "InvalidCells", "InvalidOutputs", "InvalidStuck", "InvalidRow", "InvalidCarry", "InvalidWire", "InvalidFault", "InvalidEdit", "InvalidText", "UnknownCommand", "NotAlike", "NotEnough", "Contradicted", "InUse", "NoNode", "NoCell", "NoOutput", "NoPlace", "NoTrial", "NoMark", "NothingToUndo", "NothingToRedo", "Finished", "NotFinished", "TooMany"] : List PySem.Str).map (Zk K), PySem.W.kitOne K (.ref C) (.type "LookupError") = some (decide (C ∈ (["NoNode", "NoCell", "NoOutput", "NoPlace", "NoTrial", "NoMark", "NothingToUndo", "NothingToRedo", "Finished", "NotFinished"] : List PySem.Str).map (Zk K)))
  kp_66 : ∀ n ∈ (["NoneType", "bool", "int", "str", "tuple", "list", "dict"] : List String), PySem.W.kitOne K (.type n) (.type "LookupError") = some false
  ki_67 : ∀ C ∈ (["InvalidSize", "InvalidNumber", "InvalidTrial", "InvalidPosition", "InvalidCells", "InvalidOutputs", "InvalidStuck", "InvalidRow", "InvalidCarry", "InvalidWire", "InvalidFault", "InvalidEdit", "InvalidText", "UnknownCommand", "NotAlike", "NotEnough", "Contradicted", "InUse", "NoNode", "NoCell", "NoOutput", "NoPlace", "NoTrial", "NoMark", "NothingToUndo", "NothingToRedo", "Finished", "NotFinished", "TooMany"] : List PySem.Str).map (Zk K), PySem.W.kitAny K (.ref C) [.type "KeyError", .type "IndexError"] = some (decide (C ∈ ([] : List PySem.Str).map (Zk K)))
  kp_68 : ∀ n ∈ (["NoneType", "bool", "int", "str", "tuple", "list", "dict"] : List String), PySem.W.kitAny K (.type n) [.type "KeyError", .type "IndexError"] = some false
  ki_69 : ∀ C ∈ (["InvalidSize", "InvalidNumber", "InvalidTrial", "InvalidPosition", "InvalidCells", "InvalidOutputs", "InvalidStuck", "InvalidRow", "InvalidCarry", "InvalidWire", "InvalidFault", "InvalidEdit", "InvalidText", "UnknownCommand", "NotAlike", "NotEnough", "Contradicted", "InUse", "NoNode", "NoCell", "NoOutput", "NoPlace", "NoTrial", "NoMark", "NothingToUndo", "NothingToRedo", "Finished", "NotFinished", "TooMany"] : List PySem.Str).map (Zk K), PySem.W.kitOne K (.ref C) (.type "OverflowError") = some (decide (C ∈ (["TooMany"] : List PySem.Str).map (Zk K)))
  kp_70 : ∀ n ∈ (["NoneType", "bool", "int", "str", "tuple", "list", "dict"] : List String), PySem.W.kitOne K (.type n) (.type "OverflowError") = some false
  g_AbsentError : mg "AbsentError" = some (.ref (He.ga K "AbsentError"))
  g_ProbeError : mg "ProbeError" = some (.ref (He.ga K "ProbeError"))
  xf_value_71 : ∀ C ∈ (["InvalidSize", "InvalidNumber", "InvalidTrial", "InvalidRow", "InvalidCarry", "InvalidWire", "InvalidFault"] : List PySem.Str).map (Zk K), XfC K C ∧ PySem.W.findIn K (.ref C) "value" = some none
  xf_index_72 : ∀ C ∈ (["InvalidPosition", "InvalidCells", "InvalidOutputs", "InvalidStuck", "InvalidEdit", "NoCell", "NoPlace", "NoTrial"] : List PySem.Str).map (Zk K), XfC K C ∧ PySem.W.findIn K (.ref C) "index" = some none
  xf_line_73 : ∀ C ∈ (["InvalidText"] : List PySem.Str).map (Zk K), XfC K C ∧ PySem.W.findIn K (.ref C) "line" = some none
  xf_word_74 : ∀ C ∈ (["InvalidText", "UnknownCommand"] : List PySem.Str).map (Zk K), XfC K C ∧ PySem.W.findIn K (.ref C) "word" = some none
  xf_first_75 : ∀ C ∈ (["NotAlike"] : List PySem.Str).map (Zk K), XfC K C ∧ PySem.W.findIn K (.ref C) "first" = some none
  xf_cell_76 : ∀ C ∈ (["InUse"] : List PySem.Str).map (Zk K), XfC K C ∧ PySem.W.findIn K (.ref C) "cell" = some none
  xf_node_77 : ∀ C ∈ (["NoNode"] : List PySem.Str).map (Zk K), XfC K C ∧ PySem.W.findIn K (.ref C) "node" = some none
  xf_output_78 : ∀ C ∈ (["NoOutput"] : List PySem.Str).map (Zk K), XfC K C ∧ PySem.W.findIn K (.ref C) "output" = some none
  xf_name_79 : ∀ C ∈ (["NoMark"] : List PySem.Str).map (Zk K), XfC K C ∧ PySem.W.findIn K (.ref C) "name" = some none
  xf_most_80 : ∀ C ∈ (["TooMany"] : List PySem.Str).map (Zk K), XfC K C ∧ PySem.W.findIn K (.ref C) "most" = some none
  xf_second_81 : ∀ C ∈ (["NotAlike"] : List PySem.Str).map (Zk K), XfC K C ∧ PySem.W.findIn K (.ref C) "second" = some none
  hz : Hz (Zk K)
  b_IndexError : mg "IndexError" = none
  b_KeyError : mg "KeyError" = none
  b_LookupError : mg "LookupError" = none
  b_OverflowError : mg "OverflowError" = none
  b_ValueError : mg "ValueError" = none
  b_abs : mg "abs" = none
  b_enumerate : mg "enumerate" = none
  b_int : mg "int" = none
  b_isinstance : mg "isinstance" = none
  b_len : mg "len" = none
  b_list : mg "list" = none
  b_range : mg "range" = none
  b_repr : mg "repr" = none
  sys : sysB K = true
structure Txt (K : PySem.W.Frag) (mg : Str → Option Value) (base : Heap) : Prop extends Txt0 K mg where
  tb : ∀ x ∈ tl, LamX.TabB base mg (ctA K x.1).1 (ctA K x.1).2
def tr_Lbegin (K : PySem.W.Frag) : TrB := fun ds M P R => ∃ x0 : D, ∃ r : List D, ds = [x0] ∧ F_Lbegin x0 = some r ∧ (∀ q, M q = none → P (.adr q) (up M q (.lst r)))
set_option maxHeartbeats 0 in
theorem ok_Lbegin {pg : Program} {w : World} {K : PySem.W.Frag} {mg : Str → Option Value} {base : Heap} (T : Txt K mg base) : BodyX pg w K mg base false 2 (He.fAd K ("_law_begin", none)) "_law_begin" (defBody s_Lbegin) (defScope s_Lbegin) ["_law_script"] ["_law_script"] (tr_Lbegin K) := fun cdv hcv A outer s H F0 E ds M P R hgd0 hr t hL hpo kx => by
  obtain ⟨x0, r, rfl, hF, hk⟩ := t
  unfold F_Lbegin at hF
  exact gx_seq (g1_ret (ex_less (ex_lstM (ax_cons (ex_ty T.b_list bb_list (ax_cons (ex_slice (ex_var 0 rfl (ox_none (ox_d (ex_int (bi hF fun i1 hi1 hF => ⟨_, _, .id, hi1, bi hF fun v2 hv2 hF => sd_dCut .id hv2 (ax_nil (bi hF fun l3 hl3 hF => cd_lList rfl .id hl3 (ax_cons (ex_int (ax_cons (ex_int (ax_nil (⟨le_b rfl, fun a4 ha4 => have fb_a4 := ha4; ⟨_, (sub_keep sub_refl), (by have e := so hF; cases e; exact hk a4 fb_a4)⟩⟩))))))))⟩))))))))))))
theorem fx_Lbegin_1 {pg : Program} {w : World} {K : PySem.W.Frag} {mg : Str → Option Value} {base : Heap} (T : Txt K mg base) : FnX pg w K mg base false 3 (He.fAd K ("_law_begin", none)) ([] : List PySem.Str) (fun ds zs M P R => ds.length = 1 ∧ zs.length = ([] : List PySem.Str).length ∧ tr_Lbegin K (pick (ds ++ ([] ++ zs)) [0]) M P R) :=
  fn_kwX T.d_Lbegin.choose_spec sc_Lbegin (ok_Lbegin T) 1 ([] : List PySem.Str) [] [] [0] (by simp) (fun _ => .nil) (fun kV D doc pm an cdv ct us mv ws e h1 h2 h3 => match us, mv, ws, h1, h2, h3 with | [_], [], [], _, _, _ => rfl) (fun us mv ws h1 h2 h3 => match us, mv, ws, h1, h2, h3 with | [_], [], [], _, _, _ => rfl)
def tr_Ltake (K : PySem.W.Frag) : TrB := fun ds M P R => ∃ (p_0 : Addr) (x0 : List D), ∃ x1 : D, ∃ r : D × List D, ∃ W : D → Mem, ds = [.adr p_0, x1] ∧ M = W (.lst x0) ∧ (∀ z0, At (W z0) p_0 z0 (fun z => W z)) ∧ F_Ltake x0 x1 = some r ∧ P r.1 (W (.lst r.2))
set_option maxHeartbeats 0 in
theorem ok_Ltake {pg : Program} {w : World} {K : PySem.W.Frag} {mg : Str → Option Value} {base : Heap} (T : Txt K mg base) : BodyX pg w K mg base false 2 (He.fAd K ("_law_take", none)) "_law_take" (defBody s_Ltake) (defScope s_Ltake) ["_law_hand", "_law_bound", "_law_digit", "_law_at", "_law_piece", "_law_great", "_law_mixed"] ["_law_hand", "_law_bound"] (tr_Ltake K) := fun cdv hcv A outer s H F0 E ds M P R hgd0 hr t hL hpo kx => by
  obtain ⟨p_0, x0, x1, r, W, rfl, rfl, hW0, hF, hk⟩ := t
  unfold F_Ltake at hF
  refine gx_seq (g1_if (tx_cmp (ex_ix (ex_var 0 rfl (ex_int (bi hF fun v2 hv2 hF => id_dIx (.ad (hW0 _).get rfl) .id hv2 (ex_int (bi hF fun t3 ht3 hF => od_cGt .id .id ht3 (⟨_, rfl, ⟨fun q1 => ?_, fun q1 => ?_⟩⟩)))))))))
  · have hF := iT q1 hF
    refine gx_seq (g1_asg (ex_bin (ex_ix (ex_var 0 rfl (ex_int (bi hF fun v4 hv4 hF => id_dIx (.ad (hW0 _).get rfl) .id hv4 (ex_var 1 rfl (bi hF fun v5 hv5 hF => od_dMod .id .id hv5 (as_name 2 (?_) sc_Ltake.nd)))))))))
    refine gx_seq (g1_setIxF (ex_bin (ex_ix (ex_var 0 rfl (ex_int (bi hF fun v6 hv6 hF => id_dIx (.ad (hW0 _).get rfl) .id hv6 (ex_var 1 rfl (bi hF fun v7 hv7 hF => od_dFdiv .id .id hv7 (ex_var 0 rfl (ex_int (bi hF fun l8 hl8 hF => ⟨_, _, _, l8, rfl, (hW0 _), hl8, ?_⟩)))))))))))
    exact gx_seq (g1_ret (ex_less (ex_var 2 rfl (⟨_, sub_refl, ret1 (W := W) (so hF) hk⟩))))
  · have hF := iF q1 hF
    refine gx_nil ?_
    show GX _ _ _ _ _ _
    refine gx_seq (g1_asg (ex_ix (ex_var 0 rfl (ex_int (bi hF fun v9 hv9 hF => id_dIx (.ad (hW0 _).get rfl) .id hv9 (as_name 3 (?_) sc_Ltake.nd))))))
    refine gx_seq (g1_setIxF (ex_bin (ex_var 3 rfl (ex_int (bi hF fun v10 hv10 hF => od_dAdd .id .id hv10 (ex_var 0 rfl (ex_int (bi hF fun l11 hl11 hF => ⟨_, _, _, l11, rfl, (hW0 _), hl11, ?_⟩))))))))
    refine gx_seq (g1_asg (ex_bin (ex_bin (ex_int (ex_var 3 rfl (bi hF fun v12 hv12 hF => od_dMul .id .id hv12 (ex_int (bi hF fun v13 hv13 hF => od_dAdd .id .id hv13 (as_name 4 (?_) sc_Ltake.nd)))))))))
    refine gx_seq (bi hF fun r15 hF hRr15 => g1_mid (fun ρ' M' => ∃ j0 : Option D, ∃ j1 : Option D, ∃ j2 : Option D, ρ' = [some (.adr p_0), some x1, j0, some v9, some r15, j1, j2] ∧ M' = (W (.lst l11))) (g1_if (tx_cmp (ex_ix (ex_var 0 rfl (ex_int (bi hF fun v16 hv16 hF => id_dIx (.ad (hW0 _).get rfl) .id hv16 (ex_lst (ax_nil (⟨le_b rfl, bi hF fun t17 ht17 hF => od_cNe hr.units .id .id ht17 (⟨_, rfl, ⟨fun q14 => ?_, fun q14 => ?_⟩⟩)⟩))))))))) ?_)
    · have hF := iT q14 hF
      refine gx_seq (g1_asg (ex_ix (ex_ix (ex_var 0 rfl (ex_int (bi hF fun v18 hv18 hF => id_dIx (.ad (hW0 _).get rfl) .id hv18 (ex_bin (ex_var 3 rfl (ex_blt T.b_len bb_len (ax_cons (ex_ix (ex_var 0 rfl (ex_int (bi hF fun v19 hv19 hF => id_dIx (.ad (hW0 _).get rfl) .id hv19 (ax_nil (bi hF fun v20 hv20 hF => cd_dLen .id hv20 (bi hF fun v21 hv21 hF => od_dMod .id .id hv21 (bi hF fun v22 hv22 hF => id_dIx .id .id hv22 (as_name 4 (?_) sc_Ltake.nd)))))))))))))))))))
      cases hF
      exact gx_nil ⟨_, _, _, rfl, rfl⟩
    · have hF := iF q14 hF
      cases hF
      exact gx_nil ⟨_, _, _, rfl, rfl⟩
    · rintro _ _ ⟨_, _, _, rfl, rfl⟩
      have hF := hRr15
      try dsimp only at hF
      show GX _ _ _ _ _ _
      refine gx_seq (g1_if (bi hF fun t31 ht31 hF => tx_fix t31 (W (.lst l11)) (have hF := ht31; tx_pw (wx_and (tx_cmp (ex_var 3 rfl (ex_blt T.b_len bb_len (ax_cons (ex_ix (ex_var 0 rfl (ex_int (bi hF fun v25 hv25 hF => id_dIx (.ad (hW0 _).get rfl) .id hv25 (ax_nil (bi hF fun v26 hv26 hF => cd_dLen .id hv26 (bi hF fun t27 ht27 hF => od_cLt .id .id ht27 (⟨_, rfl, ⟨fun q24 => have hF := iT q24 hF; wx_and1 (tx_cmp (ex_blt T.b_abs bb_abs (ax_cons (ex_var 4 rfl (ax_nil (bi hF fun v28 hv28 hF => cd_dAbs .id hv28 (ex_bin (ex_int (ex_int (bi hF fun v29 hv29 hF => od_dPow .id .id hv29 (bi hF fun t30 ht30 hF => od_cGe .id .id ht30 (⟨_, rfl, ⟨so hF, rfl⟩⟩)))))))))))), fun q24 => ⟨so (iF q24 hF), rfl⟩⟩⟩)))))))))))))) (⟨fun q23 => ?_, fun q23 => ?_⟩)))
      · have hF := iT q23 hF
        refine gx_seq (g1_asg (ex_bin (ex_bin (ex_int (ex_bin (ex_blt T.b_abs bb_abs (ax_cons (ex_var 4 rfl (ax_nil (bi hF fun v32 hv32 hF => cd_dAbs .id hv32 (ex_bin (ex_int (ex_int (bi hF fun v33 hv33 hF => od_dPow .id .id hv33 (bi hF fun v34 hv34 hF => od_dSub .id .id hv34 (bi hF fun v35 hv35 hF => od_dMul .id .id hv35 (ex_ty T.b_int bb_int (ax_cons (ex_cmp (ex_var 4 rfl (ex_int (bi hF fun t36 ht36 hF => od_cLt .id .id ht36 (ax_nil (bi hF fun v37 hv37 hF => cd_dInt .id hv37 (bi hF fun v38 hv38 hF => od_dAdd .id .id hv38 (as_name 5 (?_) sc_Ltake.nd))))))))))))))))))))))))))
        refine gx_seq (g1_setIxF (ex_bin (ex_var 5 rfl (ex_var 1 rfl (bi hF fun v39 hv39 hF => od_dFdiv .id .id hv39 (ex_var 0 rfl (ex_int (bi hF fun l40 hl40 hF => ⟨_, _, _, l40, rfl, (hW0 _), hl40, ?_⟩))))))))
        exact gx_seq (g1_ret (ex_less (ex_bin (ex_var 5 rfl (ex_var 1 rfl (bi hF fun v41 hv41 hF => od_dMod .id .id hv41 (⟨_, sub_refl, ret1 (W := W) (so hF) hk⟩)))))))
      · have hF := iF q23 hF
        refine gx_nil ?_
        show GX _ _ _ _ _ _
        refine gx_seq (g1_asg (ex_bin (ex_bin (ex_bin (ex_bin (ex_bin (ex_bin (ex_var 4 rfl (ex_int (bi hF fun v42 hv42 hF => od_dMod .id .id hv42 (ex_bin (ex_int (ex_var 3 rfl (bi hF fun v43 hv43 hF => od_dMul .id .id hv43 (bi hF fun v44 hv44 hF => od_dAdd .id .id hv44 (ex_bin (ex_bin (ex_int (ex_var 3 rfl (bi hF fun v45 hv45 hF => od_dMul .id .id hv45 (ex_var 3 rfl (bi hF fun v46 hv46 hF => od_dMul .id .id hv46 (bi hF fun v47 hv47 hF => od_dAdd .id .id hv47 (ex_int (bi hF fun v48 hv48 hF => od_dAdd .id .id hv48 (ex_int (bi hF fun v49 hv49 hF => od_dPow .id .id hv49 (ex_int (bi hF fun v50 hv50 hF => od_dMod .id .id hv50 (as_name 6 (?_) sc_Ltake.nd))))))))))))))))))))))))))))))
        refine gx_seq (g1_asg (ex_bin (ex_bin (ex_bin (ex_bin (ex_bin (ex_var 6 rfl (ex_bin (ex_bin (ex_int (ex_var 3 rfl (bi hF fun v51 hv51 hF => od_dMul .id .id hv51 (ex_int (bi hF fun v52 hv52 hF => od_dAdd .id .id hv52 (bi hF fun v53 hv53 hF => od_dMul .id .id hv53 (ex_bin (ex_int (ex_var 3 rfl (bi hF fun v54 hv54 hF => od_dMul .id .id hv54 (bi hF fun v55 hv55 hF => od_dAdd .id .id hv55 (ex_int (bi hF fun v56 hv56 hF => od_dAdd .id .id hv56 (ex_int (bi hF fun v57 hv57 hF => od_dPow .id .id hv57 (ex_int (bi hF fun v58 hv58 hF => od_dMod .id .id hv58 (as_name 6 (?_) sc_Ltake.nd)))))))))))))))))))))))))))
        exact gx_seq (g1_ret (ex_less (ex_bin (ex_bin (ex_var 6 rfl (ex_int (bi hF fun v59 hv59 hF => od_dFdiv .id .id hv59 (ex_var 1 rfl (bi hF fun v60 hv60 hF => od_dMod .id .id hv60 (⟨_, sub_refl, ret1 (W := W) (so hF) hk⟩))))))))))
theorem fx_Ltake_2 {pg : Program} {w : World} {K : PySem.W.Frag} {mg : Str → Option Value} {base : Heap} (T : Txt K mg base) : FnX pg w K mg base false 3 (He.fAd K ("_law_take", none)) ([] : List PySem.Str) (fun ds zs M P R => ds.length = 2 ∧ zs.length = ([] : List PySem.Str).length ∧ tr_Ltake K (pick (ds ++ ([] ++ zs)) [0, 1]) M P R) :=
  fn_kwX T.d_Ltake.choose_spec sc_Ltake (ok_Ltake T) 2 ([] : List PySem.Str) [] [] [0, 1] (by simp) (fun _ => .nil) (fun kV D doc pm an cdv ct us mv ws e h1 h2 h3 => match us, mv, ws, h1, h2, h3 with | [_, _], [], [], _, _, _ => rfl) (fun us mv ws h1 h2 h3 => match us, mv, ws, h1, h2, h3 with | [_, _], [], [], _, _, _ => rfl)
def tr_Lthing (K : PySem.W.Frag) : TrB := fun ds M P R => ∃ (p_0 : Addr) (x0 : List D), ∃ r : D × List D, ∃ W : D → Mem, ds = [.adr p_0] ∧ M = W (.lst x0) ∧ (∀ z0, At (W z0) p_0 z0 (fun z => W z)) ∧ F_Lthing x0 = some r ∧ P r.1 (W (.lst r.2))
set_option maxHeartbeats 0 in
theorem ok_Lthing {pg : Program} {w : World} {K : PySem.W.Frag} {mg : Str → Option Value} {base : Heap} (T : Txt K mg base) : BodyX pg w K mg base false 4 (He.fAd K ("_law_thing", none)) "_law_thing" (defBody s_Lthing) (defScope s_Lthing) ["_law_hand", "_law_some"] ["_law_hand"] (tr_Lthing K) := fun cdv hcv A outer s H F0 E ds M P R hgd0 hr t hL hpo kx => by
  obtain ⟨p_0, x0, r, W, rfl, rfl, hW0, hF, hk⟩ := t
  unfold F_Lthing at hF
  refine gx_seq (g1_asg (ex_lst (ax_cons (ex_non (ax_cons (ex_bl (ax_cons (ex_int (ax_cons (ex_dNeg (ex_int ⟨_, _, .id, rfl, ax_cons (ex_bin (ex_int (ex_int (bi hF fun v1 hv1 hF => od_dPow .id .id hv1 (ax_cons (ex_str (ax_cons (ex_str (ax_cons (ex_tup (ax_nil (⟨le_b rfl, ax_cons (ex_tup (ax_cons (ex_int (ax_cons (ex_str (ax_nil (⟨le_b rfl, ax_cons (ex_lst (ax_nil (⟨le_b rfl, ax_cons (ex_lst (ax_cons (ex_int (ax_nil (⟨le_b rfl, ax_cons (ex_dct0 (ax_cons (ex_dct1 fun a2 ha2 => ex_str (⟨.inr "a", rfl, ex_int (⟨_, ha2, rfl, ax_cons (ex_tup (ax_cons (ex_tup (ax_cons (ex_int (ax_cons (ex_int (ax_nil (⟨le_b rfl, ax_cons (ex_int (ax_nil (⟨le_b rfl, ax_nil (⟨le_b rfl, as_name 1 (?_) sc_Lthing.nd⟩)⟩)))⟩)))))))))⟩)⟩))))⟩)))))⟩)))⟩)))))))⟩))))))))))))⟩)))))))))))
  exact gx_seq (g1_ret (ex_less (ex_ix (ex_var 1 rfl (ex_callX (fx_Ltake_2 T) Lets.no (fun h => nomatch h) (hr.mono (by decide)) T.m_Ltake T.d_Ltake.choose_spec.kp (ev_a (ax_cons (ex_var 0 rfl (ax_cons (ex_int (ax_nil (kx_nil (bi hF fun v3 hv3 hF => ⟨rfl, ⟨rfl, rfl, ⟨p_0, x0, _, v3, (fun w0 => (W w0)), rfl, rfl, fun _ => (hW0 _), hv3, bi hF fun v4 hv4 hF => id_dIx .id .id hv4 (⟨_, sub_refl, ret1 (W := W) (so hF) hk⟩)⟩⟩⟩)))))))))))))
theorem fx_Lthing_1 {pg : Program} {w : World} {K : PySem.W.Frag} {mg : Str → Option Value} {base : Heap} (T : Txt K mg base) : FnX pg w K mg base false 5 (He.fAd K ("_law_thing", none)) ([] : List PySem.Str) (fun ds zs M P R => ds.length = 1 ∧ zs.length = ([] : List PySem.Str).length ∧ tr_Lthing K (pick (ds ++ ([] ++ zs)) [0]) M P R) :=
  fn_kwX T.d_Lthing.choose_spec sc_Lthing (ok_Lthing T) 1 ([] : List PySem.Str) [] [] [0] (by simp) (fun _ => .nil) (fun kV D doc pm an cdv ct us mv ws e h1 h2 h3 => match us, mv, ws, h1, h2, h3 with | [_], [], [], _, _, _ => rfl) (fun us mv ws h1 h2 h3 => match us, mv, ws, h1, h2, h3 with | [_], [], [], _, _, _ => rfl)
def tr_Lmade (K : PySem.W.Frag) : TrB := fun ds M P R => ∃ x0 : D, ∃ x1 : D, ∃ r : D, ds = [x0, x1] ∧ F_Lmade (Zk K) x0 x1 = some r ∧ P r M
set_option maxHeartbeats 0 in
theorem ok_Lmade {pg : Program} {w : World} {K : PySem.W.Frag} {mg : Str → Option Value} {base : Heap} (T : Txt K mg base) : BodyX pg w K mg base false 2 (He.fAd K ("_law_made", none)) "_law_made" (defBody s_Lmade) (defScope s_Lmade) ["_law_x", "_law_y", "_law_found"] ["_law_x", "_law_y"] (tr_Lmade K) := fun cdv hcv A outer s H F0 E ds M P R hgd0 hr t hL hpo kx => by
  obtain ⟨x0, x1, r, rfl, hF, hk⟩ := t
  unfold F_Lmade at hF
  refine gx_seq (g1_asg (ex_lst (ax_cons (ex_err1 (ks := []) sel_P T.er_InvalidSize basV T.d_InvalidSize___init__.choose_spec sc_InvalidSize___init__ ⟨_, _, _, _, rfl⟩ T.nf_InvalidSize_value (hr.mono (by decide)) 1 (fun _ _ _ _ _ _ q us ws hu hw => match us, ws, hu, hw with | [_], [], _, _ => rfl) T.g_InvalidSize (ev_a (ax_cons (ex_var 0 rfl (ax_nil (kx_nil ⟨rfl, ⟨_, ⟨rfl, le_b rfl⟩, rfl, ax_cons (ex_err1 (ks := []) sel_P T.er_InvalidNumber basV T.d_InvalidNumber___init__.choose_spec sc_InvalidNumber___init__ ⟨_, _, _, _, rfl⟩ T.nf_InvalidNumber_value (hr.mono (by decide)) 1 (fun _ _ _ _ _ _ q us ws hu hw => match us, ws, hu, hw with | [_], [], _, _ => rfl) T.g_InvalidNumber (ev_a (ax_cons (ex_var 0 rfl (ax_nil (kx_nil ⟨rfl, ⟨_, ⟨rfl, le_b rfl⟩, rfl, ax_cons (ex_err1 (ks := []) sel_P T.er_InvalidTrial basV T.d_InvalidTrial___init__.choose_spec sc_InvalidTrial___init__ ⟨_, _, _, _, rfl⟩ T.nf_InvalidTrial_value (hr.mono (by decide)) 1 (fun _ _ _ _ _ _ q us ws hu hw => match us, ws, hu, hw with | [_], [], _, _ => rfl) T.g_InvalidTrial (ev_a (ax_cons (ex_var 0 rfl (ax_nil (kx_nil ⟨rfl, ⟨_, ⟨rfl, le_b rfl⟩, rfl, ax_cons (ex_err1 (ks := []) sel_P T.er_InvalidPosition basV T.d_InvalidPosition___init__.choose_spec sc_InvalidPosition___init__ ⟨_, _, _, _, rfl⟩ T.nf_InvalidPosition_index (hr.mono (by decide)) 1 (fun _ _ _ _ _ _ q us ws hu hw => match us, ws, hu, hw with | [_], [], _, _ => rfl) T.g_InvalidPosition (ev_a (ax_cons (ex_var 0 rfl (ax_nil (kx_nil ⟨rfl, ⟨_, ⟨rfl, le_b rfl⟩, rfl, ax_cons (ex_err1 (ks := []) sel_P T.er_InvalidCells basV T.d_InvalidCells___init__.choose_spec sc_InvalidCells___init__ ⟨_, _, _, _, rfl⟩ T.nf_InvalidCells_index (hr.mono (by decide)) 1 (fun _ _ _ _ _ _ q us ws hu hw => match us, ws, hu, hw with | [_], [], _, _ => rfl) T.g_InvalidCells (ev_a (ax_cons (ex_var 0 rfl (ax_nil (kx_nil ⟨rfl, ⟨_, ⟨rfl, le_b rfl⟩, rfl, ax_cons (ex_err1 (ks := []) sel_P T.er_InvalidOutputs basV T.d_InvalidOutputs___init__.choose_spec sc_InvalidOutputs___init__ ⟨_, _, _, _, rfl⟩ T.nf_InvalidOutputs_index (hr.mono (by decide)) 1 (fun _ _ _ _ _ _ q us ws hu hw => match us, ws, hu, hw with | [_], [], _, _ => rfl) T.g_InvalidOutputs (ev_a (ax_cons (ex_var 0 rfl (ax_nil (kx_nil ⟨rfl, ⟨_, ⟨rfl, le_b rfl⟩, rfl, ax_nil (⟨le_b rfl, as_name 2 (?_) sc_Lmade.nd⟩)⟩⟩))))))⟩⟩))))))⟩⟩))))))⟩⟩))))))⟩⟩))))))⟩⟩)))))))))
  refine gx_seq (g1_asg (ex_bin (ex_var 2 rfl (ex_lst (ax_cons (ex_err1 (ks := []) sel_P T.er_InvalidStuck basV T.d_InvalidStuck___init__.choose_spec sc_InvalidStuck___init__ ⟨_, _, _, _, rfl⟩ T.nf_InvalidStuck_index (hr.mono (by decide)) 1 (fun _ _ _ _ _ _ q us ws hu hw => match us, ws, hu, hw with | [_], [], _, _ => rfl) T.g_InvalidStuck (ev_a (ax_cons (ex_var 0 rfl (ax_nil (kx_nil ⟨rfl, ⟨_, ⟨rfl, le_b rfl⟩, rfl, ax_cons (ex_err1 (ks := []) sel_P T.er_InvalidRow basV T.d_InvalidRow___init__.choose_spec sc_InvalidRow___init__ ⟨_, _, _, _, rfl⟩ T.nf_InvalidRow_value (hr.mono (by decide)) 1 (fun _ _ _ _ _ _ q us ws hu hw => match us, ws, hu, hw with | [_], [], _, _ => rfl) T.g_InvalidRow (ev_a (ax_cons (ex_var 0 rfl (ax_nil (kx_nil ⟨rfl, ⟨_, ⟨rfl, le_b rfl⟩, rfl, ax_cons (ex_err1 (ks := []) sel_P T.er_InvalidCarry basV T.d_InvalidCarry___init__.choose_spec sc_InvalidCarry___init__ ⟨_, _, _, _, rfl⟩ T.nf_InvalidCarry_value (hr.mono (by decide)) 1 (fun _ _ _ _ _ _ q us ws hu hw => match us, ws, hu, hw with | [_], [], _, _ => rfl) T.g_InvalidCarry (ev_a (ax_cons (ex_var 0 rfl (ax_nil (kx_nil ⟨rfl, ⟨_, ⟨rfl, le_b rfl⟩, rfl, ax_cons (ex_err1 (ks := []) sel_P T.er_InvalidWire basV T.d_InvalidWire___init__.choose_spec sc_InvalidWire___init__ ⟨_, _, _, _, rfl⟩ T.nf_InvalidWire_value (hr.mono (by decide)) 1 (fun _ _ _ _ _ _ q us ws hu hw => match us, ws, hu, hw with | [_], [], _, _ => rfl) T.g_InvalidWire (ev_a (ax_cons (ex_var 0 rfl (ax_nil (kx_nil ⟨rfl, ⟨_, ⟨rfl, le_b rfl⟩, rfl, ax_cons (ex_err1 (ks := []) sel_P T.er_InvalidFault basV T.d_InvalidFault___init__.choose_spec sc_InvalidFault___init__ ⟨_, _, _, _, rfl⟩ T.nf_InvalidFault_value (hr.mono (by decide)) 1 (fun _ _ _ _ _ _ q us ws hu hw => match us, ws, hu, hw with | [_], [], _, _ => rfl) T.g_InvalidFault (ev_a (ax_cons (ex_var 0 rfl (ax_nil (kx_nil ⟨rfl, ⟨_, ⟨rfl, le_b rfl⟩, rfl, ax_cons (ex_err1 (ks := []) sel_P T.er_InvalidEdit basV T.d_InvalidEdit___init__.choose_spec sc_InvalidEdit___init__ ⟨_, _, _, _, rfl⟩ T.nf_InvalidEdit_index (hr.mono (by decide)) 1 (fun _ _ _ _ _ _ q us ws hu hw => match us, ws, hu, hw with | [_], [], _, _ => rfl) T.g_InvalidEdit (ev_a (ax_cons (ex_var 0 rfl (ax_nil (kx_nil ⟨rfl, ⟨_, ⟨rfl, le_b rfl⟩, rfl, ax_nil (⟨le_b rfl, bi hF fun v1 hv1 hF => od_dAdd .id .id hv1 (as_name 2 (?_) sc_Lmade.nd)⟩)⟩⟩))))))⟩⟩))))))⟩⟩))))))⟩⟩))))))⟩⟩))))))⟩⟩)))))))))))
  refine gx_seq (g1_asg (ex_bin (ex_var 2 rfl (ex_lst (ax_cons (ex_err2 (ks := []) sel_P T.er_InvalidText basV T.d_InvalidText___init__.choose_spec sc_InvalidText___init__ ⟨_, _, _, _, _, _, _, _, rfl⟩ T.nf_InvalidText_line T.nf_InvalidText_word (hr.mono (by decide)) 2 (fun _ _ _ _ _ _ q us ws hu hw => match us, ws, hu, hw with | [_, _], [], _, _ => rfl) T.g_InvalidText (ev_a (ax_cons (ex_var 0 rfl (ax_cons (ex_var 1 rfl (ax_nil (kx_nil ⟨rfl, ⟨_, _, ⟨rfl, le_b rfl⟩, rfl, ax_cons (ex_err1 (ks := []) sel_P T.er_UnknownCommand basV T.d_UnknownCommand___init__.choose_spec sc_UnknownCommand___init__ ⟨_, _, _, _, rfl⟩ T.nf_UnknownCommand_word (hr.mono (by decide)) 1 (fun _ _ _ _ _ _ q us ws hu hw => match us, ws, hu, hw with | [_], [], _, _ => rfl) T.g_UnknownCommand (ev_a (ax_cons (ex_var 0 rfl (ax_nil (kx_nil ⟨rfl, ⟨_, ⟨rfl, le_b rfl⟩, rfl, ax_cons (ex_err2 (ks := []) sel_P T.er_NotAlike basV T.d_NotAlike___init__.choose_spec sc_NotAlike___init__ ⟨_, _, _, _, _, _, _, _, rfl⟩ T.nf_NotAlike_first T.nf_NotAlike_second (hr.mono (by decide)) 2 (fun _ _ _ _ _ _ q us ws hu hw => match us, ws, hu, hw with | [_, _], [], _, _ => rfl) T.g_NotAlike (ev_a (ax_cons (ex_var 0 rfl (ax_cons (ex_var 1 rfl (ax_nil (kx_nil ⟨rfl, ⟨_, _, ⟨rfl, le_b rfl⟩, rfl, ax_cons (ex_err0 T.en_NotEnough basV T.g_NotEnough (ax_cons (ex_err0 T.en_Contradicted basV T.g_Contradicted (ax_cons (ex_err1 (ks := []) sel_P T.er_InUse basV T.d_InUse___init__.choose_spec sc_InUse___init__ ⟨_, _, _, _, rfl⟩ T.nf_InUse_cell (hr.mono (by decide)) 1 (fun _ _ _ _ _ _ q us ws hu hw => match us, ws, hu, hw with | [_], [], _, _ => rfl) T.g_InUse (ev_a (ax_cons (ex_var 0 rfl (ax_nil (kx_nil ⟨rfl, ⟨_, ⟨rfl, le_b rfl⟩, rfl, ax_nil (⟨le_b rfl, bi hF fun v2 hv2 hF => od_dAdd .id .id hv2 (as_name 2 (?_) sc_Lmade.nd)⟩)⟩⟩))))))))))⟩⟩))))))))⟩⟩))))))⟩⟩)))))))))))))
  refine gx_seq (g1_asg (ex_bin (ex_var 2 rfl (ex_lst (ax_cons (ex_err1 (ks := []) sel_P T.er_NoNode basL T.d_NoNode___init__.choose_spec sc_NoNode___init__ ⟨_, _, _, _, rfl⟩ T.nf_NoNode_node (hr.mono (by decide)) 1 (fun _ _ _ _ _ _ q us ws hu hw => match us, ws, hu, hw with | [_], [], _, _ => rfl) T.g_NoNode (ev_a (ax_cons (ex_var 0 rfl (ax_nil (kx_nil ⟨rfl, ⟨_, ⟨rfl, le_b rfl⟩, rfl, ax_cons (ex_err1 (ks := []) sel_P T.er_NoCell basL T.d_NoCell___init__.choose_spec sc_NoCell___init__ ⟨_, _, _, _, rfl⟩ T.nf_NoCell_index (hr.mono (by decide)) 1 (fun _ _ _ _ _ _ q us ws hu hw => match us, ws, hu, hw with | [_], [], _, _ => rfl) T.g_NoCell (ev_a (ax_cons (ex_var 0 rfl (ax_nil (kx_nil ⟨rfl, ⟨_, ⟨rfl, le_b rfl⟩, rfl, ax_cons (ex_err1 (ks := []) sel_P T.er_NoOutput basL T.d_NoOutput___init__.choose_spec sc_NoOutput___init__ ⟨_, _, _, _, rfl⟩ T.nf_NoOutput_output (hr.mono (by decide)) 1 (fun _ _ _ _ _ _ q us ws hu hw => match us, ws, hu, hw with | [_], [], _, _ => rfl) T.g_NoOutput (ev_a (ax_cons (ex_var 0 rfl (ax_nil (kx_nil ⟨rfl, ⟨_, ⟨rfl, le_b rfl⟩, rfl, ax_cons (ex_err1 (ks := []) sel_P T.er_NoPlace basL T.d_NoPlace___init__.choose_spec sc_NoPlace___init__ ⟨_, _, _, _, rfl⟩ T.nf_NoPlace_index (hr.mono (by decide)) 1 (fun _ _ _ _ _ _ q us ws hu hw => match us, ws, hu, hw with | [_], [], _, _ => rfl) T.g_NoPlace (ev_a (ax_cons (ex_var 0 rfl (ax_nil (kx_nil ⟨rfl, ⟨_, ⟨rfl, le_b rfl⟩, rfl, ax_cons (ex_err1 (ks := []) sel_P T.er_NoTrial basL T.d_NoTrial___init__.choose_spec sc_NoTrial___init__ ⟨_, _, _, _, rfl⟩ T.nf_NoTrial_index (hr.mono (by decide)) 1 (fun _ _ _ _ _ _ q us ws hu hw => match us, ws, hu, hw with | [_], [], _, _ => rfl) T.g_NoTrial (ev_a (ax_cons (ex_var 0 rfl (ax_nil (kx_nil ⟨rfl, ⟨_, ⟨rfl, le_b rfl⟩, rfl, ax_cons (ex_err1 (ks := []) sel_P T.er_NoMark basL T.d_NoMark___init__.choose_spec sc_NoMark___init__ ⟨_, _, _, _, rfl⟩ T.nf_NoMark_name (hr.mono (by decide)) 1 (fun _ _ _ _ _ _ q us ws hu hw => match us, ws, hu, hw with | [_], [], _, _ => rfl) T.g_NoMark (ev_a (ax_cons (ex_var 0 rfl (ax_nil (kx_nil ⟨rfl, ⟨_, ⟨rfl, le_b rfl⟩, rfl, ax_nil (⟨le_b rfl, bi hF fun v3 hv3 hF => od_dAdd .id .id hv3 (as_name 2 (?_) sc_Lmade.nd)⟩)⟩⟩))))))⟩⟩))))))⟩⟩))))))⟩⟩))))))⟩⟩))))))⟩⟩)))))))))))
  exact gx_seq (g1_ret (ex_less (ex_bin (ex_var 2 rfl (ex_lst (ax_cons (ex_err0 T.en_NothingToUndo basL T.g_NothingToUndo (ax_cons (ex_err0 T.en_NothingToRedo basL T.g_NothingToRedo (ax_cons (ex_err0 T.en_Finished basL T.g_Finished (ax_cons (ex_err0 T.en_NotFinished basL T.g_NotFinished (ax_cons (ex_err1 (ks := []) sel_P T.er_TooMany basO T.d_TooMany___init__.choose_spec sc_TooMany___init__ ⟨_, _, _, _, rfl⟩ T.nf_TooMany_most (hr.mono (by decide)) 1 (fun _ _ _ _ _ _ q us ws hu hw => match us, ws, hu, hw with | [_], [], _, _ => rfl) T.g_TooMany (ev_a (ax_cons (ex_var 0 rfl (ax_nil (kx_nil ⟨rfl, ⟨_, ⟨rfl, le_b rfl⟩, rfl, ax_nil (⟨le_b rfl, bi hF fun v4 hv4 hF => od_dAdd .id .id hv4 (⟨_, sub_refl, ret0 (so hF) hk⟩)⟩)⟩⟩))))))))))))))))))))
theorem fx_Lmade_2 {pg : Program} {w : World} {K : PySem.W.Frag} {mg : Str → Option Value} {base : Heap} (T : Txt K mg base) : FnX pg w K mg base false 3 (He.fAd K ("_law_made", none)) ([] : List PySem.Str) (fun ds zs M P R => ds.length = 2 ∧ zs.length = ([] : List PySem.Str).length ∧ tr_Lmade K (pick (ds ++ ([] ++ zs)) [0, 1]) M P R) :=
  fn_kwX T.d_Lmade.choose_spec sc_Lmade (ok_Lmade T) 2 ([] : List PySem.Str) [] [] [0, 1] (by simp) (fun _ => .nil) (fun kV D doc pm an cdv ct us mv ws e h1 h2 h3 => match us, mv, ws, h1, h2, h3 with | [_, _], [], [], _, _, _ => rfl) (fun us mv ws h1 h2 h3 => match us, mv, ws, h1, h2, h3 with | [_, _], [], [], _, _, _ => rfl)
def tr_Lkinds (K : PySem.W.Frag) : TrB := fun ds M P R => ∃ x0 : D, ∃ r : D, ds = [x0] ∧ F_Lkinds (Zk K) x0 = some r ∧ P r M
set_option maxHeartbeats 0 in
theorem ok_Lkinds {pg : Program} {w : World} {K : PySem.W.Frag} {mg : Str → Option Value} {base : Heap} (T : Txt K mg base) : BodyX pg w K mg base false 2 (He.fAd K ("_law_kinds", none)) "_law_kinds" (defBody s_Lkinds) (defScope s_Lkinds) ["_law_e", "_law_found"] ["_law_e"] (tr_Lkinds K) := fun cdv hcv A outer s H F0 E ds M P R hgd0 hr t hL hpo kx => by
  obtain ⟨x0, r, rfl, hF, hk⟩ := t
  unfold F_Lkinds at hF
  refine gx_seq (g1_asg (ex_lst (ax_cons (ex_blt T.b_isinstance bb_isi (ax_cons (ex_var 0 rfl (ax_cons (ex_cls T.g_InvalidSize (ax_nil (bi hF fun t1 ht1 hF => cd_isiE T.xc_0 T.ki_1 T.kp_2 (fun F v r => by cases r; exact .own _) ht1 (ax_cons (ex_blt T.b_isinstance bb_isi (ax_cons (ex_var 0 rfl (ax_cons (ex_cls T.g_InvalidNumber (ax_nil (bi hF fun t2 ht2 hF => cd_isiE T.xc_0 T.ki_3 T.kp_4 (fun F v r => by cases r; exact .own _) ht2 (ax_cons (ex_blt T.b_isinstance bb_isi (ax_cons (ex_var 0 rfl (ax_cons (ex_cls T.g_InvalidTrial (ax_nil (bi hF fun t3 ht3 hF => cd_isiE T.xc_0 T.ki_5 T.kp_6 (fun F v r => by cases r; exact .own _) ht3 (ax_nil (⟨le_b rfl, as_name 1 (?_) sc_Lkinds.nd⟩))))))))))))))))))))))))))))
  refine gx_seq (g1_asg (ex_bin (ex_var 1 rfl (ex_lst (ax_cons (ex_blt T.b_isinstance bb_isi (ax_cons (ex_var 0 rfl (ax_cons (ex_cls T.g_InvalidPosition (ax_nil (bi hF fun t4 ht4 hF => cd_isiE T.xc_0 T.ki_7 T.kp_8 (fun F v r => by cases r; exact .own _) ht4 (ax_cons (ex_blt T.b_isinstance bb_isi (ax_cons (ex_var 0 rfl (ax_cons (ex_cls T.g_InvalidCells (ax_nil (bi hF fun t5 ht5 hF => cd_isiE T.xc_0 T.ki_9 T.kp_10 (fun F v r => by cases r; exact .own _) ht5 (ax_cons (ex_blt T.b_isinstance bb_isi (ax_cons (ex_var 0 rfl (ax_cons (ex_cls T.g_InvalidOutputs (ax_nil (bi hF fun t6 ht6 hF => cd_isiE T.xc_0 T.ki_11 T.kp_12 (fun F v r => by cases r; exact .own _) ht6 (ax_nil (⟨le_b rfl, bi hF fun v7 hv7 hF => od_dAdd .id .id hv7 (as_name 1 (?_) sc_Lkinds.nd)⟩))))))))))))))))))))))))))))))
  refine gx_seq (g1_asg (ex_bin (ex_var 1 rfl (ex_lst (ax_cons (ex_blt T.b_isinstance bb_isi (ax_cons (ex_var 0 rfl (ax_cons (ex_cls T.g_InvalidStuck (ax_nil (bi hF fun t8 ht8 hF => cd_isiE T.xc_0 T.ki_13 T.kp_14 (fun F v r => by cases r; exact .own _) ht8 (ax_cons (ex_blt T.b_isinstance bb_isi (ax_cons (ex_var 0 rfl (ax_cons (ex_cls T.g_InvalidRow (ax_nil (bi hF fun t9 ht9 hF => cd_isiE T.xc_0 T.ki_15 T.kp_16 (fun F v r => by cases r; exact .own _) ht9 (ax_cons (ex_blt T.b_isinstance bb_isi (ax_cons (ex_var 0 rfl (ax_cons (ex_cls T.g_InvalidCarry (ax_nil (bi hF fun t10 ht10 hF => cd_isiE T.xc_0 T.ki_17 T.kp_18 (fun F v r => by cases r; exact .own _) ht10 (ax_nil (⟨le_b rfl, bi hF fun v11 hv11 hF => od_dAdd .id .id hv11 (as_name 1 (?_) sc_Lkinds.nd)⟩))))))))))))))))))))))))))))))
  refine gx_seq (g1_asg (ex_bin (ex_var 1 rfl (ex_lst (ax_cons (ex_blt T.b_isinstance bb_isi (ax_cons (ex_var 0 rfl (ax_cons (ex_cls T.g_InvalidWire (ax_nil (bi hF fun t12 ht12 hF => cd_isiE T.xc_0 T.ki_19 T.kp_20 (fun F v r => by cases r; exact .own _) ht12 (ax_cons (ex_blt T.b_isinstance bb_isi (ax_cons (ex_var 0 rfl (ax_cons (ex_cls T.g_InvalidFault (ax_nil (bi hF fun t13 ht13 hF => cd_isiE T.xc_0 T.ki_21 T.kp_22 (fun F v r => by cases r; exact .own _) ht13 (ax_cons (ex_blt T.b_isinstance bb_isi (ax_cons (ex_var 0 rfl (ax_cons (ex_cls T.g_InvalidEdit (ax_nil (bi hF fun t14 ht14 hF => cd_isiE T.xc_0 T.ki_23 T.kp_24 (fun F v r => by cases r; exact .own _) ht14 (ax_nil (⟨le_b rfl, bi hF fun v15 hv15 hF => od_dAdd .id .id hv15 (as_name 1 (?_) sc_Lkinds.nd)⟩))))))))))))))))))))))))))))))
  refine gx_seq (g1_asg (ex_bin (ex_var 1 rfl (ex_lst (ax_cons (ex_blt T.b_isinstance bb_isi (ax_cons (ex_var 0 rfl (ax_cons (ex_cls T.g_InvalidText (ax_nil (bi hF fun t16 ht16 hF => cd_isiE T.xc_0 T.ki_25 T.kp_26 (fun F v r => by cases r; exact .own _) ht16 (ax_cons (ex_blt T.b_isinstance bb_isi (ax_cons (ex_var 0 rfl (ax_cons (ex_cls T.g_UnknownCommand (ax_nil (bi hF fun t17 ht17 hF => cd_isiE T.xc_0 T.ki_27 T.kp_28 (fun F v r => by cases r; exact .own _) ht17 (ax_cons (ex_blt T.b_isinstance bb_isi (ax_cons (ex_var 0 rfl (ax_cons (ex_cls T.g_NotAlike (ax_nil (bi hF fun t18 ht18 hF => cd_isiE T.xc_0 T.ki_29 T.kp_30 (fun F v r => by cases r; exact .own _) ht18 (ax_nil (⟨le_b rfl, bi hF fun v19 hv19 hF => od_dAdd .id .id hv19 (as_name 1 (?_) sc_Lkinds.nd)⟩))))))))))))))))))))))))))))))
  refine gx_seq (g1_asg (ex_bin (ex_var 1 rfl (ex_lst (ax_cons (ex_blt T.b_isinstance bb_isi (ax_cons (ex_var 0 rfl (ax_cons (ex_cls T.g_NotEnough (ax_nil (bi hF fun t20 ht20 hF => cd_isiE T.xc_0 T.ki_31 T.kp_32 (fun F v r => by cases r; exact .own _) ht20 (ax_cons (ex_blt T.b_isinstance bb_isi (ax_cons (ex_var 0 rfl (ax_cons (ex_cls T.g_Contradicted (ax_nil (bi hF fun t21 ht21 hF => cd_isiE T.xc_0 T.ki_33 T.kp_34 (fun F v r => by cases r; exact .own _) ht21 (ax_cons (ex_blt T.b_isinstance bb_isi (ax_cons (ex_var 0 rfl (ax_cons (ex_cls T.g_InUse (ax_nil (bi hF fun t22 ht22 hF => cd_isiE T.xc_0 T.ki_35 T.kp_36 (fun F v r => by cases r; exact .own _) ht22 (ax_nil (⟨le_b rfl, bi hF fun v23 hv23 hF => od_dAdd .id .id hv23 (as_name 1 (?_) sc_Lkinds.nd)⟩))))))))))))))))))))))))))))))
  refine gx_seq (g1_asg (ex_bin (ex_var 1 rfl (ex_lst (ax_cons (ex_blt T.b_isinstance bb_isi (ax_cons (ex_var 0 rfl (ax_cons (ex_cls T.g_NoNode (ax_nil (bi hF fun t24 ht24 hF => cd_isiE T.xc_0 T.ki_37 T.kp_38 (fun F v r => by cases r; exact .own _) ht24 (ax_cons (ex_blt T.b_isinstance bb_isi (ax_cons (ex_var 0 rfl (ax_cons (ex_cls T.g_NoCell (ax_nil (bi hF fun t25 ht25 hF => cd_isiE T.xc_0 T.ki_39 T.kp_40 (fun F v r => by cases r; exact .own _) ht25 (ax_cons (ex_blt T.b_isinstance bb_isi (ax_cons (ex_var 0 rfl (ax_cons (ex_cls T.g_NoOutput (ax_nil (bi hF fun t26 ht26 hF => cd_isiE T.xc_0 T.ki_41 T.kp_42 (fun F v r => by cases r; exact .own _) ht26 (ax_cons (ex_blt T.b_isinstance bb_isi (ax_cons (ex_var 0 rfl (ax_cons (ex_cls T.g_NoPlace (ax_nil (bi hF fun t27 ht27 hF => cd_isiE T.xc_0 T.ki_43 T.kp_44 (fun F v r => by cases r; exact .own _) ht27 (ax_nil (⟨le_b rfl, bi hF fun v28 hv28 hF => od_dAdd .id .id hv28 (as_name 1 (?_) sc_Lkinds.nd)⟩))))))))))))))))))))))))))))))))))))))
  refine gx_seq (g1_asg (ex_bin (ex_var 1 rfl (ex_lst (ax_cons (ex_blt T.b_isinstance bb_isi (ax_cons (ex_var 0 rfl (ax_cons (ex_cls T.g_NoTrial (ax_nil (bi hF fun t29 ht29 hF => cd_isiE T.xc_0 T.ki_45 T.kp_46 (fun F v r => by cases r; exact .own _) ht29 (ax_cons (ex_blt T.b_isinstance bb_isi (ax_cons (ex_var 0 rfl (ax_cons (ex_cls T.g_NoMark (ax_nil (bi hF fun t30 ht30 hF => cd_isiE T.xc_0 T.ki_47 T.kp_48 (fun F v r => by cases r; exact .own _) ht30 (ax_cons (ex_blt T.b_isinstance bb_isi (ax_cons (ex_var 0 rfl (ax_cons (ex_cls T.g_NothingToUndo (ax_nil (bi hF fun t31 ht31 hF => cd_isiE T.xc_0 T.ki_49 T.kp_50 (fun F v r => by cases r; exact .own _) ht31 (ax_nil (⟨le_b rfl, bi hF fun v32 hv32 hF => od_dAdd .id .id hv32 (as_name 1 (?_) sc_Lkinds.nd)⟩))))))))))))))))))))))))))))))
  refine gx_seq (g1_asg (ex_bin (ex_var 1 rfl (ex_lst (ax_cons (ex_blt T.b_isinstance bb_isi (ax_cons (ex_var 0 rfl (ax_cons (ex_cls T.g_NothingToRedo (ax_nil (bi hF fun t33 ht33 hF => cd_isiE T.xc_0 T.ki_51 T.kp_52 (fun F v r => by cases r; exact .own _) ht33 (ax_cons (ex_blt T.b_isinstance bb_isi (ax_cons (ex_var 0 rfl (ax_cons (ex_cls T.g_Finished (ax_nil (bi hF fun t34 ht34 hF => cd_isiE T.xc_0 T.ki_53 T.kp_54 (fun F v r => by cases r; exact .own _) ht34 (ax_cons (ex_blt T.b_isinstance bb_isi (ax_cons (ex_var 0 rfl (ax_cons (ex_cls T.g_NotFinished (ax_nil (bi hF fun t35 ht35 hF => cd_isiE T.xc_0 T.ki_55 T.kp_56 (fun F v r => by cases r; exact .own _) ht35 (ax_nil (⟨le_b rfl, bi hF fun v36 hv36 hF => od_dAdd .id .id hv36 (as_name 1 (?_) sc_Lkinds.nd)⟩))))))))))))))))))))))))))))))
  exact gx_seq (g1_ret (ex_less (ex_bin (ex_var 1 rfl (ex_lst (ax_cons (ex_blt T.b_isinstance bb_isi (ax_cons (ex_var 0 rfl (ax_cons (ex_cls T.g_TooMany (ax_nil (bi hF fun t37 ht37 hF => cd_isiE T.xc_0 T.ki_57 T.kp_58 (fun F v r => by cases r; exact .own _) ht37 (ax_nil (⟨le_b rfl, bi hF fun v38 hv38 hF => od_dAdd .id .id hv38 (⟨_, sub_refl, ret0 (so hF) hk⟩)⟩)))))))))))))))
theorem fx_Lkinds_1 {pg : Program} {w : World} {K : PySem.W.Frag} {mg : Str → Option Value} {base : Heap} (T : Txt K mg base) : FnX pg w K mg base false 3 (He.fAd K ("_law_kinds", none)) ([] : List PySem.Str) (fun ds zs M P R => ds.length = 1 ∧ zs.length = ([] : List PySem.Str).length ∧ tr_Lkinds K (pick (ds ++ ([] ++ zs)) [0]) M P R) :=
  fn_kwX T.d_Lkinds.choose_spec sc_Lkinds (ok_Lkinds T) 1 ([] : List PySem.Str) [] [] [0] (by simp) (fun _ => .nil) (fun kV D doc pm an cdv ct us mv ws e h1 h2 h3 => match us, mv, ws, h1, h2, h3 with | [_], [], [], _, _, _ => rfl) (fun us mv ws h1 h2 h3 => match us, mv, ws, h1, h2, h3 with | [_], [], [], _, _, _ => rfl)
def tr_Lbases (K : PySem.W.Frag) : TrB := fun ds M P R => ∃ x0 : D, ∃ r : D, ds = [x0] ∧ F_Lbases (Zk K) x0 = some r ∧ P r M
set_option maxHeartbeats 0 in
theorem ok_Lbases {pg : Program} {w : World} {K : PySem.W.Frag} {mg : Str → Option Value} {base : Heap} (T : Txt K mg base) : BodyX pg w K mg base false 2 (He.fAd K ("_law_bases", none)) "_law_bases" (defBody s_Lbases) (defScope s_Lbases) ["_law_e", "_law_found"] ["_law_e"] (tr_Lbases K) := fun cdv hcv A outer s H F0 E ds M P R hgd0 hr t hL hpo kx => by
  obtain ⟨x0, r, rfl, hF, hk⟩ := t
  unfold F_Lbases at hF
  refine gx_seq (g1_asg (ex_lst (ax_cons (ex_blt T.b_isinstance bb_isi (ax_cons (ex_var 0 rfl (ax_cons (ex_cls T.g_ProbeError (ax_nil (bi hF fun t1 ht1 hF => cd_isiE T.xc_0 T.ki_59 T.kp_60 (fun F v r => by cases r; exact .own _) ht1 (ax_cons (ex_blt T.b_isinstance bb_isi (ax_cons (ex_var 0 rfl (ax_cons (ex_tyn T.b_ValueError rfl (ax_nil (bi hF fun t2 ht2 hF => cd_isiE T.xc_0 T.ki_61 T.kp_62 (fun F v r => by cases r; exact .ty _) ht2 (ax_cons (ex_blt T.b_isinstance bb_isi (ax_cons (ex_var 0 rfl (ax_cons (ex_cls T.g_AbsentError (ax_nil (bi hF fun t3 ht3 hF => cd_isiE T.xc_0 T.ki_63 T.kp_64 (fun F v r => by cases r; exact .own _) ht3 (ax_nil (⟨le_b rfl, as_name 1 (?_) sc_Lbases.nd⟩))))))))))))))))))))))))))))
  exact gx_seq (g1_ret (ex_less (ex_bin (ex_var 1 rfl (ex_lst (ax_cons (ex_blt T.b_isinstance bb_isi (ax_cons (ex_var 0 rfl (ax_cons (ex_tyn T.b_LookupError rfl (ax_nil (bi hF fun t4 ht4 hF => cd_isiE T.xc_0 T.ki_65 T.kp_66 (fun F v r => by cases r; exact .ty _) ht4 (ax_cons (ex_blt T.b_isinstance bb_isi (ax_cons (ex_var 0 rfl (ax_cons (ex_tup (ax_cons (ex_tyn T.b_KeyError rfl (ax_cons (ex_tyn T.b_IndexError rfl (ax_nil (⟨le_b rfl, ax_nil (bi hF fun t5 ht5 hF => cd_isiET T.xc_0 T.ki_67 T.kp_68 (fun F vs r => by cases r with | cons a0 r => (cases a0; cases r with | cons a1 r => (cases a1; cases r; exact .cons (.ty _) (.cons (.ty _) (.nil))))) ht5 (ax_cons (ex_blt T.b_isinstance bb_isi (ax_cons (ex_var 0 rfl (ax_cons (ex_tyn T.b_OverflowError rfl (ax_nil (bi hF fun t6 ht6 hF => cd_isiE T.xc_0 T.ki_69 T.kp_70 (fun F v r => by cases r; exact .ty _) ht6 (ax_nil (⟨le_b rfl, bi hF fun v7 hv7 hF => od_dAdd .id .id hv7 (⟨_, sub_refl, ret0 (so hF) hk⟩)⟩)))))))))))⟩)))))))))))))))))))))))))
theorem fx_Lbases_1 {pg : Program} {w : World} {K : PySem.W.Frag} {mg : Str → Option Value} {base : Heap} (T : Txt K mg base) : FnX pg w K mg base false 3 (He.fAd K ("_law_bases", none)) ([] : List PySem.Str) (fun ds zs M P R => ds.length = 1 ∧ zs.length = ([] : List PySem.Str).length ∧ tr_Lbases K (pick (ds ++ ([] ++ zs)) [0]) M P R) :=
  fn_kwX T.d_Lbases.choose_spec sc_Lbases (ok_Lbases T) 1 ([] : List PySem.Str) [] [] [0] (by simp) (fun _ => .nil) (fun kV D doc pm an cdv ct us mv ws e h1 h2 h3 => match us, mv, ws, h1, h2, h3 with | [_], [], [], _, _, _ => rfl) (fun us mv ws h1 h2 h3 => match us, mv, ws, h1, h2, h3 with | [_], [], [], _, _, _ => rfl)
def tr_Lplaced (K : PySem.W.Frag) : TrB := fun ds M P R => ∃ x0 : D, ∃ x1 : D, ∃ r : D, ds = [x0, x1] ∧ F_Lplaced (Zk K) x0 x1 = some r ∧ P r M
set_option maxHeartbeats 0 in
theorem ok_Lplaced {pg : Program} {w : World} {K : PySem.W.Frag} {mg : Str → Option Value} {base : Heap} (T : Txt K mg base) : BodyX pg w K mg base false 4 (He.fAd K ("_law_placed", none)) "_law_placed" (defBody s_Lplaced) (defScope s_Lplaced) ["_law_x", "_law_y", "_law_some", "_law_found"] ["_law_x", "_law_y"] (tr_Lplaced K) := fun cdv hcv A outer s H F0 E ds M P R hgd0 hr t hL hpo kx => by
  obtain ⟨x0, x1, r, rfl, hF, hk⟩ := t
  unfold F_Lplaced at hF
  refine gx_seq (g1_asg (ex_callX (fx_Lmade_2 T) Lets.no (fun h => nomatch h) (hr.mono (by decide)) T.m_Lmade T.d_Lmade.choose_spec.kp (ev_a (ax_cons (ex_var 0 rfl (ax_cons (ex_var 1 rfl (ax_nil (kx_nil (bi hF fun v1 hv1 hF => ⟨rfl, ⟨rfl, rfl, ⟨_, _, v1, rfl, hv1, as_name 2 (?_) sc_Lplaced.nd⟩⟩⟩))))))))))
  refine gx_seq (g1_asg (ex_lst (ax_cons (ex_xflL T.xf_value_71 (ex_ix (ex_var 2 rfl (ex_int (bi hF fun v2 hv2 hF => id_dIx .id .id hv2 (bi hF fun z3 hz3 hF => ⟨z3, hz3, ax_cons (ex_xflL T.xf_value_71 (ex_ix (ex_var 2 rfl (ex_int (bi hF fun v4 hv4 hF => id_dIx .id .id hv4 (bi hF fun z5 hz5 hF => ⟨z5, hz5, ax_cons (ex_xflL T.xf_value_71 (ex_ix (ex_var 2 rfl (ex_int (bi hF fun v6 hv6 hF => id_dIx .id .id hv6 (bi hF fun z7 hz7 hF => ⟨z7, hz7, ax_cons (ex_xflL T.xf_index_72 (ex_ix (ex_var 2 rfl (ex_int (bi hF fun v8 hv8 hF => id_dIx .id .id hv8 (bi hF fun z9 hz9 hF => ⟨z9, hz9, ax_cons (ex_xflL T.xf_index_72 (ex_ix (ex_var 2 rfl (ex_int (bi hF fun v10 hv10 hF => id_dIx .id .id hv10 (bi hF fun z11 hz11 hF => ⟨z11, hz11, ax_cons (ex_xflL T.xf_index_72 (ex_ix (ex_var 2 rfl (ex_int (bi hF fun v12 hv12 hF => id_dIx .id .id hv12 (bi hF fun z13 hz13 hF => ⟨z13, hz13, ax_nil (⟨le_b rfl, as_name 3 (?_) sc_Lplaced.nd⟩)⟩))))))⟩))))))⟩))))))⟩))))))⟩))))))⟩)))))))))
  refine gx_seq (g1_asg (ex_bin (ex_var 3 rfl (ex_lst (ax_cons (ex_xflL T.xf_index_72 (ex_ix (ex_var 2 rfl (ex_int (bi hF fun v14 hv14 hF => id_dIx .id .id hv14 (bi hF fun z15 hz15 hF => ⟨z15, hz15, ax_cons (ex_xflL T.xf_value_71 (ex_ix (ex_var 2 rfl (ex_int (bi hF fun v16 hv16 hF => id_dIx .id .id hv16 (bi hF fun z17 hz17 hF => ⟨z17, hz17, ax_cons (ex_xflL T.xf_value_71 (ex_ix (ex_var 2 rfl (ex_int (bi hF fun v18 hv18 hF => id_dIx .id .id hv18 (bi hF fun z19 hz19 hF => ⟨z19, hz19, ax_cons (ex_xflL T.xf_value_71 (ex_ix (ex_var 2 rfl (ex_int (bi hF fun v20 hv20 hF => id_dIx .id .id hv20 (bi hF fun z21 hz21 hF => ⟨z21, hz21, ax_cons (ex_xflL T.xf_value_71 (ex_ix (ex_var 2 rfl (ex_int (bi hF fun v22 hv22 hF => id_dIx .id .id hv22 (bi hF fun z23 hz23 hF => ⟨z23, hz23, ax_cons (ex_xflL T.xf_index_72 (ex_ix (ex_var 2 rfl (ex_int (bi hF fun v24 hv24 hF => id_dIx .id .id hv24 (bi hF fun z25 hz25 hF => ⟨z25, hz25, ax_nil (⟨le_b rfl, bi hF fun v26 hv26 hF => od_dAdd .id .id hv26 (as_name 3 (?_) sc_Lplaced.nd)⟩)⟩))))))⟩))))))⟩))))))⟩))))))⟩))))))⟩)))))))))))
  refine gx_seq (g1_asg (ex_bin (ex_var 3 rfl (ex_lst (ax_cons (ex_xflL T.xf_line_73 (ex_ix (ex_var 2 rfl (ex_int (bi hF fun v27 hv27 hF => id_dIx .id .id hv27 (bi hF fun z28 hz28 hF => ⟨z28, hz28, ax_cons (ex_xflL T.xf_word_74 (ex_ix (ex_var 2 rfl (ex_int (bi hF fun v29 hv29 hF => id_dIx .id .id hv29 (bi hF fun z30 hz30 hF => ⟨z30, hz30, ax_cons (ex_xflL T.xf_first_75 (ex_ix (ex_var 2 rfl (ex_int (bi hF fun v31 hv31 hF => id_dIx .id .id hv31 (bi hF fun z32 hz32 hF => ⟨z32, hz32, ax_cons (ex_xflL T.xf_cell_76 (ex_ix (ex_var 2 rfl (ex_int (bi hF fun v33 hv33 hF => id_dIx .id .id hv33 (bi hF fun z34 hz34 hF => ⟨z34, hz34, ax_cons (ex_xflL T.xf_node_77 (ex_ix (ex_var 2 rfl (ex_int (bi hF fun v35 hv35 hF => id_dIx .id .id hv35 (bi hF fun z36 hz36 hF => ⟨z36, hz36, ax_cons (ex_xflL T.xf_index_72 (ex_ix (ex_var 2 rfl (ex_int (bi hF fun v37 hv37 hF => id_dIx .id .id hv37 (bi hF fun z38 hz38 hF => ⟨z38, hz38, ax_nil (⟨le_b rfl, bi hF fun v39 hv39 hF => od_dAdd .id .id hv39 (as_name 3 (?_) sc_Lplaced.nd)⟩)⟩))))))⟩))))))⟩))))))⟩))))))⟩))))))⟩)))))))))))
  refine gx_seq (g1_asg (ex_bin (ex_var 3 rfl (ex_lst (ax_cons (ex_xflL T.xf_output_78 (ex_ix (ex_var 2 rfl (ex_int (bi hF fun v40 hv40 hF => id_dIx .id .id hv40 (bi hF fun z41 hz41 hF => ⟨z41, hz41, ax_cons (ex_xflL T.xf_index_72 (ex_ix (ex_var 2 rfl (ex_int (bi hF fun v42 hv42 hF => id_dIx .id .id hv42 (bi hF fun z43 hz43 hF => ⟨z43, hz43, ax_cons (ex_xflL T.xf_index_72 (ex_ix (ex_var 2 rfl (ex_int (bi hF fun v44 hv44 hF => id_dIx .id .id hv44 (bi hF fun z45 hz45 hF => ⟨z45, hz45, ax_cons (ex_xflL T.xf_name_79 (ex_ix (ex_var 2 rfl (ex_int (bi hF fun v46 hv46 hF => id_dIx .id .id hv46 (bi hF fun z47 hz47 hF => ⟨z47, hz47, ax_cons (ex_xflL T.xf_most_80 (ex_ix (ex_var 2 rfl (ex_int (bi hF fun v48 hv48 hF => id_dIx .id .id hv48 (bi hF fun z49 hz49 hF => ⟨z49, hz49, ax_nil (⟨le_b rfl, bi hF fun v50 hv50 hF => od_dAdd .id .id hv50 (as_name 3 (?_) sc_Lplaced.nd)⟩)⟩))))))⟩))))))⟩))))))⟩))))))⟩)))))))))))
  exact gx_seq (g1_ret (ex_less (ex_bin (ex_var 3 rfl (ex_lst (ax_cons (ex_xflL T.xf_word_74 (ex_ix (ex_var 2 rfl (ex_int (bi hF fun v51 hv51 hF => id_dIx .id .id hv51 (bi hF fun z52 hz52 hF => ⟨z52, hz52, ax_cons (ex_xflL T.xf_second_81 (ex_ix (ex_var 2 rfl (ex_int (bi hF fun v53 hv53 hF => id_dIx .id .id hv53 (bi hF fun z54 hz54 hF => ⟨z54, hz54, ax_nil (⟨le_b rfl, bi hF fun v55 hv55 hF => od_dAdd .id .id hv55 (⟨_, sub_refl, ret0 (so hF) hk⟩)⟩)⟩))))))⟩))))))))))))
theorem fx_Lplaced_2 {pg : Program} {w : World} {K : PySem.W.Frag} {mg : Str → Option Value} {base : Heap} (T : Txt K mg base) : FnX pg w K mg base false 5 (He.fAd K ("_law_placed", none)) ([] : List PySem.Str) (fun ds zs M P R => ds.length = 2 ∧ zs.length = ([] : List PySem.Str).length ∧ tr_Lplaced K (pick (ds ++ ([] ++ zs)) [0, 1]) M P R) :=
  fn_kwX T.d_Lplaced.choose_spec sc_Lplaced (ok_Lplaced T) 2 ([] : List PySem.Str) [] [] [0, 1] (by simp) (fun _ => .nil) (fun kV D doc pm an cdv ct us mv ws e h1 h2 h3 => match us, mv, ws, h1, h2, h3 with | [_, _], [], [], _, _, _ => rfl) (fun us mv ws h1 h2 h3 => match us, mv, ws, h1, h2, h3 with | [_, _], [], [], _, _, _ => rfl)
def tr_Lnamed (K : PySem.W.Frag) : TrB := fun ds M P R => ∃ x0 : D, ∃ x1 : D, ∃ r : D, ds = [x0, x1] ∧ F_Lnamed (Zk K) x0 x1 = some r ∧ P r M
set_option maxHeartbeats 0 in
theorem ok_Lnamed {pg : Program} {w : World} {K : PySem.W.Frag} {mg : Str → Option Value} {base : Heap} (T : Txt K mg base) : BodyX pg w K mg base false 2 (He.fAd K ("_law_named", none)) "_law_named" (defBody s_Lnamed) (defScope s_Lnamed) ["_law_x", "_law_y", "_law_found"] ["_law_x", "_law_y"] (tr_Lnamed K) := fun cdv hcv A outer s H F0 E ds M P R hgd0 hr t hL hpo kx => by
  obtain ⟨x0, x1, r, rfl, hF, hk⟩ := t
  unfold F_Lnamed at hF
  refine gx_seq (g1_asg (ex_lst (ax_cons (ex_xflL T.xf_value_71 (ex_err1 (ks := ["value"]) sel_K T.er_InvalidSize basV T.d_InvalidSize___init__.choose_spec sc_InvalidSize___init__ ⟨_, _, _, _, rfl⟩ T.nf_InvalidSize_value (hr.mono (by decide)) 0 (fun _ _ _ _ _ _ q us ws hu hw => match us, ws, hu, hw with | [], [_], _, _ => rfl) T.g_InvalidSize (ev_0 (kx_cons (ex_var 0 rfl (kx_nil ⟨rfl, ⟨_, ⟨rfl, le_b rfl⟩, rfl, bi hF fun z1 hz1 hF => ⟨z1, hz1, ax_cons (ex_xflL T.xf_value_71 (ex_err1 (ks := ["value"]) sel_K T.er_InvalidNumber basV T.d_InvalidNumber___init__.choose_spec sc_InvalidNumber___init__ ⟨_, _, _, _, rfl⟩ T.nf_InvalidNumber_value (hr.mono (by decide)) 0 (fun _ _ _ _ _ _ q us ws hu hw => match us, ws, hu, hw with | [], [_], _, _ => rfl) T.g_InvalidNumber (ev_0 (kx_cons (ex_var 0 rfl (kx_nil ⟨rfl, ⟨_, ⟨rfl, le_b rfl⟩, rfl, bi hF fun z2 hz2 hF => ⟨z2, hz2, ax_cons (ex_xflL T.xf_value_71 (ex_err1 (ks := ["value"]) sel_K T.er_InvalidTrial basV T.d_InvalidTrial___init__.choose_spec sc_InvalidTrial___init__ ⟨_, _, _, _, rfl⟩ T.nf_InvalidTrial_value (hr.mono (by decide)) 0 (fun _ _ _ _ _ _ q us ws hu hw => match us, ws, hu, hw with | [], [_], _, _ => rfl) T.g_InvalidTrial (ev_0 (kx_cons (ex_var 0 rfl (kx_nil ⟨rfl, ⟨_, ⟨rfl, le_b rfl⟩, rfl, bi hF fun z3 hz3 hF => ⟨z3, hz3, ax_nil (⟨le_b rfl, as_name 2 (?_) sc_Lnamed.nd⟩)⟩⟩⟩))))))⟩⟩⟩))))))⟩⟩⟩)))))))))
  refine gx_seq (g1_asg (ex_bin (ex_var 2 rfl (ex_lst (ax_cons (ex_xflL T.xf_index_72 (ex_err1 (ks := ["index"]) sel_K T.er_InvalidPosition basV T.d_InvalidPosition___init__.choose_spec sc_InvalidPosition___init__ ⟨_, _, _, _, rfl⟩ T.nf_InvalidPosition_index (hr.mono (by decide)) 0 (fun _ _ _ _ _ _ q us ws hu hw => match us, ws, hu, hw with | [], [_], _, _ => rfl) T.g_InvalidPosition (ev_0 (kx_cons (ex_var 0 rfl (kx_nil ⟨rfl, ⟨_, ⟨rfl, le_b rfl⟩, rfl, bi hF fun z4 hz4 hF => ⟨z4, hz4, ax_cons (ex_xflL T.xf_index_72 (ex_err1 (ks := ["index"]) sel_K T.er_InvalidCells basV T.d_InvalidCells___init__.choose_spec sc_InvalidCells___init__ ⟨_, _, _, _, rfl⟩ T.nf_InvalidCells_index (hr.mono (by decide)) 0 (fun _ _ _ _ _ _ q us ws hu hw => match us, ws, hu, hw with | [], [_], _, _ => rfl) T.g_InvalidCells (ev_0 (kx_cons (ex_var 0 rfl (kx_nil ⟨rfl, ⟨_, ⟨rfl, le_b rfl⟩, rfl, bi hF fun z5 hz5 hF => ⟨z5, hz5, ax_cons (ex_xflL T.xf_index_72 (ex_err1 (ks := ["index"]) sel_K T.er_InvalidOutputs basV T.d_InvalidOutputs___init__.choose_spec sc_InvalidOutputs___init__ ⟨_, _, _, _, rfl⟩ T.nf_InvalidOutputs_index (hr.mono (by decide)) 0 (fun _ _ _ _ _ _ q us ws hu hw => match us, ws, hu, hw with | [], [_], _, _ => rfl) T.g_InvalidOutputs (ev_0 (kx_cons (ex_var 0 rfl (kx_nil ⟨rfl, ⟨_, ⟨rfl, le_b rfl⟩, rfl, bi hF fun z6 hz6 hF => ⟨z6, hz6, ax_nil (⟨le_b rfl, bi hF fun v7 hv7 hF => od_dAdd .id .id hv7 (as_name 2 (?_) sc_Lnamed.nd)⟩)⟩⟩⟩))))))⟩⟩⟩))))))⟩⟩⟩)))))))))))
  refine gx_seq (g1_asg (ex_bin (ex_var 2 rfl (ex_lst (ax_cons (ex_xflL T.xf_index_72 (ex_err1 (ks := ["index"]) sel_K T.er_InvalidStuck basV T.d_InvalidStuck___init__.choose_spec sc_InvalidStuck___init__ ⟨_, _, _, _, rfl⟩ T.nf_InvalidStuck_index (hr.mono (by decide)) 0 (fun _ _ _ _ _ _ q us ws hu hw => match us, ws, hu, hw with | [], [_], _, _ => rfl) T.g_InvalidStuck (ev_0 (kx_cons (ex_var 0 rfl (kx_nil ⟨rfl, ⟨_, ⟨rfl, le_b rfl⟩, rfl, bi hF fun z8 hz8 hF => ⟨z8, hz8, ax_cons (ex_xflL T.xf_value_71 (ex_err1 (ks := ["value"]) sel_K T.er_InvalidRow basV T.d_InvalidRow___init__.choose_spec sc_InvalidRow___init__ ⟨_, _, _, _, rfl⟩ T.nf_InvalidRow_value (hr.mono (by decide)) 0 (fun _ _ _ _ _ _ q us ws hu hw => match us, ws, hu, hw with | [], [_], _, _ => rfl) T.g_InvalidRow (ev_0 (kx_cons (ex_var 0 rfl (kx_nil ⟨rfl, ⟨_, ⟨rfl, le_b rfl⟩, rfl, bi hF fun z9 hz9 hF => ⟨z9, hz9, ax_cons (ex_xflL T.xf_value_71 (ex_err1 (ks := ["value"]) sel_K T.er_InvalidCarry basV T.d_InvalidCarry___init__.choose_spec sc_InvalidCarry___init__ ⟨_, _, _, _, rfl⟩ T.nf_InvalidCarry_value (hr.mono (by decide)) 0 (fun _ _ _ _ _ _ q us ws hu hw => match us, ws, hu, hw with | [], [_], _, _ => rfl) T.g_InvalidCarry (ev_0 (kx_cons (ex_var 0 rfl (kx_nil ⟨rfl, ⟨_, ⟨rfl, le_b rfl⟩, rfl, bi hF fun z10 hz10 hF => ⟨z10, hz10, ax_nil (⟨le_b rfl, bi hF fun v11 hv11 hF => od_dAdd .id .id hv11 (as_name 2 (?_) sc_Lnamed.nd)⟩)⟩⟩⟩))))))⟩⟩⟩))))))⟩⟩⟩)))))))))))
  refine gx_seq (g1_asg (ex_bin (ex_var 2 rfl (ex_lst (ax_cons (ex_xflL T.xf_value_71 (ex_err1 (ks := ["value"]) sel_K T.er_InvalidWire basV T.d_InvalidWire___init__.choose_spec sc_InvalidWire___init__ ⟨_, _, _, _, rfl⟩ T.nf_InvalidWire_value (hr.mono (by decide)) 0 (fun _ _ _ _ _ _ q us ws hu hw => match us, ws, hu, hw with | [], [_], _, _ => rfl) T.g_InvalidWire (ev_0 (kx_cons (ex_var 0 rfl (kx_nil ⟨rfl, ⟨_, ⟨rfl, le_b rfl⟩, rfl, bi hF fun z12 hz12 hF => ⟨z12, hz12, ax_cons (ex_xflL T.xf_value_71 (ex_err1 (ks := ["value"]) sel_K T.er_InvalidFault basV T.d_InvalidFault___init__.choose_spec sc_InvalidFault___init__ ⟨_, _, _, _, rfl⟩ T.nf_InvalidFault_value (hr.mono (by decide)) 0 (fun _ _ _ _ _ _ q us ws hu hw => match us, ws, hu, hw with | [], [_], _, _ => rfl) T.g_InvalidFault (ev_0 (kx_cons (ex_var 0 rfl (kx_nil ⟨rfl, ⟨_, ⟨rfl, le_b rfl⟩, rfl, bi hF fun z13 hz13 hF => ⟨z13, hz13, ax_cons (ex_xflL T.xf_index_72 (ex_err1 (ks := ["index"]) sel_K T.er_InvalidEdit basV T.d_InvalidEdit___init__.choose_spec sc_InvalidEdit___init__ ⟨_, _, _, _, rfl⟩ T.nf_InvalidEdit_index (hr.mono (by decide)) 0 (fun _ _ _ _ _ _ q us ws hu hw => match us, ws, hu, hw with | [], [_], _, _ => rfl) T.g_InvalidEdit (ev_0 (kx_cons (ex_var 0 rfl (kx_nil ⟨rfl, ⟨_, ⟨rfl, le_b rfl⟩, rfl, bi hF fun z14 hz14 hF => ⟨z14, hz14, ax_nil (⟨le_b rfl, bi hF fun v15 hv15 hF => od_dAdd .id .id hv15 (as_name 2 (?_) sc_Lnamed.nd)⟩)⟩⟩⟩))))))⟩⟩⟩))))))⟩⟩⟩)))))))))))
  refine gx_seq (g1_asg (ex_bin (ex_var 2 rfl (ex_lst (ax_cons (ex_xflL T.xf_line_73 (ex_err2 (ks := ["word", "line"]) sel_R T.er_InvalidText basV T.d_InvalidText___init__.choose_spec sc_InvalidText___init__ ⟨_, _, _, _, _, _, _, _, rfl⟩ T.nf_InvalidText_line T.nf_InvalidText_word (hr.mono (by decide)) 0 (fun _ _ _ _ _ _ q us ws hu hw => match us, ws, hu, hw with | [], [_, _], _, _ => rfl) T.g_InvalidText (ev_0 (kx_cons (ex_var 1 rfl (kx_cons (ex_var 0 rfl (kx_nil ⟨rfl, ⟨_, _, ⟨rfl, le_b rfl⟩, rfl, bi hF fun z16 hz16 hF => ⟨z16, hz16, ax_cons (ex_xflL T.xf_word_74 (ex_err1 (ks := ["word"]) sel_K T.er_UnknownCommand basV T.d_UnknownCommand___init__.choose_spec sc_UnknownCommand___init__ ⟨_, _, _, _, rfl⟩ T.nf_UnknownCommand_word (hr.mono (by decide)) 0 (fun _ _ _ _ _ _ q us ws hu hw => match us, ws, hu, hw with | [], [_], _, _ => rfl) T.g_UnknownCommand (ev_0 (kx_cons (ex_var 0 rfl (kx_nil ⟨rfl, ⟨_, ⟨rfl, le_b rfl⟩, rfl, bi hF fun z17 hz17 hF => ⟨z17, hz17, ax_cons (ex_xflL T.xf_first_75 (ex_err2 (ks := ["second", "first"]) sel_R T.er_NotAlike basV T.d_NotAlike___init__.choose_spec sc_NotAlike___init__ ⟨_, _, _, _, _, _, _, _, rfl⟩ T.nf_NotAlike_first T.nf_NotAlike_second (hr.mono (by decide)) 0 (fun _ _ _ _ _ _ q us ws hu hw => match us, ws, hu, hw with | [], [_, _], _, _ => rfl) T.g_NotAlike (ev_0 (kx_cons (ex_var 1 rfl (kx_cons (ex_var 0 rfl (kx_nil ⟨rfl, ⟨_, _, ⟨rfl, le_b rfl⟩, rfl, bi hF fun z18 hz18 hF => ⟨z18, hz18, ax_nil (⟨le_b rfl, bi hF fun v19 hv19 hF => od_dAdd .id .id hv19 (as_name 2 (?_) sc_Lnamed.nd)⟩)⟩⟩⟩))))))))⟩⟩⟩))))))⟩⟩⟩)))))))))))))
  refine gx_seq (g1_asg (ex_bin (ex_var 2 rfl (ex_lst (ax_cons (ex_xflL T.xf_cell_76 (ex_err1 (ks := ["cell"]) sel_K T.er_InUse basV T.d_InUse___init__.choose_spec sc_InUse___init__ ⟨_, _, _, _, rfl⟩ T.nf_InUse_cell (hr.mono (by decide)) 0 (fun _ _ _ _ _ _ q us ws hu hw => match us, ws, hu, hw with | [], [_], _, _ => rfl) T.g_InUse (ev_0 (kx_cons (ex_var 0 rfl (kx_nil ⟨rfl, ⟨_, ⟨rfl, le_b rfl⟩, rfl, bi hF fun z20 hz20 hF => ⟨z20, hz20, ax_cons (ex_xflL T.xf_node_77 (ex_err1 (ks := ["node"]) sel_K T.er_NoNode basL T.d_NoNode___init__.choose_spec sc_NoNode___init__ ⟨_, _, _, _, rfl⟩ T.nf_NoNode_node (hr.mono (by decide)) 0 (fun _ _ _ _ _ _ q us ws hu hw => match us, ws, hu, hw with | [], [_], _, _ => rfl) T.g_NoNode (ev_0 (kx_cons (ex_var 0 rfl (kx_nil ⟨rfl, ⟨_, ⟨rfl, le_b rfl⟩, rfl, bi hF fun z21 hz21 hF => ⟨z21, hz21, ax_cons (ex_xflL T.xf_index_72 (ex_err1 (ks := ["index"]) sel_K T.er_NoCell basL T.d_NoCell___init__.choose_spec sc_NoCell___init__ ⟨_, _, _, _, rfl⟩ T.nf_NoCell_index (hr.mono (by decide)) 0 (fun _ _ _ _ _ _ q us ws hu hw => match us, ws, hu, hw with | [], [_], _, _ => rfl) T.g_NoCell (ev_0 (kx_cons (ex_var 0 rfl (kx_nil ⟨rfl, ⟨_, ⟨rfl, le_b rfl⟩, rfl, bi hF fun z22 hz22 hF => ⟨z22, hz22, ax_cons (ex_xflL T.xf_output_78 (ex_err1 (ks := ["output"]) sel_K T.er_NoOutput basL T.d_NoOutput___init__.choose_spec sc_NoOutput___init__ ⟨_, _, _, _, rfl⟩ T.nf_NoOutput_output (hr.mono (by decide)) 0 (fun _ _ _ _ _ _ q us ws hu hw => match us, ws, hu, hw with | [], [_], _, _ => rfl) T.g_NoOutput (ev_0 (kx_cons (ex_var 0 rfl (kx_nil ⟨rfl, ⟨_, ⟨rfl, le_b rfl⟩, rfl, bi hF fun z23 hz23 hF => ⟨z23, hz23, ax_nil (⟨le_b rfl, bi hF fun v24 hv24 hF => od_dAdd .id .id hv24 (as_name 2 (?_) sc_Lnamed.nd)⟩)⟩⟩⟩))))))⟩⟩⟩))))))⟩⟩⟩))))))⟩⟩⟩)))))))))))
  refine gx_seq (g1_asg (ex_bin (ex_var 2 rfl (ex_lst (ax_cons (ex_xflL T.xf_index_72 (ex_err1 (ks := ["index"]) sel_K T.er_NoPlace basL T.d_NoPlace___init__.choose_spec sc_NoPlace___init__ ⟨_, _, _, _, rfl⟩ T.nf_NoPlace_index (hr.mono (by decide)) 0 (fun _ _ _ _ _ _ q us ws hu hw => match us, ws, hu, hw with | [], [_], _, _ => rfl) T.g_NoPlace (ev_0 (kx_cons (ex_var 0 rfl (kx_nil ⟨rfl, ⟨_, ⟨rfl, le_b rfl⟩, rfl, bi hF fun z25 hz25 hF => ⟨z25, hz25, ax_cons (ex_xflL T.xf_index_72 (ex_err1 (ks := ["index"]) sel_K T.er_NoTrial basL T.d_NoTrial___init__.choose_spec sc_NoTrial___init__ ⟨_, _, _, _, rfl⟩ T.nf_NoTrial_index (hr.mono (by decide)) 0 (fun _ _ _ _ _ _ q us ws hu hw => match us, ws, hu, hw with | [], [_], _, _ => rfl) T.g_NoTrial (ev_0 (kx_cons (ex_var 0 rfl (kx_nil ⟨rfl, ⟨_, ⟨rfl, le_b rfl⟩, rfl, bi hF fun z26 hz26 hF => ⟨z26, hz26, ax_cons (ex_xflL T.xf_name_79 (ex_err1 (ks := ["name"]) sel_K T.er_NoMark basL T.d_NoMark___init__.choose_spec sc_NoMark___init__ ⟨_, _, _, _, rfl⟩ T.nf_NoMark_name (hr.mono (by decide)) 0 (fun _ _ _ _ _ _ q us ws hu hw => match us, ws, hu, hw with | [], [_], _, _ => rfl) T.g_NoMark (ev_0 (kx_cons (ex_var 0 rfl (kx_nil ⟨rfl, ⟨_, ⟨rfl, le_b rfl⟩, rfl, bi hF fun z27 hz27 hF => ⟨z27, hz27, ax_cons (ex_xflL T.xf_most_80 (ex_err1 (ks := ["most"]) sel_K T.er_TooMany basO T.d_TooMany___init__.choose_spec sc_TooMany___init__ ⟨_, _, _, _, rfl⟩ T.nf_TooMany_most (hr.mono (by decide)) 0 (fun _ _ _ _ _ _ q us ws hu hw => match us, ws, hu, hw with | [], [_], _, _ => rfl) T.g_TooMany (ev_0 (kx_cons (ex_var 0 rfl (kx_nil ⟨rfl, ⟨_, ⟨rfl, le_b rfl⟩, rfl, bi hF fun z28 hz28 hF => ⟨z28, hz28, ax_nil (⟨le_b rfl, bi hF fun v29 hv29 hF => od_dAdd .id .id hv29 (as_name 2 (?_) sc_Lnamed.nd)⟩)⟩⟩⟩))))))⟩⟩⟩))))))⟩⟩⟩))))))⟩⟩⟩)))))))))))
  exact gx_seq (g1_ret (ex_less (ex_bin (ex_var 2 rfl (ex_lst (ax_cons (ex_xflL T.xf_word_74 (ex_err2 (ks := ["word", "line"]) sel_R T.er_InvalidText basV T.d_InvalidText___init__.choose_spec sc_InvalidText___init__ ⟨_, _, _, _, _, _, _, _, rfl⟩ T.nf_InvalidText_line T.nf_InvalidText_word (hr.mono (by decide)) 0 (fun _ _ _ _ _ _ q us ws hu hw => match us, ws, hu, hw with | [], [_, _], _, _ => rfl) T.g_InvalidText (ev_0 (kx_cons (ex_var 1 rfl (kx_cons (ex_var 0 rfl (kx_nil ⟨rfl, ⟨_, _, ⟨rfl, le_b rfl⟩, rfl, bi hF fun z30 hz30 hF => ⟨z30, hz30, ax_cons (ex_xflL T.xf_second_81 (ex_err2 (ks := ["second", "first"]) sel_R T.er_NotAlike basV T.d_NotAlike___init__.choose_spec sc_NotAlike___init__ ⟨_, _, _, _, _, _, _, _, rfl⟩ T.nf_NotAlike_first T.nf_NotAlike_second (hr.mono (by decide)) 0 (fun _ _ _ _ _ _ q us ws hu hw => match us, ws, hu, hw with | [], [_, _], _, _ => rfl) T.g_NotAlike (ev_0 (kx_cons (ex_var 1 rfl (kx_cons (ex_var 0 rfl (kx_nil ⟨rfl, ⟨_, _, ⟨rfl, le_b rfl⟩, rfl, bi hF fun z31 hz31 hF => ⟨z31, hz31, ax_nil (⟨le_b rfl, bi hF fun v32 hv32 hF => od_dAdd .id .id hv32 (⟨_, sub_refl, ret0 (so hF) hk⟩)⟩)⟩⟩⟩))))))))⟩⟩⟩))))))))))))))
theorem fx_Lnamed_2 {pg : Program} {w : World} {K : PySem.W.Frag} {mg : Str → Option Value} {base : Heap} (T : Txt K mg base) : FnX pg w K mg base false 3 (He.fAd K ("_law_named", none)) ([] : List PySem.Str) (fun ds zs M P R => ds.length = 2 ∧ zs.length = ([] : List PySem.Str).length ∧ tr_Lnamed K (pick (ds ++ ([] ++ zs)) [0, 1]) M P R) :=
  fn_kwX T.d_Lnamed.choose_spec sc_Lnamed (ok_Lnamed T) 2 ([] : List PySem.Str) [] [] [0, 1] (by simp) (fun _ => .nil) (fun kV D doc pm an cdv ct us mv ws e h1 h2 h3 => match us, mv, ws, h1, h2, h3 with | [_, _], [], [], _, _, _ => rfl) (fun us mv ws h1 h2 h3 => match us, mv, ws, h1, h2, h3 with | [_, _], [], [], _, _, _ => rfl)
def tr_law (K : PySem.W.Frag) : TrB := fun ds M P R => ∃ ns, ds = [.scr ns] ∧ TbM K tl M ∧ F_law (Zk K) (.scr ns) = some (.bl true) ∧ ∀ M', P (.bl true) M'
set_option maxHeartbeats 0 in
theorem ok_law {pg : Program} {w : World} {K : PySem.W.Frag} {mg : Str → Option Value} {base : Heap} (T : Txt K mg base) : BodyX pg w K mg base true 6 (He.fAd K ("law", none)) "law" (defBody s_law) (defScope s_law) ["_law_script", "_law_hand", "_law_yes", "_law_no", "_law_due", "_law_turn", "_law_x", "_law_y", "_law_k", "_law_e", "_law_j"] ["_law_script"] (tr_law K) := fun cdv hcv A outer s H F0 E ds M P R hgd0 hr t hL hpo kx => by
  have hgd := hgd0 rfl
  obtain ⟨ns, rfl, hTM, hF, hk0⟩ := t
  obtain ⟨x0, ex0⟩ : ∃ x0, x0 = D.scr ns := ⟨_, rfl⟩
  obtain ⟨r, er⟩ : ∃ r, r = D.bl true := ⟨_, rfl⟩
  rw [← ex0, ← er] at hF
  rw [← ex0]
  have hk : P r M := by rw [er]; exact hk0 M
  clear hk0
  unfold F_law at hF
  refine gx_seq (g1_asg (ex_callX (fx_Lbegin_1 T) Lets.no (fun h => nomatch h) (hr.mono (by decide)) T.m_Lbegin T.d_Lbegin.choose_spec.kp (ev_a (ax_cons (ex_var 0 rfl (ax_nil (kx_nil (bi hF fun v1 hv1 hF => ⟨rfl, ⟨rfl, rfl, ⟨_, v1, rfl, hv1, fun a2 ha2 => have fb_a2 := ha2; as_name 1 (?_) sc_law.nd⟩⟩⟩))))))))
  refine gx_seq (g1_asg (ex_tup (ax_cons (ex_bl (ax_cons (ex_bl (ax_nil (⟨le_b rfl, bi hF fun p3 hp3 hF => as_eq (un2_eq hp3) (as_tup rfl rfl (asd_cons (as_name 2 (asd_cons (as_name 3 (asd_nil (?_)) sc_law.nd)) sc_law.nd)))⟩))))))))
  refine gx_seq (g1_asg (ex_bin (ex_bin (ex_bin (ex_lst (ax_cons (ex_lst (ax_cons (ex_var 2 rfl (ax_cons (ex_var 2 rfl (ax_cons (ex_var 3 rfl (ax_cons (ex_var 3 rfl (ax_cons (ex_var 3 rfl (ax_cons (ex_var 3 rfl (ax_nil (⟨le_b rfl, ax_nil (⟨le_b rfl, ex_int (bi hF fun v4 hv4 hF => od_dMul .id .id hv4 (ex_bin (ex_lst (ax_cons (ex_lst (ax_cons (ex_var 3 rfl (ax_cons (ex_var 3 rfl (ax_cons (ex_var 2 rfl (ax_cons (ex_var 2 rfl (ax_cons (ex_var 3 rfl (ax_cons (ex_var 3 rfl (ax_nil (⟨le_b rfl, ax_nil (⟨le_b rfl, ex_int (bi hF fun v5 hv5 hF => od_dMul .id .id hv5 (bi hF fun v6 hv6 hF => od_dAdd .id .id hv6 (ex_lst (ax_cons (ex_lst (ax_cons (ex_var 3 rfl (ax_cons (ex_var 3 rfl (ax_cons (ex_var 3 rfl (ax_cons (ex_var 3 rfl (ax_cons (ex_var 3 rfl (ax_cons (ex_var 2 rfl (ax_nil (⟨le_b rfl, ax_nil (⟨le_b rfl, bi hF fun v7 hv7 hF => od_dAdd .id .id hv7 (as_name 4 (?_) sc_law.nd)⟩)⟩)))))))))))))))))))⟩)⟩)))))))))))))))))))⟩)⟩)))))))))))))))))))))
  refine gx_seq (g1_for hpo rfl (bi hF fun l8 hl8 hF => ix_range1U (M2 := (up M a2 (.lst v1))) T.b_range (ax_cons (ex_int (ax_nil (⟨rfl, rfl⟩)))) hl8 (bi hF fun c12 hlc12 hOc12 => forC hlc12 (fun s9 ρ' M' => ∃ j0 : Option D, ∃ j1 : Option D, ∃ j2 : Option D, ∃ j3 : Option D, ∃ j4 : Option D, ∃ j5 : Option D, ρ' = [some x0, some (.adr a2), some p3.1, some p3.2, some v7, j0, j1, j2, j3, j4, j5] ∧ M' = (up M a2 (.lst s9))) ⟨_, _, _, _, _, _, rfl, rfl⟩ ?_ ?_)))
  · rintro x11 s9 b13 hF hbb13 _ _ ⟨_, _, _, _, _, _, rfl, rfl⟩
    try dsimp only at hF
    refine as_name 5 (?_) sc_law.nd
    refine gx_seq (g1_par 6 7 rfl (by decide) (ax_cons (ex_callX (fx_Lthing_1 T) Lets.no (fun h => nomatch h) (hr.mono (by decide)) T.m_Lthing T.d_Lthing.choose_spec.kp (ev_a (ax_cons (ex_var 1 rfl (ax_nil (kx_nil (bi hF fun v14 hv14 hF => ⟨rfl, ⟨rfl, rfl, ⟨a2, s9, v14, (fun w0 => (up M a2 w0)), rfl, rfl, fun _ => at0, hv14, ax_cons (ex_callX (fx_Lthing_1 T) Lets.no (fun h => nomatch h) (hr.mono (by decide)) T.m_Lthing T.d_Lthing.choose_spec.kp (ev_a (ax_cons (ex_var 1 rfl (ax_nil (kx_nil (bi hF fun v15 hv15 hF => ⟨rfl, ⟨rfl, rfl, ⟨a2, v14.2, v15, (fun w0 => (up M a2 w0)), rfl, rfl, fun _ => at0, hv15, ax_nil (⟨_, _, rfl, ?_⟩)⟩⟩⟩)))))))⟩⟩⟩)))))))) sc_law.nd)
    refine gx_seq (g1_for hpo rfl (bi hF fun v17 hv17 hF => bi hF fun l18 hl18 hF => ix_enumU (M2 := (up M a2 (.lst v15.2))) T.b_enumerate ((have hF := hv17; ax_cons (ex_callX (fx_Lmade_2 T) Lets.no (fun h => nomatch h) (hr.mono (by decide)) T.m_Lmade T.d_Lmade.choose_spec.kp (ev_a (ax_cons (ex_var 6 rfl (ax_cons (ex_var 7 rfl (ax_nil (kx_nil (bi hF fun v16 hv16 hF => ⟨rfl, ⟨rfl, rfl, ⟨_, _, v16, rfl, hv16, ax_nil (⟨by rw [so hF], rfl⟩)⟩⟩⟩))))))))))) hl18 (bi hF fun c22 hlc22 hOc22 => forC hlc22 (fun s19 ρ' M' => ∃ j0 : Option D, ∃ j1 : Option D, ∃ j2 : Option D, ρ' = [some x0, some (.adr a2), some p3.1, some p3.2, some v7, some x11, some v14.1, some v15.1, j0, j1, j2] ∧ M' = (up M a2 (.lst v15.2))) ⟨_, _, _, rfl, rfl⟩ ?_ ?_)))
    · rintro x21 s19 b23 hF hbb23 _ _ ⟨_, _, _, rfl, rfl⟩
      try dsimp only at hF
      refine bi hF fun p24 hp24 hF => as_eq (un2_eq hp24) (as_tup rfl rfl (asd_cons (as_name 8 (asd_cons (as_name 9 (asd_nil (?_)) sc_law.nd)) sc_law.nd)))
      refine gx_seq (g1_if (bi hF fun t40 ht40 hF => tx_fix t40 (up M a2 (.lst v15.2)) (have hF := ht40; tx_pw (wx_or (tx_cmp (ex_callX (fx_Lkinds_1 T) Lets.no (fun h => nomatch h) (hr.mono (by decide)) T.m_Lkinds T.d_Lkinds.choose_spec.kp (ev_a (ax_cons (ex_var 9 rfl (ax_nil (kx_nil (bi hF fun v27 hv27 hF => ⟨rfl, ⟨rfl, rfl, ⟨_, v27, rfl, hv27, ex_lc (own := [("_law_j", 10)]) (hN := sc_law.nd) rfl (bi hF fun l28 hl28 hF => ix_range1U (M2 := (up M a2 (.lst v15.2))) T.b_range (ax_cons (ex_int (ax_nil (⟨rfl, rfl⟩)))) hl28 (bi hF fun _ hz33 hF => bi hF fun y31 hy31 hF => lcF hy31 (chk_inv hz33).1 (fun x30 _ acc d32 hF hd32 => have ne_a2_d32 := (up_none hd32).1; have fb_d32 := (up_none hd32).2; asb_name 10 (fun _ _ _ _ _ => ex_cmp (ex_var 10 rfl (ex_var 8 rfl (bi hF fun t35 ht35 hF => od_cEq hr.units .id .id ht35 (⟨so hF, rfl⟩))))) (hN := sc_law.nd)) (bi hF fun t36 ht36 hF => od_cNe hr.units .id .id ht36 (⟨_, rfl, ⟨fun q26 => have hF := iF q26 hF; wx_or1 (tx_cmp (ex_callX (fx_Lbases_1 T) Lets.no (fun h => nomatch h) (hr.mono (by decide)) T.m_Lbases T.d_Lbases.choose_spec.kp (ev_a (ax_cons (ex_var 9 rfl (ax_nil (kx_nil (bi hF fun v37 hv37 hF => ⟨rfl, ⟨rfl, rfl, ⟨_, v37, rfl, hv37, ex_ix (ex_var 4 rfl (ex_var 8 rfl (bi hF fun v38 hv38 hF => id_dIx .id .id hv38 (bi hF fun t39 ht39 hF => od_cNe hr.units .id .id ht39 (⟨_, rfl, ⟨so hF, rfl⟩⟩)))))⟩⟩⟩)))))))), fun q26 => ⟨so (iT q26 hF), rfl⟩⟩⟩))))⟩⟩⟩)))))))))) (⟨fun q25 => ?_, fun q25 => ?_⟩)))
      · have hF := iT q25 hF
        exact gx_seq (g1_ret (ex_less (ex_bl (⟨_, (sub_drop sub_refl fb_a2), ret0 (so (ctl_retS hOc12 (hbb13 _ (so (ctl_retR hOc22 (hbb23 _ (so hF).symm))).symm))) hk⟩))))
      · have hF := iF q25 hF
        refine gx_nil ?_
        show GX _ _ _ _ _ _
        exact gx_nil ⟨_, (so hF).symm, ⟨_, _, _, rfl, rfl⟩⟩
    · rintro r20 hg _ _ ⟨_, _, _, rfl, rfl⟩
      have hF := ctl_go hOc22 hg
      try dsimp only at hF
      show GX _ _ _ _ _ _
      refine gx_seq (g1_if (bi hF fun t57 ht57 hF => tx_fix t57 (up M a2 (.lst v15.2)) (have hF := ht57; tx_pw (wx_or (tx_cmp (ex_blt T.b_repr bb_repr (ax_cons (ex_callX (fx_Lplaced_2 T) Lets.no (fun h => nomatch h) (hr.mono (by decide)) T.m_Lplaced T.d_Lplaced.choose_spec.kp (ev_a (ax_cons (ex_var 6 rfl (ax_cons (ex_var 7 rfl (ax_nil (kx_nil (bi hF fun v43 hv43 hF => ⟨rfl, ⟨rfl, rfl, ⟨_, _, v43, rfl, hv43, ax_nil (bi hF fun v44 hv44 hF => cd_dReprR T.sys hgd hr.units hv44 (ex_blt T.b_repr bb_repr (ax_cons (ex_bin (ex_bin (ex_lst (ax_cons (ex_var 6 rfl (ax_nil (⟨le_b rfl, ex_int (bi hF fun v45 hv45 hF => od_dMul .id .id hv45 (ex_bin (ex_lst (ax_cons (ex_var 7 rfl (ax_nil (⟨le_b rfl, ex_int (bi hF fun v46 hv46 hF => od_dMul .id .id hv46 (bi hF fun v47 hv47 hF => od_dAdd .id .id hv47 (ax_nil (bi hF fun v48 hv48 hF => cd_dReprR T.sys hgd hr.units hv48 (bi hF fun t49 ht49 hF => od_cNe hr.units .id .id ht49 (⟨_, rfl, ⟨fun q42 => have hF := iF q42 hF; wx_or1 (tx_cmp (ex_blt T.b_repr bb_repr (ax_cons (ex_callX (fx_Lnamed_2 T) Lets.no (fun h => nomatch h) (hr.mono (by decide)) T.m_Lnamed T.d_Lnamed.choose_spec.kp (ev_a (ax_cons (ex_var 6 rfl (ax_cons (ex_var 7 rfl (ax_nil (kx_nil (bi hF fun v50 hv50 hF => ⟨rfl, ⟨rfl, rfl, ⟨_, _, v50, rfl, hv50, ax_nil (bi hF fun v51 hv51 hF => cd_dReprR T.sys hgd hr.units hv51 (ex_blt T.b_repr bb_repr (ax_cons (ex_bin (ex_bin (ex_lst (ax_cons (ex_var 6 rfl (ax_nil (⟨le_b rfl, ex_int (bi hF fun v52 hv52 hF => od_dMul .id .id hv52 (ex_bin (ex_lst (ax_cons (ex_var 7 rfl (ax_nil (⟨le_b rfl, ex_int (bi hF fun v53 hv53 hF => od_dMul .id .id hv53 (bi hF fun v54 hv54 hF => od_dAdd .id .id hv54 (ax_nil (bi hF fun v55 hv55 hF => cd_dReprR T.sys hgd hr.units hv55 (bi hF fun t56 ht56 hF => od_cNe hr.units .id .id ht56 (⟨_, rfl, ⟨so hF, rfl⟩⟩))))))⟩)))))))⟩))))))))))⟩⟩⟩)))))))))))), fun q42 => ⟨so (iT q42 hF), rfl⟩⟩⟩))))))⟩)))))))⟩))))))))))⟩⟩⟩)))))))))))))) (⟨fun q41 => ?_, fun q41 => ?_⟩)))
      · have hF := iT q41 hF
        exact gx_seq (g1_ret (ex_less (ex_bl (⟨_, (sub_drop sub_refl fb_a2), ret0 (so (ctl_retS hOc12 (hbb13 _ (so hF).symm))) hk⟩))))
      · have hF := iF q41 hF
        refine gx_nil ?_
        show GX _ _ _ _ _ _
        exact gx_nil ⟨_, (so hF).symm, ⟨_, _, _, _, _, _, rfl, rfl⟩⟩
  · rintro r10 hg _ _ ⟨_, _, _, _, _, _, rfl, rfl⟩
    have hF := ctl_go hOc12 hg
    try dsimp only at hF
    show GX _ _ _ _ _ _
    exact gx_seq (g1_ret (ex_less (ex_bl (⟨_, (sub_drop sub_refl fb_a2), ret0 (so hF) hk⟩))))
theorem fx_law_1 {pg : Program} {w : World} {K : PySem.W.Frag} {mg : Str → Option Value} {base : Heap} (T : Txt K mg base) : FnX pg w K mg base true 7 (He.fAd K ("law", none)) ([] : List PySem.Str) (fun ds zs M P R => ds.length = 1 ∧ zs.length = ([] : List PySem.Str).length ∧ tr_law K (pick (ds ++ ([] ++ zs)) [0]) M P R) :=
  fn_kwX T.d_law.choose_spec sc_law (ok_law T) 1 ([] : List PySem.Str) [] [] [0] (by simp) (fun _ => .nil) (fun kV D doc pm an cdv ct us mv ws e h1 h2 h3 => match us, mv, ws, h1, h2, h3 with | [_], [], [], _, _, _ => rfl) (fun us mv ws h1 h2 h3 => match us, mv, ws, h1, h2, h3 with | [_], [], [], _, _, _ => rfl)
theorem law_start {K : PySem.W.Frag} {H : Hp} {a : Addr} {ns : List Int} (hz : Hz (Zk K)) (hl : ns.length ≤ 63) (h1 : tbOne K tl = true) (hS : SqL K H a (ns.map V.int)) (hT : ∀ x ∈ tl, H (ctA K x.1).2 = some (.tbl #[])) : ∃ F M ds, Ok K F M H ∧ Rps K F [.ref a] ds ∧ ∃ ns, ds = [.scr ns] ∧ TbM K tl M ∧ F_law (Zk K) (.scr ns) = some (.bl true) ∧ ∀ M', (fun (d : D) (_ : Mem) => d = .bl true) (.bl true) M' :=
  DX.law_startT (T := fun ds zs M P R => ∃ ns, ds = [.scr ns] ∧ TbM K tl M ∧ F_law (Zk K) (.scr ns) = some (.bl true) ∧ ∀ M', P (.bl true) M') h1 hS hT fun M tm => ⟨ns, rfl, tm, law_true (Zk K) hz ns, fun _ => rfl⟩
theorem txt {K : PySem.W.Frag} {h : Heap} {mg : Str → Option Value} (X : K.In h) (G : h.Ns mainGlobals mg) (c : He.SaysD fa fn K) (xq : exq K = true) (cc : DX.SaysP fa fn pr exq K) : Txt0 K mg :=
  ⟨c.def_ 0 (d := dd_Lbegin) rfl,
    He.glo_ok X G (c.fact 0 (f := .glo "_law_begin") rfl),
    c.def_ 1 (d := dd_Ltake) rfl,
    He.glo_ok X G (c.fact 1 (f := .glo "_law_take") rfl),
    c.def_ 2 (d := dd_Lthing) rfl,
    He.glo_ok X G (c.fact 2 (f := .glo "_law_thing") rfl),
    c.def_ 3 (d := dd_Lmade) rfl,
    He.glo_ok X G (c.fact 3 (f := .glo "_law_made") rfl),
    c.def_ 4 (d := dd_Lkinds) rfl,
    He.glo_ok X G (c.fact 4 (f := .glo "_law_kinds") rfl),
    c.def_ 5 (d := dd_Lbases) rfl,
    He.glo_ok X G (c.fact 5 (f := .glo "_law_bases") rfl),
    c.def_ 6 (d := dd_Lplaced) rfl,
    He.glo_ok X G (c.fact 6 (f := .glo "_law_placed") rfl),
    c.def_ 7 (d := dd_Lnamed) rfl,
    He.glo_ok X G (c.fact 7 (f := .glo "_law_named") rfl),
    c.def_ 8 (d := dd_law) rfl,
    He.glo_ok X G (c.fact 8 (f := .glo "law") rfl),
    c.def_ 9 (d := dd_InvalidSize___init__) rfl,
    c.def_ 10 (d := dd_InvalidNumber___init__) rfl,
    c.def_ 11 (d := dd_InvalidTrial___init__) rfl,
    c.def_ 12 (d := dd_InvalidPosition___init__) rfl,
    c.def_ 13 (d := dd_InvalidCells___init__) rfl,
    c.def_ 14 (d := dd_InvalidOutputs___init__) rfl,
    c.def_ 15 (d := dd_InvalidStuck___init__) rfl,
    c.def_ 16 (d := dd_InvalidRow___init__) rfl,
    c.def_ 17 (d := dd_InvalidCarry___init__) rfl,
    c.def_ 18 (d := dd_InvalidWire___init__) rfl,
    c.def_ 19 (d := dd_InvalidFault___init__) rfl,
    c.def_ 20 (d := dd_InvalidEdit___init__) rfl,
    c.def_ 21 (d := dd_InvalidText___init__) rfl,
    c.def_ 22 (d := dd_UnknownCommand___init__) rfl,
    c.def_ 23 (d := dd_NotAlike___init__) rfl,
    c.def_ 24 (d := dd_InUse___init__) rfl,
    c.def_ 25 (d := dd_NoNode___init__) rfl,
    c.def_ 26 (d := dd_NoCell___init__) rfl,
    c.def_ 27 (d := dd_NoOutput___init__) rfl,
    c.def_ 28 (d := dd_NoPlace___init__) rfl,
    c.def_ 29 (d := dd_NoTrial___init__) rfl,
    c.def_ 30 (d := dd_NoMark___init__) rfl,
    c.def_ 31 (d := dd_TooMany___init__) rfl,
    errB_ok ((Bool.and_eq_true_iff.mp (Bool.and_eq_true_iff.mp (Bool.and_eq_true_iff.mp (Bool.and_eq_true_iff.mp (Bool.and_eq_true_iff.mp (Bool.and_eq_true_iff.mp (Bool.and_eq_true_iff.mp (Bool.and_eq_true_iff.mp (Bool.and_eq_true_iff.mp (Bool.and_eq_true_iff.mp (Bool.and_eq_true_iff.mp (Bool.and_eq_true_iff.mp (Bool.and_eq_true_iff.mp (Bool.and_eq_true_iff.mp (Bool.and_eq_true_iff.mp (Bool.and_eq_true_iff.mp (Bool.and_eq_true_iff.mp (Bool.and_eq_true_iff.mp (Bool.and_eq_true_iff.mp (Bool.and_eq_true_iff.mp (Bool.and_eq_true_iff.mp (Bool.and_eq_true_iff.mp (Bool.and_eq_true_iff.mp (Bool.and_eq_true_iff.mp (Bool.and_eq_true_iff.mp (Bool.and_eq_true_iff.mp (Bool.and_eq_true_iff.mp (Bool.and_eq_true_iff.mp (Bool.and_eq_true_iff.mp (Bool.and_eq_true_iff.mp (Bool.and_eq_true_iff.mp (Bool.and_eq_true_iff.mp (Bool.and_eq_true_iff.mp (Bool.and_eq_true_iff.mp (Bool.and_eq_true_iff.mp (Bool.and_eq_true_iff.mp (Bool.and_eq_true_iff.mp (Bool.and_eq_true_iff.mp (Bool.and_eq_true_iff.mp (Bool.and_eq_true_iff.mp (Bool.and_eq_true_iff.mp (Bool.and_eq_true_iff.mp (Bool.and_eq_true_iff.mp (Bool.and_eq_true_iff.mp (Bool.and_eq_true_iff.mp (Bool.and_eq_true_iff.mp (Bool.and_eq_true_iff.mp (Bool.and_eq_true_iff.mp (Bool.and_eq_true_iff.mp (Bool.and_eq_true_iff.mp (Bool.and_eq_true_iff.mp (Bool.and_eq_true_iff.mp (Bool.and_eq_true_iff.mp (Bool.and_eq_true_iff.mp (Bool.and_eq_true_iff.mp (Bool.and_eq_true_iff.mp (Bool.and_eq_true_iff.mp (Bool.and_eq_true_iff.mp (Bool.and_eq_true_iff.mp (Bool.and_eq_true_iff.mp (Bool.and_eq_true_iff.mp (Bool.and_eq_true_iff.mp (Bool.and_eq_true_iff.mp (Bool.and_eq_true_iff.mp (Bool.and_eq_true_iff.mp (Bool.and_eq_true_iff.mp (Bool.and_eq_true_iff.mp (Bool.and_eq_true_iff.mp (Bool.and_eq_true_iff.mp (Bool.and_eq_true_iff.mp (Bool.and_eq_true_iff.mp (Bool.and_eq_true_iff.mp (Bool.and_eq_true_iff.mp (Bool.and_eq_true_iff.mp (Bool.and_eq_true_iff.mp (Bool.and_eq_true_iff.mp (Bool.and_eq_true_iff.mp (Bool.and_eq_true_iff.mp (Bool.and_eq_true_iff.mp (Bool.and_eq_true_iff.mp (Bool.and_eq_true_iff.mp (Bool.and_eq_true_iff.mp (Bool.and_eq_true_iff.mp (Bool.and_eq_true_iff.mp (Bool.and_eq_true_iff.mp (Bool.and_eq_true_iff.mp (Bool.and_eq_true_iff.mp (Bool.and_eq_true_iff.mp (Bool.and_eq_true_iff.mp (Bool.and_eq_true_iff.mp (Bool.and_eq_true_iff.mp (Bool.and_eq_true_iff.mp (Bool.and_eq_true_iff.mp (Bool.and_eq_true_iff.mp (Bool.and_eq_true_iff.mp (Bool.and_eq_true_iff.mp (Bool.and_eq_true_iff.mp (Bool.and_eq_true_iff.mp (Bool.and_eq_true_iff.mp (Bool.and_eq_true_iff.mp (Bool.and_eq_true_iff.mp (Bool.and_eq_true_iff.mp (Bool.and_eq_true_iff.mp (Bool.and_eq_true_iff.mp (Bool.and_eq_true_iff.mp (Bool.and_eq_true_iff.mp (Bool.and_eq_true_iff.mp (Bool.and_eq_true_iff.mp (Bool.and_eq_true_iff.mp (Bool.and_eq_true_iff.mp (Bool.and_eq_true_iff.mp (Bool.and_eq_true_iff.mp (Bool.and_eq_true_iff.mp (Bool.and_eq_true_iff.mp (Bool.and_eq_true_iff.mp (Bool.and_eq_true_iff.mp (Bool.and_eq_true_iff.mp (Bool.and_eq_true_iff.mp (Bool.and_eq_true_iff.mp (Bool.and_eq_true_iff.mp (Bool.and_eq_true_iff.mp (Bool.and_eq_true_iff.mp (Bool.and_eq_true_iff.mp (Bool.and_eq_true_iff.mp (Bool.and_eq_true_iff.mp (Bool.and_eq_true_iff.mp (Bool.and_eq_true_iff.mp (Bool.and_eq_true_iff.mp (Bool.and_eq_true_iff.mp (Bool.and_eq_true_iff.mp (Bool.and_eq_true_iff.mp (Bool.and_eq_true_iff.mp (Bool.and_eq_true_iff.mp (Bool.and_eq_true_iff.mp (Bool.and_eq_true_iff.mp (Bool.and_eq_true_iff.mp (Bool.and_eq_true_iff.mp xq).1).1).1).1).1).1).1).1).1).1).1).1).1).1).1).1).1).1).1).1).1).1).1).1).1).1).1).1).1).1).1).1).1).1).1).1).1).1).1).1).1).1).1).1).1).1).1).1).1).1).1).1).1).1).1).1).1).1).1).1).1).1).1).1).1).1).1).1).1).1).1).1).1).1).1).1).1).1).1).1).1).1).1).1).1).1).1).1).1).1).1).1).1).1).1).1).1).1).1).1).1).1).1).1).1).1).1).1).1).1).1).1).1).1).1).1).1).1).1).1).1).1).1).1).1).1).1).1).1).1).1).1).1).1).1).1).1),
    He.eqO_ok ((Bool.and_eq_true_iff.mp (Bool.and_eq_true_iff.mp (Bool.and_eq_true_iff.mp (Bool.and_eq_true_iff.mp (Bool.and_eq_true_iff.mp (Bool.and_eq_true_iff.mp (Bool.and_eq_true_iff.mp (Bool.and_eq_true_iff.mp (Bool.and_eq_true_iff.mp (Bool.and_eq_true_iff.mp (Bool.and_eq_true_iff.mp (Bool.and_eq_true_iff.mp (Bool.and_eq_true_iff.mp (Bool.and_eq_true_iff.mp (Bool.and_eq_true_iff.mp (Bool.and_eq_true_iff.mp (Bool.and_eq_true_iff.mp (Bool.and_eq_true_iff.mp (Bool.and_eq_true_iff.mp (Bool.and_eq_true_iff.mp (Bool.and_eq_true_iff.mp (Bool.and_eq_true_iff.mp (Bool.and_eq_true_iff.mp (Bool.and_eq_true_iff.mp (Bool.and_eq_true_iff.mp (Bool.and_eq_true_iff.mp (Bool.and_eq_true_iff.mp (Bool.and_eq_true_iff.mp (Bool.and_eq_true_iff.mp (Bool.and_eq_true_iff.mp (Bool.and_eq_true_iff.mp (Bool.and_eq_true_iff.mp (Bool.and_eq_true_iff.mp (Bool.and_eq_true_iff.mp (Bool.and_eq_true_iff.mp (Bool.and_eq_true_iff.mp (Bool.and_eq_true_iff.mp (Bool.and_eq_true_iff.mp (Bool.and_eq_true_iff.mp (Bool.and_eq_true_iff.mp (Bool.and_eq_true_iff.mp (Bool.and_eq_true_iff.mp (Bool.and_eq_true_iff.mp (Bool.and_eq_true_iff.mp (Bool.and_eq_true_iff.mp (Bool.and_eq_true_iff.mp (Bool.and_eq_true_iff.mp (Bool.and_eq_true_iff.mp (Bool.and_eq_true_iff.mp (Bool.and_eq_true_iff.mp (Bool.and_eq_true_iff.mp (Bool.and_eq_true_iff.mp (Bool.and_eq_true_iff.mp (Bool.and_eq_true_iff.mp (Bool.and_eq_true_iff.mp (Bool.and_eq_true_iff.mp (Bool.and_eq_true_iff.mp (Bool.and_eq_true_iff.mp (Bool.and_eq_true_iff.mp (Bool.and_eq_true_iff.mp (Bool.and_eq_true_iff.mp (Bool.and_eq_true_iff.mp (Bool.and_eq_true_iff.mp (Bool.and_eq_true_iff.mp (Bool.and_eq_true_iff.mp (Bool.and_eq_true_iff.mp (Bool.and_eq_true_iff.mp (Bool.and_eq_true_iff.mp (Bool.and_eq_true_iff.mp (Bool.and_eq_true_iff.mp (Bool.and_eq_true_iff.mp (Bool.and_eq_true_iff.mp (Bool.and_eq_true_iff.mp (Bool.and_eq_true_iff.mp (Bool.and_eq_true_iff.mp (Bool.and_eq_true_iff.mp (Bool.and_eq_true_iff.mp (Bool.and_eq_true_iff.mp (Bool.and_eq_true_iff.mp (Bool.and_eq_true_iff.mp (Bool.and_eq_true_iff.mp (Bool.and_eq_true_iff.mp (Bool.and_eq_true_iff.mp (Bool.and_eq_true_iff.mp (Bool.and_eq_true_iff.mp (Bool.and_eq_true_iff.mp (Bool.and_eq_true_iff.mp (Bool.and_eq_true_iff.mp (Bool.and_eq_true_iff.mp (Bool.and_eq_true_iff.mp (Bool.and_eq_true_iff.mp (Bool.and_eq_true_iff.mp (Bool.and_eq_true_iff.mp (Bool.and_eq_true_iff.mp (Bool.and_eq_true_iff.mp (Bool.and_eq_true_iff.mp (Bool.and_eq_true_iff.mp (Bool.and_eq_true_iff.mp (Bool.and_eq_true_iff.mp (Bool.and_eq_true_iff.mp (Bool.and_eq_true_iff.mp (Bool.and_eq_true_iff.mp (Bool.and_eq_true_iff.mp (Bool.and_eq_true_iff.mp (Bool.and_eq_true_iff.mp (Bool.and_eq_true_iff.mp (Bool.and_eq_true_iff.mp (Bool.and_eq_true_iff.mp (Bool.and_eq_true_iff.mp (Bool.and_eq_true_iff.mp (Bool.and_eq_true_iff.mp (Bool.and_eq_true_iff.mp (Bool.and_eq_true_iff.mp (Bool.and_eq_true_iff.mp (Bool.and_eq_true_iff.mp (Bool.and_eq_true_iff.mp (Bool.and_eq_true_iff.mp (Bool.and_eq_true_iff.mp (Bool.and_eq_true_iff.mp (Bool.and_eq_true_iff.mp (Bool.and_eq_true_iff.mp (Bool.and_eq_true_iff.mp (Bool.and_eq_true_iff.mp (Bool.and_eq_true_iff.mp (Bool.and_eq_true_iff.mp (Bool.and_eq_true_iff.mp (Bool.and_eq_true_iff.mp (Bool.and_eq_true_iff.mp (Bool.and_eq_true_iff.mp (Bool.and_eq_true_iff.mp (Bool.and_eq_true_iff.mp (Bool.and_eq_true_iff.mp (Bool.and_eq_true_iff.mp (Bool.and_eq_true_iff.mp (Bool.and_eq_true_iff.mp (Bool.and_eq_true_iff.mp (Bool.and_eq_true_iff.mp xq).1).1).1).1).1).1).1).1).1).1).1).1).1).1).1).1).1).1).1).1).1).1).1).1).1).1).1).1).1).1).1).1).1).1).1).1).1).1).1).1).1).1).1).1).1).1).1).1).1).1).1).1).1).1).1).1).1).1).1).1).1).1).1).1).1).1).1).1).1).1).1).1).1).1).1).1).1).1).1).1).1).1).1).1).1).1).1).1).1).1).1).1).1).1).1).1).1).1).1).1).1).1).1).1).1).1).1).1).1).1).1).1).1).1).1).1).1).1).1).1).1).1).1).1).1).1).1).1).1).1).1).1).1).1).1).1).2),
    errB_ok ((Bool.and_eq_true_iff.mp (Bool.and_eq_true_iff.mp (Bool.and_eq_true_iff.mp (Bool.and_eq_true_iff.mp (Bool.and_eq_true_iff.mp (Bool.and_eq_true_iff.mp (Bool.and_eq_true_iff.mp (Bool.and_eq_true_iff.mp (Bool.and_eq_true_iff.mp (Bool.and_eq_true_iff.mp (Bool.and_eq_true_iff.mp (Bool.and_eq_true_iff.mp (Bool.and_eq_true_iff.mp (Bool.and_eq_true_iff.mp (Bool.and_eq_true_iff.mp (Bool.and_eq_true_iff.mp (Bool.and_eq_true_iff.mp (Bool.and_eq_true_iff.mp (Bool.and_eq_true_iff.mp (Bool.and_eq_true_iff.mp (Bool.and_eq_true_iff.mp (Bool.and_eq_true_iff.mp (Bool.and_eq_true_iff.mp (Bool.and_eq_true_iff.mp (Bool.and_eq_true_iff.mp (Bool.and_eq_true_iff.mp (Bool.and_eq_true_iff.mp (Bool.and_eq_true_iff.mp (Bool.and_eq_true_iff.mp (Bool.and_eq_true_iff.mp (Bool.and_eq_true_iff.mp (Bool.and_eq_true_iff.mp (Bool.and_eq_true_iff.mp (Bool.and_eq_true_iff.mp (Bool.and_eq_true_iff.mp (Bool.and_eq_true_iff.mp (Bool.and_eq_true_iff.mp (Bool.and_eq_true_iff.mp (Bool.and_eq_true_iff.mp (Bool.and_eq_true_iff.mp (Bool.and_eq_true_iff.mp (Bool.and_eq_true_iff.mp (Bool.and_eq_true_iff.mp (Bool.and_eq_true_iff.mp (Bool.and_eq_true_iff.mp (Bool.and_eq_true_iff.mp (Bool.and_eq_true_iff.mp (Bool.and_eq_true_iff.mp (Bool.and_eq_true_iff.mp (Bool.and_eq_true_iff.mp (Bool.and_eq_true_iff.mp (Bool.and_eq_true_iff.mp (Bool.and_eq_true_iff.mp (Bool.and_eq_true_iff.mp (Bool.and_eq_true_iff.mp (Bool.and_eq_true_iff.mp (Bool.and_eq_true_iff.mp (Bool.and_eq_true_iff.mp (Bool.and_eq_true_iff.mp (Bool.and_eq_true_iff.mp (Bool.and_eq_true_iff.mp (Bool.and_eq_true_iff.mp (Bool.and_eq_true_iff.mp (Bool.and_eq_true_iff.mp (Bool.and_eq_true_iff.mp (Bool.and_eq_true_iff.mp (Bool.and_eq_true_iff.mp (Bool.and_eq_true_iff.mp (Bool.and_eq_true_iff.mp (Bool.and_eq_true_iff.mp (Bool.and_eq_true_iff.mp (Bool.and_eq_true_iff.mp (Bool.and_eq_true_iff.mp (Bool.and_eq_true_iff.mp (Bool.and_eq_true_iff.mp (Bool.and_eq_true_iff.mp (Bool.and_eq_true_iff.mp (Bool.and_eq_true_iff.mp (Bool.and_eq_true_iff.mp (Bool.and_eq_true_iff.mp (Bool.and_eq_true_iff.mp (Bool.and_eq_true_iff.mp (Bool.and_eq_true_iff.mp (Bool.and_eq_true_iff.mp (Bool.and_eq_true_iff.mp (Bool.and_eq_true_iff.mp (Bool.and_eq_true_iff.mp (Bool.and_eq_true_iff.mp (Bool.and_eq_true_iff.mp (Bool.and_eq_true_iff.mp (Bool.and_eq_true_iff.mp (Bool.and_eq_true_iff.mp (Bool.and_eq_true_iff.mp (Bool.and_eq_true_iff.mp (Bool.and_eq_true_iff.mp (Bool.and_eq_true_iff.mp (Bool.and_eq_true_iff.mp (Bool.and_eq_true_iff.mp (Bool.and_eq_true_iff.mp (Bool.and_eq_true_iff.mp (Bool.and_eq_true_iff.mp (Bool.and_eq_true_iff.mp (Bool.and_eq_true_iff.mp (Bool.and_eq_true_iff.mp (Bool.and_eq_true_iff.mp (Bool.and_eq_true_iff.mp (Bool.and_eq_true_iff.mp (Bool.and_eq_true_iff.mp (Bool.and_eq_true_iff.mp (Bool.and_eq_true_iff.mp (Bool.and_eq_true_iff.mp (Bool.and_eq_true_iff.mp (Bool.and_eq_true_iff.mp (Bool.and_eq_true_iff.mp (Bool.and_eq_true_iff.mp (Bool.and_eq_true_iff.mp (Bool.and_eq_true_iff.mp (Bool.and_eq_true_iff.mp (Bool.and_eq_true_iff.mp (Bool.and_eq_true_iff.mp (Bool.and_eq_true_iff.mp (Bool.and_eq_true_iff.mp (Bool.and_eq_true_iff.mp (Bool.and_eq_true_iff.mp (Bool.and_eq_true_iff.mp (Bool.and_eq_true_iff.mp (Bool.and_eq_true_iff.mp (Bool.and_eq_true_iff.mp (Bool.and_eq_true_iff.mp (Bool.and_eq_true_iff.mp (Bool.and_eq_true_iff.mp (Bool.and_eq_true_iff.mp (Bool.and_eq_true_iff.mp (Bool.and_eq_true_iff.mp (Bool.and_eq_true_iff.mp (Bool.and_eq_true_iff.mp xq).1).1).1).1).1).1).1).1).1).1).1).1).1).1).1).1).1).1).1).1).1).1).1).1).1).1).1).1).1).1).1).1).1).1).1).1).1).1).1).1).1).1).1).1).1).1).1).1).1).1).1).1).1).1).1).1).1).1).1).1).1).1).1).1).1).1).1).1).1).1).1).1).1).1).1).1).1).1).1).1).1).1).1).1).1).1).1).1).1).1).1).1).1).1).1).1).1).1).1).1).1).1).1).1).1).1).1).1).1).1).1).1).1).1).1).1).1).1).1).1).1).1).1).1).1).1).1).1).1).1).1).1).1).1).1).2),
    He.eqO_ok ((Bool.and_eq_true_iff.mp (Bool.and_eq_true_iff.mp (Bool.and_eq_true_iff.mp (Bool.and_eq_true_iff.mp (Bool.and_eq_true_iff.mp (Bool.and_eq_true_iff.mp (Bool.and_eq_true_iff.mp (Bool.and_eq_true_iff.mp (Bool.and_eq_true_iff.mp (Bool.and_eq_true_iff.mp (Bool.and_eq_true_iff.mp (Bool.and_eq_true_iff.mp (Bool.and_eq_true_iff.mp (Bool.and_eq_true_iff.mp (Bool.and_eq_true_iff.mp (Bool.and_eq_true_iff.mp (Bool.and_eq_true_iff.mp (Bool.and_eq_true_iff.mp (Bool.and_eq_true_iff.mp (Bool.and_eq_true_iff.mp (Bool.and_eq_true_iff.mp (Bool.and_eq_true_iff.mp (Bool.and_eq_true_iff.mp (Bool.and_eq_true_iff.mp (Bool.and_eq_true_iff.mp (Bool.and_eq_true_iff.mp (Bool.and_eq_true_iff.mp (Bool.and_eq_true_iff.mp (Bool.and_eq_true_iff.mp (Bool.and_eq_true_iff.mp (Bool.and_eq_true_iff.mp (Bool.and_eq_true_iff.mp (Bool.and_eq_true_iff.mp (Bool.and_eq_true_iff.mp (Bool.and_eq_true_iff.mp (Bool.and_eq_true_iff.mp (Bool.and_eq_true_iff.mp (Bool.and_eq_true_iff.mp (Bool.and_eq_true_iff.mp (Bool.and_eq_true_iff.mp (Bool.and_eq_true_iff.mp (Bool.and_eq_true_iff.mp (Bool.and_eq_true_iff.mp (Bool.and_eq_true_iff.mp (Bool.and_eq_true_iff.mp (Bool.and_eq_true_iff.mp (Bool.and_eq_true_iff.mp (Bool.and_eq_true_iff.mp (Bool.and_eq_true_iff.mp (Bool.and_eq_true_iff.mp (Bool.and_eq_true_iff.mp (Bool.and_eq_true_iff.mp (Bool.and_eq_true_iff.mp (Bool.and_eq_true_iff.mp (Bool.and_eq_true_iff.mp (Bool.and_eq_true_iff.mp (Bool.and_eq_true_iff.mp (Bool.and_eq_true_iff.mp (Bool.and_eq_true_iff.mp (Bool.and_eq_true_iff.mp (Bool.and_eq_true_iff.mp (Bool.and_eq_true_iff.mp (Bool.and_eq_true_iff.mp (Bool.and_eq_true_iff.mp (Bool.and_eq_true_iff.mp (Bool.and_eq_true_iff.mp (Bool.and_eq_true_iff.mp (Bool.and_eq_true_iff.mp (Bool.and_eq_true_iff.mp (Bool.and_eq_true_iff.mp (Bool.and_eq_true_iff.mp (Bool.and_eq_true_iff.mp (Bool.and_eq_true_iff.mp (Bool.and_eq_true_iff.mp (Bool.and_eq_true_iff.mp (Bool.and_eq_true_iff.mp (Bool.and_eq_true_iff.mp (Bool.and_eq_true_iff.mp (Bool.and_eq_true_iff.mp (Bool.and_eq_true_iff.mp (Bool.and_eq_true_iff.mp (Bool.and_eq_true_iff.mp (Bool.and_eq_true_iff.mp (Bool.and_eq_true_iff.mp (Bool.and_eq_true_iff.mp (Bool.and_eq_true_iff.mp (Bool.and_eq_true_iff.mp (Bool.and_eq_true_iff.mp (Bool.and_eq_true_iff.mp (Bool.and_eq_true_iff.mp (Bool.and_eq_true_iff.mp (Bool.and_eq_true_iff.mp (Bool.and_eq_true_iff.mp (Bool.and_eq_true_iff.mp (Bool.and_eq_true_iff.mp (Bool.and_eq_true_iff.mp (Bool.and_eq_true_iff.mp (Bool.and_eq_true_iff.mp (Bool.and_eq_true_iff.mp (Bool.and_eq_true_iff.mp (Bool.and_eq_true_iff.mp (Bool.and_eq_true_iff.mp (Bool.and_eq_true_iff.mp (Bool.and_eq_true_iff.mp (Bool.and_eq_true_iff.mp (Bool.and_eq_true_iff.mp (Bool.and_eq_true_iff.mp (Bool.and_eq_true_iff.mp (Bool.and_eq_true_iff.mp (Bool.and_eq_true_iff.mp (Bool.and_eq_true_iff.mp (Bool.and_eq_true_iff.mp (Bool.and_eq_true_iff.mp (Bool.and_eq_true_iff.mp (Bool.and_eq_true_iff.mp (Bool.and_eq_true_iff.mp (Bool.and_eq_true_iff.mp (Bool.and_eq_true_iff.mp (Bool.and_eq_true_iff.mp (Bool.and_eq_true_iff.mp (Bool.and_eq_true_iff.mp (Bool.and_eq_true_iff.mp (Bool.and_eq_true_iff.mp (Bool.and_eq_true_iff.mp (Bool.and_eq_true_iff.mp (Bool.and_eq_true_iff.mp (Bool.and_eq_true_iff.mp (Bool.and_eq_true_iff.mp (Bool.and_eq_true_iff.mp (Bool.and_eq_true_iff.mp (Bool.and_eq_true_iff.mp (Bool.and_eq_true_iff.mp (Bool.and_eq_true_iff.mp (Bool.and_eq_true_iff.mp (Bool.and_eq_true_iff.mp xq).1).1).1).1).1).1).1).1).1).1).1).1).1).1).1).1).1).1).1).1).1).1).1).1).1).1).1).1).1).1).1).1).1).1).1).1).1).1).1).1).1).1).1).1).1).1).1).1).1).1).1).1).1).1).1).1).1).1).1).1).1).1).1).1).1).1).1).1).1).1).1).1).1).1).1).1).1).1).1).1).1).1).1).1).1).1).1).1).1).1).1).1).1).1).1).1).1).1).1).1).1).1).1).1).1).1).1).1).1).1).1).1).1).1).1).1).1).1).1).1).1).1).1).1).1).1).1).1).1).1).1).1).1).1).2),
    errB_ok ((Bool.and_eq_true_iff.mp (Bool.and_eq_true_iff.mp (Bool.and_eq_true_iff.mp (Bool.and_eq_true_iff.mp (Bool.and_eq_true_iff.mp (Bool.and_eq_true_iff.mp (Bool.and_eq_true_iff.mp (Bool.and_eq_true_iff.mp (Bool.and_eq_true_iff.mp (Bool.and_eq_true_iff.mp (Bool.and_eq_true_iff.mp (Bool.and_eq_true_iff.mp (Bool.and_eq_true_iff.mp (Bool.and_eq_true_iff.mp (Bool.and_eq_true_iff.mp (Bool.and_eq_true_iff.mp (Bool.and_eq_true_iff.mp (Bool.and_eq_true_iff.mp (Bool.and_eq_true_iff.mp (Bool.and_eq_true_iff.mp (Bool.and_eq_true_iff.mp (Bool.and_eq_true_iff.mp (Bool.and_eq_true_iff.mp (Bool.and_eq_true_iff.mp (Bool.and_eq_true_iff.mp (Bool.and_eq_true_iff.mp (Bool.and_eq_true_iff.mp (Bool.and_eq_true_iff.mp (Bool.and_eq_true_iff.mp (Bool.and_eq_true_iff.mp (Bool.and_eq_true_iff.mp (Bool.and_eq_true_iff.mp (Bool.and_eq_true_iff.mp (Bool.and_eq_true_iff.mp (Bool.and_eq_true_iff.mp (Bool.and_eq_true_iff.mp (Bool.and_eq_true_iff.mp (Bool.and_eq_true_iff.mp (Bool.and_eq_true_iff.mp (Bool.and_eq_true_iff.mp (Bool.and_eq_true_iff.mp (Bool.and_eq_true_iff.mp (Bool.and_eq_true_iff.mp (Bool.and_eq_true_iff.mp (Bool.and_eq_true_iff.mp (Bool.and_eq_true_iff.mp (Bool.and_eq_true_iff.mp (Bool.and_eq_true_iff.mp (Bool.and_eq_true_iff.mp (Bool.and_eq_true_iff.mp (Bool.and_eq_true_iff.mp (Bool.and_eq_true_iff.mp (Bool.and_eq_true_iff.mp (Bool.and_eq_true_iff.mp (Bool.and_eq_true_iff.mp (Bool.and_eq_true_iff.mp (Bool.and_eq_true_iff.mp (Bool.and_eq_true_iff.mp (Bool.and_eq_true_iff.mp (Bool.and_eq_true_iff.mp (Bool.and_eq_true_iff.mp (Bool.and_eq_true_iff.mp (Bool.and_eq_true_iff.mp (Bool.and_eq_true_iff.mp (Bool.and_eq_true_iff.mp (Bool.and_eq_true_iff.mp (Bool.and_eq_true_iff.mp (Bool.and_eq_true_iff.mp (Bool.and_eq_true_iff.mp (Bool.and_eq_true_iff.mp (Bool.and_eq_true_iff.mp (Bool.and_eq_true_iff.mp (Bool.and_eq_true_iff.mp (Bool.and_eq_true_iff.mp (Bool.and_eq_true_iff.mp (Bool.and_eq_true_iff.mp (Bool.and_eq_true_iff.mp (Bool.and_eq_true_iff.mp (Bool.and_eq_true_iff.mp (Bool.and_eq_true_iff.mp (Bool.and_eq_true_iff.mp (Bool.and_eq_true_iff.mp (Bool.and_eq_true_iff.mp (Bool.and_eq_true_iff.mp (Bool.and_eq_true_iff.mp (Bool.and_eq_true_iff.mp (Bool.and_eq_true_iff.mp (Bool.and_eq_true_iff.mp (Bool.and_eq_true_iff.mp (Bool.and_eq_true_iff.mp (Bool.and_eq_true_iff.mp (Bool.and_eq_true_iff.mp (Bool.and_eq_true_iff.mp (Bool.and_eq_true_iff.mp (Bool.and_eq_true_iff.mp (Bool.and_eq_true_iff.mp (Bool.and_eq_true_iff.mp (Bool.and_eq_true_iff.mp (Bool.and_eq_true_iff.mp (Bool.and_eq_true_iff.mp (Bool.and_eq_true_iff.mp (Bool.and_eq_true_iff.mp (Bool.and_eq_true_iff.mp (Bool.and_eq_true_iff.mp (Bool.and_eq_true_iff.mp (Bool.and_eq_true_iff.mp (Bool.and_eq_true_iff.mp (Bool.and_eq_true_iff.mp (Bool.and_eq_true_iff.mp (Bool.and_eq_true_iff.mp (Bool.and_eq_true_iff.mp (Bool.and_eq_true_iff.mp (Bool.and_eq_true_iff.mp (Bool.and_eq_true_iff.mp (Bool.and_eq_true_iff.mp (Bool.and_eq_true_iff.mp (Bool.and_eq_true_iff.mp (Bool.and_eq_true_iff.mp (Bool.and_eq_true_iff.mp (Bool.and_eq_true_iff.mp (Bool.and_eq_true_iff.mp (Bool.and_eq_true_iff.mp (Bool.and_eq_true_iff.mp (Bool.and_eq_true_iff.mp (Bool.and_eq_true_iff.mp (Bool.and_eq_true_iff.mp (Bool.and_eq_true_iff.mp (Bool.and_eq_true_iff.mp (Bool.and_eq_true_iff.mp (Bool.and_eq_true_iff.mp (Bool.and_eq_true_iff.mp (Bool.and_eq_true_iff.mp (Bool.and_eq_true_iff.mp (Bool.and_eq_true_iff.mp xq).1).1).1).1).1).1).1).1).1).1).1).1).1).1).1).1).1).1).1).1).1).1).1).1).1).1).1).1).1).1).1).1).1).1).1).1).1).1).1).1).1).1).1).1).1).1).1).1).1).1).1).1).1).1).1).1).1).1).1).1).1).1).1).1).1).1).1).1).1).1).1).1).1).1).1).1).1).1).1).1).1).1).1).1).1).1).1).1).1).1).1).1).1).1).1).1).1).1).1).1).1).1).1).1).1).1).1).1).1).1).1).1).1).1).1).1).1).1).1).1).1).1).1).1).1).1).1).1).1).1).1).1).1).2),
    He.eqO_ok ((Bool.and_eq_true_iff.mp (Bool.and_eq_true_iff.mp (Bool.and_eq_true_iff.mp (Bool.and_eq_true_iff.mp (Bool.and_eq_true_iff.mp (Bool.and_eq_true_iff.mp (Bool.and_eq_true_iff.mp (Bool.and_eq_true_iff.mp (Bool.and_eq_true_iff.mp (Bool.and_eq_true_iff.mp (Bool.and_eq_true_iff.mp (Bool.and_eq_true_iff.mp (Bool.and_eq_true_iff.mp (Bool.and_eq_true_iff.mp (Bool.and_eq_true_iff.mp (Bool.and_eq_true_iff.mp (Bool.and_eq_true_iff.mp (Bool.and_eq_true_iff.mp (Bool.and_eq_true_iff.mp (Bool.and_eq_true_iff.mp (Bool.and_eq_true_iff.mp (Bool.and_eq_true_iff.mp (Bool.and_eq_true_iff.mp (Bool.and_eq_true_iff.mp (Bool.and_eq_true_iff.mp (Bool.and_eq_true_iff.mp (Bool.and_eq_true_iff.mp (Bool.and_eq_true_iff.mp (Bool.and_eq_true_iff.mp (Bool.and_eq_true_iff.mp (Bool.and_eq_true_iff.mp (Bool.and_eq_true_iff.mp (Bool.and_eq_true_iff.mp (Bool.and_eq_true_iff.mp (Bool.and_eq_true_iff.mp (Bool.and_eq_true_iff.mp (Bool.and_eq_true_iff.mp (Bool.and_eq_true_iff.mp (Bool.and_eq_true_iff.mp (Bool.and_eq_true_iff.mp (Bool.and_eq_true_iff.mp (Bool.and_eq_true_iff.mp (Bool.and_eq_true_iff.mp (Bool.and_eq_true_iff.mp (Bool.and_eq_true_iff.mp (Bool.and_eq_true_iff.mp (Bool.and_eq_true_iff.mp (Bool.and_eq_true_iff.mp (Bool.and_eq_true_iff.mp (Bool.and_eq_true_iff.mp (Bool.and_eq_true_iff.mp (Bool.and_eq_true_iff.mp (Bool.and_eq_true_iff.mp (Bool.and_eq_true_iff.mp (Bool.and_eq_true_iff.mp (Bool.and_eq_true_iff.mp (Bool.and_eq_true_iff.mp (Bool.and_eq_true_iff.mp (Bool.and_eq_true_iff.mp (Bool.and_eq_true_iff.mp (Bool.and_eq_true_iff.mp (Bool.and_eq_true_iff.mp (Bool.and_eq_true_iff.mp (Bool.and_eq_true_iff.mp (Bool.and_eq_true_iff.mp (Bool.and_eq_true_iff.mp (Bool.and_eq_true_iff.mp (Bool.and_eq_true_iff.mp (Bool.and_eq_true_iff.mp (Bool.and_eq_true_iff.mp (Bool.and_eq_true_iff.mp (Bool.and_eq_true_iff.mp (Bool.and_eq_true_iff.mp (Bool.and_eq_true_iff.mp (Bool.and_eq_true_iff.mp (Bool.and_eq_true_iff.mp (Bool.and_eq_true_iff.mp (Bool.and_eq_true_iff.mp (Bool.and_eq_true_iff.mp (Bool.and_eq_true_iff.mp (Bool.and_eq_true_iff.mp (Bool.and_eq_true_iff.mp (Bool.and_eq_true_iff.mp (Bool.and_eq_true_iff.mp (Bool.and_eq_true_iff.mp (Bool.and_eq_true_iff.mp (Bool.and_eq_true_iff.mp (Bool.and_eq_true_iff.mp (Bool.and_eq_true_iff.mp (Bool.and_eq_true_iff.mp (Bool.and_eq_true_iff.mp (Bool.and_eq_true_iff.mp (Bool.and_eq_true_iff.mp (Bool.and_eq_true_iff.mp (Bool.and_eq_true_iff.mp (Bool.and_eq_true_iff.mp (Bool.and_eq_true_iff.mp (Bool.and_eq_true_iff.mp (Bool.and_eq_true_iff.mp (Bool.and_eq_true_iff.mp (Bool.and_eq_true_iff.mp (Bool.and_eq_true_iff.mp (Bool.and_eq_true_iff.mp (Bool.and_eq_true_iff.mp (Bool.and_eq_true_iff.mp (Bool.and_eq_true_iff.mp (Bool.and_eq_true_iff.mp (Bool.and_eq_true_iff.mp (Bool.and_eq_true_iff.mp (Bool.and_eq_true_iff.mp (Bool.and_eq_true_iff.mp (Bool.and_eq_true_iff.mp (Bool.and_eq_true_iff.mp (Bool.and_eq_true_iff.mp (Bool.and_eq_true_iff.mp (Bool.and_eq_true_iff.mp (Bool.and_eq_true_iff.mp (Bool.and_eq_true_iff.mp (Bool.and_eq_true_iff.mp (Bool.and_eq_true_iff.mp (Bool.and_eq_true_iff.mp (Bool.and_eq_true_iff.mp (Bool.and_eq_true_iff.mp (Bool.and_eq_true_iff.mp (Bool.and_eq_true_iff.mp (Bool.and_eq_true_iff.mp (Bool.and_eq_true_iff.mp (Bool.and_eq_true_iff.mp (Bool.and_eq_true_iff.mp (Bool.and_eq_true_iff.mp (Bool.and_eq_true_iff.mp (Bool.and_eq_true_iff.mp (Bool.and_eq_true_iff.mp xq).1).1).1).1).1).1).1).1).1).1).1).1).1).1).1).1).1).1).1).1).1).1).1).1).1).1).1).1).1).1).1).1).1).1).1).1).1).1).1).1).1).1).1).1).1).1).1).1).1).1).1).1).1).1).1).1).1).1).1).1).1).1).1).1).1).1).1).1).1).1).1).1).1).1).1).1).1).1).1).1).1).1).1).1).1).1).1).1).1).1).1).1).1).1).1).1).1).1).1).1).1).1).1).1).1).1).1).1).1).1).1).1).1).1).1).1).1).1).1).1).1).1).1).1).1).1).1).1).1).1).1).1).2),
    errB_ok ((Bool.and_eq_true_iff.mp (Bool.and_eq_true_iff.mp (Bool.and_eq_true_iff.mp (Bool.and_eq_true_iff.mp (Bool.and_eq_true_iff.mp (Bool.and_eq_true_iff.mp (Bool.and_eq_true_iff.mp (Bool.and_eq_true_iff.mp (Bool.and_eq_true_iff.mp (Bool.and_eq_true_iff.mp (Bool.and_eq_true_iff.mp (Bool.and_eq_true_iff.mp (Bool.and_eq_true_iff.mp (Bool.and_eq_true_iff.mp (Bool.and_eq_true_iff.mp (Bool.and_eq_true_iff.mp (Bool.and_eq_true_iff.mp (Bool.and_eq_true_iff.mp (Bool.and_eq_true_iff.mp (Bool.and_eq_true_iff.mp (Bool.and_eq_true_iff.mp (Bool.and_eq_true_iff.mp (Bool.and_eq_true_iff.mp (Bool.and_eq_true_iff.mp (Bool.and_eq_true_iff.mp (Bool.and_eq_true_iff.mp (Bool.and_eq_true_iff.mp (Bool.and_eq_true_iff.mp (Bool.and_eq_true_iff.mp (Bool.and_eq_true_iff.mp (Bool.and_eq_true_iff.mp (Bool.and_eq_true_iff.mp (Bool.and_eq_true_iff.mp (Bool.and_eq_true_iff.mp (Bool.and_eq_true_iff.mp (Bool.and_eq_true_iff.mp (Bool.and_eq_true_iff.mp (Bool.and_eq_true_iff.mp (Bool.and_eq_true_iff.mp (Bool.and_eq_true_iff.mp (Bool.and_eq_true_iff.mp (Bool.and_eq_true_iff.mp (Bool.and_eq_true_iff.mp (Bool.and_eq_true_iff.mp (Bool.and_eq_true_iff.mp (Bool.and_eq_true_iff.mp (Bool.and_eq_true_iff.mp (Bool.and_eq_true_iff.mp (Bool.and_eq_true_iff.mp (Bool.and_eq_true_iff.mp (Bool.and_eq_true_iff.mp (Bool.and_eq_true_iff.mp (Bool.and_eq_true_iff.mp (Bool.and_eq_true_iff.mp (Bool.and_eq_true_iff.mp (Bool.and_eq_true_iff.mp (Bool.and_eq_true_iff.mp (Bool.and_eq_true_iff.mp (Bool.and_eq_true_iff.mp (Bool.and_eq_true_iff.mp (Bool.and_eq_true_iff.mp (Bool.and_eq_true_iff.mp (Bool.and_eq_true_iff.mp (Bool.and_eq_true_iff.mp (Bool.and_eq_true_iff.mp (Bool.and_eq_true_iff.mp (Bool.and_eq_true_iff.mp (Bool.and_eq_true_iff.mp (Bool.and_eq_true_iff.mp (Bool.and_eq_true_iff.mp (Bool.and_eq_true_iff.mp (Bool.and_eq_true_iff.mp (Bool.and_eq_true_iff.mp (Bool.and_eq_true_iff.mp (Bool.and_eq_true_iff.mp (Bool.and_eq_true_iff.mp (Bool.and_eq_true_iff.mp (Bool.and_eq_true_iff.mp (Bool.and_eq_true_iff.mp (Bool.and_eq_true_iff.mp (Bool.and_eq_true_iff.mp (Bool.and_eq_true_iff.mp (Bool.and_eq_true_iff.mp (Bool.and_eq_true_iff.mp (Bool.and_eq_true_iff.mp (Bool.and_eq_true_iff.mp (Bool.and_eq_true_iff.mp (Bool.and_eq_true_iff.mp (Bool.and_eq_true_iff.mp (Bool.and_eq_true_iff.mp (Bool.and_eq_true_iff.mp (Bool.and_eq_true_iff.mp (Bool.and_eq_true_iff.mp (Bool.and_eq_true_iff.mp (Bool.and_eq_true_iff.mp (Bool.and_eq_true_iff.mp (Bool.and_eq_true_iff.mp (Bool.and_eq_true_iff.mp (Bool.and_eq_true_iff.mp (Bool.and_eq_true_iff.mp (Bool.and_eq_true_iff.mp (Bool.and_eq_true_iff.mp (Bool.and_eq_true_iff.mp (Bool.and_eq_true_iff.mp (Bool.and_eq_true_iff.mp (Bool.and_eq_true_iff.mp (Bool.and_eq_true_iff.mp (Bool.and_eq_true_iff.mp (Bool.and_eq_true_iff.mp (Bool.and_eq_true_iff.mp (Bool.and_eq_true_iff.mp (Bool.and_eq_true_iff.mp (Bool.and_eq_true_iff.mp (Bool.and_eq_true_iff.mp (Bool.and_eq_true_iff.mp (Bool.and_eq_true_iff.mp (Bool.and_eq_true_iff.mp (Bool.and_eq_true_iff.mp (Bool.and_eq_true_iff.mp (Bool.and_eq_true_iff.mp (Bool.and_eq_true_iff.mp (Bool.and_eq_true_iff.mp (Bool.and_eq_true_iff.mp (Bool.and_eq_true_iff.mp (Bool.and_eq_true_iff.mp (Bool.and_eq_true_iff.mp (Bool.and_eq_true_iff.mp (Bool.and_eq_true_iff.mp (Bool.and_eq_true_iff.mp (Bool.and_eq_true_iff.mp (Bool.and_eq_true_iff.mp (Bool.and_eq_true_iff.mp xq).1).1).1).1).1).1).1).1).1).1).1).1).1).1).1).1).1).1).1).1).1).1).1).1).1).1).1).1).1).1).1).1).1).1).1).1).1).1).1).1).1).1).1).1).1).1).1).1).1).1).1).1).1).1).1).1).1).1).1).1).1).1).1).1).1).1).1).1).1).1).1).1).1).1).1).1).1).1).1).1).1).1).1).1).1).1).1).1).1).1).1).1).1).1).1).1).1).1).1).1).1).1).1).1).1).1).1).1).1).1).1).1).1).1).1).1).1).1).1).1).1).1).1).1).1).1).1).1).1).1).1).2),
    He.eqO_ok ((Bool.and_eq_true_iff.mp (Bool.and_eq_true_iff.mp (Bool.and_eq_true_iff.mp (Bool.and_eq_true_iff.mp (Bool.and_eq_true_iff.mp (Bool.and_eq_true_iff.mp (Bool.and_eq_true_iff.mp (Bool.and_eq_true_iff.mp (Bool.and_eq_true_iff.mp (Bool.and_eq_true_iff.mp (Bool.and_eq_true_iff.mp (Bool.and_eq_true_iff.mp (Bool.and_eq_true_iff.mp (Bool.and_eq_true_iff.mp (Bool.and_eq_true_iff.mp (Bool.and_eq_true_iff.mp (Bool.and_eq_true_iff.mp (Bool.and_eq_true_iff.mp (Bool.and_eq_true_iff.mp (Bool.and_eq_true_iff.mp (Bool.and_eq_true_iff.mp (Bool.and_eq_true_iff.mp (Bool.and_eq_true_iff.mp (Bool.and_eq_true_iff.mp (Bool.and_eq_true_iff.mp (Bool.and_eq_true_iff.mp (Bool.and_eq_true_iff.mp (Bool.and_eq_true_iff.mp (Bool.and_eq_true_iff.mp (Bool.and_eq_true_iff.mp (Bool.and_eq_true_iff.mp (Bool.and_eq_true_iff.mp (Bool.and_eq_true_iff.mp (Bool.and_eq_true_iff.mp (Bool.and_eq_true_iff.mp (Bool.and_eq_true_iff.mp (Bool.and_eq_true_iff.mp (Bool.and_eq_true_iff.mp (Bool.and_eq_true_iff.mp (Bool.and_eq_true_iff.mp (Bool.and_eq_true_iff.mp (Bool.and_eq_true_iff.mp (Bool.and_eq_true_iff.mp (Bool.and_eq_true_iff.mp (Bool.and_eq_true_iff.mp (Bool.and_eq_true_iff.mp (Bool.and_eq_true_iff.mp (Bool.and_eq_true_iff.mp (Bool.and_eq_true_iff.mp (Bool.and_eq_true_iff.mp (Bool.and_eq_true_iff.mp (Bool.and_eq_true_iff.mp (Bool.and_eq_true_iff.mp (Bool.and_eq_true_iff.mp (Bool.and_eq_true_iff.mp (Bool.and_eq_true_iff.mp (Bool.and_eq_true_iff.mp (Bool.and_eq_true_iff.mp (Bool.and_eq_true_iff.mp (Bool.and_eq_true_iff.mp (Bool.and_eq_true_iff.mp (Bool.and_eq_true_iff.mp (Bool.and_eq_true_iff.mp (Bool.and_eq_true_iff.mp (Bool.and_eq_true_iff.mp (Bool.and_eq_true_iff.mp (Bool.and_eq_true_iff.mp (Bool.and_eq_true_iff.mp (Bool.and_eq_true_iff.mp (Bool.and_eq_true_iff.mp (Bool.and_eq_true_iff.mp (Bool.and_eq_true_iff.mp (Bool.and_eq_true_iff.mp (Bool.and_eq_true_iff.mp (Bool.and_eq_true_iff.mp (Bool.and_eq_true_iff.mp (Bool.and_eq_true_iff.mp (Bool.and_eq_true_iff.mp (Bool.and_eq_true_iff.mp (Bool.and_eq_true_iff.mp (Bool.and_eq_true_iff.mp (Bool.and_eq_true_iff.mp (Bool.and_eq_true_iff.mp (Bool.and_eq_true_iff.mp (Bool.and_eq_true_iff.mp (Bool.and_eq_true_iff.mp (Bool.and_eq_true_iff.mp (Bool.and_eq_true_iff.mp (Bool.and_eq_true_iff.mp (Bool.and_eq_true_iff.mp (Bool.and_eq_true_iff.mp (Bool.and_eq_true_iff.mp (Bool.and_eq_true_iff.mp (Bool.and_eq_true_iff.mp (Bool.and_eq_true_iff.mp (Bool.and_eq_true_iff.mp (Bool.and_eq_true_iff.mp (Bool.and_eq_true_iff.mp (Bool.and_eq_true_iff.mp (Bool.and_eq_true_iff.mp (Bool.and_eq_true_iff.mp (Bool.and_eq_true_iff.mp (Bool.and_eq_true_iff.mp (Bool.and_eq_true_iff.mp (Bool.and_eq_true_iff.mp (Bool.and_eq_true_iff.mp (Bool.and_eq_true_iff.mp (Bool.and_eq_true_iff.mp (Bool.and_eq_true_iff.mp (Bool.and_eq_true_iff.mp (Bool.and_eq_true_iff.mp (Bool.and_eq_true_iff.mp (Bool.and_eq_true_iff.mp (Bool.and_eq_true_iff.mp (Bool.and_eq_true_iff.mp (Bool.and_eq_true_iff.mp (Bool.and_eq_true_iff.mp (Bool.and_eq_true_iff.mp (Bool.and_eq_true_iff.mp (Bool.and_eq_true_iff.mp (Bool.and_eq_true_iff.mp (Bool.and_eq_true_iff.mp (Bool.and_eq_true_iff.mp (Bool.and_eq_true_iff.mp (Bool.and_eq_true_iff.mp (Bool.and_eq_true_iff.mp (Bool.and_eq_true_iff.mp (Bool.and_eq_true_iff.mp (Bool.and_eq_true_iff.mp (Bool.and_eq_true_iff.mp (Bool.and_eq_true_iff.mp xq).1).1).1).1).1).1).1).1).1).1).1).1).1).1).1).1).1).1).1).1).1).1).1).1).1).1).1).1).1).1).1).1).1).1).1).1).1).1).1).1).1).1).1).1).1).1).1).1).1).1).1).1).1).1).1).1).1).1).1).1).1).1).1).1).1).1).1).1).1).1).1).1).1).1).1).1).1).1).1).1).1).1).1).1).1).1).1).1).1).1).1).1).1).1).1).1).1).1).1).1).1).1).1).1).1).1).1).1).1).1).1).1).1).1).1).1).1).1).1).1).1).1).1).1).1).1).1).1).1).1).2),
    errB_ok ((Bool.and_eq_true_iff.mp (Bool.and_eq_true_iff.mp (Bool.and_eq_true_iff.mp (Bool.and_eq_true_iff.mp (Bool.and_eq_true_iff.mp (Bool.and_eq_true_iff.mp (Bool.and_eq_true_iff.mp (Bool.and_eq_true_iff.mp (Bool.and_eq_true_iff.mp (Bool.and_eq_true_iff.mp (Bool.and_eq_true_iff.mp (Bool.and_eq_true_iff.mp (Bool.and_eq_true_iff.mp (Bool.and_eq_true_iff.mp (Bool.and_eq_true_iff.mp (Bool.and_eq_true_iff.mp (Bool.and_eq_true_iff.mp (Bool.and_eq_true_iff.mp (Bool.and_eq_true_iff.mp (Bool.and_eq_true_iff.mp (Bool.and_eq_true_iff.mp (Bool.and_eq_true_iff.mp (Bool.and_eq_true_iff.mp (Bool.and_eq_true_iff.mp (Bool.and_eq_true_iff.mp (Bool.and_eq_true_iff.mp (Bool.and_eq_true_iff.mp (Bool.and_eq_true_iff.mp (Bool.and_eq_true_iff.mp (Bool.and_eq_true_iff.mp (Bool.and_eq_true_iff.mp (Bool.and_eq_true_iff.mp (Bool.and_eq_true_iff.mp (Bool.and_eq_true_iff.mp (Bool.and_eq_true_iff.mp (Bool.and_eq_true_iff.mp (Bool.and_eq_true_iff.mp (Bool.and_eq_true_iff.mp (Bool.and_eq_true_iff.mp (Bool.and_eq_true_iff.mp (Bool.and_eq_true_iff.mp (Bool.and_eq_true_iff.mp (Bool.and_eq_true_iff.mp (Bool.and_eq_true_iff.mp (Bool.and_eq_true_iff.mp (Bool.and_eq_true_iff.mp (Bool.and_eq_true_iff.mp (Bool.and_eq_true_iff.mp (Bool.and_eq_true_iff.mp (Bool.and_eq_true_iff.mp (Bool.and_eq_true_iff.mp (Bool.and_eq_true_iff.mp (Bool.and_eq_true_iff.mp (Bool.and_eq_true_iff.mp (Bool.and_eq_true_iff.mp (Bool.and_eq_true_iff.mp (Bool.and_eq_true_iff.mp (Bool.and_eq_true_iff.mp (Bool.and_eq_true_iff.mp (Bool.and_eq_true_iff.mp (Bool.and_eq_true_iff.mp (Bool.and_eq_true_iff.mp (Bool.and_eq_true_iff.mp (Bool.and_eq_true_iff.mp (Bool.and_eq_true_iff.mp (Bool.and_eq_true_iff.mp (Bool.and_eq_true_iff.mp (Bool.and_eq_true_iff.mp (Bool.and_eq_true_iff.mp (Bool.and_eq_true_iff.mp (Bool.and_eq_true_iff.mp (Bool.and_eq_true_iff.mp (Bool.and_eq_true_iff.mp (Bool.and_eq_true_iff.mp (Bool.and_eq_true_iff.mp (Bool.and_eq_true_iff.mp (Bool.and_eq_true_iff.mp (Bool.and_eq_true_iff.mp (Bool.and_eq_true_iff.mp (Bool.and_eq_true_iff.mp (Bool.and_eq_true_iff.mp (Bool.and_eq_true_iff.mp (Bool.and_eq_true_iff.mp (Bool.and_eq_true_iff.mp (Bool.and_eq_true_iff.mp (Bool.and_eq_true_iff.mp (Bool.and_eq_true_iff.mp (Bool.and_eq_true_iff.mp (Bool.and_eq_true_iff.mp (Bool.and_eq_true_iff.mp (Bool.and_eq_true_iff.mp (Bool.and_eq_true_iff.mp (Bool.and_eq_true_iff.mp (Bool.and_eq_true_iff.mp (Bool.and_eq_true_iff.mp (Bool.and_eq_true_iff.mp (Bool.and_eq_true_iff.mp (Bool.and_eq_true_iff.mp (Bool.and_eq_true_iff.mp (Bool.and_eq_true_iff.mp (Bool.and_eq_true_iff.mp (Bool.and_eq_true_iff.mp (Bool.and_eq_true_iff.mp (Bool.and_eq_true_iff.mp (Bool.and_eq_true_iff.mp (Bool.and_eq_true_iff.mp (Bool.and_eq_true_iff.mp (Bool.and_eq_true_iff.mp (Bool.and_eq_true_iff.mp (Bool.and_eq_true_iff.mp (Bool.and_eq_true_iff.mp (Bool.and_eq_true_iff.mp (Bool.and_eq_true_iff.mp (Bool.and_eq_true_iff.mp (Bool.and_eq_true_iff.mp (Bool.and_eq_true_iff.mp (Bool.and_eq_true_iff.mp (Bool.and_eq_true_iff.mp (Bool.and_eq_true_iff.mp (Bool.and_eq_true_iff.mp (Bool.and_eq_true_iff.mp (Bool.and_eq_true_iff.mp (Bool.and_eq_true_iff.mp (Bool.and_eq_true_iff.mp (Bool.and_eq_true_iff.mp (Bool.and_eq_true_iff.mp (Bool.and_eq_true_iff.mp (Bool.and_eq_true_iff.mp (Bool.and_eq_true_iff.mp (Bool.and_eq_true_iff.mp xq).1).1).1).1).1).1).1).1).1).1).1).1).1).1).1).1).1).1).1).1).1).1).1).1).1).1).1).1).1).1).1).1).1).1).1).1).1).1).1).1).1).1).1).1).1).1).1).1).1).1).1).1).1).1).1).1).1).1).1).1).1).1).1).1).1).1).1).1).1).1).1).1).1).1).1).1).1).1).1).1).1).1).1).1).1).1).1).1).1).1).1).1).1).1).1).1).1).1).1).1).1).1).1).1).1).1).1).1).1).1).1).1).1).1).1).1).1).1).1).1).1).1).1).1).1).1).1).1).1).2),
    He.eqO_ok ((Bool.and_eq_true_iff.mp (Bool.and_eq_true_iff.mp (Bool.and_eq_true_iff.mp (Bool.and_eq_true_iff.mp (Bool.and_eq_true_iff.mp (Bool.and_eq_true_iff.mp (Bool.and_eq_true_iff.mp (Bool.and_eq_true_iff.mp (Bool.and_eq_true_iff.mp (Bool.and_eq_true_iff.mp (Bool.and_eq_true_iff.mp (Bool.and_eq_true_iff.mp (Bool.and_eq_true_iff.mp (Bool.and_eq_true_iff.mp (Bool.and_eq_true_iff.mp (Bool.and_eq_true_iff.mp (Bool.and_eq_true_iff.mp (Bool.and_eq_true_iff.mp (Bool.and_eq_true_iff.mp (Bool.and_eq_true_iff.mp (Bool.and_eq_true_iff.mp (Bool.and_eq_true_iff.mp (Bool.and_eq_true_iff.mp (Bool.and_eq_true_iff.mp (Bool.and_eq_true_iff.mp (Bool.and_eq_true_iff.mp (Bool.and_eq_true_iff.mp (Bool.and_eq_true_iff.mp (Bool.and_eq_true_iff.mp (Bool.and_eq_true_iff.mp (Bool.and_eq_true_iff.mp (Bool.and_eq_true_iff.mp (Bool.and_eq_true_iff.mp (Bool.and_eq_true_iff.mp (Bool.and_eq_true_iff.mp (Bool.and_eq_true_iff.mp (Bool.and_eq_true_iff.mp (Bool.and_eq_true_iff.mp (Bool.and_eq_true_iff.mp (Bool.and_eq_true_iff.mp (Bool.and_eq_true_iff.mp (Bool.and_eq_true_iff.mp (Bool.and_eq_true_iff.mp (Bool.and_eq_true_iff.mp (Bool.and_eq_true_iff.mp (Bool.and_eq_true_iff.mp (Bool.and_eq_true_iff.mp (Bool.and_eq_true_iff.mp (Bool.and_eq_true_iff.mp (Bool.and_eq_true_iff.mp (Bool.and_eq_true_iff.mp (Bool.and_eq_true_iff.mp (Bool.and_eq_true_iff.mp (Bool.and_eq_true_iff.mp (Bool.and_eq_true_iff.mp (Bool.and_eq_true_iff.mp (Bool.and_eq_true_iff.mp (Bool.and_eq_true_iff.mp (Bool.and_eq_true_iff.mp (Bool.and_eq_true_iff.mp (Bool.and_eq_true_iff.mp (Bool.and_eq_true_iff.mp (Bool.and_eq_true_iff.mp (Bool.and_eq_true_iff.mp (Bool.and_eq_true_iff.mp (Bool.and_eq_true_iff.mp (Bool.and_eq_true_iff.mp (Bool.and_eq_true_iff.mp (Bool.and_eq_true_iff.mp (Bool.and_eq_true_iff.mp (Bool.and_eq_true_iff.mp (Bool.and_eq_true_iff.mp (Bool.and_eq_true_iff.mp (Bool.and_eq_true_iff.mp (Bool.and_eq_true_iff.mp (Bool.and_eq_true_iff.mp (Bool.and_eq_true_iff.mp (Bool.and_eq_true_iff.mp (Bool.and_eq_true_iff.mp (Bool.and_eq_true_iff.mp (Bool.and_eq_true_iff.mp (Bool.and_eq_true_iff.mp (Bool.and_eq_true_iff.mp (Bool.and_eq_true_iff.mp (Bool.and_eq_true_iff.mp (Bool.and_eq_true_iff.mp (Bool.and_eq_true_iff.mp (Bool.and_eq_true_iff.mp (Bool.and_eq_true_iff.mp (Bool.and_eq_true_iff.mp (Bool.and_eq_true_iff.mp (Bool.and_eq_true_iff.mp (Bool.and_eq_true_iff.mp (Bool.and_eq_true_iff.mp (Bool.and_eq_true_iff.mp (Bool.and_eq_true_iff.mp (Bool.and_eq_true_iff.mp (Bool.and_eq_true_iff.mp (Bool.and_eq_true_iff.mp (Bool.and_eq_true_iff.mp (Bool.and_eq_true_iff.mp (Bool.and_eq_true_iff.mp (Bool.and_eq_true_iff.mp (Bool.and_eq_true_iff.mp (Bool.and_eq_true_iff.mp (Bool.and_eq_true_iff.mp (Bool.and_eq_true_iff.mp (Bool.and_eq_true_iff.mp (Bool.and_eq_true_iff.mp (Bool.and_eq_true_iff.mp (Bool.and_eq_true_iff.mp (Bool.and_eq_true_iff.mp (Bool.and_eq_true_iff.mp (Bool.and_eq_true_iff.mp (Bool.and_eq_true_iff.mp (Bool.and_eq_true_iff.mp (Bool.and_eq_true_iff.mp (Bool.and_eq_true_iff.mp (Bool.and_eq_true_iff.mp (Bool.and_eq_true_iff.mp (Bool.and_eq_true_iff.mp (Bool.and_eq_true_iff.mp (Bool.and_eq_true_iff.mp (Bool.and_eq_true_iff.mp (Bool.and_eq_true_iff.mp (Bool.and_eq_true_iff.mp (Bool.and_eq_true_iff.mp (Bool.and_eq_true_iff.mp (Bool.and_eq_true_iff.mp xq).1).1).1).1).1).1).1).1).1).1).1).1).1).1).1).1).1).1).1).1).1).1).1).1).1).1).1).1).1).1).1).1).1).1).1).1).1).1).1).1).1).1).1).1).1).1).1).1).1).1).1).1).1).1).1).1).1).1).1).1).1).1).1).1).1).1).1).1).1).1).1).1).1).1).1).1).1).1).1).1).1).1).1).1).1).1).1).1).1).1).1).1).1).1).1).1).1).1).1).1).1).1).1).1).1).1).1).1).1).1).1).1).1).1).1).1).1).1).1).1).1).1).1).1).1).1).1).1).2),
    errB_ok ((Bool.and_eq_true_iff.mp (Bool.and_eq_true_iff.mp (Bool.and_eq_true_iff.mp (Bool.and_eq_true_iff.mp (Bool.and_eq_true_iff.mp (Bool.and_eq_true_iff.mp (Bool.and_eq_true_iff.mp (Bool.and_eq_true_iff.mp (Bool.and_eq_true_iff.mp (Bool.and_eq_true_iff.mp (Bool.and_eq_true_iff.mp (Bool.and_eq_true_iff.mp (Bool.and_eq_true_iff.mp (Bool.and_eq_true_iff.mp (Bool.and_eq_true_iff.mp (Bool.and_eq_true_iff.mp (Bool.and_eq_true_iff.mp (Bool.and_eq_true_iff.mp (Bool.and_eq_true_iff.mp (Bool.and_eq_true_iff.mp (Bool.and_eq_true_iff.mp (Bool.and_eq_true_iff.mp (Bool.and_eq_true_iff.mp (Bool.and_eq_true_iff.mp (Bool.and_eq_true_iff.mp (Bool.and_eq_true_iff.mp (Bool.and_eq_true_iff.mp (Bool.and_eq_true_iff.mp (Bool.and_eq_true_iff.mp (Bool.and_eq_true_iff.mp (Bool.and_eq_true_iff.mp (Bool.and_eq_true_iff.mp (Bool.and_eq_true_iff.mp (Bool.and_eq_true_iff.mp (Bool.and_eq_true_iff.mp (Bool.and_eq_true_iff.mp (Bool.and_eq_true_iff.mp (Bool.and_eq_true_iff.mp (Bool.and_eq_true_iff.mp (Bool.and_eq_true_iff.mp (Bool.and_eq_true_iff.mp (Bool.and_eq_true_iff.mp (Bool.and_eq_true_iff.mp (Bool.and_eq_true_iff.mp (Bool.and_eq_true_iff.mp (Bool.and_eq_true_iff.mp (Bool.and_eq_true_iff.mp (Bool.and_eq_true_iff.mp (Bool.and_eq_true_iff.mp (Bool.and_eq_true_iff.mp (Bool.and_eq_true_iff.mp (Bool.and_eq_true_iff.mp (Bool.and_eq_true_iff.mp (Bool.and_eq_true_iff.mp (Bool.and_eq_true_iff.mp (Bool.and_eq_true_iff.mp (Bool.and_eq_true_iff.mp (Bool.and_eq_true_iff.mp (Bool.and_eq_true_iff.mp (Bool.and_eq_true_iff.mp (Bool.and_eq_true_iff.mp (Bool.and_eq_true_iff.mp (Bool.and_eq_true_iff.mp (Bool.and_eq_true_iff.mp (Bool.and_eq_true_iff.mp (Bool.and_eq_true_iff.mp (Bool.and_eq_true_iff.mp (Bool.and_eq_true_iff.mp (Bool.and_eq_true_iff.mp (Bool.and_eq_true_iff.mp (Bool.and_eq_true_iff.mp (Bool.and_eq_true_iff.mp (Bool.and_eq_true_iff.mp (Bool.and_eq_true_iff.mp (Bool.and_eq_true_iff.mp (Bool.and_eq_true_iff.mp (Bool.and_eq_true_iff.mp (Bool.and_eq_true_iff.mp (Bool.and_eq_true_iff.mp (Bool.and_eq_true_iff.mp (Bool.and_eq_true_iff.mp (Bool.and_eq_true_iff.mp (Bool.and_eq_true_iff.mp (Bool.and_eq_true_iff.mp (Bool.and_eq_true_iff.mp (Bool.and_eq_true_iff.mp (Bool.and_eq_true_iff.mp (Bool.and_eq_true_iff.mp (Bool.and_eq_true_iff.mp (Bool.and_eq_true_iff.mp (Bool.and_eq_true_iff.mp (Bool.and_eq_true_iff.mp (Bool.and_eq_true_iff.mp (Bool.and_eq_true_iff.mp (Bool.and_eq_true_iff.mp (Bool.and_eq_true_iff.mp (Bool.and_eq_true_iff.mp (Bool.and_eq_true_iff.mp (Bool.and_eq_true_iff.mp (Bool.and_eq_true_iff.mp (Bool.and_eq_true_iff.mp (Bool.and_eq_true_iff.mp (Bool.and_eq_true_iff.mp (Bool.and_eq_true_iff.mp (Bool.and_eq_true_iff.mp (Bool.and_eq_true_iff.mp (Bool.and_eq_true_iff.mp (Bool.and_eq_true_iff.mp (Bool.and_eq_true_iff.mp (Bool.and_eq_true_iff.mp (Bool.and_eq_true_iff.mp (Bool.and_eq_true_iff.mp (Bool.and_eq_true_iff.mp (Bool.and_eq_true_iff.mp (Bool.and_eq_true_iff.mp (Bool.and_eq_true_iff.mp (Bool.and_eq_true_iff.mp (Bool.and_eq_true_iff.mp (Bool.and_eq_true_iff.mp (Bool.and_eq_true_iff.mp (Bool.and_eq_true_iff.mp (Bool.and_eq_true_iff.mp (Bool.and_eq_true_iff.mp (Bool.and_eq_true_iff.mp (Bool.and_eq_true_iff.mp (Bool.and_eq_true_iff.mp (Bool.and_eq_true_iff.mp (Bool.and_eq_true_iff.mp xq).1).1).1).1).1).1).1).1).1).1).1).1).1).1).1).1).1).1).1).1).1).1).1).1).1).1).1).1).1).1).1).1).1).1).1).1).1).1).1).1).1).1).1).1).1).1).1).1).1).1).1).1).1).1).1).1).1).1).1).1).1).1).1).1).1).1).1).1).1).1).1).1).1).1).1).1).1).1).1).1).1).1).1).1).1).1).1).1).1).1).1).1).1).1).1).1).1).1).1).1).1).1).1).1).1).1).1).1).1).1).1).1).1).1).1).1).1).1).1).1).1).1).1).1).1).1).1).2),
    He.eqO_ok ((Bool.and_eq_true_iff.mp (Bool.and_eq_true_iff.mp (Bool.and_eq_true_iff.mp (Bool.and_eq_true_iff.mp (Bool.and_eq_true_iff.mp (Bool.and_eq_true_iff.mp (Bool.and_eq_true_iff.mp (Bool.and_eq_true_iff.mp (Bool.and_eq_true_iff.mp (Bool.and_eq_true_iff.mp (Bool.and_eq_true_iff.mp (Bool.and_eq_true_iff.mp (Bool.and_eq_true_iff.mp (Bool.and_eq_true_iff.mp (Bool.and_eq_true_iff.mp (Bool.and_eq_true_iff.mp (Bool.and_eq_true_iff.mp (Bool.and_eq_true_iff.mp (Bool.and_eq_true_iff.mp (Bool.and_eq_true_iff.mp (Bool.and_eq_true_iff.mp (Bool.and_eq_true_iff.mp (Bool.and_eq_true_iff.mp (Bool.and_eq_true_iff.mp (Bool.and_eq_true_iff.mp (Bool.and_eq_true_iff.mp (Bool.and_eq_true_iff.mp (Bool.and_eq_true_iff.mp (Bool.and_eq_true_iff.mp (Bool.and_eq_true_iff.mp (Bool.and_eq_true_iff.mp (Bool.and_eq_true_iff.mp (Bool.and_eq_true_iff.mp (Bool.and_eq_true_iff.mp (Bool.and_eq_true_iff.mp (Bool.and_eq_true_iff.mp (Bool.and_eq_true_iff.mp (Bool.and_eq_true_iff.mp (Bool.and_eq_true_iff.mp (Bool.and_eq_true_iff.mp (Bool.and_eq_true_iff.mp (Bool.and_eq_true_iff.mp (Bool.and_eq_true_iff.mp (Bool.and_eq_true_iff.mp (Bool.and_eq_true_iff.mp (Bool.and_eq_true_iff.mp (Bool.and_eq_true_iff.mp (Bool.and_eq_true_iff.mp (Bool.and_eq_true_iff.mp (Bool.and_eq_true_iff.mp (Bool.and_eq_true_iff.mp (Bool.and_eq_true_iff.mp (Bool.and_eq_true_iff.mp (Bool.and_eq_true_iff.mp (Bool.and_eq_true_iff.mp (Bool.and_eq_true_iff.mp (Bool.and_eq_true_iff.mp (Bool.and_eq_true_iff.mp (Bool.and_eq_true_iff.mp (Bool.and_eq_true_iff.mp (Bool.and_eq_true_iff.mp (Bool.and_eq_true_iff.mp (Bool.and_eq_true_iff.mp (Bool.and_eq_true_iff.mp (Bool.and_eq_true_iff.mp (Bool.and_eq_true_iff.mp (Bool.and_eq_true_iff.mp (Bool.and_eq_true_iff.mp (Bool.and_eq_true_iff.mp (Bool.and_eq_true_iff.mp (Bool.and_eq_true_iff.mp (Bool.and_eq_true_iff.mp (Bool.and_eq_true_iff.mp (Bool.and_eq_true_iff.mp (Bool.and_eq_true_iff.mp (Bool.and_eq_true_iff.mp (Bool.and_eq_true_iff.mp (Bool.and_eq_true_iff.mp (Bool.and_eq_true_iff.mp (Bool.and_eq_true_iff.mp (Bool.and_eq_true_iff.mp (Bool.and_eq_true_iff.mp (Bool.and_eq_true_iff.mp (Bool.and_eq_true_iff.mp (Bool.and_eq_true_iff.mp (Bool.and_eq_true_iff.mp (Bool.and_eq_true_iff.mp (Bool.and_eq_true_iff.mp (Bool.and_eq_true_iff.mp (Bool.and_eq_true_iff.mp (Bool.and_eq_true_iff.mp (Bool.and_eq_true_iff.mp (Bool.and_eq_true_iff.mp (Bool.and_eq_true_iff.mp (Bool.and_eq_true_iff.mp (Bool.and_eq_true_iff.mp (Bool.and_eq_true_iff.mp (Bool.and_eq_true_iff.mp (Bool.and_eq_true_iff.mp (Bool.and_eq_true_iff.mp (Bool.and_eq_true_iff.mp (Bool.and_eq_true_iff.mp (Bool.and_eq_true_iff.mp (Bool.and_eq_true_iff.mp (Bool.and_eq_true_iff.mp (Bool.and_eq_true_iff.mp (Bool.and_eq_true_iff.mp (Bool.and_eq_true_iff.mp (Bool.and_eq_true_iff.mp (Bool.and_eq_true_iff.mp (Bool.and_eq_true_iff.mp (Bool.and_eq_true_iff.mp (Bool.and_eq_true_iff.mp (Bool.and_eq_true_iff.mp (Bool.and_eq_true_iff.mp (Bool.and_eq_true_iff.mp (Bool.and_eq_true_iff.mp (Bool.and_eq_true_iff.mp (Bool.and_eq_true_iff.mp (Bool.and_eq_true_iff.mp (Bool.and_eq_true_iff.mp (Bool.and_eq_true_iff.mp (Bool.and_eq_true_iff.mp (Bool.and_eq_true_iff.mp (Bool.and_eq_true_iff.mp (Bool.and_eq_true_iff.mp (Bool.and_eq_true_iff.mp xq).1).1).1).1).1).1).1).1).1).1).1).1).1).1).1).1).1).1).1).1).1).1).1).1).1).1).1).1).1).1).1).1).1).1).1).1).1).1).1).1).1).1).1).1).1).1).1).1).1).1).1).1).1).1).1).1).1).1).1).1).1).1).1).1).1).1).1).1).1).1).1).1).1).1).1).1).1).1).1).1).1).1).1).1).1).1).1).1).1).1).1).1).1).1).1).1).1).1).1).1).1).1).1).1).1).1).1).1).1).1).1).1).1).1).1).1).1).1).1).1).1).1).1).1).1).1).2),
    errB_ok ((Bool.and_eq_true_iff.mp (Bool.and_eq_true_iff.mp (Bool.and_eq_true_iff.mp (Bool.and_eq_true_iff.mp (Bool.and_eq_true_iff.mp (Bool.and_eq_true_iff.mp (Bool.and_eq_true_iff.mp (Bool.and_eq_true_iff.mp (Bool.and_eq_true_iff.mp (Bool.and_eq_true_iff.mp (Bool.and_eq_true_iff.mp (Bool.and_eq_true_iff.mp (Bool.and_eq_true_iff.mp (Bool.and_eq_true_iff.mp (Bool.and_eq_true_iff.mp (Bool.and_eq_true_iff.mp (Bool.and_eq_true_iff.mp (Bool.and_eq_true_iff.mp (Bool.and_eq_true_iff.mp (Bool.and_eq_true_iff.mp (Bool.and_eq_true_iff.mp (Bool.and_eq_true_iff.mp (Bool.and_eq_true_iff.mp (Bool.and_eq_true_iff.mp (Bool.and_eq_true_iff.mp (Bool.and_eq_true_iff.mp (Bool.and_eq_true_iff.mp (Bool.and_eq_true_iff.mp (Bool.and_eq_true_iff.mp (Bool.and_eq_true_iff.mp (Bool.and_eq_true_iff.mp (Bool.and_eq_true_iff.mp (Bool.and_eq_true_iff.mp (Bool.and_eq_true_iff.mp (Bool.and_eq_true_iff.mp (Bool.and_eq_true_iff.mp (Bool.and_eq_true_iff.mp (Bool.and_eq_true_iff.mp (Bool.and_eq_true_iff.mp (Bool.and_eq_true_iff.mp (Bool.and_eq_true_iff.mp (Bool.and_eq_true_iff.mp (Bool.and_eq_true_iff.mp (Bool.and_eq_true_iff.mp (Bool.and_eq_true_iff.mp (Bool.and_eq_true_iff.mp (Bool.and_eq_true_iff.mp (Bool.and_eq_true_iff.mp (Bool.and_eq_true_iff.mp (Bool.and_eq_true_iff.mp (Bool.and_eq_true_iff.mp (Bool.and_eq_true_iff.mp (Bool.and_eq_true_iff.mp (Bool.and_eq_true_iff.mp (Bool.and_eq_true_iff.mp (Bool.and_eq_true_iff.mp (Bool.and_eq_true_iff.mp (Bool.and_eq_true_iff.mp (Bool.and_eq_true_iff.mp (Bool.and_eq_true_iff.mp (Bool.and_eq_true_iff.mp (Bool.and_eq_true_iff.mp (Bool.and_eq_true_iff.mp (Bool.and_eq_true_iff.mp (Bool.and_eq_true_iff.mp (Bool.and_eq_true_iff.mp (Bool.and_eq_true_iff.mp (Bool.and_eq_true_iff.mp (Bool.and_eq_true_iff.mp (Bool.and_eq_true_iff.mp (Bool.and_eq_true_iff.mp (Bool.and_eq_true_iff.mp (Bool.and_eq_true_iff.mp (Bool.and_eq_true_iff.mp (Bool.and_eq_true_iff.mp (Bool.and_eq_true_iff.mp (Bool.and_eq_true_iff.mp (Bool.and_eq_true_iff.mp (Bool.and_eq_true_iff.mp (Bool.and_eq_true_iff.mp (Bool.and_eq_true_iff.mp (Bool.and_eq_true_iff.mp (Bool.and_eq_true_iff.mp (Bool.and_eq_true_iff.mp (Bool.and_eq_true_iff.mp (Bool.and_eq_true_iff.mp (Bool.and_eq_true_iff.mp (Bool.and_eq_true_iff.mp (Bool.and_eq_true_iff.mp (Bool.and_eq_true_iff.mp (Bool.and_eq_true_iff.mp (Bool.and_eq_true_iff.mp (Bool.and_eq_true_iff.mp (Bool.and_eq_true_iff.mp (Bool.and_eq_true_iff.mp (Bool.and_eq_true_iff.mp (Bool.and_eq_true_iff.mp (Bool.and_eq_true_iff.mp (Bool.and_eq_true_iff.mp (Bool.and_eq_true_iff.mp (Bool.and_eq_true_iff.mp (Bool.and_eq_true_iff.mp (Bool.and_eq_true_iff.mp (Bool.and_eq_true_iff.mp (Bool.and_eq_true_iff.mp (Bool.and_eq_true_iff.mp (Bool.and_eq_true_iff.mp (Bool.and_eq_true_iff.mp (Bool.and_eq_true_iff.mp (Bool.and_eq_true_iff.mp (Bool.and_eq_true_iff.mp (Bool.and_eq_true_iff.mp (Bool.and_eq_true_iff.mp (Bool.and_eq_true_iff.mp (Bool.and_eq_true_iff.mp (Bool.and_eq_true_iff.mp (Bool.and_eq_true_iff.mp (Bool.and_eq_true_iff.mp (Bool.and_eq_true_iff.mp (Bool.and_eq_true_iff.mp (Bool.and_eq_true_iff.mp (Bool.and_eq_true_iff.mp (Bool.and_eq_true_iff.mp (Bool.and_eq_true_iff.mp (Bool.and_eq_true_iff.mp (Bool.and_eq_true_iff.mp xq).1).1).1).1).1).1).1).1).1).1).1).1).1).1).1).1).1).1).1).1).1).1).1).1).1).1).1).1).1).1).1).1).1).1).1).1).1).1).1).1).1).1).1).1).1).1).1).1).1).1).1).1).1).1).1).1).1).1).1).1).1).1).1).1).1).1).1).1).1).1).1).1).1).1).1).1).1).1).1).1).1).1).1).1).1).1).1).1).1).1).1).1).1).1).1).1).1).1).1).1).1).1).1).1).1).1).1).1).1).1).1).1).1).1).1).1).1).1).1).1).1).1).1).1).1).2),
    He.eqO_ok ((Bool.and_eq_true_iff.mp (Bool.and_eq_true_iff.mp (Bool.and_eq_true_iff.mp (Bool.and_eq_true_iff.mp (Bool.and_eq_true_iff.mp (Bool.and_eq_true_iff.mp (Bool.and_eq_true_iff.mp (Bool.and_eq_true_iff.mp (Bool.and_eq_true_iff.mp (Bool.and_eq_true_iff.mp (Bool.and_eq_true_iff.mp (Bool.and_eq_true_iff.mp (Bool.and_eq_true_iff.mp (Bool.and_eq_true_iff.mp (Bool.and_eq_true_iff.mp (Bool.and_eq_true_iff.mp (Bool.and_eq_true_iff.mp (Bool.and_eq_true_iff.mp (Bool.and_eq_true_iff.mp (Bool.and_eq_true_iff.mp (Bool.and_eq_true_iff.mp (Bool.and_eq_true_iff.mp (Bool.and_eq_true_iff.mp (Bool.and_eq_true_iff.mp (Bool.and_eq_true_iff.mp (Bool.and_eq_true_iff.mp (Bool.and_eq_true_iff.mp (Bool.and_eq_true_iff.mp (Bool.and_eq_true_iff.mp (Bool.and_eq_true_iff.mp (Bool.and_eq_true_iff.mp (Bool.and_eq_true_iff.mp (Bool.and_eq_true_iff.mp (Bool.and_eq_true_iff.mp (Bool.and_eq_true_iff.mp (Bool.and_eq_true_iff.mp (Bool.and_eq_true_iff.mp (Bool.and_eq_true_iff.mp (Bool.and_eq_true_iff.mp (Bool.and_eq_true_iff.mp (Bool.and_eq_true_iff.mp (Bool.and_eq_true_iff.mp (Bool.and_eq_true_iff.mp (Bool.and_eq_true_iff.mp (Bool.and_eq_true_iff.mp (Bool.and_eq_true_iff.mp (Bool.and_eq_true_iff.mp (Bool.and_eq_true_iff.mp (Bool.and_eq_true_iff.mp (Bool.and_eq_true_iff.mp (Bool.and_eq_true_iff.mp (Bool.and_eq_true_iff.mp (Bool.and_eq_true_iff.mp (Bool.and_eq_true_iff.mp (Bool.and_eq_true_iff.mp (Bool.and_eq_true_iff.mp (Bool.and_eq_true_iff.mp (Bool.and_eq_true_iff.mp (Bool.and_eq_true_iff.mp (Bool.and_eq_true_iff.mp (Bool.and_eq_true_iff.mp (Bool.and_eq_true_iff.mp (Bool.and_eq_true_iff.mp (Bool.and_eq_true_iff.mp (Bool.and_eq_true_iff.mp (Bool.and_eq_true_iff.mp (Bool.and_eq_true_iff.mp (Bool.and_eq_true_iff.mp (Bool.and_eq_true_iff.mp (Bool.and_eq_true_iff.mp (Bool.and_eq_true_iff.mp (Bool.and_eq_true_iff.mp (Bool.and_eq_true_iff.mp (Bool.and_eq_true_iff.mp (Bool.and_eq_true_iff.mp (Bool.and_eq_true_iff.mp (Bool.and_eq_true_iff.mp (Bool.and_eq_true_iff.mp (Bool.and_eq_true_iff.mp (Bool.and_eq_true_iff.mp (Bool.and_eq_true_iff.mp (Bool.and_eq_true_iff.mp (Bool.and_eq_true_iff.mp (Bool.and_eq_true_iff.mp (Bool.and_eq_true_iff.mp (Bool.and_eq_true_iff.mp (Bool.and_eq_true_iff.mp (Bool.and_eq_true_iff.mp (Bool.and_eq_true_iff.mp (Bool.and_eq_true_iff.mp (Bool.and_eq_true_iff.mp (Bool.and_eq_true_iff.mp (Bool.and_eq_true_iff.mp (Bool.and_eq_true_iff.mp (Bool.and_eq_true_iff.mp (Bool.and_eq_true_iff.mp (Bool.and_eq_true_iff.mp (Bool.and_eq_true_iff.mp (Bool.and_eq_true_iff.mp (Bool.and_eq_true_iff.mp (Bool.and_eq_true_iff.mp (Bool.and_eq_true_iff.mp (Bool.and_eq_true_iff.mp (Bool.and_eq_true_iff.mp (Bool.and_eq_true_iff.mp (Bool.and_eq_true_iff.mp (Bool.and_eq_true_iff.mp (Bool.and_eq_true_iff.mp (Bool.and_eq_true_iff.mp (Bool.and_eq_true_iff.mp (Bool.and_eq_true_iff.mp (Bool.and_eq_true_iff.mp (Bool.and_eq_true_iff.mp (Bool.and_eq_true_iff.mp (Bool.and_eq_true_iff.mp (Bool.and_eq_true_iff.mp (Bool.and_eq_true_iff.mp (Bool.and_eq_true_iff.mp (Bool.and_eq_true_iff.mp (Bool.and_eq_true_iff.mp (Bool.and_eq_true_iff.mp (Bool.and_eq_true_iff.mp (Bool.and_eq_true_iff.mp (Bool.and_eq_true_iff.mp (Bool.and_eq_true_iff.mp xq).1).1).1).1).1).1).1).1).1).1).1).1).1).1).1).1).1).1).1).1).1).1).1).1).1).1).1).1).1).1).1).1).1).1).1).1).1).1).1).1).1).1).1).1).1).1).1).1).1).1).1).1).1).1).1).1).1).1).1).1).1).1).1).1).1).1).1).1).1).1).1).1).1).1).1).1).1).1).1).1).1).1).1).1).1).1).1).1).1).1).1).1).1).1).1).1).1).1).1).1).1).1).1).1).1).1).1).1).1).1).1).1).1).1).1).1).1).1).1).1).1).1).1).1).2),
    errB_ok ((Bool.and_eq_true_iff.mp (Bool.and_eq_true_iff.mp (Bool.and_eq_true_iff.mp (Bool.and_eq_true_iff.mp (Bool.and_eq_true_iff.mp (Bool.and_eq_true_iff.mp (Bool.and_eq_true_iff.mp (Bool.and_eq_true_iff.mp (Bool.and_eq_true_iff.mp (Bool.and_eq_true_iff.mp (Bool.and_eq_true_iff.mp (Bool.and_eq_true_iff.mp (Bool.and_eq_true_iff.mp (Bool.and_eq_true_iff.mp (Bool.and_eq_true_iff.mp (Bool.and_eq_true_iff.mp (Bool.and_eq_true_iff.mp (Bool.and_eq_true_iff.mp (Bool.and_eq_true_iff.mp (Bool.and_eq_true_iff.mp (Bool.and_eq_true_iff.mp (Bool.and_eq_true_iff.mp (Bool.and_eq_true_iff.mp (Bool.and_eq_true_iff.mp (Bool.and_eq_true_iff.mp (Bool.and_eq_true_iff.mp (Bool.and_eq_true_iff.mp (Bool.and_eq_true_iff.mp (Bool.and_eq_true_iff.mp (Bool.and_eq_true_iff.mp (Bool.and_eq_true_iff.mp (Bool.and_eq_true_iff.mp (Bool.and_eq_true_iff.mp (Bool.and_eq_true_iff.mp (Bool.and_eq_true_iff.mp (Bool.and_eq_true_iff.mp (Bool.and_eq_true_iff.mp (Bool.and_eq_true_iff.mp (Bool.and_eq_true_iff.mp (Bool.and_eq_true_iff.mp (Bool.and_eq_true_iff.mp (Bool.and_eq_true_iff.mp (Bool.and_eq_true_iff.mp (Bool.and_eq_true_iff.mp (Bool.and_eq_true_iff.mp (Bool.and_eq_true_iff.mp (Bool.and_eq_true_iff.mp (Bool.and_eq_true_iff.mp (Bool.and_eq_true_iff.mp (Bool.and_eq_true_iff.mp (Bool.and_eq_true_iff.mp (Bool.and_eq_true_iff.mp (Bool.and_eq_true_iff.mp (Bool.and_eq_true_iff.mp (Bool.and_eq_true_iff.mp (Bool.and_eq_true_iff.mp (Bool.and_eq_true_iff.mp (Bool.and_eq_true_iff.mp (Bool.and_eq_true_iff.mp (Bool.and_eq_true_iff.mp (Bool.and_eq_true_iff.mp (Bool.and_eq_true_iff.mp (Bool.and_eq_true_iff.mp (Bool.and_eq_true_iff.mp (Bool.and_eq_true_iff.mp (Bool.and_eq_true_iff.mp (Bool.and_eq_true_iff.mp (Bool.and_eq_true_iff.mp (Bool.and_eq_true_iff.mp (Bool.and_eq_true_iff.mp (Bool.and_eq_true_iff.mp (Bool.and_eq_true_iff.mp (Bool.and_eq_true_iff.mp (Bool.and_eq_true_iff.mp (Bool.and_eq_true_iff.mp (Bool.and_eq_true_iff.mp (Bool.and_eq_true_iff.mp (Bool.and_eq_true_iff.mp (Bool.and_eq_true_iff.mp (Bool.and_eq_true_iff.mp (Bool.and_eq_true_iff.mp (Bool.and_eq_true_iff.mp (Bool.and_eq_true_iff.mp (Bool.and_eq_true_iff.mp (Bool.and_eq_true_iff.mp (Bool.and_eq_true_iff.mp (Bool.and_eq_true_iff.mp (Bool.and_eq_true_iff.mp (Bool.and_eq_true_iff.mp (Bool.and_eq_true_iff.mp (Bool.and_eq_true_iff.mp (Bool.and_eq_true_iff.mp (Bool.and_eq_true_iff.mp (Bool.and_eq_true_iff.mp (Bool.and_eq_true_iff.mp (Bool.and_eq_true_iff.mp (Bool.and_eq_true_iff.mp (Bool.and_eq_true_iff.mp (Bool.and_eq_true_iff.mp (Bool.and_eq_true_iff.mp (Bool.and_eq_true_iff.mp (Bool.and_eq_true_iff.mp (Bool.and_eq_true_iff.mp (Bool.and_eq_true_iff.mp (Bool.and_eq_true_iff.mp (Bool.and_eq_true_iff.mp (Bool.and_eq_true_iff.mp (Bool.and_eq_true_iff.mp (Bool.and_eq_true_iff.mp (Bool.and_eq_true_iff.mp (Bool.and_eq_true_iff.mp (Bool.and_eq_true_iff.mp (Bool.and_eq_true_iff.mp (Bool.and_eq_true_iff.mp (Bool.and_eq_true_iff.mp (Bool.and_eq_true_iff.mp (Bool.and_eq_true_iff.mp (Bool.and_eq_true_iff.mp (Bool.and_eq_true_iff.mp (Bool.and_eq_true_iff.mp (Bool.and_eq_true_iff.mp (Bool.and_eq_true_iff.mp (Bool.and_eq_true_iff.mp (Bool.and_eq_true_iff.mp xq).1).1).1).1).1).1).1).1).1).1).1).1).1).1).1).1).1).1).1).1).1).1).1).1).1).1).1).1).1).1).1).1).1).1).1).1).1).1).1).1).1).1).1).1).1).1).1).1).1).1).1).1).1).1).1).1).1).1).1).1).1).1).1).1).1).1).1).1).1).1).1).1).1).1).1).1).1).1).1).1).1).1).1).1).1).1).1).1).1).1).1).1).1).1).1).1).1).1).1).1).1).1).1).1).1).1).1).1).1).1).1).1).1).1).1).1).1).1).1).1).1).1).1).2),
    He.eqO_ok ((Bool.and_eq_true_iff.mp (Bool.and_eq_true_iff.mp (Bool.and_eq_true_iff.mp (Bool.and_eq_true_iff.mp (Bool.and_eq_true_iff.mp (Bool.and_eq_true_iff.mp (Bool.and_eq_true_iff.mp (Bool.and_eq_true_iff.mp (Bool.and_eq_true_iff.mp (Bool.and_eq_true_iff.mp (Bool.and_eq_true_iff.mp (Bool.and_eq_true_iff.mp (Bool.and_eq_true_iff.mp (Bool.and_eq_true_iff.mp (Bool.and_eq_true_iff.mp (Bool.and_eq_true_iff.mp (Bool.and_eq_true_iff.mp (Bool.and_eq_true_iff.mp (Bool.and_eq_true_iff.mp (Bool.and_eq_true_iff.mp (Bool.and_eq_true_iff.mp (Bool.and_eq_true_iff.mp (Bool.and_eq_true_iff.mp (Bool.and_eq_true_iff.mp (Bool.and_eq_true_iff.mp (Bool.and_eq_true_iff.mp (Bool.and_eq_true_iff.mp (Bool.and_eq_true_iff.mp (Bool.and_eq_true_iff.mp (Bool.and_eq_true_iff.mp (Bool.and_eq_true_iff.mp (Bool.and_eq_true_iff.mp (Bool.and_eq_true_iff.mp (Bool.and_eq_true_iff.mp (Bool.and_eq_true_iff.mp (Bool.and_eq_true_iff.mp (Bool.and_eq_true_iff.mp (Bool.and_eq_true_iff.mp (Bool.and_eq_true_iff.mp (Bool.and_eq_true_iff.mp (Bool.and_eq_true_iff.mp (Bool.and_eq_true_iff.mp (Bool.and_eq_true_iff.mp (Bool.and_eq_true_iff.mp (Bool.and_eq_true_iff.mp (Bool.and_eq_true_iff.mp (Bool.and_eq_true_iff.mp (Bool.and_eq_true_iff.mp (Bool.and_eq_true_iff.mp (Bool.and_eq_true_iff.mp (Bool.and_eq_true_iff.mp (Bool.and_eq_true_iff.mp (Bool.and_eq_true_iff.mp (Bool.and_eq_true_iff.mp (Bool.and_eq_true_iff.mp (Bool.and_eq_true_iff.mp (Bool.and_eq_true_iff.mp (Bool.and_eq_true_iff.mp (Bool.and_eq_true_iff.mp (Bool.and_eq_true_iff.mp (Bool.and_eq_true_iff.mp (Bool.and_eq_true_iff.mp (Bool.and_eq_true_iff.mp (Bool.and_eq_true_iff.mp (Bool.and_eq_true_iff.mp (Bool.and_eq_true_iff.mp (Bool.and_eq_true_iff.mp (Bool.and_eq_true_iff.mp (Bool.and_eq_true_iff.mp (Bool.and_eq_true_iff.mp (Bool.and_eq_true_iff.mp (Bool.and_eq_true_iff.mp (Bool.and_eq_true_iff.mp (Bool.and_eq_true_iff.mp (Bool.and_eq_true_iff.mp (Bool.and_eq_true_iff.mp (Bool.and_eq_true_iff.mp (Bool.and_eq_true_iff.mp (Bool.and_eq_true_iff.mp (Bool.and_eq_true_iff.mp (Bool.and_eq_true_iff.mp (Bool.and_eq_true_iff.mp (Bool.and_eq_true_iff.mp (Bool.and_eq_true_iff.mp (Bool.and_eq_true_iff.mp (Bool.and_eq_true_iff.mp (Bool.and_eq_true_iff.mp (Bool.and_eq_true_iff.mp (Bool.and_eq_true_iff.mp (Bool.and_eq_true_iff.mp (Bool.and_eq_true_iff.mp (Bool.and_eq_true_iff.mp (Bool.and_eq_true_iff.mp (Bool.and_eq_true_iff.mp (Bool.and_eq_true_iff.mp (Bool.and_eq_true_iff.mp (Bool.and_eq_true_iff.mp (Bool.and_eq_true_iff.mp (Bool.and_eq_true_iff.mp (Bool.and_eq_true_iff.mp (Bool.and_eq_true_iff.mp (Bool.and_eq_true_iff.mp (Bool.and_eq_true_iff.mp (Bool.and_eq_true_iff.mp (Bool.and_eq_true_iff.mp (Bool.and_eq_true_iff.mp (Bool.and_eq_true_iff.mp (Bool.and_eq_true_iff.mp (Bool.and_eq_true_iff.mp (Bool.and_eq_true_iff.mp (Bool.and_eq_true_iff.mp (Bool.and_eq_true_iff.mp (Bool.and_eq_true_iff.mp (Bool.and_eq_true_iff.mp (Bool.and_eq_true_iff.mp (Bool.and_eq_true_iff.mp (Bool.and_eq_true_iff.mp (Bool.and_eq_true_iff.mp (Bool.and_eq_true_iff.mp (Bool.and_eq_true_iff.mp (Bool.and_eq_true_iff.mp (Bool.and_eq_true_iff.mp (Bool.and_eq_true_iff.mp xq).1).1).1).1).1).1).1).1).1).1).1).1).1).1).1).1).1).1).1).1).1).1).1).1).1).1).1).1).1).1).1).1).1).1).1).1).1).1).1).1).1).1).1).1).1).1).1).1).1).1).1).1).1).1).1).1).1).1).1).1).1).1).1).1).1).1).1).1).1).1).1).1).1).1).1).1).1).1).1).1).1).1).1).1).1).1).1).1).1).1).1).1).1).1).1).1).1).1).1).1).1).1).1).1).1).1).1).1).1).1).1).1).1).1).1).1).1).1).1).1).1).1).2),
    errB_ok ((Bool.and_eq_true_iff.mp (Bool.and_eq_true_iff.mp (Bool.and_eq_true_iff.mp (Bool.and_eq_true_iff.mp (Bool.and_eq_true_iff.mp (Bool.and_eq_true_iff.mp (Bool.and_eq_true_iff.mp (Bool.and_eq_true_iff.mp (Bool.and_eq_true_iff.mp (Bool.and_eq_true_iff.mp (Bool.and_eq_true_iff.mp (Bool.and_eq_true_iff.mp (Bool.and_eq_true_iff.mp (Bool.and_eq_true_iff.mp (Bool.and_eq_true_iff.mp (Bool.and_eq_true_iff.mp (Bool.and_eq_true_iff.mp (Bool.and_eq_true_iff.mp (Bool.and_eq_true_iff.mp (Bool.and_eq_true_iff.mp (Bool.and_eq_true_iff.mp (Bool.and_eq_true_iff.mp (Bool.and_eq_true_iff.mp (Bool.and_eq_true_iff.mp (Bool.and_eq_true_iff.mp (Bool.and_eq_true_iff.mp (Bool.and_eq_true_iff.mp (Bool.and_eq_true_iff.mp (Bool.and_eq_true_iff.mp (Bool.and_eq_true_iff.mp (Bool.and_eq_true_iff.mp (Bool.and_eq_true_iff.mp (Bool.and_eq_true_iff.mp (Bool.and_eq_true_iff.mp (Bool.and_eq_true_iff.mp (Bool.and_eq_true_iff.mp (Bool.and_eq_true_iff.mp (Bool.and_eq_true_iff.mp (Bool.and_eq_true_iff.mp (Bool.and_eq_true_iff.mp (Bool.and_eq_true_iff.mp (Bool.and_eq_true_iff.mp (Bool.and_eq_true_iff.mp (Bool.and_eq_true_iff.mp (Bool.and_eq_true_iff.mp (Bool.and_eq_true_iff.mp (Bool.and_eq_true_iff.mp (Bool.and_eq_true_iff.mp (Bool.and_eq_true_iff.mp (Bool.and_eq_true_iff.mp (Bool.and_eq_true_iff.mp (Bool.and_eq_true_iff.mp (Bool.and_eq_true_iff.mp (Bool.and_eq_true_iff.mp (Bool.and_eq_true_iff.mp (Bool.and_eq_true_iff.mp (Bool.and_eq_true_iff.mp (Bool.and_eq_true_iff.mp (Bool.and_eq_true_iff.mp (Bool.and_eq_true_iff.mp (Bool.and_eq_true_iff.mp (Bool.and_eq_true_iff.mp (Bool.and_eq_true_iff.mp (Bool.and_eq_true_iff.mp (Bool.and_eq_true_iff.mp (Bool.and_eq_true_iff.mp (Bool.and_eq_true_iff.mp (Bool.and_eq_true_iff.mp (Bool.and_eq_true_iff.mp (Bool.and_eq_true_iff.mp (Bool.and_eq_true_iff.mp (Bool.and_eq_true_iff.mp (Bool.and_eq_true_iff.mp (Bool.and_eq_true_iff.mp (Bool.and_eq_true_iff.mp (Bool.and_eq_true_iff.mp (Bool.and_eq_true_iff.mp (Bool.and_eq_true_iff.mp (Bool.and_eq_true_iff.mp (Bool.and_eq_true_iff.mp (Bool.and_eq_true_iff.mp (Bool.and_eq_true_iff.mp (Bool.and_eq_true_iff.mp (Bool.and_eq_true_iff.mp (Bool.and_eq_true_iff.mp (Bool.and_eq_true_iff.mp (Bool.and_eq_true_iff.mp (Bool.and_eq_true_iff.mp (Bool.and_eq_true_iff.mp (Bool.and_eq_true_iff.mp (Bool.and_eq_true_iff.mp (Bool.and_eq_true_iff.mp (Bool.and_eq_true_iff.mp (Bool.and_eq_true_iff.mp (Bool.and_eq_true_iff.mp (Bool.and_eq_true_iff.mp (Bool.and_eq_true_iff.mp (Bool.and_eq_true_iff.mp (Bool.and_eq_true_iff.mp (Bool.and_eq_true_iff.mp (Bool.and_eq_true_iff.mp (Bool.and_eq_true_iff.mp (Bool.and_eq_true_iff.mp (Bool.and_eq_true_iff.mp (Bool.and_eq_true_iff.mp (Bool.and_eq_true_iff.mp (Bool.and_eq_true_iff.mp (Bool.and_eq_true_iff.mp (Bool.and_eq_true_iff.mp (Bool.and_eq_true_iff.mp (Bool.and_eq_true_iff.mp (Bool.and_eq_true_iff.mp (Bool.and_eq_true_iff.mp (Bool.and_eq_true_iff.mp (Bool.and_eq_true_iff.mp (Bool.and_eq_true_iff.mp (Bool.and_eq_true_iff.mp (Bool.and_eq_true_iff.mp (Bool.and_eq_true_iff.mp (Bool.and_eq_true_iff.mp (Bool.and_eq_true_iff.mp (Bool.and_eq_true_iff.mp xq).1).1).1).1).1).1).1).1).1).1).1).1).1).1).1).1).1).1).1).1).1).1).1).1).1).1).1).1).1).1).1).1).1).1).1).1).1).1).1).1).1).1).1).1).1).1).1).1).1).1).1).1).1).1).1).1).1).1).1).1).1).1).1).1).1).1).1).1).1).1).1).1).1).1).1).1).1).1).1).1).1).1).1).1).1).1).1).1).1).1).1).1).1).1).1).1).1).1).1).1).1).1).1).1).1).1).1).1).1).1).1).1).1).1).1).1).1).1).1).1).1).2),
    He.eqO_ok ((Bool.and_eq_true_iff.mp (Bool.and_eq_true_iff.mp (Bool.and_eq_true_iff.mp (Bool.and_eq_true_iff.mp (Bool.and_eq_true_iff.mp (Bool.and_eq_true_iff.mp (Bool.and_eq_true_iff.mp (Bool.and_eq_true_iff.mp (Bool.and_eq_true_iff.mp (Bool.and_eq_true_iff.mp (Bool.and_eq_true_iff.mp (Bool.and_eq_true_iff.mp (Bool.and_eq_true_iff.mp (Bool.and_eq_true_iff.mp (Bool.and_eq_true_iff.mp (Bool.and_eq_true_iff.mp (Bool.and_eq_true_iff.mp (Bool.and_eq_true_iff.mp (Bool.and_eq_true_iff.mp (Bool.and_eq_true_iff.mp (Bool.and_eq_true_iff.mp (Bool.and_eq_true_iff.mp (Bool.and_eq_true_iff.mp (Bool.and_eq_true_iff.mp (Bool.and_eq_true_iff.mp (Bool.and_eq_true_iff.mp (Bool.and_eq_true_iff.mp (Bool.and_eq_true_iff.mp (Bool.and_eq_true_iff.mp (Bool.and_eq_true_iff.mp (Bool.and_eq_true_iff.mp (Bool.and_eq_true_iff.mp (Bool.and_eq_true_iff.mp (Bool.and_eq_true_iff.mp (Bool.and_eq_true_iff.mp (Bool.and_eq_true_iff.mp (Bool.and_eq_true_iff.mp (Bool.and_eq_true_iff.mp (Bool.and_eq_true_iff.mp (Bool.and_eq_true_iff.mp (Bool.and_eq_true_iff.mp (Bool.and_eq_true_iff.mp (Bool.and_eq_true_iff.mp (Bool.and_eq_true_iff.mp (Bool.and_eq_true_iff.mp (Bool.and_eq_true_iff.mp (Bool.and_eq_true_iff.mp (Bool.and_eq_true_iff.mp (Bool.and_eq_true_iff.mp (Bool.and_eq_true_iff.mp (Bool.and_eq_true_iff.mp (Bool.and_eq_true_iff.mp (Bool.and_eq_true_iff.mp (Bool.and_eq_true_iff.mp (Bool.and_eq_true_iff.mp (Bool.and_eq_true_iff.mp (Bool.and_eq_true_iff.mp (Bool.and_eq_true_iff.mp (Bool.and_eq_true_iff.mp (Bool.and_eq_true_iff.mp (Bool.and_eq_true_iff.mp (Bool.and_eq_true_iff.mp (Bool.and_eq_true_iff.mp (Bool.and_eq_true_iff.mp (Bool.and_eq_true_iff.mp (Bool.and_eq_true_iff.mp (Bool.and_eq_true_iff.mp (Bool.and_eq_true_iff.mp (Bool.and_eq_true_iff.mp (Bool.and_eq_true_iff.mp (Bool.and_eq_true_iff.mp (Bool.and_eq_true_iff.mp (Bool.and_eq_true_iff.mp (Bool.and_eq_true_iff.mp (Bool.and_eq_true_iff.mp (Bool.and_eq_true_iff.mp (Bool.and_eq_true_iff.mp (Bool.and_eq_true_iff.mp (Bool.and_eq_true_iff.mp (Bool.and_eq_true_iff.mp (Bool.and_eq_true_iff.mp (Bool.and_eq_true_iff.mp (Bool.and_eq_true_iff.mp (Bool.and_eq_true_iff.mp (Bool.and_eq_true_iff.mp (Bool.and_eq_true_iff.mp (Bool.and_eq_true_iff.mp (Bool.and_eq_true_iff.mp (Bool.and_eq_true_iff.mp (Bool.and_eq_true_iff.mp (Bool.and_eq_true_iff.mp (Bool.and_eq_true_iff.mp (Bool.and_eq_true_iff.mp (Bool.and_eq_true_iff.mp (Bool.and_eq_true_iff.mp (Bool.and_eq_true_iff.mp (Bool.and_eq_true_iff.mp (Bool.and_eq_true_iff.mp (Bool.and_eq_true_iff.mp (Bool.and_eq_true_iff.mp (Bool.and_eq_true_iff.mp (Bool.and_eq_true_iff.mp (Bool.and_eq_true_iff.mp (Bool.and_eq_true_iff.mp (Bool.and_eq_true_iff.mp (Bool.and_eq_true_iff.mp (Bool.and_eq_true_iff.mp (Bool.and_eq_true_iff.mp (Bool.and_eq_true_iff.mp (Bool.and_eq_true_iff.mp (Bool.and_eq_true_iff.mp (Bool.and_eq_true_iff.mp (Bool.and_eq_true_iff.mp (Bool.and_eq_true_iff.mp (Bool.and_eq_true_iff.mp (Bool.and_eq_true_iff.mp (Bool.and_eq_true_iff.mp (Bool.and_eq_true_iff.mp (Bool.and_eq_true_iff.mp (Bool.and_eq_true_iff.mp (Bool.and_eq_true_iff.mp xq).1).1).1).1).1).1).1).1).1).1).1).1).1).1).1).1).1).1).1).1).1).1).1).1).1).1).1).1).1).1).1).1).1).1).1).1).1).1).1).1).1).1).1).1).1).1).1).1).1).1).1).1).1).1).1).1).1).1).1).1).1).1).1).1).1).1).1).1).1).1).1).1).1).1).1).1).1).1).1).1).1).1).1).1).1).1).1).1).1).1).1).1).1).1).1).1).1).1).1).1).1).1).1).1).1).1).1).1).1).1).1).1).1).1).1).1).1).1).1).1).2),
    errB_ok ((Bool.and_eq_true_iff.mp (Bool.and_eq_true_iff.mp (Bool.and_eq_true_iff.mp (Bool.and_eq_true_iff.mp (Bool.and_eq_true_iff.mp (Bool.and_eq_true_iff.mp (Bool.and_eq_true_iff.mp (Bool.and_eq_true_iff.mp (Bool.and_eq_true_iff.mp (Bool.and_eq_true_iff.mp (Bool.and_eq_true_iff.mp (Bool.and_eq_true_iff.mp (Bool.and_eq_true_iff.mp (Bool.and_eq_true_iff.mp (Bool.and_eq_true_iff.mp (Bool.and_eq_true_iff.mp (Bool.and_eq_true_iff.mp (Bool.and_eq_true_iff.mp (Bool.and_eq_true_iff.mp (Bool.and_eq_true_iff.mp (Bool.and_eq_true_iff.mp (Bool.and_eq_true_iff.mp (Bool.and_eq_true_iff.mp (Bool.and_eq_true_iff.mp (Bool.and_eq_true_iff.mp (Bool.and_eq_true_iff.mp (Bool.and_eq_true_iff.mp (Bool.and_eq_true_iff.mp (Bool.and_eq_true_iff.mp (Bool.and_eq_true_iff.mp (Bool.and_eq_true_iff.mp (Bool.and_eq_true_iff.mp (Bool.and_eq_true_iff.mp (Bool.and_eq_true_iff.mp (Bool.and_eq_true_iff.mp (Bool.and_eq_true_iff.mp (Bool.and_eq_true_iff.mp (Bool.and_eq_true_iff.mp (Bool.and_eq_true_iff.mp (Bool.and_eq_true_iff.mp (Bool.and_eq_true_iff.mp (Bool.and_eq_true_iff.mp (Bool.and_eq_true_iff.mp (Bool.and_eq_true_iff.mp (Bool.and_eq_true_iff.mp (Bool.and_eq_true_iff.mp (Bool.and_eq_true_iff.mp (Bool.and_eq_true_iff.mp (Bool.and_eq_true_iff.mp (Bool.and_eq_true_iff.mp (Bool.and_eq_true_iff.mp (Bool.and_eq_true_iff.mp (Bool.and_eq_true_iff.mp (Bool.and_eq_true_iff.mp (Bool.and_eq_true_iff.mp (Bool.and_eq_true_iff.mp (Bool.and_eq_true_iff.mp (Bool.and_eq_true_iff.mp (Bool.and_eq_true_iff.mp (Bool.and_eq_true_iff.mp (Bool.and_eq_true_iff.mp (Bool.and_eq_true_iff.mp (Bool.and_eq_true_iff.mp (Bool.and_eq_true_iff.mp (Bool.and_eq_true_iff.mp (Bool.and_eq_true_iff.mp (Bool.and_eq_true_iff.mp (Bool.and_eq_true_iff.mp (Bool.and_eq_true_iff.mp (Bool.and_eq_true_iff.mp (Bool.and_eq_true_iff.mp (Bool.and_eq_true_iff.mp (Bool.and_eq_true_iff.mp (Bool.and_eq_true_iff.mp (Bool.and_eq_true_iff.mp (Bool.and_eq_true_iff.mp (Bool.and_eq_true_iff.mp (Bool.and_eq_true_iff.mp (Bool.and_eq_true_iff.mp (Bool.and_eq_true_iff.mp (Bool.and_eq_true_iff.mp (Bool.and_eq_true_iff.mp (Bool.and_eq_true_iff.mp (Bool.and_eq_true_iff.mp (Bool.and_eq_true_iff.mp (Bool.and_eq_true_iff.mp (Bool.and_eq_true_iff.mp (Bool.and_eq_true_iff.mp (Bool.and_eq_true_iff.mp (Bool.and_eq_true_iff.mp (Bool.and_eq_true_iff.mp (Bool.and_eq_true_iff.mp (Bool.and_eq_true_iff.mp (Bool.and_eq_true_iff.mp (Bool.and_eq_true_iff.mp (Bool.and_eq_true_iff.mp (Bool.and_eq_true_iff.mp (Bool.and_eq_true_iff.mp (Bool.and_eq_true_iff.mp (Bool.and_eq_true_iff.mp (Bool.and_eq_true_iff.mp (Bool.and_eq_true_iff.mp (Bool.and_eq_true_iff.mp (Bool.and_eq_true_iff.mp (Bool.and_eq_true_iff.mp (Bool.and_eq_true_iff.mp (Bool.and_eq_true_iff.mp (Bool.and_eq_true_iff.mp (Bool.and_eq_true_iff.mp (Bool.and_eq_true_iff.mp (Bool.and_eq_true_iff.mp (Bool.and_eq_true_iff.mp (Bool.and_eq_true_iff.mp (Bool.and_eq_true_iff.mp (Bool.and_eq_true_iff.mp (Bool.and_eq_true_iff.mp (Bool.and_eq_true_iff.mp (Bool.and_eq_true_iff.mp (Bool.and_eq_true_iff.mp (Bool.and_eq_true_iff.mp xq).1).1).1).1).1).1).1).1).1).1).1).1).1).1).1).1).1).1).1).1).1).1).1).1).1).1).1).1).1).1).1).1).1).1).1).1).1).1).1).1).1).1).1).1).1).1).1).1).1).1).1).1).1).1).1).1).1).1).1).1).1).1).1).1).1).1).1).1).1).1).1).1).1).1).1).1).1).1).1).1).1).1).1).1).1).1).1).1).1).1).1).1).1).1).1).1).1).1).1).1).1).1).1).1).1).1).1).1).1).1).1).1).1).1).1).1).1).1).1).2),
    He.eqO_ok ((Bool.and_eq_true_iff.mp (Bool.and_eq_true_iff.mp (Bool.and_eq_true_iff.mp (Bool.and_eq_true_iff.mp (Bool.and_eq_true_iff.mp (Bool.and_eq_true_iff.mp (Bool.and_eq_true_iff.mp (Bool.and_eq_true_iff.mp (Bool.and_eq_true_iff.mp (Bool.and_eq_true_iff.mp (Bool.and_eq_true_iff.mp (Bool.and_eq_true_iff.mp (Bool.and_eq_true_iff.mp (Bool.and_eq_true_iff.mp (Bool.and_eq_true_iff.mp (Bool.and_eq_true_iff.mp (Bool.and_eq_true_iff.mp (Bool.and_eq_true_iff.mp (Bool.and_eq_true_iff.mp (Bool.and_eq_true_iff.mp (Bool.and_eq_true_iff.mp (Bool.and_eq_true_iff.mp (Bool.and_eq_true_iff.mp (Bool.and_eq_true_iff.mp (Bool.and_eq_true_iff.mp (Bool.and_eq_true_iff.mp (Bool.and_eq_true_iff.mp (Bool.and_eq_true_iff.mp (Bool.and_eq_true_iff.mp (Bool.and_eq_true_iff.mp (Bool.and_eq_true_iff.mp (Bool.and_eq_true_iff.mp (Bool.and_eq_true_iff.mp (Bool.and_eq_true_iff.mp (Bool.and_eq_true_iff.mp (Bool.and_eq_true_iff.mp (Bool.and_eq_true_iff.mp (Bool.and_eq_true_iff.mp (Bool.and_eq_true_iff.mp (Bool.and_eq_true_iff.mp (Bool.and_eq_true_iff.mp (Bool.and_eq_true_iff.mp (Bool.and_eq_true_iff.mp (Bool.and_eq_true_iff.mp (Bool.and_eq_true_iff.mp (Bool.and_eq_true_iff.mp (Bool.and_eq_true_iff.mp (Bool.and_eq_true_iff.mp (Bool.and_eq_true_iff.mp (Bool.and_eq_true_iff.mp (Bool.and_eq_true_iff.mp (Bool.and_eq_true_iff.mp (Bool.and_eq_true_iff.mp (Bool.and_eq_true_iff.mp (Bool.and_eq_true_iff.mp (Bool.and_eq_true_iff.mp (Bool.and_eq_true_iff.mp (Bool.and_eq_true_iff.mp (Bool.and_eq_true_iff.mp (Bool.and_eq_true_iff.mp (Bool.and_eq_true_iff.mp (Bool.and_eq_true_iff.mp (Bool.and_eq_true_iff.mp (Bool.and_eq_true_iff.mp (Bool.and_eq_true_iff.mp (Bool.and_eq_true_iff.mp (Bool.and_eq_true_iff.mp (Bool.and_eq_true_iff.mp (Bool.and_eq_true_iff.mp (Bool.and_eq_true_iff.mp (Bool.and_eq_true_iff.mp (Bool.and_eq_true_iff.mp (Bool.and_eq_true_iff.mp (Bool.and_eq_true_iff.mp (Bool.and_eq_true_iff.mp (Bool.and_eq_true_iff.mp (Bool.and_eq_true_iff.mp (Bool.and_eq_true_iff.mp (Bool.and_eq_true_iff.mp (Bool.and_eq_true_iff.mp (Bool.and_eq_true_iff.mp (Bool.and_eq_true_iff.mp (Bool.and_eq_true_iff.mp (Bool.and_eq_true_iff.mp (Bool.and_eq_true_iff.mp (Bool.and_eq_true_iff.mp (Bool.and_eq_true_iff.mp (Bool.and_eq_true_iff.mp (Bool.and_eq_true_iff.mp (Bool.and_eq_true_iff.mp (Bool.and_eq_true_iff.mp (Bool.and_eq_true_iff.mp (Bool.and_eq_true_iff.mp (Bool.and_eq_true_iff.mp (Bool.and_eq_true_iff.mp (Bool.and_eq_true_iff.mp (Bool.and_eq_true_iff.mp (Bool.and_eq_true_iff.mp (Bool.and_eq_true_iff.mp (Bool.and_eq_true_iff.mp (Bool.and_eq_true_iff.mp (Bool.and_eq_true_iff.mp (Bool.and_eq_true_iff.mp (Bool.and_eq_true_iff.mp (Bool.and_eq_true_iff.mp (Bool.and_eq_true_iff.mp (Bool.and_eq_true_iff.mp (Bool.and_eq_true_iff.mp (Bool.and_eq_true_iff.mp (Bool.and_eq_true_iff.mp (Bool.and_eq_true_iff.mp (Bool.and_eq_true_iff.mp (Bool.and_eq_true_iff.mp (Bool.and_eq_true_iff.mp (Bool.and_eq_true_iff.mp (Bool.and_eq_true_iff.mp (Bool.and_eq_true_iff.mp (Bool.and_eq_true_iff.mp (Bool.and_eq_true_iff.mp xq).1).1).1).1).1).1).1).1).1).1).1).1).1).1).1).1).1).1).1).1).1).1).1).1).1).1).1).1).1).1).1).1).1).1).1).1).1).1).1).1).1).1).1).1).1).1).1).1).1).1).1).1).1).1).1).1).1).1).1).1).1).1).1).1).1).1).1).1).1).1).1).1).1).1).1).1).1).1).1).1).1).1).1).1).1).1).1).1).1).1).1).1).1).1).1).1).1).1).1).1).1).1).1).1).1).1).1).1).1).1).1).1).1).1).1).1).1).1).2),
    errB_ok ((Bool.and_eq_true_iff.mp (Bool.and_eq_true_iff.mp (Bool.and_eq_true_iff.mp (Bool.and_eq_true_iff.mp (Bool.and_eq_true_iff.mp (Bool.and_eq_true_iff.mp (Bool.and_eq_true_iff.mp (Bool.and_eq_true_iff.mp (Bool.and_eq_true_iff.mp (Bool.and_eq_true_iff.mp (Bool.and_eq_true_iff.mp (Bool.and_eq_true_iff.mp (Bool.and_eq_true_iff.mp (Bool.and_eq_true_iff.mp (Bool.and_eq_true_iff.mp (Bool.and_eq_true_iff.mp (Bool.and_eq_true_iff.mp (Bool.and_eq_true_iff.mp (Bool.and_eq_true_iff.mp (Bool.and_eq_true_iff.mp (Bool.and_eq_true_iff.mp (Bool.and_eq_true_iff.mp (Bool.and_eq_true_iff.mp (Bool.and_eq_true_iff.mp (Bool.and_eq_true_iff.mp (Bool.and_eq_true_iff.mp (Bool.and_eq_true_iff.mp (Bool.and_eq_true_iff.mp (Bool.and_eq_true_iff.mp (Bool.and_eq_true_iff.mp (Bool.and_eq_true_iff.mp (Bool.and_eq_true_iff.mp (Bool.and_eq_true_iff.mp (Bool.and_eq_true_iff.mp (Bool.and_eq_true_iff.mp (Bool.and_eq_true_iff.mp (Bool.and_eq_true_iff.mp (Bool.and_eq_true_iff.mp (Bool.and_eq_true_iff.mp (Bool.and_eq_true_iff.mp (Bool.and_eq_true_iff.mp (Bool.and_eq_true_iff.mp (Bool.and_eq_true_iff.mp (Bool.and_eq_true_iff.mp (Bool.and_eq_true_iff.mp (Bool.and_eq_true_iff.mp (Bool.and_eq_true_iff.mp (Bool.and_eq_true_iff.mp (Bool.and_eq_true_iff.mp (Bool.and_eq_true_iff.mp (Bool.and_eq_true_iff.mp (Bool.and_eq_true_iff.mp (Bool.and_eq_true_iff.mp (Bool.and_eq_true_iff.mp (Bool.and_eq_true_iff.mp (Bool.and_eq_true_iff.mp (Bool.and_eq_true_iff.mp (Bool.and_eq_true_iff.mp (Bool.and_eq_true_iff.mp (Bool.and_eq_true_iff.mp (Bool.and_eq_true_iff.mp (Bool.and_eq_true_iff.mp (Bool.and_eq_true_iff.mp (Bool.and_eq_true_iff.mp (Bool.and_eq_true_iff.mp (Bool.and_eq_true_iff.mp (Bool.and_eq_true_iff.mp (Bool.and_eq_true_iff.mp (Bool.and_eq_true_iff.mp (Bool.and_eq_true_iff.mp (Bool.and_eq_true_iff.mp (Bool.and_eq_true_iff.mp (Bool.and_eq_true_iff.mp (Bool.and_eq_true_iff.mp (Bool.and_eq_true_iff.mp (Bool.and_eq_true_iff.mp (Bool.and_eq_true_iff.mp (Bool.and_eq_true_iff.mp (Bool.and_eq_true_iff.mp (Bool.and_eq_true_iff.mp (Bool.and_eq_true_iff.mp (Bool.and_eq_true_iff.mp (Bool.and_eq_true_iff.mp (Bool.and_eq_true_iff.mp (Bool.and_eq_true_iff.mp (Bool.and_eq_true_iff.mp (Bool.and_eq_true_iff.mp (Bool.and_eq_true_iff.mp (Bool.and_eq_true_iff.mp (Bool.and_eq_true_iff.mp (Bool.and_eq_true_iff.mp (Bool.and_eq_true_iff.mp (Bool.and_eq_true_iff.mp (Bool.and_eq_true_iff.mp (Bool.and_eq_true_iff.mp (Bool.and_eq_true_iff.mp (Bool.and_eq_true_iff.mp (Bool.and_eq_true_iff.mp (Bool.and_eq_true_iff.mp (Bool.and_eq_true_iff.mp (Bool.and_eq_true_iff.mp (Bool.and_eq_true_iff.mp (Bool.and_eq_true_iff.mp (Bool.and_eq_true_iff.mp (Bool.and_eq_true_iff.mp (Bool.and_eq_true_iff.mp (Bool.and_eq_true_iff.mp (Bool.and_eq_true_iff.mp (Bool.and_eq_true_iff.mp (Bool.and_eq_true_iff.mp (Bool.and_eq_true_iff.mp (Bool.and_eq_true_iff.mp (Bool.and_eq_true_iff.mp (Bool.and_eq_true_iff.mp (Bool.and_eq_true_iff.mp (Bool.and_eq_true_iff.mp (Bool.and_eq_true_iff.mp (Bool.and_eq_true_iff.mp xq).1).1).1).1).1).1).1).1).1).1).1).1).1).1).1).1).1).1).1).1).1).1).1).1).1).1).1).1).1).1).1).1).1).1).1).1).1).1).1).1).1).1).1).1).1).1).1).1).1).1).1).1).1).1).1).1).1).1).1).1).1).1).1).1).1).1).1).1).1).1).1).1).1).1).1).1).1).1).1).1).1).1).1).1).1).1).1).1).1).1).1).1).1).1).1).1).1).1).1).1).1).1).1).1).1).1).1).1).1).1).1).1).1).1).1).1).1).2),
    He.eqO_ok ((Bool.and_eq_true_iff.mp (Bool.and_eq_true_iff.mp (Bool.and_eq_true_iff.mp (Bool.and_eq_true_iff.mp (Bool.and_eq_true_iff.mp (Bool.and_eq_true_iff.mp (Bool.and_eq_true_iff.mp (Bool.and_eq_true_iff.mp (Bool.and_eq_true_iff.mp (Bool.and_eq_true_iff.mp (Bool.and_eq_true_iff.mp (Bool.and_eq_true_iff.mp (Bool.and_eq_true_iff.mp (Bool.and_eq_true_iff.mp (Bool.and_eq_true_iff.mp (Bool.and_eq_true_iff.mp (Bool.and_eq_true_iff.mp (Bool.and_eq_true_iff.mp (Bool.and_eq_true_iff.mp (Bool.and_eq_true_iff.mp (Bool.and_eq_true_iff.mp (Bool.and_eq_true_iff.mp (Bool.and_eq_true_iff.mp (Bool.and_eq_true_iff.mp (Bool.and_eq_true_iff.mp (Bool.and_eq_true_iff.mp (Bool.and_eq_true_iff.mp (Bool.and_eq_true_iff.mp (Bool.and_eq_true_iff.mp (Bool.and_eq_true_iff.mp (Bool.and_eq_true_iff.mp (Bool.and_eq_true_iff.mp (Bool.and_eq_true_iff.mp (Bool.and_eq_true_iff.mp (Bool.and_eq_true_iff.mp (Bool.and_eq_true_iff.mp (Bool.and_eq_true_iff.mp (Bool.and_eq_true_iff.mp (Bool.and_eq_true_iff.mp (Bool.and_eq_true_iff.mp (Bool.and_eq_true_iff.mp (Bool.and_eq_true_iff.mp (Bool.and_eq_true_iff.mp (Bool.and_eq_true_iff.mp (Bool.and_eq_true_iff.mp (Bool.and_eq_true_iff.mp (Bool.and_eq_true_iff.mp (Bool.and_eq_true_iff.mp (Bool.and_eq_true_iff.mp (Bool.and_eq_true_iff.mp (Bool.and_eq_true_iff.mp (Bool.and_eq_true_iff.mp (Bool.and_eq_true_iff.mp (Bool.and_eq_true_iff.mp (Bool.and_eq_true_iff.mp (Bool.and_eq_true_iff.mp (Bool.and_eq_true_iff.mp (Bool.and_eq_true_iff.mp (Bool.and_eq_true_iff.mp (Bool.and_eq_true_iff.mp (Bool.and_eq_true_iff.mp (Bool.and_eq_true_iff.mp (Bool.and_eq_true_iff.mp (Bool.and_eq_true_iff.mp (Bool.and_eq_true_iff.mp (Bool.and_eq_true_iff.mp (Bool.and_eq_true_iff.mp (Bool.and_eq_true_iff.mp (Bool.and_eq_true_iff.mp (Bool.and_eq_true_iff.mp (Bool.and_eq_true_iff.mp (Bool.and_eq_true_iff.mp (Bool.and_eq_true_iff.mp (Bool.and_eq_true_iff.mp (Bool.and_eq_true_iff.mp (Bool.and_eq_true_iff.mp (Bool.and_eq_true_iff.mp (Bool.and_eq_true_iff.mp (Bool.and_eq_true_iff.mp (Bool.and_eq_true_iff.mp (Bool.and_eq_true_iff.mp (Bool.and_eq_true_iff.mp (Bool.and_eq_true_iff.mp (Bool.and_eq_true_iff.mp (Bool.and_eq_true_iff.mp (Bool.and_eq_true_iff.mp (Bool.and_eq_true_iff.mp (Bool.and_eq_true_iff.mp (Bool.and_eq_true_iff.mp (Bool.and_eq_true_iff.mp (Bool.and_eq_true_iff.mp (Bool.and_eq_true_iff.mp (Bool.and_eq_true_iff.mp (Bool.and_eq_true_iff.mp (Bool.and_eq_true_iff.mp (Bool.and_eq_true_iff.mp (Bool.and_eq_true_iff.mp (Bool.and_eq_true_iff.mp (Bool.and_eq_true_iff.mp (Bool.and_eq_true_iff.mp (Bool.and_eq_true_iff.mp (Bool.and_eq_true_iff.mp (Bool.and_eq_true_iff.mp (Bool.and_eq_true_iff.mp (Bool.and_eq_true_iff.mp (Bool.and_eq_true_iff.mp (Bool.and_eq_true_iff.mp (Bool.and_eq_true_iff.mp (Bool.and_eq_true_iff.mp (Bool.and_eq_true_iff.mp (Bool.and_eq_true_iff.mp (Bool.and_eq_true_iff.mp (Bool.and_eq_true_iff.mp (Bool.and_eq_true_iff.mp (Bool.and_eq_true_iff.mp (Bool.and_eq_true_iff.mp (Bool.and_eq_true_iff.mp xq).1).1).1).1).1).1).1).1).1).1).1).1).1).1).1).1).1).1).1).1).1).1).1).1).1).1).1).1).1).1).1).1).1).1).1).1).1).1).1).1).1).1).1).1).1).1).1).1).1).1).1).1).1).1).1).1).1).1).1).1).1).1).1).1).1).1).1).1).1).1).1).1).1).1).1).1).1).1).1).1).1).1).1).1).1).1).1).1).1).1).1).1).1).1).1).1).1).1).1).1).1).1).1).1).1).1).1).1).1).1).1).1).1).1).1).1).2),
    errB_ok ((Bool.and_eq_true_iff.mp (Bool.and_eq_true_iff.mp (Bool.and_eq_true_iff.mp (Bool.and_eq_true_iff.mp (Bool.and_eq_true_iff.mp (Bool.and_eq_true_iff.mp (Bool.and_eq_true_iff.mp (Bool.and_eq_true_iff.mp (Bool.and_eq_true_iff.mp (Bool.and_eq_true_iff.mp (Bool.and_eq_true_iff.mp (Bool.and_eq_true_iff.mp (Bool.and_eq_true_iff.mp (Bool.and_eq_true_iff.mp (Bool.and_eq_true_iff.mp (Bool.and_eq_true_iff.mp (Bool.and_eq_true_iff.mp (Bool.and_eq_true_iff.mp (Bool.and_eq_true_iff.mp (Bool.and_eq_true_iff.mp (Bool.and_eq_true_iff.mp (Bool.and_eq_true_iff.mp (Bool.and_eq_true_iff.mp (Bool.and_eq_true_iff.mp (Bool.and_eq_true_iff.mp (Bool.and_eq_true_iff.mp (Bool.and_eq_true_iff.mp (Bool.and_eq_true_iff.mp (Bool.and_eq_true_iff.mp (Bool.and_eq_true_iff.mp (Bool.and_eq_true_iff.mp (Bool.and_eq_true_iff.mp (Bool.and_eq_true_iff.mp (Bool.and_eq_true_iff.mp (Bool.and_eq_true_iff.mp (Bool.and_eq_true_iff.mp (Bool.and_eq_true_iff.mp (Bool.and_eq_true_iff.mp (Bool.and_eq_true_iff.mp (Bool.and_eq_true_iff.mp (Bool.and_eq_true_iff.mp (Bool.and_eq_true_iff.mp (Bool.and_eq_true_iff.mp (Bool.and_eq_true_iff.mp (Bool.and_eq_true_iff.mp (Bool.and_eq_true_iff.mp (Bool.and_eq_true_iff.mp (Bool.and_eq_true_iff.mp (Bool.and_eq_true_iff.mp (Bool.and_eq_true_iff.mp (Bool.and_eq_true_iff.mp (Bool.and_eq_true_iff.mp (Bool.and_eq_true_iff.mp (Bool.and_eq_true_iff.mp (Bool.and_eq_true_iff.mp (Bool.and_eq_true_iff.mp (Bool.and_eq_true_iff.mp (Bool.and_eq_true_iff.mp (Bool.and_eq_true_iff.mp (Bool.and_eq_true_iff.mp (Bool.and_eq_true_iff.mp (Bool.and_eq_true_iff.mp (Bool.and_eq_true_iff.mp (Bool.and_eq_true_iff.mp (Bool.and_eq_true_iff.mp (Bool.and_eq_true_iff.mp (Bool.and_eq_true_iff.mp (Bool.and_eq_true_iff.mp (Bool.and_eq_true_iff.mp (Bool.and_eq_true_iff.mp (Bool.and_eq_true_iff.mp (Bool.and_eq_true_iff.mp (Bool.and_eq_true_iff.mp (Bool.and_eq_true_iff.mp (Bool.and_eq_true_iff.mp (Bool.and_eq_true_iff.mp (Bool.and_eq_true_iff.mp (Bool.and_eq_true_iff.mp (Bool.and_eq_true_iff.mp (Bool.and_eq_true_iff.mp (Bool.and_eq_true_iff.mp (Bool.and_eq_true_iff.mp (Bool.and_eq_true_iff.mp (Bool.and_eq_true_iff.mp (Bool.and_eq_true_iff.mp (Bool.and_eq_true_iff.mp (Bool.and_eq_true_iff.mp (Bool.and_eq_true_iff.mp (Bool.and_eq_true_iff.mp (Bool.and_eq_true_iff.mp (Bool.and_eq_true_iff.mp (Bool.and_eq_true_iff.mp (Bool.and_eq_true_iff.mp (Bool.and_eq_true_iff.mp (Bool.and_eq_true_iff.mp (Bool.and_eq_true_iff.mp (Bool.and_eq_true_iff.mp (Bool.and_eq_true_iff.mp (Bool.and_eq_true_iff.mp (Bool.and_eq_true_iff.mp (Bool.and_eq_true_iff.mp (Bool.and_eq_true_iff.mp (Bool.and_eq_true_iff.mp (Bool.and_eq_true_iff.mp (Bool.and_eq_true_iff.mp (Bool.and_eq_true_iff.mp (Bool.and_eq_true_iff.mp (Bool.and_eq_true_iff.mp (Bool.and_eq_true_iff.mp (Bool.and_eq_true_iff.mp (Bool.and_eq_true_iff.mp (Bool.and_eq_true_iff.mp (Bool.and_eq_true_iff.mp (Bool.and_eq_true_iff.mp (Bool.and_eq_true_iff.mp (Bool.and_eq_true_iff.mp xq).1).1).1).1).1).1).1).1).1).1).1).1).1).1).1).1).1).1).1).1).1).1).1).1).1).1).1).1).1).1).1).1).1).1).1).1).1).1).1).1).1).1).1).1).1).1).1).1).1).1).1).1).1).1).1).1).1).1).1).1).1).1).1).1).1).1).1).1).1).1).1).1).1).1).1).1).1).1).1).1).1).1).1).1).1).1).1).1).1).1).1).1).1).1).1).1).1).1).1).1).1).1).1).1).1).1).1).1).1).1).1).1).1).1).1).2),
    He.eqO_ok ((Bool.and_eq_true_iff.mp (Bool.and_eq_true_iff.mp (Bool.and_eq_true_iff.mp (Bool.and_eq_true_iff.mp (Bool.and_eq_true_iff.mp (Bool.and_eq_true_iff.mp (Bool.and_eq_true_iff.mp (Bool.and_eq_true_iff.mp (Bool.and_eq_true_iff.mp (Bool.and_eq_true_iff.mp (Bool.and_eq_true_iff.mp (Bool.and_eq_true_iff.mp (Bool.and_eq_true_iff.mp (Bool.and_eq_true_iff.mp (Bool.and_eq_true_iff.mp (Bool.and_eq_true_iff.mp (Bool.and_eq_true_iff.mp (Bool.and_eq_true_iff.mp (Bool.and_eq_true_iff.mp (Bool.and_eq_true_iff.mp (Bool.and_eq_true_iff.mp (Bool.and_eq_true_iff.mp (Bool.and_eq_true_iff.mp (Bool.and_eq_true_iff.mp (Bool.and_eq_true_iff.mp (Bool.and_eq_true_iff.mp (Bool.and_eq_true_iff.mp (Bool.and_eq_true_iff.mp (Bool.and_eq_true_iff.mp (Bool.and_eq_true_iff.mp (Bool.and_eq_true_iff.mp (Bool.and_eq_true_iff.mp (Bool.and_eq_true_iff.mp (Bool.and_eq_true_iff.mp (Bool.and_eq_true_iff.mp (Bool.and_eq_true_iff.mp (Bool.and_eq_true_iff.mp (Bool.and_eq_true_iff.mp (Bool.and_eq_true_iff.mp (Bool.and_eq_true_iff.mp (Bool.and_eq_true_iff.mp (Bool.and_eq_true_iff.mp (Bool.and_eq_true_iff.mp (Bool.and_eq_true_iff.mp (Bool.and_eq_true_iff.mp (Bool.and_eq_true_iff.mp (Bool.and_eq_true_iff.mp (Bool.and_eq_true_iff.mp (Bool.and_eq_true_iff.mp (Bool.and_eq_true_iff.mp (Bool.and_eq_true_iff.mp (Bool.and_eq_true_iff.mp (Bool.and_eq_true_iff.mp (Bool.and_eq_true_iff.mp (Bool.and_eq_true_iff.mp (Bool.and_eq_true_iff.mp (Bool.and_eq_true_iff.mp (Bool.and_eq_true_iff.mp (Bool.and_eq_true_iff.mp (Bool.and_eq_true_iff.mp (Bool.and_eq_true_iff.mp (Bool.and_eq_true_iff.mp (Bool.and_eq_true_iff.mp (Bool.and_eq_true_iff.mp (Bool.and_eq_true_iff.mp (Bool.and_eq_true_iff.mp (Bool.and_eq_true_iff.mp (Bool.and_eq_true_iff.mp (Bool.and_eq_true_iff.mp (Bool.and_eq_true_iff.mp (Bool.and_eq_true_iff.mp (Bool.and_eq_true_iff.mp (Bool.and_eq_true_iff.mp (Bool.and_eq_true_iff.mp (Bool.and_eq_true_iff.mp (Bool.and_eq_true_iff.mp (Bool.and_eq_true_iff.mp (Bool.and_eq_true_iff.mp (Bool.and_eq_true_iff.mp (Bool.and_eq_true_iff.mp (Bool.and_eq_true_iff.mp (Bool.and_eq_true_iff.mp (Bool.and_eq_true_iff.mp (Bool.and_eq_true_iff.mp (Bool.and_eq_true_iff.mp (Bool.and_eq_true_iff.mp (Bool.and_eq_true_iff.mp (Bool.and_eq_true_iff.mp (Bool.and_eq_true_iff.mp (Bool.and_eq_true_iff.mp (Bool.and_eq_true_iff.mp (Bool.and_eq_true_iff.mp (Bool.and_eq_true_iff.mp (Bool.and_eq_true_iff.mp (Bool.and_eq_true_iff.mp (Bool.and_eq_true_iff.mp (Bool.and_eq_true_iff.mp (Bool.and_eq_true_iff.mp (Bool.and_eq_true_iff.mp (Bool.and_eq_true_iff.mp (Bool.and_eq_true_iff.mp (Bool.and_eq_true_iff.mp (Bool.and_eq_true_iff.mp (Bool.and_eq_true_iff.mp (Bool.and_eq_true_iff.mp (Bool.and_eq_true_iff.mp (Bool.and_eq_true_iff.mp (Bool.and_eq_true_iff.mp (Bool.and_eq_true_iff.mp (Bool.and_eq_true_iff.mp (Bool.and_eq_true_iff.mp (Bool.and_eq_true_iff.mp (Bool.and_eq_true_iff.mp (Bool.and_eq_true_iff.mp (Bool.and_eq_true_iff.mp xq).1).1).1).1).1).1).1).1).1).1).1).1).1).1).1).1).1).1).1).1).1).1).1).1).1).1).1).1).1).1).1).1).1).1).1).1).1).1).1).1).1).1).1).1).1).1).1).1).1).1).1).1).1).1).1).1).1).1).1).1).1).1).1).1).1).1).1).1).1).1).1).1).1).1).1).1).1).1).1).1).1).1).1).1).1).1).1).1).1).1).1).1).1).1).1).1).1).1).1).1).1).1).1).1).1).1).1).1).1).1).1).1).1).1).2),
    errB_ok ((Bool.and_eq_true_iff.mp (Bool.and_eq_true_iff.mp (Bool.and_eq_true_iff.mp (Bool.and_eq_true_iff.mp (Bool.and_eq_true_iff.mp (Bool.and_eq_true_iff.mp (Bool.and_eq_true_iff.mp (Bool.and_eq_true_iff.mp (Bool.and_eq_true_iff.mp (Bool.and_eq_true_iff.mp (Bool.and_eq_true_iff.mp (Bool.and_eq_true_iff.mp (Bool.and_eq_true_iff.mp (Bool.and_eq_true_iff.mp (Bool.and_eq_true_iff.mp (Bool.and_eq_true_iff.mp (Bool.and_eq_true_iff.mp (Bool.and_eq_true_iff.mp (Bool.and_eq_true_iff.mp (Bool.and_eq_true_iff.mp (Bool.and_eq_true_iff.mp (Bool.and_eq_true_iff.mp (Bool.and_eq_true_iff.mp (Bool.and_eq_true_iff.mp (Bool.and_eq_true_iff.mp (Bool.and_eq_true_iff.mp (Bool.and_eq_true_iff.mp (Bool.and_eq_true_iff.mp (Bool.and_eq_true_iff.mp (Bool.and_eq_true_iff.mp (Bool.and_eq_true_iff.mp (Bool.and_eq_true_iff.mp (Bool.and_eq_true_iff.mp (Bool.and_eq_true_iff.mp (Bool.and_eq_true_iff.mp (Bool.and_eq_true_iff.mp (Bool.and_eq_true_iff.mp (Bool.and_eq_true_iff.mp (Bool.and_eq_true_iff.mp (Bool.and_eq_true_iff.mp (Bool.and_eq_true_iff.mp (Bool.and_eq_true_iff.mp (Bool.and_eq_true_iff.mp (Bool.and_eq_true_iff.mp (Bool.and_eq_true_iff.mp (Bool.and_eq_true_iff.mp (Bool.and_eq_true_iff.mp (Bool.and_eq_true_iff.mp (Bool.and_eq_true_iff.mp (Bool.and_eq_true_iff.mp (Bool.and_eq_true_iff.mp (Bool.and_eq_true_iff.mp (Bool.and_eq_true_iff.mp (Bool.and_eq_true_iff.mp (Bool.and_eq_true_iff.mp (Bool.and_eq_true_iff.mp (Bool.and_eq_true_iff.mp (Bool.and_eq_true_iff.mp (Bool.and_eq_true_iff.mp (Bool.and_eq_true_iff.mp (Bool.and_eq_true_iff.mp (Bool.and_eq_true_iff.mp (Bool.and_eq_true_iff.mp (Bool.and_eq_true_iff.mp (Bool.and_eq_true_iff.mp (Bool.and_eq_true_iff.mp (Bool.and_eq_true_iff.mp (Bool.and_eq_true_iff.mp (Bool.and_eq_true_iff.mp (Bool.and_eq_true_iff.mp (Bool.and_eq_true_iff.mp (Bool.and_eq_true_iff.mp (Bool.and_eq_true_iff.mp (Bool.and_eq_true_iff.mp (Bool.and_eq_true_iff.mp (Bool.and_eq_true_iff.mp (Bool.and_eq_true_iff.mp (Bool.and_eq_true_iff.mp (Bool.and_eq_true_iff.mp (Bool.and_eq_true_iff.mp (Bool.and_eq_true_iff.mp (Bool.and_eq_true_iff.mp (Bool.and_eq_true_iff.mp (Bool.and_eq_true_iff.mp (Bool.and_eq_true_iff.mp (Bool.and_eq_true_iff.mp (Bool.and_eq_true_iff.mp (Bool.and_eq_true_iff.mp (Bool.and_eq_true_iff.mp (Bool.and_eq_true_iff.mp (Bool.and_eq_true_iff.mp (Bool.and_eq_true_iff.mp (Bool.and_eq_true_iff.mp (Bool.and_eq_true_iff.mp (Bool.and_eq_true_iff.mp (Bool.and_eq_true_iff.mp (Bool.and_eq_true_iff.mp (Bool.and_eq_true_iff.mp (Bool.and_eq_true_iff.mp (Bool.and_eq_true_iff.mp (Bool.and_eq_true_iff.mp (Bool.and_eq_true_iff.mp (Bool.and_eq_true_iff.mp (Bool.and_eq_true_iff.mp (Bool.and_eq_true_iff.mp (Bool.and_eq_true_iff.mp (Bool.and_eq_true_iff.mp (Bool.and_eq_true_iff.mp (Bool.and_eq_true_iff.mp (Bool.and_eq_true_iff.mp (Bool.and_eq_true_iff.mp (Bool.and_eq_true_iff.mp (Bool.and_eq_true_iff.mp (Bool.and_eq_true_iff.mp xq).1).1).1).1).1).1).1).1).1).1).1).1).1).1).1).1).1).1).1).1).1).1).1).1).1).1).1).1).1).1).1).1).1).1).1).1).1).1).1).1).1).1).1).1).1).1).1).1).1).1).1).1).1).1).1).1).1).1).1).1).1).1).1).1).1).1).1).1).1).1).1).1).1).1).1).1).1).1).1).1).1).1).1).1).1).1).1).1).1).1).1).1).1).1).1).1).1).1).1).1).1).1).1).1).1).1).1).1).1).1).1).1).1).2),
    He.eqO_ok ((Bool.and_eq_true_iff.mp (Bool.and_eq_true_iff.mp (Bool.and_eq_true_iff.mp (Bool.and_eq_true_iff.mp (Bool.and_eq_true_iff.mp (Bool.and_eq_true_iff.mp (Bool.and_eq_true_iff.mp (Bool.and_eq_true_iff.mp (Bool.and_eq_true_iff.mp (Bool.and_eq_true_iff.mp (Bool.and_eq_true_iff.mp (Bool.and_eq_true_iff.mp (Bool.and_eq_true_iff.mp (Bool.and_eq_true_iff.mp (Bool.and_eq_true_iff.mp (Bool.and_eq_true_iff.mp (Bool.and_eq_true_iff.mp (Bool.and_eq_true_iff.mp (Bool.and_eq_true_iff.mp (Bool.and_eq_true_iff.mp (Bool.and_eq_true_iff.mp (Bool.and_eq_true_iff.mp (Bool.and_eq_true_iff.mp (Bool.and_eq_true_iff.mp (Bool.and_eq_true_iff.mp (Bool.and_eq_true_iff.mp (Bool.and_eq_true_iff.mp (Bool.and_eq_true_iff.mp (Bool.and_eq_true_iff.mp (Bool.and_eq_true_iff.mp (Bool.and_eq_true_iff.mp (Bool.and_eq_true_iff.mp (Bool.and_eq_true_iff.mp (Bool.and_eq_true_iff.mp (Bool.and_eq_true_iff.mp (Bool.and_eq_true_iff.mp (Bool.and_eq_true_iff.mp (Bool.and_eq_true_iff.mp (Bool.and_eq_true_iff.mp (Bool.and_eq_true_iff.mp (Bool.and_eq_true_iff.mp (Bool.and_eq_true_iff.mp (Bool.and_eq_true_iff.mp (Bool.and_eq_true_iff.mp (Bool.and_eq_true_iff.mp (Bool.and_eq_true_iff.mp (Bool.and_eq_true_iff.mp (Bool.and_eq_true_iff.mp (Bool.and_eq_true_iff.mp (Bool.and_eq_true_iff.mp (Bool.and_eq_true_iff.mp (Bool.and_eq_true_iff.mp (Bool.and_eq_true_iff.mp (Bool.and_eq_true_iff.mp (Bool.and_eq_true_iff.mp (Bool.and_eq_true_iff.mp (Bool.and_eq_true_iff.mp (Bool.and_eq_true_iff.mp (Bool.and_eq_true_iff.mp (Bool.and_eq_true_iff.mp (Bool.and_eq_true_iff.mp (Bool.and_eq_true_iff.mp (Bool.and_eq_true_iff.mp (Bool.and_eq_true_iff.mp (Bool.and_eq_true_iff.mp (Bool.and_eq_true_iff.mp (Bool.and_eq_true_iff.mp (Bool.and_eq_true_iff.mp (Bool.and_eq_true_iff.mp (Bool.and_eq_true_iff.mp (Bool.and_eq_true_iff.mp (Bool.and_eq_true_iff.mp (Bool.and_eq_true_iff.mp (Bool.and_eq_true_iff.mp (Bool.and_eq_true_iff.mp (Bool.and_eq_true_iff.mp (Bool.and_eq_true_iff.mp (Bool.and_eq_true_iff.mp (Bool.and_eq_true_iff.mp (Bool.and_eq_true_iff.mp (Bool.and_eq_true_iff.mp (Bool.and_eq_true_iff.mp (Bool.and_eq_true_iff.mp (Bool.and_eq_true_iff.mp (Bool.and_eq_true_iff.mp (Bool.and_eq_true_iff.mp (Bool.and_eq_true_iff.mp (Bool.and_eq_true_iff.mp (Bool.and_eq_true_iff.mp (Bool.and_eq_true_iff.mp (Bool.and_eq_true_iff.mp (Bool.and_eq_true_iff.mp (Bool.and_eq_true_iff.mp (Bool.and_eq_true_iff.mp (Bool.and_eq_true_iff.mp (Bool.and_eq_true_iff.mp (Bool.and_eq_true_iff.mp (Bool.and_eq_true_iff.mp (Bool.and_eq_true_iff.mp (Bool.and_eq_true_iff.mp (Bool.and_eq_true_iff.mp (Bool.and_eq_true_iff.mp (Bool.and_eq_true_iff.mp (Bool.and_eq_true_iff.mp (Bool.and_eq_true_iff.mp (Bool.and_eq_true_iff.mp (Bool.and_eq_true_iff.mp (Bool.and_eq_true_iff.mp (Bool.and_eq_true_iff.mp (Bool.and_eq_true_iff.mp (Bool.and_eq_true_iff.mp (Bool.and_eq_true_iff.mp (Bool.and_eq_true_iff.mp xq).1).1).1).1).1).1).1).1).1).1).1).1).1).1).1).1).1).1).1).1).1).1).1).1).1).1).1).1).1).1).1).1).1).1).1).1).1).1).1).1).1).1).1).1).1).1).1).1).1).1).1).1).1).1).1).1).1).1).1).1).1).1).1).1).1).1).1).1).1).1).1).1).1).1).1).1).1).1).1).1).1).1).1).1).1).1).1).1).1).1).1).1).1).1).1).1).1).1).1).1).1).1).1).1).1).1).1).1).1).1).1).1).2),
    He.eqO_ok ((Bool.and_eq_true_iff.mp (Bool.and_eq_true_iff.mp (Bool.and_eq_true_iff.mp (Bool.and_eq_true_iff.mp (Bool.and_eq_true_iff.mp (Bool.and_eq_true_iff.mp (Bool.and_eq_true_iff.mp (Bool.and_eq_true_iff.mp (Bool.and_eq_true_iff.mp (Bool.and_eq_true_iff.mp (Bool.and_eq_true_iff.mp (Bool.and_eq_true_iff.mp (Bool.and_eq_true_iff.mp (Bool.and_eq_true_iff.mp (Bool.and_eq_true_iff.mp (Bool.and_eq_true_iff.mp (Bool.and_eq_true_iff.mp (Bool.and_eq_true_iff.mp (Bool.and_eq_true_iff.mp (Bool.and_eq_true_iff.mp (Bool.and_eq_true_iff.mp (Bool.and_eq_true_iff.mp (Bool.and_eq_true_iff.mp (Bool.and_eq_true_iff.mp (Bool.and_eq_true_iff.mp (Bool.and_eq_true_iff.mp (Bool.and_eq_true_iff.mp (Bool.and_eq_true_iff.mp (Bool.and_eq_true_iff.mp (Bool.and_eq_true_iff.mp (Bool.and_eq_true_iff.mp (Bool.and_eq_true_iff.mp (Bool.and_eq_true_iff.mp (Bool.and_eq_true_iff.mp (Bool.and_eq_true_iff.mp (Bool.and_eq_true_iff.mp (Bool.and_eq_true_iff.mp (Bool.and_eq_true_iff.mp (Bool.and_eq_true_iff.mp (Bool.and_eq_true_iff.mp (Bool.and_eq_true_iff.mp (Bool.and_eq_true_iff.mp (Bool.and_eq_true_iff.mp (Bool.and_eq_true_iff.mp (Bool.and_eq_true_iff.mp (Bool.and_eq_true_iff.mp (Bool.and_eq_true_iff.mp (Bool.and_eq_true_iff.mp (Bool.and_eq_true_iff.mp (Bool.and_eq_true_iff.mp (Bool.and_eq_true_iff.mp (Bool.and_eq_true_iff.mp (Bool.and_eq_true_iff.mp (Bool.and_eq_true_iff.mp (Bool.and_eq_true_iff.mp (Bool.and_eq_true_iff.mp (Bool.and_eq_true_iff.mp (Bool.and_eq_true_iff.mp (Bool.and_eq_true_iff.mp (Bool.and_eq_true_iff.mp (Bool.and_eq_true_iff.mp (Bool.and_eq_true_iff.mp (Bool.and_eq_true_iff.mp (Bool.and_eq_true_iff.mp (Bool.and_eq_true_iff.mp (Bool.and_eq_true_iff.mp (Bool.and_eq_true_iff.mp (Bool.and_eq_true_iff.mp (Bool.and_eq_true_iff.mp (Bool.and_eq_true_iff.mp (Bool.and_eq_true_iff.mp (Bool.and_eq_true_iff.mp (Bool.and_eq_true_iff.mp (Bool.and_eq_true_iff.mp (Bool.and_eq_true_iff.mp (Bool.and_eq_true_iff.mp (Bool.and_eq_true_iff.mp (Bool.and_eq_true_iff.mp (Bool.and_eq_true_iff.mp (Bool.and_eq_true_iff.mp (Bool.and_eq_true_iff.mp (Bool.and_eq_true_iff.mp (Bool.and_eq_true_iff.mp (Bool.and_eq_true_iff.mp (Bool.and_eq_true_iff.mp (Bool.and_eq_true_iff.mp (Bool.and_eq_true_iff.mp (Bool.and_eq_true_iff.mp (Bool.and_eq_true_iff.mp (Bool.and_eq_true_iff.mp (Bool.and_eq_true_iff.mp (Bool.and_eq_true_iff.mp (Bool.and_eq_true_iff.mp (Bool.and_eq_true_iff.mp (Bool.and_eq_true_iff.mp (Bool.and_eq_true_iff.mp (Bool.and_eq_true_iff.mp (Bool.and_eq_true_iff.mp (Bool.and_eq_true_iff.mp (Bool.and_eq_true_iff.mp (Bool.and_eq_true_iff.mp (Bool.and_eq_true_iff.mp (Bool.and_eq_true_iff.mp (Bool.and_eq_true_iff.mp (Bool.and_eq_true_iff.mp (Bool.and_eq_true_iff.mp (Bool.and_eq_true_iff.mp (Bool.and_eq_true_iff.mp (Bool.and_eq_true_iff.mp (Bool.and_eq_true_iff.mp (Bool.and_eq_true_iff.mp (Bool.and_eq_true_iff.mp xq).1).1).1).1).1).1).1).1).1).1).1).1).1).1).1).1).1).1).1).1).1).1).1).1).1).1).1).1).1).1).1).1).1).1).1).1).1).1).1).1).1).1).1).1).1).1).1).1).1).1).1).1).1).1).1).1).1).1).1).1).1).1).1).1).1).1).1).1).1).1).1).1).1).1).1).1).1).1).1).1).1).1).1).1).1).1).1).1).1).1).1).1).1).1).1).1).1).1).1).1).1).1).1).1).1).1).1).1).1).1).1).2),
    errB_ok ((Bool.and_eq_true_iff.mp (Bool.and_eq_true_iff.mp (Bool.and_eq_true_iff.mp (Bool.and_eq_true_iff.mp (Bool.and_eq_true_iff.mp (Bool.and_eq_true_iff.mp (Bool.and_eq_true_iff.mp (Bool.and_eq_true_iff.mp (Bool.and_eq_true_iff.mp (Bool.and_eq_true_iff.mp (Bool.and_eq_true_iff.mp (Bool.and_eq_true_iff.mp (Bool.and_eq_true_iff.mp (Bool.and_eq_true_iff.mp (Bool.and_eq_true_iff.mp (Bool.and_eq_true_iff.mp (Bool.and_eq_true_iff.mp (Bool.and_eq_true_iff.mp (Bool.and_eq_true_iff.mp (Bool.and_eq_true_iff.mp (Bool.and_eq_true_iff.mp (Bool.and_eq_true_iff.mp (Bool.and_eq_true_iff.mp (Bool.and_eq_true_iff.mp (Bool.and_eq_true_iff.mp (Bool.and_eq_true_iff.mp (Bool.and_eq_true_iff.mp (Bool.and_eq_true_iff.mp (Bool.and_eq_true_iff.mp (Bool.and_eq_true_iff.mp (Bool.and_eq_true_iff.mp (Bool.and_eq_true_iff.mp (Bool.and_eq_true_iff.mp (Bool.and_eq_true_iff.mp (Bool.and_eq_true_iff.mp (Bool.and_eq_true_iff.mp (Bool.and_eq_true_iff.mp (Bool.and_eq_true_iff.mp (Bool.and_eq_true_iff.mp (Bool.and_eq_true_iff.mp (Bool.and_eq_true_iff.mp (Bool.and_eq_true_iff.mp (Bool.and_eq_true_iff.mp (Bool.and_eq_true_iff.mp (Bool.and_eq_true_iff.mp (Bool.and_eq_true_iff.mp (Bool.and_eq_true_iff.mp (Bool.and_eq_true_iff.mp (Bool.and_eq_true_iff.mp (Bool.and_eq_true_iff.mp (Bool.and_eq_true_iff.mp (Bool.and_eq_true_iff.mp (Bool.and_eq_true_iff.mp (Bool.and_eq_true_iff.mp (Bool.and_eq_true_iff.mp (Bool.and_eq_true_iff.mp (Bool.and_eq_true_iff.mp (Bool.and_eq_true_iff.mp (Bool.and_eq_true_iff.mp (Bool.and_eq_true_iff.mp (Bool.and_eq_true_iff.mp (Bool.and_eq_true_iff.mp (Bool.and_eq_true_iff.mp (Bool.and_eq_true_iff.mp (Bool.and_eq_true_iff.mp (Bool.and_eq_true_iff.mp (Bool.and_eq_true_iff.mp (Bool.and_eq_true_iff.mp (Bool.and_eq_true_iff.mp (Bool.and_eq_true_iff.mp (Bool.and_eq_true_iff.mp (Bool.and_eq_true_iff.mp (Bool.and_eq_true_iff.mp (Bool.and_eq_true_iff.mp (Bool.and_eq_true_iff.mp (Bool.and_eq_true_iff.mp (Bool.and_eq_true_iff.mp (Bool.and_eq_true_iff.mp (Bool.and_eq_true_iff.mp (Bool.and_eq_true_iff.mp (Bool.and_eq_true_iff.mp (Bool.and_eq_true_iff.mp (Bool.and_eq_true_iff.mp (Bool.and_eq_true_iff.mp (Bool.and_eq_true_iff.mp (Bool.and_eq_true_iff.mp (Bool.and_eq_true_iff.mp (Bool.and_eq_true_iff.mp (Bool.and_eq_true_iff.mp (Bool.and_eq_true_iff.mp (Bool.and_eq_true_iff.mp (Bool.and_eq_true_iff.mp (Bool.and_eq_true_iff.mp (Bool.and_eq_true_iff.mp (Bool.and_eq_true_iff.mp (Bool.and_eq_true_iff.mp (Bool.and_eq_true_iff.mp (Bool.and_eq_true_iff.mp (Bool.and_eq_true_iff.mp (Bool.and_eq_true_iff.mp (Bool.and_eq_true_iff.mp (Bool.and_eq_true_iff.mp (Bool.and_eq_true_iff.mp (Bool.and_eq_true_iff.mp (Bool.and_eq_true_iff.mp (Bool.and_eq_true_iff.mp (Bool.and_eq_true_iff.mp (Bool.and_eq_true_iff.mp (Bool.and_eq_true_iff.mp (Bool.and_eq_true_iff.mp (Bool.and_eq_true_iff.mp xq).1).1).1).1).1).1).1).1).1).1).1).1).1).1).1).1).1).1).1).1).1).1).1).1).1).1).1).1).1).1).1).1).1).1).1).1).1).1).1).1).1).1).1).1).1).1).1).1).1).1).1).1).1).1).1).1).1).1).1).1).1).1).1).1).1).1).1).1).1).1).1).1).1).1).1).1).1).1).1).1).1).1).1).1).1).1).1).1).1).1).1).1).1).1).1).1).1).1).1).1).1).1).1).1).1).1).1).1).1).1).2),
    He.eqO_ok ((Bool.and_eq_true_iff.mp (Bool.and_eq_true_iff.mp (Bool.and_eq_true_iff.mp (Bool.and_eq_true_iff.mp (Bool.and_eq_true_iff.mp (Bool.and_eq_true_iff.mp (Bool.and_eq_true_iff.mp (Bool.and_eq_true_iff.mp (Bool.and_eq_true_iff.mp (Bool.and_eq_true_iff.mp (Bool.and_eq_true_iff.mp (Bool.and_eq_true_iff.mp (Bool.and_eq_true_iff.mp (Bool.and_eq_true_iff.mp (Bool.and_eq_true_iff.mp (Bool.and_eq_true_iff.mp (Bool.and_eq_true_iff.mp (Bool.and_eq_true_iff.mp (Bool.and_eq_true_iff.mp (Bool.and_eq_true_iff.mp (Bool.and_eq_true_iff.mp (Bool.and_eq_true_iff.mp (Bool.and_eq_true_iff.mp (Bool.and_eq_true_iff.mp (Bool.and_eq_true_iff.mp (Bool.and_eq_true_iff.mp (Bool.and_eq_true_iff.mp (Bool.and_eq_true_iff.mp (Bool.and_eq_true_iff.mp (Bool.and_eq_true_iff.mp (Bool.and_eq_true_iff.mp (Bool.and_eq_true_iff.mp (Bool.and_eq_true_iff.mp (Bool.and_eq_true_iff.mp (Bool.and_eq_true_iff.mp (Bool.and_eq_true_iff.mp (Bool.and_eq_true_iff.mp (Bool.and_eq_true_iff.mp (Bool.and_eq_true_iff.mp (Bool.and_eq_true_iff.mp (Bool.and_eq_true_iff.mp (Bool.and_eq_true_iff.mp (Bool.and_eq_true_iff.mp (Bool.and_eq_true_iff.mp (Bool.and_eq_true_iff.mp (Bool.and_eq_true_iff.mp (Bool.and_eq_true_iff.mp (Bool.and_eq_true_iff.mp (Bool.and_eq_true_iff.mp (Bool.and_eq_true_iff.mp (Bool.and_eq_true_iff.mp (Bool.and_eq_true_iff.mp (Bool.and_eq_true_iff.mp (Bool.and_eq_true_iff.mp (Bool.and_eq_true_iff.mp (Bool.and_eq_true_iff.mp (Bool.and_eq_true_iff.mp (Bool.and_eq_true_iff.mp (Bool.and_eq_true_iff.mp (Bool.and_eq_true_iff.mp (Bool.and_eq_true_iff.mp (Bool.and_eq_true_iff.mp (Bool.and_eq_true_iff.mp (Bool.and_eq_true_iff.mp (Bool.and_eq_true_iff.mp (Bool.and_eq_true_iff.mp (Bool.and_eq_true_iff.mp (Bool.and_eq_true_iff.mp (Bool.and_eq_true_iff.mp (Bool.and_eq_true_iff.mp (Bool.and_eq_true_iff.mp (Bool.and_eq_true_iff.mp (Bool.and_eq_true_iff.mp (Bool.and_eq_true_iff.mp (Bool.and_eq_true_iff.mp (Bool.and_eq_true_iff.mp (Bool.and_eq_true_iff.mp (Bool.and_eq_true_iff.mp (Bool.and_eq_true_iff.mp (Bool.and_eq_true_iff.mp (Bool.and_eq_true_iff.mp (Bool.and_eq_true_iff.mp (Bool.and_eq_true_iff.mp (Bool.and_eq_true_iff.mp (Bool.and_eq_true_iff.mp (Bool.and_eq_true_iff.mp (Bool.and_eq_true_iff.mp (Bool.and_eq_true_iff.mp (Bool.and_eq_true_iff.mp (Bool.and_eq_true_iff.mp (Bool.and_eq_true_iff.mp (Bool.and_eq_true_iff.mp (Bool.and_eq_true_iff.mp (Bool.and_eq_true_iff.mp (Bool.and_eq_true_iff.mp (Bool.and_eq_true_iff.mp (Bool.and_eq_true_iff.mp (Bool.and_eq_true_iff.mp (Bool.and_eq_true_iff.mp (Bool.and_eq_true_iff.mp (Bool.and_eq_true_iff.mp (Bool.and_eq_true_iff.mp (Bool.and_eq_true_iff.mp (Bool.and_eq_true_iff.mp (Bool.and_eq_true_iff.mp (Bool.and_eq_true_iff.mp (Bool.and_eq_true_iff.mp (Bool.and_eq_true_iff.mp (Bool.and_eq_true_iff.mp (Bool.and_eq_true_iff.mp xq).1).1).1).1).1).1).1).1).1).1).1).1).1).1).1).1).1).1).1).1).1).1).1).1).1).1).1).1).1).1).1).1).1).1).1).1).1).1).1).1).1).1).1).1).1).1).1).1).1).1).1).1).1).1).1).1).1).1).1).1).1).1).1).1).1).1).1).1).1).1).1).1).1).1).1).1).1).1).1).1).1).1).1).1).1).1).1).1).1).1).1).1).1).1).1).1).1).1).1).1).1).1).1).1).1).1).1).1).1).2),
    errB_ok ((Bool.and_eq_true_iff.mp (Bool.and_eq_true_iff.mp (Bool.and_eq_true_iff.mp (Bool.and_eq_true_iff.mp (Bool.and_eq_true_iff.mp (Bool.and_eq_true_iff.mp (Bool.and_eq_true_iff.mp (Bool.and_eq_true_iff.mp (Bool.and_eq_true_iff.mp (Bool.and_eq_true_iff.mp (Bool.and_eq_true_iff.mp (Bool.and_eq_true_iff.mp (Bool.and_eq_true_iff.mp (Bool.and_eq_true_iff.mp (Bool.and_eq_true_iff.mp (Bool.and_eq_true_iff.mp (Bool.and_eq_true_iff.mp (Bool.and_eq_true_iff.mp (Bool.and_eq_true_iff.mp (Bool.and_eq_true_iff.mp (Bool.and_eq_true_iff.mp (Bool.and_eq_true_iff.mp (Bool.and_eq_true_iff.mp (Bool.and_eq_true_iff.mp (Bool.and_eq_true_iff.mp (Bool.and_eq_true_iff.mp (Bool.and_eq_true_iff.mp (Bool.and_eq_true_iff.mp (Bool.and_eq_true_iff.mp (Bool.and_eq_true_iff.mp (Bool.and_eq_true_iff.mp (Bool.and_eq_true_iff.mp (Bool.and_eq_true_iff.mp (Bool.and_eq_true_iff.mp (Bool.and_eq_true_iff.mp (Bool.and_eq_true_iff.mp (Bool.and_eq_true_iff.mp (Bool.and_eq_true_iff.mp (Bool.and_eq_true_iff.mp (Bool.and_eq_true_iff.mp (Bool.and_eq_true_iff.mp (Bool.and_eq_true_iff.mp (Bool.and_eq_true_iff.mp (Bool.and_eq_true_iff.mp (Bool.and_eq_true_iff.mp (Bool.and_eq_true_iff.mp (Bool.and_eq_true_iff.mp (Bool.and_eq_true_iff.mp (Bool.and_eq_true_iff.mp (Bool.and_eq_true_iff.mp (Bool.and_eq_true_iff.mp (Bool.and_eq_true_iff.mp (Bool.and_eq_true_iff.mp (Bool.and_eq_true_iff.mp (Bool.and_eq_true_iff.mp (Bool.and_eq_true_iff.mp (Bool.and_eq_true_iff.mp (Bool.and_eq_true_iff.mp (Bool.and_eq_true_iff.mp (Bool.and_eq_true_iff.mp (Bool.and_eq_true_iff.mp (Bool.and_eq_true_iff.mp (Bool.and_eq_true_iff.mp (Bool.and_eq_true_iff.mp (Bool.and_eq_true_iff.mp (Bool.and_eq_true_iff.mp (Bool.and_eq_true_iff.mp (Bool.and_eq_true_iff.mp (Bool.and_eq_true_iff.mp (Bool.and_eq_true_iff.mp (Bool.and_eq_true_iff.mp (Bool.and_eq_true_iff.mp (Bool.and_eq_true_iff.mp (Bool.and_eq_true_iff.mp (Bool.and_eq_true_iff.mp (Bool.and_eq_true_iff.mp (Bool.and_eq_true_iff.mp (Bool.and_eq_true_iff.mp (Bool.and_eq_true_iff.mp (Bool.and_eq_true_iff.mp (Bool.and_eq_true_iff.mp (Bool.and_eq_true_iff.mp (Bool.and_eq_true_iff.mp (Bool.and_eq_true_iff.mp (Bool.and_eq_true_iff.mp (Bool.and_eq_true_iff.mp (Bool.and_eq_true_iff.mp (Bool.and_eq_true_iff.mp (Bool.and_eq_true_iff.mp (Bool.and_eq_true_iff.mp (Bool.and_eq_true_iff.mp (Bool.and_eq_true_iff.mp (Bool.and_eq_true_iff.mp (Bool.and_eq_true_iff.mp (Bool.and_eq_true_iff.mp (Bool.and_eq_true_iff.mp (Bool.and_eq_true_iff.mp (Bool.and_eq_true_iff.mp (Bool.and_eq_true_iff.mp (Bool.and_eq_true_iff.mp (Bool.and_eq_true_iff.mp (Bool.and_eq_true_iff.mp (Bool.and_eq_true_iff.mp (Bool.and_eq_true_iff.mp (Bool.and_eq_true_iff.mp (Bool.and_eq_true_iff.mp (Bool.and_eq_true_iff.mp (Bool.and_eq_true_iff.mp (Bool.and_eq_true_iff.mp xq).1).1).1).1).1).1).1).1).1).1).1).1).1).1).1).1).1).1).1).1).1).1).1).1).1).1).1).1).1).1).1).1).1).1).1).1).1).1).1).1).1).1).1).1).1).1).1).1).1).1).1).1).1).1).1).1).1).1).1).1).1).1).1).1).1).1).1).1).1).1).1).1).1).1).1).1).1).1).1).1).1).1).1).1).1).1).1).1).1).1).1).1).1).1).1).1).1).1).1).1).1).1).1).1).1).1).1).1).2),
    He.eqO_ok ((Bool.and_eq_true_iff.mp (Bool.and_eq_true_iff.mp (Bool.and_eq_true_iff.mp (Bool.and_eq_true_iff.mp (Bool.and_eq_true_iff.mp (Bool.and_eq_true_iff.mp (Bool.and_eq_true_iff.mp (Bool.and_eq_true_iff.mp (Bool.and_eq_true_iff.mp (Bool.and_eq_true_iff.mp (Bool.and_eq_true_iff.mp (Bool.and_eq_true_iff.mp (Bool.and_eq_true_iff.mp (Bool.and_eq_true_iff.mp (Bool.and_eq_true_iff.mp (Bool.and_eq_true_iff.mp (Bool.and_eq_true_iff.mp (Bool.and_eq_true_iff.mp (Bool.and_eq_true_iff.mp (Bool.and_eq_true_iff.mp (Bool.and_eq_true_iff.mp (Bool.and_eq_true_iff.mp (Bool.and_eq_true_iff.mp (Bool.and_eq_true_iff.mp (Bool.and_eq_true_iff.mp (Bool.and_eq_true_iff.mp (Bool.and_eq_true_iff.mp (Bool.and_eq_true_iff.mp (Bool.and_eq_true_iff.mp (Bool.and_eq_true_iff.mp (Bool.and_eq_true_iff.mp (Bool.and_eq_true_iff.mp (Bool.and_eq_true_iff.mp (Bool.and_eq_true_iff.mp (Bool.and_eq_true_iff.mp (Bool.and_eq_true_iff.mp (Bool.and_eq_true_iff.mp (Bool.and_eq_true_iff.mp (Bool.and_eq_true_iff.mp (Bool.and_eq_true_iff.mp (Bool.and_eq_true_iff.mp (Bool.and_eq_true_iff.mp (Bool.and_eq_true_iff.mp (Bool.and_eq_true_iff.mp (Bool.and_eq_true_iff.mp (Bool.and_eq_true_iff.mp (Bool.and_eq_true_iff.mp (Bool.and_eq_true_iff.mp (Bool.and_eq_true_iff.mp (Bool.and_eq_true_iff.mp (Bool.and_eq_true_iff.mp (Bool.and_eq_true_iff.mp (Bool.and_eq_true_iff.mp (Bool.and_eq_true_iff.mp (Bool.and_eq_true_iff.mp (Bool.and_eq_true_iff.mp (Bool.and_eq_true_iff.mp (Bool.and_eq_true_iff.mp (Bool.and_eq_true_iff.mp (Bool.and_eq_true_iff.mp (Bool.and_eq_true_iff.mp (Bool.and_eq_true_iff.mp (Bool.and_eq_true_iff.mp (Bool.and_eq_true_iff.mp (Bool.and_eq_true_iff.mp (Bool.and_eq_true_iff.mp (Bool.and_eq_true_iff.mp (Bool.and_eq_true_iff.mp (Bool.and_eq_true_iff.mp (Bool.and_eq_true_iff.mp (Bool.and_eq_true_iff.mp (Bool.and_eq_true_iff.mp (Bool.and_eq_true_iff.mp (Bool.and_eq_true_iff.mp (Bool.and_eq_true_iff.mp (Bool.and_eq_true_iff.mp (Bool.and_eq_true_iff.mp (Bool.and_eq_true_iff.mp (Bool.and_eq_true_iff.mp (Bool.and_eq_true_iff.mp (Bool.and_eq_true_iff.mp (Bool.and_eq_true_iff.mp (Bool.and_eq_true_iff.mp (Bool.and_eq_true_iff.mp (Bool.and_eq_true_iff.mp (Bool.and_eq_true_iff.mp (Bool.and_eq_true_iff.mp (Bool.and_eq_true_iff.mp (Bool.and_eq_true_iff.mp (Bool.and_eq_true_iff.mp (Bool.and_eq_true_iff.mp (Bool.and_eq_true_iff.mp (Bool.and_eq_true_iff.mp (Bool.and_eq_true_iff.mp (Bool.and_eq_true_iff.mp (Bool.and_eq_true_iff.mp (Bool.and_eq_true_iff.mp (Bool.and_eq_true_iff.mp (Bool.and_eq_true_iff.mp (Bool.and_eq_true_iff.mp (Bool.and_eq_true_iff.mp (Bool.and_eq_true_iff.mp (Bool.and_eq_true_iff.mp (Bool.and_eq_true_iff.mp (Bool.and_eq_true_iff.mp (Bool.and_eq_true_iff.mp (Bool.and_eq_true_iff.mp (Bool.and_eq_true_iff.mp xq).1).1).1).1).1).1).1).1).1).1).1).1).1).1).1).1).1).1).1).1).1).1).1).1).1).1).1).1).1).1).1).1).1).1).1).1).1).1).1).1).1).1).1).1).1).1).1).1).1).1).1).1).1).1).1).1).1).1).1).1).1).1).1).1).1).1).1).1).1).1).1).1).1).1).1).1).1).1).1).1).1).1).1).1).1).1).1).1).1).1).1).1).1).1).1).1).1).1).1).1).1).1).1).1).1).1).1).2),
    He.eqO_ok ((Bool.and_eq_true_iff.mp (Bool.and_eq_true_iff.mp (Bool.and_eq_true_iff.mp (Bool.and_eq_true_iff.mp (Bool.and_eq_true_iff.mp (Bool.and_eq_true_iff.mp (Bool.and_eq_true_iff.mp (Bool.and_eq_true_iff.mp (Bool.and_eq_true_iff.mp (Bool.and_eq_true_iff.mp (Bool.and_eq_true_iff.mp (Bool.and_eq_true_iff.mp (Bool.and_eq_true_iff.mp (Bool.and_eq_true_iff.mp (Bool.and_eq_true_iff.mp (Bool.and_eq_true_iff.mp (Bool.and_eq_true_iff.mp (Bool.and_eq_true_iff.mp (Bool.and_eq_true_iff.mp (Bool.and_eq_true_iff.mp (Bool.and_eq_true_iff.mp (Bool.and_eq_true_iff.mp (Bool.and_eq_true_iff.mp (Bool.and_eq_true_iff.mp (Bool.and_eq_true_iff.mp (Bool.and_eq_true_iff.mp (Bool.and_eq_true_iff.mp (Bool.and_eq_true_iff.mp (Bool.and_eq_true_iff.mp (Bool.and_eq_true_iff.mp (Bool.and_eq_true_iff.mp (Bool.and_eq_true_iff.mp (Bool.and_eq_true_iff.mp (Bool.and_eq_true_iff.mp (Bool.and_eq_true_iff.mp (Bool.and_eq_true_iff.mp (Bool.and_eq_true_iff.mp (Bool.and_eq_true_iff.mp (Bool.and_eq_true_iff.mp (Bool.and_eq_true_iff.mp (Bool.and_eq_true_iff.mp (Bool.and_eq_true_iff.mp (Bool.and_eq_true_iff.mp (Bool.and_eq_true_iff.mp (Bool.and_eq_true_iff.mp (Bool.and_eq_true_iff.mp (Bool.and_eq_true_iff.mp (Bool.and_eq_true_iff.mp (Bool.and_eq_true_iff.mp (Bool.and_eq_true_iff.mp (Bool.and_eq_true_iff.mp (Bool.and_eq_true_iff.mp (Bool.and_eq_true_iff.mp (Bool.and_eq_true_iff.mp (Bool.and_eq_true_iff.mp (Bool.and_eq_true_iff.mp (Bool.and_eq_true_iff.mp (Bool.and_eq_true_iff.mp (Bool.and_eq_true_iff.mp (Bool.and_eq_true_iff.mp (Bool.and_eq_true_iff.mp (Bool.and_eq_true_iff.mp (Bool.and_eq_true_iff.mp (Bool.and_eq_true_iff.mp (Bool.and_eq_true_iff.mp (Bool.and_eq_true_iff.mp (Bool.and_eq_true_iff.mp (Bool.and_eq_true_iff.mp (Bool.and_eq_true_iff.mp (Bool.and_eq_true_iff.mp (Bool.and_eq_true_iff.mp (Bool.and_eq_true_iff.mp (Bool.and_eq_true_iff.mp (Bool.and_eq_true_iff.mp (Bool.and_eq_true_iff.mp (Bool.and_eq_true_iff.mp (Bool.and_eq_true_iff.mp (Bool.and_eq_true_iff.mp (Bool.and_eq_true_iff.mp (Bool.and_eq_true_iff.mp (Bool.and_eq_true_iff.mp (Bool.and_eq_true_iff.mp (Bool.and_eq_true_iff.mp (Bool.and_eq_true_iff.mp (Bool.and_eq_true_iff.mp (Bool.and_eq_true_iff.mp (Bool.and_eq_true_iff.mp (Bool.and_eq_true_iff.mp (Bool.and_eq_true_iff.mp (Bool.and_eq_true_iff.mp (Bool.and_eq_true_iff.mp (Bool.and_eq_true_iff.mp (Bool.and_eq_true_iff.mp (Bool.and_eq_true_iff.mp (Bool.and_eq_true_iff.mp (Bool.and_eq_true_iff.mp (Bool.and_eq_true_iff.mp (Bool.and_eq_true_iff.mp (Bool.and_eq_true_iff.mp (Bool.and_eq_true_iff.mp (Bool.and_eq_true_iff.mp (Bool.and_eq_true_iff.mp (Bool.and_eq_true_iff.mp (Bool.and_eq_true_iff.mp (Bool.and_eq_true_iff.mp (Bool.and_eq_true_iff.mp (Bool.and_eq_true_iff.mp xq).1).1).1).1).1).1).1).1).1).1).1).1).1).1).1).1).1).1).1).1).1).1).1).1).1).1).1).1).1).1).1).1).1).1).1).1).1).1).1).1).1).1).1).1).1).1).1).1).1).1).1).1).1).1).1).1).1).1).1).1).1).1).1).1).1).1).1).1).1).1).1).1).1).1).1).1).1).1).1).1).1).1).1).1).1).1).1).1).1).1).1).1).1).1).1).1).1).1).1).1).1).1).1).1).1).1).2),
    errNB_ok ((Bool.and_eq_true_iff.mp (Bool.and_eq_true_iff.mp (Bool.and_eq_true_iff.mp (Bool.and_eq_true_iff.mp (Bool.and_eq_true_iff.mp (Bool.and_eq_true_iff.mp (Bool.and_eq_true_iff.mp (Bool.and_eq_true_iff.mp (Bool.and_eq_true_iff.mp (Bool.and_eq_true_iff.mp (Bool.and_eq_true_iff.mp (Bool.and_eq_true_iff.mp (Bool.and_eq_true_iff.mp (Bool.and_eq_true_iff.mp (Bool.and_eq_true_iff.mp (Bool.and_eq_true_iff.mp (Bool.and_eq_true_iff.mp (Bool.and_eq_true_iff.mp (Bool.and_eq_true_iff.mp (Bool.and_eq_true_iff.mp (Bool.and_eq_true_iff.mp (Bool.and_eq_true_iff.mp (Bool.and_eq_true_iff.mp (Bool.and_eq_true_iff.mp (Bool.and_eq_true_iff.mp (Bool.and_eq_true_iff.mp (Bool.and_eq_true_iff.mp (Bool.and_eq_true_iff.mp (Bool.and_eq_true_iff.mp (Bool.and_eq_true_iff.mp (Bool.and_eq_true_iff.mp (Bool.and_eq_true_iff.mp (Bool.and_eq_true_iff.mp (Bool.and_eq_true_iff.mp (Bool.and_eq_true_iff.mp (Bool.and_eq_true_iff.mp (Bool.and_eq_true_iff.mp (Bool.and_eq_true_iff.mp (Bool.and_eq_true_iff.mp (Bool.and_eq_true_iff.mp (Bool.and_eq_true_iff.mp (Bool.and_eq_true_iff.mp (Bool.and_eq_true_iff.mp (Bool.and_eq_true_iff.mp (Bool.and_eq_true_iff.mp (Bool.and_eq_true_iff.mp (Bool.and_eq_true_iff.mp (Bool.and_eq_true_iff.mp (Bool.and_eq_true_iff.mp (Bool.and_eq_true_iff.mp (Bool.and_eq_true_iff.mp (Bool.and_eq_true_iff.mp (Bool.and_eq_true_iff.mp (Bool.and_eq_true_iff.mp (Bool.and_eq_true_iff.mp (Bool.and_eq_true_iff.mp (Bool.and_eq_true_iff.mp (Bool.and_eq_true_iff.mp (Bool.and_eq_true_iff.mp (Bool.and_eq_true_iff.mp (Bool.and_eq_true_iff.mp (Bool.and_eq_true_iff.mp (Bool.and_eq_true_iff.mp (Bool.and_eq_true_iff.mp (Bool.and_eq_true_iff.mp (Bool.and_eq_true_iff.mp (Bool.and_eq_true_iff.mp (Bool.and_eq_true_iff.mp (Bool.and_eq_true_iff.mp (Bool.and_eq_true_iff.mp (Bool.and_eq_true_iff.mp (Bool.and_eq_true_iff.mp (Bool.and_eq_true_iff.mp (Bool.and_eq_true_iff.mp (Bool.and_eq_true_iff.mp (Bool.and_eq_true_iff.mp (Bool.and_eq_true_iff.mp (Bool.and_eq_true_iff.mp (Bool.and_eq_true_iff.mp (Bool.and_eq_true_iff.mp (Bool.and_eq_true_iff.mp (Bool.and_eq_true_iff.mp (Bool.and_eq_true_iff.mp (Bool.and_eq_true_iff.mp (Bool.and_eq_true_iff.mp (Bool.and_eq_true_iff.mp (Bool.and_eq_true_iff.mp (Bool.and_eq_true_iff.mp (Bool.and_eq_true_iff.mp (Bool.and_eq_true_iff.mp (Bool.and_eq_true_iff.mp (Bool.and_eq_true_iff.mp (Bool.and_eq_true_iff.mp (Bool.and_eq_true_iff.mp (Bool.and_eq_true_iff.mp (Bool.and_eq_true_iff.mp (Bool.and_eq_true_iff.mp (Bool.and_eq_true_iff.mp (Bool.and_eq_true_iff.mp (Bool.and_eq_true_iff.mp (Bool.and_eq_true_iff.mp (Bool.and_eq_true_iff.mp (Bool.and_eq_true_iff.mp (Bool.and_eq_true_iff.mp (Bool.and_eq_true_iff.mp (Bool.and_eq_true_iff.mp xq).1).1).1).1).1).1).1).1).1).1).1).1).1).1).1).1).1).1).1).1).1).1).1).1).1).1).1).1).1).1).1).1).1).1).1).1).1).1).1).1).1).1).1).1).1).1).1).1).1).1).1).1).1).1).1).1).1).1).1).1).1).1).1).1).1).1).1).1).1).1).1).1).1).1).1).1).1).1).1).1).1).1).1).1).1).1).1).1).1).1).1).1).1).1).1).1).1).1).1).1).1).1).1).1).1).2),
    errNB_ok ((Bool.and_eq_true_iff.mp (Bool.and_eq_true_iff.mp (Bool.and_eq_true_iff.mp (Bool.and_eq_true_iff.mp (Bool.and_eq_true_iff.mp (Bool.and_eq_true_iff.mp (Bool.and_eq_true_iff.mp (Bool.and_eq_true_iff.mp (Bool.and_eq_true_iff.mp (Bool.and_eq_true_iff.mp (Bool.and_eq_true_iff.mp (Bool.and_eq_true_iff.mp (Bool.and_eq_true_iff.mp (Bool.and_eq_true_iff.mp (Bool.and_eq_true_iff.mp (Bool.and_eq_true_iff.mp (Bool.and_eq_true_iff.mp (Bool.and_eq_true_iff.mp (Bool.and_eq_true_iff.mp (Bool.and_eq_true_iff.mp (Bool.and_eq_true_iff.mp (Bool.and_eq_true_iff.mp (Bool.and_eq_true_iff.mp (Bool.and_eq_true_iff.mp (Bool.and_eq_true_iff.mp (Bool.and_eq_true_iff.mp (Bool.and_eq_true_iff.mp (Bool.and_eq_true_iff.mp (Bool.and_eq_true_iff.mp (Bool.and_eq_true_iff.mp (Bool.and_eq_true_iff.mp (Bool.and_eq_true_iff.mp (Bool.and_eq_true_iff.mp (Bool.and_eq_true_iff.mp (Bool.and_eq_true_iff.mp (Bool.and_eq_true_iff.mp (Bool.and_eq_true_iff.mp (Bool.and_eq_true_iff.mp (Bool.and_eq_true_iff.mp (Bool.and_eq_true_iff.mp (Bool.and_eq_true_iff.mp (Bool.and_eq_true_iff.mp (Bool.and_eq_true_iff.mp (Bool.and_eq_true_iff.mp (Bool.and_eq_true_iff.mp (Bool.and_eq_true_iff.mp (Bool.and_eq_true_iff.mp (Bool.and_eq_true_iff.mp (Bool.and_eq_true_iff.mp (Bool.and_eq_true_iff.mp (Bool.and_eq_true_iff.mp (Bool.and_eq_true_iff.mp (Bool.and_eq_true_iff.mp (Bool.and_eq_true_iff.mp (Bool.and_eq_true_iff.mp (Bool.and_eq_true_iff.mp (Bool.and_eq_true_iff.mp (Bool.and_eq_true_iff.mp (Bool.and_eq_true_iff.mp (Bool.and_eq_true_iff.mp (Bool.and_eq_true_iff.mp (Bool.and_eq_true_iff.mp (Bool.and_eq_true_iff.mp (Bool.and_eq_true_iff.mp (Bool.and_eq_true_iff.mp (Bool.and_eq_true_iff.mp (Bool.and_eq_true_iff.mp (Bool.and_eq_true_iff.mp (Bool.and_eq_true_iff.mp (Bool.and_eq_true_iff.mp (Bool.and_eq_true_iff.mp (Bool.and_eq_true_iff.mp (Bool.and_eq_true_iff.mp (Bool.and_eq_true_iff.mp (Bool.and_eq_true_iff.mp (Bool.and_eq_true_iff.mp (Bool.and_eq_true_iff.mp (Bool.and_eq_true_iff.mp (Bool.and_eq_true_iff.mp (Bool.and_eq_true_iff.mp (Bool.and_eq_true_iff.mp (Bool.and_eq_true_iff.mp (Bool.and_eq_true_iff.mp (Bool.and_eq_true_iff.mp (Bool.and_eq_true_iff.mp (Bool.and_eq_true_iff.mp (Bool.and_eq_true_iff.mp (Bool.and_eq_true_iff.mp (Bool.and_eq_true_iff.mp (Bool.and_eq_true_iff.mp (Bool.and_eq_true_iff.mp (Bool.and_eq_true_iff.mp (Bool.and_eq_true_iff.mp (Bool.and_eq_true_iff.mp (Bool.and_eq_true_iff.mp (Bool.and_eq_true_iff.mp (Bool.and_eq_true_iff.mp (Bool.and_eq_true_iff.mp (Bool.and_eq_true_iff.mp (Bool.and_eq_true_iff.mp (Bool.and_eq_true_iff.mp (Bool.and_eq_true_iff.mp (Bool.and_eq_true_iff.mp (Bool.and_eq_true_iff.mp (Bool.and_eq_true_iff.mp xq).1).1).1).1).1).1).1).1).1).1).1).1).1).1).1).1).1).1).1).1).1).1).1).1).1).1).1).1).1).1).1).1).1).1).1).1).1).1).1).1).1).1).1).1).1).1).1).1).1).1).1).1).1).1).1).1).1).1).1).1).1).1).1).1).1).1).1).1).1).1).1).1).1).1).1).1).1).1).1).1).1).1).1).1).1).1).1).1).1).1).1).1).1).1).1).1).1).1).1).1).1).1).1).1).2),
    errB_ok ((Bool.and_eq_true_iff.mp (Bool.and_eq_true_iff.mp (Bool.and_eq_true_iff.mp (Bool.and_eq_true_iff.mp (Bool.and_eq_true_iff.mp (Bool.and_eq_true_iff.mp (Bool.and_eq_true_iff.mp (Bool.and_eq_true_iff.mp (Bool.and_eq_true_iff.mp (Bool.and_eq_true_iff.mp (Bool.and_eq_true_iff.mp (Bool.and_eq_true_iff.mp (Bool.and_eq_true_iff.mp (Bool.and_eq_true_iff.mp (Bool.and_eq_true_iff.mp (Bool.and_eq_true_iff.mp (Bool.and_eq_true_iff.mp (Bool.and_eq_true_iff.mp (Bool.and_eq_true_iff.mp (Bool.and_eq_true_iff.mp (Bool.and_eq_true_iff.mp (Bool.and_eq_true_iff.mp (Bool.and_eq_true_iff.mp (Bool.and_eq_true_iff.mp (Bool.and_eq_true_iff.mp (Bool.and_eq_true_iff.mp (Bool.and_eq_true_iff.mp (Bool.and_eq_true_iff.mp (Bool.and_eq_true_iff.mp (Bool.and_eq_true_iff.mp (Bool.and_eq_true_iff.mp (Bool.and_eq_true_iff.mp (Bool.and_eq_true_iff.mp (Bool.and_eq_true_iff.mp (Bool.and_eq_true_iff.mp (Bool.and_eq_true_iff.mp (Bool.and_eq_true_iff.mp (Bool.and_eq_true_iff.mp (Bool.and_eq_true_iff.mp (Bool.and_eq_true_iff.mp (Bool.and_eq_true_iff.mp (Bool.and_eq_true_iff.mp (Bool.and_eq_true_iff.mp (Bool.and_eq_true_iff.mp (Bool.and_eq_true_iff.mp (Bool.and_eq_true_iff.mp (Bool.and_eq_true_iff.mp (Bool.and_eq_true_iff.mp (Bool.and_eq_true_iff.mp (Bool.and_eq_true_iff.mp (Bool.and_eq_true_iff.mp (Bool.and_eq_true_iff.mp (Bool.and_eq_true_iff.mp (Bool.and_eq_true_iff.mp (Bool.and_eq_true_iff.mp (Bool.and_eq_true_iff.mp (Bool.and_eq_true_iff.mp (Bool.and_eq_true_iff.mp (Bool.and_eq_true_iff.mp (Bool.and_eq_true_iff.mp (Bool.and_eq_true_iff.mp (Bool.and_eq_true_iff.mp (Bool.and_eq_true_iff.mp (Bool.and_eq_true_iff.mp (Bool.and_eq_true_iff.mp (Bool.and_eq_true_iff.mp (Bool.and_eq_true_iff.mp (Bool.and_eq_true_iff.mp (Bool.and_eq_true_iff.mp (Bool.and_eq_true_iff.mp (Bool.and_eq_true_iff.mp (Bool.and_eq_true_iff.mp (Bool.and_eq_true_iff.mp (Bool.and_eq_true_iff.mp (Bool.and_eq_true_iff.mp (Bool.and_eq_true_iff.mp (Bool.and_eq_true_iff.mp (Bool.and_eq_true_iff.mp (Bool.and_eq_true_iff.mp (Bool.and_eq_true_iff.mp (Bool.and_eq_true_iff.mp (Bool.and_eq_true_iff.mp (Bool.and_eq_true_iff.mp (Bool.and_eq_true_iff.mp (Bool.and_eq_true_iff.mp (Bool.and_eq_true_iff.mp (Bool.and_eq_true_iff.mp (Bool.and_eq_true_iff.mp (Bool.and_eq_true_iff.mp (Bool.and_eq_true_iff.mp (Bool.and_eq_true_iff.mp (Bool.and_eq_true_iff.mp (Bool.and_eq_true_iff.mp (Bool.and_eq_true_iff.mp (Bool.and_eq_true_iff.mp (Bool.and_eq_true_iff.mp (Bool.and_eq_true_iff.mp (Bool.and_eq_true_iff.mp (Bool.and_eq_true_iff.mp (Bool.and_eq_true_iff.mp (Bool.and_eq_true_iff.mp (Bool.and_eq_true_iff.mp (Bool.and_eq_true_iff.mp (Bool.and_eq_true_iff.mp xq).1).1).1).1).1).1).1).1).1).1).1).1).1).1).1).1).1).1).1).1).1).1).1).1).1).1).1).1).1).1).1).1).1).1).1).1).1).1).1).1).1).1).1).1).1).1).1).1).1).1).1).1).1).1).1).1).1).1).1).1).1).1).1).1).1).1).1).1).1).1).1).1).1).1).1).1).1).1).1).1).1).1).1).1).1).1).1).1).1).1).1).1).1).1).1).1).1).1).1).1).1).1).1).2),
    He.eqO_ok ((Bool.and_eq_true_iff.mp (Bool.and_eq_true_iff.mp (Bool.and_eq_true_iff.mp (Bool.and_eq_true_iff.mp (Bool.and_eq_true_iff.mp (Bool.and_eq_true_iff.mp (Bool.and_eq_true_iff.mp (Bool.and_eq_true_iff.mp (Bool.and_eq_true_iff.mp (Bool.and_eq_true_iff.mp (Bool.and_eq_true_iff.mp (Bool.and_eq_true_iff.mp (Bool.and_eq_true_iff.mp (Bool.and_eq_true_iff.mp (Bool.and_eq_true_iff.mp (Bool.and_eq_true_iff.mp (Bool.and_eq_true_iff.mp (Bool.and_eq_true_iff.mp (Bool.and_eq_true_iff.mp (Bool.and_eq_true_iff.mp (Bool.and_eq_true_iff.mp (Bool.and_eq_true_iff.mp (Bool.and_eq_true_iff.mp (Bool.and_eq_true_iff.mp (Bool.and_eq_true_iff.mp (Bool.and_eq_true_iff.mp (Bool.and_eq_true_iff.mp (Bool.and_eq_true_iff.mp (Bool.and_eq_true_iff.mp (Bool.and_eq_true_iff.mp (Bool.and_eq_true_iff.mp (Bool.and_eq_true_iff.mp (Bool.and_eq_true_iff.mp (Bool.and_eq_true_iff.mp (Bool.and_eq_true_iff.mp (Bool.and_eq_true_iff.mp (Bool.and_eq_true_iff.mp (Bool.and_eq_true_iff.mp (Bool.and_eq_true_iff.mp (Bool.and_eq_true_iff.mp (Bool.and_eq_true_iff.mp (Bool.and_eq_true_iff.mp (Bool.and_eq_true_iff.mp (Bool.and_eq_true_iff.mp (Bool.and_eq_true_iff.mp (Bool.and_eq_true_iff.mp (Bool.and_eq_true_iff.mp (Bool.and_eq_true_iff.mp (Bool.and_eq_true_iff.mp (Bool.and_eq_true_iff.mp (Bool.and_eq_true_iff.mp (Bool.and_eq_true_iff.mp (Bool.and_eq_true_iff.mp (Bool.and_eq_true_iff.mp (Bool.and_eq_true_iff.mp (Bool.and_eq_true_iff.mp (Bool.and_eq_true_iff.mp (Bool.and_eq_true_iff.mp (Bool.and_eq_true_iff.mp (Bool.and_eq_true_iff.mp (Bool.and_eq_true_iff.mp (Bool.and_eq_true_iff.mp (Bool.and_eq_true_iff.mp (Bool.and_eq_true_iff.mp (Bool.and_eq_true_iff.mp (Bool.and_eq_true_iff.mp (Bool.and_eq_true_iff.mp (Bool.and_eq_true_iff.mp (Bool.and_eq_true_iff.mp (Bool.and_eq_true_iff.mp (Bool.and_eq_true_iff.mp (Bool.and_eq_true_iff.mp (Bool.and_eq_true_iff.mp (Bool.and_eq_true_iff.mp (Bool.and_eq_true_iff.mp (Bool.and_eq_true_iff.mp (Bool.and_eq_true_iff.mp (Bool.and_eq_true_iff.mp (Bool.and_eq_true_iff.mp (Bool.and_eq_true_iff.mp (Bool.and_eq_true_iff.mp (Bool.and_eq_true_iff.mp (Bool.and_eq_true_iff.mp (Bool.and_eq_true_iff.mp (Bool.and_eq_true_iff.mp (Bool.and_eq_true_iff.mp (Bool.and_eq_true_iff.mp (Bool.and_eq_true_iff.mp (Bool.and_eq_true_iff.mp (Bool.and_eq_true_iff.mp (Bool.and_eq_true_iff.mp (Bool.and_eq_true_iff.mp (Bool.and_eq_true_iff.mp (Bool.and_eq_true_iff.mp (Bool.and_eq_true_iff.mp (Bool.and_eq_true_iff.mp (Bool.and_eq_true_iff.mp (Bool.and_eq_true_iff.mp (Bool.and_eq_true_iff.mp (Bool.and_eq_true_iff.mp (Bool.and_eq_true_iff.mp (Bool.and_eq_true_iff.mp (Bool.and_eq_true_iff.mp xq).1).1).1).1).1).1).1).1).1).1).1).1).1).1).1).1).1).1).1).1).1).1).1).1).1).1).1).1).1).1).1).1).1).1).1).1).1).1).1).1).1).1).1).1).1).1).1).1).1).1).1).1).1).1).1).1).1).1).1).1).1).1).1).1).1).1).1).1).1).1).1).1).1).1).1).1).1).1).1).1).1).1).1).1).1).1).1).1).1).1).1).1).1).1).1).1).1).1).1).1).1).1).2),
    errB_ok ((Bool.and_eq_true_iff.mp (Bool.and_eq_true_iff.mp (Bool.and_eq_true_iff.mp (Bool.and_eq_true_iff.mp (Bool.and_eq_true_iff.mp (Bool.and_eq_true_iff.mp (Bool.and_eq_true_iff.mp (Bool.and_eq_true_iff.mp (Bool.and_eq_true_iff.mp (Bool.and_eq_true_iff.mp (Bool.and_eq_true_iff.mp (Bool.and_eq_true_iff.mp (Bool.and_eq_true_iff.mp (Bool.and_eq_true_iff.mp (Bool.and_eq_true_iff.mp (Bool.and_eq_true_iff.mp (Bool.and_eq_true_iff.mp (Bool.and_eq_true_iff.mp (Bool.and_eq_true_iff.mp (Bool.and_eq_true_iff.mp (Bool.and_eq_true_iff.mp (Bool.and_eq_true_iff.mp (Bool.and_eq_true_iff.mp (Bool.and_eq_true_iff.mp (Bool.and_eq_true_iff.mp (Bool.and_eq_true_iff.mp (Bool.and_eq_true_iff.mp (Bool.and_eq_true_iff.mp (Bool.and_eq_true_iff.mp (Bool.and_eq_true_iff.mp (Bool.and_eq_true_iff.mp (Bool.and_eq_true_iff.mp (Bool.and_eq_true_iff.mp (Bool.and_eq_true_iff.mp (Bool.and_eq_true_iff.mp (Bool.and_eq_true_iff.mp (Bool.and_eq_true_iff.mp (Bool.and_eq_true_iff.mp (Bool.and_eq_true_iff.mp (Bool.and_eq_true_iff.mp (Bool.and_eq_true_iff.mp (Bool.and_eq_true_iff.mp (Bool.and_eq_true_iff.mp (Bool.and_eq_true_iff.mp (Bool.and_eq_true_iff.mp (Bool.and_eq_true_iff.mp (Bool.and_eq_true_iff.mp (Bool.and_eq_true_iff.mp (Bool.and_eq_true_iff.mp (Bool.and_eq_true_iff.mp (Bool.and_eq_true_iff.mp (Bool.and_eq_true_iff.mp (Bool.and_eq_true_iff.mp (Bool.and_eq_true_iff.mp (Bool.and_eq_true_iff.mp (Bool.and_eq_true_iff.mp (Bool.and_eq_true_iff.mp (Bool.and_eq_true_iff.mp (Bool.and_eq_true_iff.mp (Bool.and_eq_true_iff.mp (Bool.and_eq_true_iff.mp (Bool.and_eq_true_iff.mp (Bool.and_eq_true_iff.mp (Bool.and_eq_true_iff.mp (Bool.and_eq_true_iff.mp (Bool.and_eq_true_iff.mp (Bool.and_eq_true_iff.mp (Bool.and_eq_true_iff.mp (Bool.and_eq_true_iff.mp (Bool.and_eq_true_iff.mp (Bool.and_eq_true_iff.mp (Bool.and_eq_true_iff.mp (Bool.and_eq_true_iff.mp (Bool.and_eq_true_iff.mp (Bool.and_eq_true_iff.mp (Bool.and_eq_true_iff.mp (Bool.and_eq_true_iff.mp (Bool.and_eq_true_iff.mp (Bool.and_eq_true_iff.mp (Bool.and_eq_true_iff.mp (Bool.and_eq_true_iff.mp (Bool.and_eq_true_iff.mp (Bool.and_eq_true_iff.mp (Bool.and_eq_true_iff.mp (Bool.and_eq_true_iff.mp (Bool.and_eq_true_iff.mp (Bool.and_eq_true_iff.mp (Bool.and_eq_true_iff.mp (Bool.and_eq_true_iff.mp (Bool.and_eq_true_iff.mp (Bool.and_eq_true_iff.mp (Bool.and_eq_true_iff.mp (Bool.and_eq_true_iff.mp (Bool.and_eq_true_iff.mp (Bool.and_eq_true_iff.mp (Bool.and_eq_true_iff.mp (Bool.and_eq_true_iff.mp (Bool.and_eq_true_iff.mp (Bool.and_eq_true_iff.mp (Bool.and_eq_true_iff.mp (Bool.and_eq_true_iff.mp (Bool.and_eq_true_iff.mp xq).1).1).1).1).1).1).1).1).1).1).1).1).1).1).1).1).1).1).1).1).1).1).1).1).1).1).1).1).1).1).1).1).1).1).1).1).1).1).1).1).1).1).1).1).1).1).1).1).1).1).1).1).1).1).1).1).1).1).1).1).1).1).1).1).1).1).1).1).1).1).1).1).1).1).1).1).1).1).1).1).1).1).1).1).1).1).1).1).1).1).1).1).1).1).1).1).1).1).1).1).1).2),
    He.eqO_ok ((Bool.and_eq_true_iff.mp (Bool.and_eq_true_iff.mp (Bool.and_eq_true_iff.mp (Bool.and_eq_true_iff.mp (Bool.and_eq_true_iff.mp (Bool.and_eq_true_iff.mp (Bool.and_eq_true_iff.mp (Bool.and_eq_true_iff.mp (Bool.and_eq_true_iff.mp (Bool.and_eq_true_iff.mp (Bool.and_eq_true_iff.mp (Bool.and_eq_true_iff.mp (Bool.and_eq_true_iff.mp (Bool.and_eq_true_iff.mp (Bool.and_eq_true_iff.mp (Bool.and_eq_true_iff.mp (Bool.and_eq_true_iff.mp (Bool.and_eq_true_iff.mp (Bool.and_eq_true_iff.mp (Bool.and_eq_true_iff.mp (Bool.and_eq_true_iff.mp (Bool.and_eq_true_iff.mp (Bool.and_eq_true_iff.mp (Bool.and_eq_true_iff.mp (Bool.and_eq_true_iff.mp (Bool.and_eq_true_iff.mp (Bool.and_eq_true_iff.mp (Bool.and_eq_true_iff.mp (Bool.and_eq_true_iff.mp (Bool.and_eq_true_iff.mp (Bool.and_eq_true_iff.mp (Bool.and_eq_true_iff.mp (Bool.and_eq_true_iff.mp (Bool.and_eq_true_iff.mp (Bool.and_eq_true_iff.mp (Bool.and_eq_true_iff.mp (Bool.and_eq_true_iff.mp (Bool.and_eq_true_iff.mp (Bool.and_eq_true_iff.mp (Bool.and_eq_true_iff.mp (Bool.and_eq_true_iff.mp (Bool.and_eq_true_iff.mp (Bool.and_eq_true_iff.mp (Bool.and_eq_true_iff.mp (Bool.and_eq_true_iff.mp (Bool.and_eq_true_iff.mp (Bool.and_eq_true_iff.mp (Bool.and_eq_true_iff.mp (Bool.and_eq_true_iff.mp (Bool.and_eq_true_iff.mp (Bool.and_eq_true_iff.mp (Bool.and_eq_true_iff.mp (Bool.and_eq_true_iff.mp (Bool.and_eq_true_iff.mp (Bool.and_eq_true_iff.mp (Bool.and_eq_true_iff.mp (Bool.and_eq_true_iff.mp (Bool.and_eq_true_iff.mp (Bool.and_eq_true_iff.mp (Bool.and_eq_true_iff.mp (Bool.and_eq_true_iff.mp (Bool.and_eq_true_iff.mp (Bool.and_eq_true_iff.mp (Bool.and_eq_true_iff.mp (Bool.and_eq_true_iff.mp (Bool.and_eq_true_iff.mp (Bool.and_eq_true_iff.mp (Bool.and_eq_true_iff.mp (Bool.and_eq_true_iff.mp (Bool.and_eq_true_iff.mp (Bool.and_eq_true_iff.mp (Bool.and_eq_true_iff.mp (Bool.and_eq_true_iff.mp (Bool.and_eq_true_iff.mp (Bool.and_eq_true_iff.mp (Bool.and_eq_true_iff.mp (Bool.and_eq_true_iff.mp (Bool.and_eq_true_iff.mp (Bool.and_eq_true_iff.mp (Bool.and_eq_true_iff.mp (Bool.and_eq_true_iff.mp (Bool.and_eq_true_iff.mp (Bool.and_eq_true_iff.mp (Bool.and_eq_true_iff.mp (Bool.and_eq_true_iff.mp (Bool.and_eq_true_iff.mp (Bool.and_eq_true_iff.mp (Bool.and_eq_true_iff.mp (Bool.and_eq_true_iff.mp (Bool.and_eq_true_iff.mp (Bool.and_eq_true_iff.mp (Bool.and_eq_true_iff.mp (Bool.and_eq_true_iff.mp (Bool.and_eq_true_iff.mp (Bool.and_eq_true_iff.mp (Bool.and_eq_true_iff.mp (Bool.and_eq_true_iff.mp (Bool.and_eq_true_iff.mp (Bool.and_eq_true_iff.mp (Bool.and_eq_true_iff.mp (Bool.and_eq_true_iff.mp xq).1).1).1).1).1).1).1).1).1).1).1).1).1).1).1).1).1).1).1).1).1).1).1).1).1).1).1).1).1).1).1).1).1).1).1).1).1).1).1).1).1).1).1).1).1).1).1).1).1).1).1).1).1).1).1).1).1).1).1).1).1).1).1).1).1).1).1).1).1).1).1).1).1).1).1).1).1).1).1).1).1).1).1).1).1).1).1).1).1).1).1).1).1).1).1).1).1).1).1).1).2),
    errB_ok ((Bool.and_eq_true_iff.mp (Bool.and_eq_true_iff.mp (Bool.and_eq_true_iff.mp (Bool.and_eq_true_iff.mp (Bool.and_eq_true_iff.mp (Bool.and_eq_true_iff.mp (Bool.and_eq_true_iff.mp (Bool.and_eq_true_iff.mp (Bool.and_eq_true_iff.mp (Bool.and_eq_true_iff.mp (Bool.and_eq_true_iff.mp (Bool.and_eq_true_iff.mp (Bool.and_eq_true_iff.mp (Bool.and_eq_true_iff.mp (Bool.and_eq_true_iff.mp (Bool.and_eq_true_iff.mp (Bool.and_eq_true_iff.mp (Bool.and_eq_true_iff.mp (Bool.and_eq_true_iff.mp (Bool.and_eq_true_iff.mp (Bool.and_eq_true_iff.mp (Bool.and_eq_true_iff.mp (Bool.and_eq_true_iff.mp (Bool.and_eq_true_iff.mp (Bool.and_eq_true_iff.mp (Bool.and_eq_true_iff.mp (Bool.and_eq_true_iff.mp (Bool.and_eq_true_iff.mp (Bool.and_eq_true_iff.mp (Bool.and_eq_true_iff.mp (Bool.and_eq_true_iff.mp (Bool.and_eq_true_iff.mp (Bool.and_eq_true_iff.mp (Bool.and_eq_true_iff.mp (Bool.and_eq_true_iff.mp (Bool.and_eq_true_iff.mp (Bool.and_eq_true_iff.mp (Bool.and_eq_true_iff.mp (Bool.and_eq_true_iff.mp (Bool.and_eq_true_iff.mp (Bool.and_eq_true_iff.mp (Bool.and_eq_true_iff.mp (Bool.and_eq_true_iff.mp (Bool.and_eq_true_iff.mp (Bool.and_eq_true_iff.mp (Bool.and_eq_true_iff.mp (Bool.and_eq_true_iff.mp (Bool.and_eq_true_iff.mp (Bool.and_eq_true_iff.mp (Bool.and_eq_true_iff.mp (Bool.and_eq_true_iff.mp (Bool.and_eq_true_iff.mp (Bool.and_eq_true_iff.mp (Bool.and_eq_true_iff.mp (Bool.and_eq_true_iff.mp (Bool.and_eq_true_iff.mp (Bool.and_eq_true_iff.mp (Bool.and_eq_true_iff.mp (Bool.and_eq_true_iff.mp (Bool.and_eq_true_iff.mp (Bool.and_eq_true_iff.mp (Bool.and_eq_true_iff.mp (Bool.and_eq_true_iff.mp (Bool.and_eq_true_iff.mp (Bool.and_eq_true_iff.mp (Bool.and_eq_true_iff.mp (Bool.and_eq_true_iff.mp (Bool.and_eq_true_iff.mp (Bool.and_eq_true_iff.mp (Bool.and_eq_true_iff.mp (Bool.and_eq_true_iff.mp (Bool.and_eq_true_iff.mp (Bool.and_eq_true_iff.mp (Bool.and_eq_true_iff.mp (Bool.and_eq_true_iff.mp (Bool.and_eq_true_iff.mp (Bool.and_eq_true_iff.mp (Bool.and_eq_true_iff.mp (Bool.and_eq_true_iff.mp (Bool.and_eq_true_iff.mp (Bool.and_eq_true_iff.mp (Bool.and_eq_true_iff.mp (Bool.and_eq_true_iff.mp (Bool.and_eq_true_iff.mp (Bool.and_eq_true_iff.mp (Bool.and_eq_true_iff.mp (Bool.and_eq_true_iff.mp (Bool.and_eq_true_iff.mp (Bool.and_eq_true_iff.mp (Bool.and_eq_true_iff.mp (Bool.and_eq_true_iff.mp (Bool.and_eq_true_iff.mp (Bool.and_eq_true_iff.mp (Bool.and_eq_true_iff.mp (Bool.and_eq_true_iff.mp (Bool.and_eq_true_iff.mp (Bool.and_eq_true_iff.mp (Bool.and_eq_true_iff.mp (Bool.and_eq_true_iff.mp (Bool.and_eq_true_iff.mp xq).1).1).1).1).1).1).1).1).1).1).1).1).1).1).1).1).1).1).1).1).1).1).1).1).1).1).1).1).1).1).1).1).1).1).1).1).1).1).1).1).1).1).1).1).1).1).1).1).1).1).1).1).1).1).1).1).1).1).1).1).1).1).1).1).1).1).1).1).1).1).1).1).1).1).1).1).1).1).1).1).1).1).1).1).1).1).1).1).1).1).1).1).1).1).1).1).1).1).1).2),
    He.eqO_ok ((Bool.and_eq_true_iff.mp (Bool.and_eq_true_iff.mp (Bool.and_eq_true_iff.mp (Bool.and_eq_true_iff.mp (Bool.and_eq_true_iff.mp (Bool.and_eq_true_iff.mp (Bool.and_eq_true_iff.mp (Bool.and_eq_true_iff.mp (Bool.and_eq_true_iff.mp (Bool.and_eq_true_iff.mp (Bool.and_eq_true_iff.mp (Bool.and_eq_true_iff.mp (Bool.and_eq_true_iff.mp (Bool.and_eq_true_iff.mp (Bool.and_eq_true_iff.mp (Bool.and_eq_true_iff.mp (Bool.and_eq_true_iff.mp (Bool.and_eq_true_iff.mp (Bool.and_eq_true_iff.mp (Bool.and_eq_true_iff.mp (Bool.and_eq_true_iff.mp (Bool.and_eq_true_iff.mp (Bool.and_eq_true_iff.mp (Bool.and_eq_true_iff.mp (Bool.and_eq_true_iff.mp (Bool.and_eq_true_iff.mp (Bool.and_eq_true_iff.mp (Bool.and_eq_true_iff.mp (Bool.and_eq_true_iff.mp (Bool.and_eq_true_iff.mp (Bool.and_eq_true_iff.mp (Bool.and_eq_true_iff.mp (Bool.and_eq_true_iff.mp (Bool.and_eq_true_iff.mp (Bool.and_eq_true_iff.mp (Bool.and_eq_true_iff.mp (Bool.and_eq_true_iff.mp (Bool.and_eq_true_iff.mp (Bool.and_eq_true_iff.mp (Bool.and_eq_true_iff.mp (Bool.and_eq_true_iff.mp (Bool.and_eq_true_iff.mp (Bool.and_eq_true_iff.mp (Bool.and_eq_true_iff.mp (Bool.and_eq_true_iff.mp (Bool.and_eq_true_iff.mp (Bool.and_eq_true_iff.mp (Bool.and_eq_true_iff.mp (Bool.and_eq_true_iff.mp (Bool.and_eq_true_iff.mp (Bool.and_eq_true_iff.mp (Bool.and_eq_true_iff.mp (Bool.and_eq_true_iff.mp (Bool.and_eq_true_iff.mp (Bool.and_eq_true_iff.mp (Bool.and_eq_true_iff.mp (Bool.and_eq_true_iff.mp (Bool.and_eq_true_iff.mp (Bool.and_eq_true_iff.mp (Bool.and_eq_true_iff.mp (Bool.and_eq_true_iff.mp (Bool.and_eq_true_iff.mp (Bool.and_eq_true_iff.mp (Bool.and_eq_true_iff.mp (Bool.and_eq_true_iff.mp (Bool.and_eq_true_iff.mp (Bool.and_eq_true_iff.mp (Bool.and_eq_true_iff.mp (Bool.and_eq_true_iff.mp (Bool.and_eq_true_iff.mp (Bool.and_eq_true_iff.mp (Bool.and_eq_true_iff.mp (Bool.and_eq_true_iff.mp (Bool.and_eq_true_iff.mp (Bool.and_eq_true_iff.mp (Bool.and_eq_true_iff.mp (Bool.and_eq_true_iff.mp (Bool.and_eq_true_iff.mp (Bool.and_eq_true_iff.mp (Bool.and_eq_true_iff.mp (Bool.and_eq_true_iff.mp (Bool.and_eq_true_iff.mp (Bool.and_eq_true_iff.mp (Bool.and_eq_true_iff.mp (Bool.and_eq_true_iff.mp (Bool.and_eq_true_iff.mp (Bool.and_eq_true_iff.mp (Bool.and_eq_true_iff.mp (Bool.and_eq_true_iff.mp (Bool.and_eq_true_iff.mp (Bool.and_eq_true_iff.mp (Bool.and_eq_true_iff.mp (Bool.and_eq_true_iff.mp (Bool.and_eq_true_iff.mp (Bool.and_eq_true_iff.mp (Bool.and_eq_true_iff.mp (Bool.and_eq_true_iff.mp (Bool.and_eq_true_iff.mp (Bool.and_eq_true_iff.mp xq).1).1).1).1).1).1).1).1).1).1).1).1).1).1).1).1).1).1).1).1).1).1).1).1).1).1).1).1).1).1).1).1).1).1).1).1).1).1).1).1).1).1).1).1).1).1).1).1).1).1).1).1).1).1).1).1).1).1).1).1).1).1).1).1).1).1).1).1).1).1).1).1).1).1).1).1).1).1).1).1).1).1).1).1).1).1).1).1).1).1).1).1).1).1).1).1).1).1).2),
    errB_ok ((Bool.and_eq_true_iff.mp (Bool.and_eq_true_iff.mp (Bool.and_eq_true_iff.mp (Bool.and_eq_true_iff.mp (Bool.and_eq_true_iff.mp (Bool.and_eq_true_iff.mp (Bool.and_eq_true_iff.mp (Bool.and_eq_true_iff.mp (Bool.and_eq_true_iff.mp (Bool.and_eq_true_iff.mp (Bool.and_eq_true_iff.mp (Bool.and_eq_true_iff.mp (Bool.and_eq_true_iff.mp (Bool.and_eq_true_iff.mp (Bool.and_eq_true_iff.mp (Bool.and_eq_true_iff.mp (Bool.and_eq_true_iff.mp (Bool.and_eq_true_iff.mp (Bool.and_eq_true_iff.mp (Bool.and_eq_true_iff.mp (Bool.and_eq_true_iff.mp (Bool.and_eq_true_iff.mp (Bool.and_eq_true_iff.mp (Bool.and_eq_true_iff.mp (Bool.and_eq_true_iff.mp (Bool.and_eq_true_iff.mp (Bool.and_eq_true_iff.mp (Bool.and_eq_true_iff.mp (Bool.and_eq_true_iff.mp (Bool.and_eq_true_iff.mp (Bool.and_eq_true_iff.mp (Bool.and_eq_true_iff.mp (Bool.and_eq_true_iff.mp (Bool.and_eq_true_iff.mp (Bool.and_eq_true_iff.mp (Bool.and_eq_true_iff.mp (Bool.and_eq_true_iff.mp (Bool.and_eq_true_iff.mp (Bool.and_eq_true_iff.mp (Bool.and_eq_true_iff.mp (Bool.and_eq_true_iff.mp (Bool.and_eq_true_iff.mp (Bool.and_eq_true_iff.mp (Bool.and_eq_true_iff.mp (Bool.and_eq_true_iff.mp (Bool.and_eq_true_iff.mp (Bool.and_eq_true_iff.mp (Bool.and_eq_true_iff.mp (Bool.and_eq_true_iff.mp (Bool.and_eq_true_iff.mp (Bool.and_eq_true_iff.mp (Bool.and_eq_true_iff.mp (Bool.and_eq_true_iff.mp (Bool.and_eq_true_iff.mp (Bool.and_eq_true_iff.mp (Bool.and_eq_true_iff.mp (Bool.and_eq_true_iff.mp (Bool.and_eq_true_iff.mp (Bool.and_eq_true_iff.mp (Bool.and_eq_true_iff.mp (Bool.and_eq_true_iff.mp (Bool.and_eq_true_iff.mp (Bool.and_eq_true_iff.mp (Bool.and_eq_true_iff.mp (Bool.and_eq_true_iff.mp (Bool.and_eq_true_iff.mp (Bool.and_eq_true_iff.mp (Bool.and_eq_true_iff.mp (Bool.and_eq_true_iff.mp (Bool.and_eq_true_iff.mp (Bool.and_eq_true_iff.mp (Bool.and_eq_true_iff.mp (Bool.and_eq_true_iff.mp (Bool.and_eq_true_iff.mp (Bool.and_eq_true_iff.mp (Bool.and_eq_true_iff.mp (Bool.and_eq_true_iff.mp (Bool.and_eq_true_iff.mp (Bool.and_eq_true_iff.mp (Bool.and_eq_true_iff.mp (Bool.and_eq_true_iff.mp (Bool.and_eq_true_iff.mp (Bool.and_eq_true_iff.mp (Bool.and_eq_true_iff.mp (Bool.and_eq_true_iff.mp (Bool.and_eq_true_iff.mp (Bool.and_eq_true_iff.mp (Bool.and_eq_true_iff.mp (Bool.and_eq_true_iff.mp (Bool.and_eq_true_iff.mp (Bool.and_eq_true_iff.mp (Bool.and_eq_true_iff.mp (Bool.and_eq_true_iff.mp (Bool.and_eq_true_iff.mp (Bool.and_eq_true_iff.mp (Bool.and_eq_true_iff.mp (Bool.and_eq_true_iff.mp (Bool.and_eq_true_iff.mp xq).1).1).1).1).1).1).1).1).1).1).1).1).1).1).1).1).1).1).1).1).1).1).1).1).1).1).1).1).1).1).1).1).1).1).1).1).1).1).1).1).1).1).1).1).1).1).1).1).1).1).1).1).1).1).1).1).1).1).1).1).1).1).1).1).1).1).1).1).1).1).1).1).1).1).1).1).1).1).1).1).1).1).1).1).1).1).1).1).1).1).1).1).1).1).1).1).1).2),
    He.eqO_ok ((Bool.and_eq_true_iff.mp (Bool.and_eq_true_iff.mp (Bool.and_eq_true_iff.mp (Bool.and_eq_true_iff.mp (Bool.and_eq_true_iff.mp (Bool.and_eq_true_iff.mp (Bool.and_eq_true_iff.mp (Bool.and_eq_true_iff.mp (Bool.and_eq_true_iff.mp (Bool.and_eq_true_iff.mp (Bool.and_eq_true_iff.mp (Bool.and_eq_true_iff.mp (Bool.and_eq_true_iff.mp (Bool.and_eq_true_iff.mp (Bool.and_eq_true_iff.mp (Bool.and_eq_true_iff.mp (Bool.and_eq_true_iff.mp (Bool.and_eq_true_iff.mp (Bool.and_eq_true_iff.mp (Bool.and_eq_true_iff.mp (Bool.and_eq_true_iff.mp (Bool.and_eq_true_iff.mp (Bool.and_eq_true_iff.mp (Bool.and_eq_true_iff.mp (Bool.and_eq_true_iff.mp (Bool.and_eq_true_iff.mp (Bool.and_eq_true_iff.mp (Bool.and_eq_true_iff.mp (Bool.and_eq_true_iff.mp (Bool.and_eq_true_iff.mp (Bool.and_eq_true_iff.mp (Bool.and_eq_true_iff.mp (Bool.and_eq_true_iff.mp (Bool.and_eq_true_iff.mp (Bool.and_eq_true_iff.mp (Bool.and_eq_true_iff.mp (Bool.and_eq_true_iff.mp (Bool.and_eq_true_iff.mp (Bool.and_eq_true_iff.mp (Bool.and_eq_true_iff.mp (Bool.and_eq_true_iff.mp (Bool.and_eq_true_iff.mp (Bool.and_eq_true_iff.mp (Bool.and_eq_true_iff.mp (Bool.and_eq_true_iff.mp (Bool.and_eq_true_iff.mp (Bool.and_eq_true_iff.mp (Bool.and_eq_true_iff.mp (Bool.and_eq_true_iff.mp (Bool.and_eq_true_iff.mp (Bool.and_eq_true_iff.mp (Bool.and_eq_true_iff.mp (Bool.and_eq_true_iff.mp (Bool.and_eq_true_iff.mp (Bool.and_eq_true_iff.mp (Bool.and_eq_true_iff.mp (Bool.and_eq_true_iff.mp (Bool.and_eq_true_iff.mp (Bool.and_eq_true_iff.mp (Bool.and_eq_true_iff.mp (Bool.and_eq_true_iff.mp (Bool.and_eq_true_iff.mp (Bool.and_eq_true_iff.mp (Bool.and_eq_true_iff.mp (Bool.and_eq_true_iff.mp (Bool.and_eq_true_iff.mp (Bool.and_eq_true_iff.mp (Bool.and_eq_true_iff.mp (Bool.and_eq_true_iff.mp (Bool.and_eq_true_iff.mp (Bool.and_eq_true_iff.mp (Bool.and_eq_true_iff.mp (Bool.and_eq_true_iff.mp (Bool.and_eq_true_iff.mp (Bool.and_eq_true_iff.mp (Bool.and_eq_true_iff.mp (Bool.and_eq_true_iff.mp (Bool.and_eq_true_iff.mp (Bool.and_eq_true_iff.mp (Bool.and_eq_true_iff.mp (Bool.and_eq_true_iff.mp (Bool.and_eq_true_iff.mp (Bool.and_eq_true_iff.mp (Bool.and_eq_true_iff.mp (Bool.and_eq_true_iff.mp (Bool.and_eq_true_iff.mp (Bool.and_eq_true_iff.mp (Bool.and_eq_true_iff.mp (Bool.and_eq_true_iff.mp (Bool.and_eq_true_iff.mp (Bool.and_eq_true_iff.mp (Bool.and_eq_true_iff.mp (Bool.and_eq_true_iff.mp (Bool.and_eq_true_iff.mp (Bool.and_eq_true_iff.mp (Bool.and_eq_true_iff.mp (Bool.and_eq_true_iff.mp xq).1).1).1).1).1).1).1).1).1).1).1).1).1).1).1).1).1).1).1).1).1).1).1).1).1).1).1).1).1).1).1).1).1).1).1).1).1).1).1).1).1).1).1).1).1).1).1).1).1).1).1).1).1).1).1).1).1).1).1).1).1).1).1).1).1).1).1).1).1).1).1).1).1).1).1).1).1).1).1).1).1).1).1).1).1).1).1).1).1).1).1).1).1).1).1).1).2),
    errB_ok ((Bool.and_eq_true_iff.mp (Bool.and_eq_true_iff.mp (Bool.and_eq_true_iff.mp (Bool.and_eq_true_iff.mp (Bool.and_eq_true_iff.mp (Bool.and_eq_true_iff.mp (Bool.and_eq_true_iff.mp (Bool.and_eq_true_iff.mp (Bool.and_eq_true_iff.mp (Bool.and_eq_true_iff.mp (Bool.and_eq_true_iff.mp (Bool.and_eq_true_iff.mp (Bool.and_eq_true_iff.mp (Bool.and_eq_true_iff.mp (Bool.and_eq_true_iff.mp (Bool.and_eq_true_iff.mp (Bool.and_eq_true_iff.mp (Bool.and_eq_true_iff.mp (Bool.and_eq_true_iff.mp (Bool.and_eq_true_iff.mp (Bool.and_eq_true_iff.mp (Bool.and_eq_true_iff.mp (Bool.and_eq_true_iff.mp (Bool.and_eq_true_iff.mp (Bool.and_eq_true_iff.mp (Bool.and_eq_true_iff.mp (Bool.and_eq_true_iff.mp (Bool.and_eq_true_iff.mp (Bool.and_eq_true_iff.mp (Bool.and_eq_true_iff.mp (Bool.and_eq_true_iff.mp (Bool.and_eq_true_iff.mp (Bool.and_eq_true_iff.mp (Bool.and_eq_true_iff.mp (Bool.and_eq_true_iff.mp (Bool.and_eq_true_iff.mp (Bool.and_eq_true_iff.mp (Bool.and_eq_true_iff.mp (Bool.and_eq_true_iff.mp (Bool.and_eq_true_iff.mp (Bool.and_eq_true_iff.mp (Bool.and_eq_true_iff.mp (Bool.and_eq_true_iff.mp (Bool.and_eq_true_iff.mp (Bool.and_eq_true_iff.mp (Bool.and_eq_true_iff.mp (Bool.and_eq_true_iff.mp (Bool.and_eq_true_iff.mp (Bool.and_eq_true_iff.mp (Bool.and_eq_true_iff.mp (Bool.and_eq_true_iff.mp (Bool.and_eq_true_iff.mp (Bool.and_eq_true_iff.mp (Bool.and_eq_true_iff.mp (Bool.and_eq_true_iff.mp (Bool.and_eq_true_iff.mp (Bool.and_eq_true_iff.mp (Bool.and_eq_true_iff.mp (Bool.and_eq_true_iff.mp (Bool.and_eq_true_iff.mp (Bool.and_eq_true_iff.mp (Bool.and_eq_true_iff.mp (Bool.and_eq_true_iff.mp (Bool.and_eq_true_iff.mp (Bool.and_eq_true_iff.mp (Bool.and_eq_true_iff.mp (Bool.and_eq_true_iff.mp (Bool.and_eq_true_iff.mp (Bool.and_eq_true_iff.mp (Bool.and_eq_true_iff.mp (Bool.and_eq_true_iff.mp (Bool.and_eq_true_iff.mp (Bool.and_eq_true_iff.mp (Bool.and_eq_true_iff.mp (Bool.and_eq_true_iff.mp (Bool.and_eq_true_iff.mp (Bool.and_eq_true_iff.mp (Bool.and_eq_true_iff.mp (Bool.and_eq_true_iff.mp (Bool.and_eq_true_iff.mp (Bool.and_eq_true_iff.mp (Bool.and_eq_true_iff.mp (Bool.and_eq_true_iff.mp (Bool.and_eq_true_iff.mp (Bool.and_eq_true_iff.mp (Bool.and_eq_true_iff.mp (Bool.and_eq_true_iff.mp (Bool.and_eq_true_iff.mp (Bool.and_eq_true_iff.mp (Bool.and_eq_true_iff.mp (Bool.and_eq_true_iff.mp (Bool.and_eq_true_iff.mp (Bool.and_eq_true_iff.mp (Bool.and_eq_true_iff.mp (Bool.and_eq_true_iff.mp (Bool.and_eq_true_iff.mp xq).1).1).1).1).1).1).1).1).1).1).1).1).1).1).1).1).1).1).1).1).1).1).1).1).1).1).1).1).1).1).1).1).1).1).1).1).1).1).1).1).1).1).1).1).1).1).1).1).1).1).1).1).1).1).1).1).1).1).1).1).1).1).1).1).1).1).1).1).1).1).1).1).1).1).1).1).1).1).1).1).1).1).1).1).1).1).1).1).1).1).1).1).1).1).1).2),
    He.eqO_ok ((Bool.and_eq_true_iff.mp (Bool.and_eq_true_iff.mp (Bool.and_eq_true_iff.mp (Bool.and_eq_true_iff.mp (Bool.and_eq_true_iff.mp (Bool.and_eq_true_iff.mp (Bool.and_eq_true_iff.mp (Bool.and_eq_true_iff.mp (Bool.and_eq_true_iff.mp (Bool.and_eq_true_iff.mp (Bool.and_eq_true_iff.mp (Bool.and_eq_true_iff.mp (Bool.and_eq_true_iff.mp (Bool.and_eq_true_iff.mp (Bool.and_eq_true_iff.mp (Bool.and_eq_true_iff.mp (Bool.and_eq_true_iff.mp (Bool.and_eq_true_iff.mp (Bool.and_eq_true_iff.mp (Bool.and_eq_true_iff.mp (Bool.and_eq_true_iff.mp (Bool.and_eq_true_iff.mp (Bool.and_eq_true_iff.mp (Bool.and_eq_true_iff.mp (Bool.and_eq_true_iff.mp (Bool.and_eq_true_iff.mp (Bool.and_eq_true_iff.mp (Bool.and_eq_true_iff.mp (Bool.and_eq_true_iff.mp (Bool.and_eq_true_iff.mp (Bool.and_eq_true_iff.mp (Bool.and_eq_true_iff.mp (Bool.and_eq_true_iff.mp (Bool.and_eq_true_iff.mp (Bool.and_eq_true_iff.mp (Bool.and_eq_true_iff.mp (Bool.and_eq_true_iff.mp (Bool.and_eq_true_iff.mp (Bool.and_eq_true_iff.mp (Bool.and_eq_true_iff.mp (Bool.and_eq_true_iff.mp (Bool.and_eq_true_iff.mp (Bool.and_eq_true_iff.mp (Bool.and_eq_true_iff.mp (Bool.and_eq_true_iff.mp (Bool.and_eq_true_iff.mp (Bool.and_eq_true_iff.mp (Bool.and_eq_true_iff.mp (Bool.and_eq_true_iff.mp (Bool.and_eq_true_iff.mp (Bool.and_eq_true_iff.mp (Bool.and_eq_true_iff.mp (Bool.and_eq_true_iff.mp (Bool.and_eq_true_iff.mp (Bool.and_eq_true_iff.mp (Bool.and_eq_true_iff.mp (Bool.and_eq_true_iff.mp (Bool.and_eq_true_iff.mp (Bool.and_eq_true_iff.mp (Bool.and_eq_true_iff.mp (Bool.and_eq_true_iff.mp (Bool.and_eq_true_iff.mp (Bool.and_eq_true_iff.mp (Bool.and_eq_true_iff.mp (Bool.and_eq_true_iff.mp (Bool.and_eq_true_iff.mp (Bool.and_eq_true_iff.mp (Bool.and_eq_true_iff.mp (Bool.and_eq_true_iff.mp (Bool.and_eq_true_iff.mp (Bool.and_eq_true_iff.mp (Bool.and_eq_true_iff.mp (Bool.and_eq_true_iff.mp (Bool.and_eq_true_iff.mp (Bool.and_eq_true_iff.mp (Bool.and_eq_true_iff.mp (Bool.and_eq_true_iff.mp (Bool.and_eq_true_iff.mp (Bool.and_eq_true_iff.mp (Bool.and_eq_true_iff.mp (Bool.and_eq_true_iff.mp (Bool.and_eq_true_iff.mp (Bool.and_eq_true_iff.mp (Bool.and_eq_true_iff.mp (Bool.and_eq_true_iff.mp (Bool.and_eq_true_iff.mp (Bool.and_eq_true_iff.mp (Bool.and_eq_true_iff.mp (Bool.and_eq_true_iff.mp (Bool.and_eq_true_iff.mp (Bool.and_eq_true_iff.mp (Bool.and_eq_true_iff.mp (Bool.and_eq_true_iff.mp (Bool.and_eq_true_iff.mp (Bool.and_eq_true_iff.mp xq).1).1).1).1).1).1).1).1).1).1).1).1).1).1).1).1).1).1).1).1).1).1).1).1).1).1).1).1).1).1).1).1).1).1).1).1).1).1).1).1).1).1).1).1).1).1).1).1).1).1).1).1).1).1).1).1).1).1).1).1).1).1).1).1).1).1).1).1).1).1).1).1).1).1).1).1).1).1).1).1).1).1).1).1).1).1).1).1).1).1).1).1).1).1).2),
    errB_ok ((Bool.and_eq_true_iff.mp (Bool.and_eq_true_iff.mp (Bool.and_eq_true_iff.mp (Bool.and_eq_true_iff.mp (Bool.and_eq_true_iff.mp (Bool.and_eq_true_iff.mp (Bool.and_eq_true_iff.mp (Bool.and_eq_true_iff.mp (Bool.and_eq_true_iff.mp (Bool.and_eq_true_iff.mp (Bool.and_eq_true_iff.mp (Bool.and_eq_true_iff.mp (Bool.and_eq_true_iff.mp (Bool.and_eq_true_iff.mp (Bool.and_eq_true_iff.mp (Bool.and_eq_true_iff.mp (Bool.and_eq_true_iff.mp (Bool.and_eq_true_iff.mp (Bool.and_eq_true_iff.mp (Bool.and_eq_true_iff.mp (Bool.and_eq_true_iff.mp (Bool.and_eq_true_iff.mp (Bool.and_eq_true_iff.mp (Bool.and_eq_true_iff.mp (Bool.and_eq_true_iff.mp (Bool.and_eq_true_iff.mp (Bool.and_eq_true_iff.mp (Bool.and_eq_true_iff.mp (Bool.and_eq_true_iff.mp (Bool.and_eq_true_iff.mp (Bool.and_eq_true_iff.mp (Bool.and_eq_true_iff.mp (Bool.and_eq_true_iff.mp (Bool.and_eq_true_iff.mp (Bool.and_eq_true_iff.mp (Bool.and_eq_true_iff.mp (Bool.and_eq_true_iff.mp (Bool.and_eq_true_iff.mp (Bool.and_eq_true_iff.mp (Bool.and_eq_true_iff.mp (Bool.and_eq_true_iff.mp (Bool.and_eq_true_iff.mp (Bool.and_eq_true_iff.mp (Bool.and_eq_true_iff.mp (Bool.and_eq_true_iff.mp (Bool.and_eq_true_iff.mp (Bool.and_eq_true_iff.mp (Bool.and_eq_true_iff.mp (Bool.and_eq_true_iff.mp (Bool.and_eq_true_iff.mp (Bool.and_eq_true_iff.mp (Bool.and_eq_true_iff.mp (Bool.and_eq_true_iff.mp (Bool.and_eq_true_iff.mp (Bool.and_eq_true_iff.mp (Bool.and_eq_true_iff.mp (Bool.and_eq_true_iff.mp (Bool.and_eq_true_iff.mp (Bool.and_eq_true_iff.mp (Bool.and_eq_true_iff.mp (Bool.and_eq_true_iff.mp (Bool.and_eq_true_iff.mp (Bool.and_eq_true_iff.mp (Bool.and_eq_true_iff.mp (Bool.and_eq_true_iff.mp (Bool.and_eq_true_iff.mp (Bool.and_eq_true_iff.mp (Bool.and_eq_true_iff.mp (Bool.and_eq_true_iff.mp (Bool.and_eq_true_iff.mp (Bool.and_eq_true_iff.mp (Bool.and_eq_true_iff.mp (Bool.and_eq_true_iff.mp (Bool.and_eq_true_iff.mp (Bool.and_eq_true_iff.mp (Bool.and_eq_true_iff.mp (Bool.and_eq_true_iff.mp (Bool.and_eq_true_iff.mp (Bool.and_eq_true_iff.mp (Bool.and_eq_true_iff.mp (Bool.and_eq_true_iff.mp (Bool.and_eq_true_iff.mp (Bool.and_eq_true_iff.mp (Bool.and_eq_true_iff.mp (Bool.and_eq_true_iff.mp (Bool.and_eq_true_iff.mp (Bool.and_eq_true_iff.mp (Bool.and_eq_true_iff.mp (Bool.and_eq_true_iff.mp (Bool.and_eq_true_iff.mp (Bool.and_eq_true_iff.mp (Bool.and_eq_true_iff.mp (Bool.and_eq_true_iff.mp (Bool.and_eq_true_iff.mp xq).1).1).1).1).1).1).1).1).1).1).1).1).1).1).1).1).1).1).1).1).1).1).1).1).1).1).1).1).1).1).1).1).1).1).1).1).1).1).1).1).1).1).1).1).1).1).1).1).1).1).1).1).1).1).1).1).1).1).1).1).1).1).1).1).1).1).1).1).1).1).1).1).1).1).1).1).1).1).1).1).1).1).1).1).1).1).1).1).1).1).1).1).1).2),
    He.eqO_ok ((Bool.and_eq_true_iff.mp (Bool.and_eq_true_iff.mp (Bool.and_eq_true_iff.mp (Bool.and_eq_true_iff.mp (Bool.and_eq_true_iff.mp (Bool.and_eq_true_iff.mp (Bool.and_eq_true_iff.mp (Bool.and_eq_true_iff.mp (Bool.and_eq_true_iff.mp (Bool.and_eq_true_iff.mp (Bool.and_eq_true_iff.mp (Bool.and_eq_true_iff.mp (Bool.and_eq_true_iff.mp (Bool.and_eq_true_iff.mp (Bool.and_eq_true_iff.mp (Bool.and_eq_true_iff.mp (Bool.and_eq_true_iff.mp (Bool.and_eq_true_iff.mp (Bool.and_eq_true_iff.mp (Bool.and_eq_true_iff.mp (Bool.and_eq_true_iff.mp (Bool.and_eq_true_iff.mp (Bool.and_eq_true_iff.mp (Bool.and_eq_true_iff.mp (Bool.and_eq_true_iff.mp (Bool.and_eq_true_iff.mp (Bool.and_eq_true_iff.mp (Bool.and_eq_true_iff.mp (Bool.and_eq_true_iff.mp (Bool.and_eq_true_iff.mp (Bool.and_eq_true_iff.mp (Bool.and_eq_true_iff.mp (Bool.and_eq_true_iff.mp (Bool.and_eq_true_iff.mp (Bool.and_eq_true_iff.mp (Bool.and_eq_true_iff.mp (Bool.and_eq_true_iff.mp (Bool.and_eq_true_iff.mp (Bool.and_eq_true_iff.mp (Bool.and_eq_true_iff.mp (Bool.and_eq_true_iff.mp (Bool.and_eq_true_iff.mp (Bool.and_eq_true_iff.mp (Bool.and_eq_true_iff.mp (Bool.and_eq_true_iff.mp (Bool.and_eq_true_iff.mp (Bool.and_eq_true_iff.mp (Bool.and_eq_true_iff.mp (Bool.and_eq_true_iff.mp (Bool.and_eq_true_iff.mp (Bool.and_eq_true_iff.mp (Bool.and_eq_true_iff.mp (Bool.and_eq_true_iff.mp (Bool.and_eq_true_iff.mp (Bool.and_eq_true_iff.mp (Bool.and_eq_true_iff.mp (Bool.and_eq_true_iff.mp (Bool.and_eq_true_iff.mp (Bool.and_eq_true_iff.mp (Bool.and_eq_true_iff.mp (Bool.and_eq_true_iff.mp (Bool.and_eq_true_iff.mp (Bool.and_eq_true_iff.mp (Bool.and_eq_true_iff.mp (Bool.and_eq_true_iff.mp (Bool.and_eq_true_iff.mp (Bool.and_eq_true_iff.mp (Bool.and_eq_true_iff.mp (Bool.and_eq_true_iff.mp (Bool.and_eq_true_iff.mp (Bool.and_eq_true_iff.mp (Bool.and_eq_true_iff.mp (Bool.and_eq_true_iff.mp (Bool.and_eq_true_iff.mp (Bool.and_eq_true_iff.mp (Bool.and_eq_true_iff.mp (Bool.and_eq_true_iff.mp (Bool.and_eq_true_iff.mp (Bool.and_eq_true_iff.mp (Bool.and_eq_true_iff.mp (Bool.and_eq_true_iff.mp (Bool.and_eq_true_iff.mp (Bool.and_eq_true_iff.mp (Bool.and_eq_true_iff.mp (Bool.and_eq_true_iff.mp (Bool.and_eq_true_iff.mp (Bool.and_eq_true_iff.mp (Bool.and_eq_true_iff.mp (Bool.and_eq_true_iff.mp (Bool.and_eq_true_iff.mp (Bool.and_eq_true_iff.mp (Bool.and_eq_true_iff.mp (Bool.and_eq_true_iff.mp xq).1).1).1).1).1).1).1).1).1).1).1).1).1).1).1).1).1).1).1).1).1).1).1).1).1).1).1).1).1).1).1).1).1).1).1).1).1).1).1).1).1).1).1).1).1).1).1).1).1).1).1).1).1).1).1).1).1).1).1).1).1).1).1).1).1).1).1).1).1).1).1).1).1).1).1).1).1).1).1).1).1).1).1).1).1).1).1).1).1).1).1).1).2),
    errB_ok ((Bool.and_eq_true_iff.mp (Bool.and_eq_true_iff.mp (Bool.and_eq_true_iff.mp (Bool.and_eq_true_iff.mp (Bool.and_eq_true_iff.mp (Bool.and_eq_true_iff.mp (Bool.and_eq_true_iff.mp (Bool.and_eq_true_iff.mp (Bool.and_eq_true_iff.mp (Bool.and_eq_true_iff.mp (Bool.and_eq_true_iff.mp (Bool.and_eq_true_iff.mp (Bool.and_eq_true_iff.mp (Bool.and_eq_true_iff.mp (Bool.and_eq_true_iff.mp (Bool.and_eq_true_iff.mp (Bool.and_eq_true_iff.mp (Bool.and_eq_true_iff.mp (Bool.and_eq_true_iff.mp (Bool.and_eq_true_iff.mp (Bool.and_eq_true_iff.mp (Bool.and_eq_true_iff.mp (Bool.and_eq_true_iff.mp (Bool.and_eq_true_iff.mp (Bool.and_eq_true_iff.mp (Bool.and_eq_true_iff.mp (Bool.and_eq_true_iff.mp (Bool.and_eq_true_iff.mp (Bool.and_eq_true_iff.mp (Bool.and_eq_true_iff.mp (Bool.and_eq_true_iff.mp (Bool.and_eq_true_iff.mp (Bool.and_eq_true_iff.mp (Bool.and_eq_true_iff.mp (Bool.and_eq_true_iff.mp (Bool.and_eq_true_iff.mp (Bool.and_eq_true_iff.mp (Bool.and_eq_true_iff.mp (Bool.and_eq_true_iff.mp (Bool.and_eq_true_iff.mp (Bool.and_eq_true_iff.mp (Bool.and_eq_true_iff.mp (Bool.and_eq_true_iff.mp (Bool.and_eq_true_iff.mp (Bool.and_eq_true_iff.mp (Bool.and_eq_true_iff.mp (Bool.and_eq_true_iff.mp (Bool.and_eq_true_iff.mp (Bool.and_eq_true_iff.mp (Bool.and_eq_true_iff.mp (Bool.and_eq_true_iff.mp (Bool.and_eq_true_iff.mp (Bool.and_eq_true_iff.mp (Bool.and_eq_true_iff.mp (Bool.and_eq_true_iff.mp (Bool.and_eq_true_iff.mp (Bool.and_eq_true_iff.mp (Bool.and_eq_true_iff.mp (Bool.and_eq_true_iff.mp (Bool.and_eq_true_iff.mp (Bool.and_eq_true_iff.mp (Bool.and_eq_true_iff.mp (Bool.and_eq_true_iff.mp (Bool.and_eq_true_iff.mp (Bool.and_eq_true_iff.mp (Bool.and_eq_true_iff.mp (Bool.and_eq_true_iff.mp (Bool.and_eq_true_iff.mp (Bool.and_eq_true_iff.mp (Bool.and_eq_true_iff.mp (Bool.and_eq_true_iff.mp (Bool.and_eq_true_iff.mp (Bool.and_eq_true_iff.mp (Bool.and_eq_true_iff.mp (Bool.and_eq_true_iff.mp (Bool.and_eq_true_iff.mp (Bool.and_eq_true_iff.mp (Bool.and_eq_true_iff.mp (Bool.and_eq_true_iff.mp (Bool.and_eq_true_iff.mp (Bool.and_eq_true_iff.mp (Bool.and_eq_true_iff.mp (Bool.and_eq_true_iff.mp (Bool.and_eq_true_iff.mp (Bool.and_eq_true_iff.mp (Bool.and_eq_true_iff.mp (Bool.and_eq_true_iff.mp (Bool.and_eq_true_iff.mp (Bool.and_eq_true_iff.mp (Bool.and_eq_true_iff.mp (Bool.and_eq_true_iff.mp (Bool.and_eq_true_iff.mp xq).1).1).1).1).1).1).1).1).1).1).1).1).1).1).1).1).1).1).1).1).1).1).1).1).1).1).1).1).1).1).1).1).1).1).1).1).1).1).1).1).1).1).1).1).1).1).1).1).1).1).1).1).1).1).1).1).1).1).1).1).1).1).1).1).1).1).1).1).1).1).1).1).1).1).1).1).1).1).1).1).1).1).1).1).1).1).1).1).1).1).1).2),
    He.eqO_ok ((Bool.and_eq_true_iff.mp (Bool.and_eq_true_iff.mp (Bool.and_eq_true_iff.mp (Bool.and_eq_true_iff.mp (Bool.and_eq_true_iff.mp (Bool.and_eq_true_iff.mp (Bool.and_eq_true_iff.mp (Bool.and_eq_true_iff.mp (Bool.and_eq_true_iff.mp (Bool.and_eq_true_iff.mp (Bool.and_eq_true_iff.mp (Bool.and_eq_true_iff.mp (Bool.and_eq_true_iff.mp (Bool.and_eq_true_iff.mp (Bool.and_eq_true_iff.mp (Bool.and_eq_true_iff.mp (Bool.and_eq_true_iff.mp (Bool.and_eq_true_iff.mp (Bool.and_eq_true_iff.mp (Bool.and_eq_true_iff.mp (Bool.and_eq_true_iff.mp (Bool.and_eq_true_iff.mp (Bool.and_eq_true_iff.mp (Bool.and_eq_true_iff.mp (Bool.and_eq_true_iff.mp (Bool.and_eq_true_iff.mp (Bool.and_eq_true_iff.mp (Bool.and_eq_true_iff.mp (Bool.and_eq_true_iff.mp (Bool.and_eq_true_iff.mp (Bool.and_eq_true_iff.mp (Bool.and_eq_true_iff.mp (Bool.and_eq_true_iff.mp (Bool.and_eq_true_iff.mp (Bool.and_eq_true_iff.mp (Bool.and_eq_true_iff.mp (Bool.and_eq_true_iff.mp (Bool.and_eq_true_iff.mp (Bool.and_eq_true_iff.mp (Bool.and_eq_true_iff.mp (Bool.and_eq_true_iff.mp (Bool.and_eq_true_iff.mp (Bool.and_eq_true_iff.mp (Bool.and_eq_true_iff.mp (Bool.and_eq_true_iff.mp (Bool.and_eq_true_iff.mp (Bool.and_eq_true_iff.mp (Bool.and_eq_true_iff.mp (Bool.and_eq_true_iff.mp (Bool.and_eq_true_iff.mp (Bool.and_eq_true_iff.mp (Bool.and_eq_true_iff.mp (Bool.and_eq_true_iff.mp (Bool.and_eq_true_iff.mp (Bool.and_eq_true_iff.mp (Bool.and_eq_true_iff.mp (Bool.and_eq_true_iff.mp (Bool.and_eq_true_iff.mp (Bool.and_eq_true_iff.mp (Bool.and_eq_true_iff.mp (Bool.and_eq_true_iff.mp (Bool.and_eq_true_iff.mp (Bool.and_eq_true_iff.mp (Bool.and_eq_true_iff.mp (Bool.and_eq_true_iff.mp (Bool.and_eq_true_iff.mp (Bool.and_eq_true_iff.mp (Bool.and_eq_true_iff.mp (Bool.and_eq_true_iff.mp (Bool.and_eq_true_iff.mp (Bool.and_eq_true_iff.mp (Bool.and_eq_true_iff.mp (Bool.and_eq_true_iff.mp (Bool.and_eq_true_iff.mp (Bool.and_eq_true_iff.mp (Bool.and_eq_true_iff.mp (Bool.and_eq_true_iff.mp (Bool.and_eq_true_iff.mp (Bool.and_eq_true_iff.mp (Bool.and_eq_true_iff.mp (Bool.and_eq_true_iff.mp (Bool.and_eq_true_iff.mp (Bool.and_eq_true_iff.mp (Bool.and_eq_true_iff.mp (Bool.and_eq_true_iff.mp (Bool.and_eq_true_iff.mp (Bool.and_eq_true_iff.mp (Bool.and_eq_true_iff.mp (Bool.and_eq_true_iff.mp (Bool.and_eq_true_iff.mp (Bool.and_eq_true_iff.mp xq).1).1).1).1).1).1).1).1).1).1).1).1).1).1).1).1).1).1).1).1).1).1).1).1).1).1).1).1).1).1).1).1).1).1).1).1).1).1).1).1).1).1).1).1).1).1).1).1).1).1).1).1).1).1).1).1).1).1).1).1).1).1).1).1).1).1).1).1).1).1).1).1).1).1).1).1).1).1).1).1).1).1).1).1).1).1).1).1).1).1).2),
    errNB_ok ((Bool.and_eq_true_iff.mp (Bool.and_eq_true_iff.mp (Bool.and_eq_true_iff.mp (Bool.and_eq_true_iff.mp (Bool.and_eq_true_iff.mp (Bool.and_eq_true_iff.mp (Bool.and_eq_true_iff.mp (Bool.and_eq_true_iff.mp (Bool.and_eq_true_iff.mp (Bool.and_eq_true_iff.mp (Bool.and_eq_true_iff.mp (Bool.and_eq_true_iff.mp (Bool.and_eq_true_iff.mp (Bool.and_eq_true_iff.mp (Bool.and_eq_true_iff.mp (Bool.and_eq_true_iff.mp (Bool.and_eq_true_iff.mp (Bool.and_eq_true_iff.mp (Bool.and_eq_true_iff.mp (Bool.and_eq_true_iff.mp (Bool.and_eq_true_iff.mp (Bool.and_eq_true_iff.mp (Bool.and_eq_true_iff.mp (Bool.and_eq_true_iff.mp (Bool.and_eq_true_iff.mp (Bool.and_eq_true_iff.mp (Bool.and_eq_true_iff.mp (Bool.and_eq_true_iff.mp (Bool.and_eq_true_iff.mp (Bool.and_eq_true_iff.mp (Bool.and_eq_true_iff.mp (Bool.and_eq_true_iff.mp (Bool.and_eq_true_iff.mp (Bool.and_eq_true_iff.mp (Bool.and_eq_true_iff.mp (Bool.and_eq_true_iff.mp (Bool.and_eq_true_iff.mp (Bool.and_eq_true_iff.mp (Bool.and_eq_true_iff.mp (Bool.and_eq_true_iff.mp (Bool.and_eq_true_iff.mp (Bool.and_eq_true_iff.mp (Bool.and_eq_true_iff.mp (Bool.and_eq_true_iff.mp (Bool.and_eq_true_iff.mp (Bool.and_eq_true_iff.mp (Bool.and_eq_true_iff.mp (Bool.and_eq_true_iff.mp (Bool.and_eq_true_iff.mp (Bool.and_eq_true_iff.mp (Bool.and_eq_true_iff.mp (Bool.and_eq_true_iff.mp (Bool.and_eq_true_iff.mp (Bool.and_eq_true_iff.mp (Bool.and_eq_true_iff.mp (Bool.and_eq_true_iff.mp (Bool.and_eq_true_iff.mp (Bool.and_eq_true_iff.mp (Bool.and_eq_true_iff.mp (Bool.and_eq_true_iff.mp (Bool.and_eq_true_iff.mp (Bool.and_eq_true_iff.mp (Bool.and_eq_true_iff.mp (Bool.and_eq_true_iff.mp (Bool.and_eq_true_iff.mp (Bool.and_eq_true_iff.mp (Bool.and_eq_true_iff.mp (Bool.and_eq_true_iff.mp (Bool.and_eq_true_iff.mp (Bool.and_eq_true_iff.mp (Bool.and_eq_true_iff.mp (Bool.and_eq_true_iff.mp (Bool.and_eq_true_iff.mp (Bool.and_eq_true_iff.mp (Bool.and_eq_true_iff.mp (Bool.and_eq_true_iff.mp (Bool.and_eq_true_iff.mp (Bool.and_eq_true_iff.mp (Bool.and_eq_true_iff.mp (Bool.and_eq_true_iff.mp (Bool.and_eq_true_iff.mp (Bool.and_eq_true_iff.mp (Bool.and_eq_true_iff.mp (Bool.and_eq_true_iff.mp (Bool.and_eq_true_iff.mp (Bool.and_eq_true_iff.mp (Bool.and_eq_true_iff.mp (Bool.and_eq_true_iff.mp (Bool.and_eq_true_iff.mp (Bool.and_eq_true_iff.mp xq).1).1).1).1).1).1).1).1).1).1).1).1).1).1).1).1).1).1).1).1).1).1).1).1).1).1).1).1).1).1).1).1).1).1).1).1).1).1).1).1).1).1).1).1).1).1).1).1).1).1).1).1).1).1).1).1).1).1).1).1).1).1).1).1).1).1).1).1).1).1).1).1).1).1).1).1).1).1).1).1).1).1).1).1).1).1).1).1).1).2),
    errNB_ok ((Bool.and_eq_true_iff.mp (Bool.and_eq_true_iff.mp (Bool.and_eq_true_iff.mp (Bool.and_eq_true_iff.mp (Bool.and_eq_true_iff.mp (Bool.and_eq_true_iff.mp (Bool.and_eq_true_iff.mp (Bool.and_eq_true_iff.mp (Bool.and_eq_true_iff.mp (Bool.and_eq_true_iff.mp (Bool.and_eq_true_iff.mp (Bool.and_eq_true_iff.mp (Bool.and_eq_true_iff.mp (Bool.and_eq_true_iff.mp (Bool.and_eq_true_iff.mp (Bool.and_eq_true_iff.mp (Bool.and_eq_true_iff.mp (Bool.and_eq_true_iff.mp (Bool.and_eq_true_iff.mp (Bool.and_eq_true_iff.mp (Bool.and_eq_true_iff.mp (Bool.and_eq_true_iff.mp (Bool.and_eq_true_iff.mp (Bool.and_eq_true_iff.mp (Bool.and_eq_true_iff.mp (Bool.and_eq_true_iff.mp (Bool.and_eq_true_iff.mp (Bool.and_eq_true_iff.mp (Bool.and_eq_true_iff.mp (Bool.and_eq_true_iff.mp (Bool.and_eq_true_iff.mp (Bool.and_eq_true_iff.mp (Bool.and_eq_true_iff.mp (Bool.and_eq_true_iff.mp (Bool.and_eq_true_iff.mp (Bool.and_eq_true_iff.mp (Bool.and_eq_true_iff.mp (Bool.and_eq_true_iff.mp (Bool.and_eq_true_iff.mp (Bool.and_eq_true_iff.mp (Bool.and_eq_true_iff.mp (Bool.and_eq_true_iff.mp (Bool.and_eq_true_iff.mp (Bool.and_eq_true_iff.mp (Bool.and_eq_true_iff.mp (Bool.and_eq_true_iff.mp (Bool.and_eq_true_iff.mp (Bool.and_eq_true_iff.mp (Bool.and_eq_true_iff.mp (Bool.and_eq_true_iff.mp (Bool.and_eq_true_iff.mp (Bool.and_eq_true_iff.mp (Bool.and_eq_true_iff.mp (Bool.and_eq_true_iff.mp (Bool.and_eq_true_iff.mp (Bool.and_eq_true_iff.mp (Bool.and_eq_true_iff.mp (Bool.and_eq_true_iff.mp (Bool.and_eq_true_iff.mp (Bool.and_eq_true_iff.mp (Bool.and_eq_true_iff.mp (Bool.and_eq_true_iff.mp (Bool.and_eq_true_iff.mp (Bool.and_eq_true_iff.mp (Bool.and_eq_true_iff.mp (Bool.and_eq_true_iff.mp (Bool.and_eq_true_iff.mp (Bool.and_eq_true_iff.mp (Bool.and_eq_true_iff.mp (Bool.and_eq_true_iff.mp (Bool.and_eq_true_iff.mp (Bool.and_eq_true_iff.mp (Bool.and_eq_true_iff.mp (Bool.and_eq_true_iff.mp (Bool.and_eq_true_iff.mp (Bool.and_eq_true_iff.mp (Bool.and_eq_true_iff.mp (Bool.and_eq_true_iff.mp (Bool.and_eq_true_iff.mp (Bool.and_eq_true_iff.mp (Bool.and_eq_true_iff.mp (Bool.and_eq_true_iff.mp (Bool.and_eq_true_iff.mp (Bool.and_eq_true_iff.mp (Bool.and_eq_true_iff.mp (Bool.and_eq_true_iff.mp (Bool.and_eq_true_iff.mp (Bool.and_eq_true_iff.mp (Bool.and_eq_true_iff.mp xq).1).1).1).1).1).1).1).1).1).1).1).1).1).1).1).1).1).1).1).1).1).1).1).1).1).1).1).1).1).1).1).1).1).1).1).1).1).1).1).1).1).1).1).1).1).1).1).1).1).1).1).1).1).1).1).1).1).1).1).1).1).1).1).1).1).1).1).1).1).1).1).1).1).1).1).1).1).1).1).1).1).1).1).1).1).1).1).1).2),
    errNB_ok ((Bool.and_eq_true_iff.mp (Bool.and_eq_true_iff.mp (Bool.and_eq_true_iff.mp (Bool.and_eq_true_iff.mp (Bool.and_eq_true_iff.mp (Bool.and_eq_true_iff.mp (Bool.and_eq_true_iff.mp (Bool.and_eq_true_iff.mp (Bool.and_eq_true_iff.mp (Bool.and_eq_true_iff.mp (Bool.and_eq_true_iff.mp (Bool.and_eq_true_iff.mp (Bool.and_eq_true_iff.mp (Bool.and_eq_true_iff.mp (Bool.and_eq_true_iff.mp (Bool.and_eq_true_iff.mp (Bool.and_eq_true_iff.mp (Bool.and_eq_true_iff.mp (Bool.and_eq_true_iff.mp (Bool.and_eq_true_iff.mp (Bool.and_eq_true_iff.mp (Bool.and_eq_true_iff.mp (Bool.and_eq_true_iff.mp (Bool.and_eq_true_iff.mp (Bool.and_eq_true_iff.mp (Bool.and_eq_true_iff.mp (Bool.and_eq_true_iff.mp (Bool.and_eq_true_iff.mp (Bool.and_eq_true_iff.mp (Bool.and_eq_true_iff.mp (Bool.and_eq_true_iff.mp (Bool.and_eq_true_iff.mp (Bool.and_eq_true_iff.mp (Bool.and_eq_true_iff.mp (Bool.and_eq_true_iff.mp (Bool.and_eq_true_iff.mp (Bool.and_eq_true_iff.mp (Bool.and_eq_true_iff.mp (Bool.and_eq_true_iff.mp (Bool.and_eq_true_iff.mp (Bool.and_eq_true_iff.mp (Bool.and_eq_true_iff.mp (Bool.and_eq_true_iff.mp (Bool.and_eq_true_iff.mp (Bool.and_eq_true_iff.mp (Bool.and_eq_true_iff.mp (Bool.and_eq_true_iff.mp (Bool.and_eq_true_iff.mp (Bool.and_eq_true_iff.mp (Bool.and_eq_true_iff.mp (Bool.and_eq_true_iff.mp (Bool.and_eq_true_iff.mp (Bool.and_eq_true_iff.mp (Bool.and_eq_true_iff.mp (Bool.and_eq_true_iff.mp (Bool.and_eq_true_iff.mp (Bool.and_eq_true_iff.mp (Bool.and_eq_true_iff.mp (Bool.and_eq_true_iff.mp (Bool.and_eq_true_iff.mp (Bool.and_eq_true_iff.mp (Bool.and_eq_true_iff.mp (Bool.and_eq_true_iff.mp (Bool.and_eq_true_iff.mp (Bool.and_eq_true_iff.mp (Bool.and_eq_true_iff.mp (Bool.and_eq_true_iff.mp (Bool.and_eq_true_iff.mp (Bool.and_eq_true_iff.mp (Bool.and_eq_true_iff.mp (Bool.and_eq_true_iff.mp (Bool.and_eq_true_iff.mp (Bool.and_eq_true_iff.mp (Bool.and_eq_true_iff.mp (Bool.and_eq_true_iff.mp (Bool.and_eq_true_iff.mp (Bool.and_eq_true_iff.mp (Bool.and_eq_true_iff.mp (Bool.and_eq_true_iff.mp (Bool.and_eq_true_iff.mp (Bool.and_eq_true_iff.mp (Bool.and_eq_true_iff.mp (Bool.and_eq_true_iff.mp (Bool.and_eq_true_iff.mp (Bool.and_eq_true_iff.mp (Bool.and_eq_true_iff.mp (Bool.and_eq_true_iff.mp (Bool.and_eq_true_iff.mp xq).1).1).1).1).1).1).1).1).1).1).1).1).1).1).1).1).1).1).1).1).1).1).1).1).1).1).1).1).1).1).1).1).1).1).1).1).1).1).1).1).1).1).1).1).1).1).1).1).1).1).1).1).1).1).1).1).1).1).1).1).1).1).1).1).1).1).1).1).1).1).1).1).1).1).1).1).1).1).1).1).1).1).1).1).1).1).1).2),
    errNB_ok ((Bool.and_eq_true_iff.mp (Bool.and_eq_true_iff.mp (Bool.and_eq_true_iff.mp (Bool.and_eq_true_iff.mp (Bool.and_eq_true_iff.mp (Bool.and_eq_true_iff.mp (Bool.and_eq_true_iff.mp (Bool.and_eq_true_iff.mp (Bool.and_eq_true_iff.mp (Bool.and_eq_true_iff.mp (Bool.and_eq_true_iff.mp (Bool.and_eq_true_iff.mp (Bool.and_eq_true_iff.mp (Bool.and_eq_true_iff.mp (Bool.and_eq_true_iff.mp (Bool.and_eq_true_iff.mp (Bool.and_eq_true_iff.mp (Bool.and_eq_true_iff.mp (Bool.and_eq_true_iff.mp (Bool.and_eq_true_iff.mp (Bool.and_eq_true_iff.mp (Bool.and_eq_true_iff.mp (Bool.and_eq_true_iff.mp (Bool.and_eq_true_iff.mp (Bool.and_eq_true_iff.mp (Bool.and_eq_true_iff.mp (Bool.and_eq_true_iff.mp (Bool.and_eq_true_iff.mp (Bool.and_eq_true_iff.mp (Bool.and_eq_true_iff.mp (Bool.and_eq_true_iff.mp (Bool.and_eq_true_iff.mp (Bool.and_eq_true_iff.mp (Bool.and_eq_true_iff.mp (Bool.and_eq_true_iff.mp (Bool.and_eq_true_iff.mp (Bool.and_eq_true_iff.mp (Bool.and_eq_true_iff.mp (Bool.and_eq_true_iff.mp (Bool.and_eq_true_iff.mp (Bool.and_eq_true_iff.mp (Bool.and_eq_true_iff.mp (Bool.and_eq_true_iff.mp (Bool.and_eq_true_iff.mp (Bool.and_eq_true_iff.mp (Bool.and_eq_true_iff.mp (Bool.and_eq_true_iff.mp (Bool.and_eq_true_iff.mp (Bool.and_eq_true_iff.mp (Bool.and_eq_true_iff.mp (Bool.and_eq_true_iff.mp (Bool.and_eq_true_iff.mp (Bool.and_eq_true_iff.mp (Bool.and_eq_true_iff.mp (Bool.and_eq_true_iff.mp (Bool.and_eq_true_iff.mp (Bool.and_eq_true_iff.mp (Bool.and_eq_true_iff.mp (Bool.and_eq_true_iff.mp (Bool.and_eq_true_iff.mp (Bool.and_eq_true_iff.mp (Bool.and_eq_true_iff.mp (Bool.and_eq_true_iff.mp (Bool.and_eq_true_iff.mp (Bool.and_eq_true_iff.mp (Bool.and_eq_true_iff.mp (Bool.and_eq_true_iff.mp (Bool.and_eq_true_iff.mp (Bool.and_eq_true_iff.mp (Bool.and_eq_true_iff.mp (Bool.and_eq_true_iff.mp (Bool.and_eq_true_iff.mp (Bool.and_eq_true_iff.mp (Bool.and_eq_true_iff.mp (Bool.and_eq_true_iff.mp (Bool.and_eq_true_iff.mp (Bool.and_eq_true_iff.mp (Bool.and_eq_true_iff.mp (Bool.and_eq_true_iff.mp (Bool.and_eq_true_iff.mp (Bool.and_eq_true_iff.mp (Bool.and_eq_true_iff.mp (Bool.and_eq_true_iff.mp (Bool.and_eq_true_iff.mp (Bool.and_eq_true_iff.mp (Bool.and_eq_true_iff.mp (Bool.and_eq_true_iff.mp xq).1).1).1).1).1).1).1).1).1).1).1).1).1).1).1).1).1).1).1).1).1).1).1).1).1).1).1).1).1).1).1).1).1).1).1).1).1).1).1).1).1).1).1).1).1).1).1).1).1).1).1).1).1).1).1).1).1).1).1).1).1).1).1).1).1).1).1).1).1).1).1).1).1).1).1).1).1).1).1).1).1).1).1).1).1).1).2),
    errB_ok ((Bool.and_eq_true_iff.mp (Bool.and_eq_true_iff.mp (Bool.and_eq_true_iff.mp (Bool.and_eq_true_iff.mp (Bool.and_eq_true_iff.mp (Bool.and_eq_true_iff.mp (Bool.and_eq_true_iff.mp (Bool.and_eq_true_iff.mp (Bool.and_eq_true_iff.mp (Bool.and_eq_true_iff.mp (Bool.and_eq_true_iff.mp (Bool.and_eq_true_iff.mp (Bool.and_eq_true_iff.mp (Bool.and_eq_true_iff.mp (Bool.and_eq_true_iff.mp (Bool.and_eq_true_iff.mp (Bool.and_eq_true_iff.mp (Bool.and_eq_true_iff.mp (Bool.and_eq_true_iff.mp (Bool.and_eq_true_iff.mp (Bool.and_eq_true_iff.mp (Bool.and_eq_true_iff.mp (Bool.and_eq_true_iff.mp (Bool.and_eq_true_iff.mp (Bool.and_eq_true_iff.mp (Bool.and_eq_true_iff.mp (Bool.and_eq_true_iff.mp (Bool.and_eq_true_iff.mp (Bool.and_eq_true_iff.mp (Bool.and_eq_true_iff.mp (Bool.and_eq_true_iff.mp (Bool.and_eq_true_iff.mp (Bool.and_eq_true_iff.mp (Bool.and_eq_true_iff.mp (Bool.and_eq_true_iff.mp (Bool.and_eq_true_iff.mp (Bool.and_eq_true_iff.mp (Bool.and_eq_true_iff.mp (Bool.and_eq_true_iff.mp (Bool.and_eq_true_iff.mp (Bool.and_eq_true_iff.mp (Bool.and_eq_true_iff.mp (Bool.and_eq_true_iff.mp (Bool.and_eq_true_iff.mp (Bool.and_eq_true_iff.mp (Bool.and_eq_true_iff.mp (Bool.and_eq_true_iff.mp (Bool.and_eq_true_iff.mp (Bool.and_eq_true_iff.mp (Bool.and_eq_true_iff.mp (Bool.and_eq_true_iff.mp (Bool.and_eq_true_iff.mp (Bool.and_eq_true_iff.mp (Bool.and_eq_true_iff.mp (Bool.and_eq_true_iff.mp (Bool.and_eq_true_iff.mp (Bool.and_eq_true_iff.mp (Bool.and_eq_true_iff.mp (Bool.and_eq_true_iff.mp (Bool.and_eq_true_iff.mp (Bool.and_eq_true_iff.mp (Bool.and_eq_true_iff.mp (Bool.and_eq_true_iff.mp (Bool.and_eq_true_iff.mp (Bool.and_eq_true_iff.mp (Bool.and_eq_true_iff.mp (Bool.and_eq_true_iff.mp (Bool.and_eq_true_iff.mp (Bool.and_eq_true_iff.mp (Bool.and_eq_true_iff.mp (Bool.and_eq_true_iff.mp (Bool.and_eq_true_iff.mp (Bool.and_eq_true_iff.mp (Bool.and_eq_true_iff.mp (Bool.and_eq_true_iff.mp (Bool.and_eq_true_iff.mp (Bool.and_eq_true_iff.mp (Bool.and_eq_true_iff.mp (Bool.and_eq_true_iff.mp (Bool.and_eq_true_iff.mp (Bool.and_eq_true_iff.mp (Bool.and_eq_true_iff.mp (Bool.and_eq_true_iff.mp (Bool.and_eq_true_iff.mp (Bool.and_eq_true_iff.mp (Bool.and_eq_true_iff.mp xq).1).1).1).1).1).1).1).1).1).1).1).1).1).1).1).1).1).1).1).1).1).1).1).1).1).1).1).1).1).1).1).1).1).1).1).1).1).1).1).1).1).1).1).1).1).1).1).1).1).1).1).1).1).1).1).1).1).1).1).1).1).1).1).1).1).1).1).1).1).1).1).1).1).1).1).1).1).1).1).1).1).1).1).1).1).2),
    He.eqO_ok ((Bool.and_eq_true_iff.mp (Bool.and_eq_true_iff.mp (Bool.and_eq_true_iff.mp (Bool.and_eq_true_iff.mp (Bool.and_eq_true_iff.mp (Bool.and_eq_true_iff.mp (Bool.and_eq_true_iff.mp (Bool.and_eq_true_iff.mp (Bool.and_eq_true_iff.mp (Bool.and_eq_true_iff.mp (Bool.and_eq_true_iff.mp (Bool.and_eq_true_iff.mp (Bool.and_eq_true_iff.mp (Bool.and_eq_true_iff.mp (Bool.and_eq_true_iff.mp (Bool.and_eq_true_iff.mp (Bool.and_eq_true_iff.mp (Bool.and_eq_true_iff.mp (Bool.and_eq_true_iff.mp (Bool.and_eq_true_iff.mp (Bool.and_eq_true_iff.mp (Bool.and_eq_true_iff.mp (Bool.and_eq_true_iff.mp (Bool.and_eq_true_iff.mp (Bool.and_eq_true_iff.mp (Bool.and_eq_true_iff.mp (Bool.and_eq_true_iff.mp (Bool.and_eq_true_iff.mp (Bool.and_eq_true_iff.mp (Bool.and_eq_true_iff.mp (Bool.and_eq_true_iff.mp (Bool.and_eq_true_iff.mp (Bool.and_eq_true_iff.mp (Bool.and_eq_true_iff.mp (Bool.and_eq_true_iff.mp (Bool.and_eq_true_iff.mp (Bool.and_eq_true_iff.mp (Bool.and_eq_true_iff.mp (Bool.and_eq_true_iff.mp (Bool.and_eq_true_iff.mp (Bool.and_eq_true_iff.mp (Bool.and_eq_true_iff.mp (Bool.and_eq_true_iff.mp (Bool.and_eq_true_iff.mp (Bool.and_eq_true_iff.mp (Bool.and_eq_true_iff.mp (Bool.and_eq_true_iff.mp (Bool.and_eq_true_iff.mp (Bool.and_eq_true_iff.mp (Bool.and_eq_true_iff.mp (Bool.and_eq_true_iff.mp (Bool.and_eq_true_iff.mp (Bool.and_eq_true_iff.mp (Bool.and_eq_true_iff.mp (Bool.and_eq_true_iff.mp (Bool.and_eq_true_iff.mp (Bool.and_eq_true_iff.mp (Bool.and_eq_true_iff.mp (Bool.and_eq_true_iff.mp (Bool.and_eq_true_iff.mp (Bool.and_eq_true_iff.mp (Bool.and_eq_true_iff.mp (Bool.and_eq_true_iff.mp (Bool.and_eq_true_iff.mp (Bool.and_eq_true_iff.mp (Bool.and_eq_true_iff.mp (Bool.and_eq_true_iff.mp (Bool.and_eq_true_iff.mp (Bool.and_eq_true_iff.mp (Bool.and_eq_true_iff.mp (Bool.and_eq_true_iff.mp (Bool.and_eq_true_iff.mp (Bool.and_eq_true_iff.mp (Bool.and_eq_true_iff.mp (Bool.and_eq_true_iff.mp (Bool.and_eq_true_iff.mp (Bool.and_eq_true_iff.mp (Bool.and_eq_true_iff.mp (Bool.and_eq_true_iff.mp (Bool.and_eq_true_iff.mp (Bool.and_eq_true_iff.mp (Bool.and_eq_true_iff.mp (Bool.and_eq_true_iff.mp (Bool.and_eq_true_iff.mp (Bool.and_eq_true_iff.mp xq).1).1).1).1).1).1).1).1).1).1).1).1).1).1).1).1).1).1).1).1).1).1).1).1).1).1).1).1).1).1).1).1).1).1).1).1).1).1).1).1).1).1).1).1).1).1).1).1).1).1).1).1).1).1).1).1).1).1).1).1).1).1).1).1).1).1).1).1).1).1).1).1).1).1).1).1).1).1).1).1).1).1).1).1).2),
    He.glo_ok X G (c.fact 9 (f := .glo "TooMany") rfl),
    He.glo_ok X G (c.fact 10 (f := .glo "NotFinished") rfl),
    He.glo_ok X G (c.fact 11 (f := .glo "Finished") rfl),
    He.glo_ok X G (c.fact 12 (f := .glo "NothingToRedo") rfl),
    He.glo_ok X G (c.fact 13 (f := .glo "NothingToUndo") rfl),
    He.glo_ok X G (c.fact 14 (f := .glo "NoMark") rfl),
    He.glo_ok X G (c.fact 15 (f := .glo "NoTrial") rfl),
    He.glo_ok X G (c.fact 16 (f := .glo "NoPlace") rfl),
    He.glo_ok X G (c.fact 17 (f := .glo "NoOutput") rfl),
    He.glo_ok X G (c.fact 18 (f := .glo "NoCell") rfl),
    He.glo_ok X G (c.fact 19 (f := .glo "NoNode") rfl),
    He.glo_ok X G (c.fact 20 (f := .glo "InUse") rfl),
    He.glo_ok X G (c.fact 21 (f := .glo "Contradicted") rfl),
    He.glo_ok X G (c.fact 22 (f := .glo "NotEnough") rfl),
    He.glo_ok X G (c.fact 23 (f := .glo "NotAlike") rfl),
    He.glo_ok X G (c.fact 24 (f := .glo "UnknownCommand") rfl),
    He.glo_ok X G (c.fact 25 (f := .glo "InvalidText") rfl),
    He.glo_ok X G (c.fact 26 (f := .glo "InvalidEdit") rfl),
    He.glo_ok X G (c.fact 27 (f := .glo "InvalidFault") rfl),
    He.glo_ok X G (c.fact 28 (f := .glo "InvalidWire") rfl),
    He.glo_ok X G (c.fact 29 (f := .glo "InvalidCarry") rfl),
    He.glo_ok X G (c.fact 30 (f := .glo "InvalidRow") rfl),
    He.glo_ok X G (c.fact 31 (f := .glo "InvalidStuck") rfl),
    He.glo_ok X G (c.fact 32 (f := .glo "InvalidOutputs") rfl),
    He.glo_ok X G (c.fact 33 (f := .glo "InvalidCells") rfl),
    He.glo_ok X G (c.fact 34 (f := .glo "InvalidPosition") rfl),
    He.glo_ok X G (c.fact 35 (f := .glo "InvalidTrial") rfl),
    He.glo_ok X G (c.fact 36 (f := .glo "InvalidNumber") rfl),
    He.glo_ok X G (c.fact 37 (f := .glo "InvalidSize") rfl),
    allB_ok ((Bool.and_eq_true_iff.mp (Bool.and_eq_true_iff.mp (Bool.and_eq_true_iff.mp (Bool.and_eq_true_iff.mp (Bool.and_eq_true_iff.mp (Bool.and_eq_true_iff.mp (Bool.and_eq_true_iff.mp (Bool.and_eq_true_iff.mp (Bool.and_eq_true_iff.mp (Bool.and_eq_true_iff.mp (Bool.and_eq_true_iff.mp (Bool.and_eq_true_iff.mp (Bool.and_eq_true_iff.mp (Bool.and_eq_true_iff.mp (Bool.and_eq_true_iff.mp (Bool.and_eq_true_iff.mp (Bool.and_eq_true_iff.mp (Bool.and_eq_true_iff.mp (Bool.and_eq_true_iff.mp (Bool.and_eq_true_iff.mp (Bool.and_eq_true_iff.mp (Bool.and_eq_true_iff.mp (Bool.and_eq_true_iff.mp (Bool.and_eq_true_iff.mp (Bool.and_eq_true_iff.mp (Bool.and_eq_true_iff.mp (Bool.and_eq_true_iff.mp (Bool.and_eq_true_iff.mp (Bool.and_eq_true_iff.mp (Bool.and_eq_true_iff.mp (Bool.and_eq_true_iff.mp (Bool.and_eq_true_iff.mp (Bool.and_eq_true_iff.mp (Bool.and_eq_true_iff.mp (Bool.and_eq_true_iff.mp (Bool.and_eq_true_iff.mp (Bool.and_eq_true_iff.mp (Bool.and_eq_true_iff.mp (Bool.and_eq_true_iff.mp (Bool.and_eq_true_iff.mp (Bool.and_eq_true_iff.mp (Bool.and_eq_true_iff.mp (Bool.and_eq_true_iff.mp (Bool.and_eq_true_iff.mp (Bool.and_eq_true_iff.mp (Bool.and_eq_true_iff.mp (Bool.and_eq_true_iff.mp (Bool.and_eq_true_iff.mp (Bool.and_eq_true_iff.mp (Bool.and_eq_true_iff.mp (Bool.and_eq_true_iff.mp (Bool.and_eq_true_iff.mp (Bool.and_eq_true_iff.mp (Bool.and_eq_true_iff.mp (Bool.and_eq_true_iff.mp (Bool.and_eq_true_iff.mp (Bool.and_eq_true_iff.mp (Bool.and_eq_true_iff.mp (Bool.and_eq_true_iff.mp (Bool.and_eq_true_iff.mp (Bool.and_eq_true_iff.mp (Bool.and_eq_true_iff.mp (Bool.and_eq_true_iff.mp (Bool.and_eq_true_iff.mp (Bool.and_eq_true_iff.mp (Bool.and_eq_true_iff.mp (Bool.and_eq_true_iff.mp (Bool.and_eq_true_iff.mp (Bool.and_eq_true_iff.mp (Bool.and_eq_true_iff.mp (Bool.and_eq_true_iff.mp (Bool.and_eq_true_iff.mp (Bool.and_eq_true_iff.mp (Bool.and_eq_true_iff.mp (Bool.and_eq_true_iff.mp (Bool.and_eq_true_iff.mp (Bool.and_eq_true_iff.mp (Bool.and_eq_true_iff.mp (Bool.and_eq_true_iff.mp (Bool.and_eq_true_iff.mp (Bool.and_eq_true_iff.mp (Bool.and_eq_true_iff.mp (Bool.and_eq_true_iff.mp (Bool.and_eq_true_iff.mp xq).1).1).1).1).1).1).1).1).1).1).1).1).1).1).1).1).1).1).1).1).1).1).1).1).1).1).1).1).1).1).1).1).1).1).1).1).1).1).1).1).1).1).1).1).1).1).1).1).1).1).1).1).1).1).1).1).1).1).1).1).1).1).1).1).1).1).1).1).1).1).1).1).1).1).1).1).1).1).1).1).1).1).1).2) fun _ h => excB_ok h,
    allB_ok ((Bool.and_eq_true_iff.mp (Bool.and_eq_true_iff.mp (Bool.and_eq_true_iff.mp (Bool.and_eq_true_iff.mp (Bool.and_eq_true_iff.mp (Bool.and_eq_true_iff.mp (Bool.and_eq_true_iff.mp (Bool.and_eq_true_iff.mp (Bool.and_eq_true_iff.mp (Bool.and_eq_true_iff.mp (Bool.and_eq_true_iff.mp (Bool.and_eq_true_iff.mp (Bool.and_eq_true_iff.mp (Bool.and_eq_true_iff.mp (Bool.and_eq_true_iff.mp (Bool.and_eq_true_iff.mp (Bool.and_eq_true_iff.mp (Bool.and_eq_true_iff.mp (Bool.and_eq_true_iff.mp (Bool.and_eq_true_iff.mp (Bool.and_eq_true_iff.mp (Bool.and_eq_true_iff.mp (Bool.and_eq_true_iff.mp (Bool.and_eq_true_iff.mp (Bool.and_eq_true_iff.mp (Bool.and_eq_true_iff.mp (Bool.and_eq_true_iff.mp (Bool.and_eq_true_iff.mp (Bool.and_eq_true_iff.mp (Bool.and_eq_true_iff.mp (Bool.and_eq_true_iff.mp (Bool.and_eq_true_iff.mp (Bool.and_eq_true_iff.mp (Bool.and_eq_true_iff.mp (Bool.and_eq_true_iff.mp (Bool.and_eq_true_iff.mp (Bool.and_eq_true_iff.mp (Bool.and_eq_true_iff.mp (Bool.and_eq_true_iff.mp (Bool.and_eq_true_iff.mp (Bool.and_eq_true_iff.mp (Bool.and_eq_true_iff.mp (Bool.and_eq_true_iff.mp (Bool.and_eq_true_iff.mp (Bool.and_eq_true_iff.mp (Bool.and_eq_true_iff.mp (Bool.and_eq_true_iff.mp (Bool.and_eq_true_iff.mp (Bool.and_eq_true_iff.mp (Bool.and_eq_true_iff.mp (Bool.and_eq_true_iff.mp (Bool.and_eq_true_iff.mp (Bool.and_eq_true_iff.mp (Bool.and_eq_true_iff.mp (Bool.and_eq_true_iff.mp (Bool.and_eq_true_iff.mp (Bool.and_eq_true_iff.mp (Bool.and_eq_true_iff.mp (Bool.and_eq_true_iff.mp (Bool.and_eq_true_iff.mp (Bool.and_eq_true_iff.mp (Bool.and_eq_true_iff.mp (Bool.and_eq_true_iff.mp (Bool.and_eq_true_iff.mp (Bool.and_eq_true_iff.mp (Bool.and_eq_true_iff.mp (Bool.and_eq_true_iff.mp (Bool.and_eq_true_iff.mp (Bool.and_eq_true_iff.mp (Bool.and_eq_true_iff.mp (Bool.and_eq_true_iff.mp (Bool.and_eq_true_iff.mp (Bool.and_eq_true_iff.mp (Bool.and_eq_true_iff.mp (Bool.and_eq_true_iff.mp (Bool.and_eq_true_iff.mp (Bool.and_eq_true_iff.mp (Bool.and_eq_true_iff.mp (Bool.and_eq_true_iff.mp (Bool.and_eq_true_iff.mp (Bool.and_eq_true_iff.mp (Bool.and_eq_true_iff.mp (Bool.and_eq_true_iff.mp xq).1).1).1).1).1).1).1).1).1).1).1).1).1).1).1).1).1).1).1).1).1).1).1).1).1).1).1).1).1).1).1).1).1).1).1).1).1).1).1).1).1).1).1).1).1).1).1).1).1).1).1).1).1).1).1).1).1).1).1).1).1).1).1).1).1).1).1).1).1).1).1).1).1).1).1).1).1).1).1).1).1).1).2) fun _ h => of_decide_eq_true h,
    fun n hn => of_decide_eq_true (List.all_eq_true.mp ((Bool.and_eq_true_iff.mp (Bool.and_eq_true_iff.mp (Bool.and_eq_true_iff.mp (Bool.and_eq_true_iff.mp (Bool.and_eq_true_iff.mp (Bool.and_eq_true_iff.mp (Bool.and_eq_true_iff.mp (Bool.and_eq_true_iff.mp (Bool.and_eq_true_iff.mp (Bool.and_eq_true_iff.mp (Bool.and_eq_true_iff.mp (Bool.and_eq_true_iff.mp (Bool.and_eq_true_iff.mp (Bool.and_eq_true_iff.mp (Bool.and_eq_true_iff.mp (Bool.and_eq_true_iff.mp (Bool.and_eq_true_iff.mp (Bool.and_eq_true_iff.mp (Bool.and_eq_true_iff.mp (Bool.and_eq_true_iff.mp (Bool.and_eq_true_iff.mp (Bool.and_eq_true_iff.mp (Bool.and_eq_true_iff.mp (Bool.and_eq_true_iff.mp (Bool.and_eq_true_iff.mp (Bool.and_eq_true_iff.mp (Bool.and_eq_true_iff.mp (Bool.and_eq_true_iff.mp (Bool.and_eq_true_iff.mp (Bool.and_eq_true_iff.mp (Bool.and_eq_true_iff.mp (Bool.and_eq_true_iff.mp (Bool.and_eq_true_iff.mp (Bool.and_eq_true_iff.mp (Bool.and_eq_true_iff.mp (Bool.and_eq_true_iff.mp (Bool.and_eq_true_iff.mp (Bool.and_eq_true_iff.mp (Bool.and_eq_true_iff.mp (Bool.and_eq_true_iff.mp (Bool.and_eq_true_iff.mp (Bool.and_eq_true_iff.mp (Bool.and_eq_true_iff.mp (Bool.and_eq_true_iff.mp (Bool.and_eq_true_iff.mp (Bool.and_eq_true_iff.mp (Bool.and_eq_true_iff.mp (Bool.and_eq_true_iff.mp (Bool.and_eq_true_iff.mp (Bool.and_eq_true_iff.mp (Bool.and_eq_true_iff.mp (Bool.and_eq_true_iff.mp (Bool.and_eq_true_iff.mp (Bool.and_eq_true_iff.mp (Bool.and_eq_true_iff.mp (Bool.and_eq_true_iff.mp (Bool.and_eq_true_iff.mp (Bool.and_eq_true_iff.mp (Bool.and_eq_true_iff.mp (Bool.and_eq_true_iff.mp (Bool.and_eq_true_iff.mp (Bool.and_eq_true_iff.mp (Bool.and_eq_true_iff.mp (Bool.and_eq_true_iff.mp (Bool.and_eq_true_iff.mp (Bool.and_eq_true_iff.mp (Bool.and_eq_true_iff.mp (Bool.and_eq_true_iff.mp (Bool.and_eq_true_iff.mp (Bool.and_eq_true_iff.mp (Bool.and_eq_true_iff.mp (Bool.and_eq_true_iff.mp (Bool.and_eq_true_iff.mp (Bool.and_eq_true_iff.mp (Bool.and_eq_true_iff.mp (Bool.and_eq_true_iff.mp (Bool.and_eq_true_iff.mp (Bool.and_eq_true_iff.mp (Bool.and_eq_true_iff.mp (Bool.and_eq_true_iff.mp (Bool.and_eq_true_iff.mp (Bool.and_eq_true_iff.mp xq).1).1).1).1).1).1).1).1).1).1).1).1).1).1).1).1).1).1).1).1).1).1).1).1).1).1).1).1).1).1).1).1).1).1).1).1).1).1).1).1).1).1).1).1).1).1).1).1).1).1).1).1).1).1).1).1).1).1).1).1).1).1).1).1).1).1).1).1).1).1).1).1).1).1).1).1).1).1).1).1).1).2) n hn),
    allB_ok ((Bool.and_eq_true_iff.mp (Bool.and_eq_true_iff.mp (Bool.and_eq_true_iff.mp (Bool.and_eq_true_iff.mp (Bool.and_eq_true_iff.mp (Bool.and_eq_true_iff.mp (Bool.and_eq_true_iff.mp (Bool.and_eq_true_iff.mp (Bool.and_eq_true_iff.mp (Bool.and_eq_true_iff.mp (Bool.and_eq_true_iff.mp (Bool.and_eq_true_iff.mp (Bool.and_eq_true_iff.mp (Bool.and_eq_true_iff.mp (Bool.and_eq_true_iff.mp (Bool.and_eq_true_iff.mp (Bool.and_eq_true_iff.mp (Bool.and_eq_true_iff.mp (Bool.and_eq_true_iff.mp (Bool.and_eq_true_iff.mp (Bool.and_eq_true_iff.mp (Bool.and_eq_true_iff.mp (Bool.and_eq_true_iff.mp (Bool.and_eq_true_iff.mp (Bool.and_eq_true_iff.mp (Bool.and_eq_true_iff.mp (Bool.and_eq_true_iff.mp (Bool.and_eq_true_iff.mp (Bool.and_eq_true_iff.mp (Bool.and_eq_true_iff.mp (Bool.and_eq_true_iff.mp (Bool.and_eq_true_iff.mp (Bool.and_eq_true_iff.mp (Bool.and_eq_true_iff.mp (Bool.and_eq_true_iff.mp (Bool.and_eq_true_iff.mp (Bool.and_eq_true_iff.mp (Bool.and_eq_true_iff.mp (Bool.and_eq_true_iff.mp (Bool.and_eq_true_iff.mp (Bool.and_eq_true_iff.mp (Bool.and_eq_true_iff.mp (Bool.and_eq_true_iff.mp (Bool.and_eq_true_iff.mp (Bool.and_eq_true_iff.mp (Bool.and_eq_true_iff.mp (Bool.and_eq_true_iff.mp (Bool.and_eq_true_iff.mp (Bool.and_eq_true_iff.mp (Bool.and_eq_true_iff.mp (Bool.and_eq_true_iff.mp (Bool.and_eq_true_iff.mp (Bool.and_eq_true_iff.mp (Bool.and_eq_true_iff.mp (Bool.and_eq_true_iff.mp (Bool.and_eq_true_iff.mp (Bool.and_eq_true_iff.mp (Bool.and_eq_true_iff.mp (Bool.and_eq_true_iff.mp (Bool.and_eq_true_iff.mp (Bool.and_eq_true_iff.mp (Bool.and_eq_true_iff.mp (Bool.and_eq_true_iff.mp (Bool.and_eq_true_iff.mp (Bool.and_eq_true_iff.mp (Bool.and_eq_true_iff.mp (Bool.and_eq_true_iff.mp (Bool.and_eq_true_iff.mp (Bool.and_eq_true_iff.mp (Bool.and_eq_true_iff.mp (Bool.and_eq_true_iff.mp (Bool.and_eq_true_iff.mp (Bool.and_eq_true_iff.mp (Bool.and_eq_true_iff.mp (Bool.and_eq_true_iff.mp (Bool.and_eq_true_iff.mp (Bool.and_eq_true_iff.mp (Bool.and_eq_true_iff.mp (Bool.and_eq_true_iff.mp (Bool.and_eq_true_iff.mp (Bool.and_eq_true_iff.mp xq).1).1).1).1).1).1).1).1).1).1).1).1).1).1).1).1).1).1).1).1).1).1).1).1).1).1).1).1).1).1).1).1).1).1).1).1).1).1).1).1).1).1).1).1).1).1).1).1).1).1).1).1).1).1).1).1).1).1).1).1).1).1).1).1).1).1).1).1).1).1).1).1).1).1).1).1).1).1).1).1).2) fun _ h => of_decide_eq_true h,
    fun n hn => of_decide_eq_true (List.all_eq_true.mp ((Bool.and_eq_true_iff.mp (Bool.and_eq_true_iff.mp (Bool.and_eq_true_iff.mp (Bool.and_eq_true_iff.mp (Bool.and_eq_true_iff.mp (Bool.and_eq_true_iff.mp (Bool.and_eq_true_iff.mp (Bool.and_eq_true_iff.mp (Bool.and_eq_true_iff.mp (Bool.and_eq_true_iff.mp (Bool.and_eq_true_iff.mp (Bool.and_eq_true_iff.mp (Bool.and_eq_true_iff.mp (Bool.and_eq_true_iff.mp (Bool.and_eq_true_iff.mp (Bool.and_eq_true_iff.mp (Bool.and_eq_true_iff.mp (Bool.and_eq_true_iff.mp (Bool.and_eq_true_iff.mp (Bool.and_eq_true_iff.mp (Bool.and_eq_true_iff.mp (Bool.and_eq_true_iff.mp (Bool.and_eq_true_iff.mp (Bool.and_eq_true_iff.mp (Bool.and_eq_true_iff.mp (Bool.and_eq_true_iff.mp (Bool.and_eq_true_iff.mp (Bool.and_eq_true_iff.mp (Bool.and_eq_true_iff.mp (Bool.and_eq_true_iff.mp (Bool.and_eq_true_iff.mp (Bool.and_eq_true_iff.mp (Bool.and_eq_true_iff.mp (Bool.and_eq_true_iff.mp (Bool.and_eq_true_iff.mp (Bool.and_eq_true_iff.mp (Bool.and_eq_true_iff.mp (Bool.and_eq_true_iff.mp (Bool.and_eq_true_iff.mp (Bool.and_eq_true_iff.mp (Bool.and_eq_true_iff.mp (Bool.and_eq_true_iff.mp (Bool.and_eq_true_iff.mp (Bool.and_eq_true_iff.mp (Bool.and_eq_true_iff.mp (Bool.and_eq_true_iff.mp (Bool.and_eq_true_iff.mp (Bool.and_eq_true_iff.mp (Bool.and_eq_true_iff.mp (Bool.and_eq_true_iff.mp (Bool.and_eq_true_iff.mp (Bool.and_eq_true_iff.mp (Bool.and_eq_true_iff.mp (Bool.and_eq_true_iff.mp (Bool.and_eq_true_iff.mp (Bool.and_eq_true_iff.mp (Bool.and_eq_true_iff.mp (Bool.and_eq_true_iff.mp (Bool.and_eq_true_iff.mp (Bool.and_eq_true_iff.mp (Bool.and_eq_true_iff.mp (Bool.and_eq_true_iff.mp (Bool.and_eq_true_iff.mp (Bool.and_eq_true_iff.mp (Bool.and_eq_true_iff.mp (Bool.and_eq_true_iff.mp (Bool.and_eq_true_iff.mp (Bool.and_eq_true_iff.mp (Bool.and_eq_true_iff.mp (Bool.and_eq_true_iff.mp (Bool.and_eq_true_iff.mp (Bool.and_eq_true_iff.mp (Bool.and_eq_true_iff.mp (Bool.and_eq_true_iff.mp (Bool.and_eq_true_iff.mp (Bool.and_eq_true_iff.mp (Bool.and_eq_true_iff.mp (Bool.and_eq_true_iff.mp (Bool.and_eq_true_iff.mp (Bool.and_eq_true_iff.mp xq).1).1).1).1).1).1).1).1).1).1).1).1).1).1).1).1).1).1).1).1).1).1).1).1).1).1).1).1).1).1).1).1).1).1).1).1).1).1).1).1).1).1).1).1).1).1).1).1).1).1).1).1).1).1).1).1).1).1).1).1).1).1).1).1).1).1).1).1).1).1).1).1).1).1).1).1).1).1).1).2) n hn),
    allB_ok ((Bool.and_eq_true_iff.mp (Bool.and_eq_true_iff.mp (Bool.and_eq_true_iff.mp (Bool.and_eq_true_iff.mp (Bool.and_eq_true_iff.mp (Bool.and_eq_true_iff.mp (Bool.and_eq_true_iff.mp (Bool.and_eq_true_iff.mp (Bool.and_eq_true_iff.mp (Bool.and_eq_true_iff.mp (Bool.and_eq_true_iff.mp (Bool.and_eq_true_iff.mp (Bool.and_eq_true_iff.mp (Bool.and_eq_true_iff.mp (Bool.and_eq_true_iff.mp (Bool.and_eq_true_iff.mp (Bool.and_eq_true_iff.mp (Bool.and_eq_true_iff.mp (Bool.and_eq_true_iff.mp (Bool.and_eq_true_iff.mp (Bool.and_eq_true_iff.mp (Bool.and_eq_true_iff.mp (Bool.and_eq_true_iff.mp (Bool.and_eq_true_iff.mp (Bool.and_eq_true_iff.mp (Bool.and_eq_true_iff.mp (Bool.and_eq_true_iff.mp (Bool.and_eq_true_iff.mp (Bool.and_eq_true_iff.mp (Bool.and_eq_true_iff.mp (Bool.and_eq_true_iff.mp (Bool.and_eq_true_iff.mp (Bool.and_eq_true_iff.mp (Bool.and_eq_true_iff.mp (Bool.and_eq_true_iff.mp (Bool.and_eq_true_iff.mp (Bool.and_eq_true_iff.mp (Bool.and_eq_true_iff.mp (Bool.and_eq_true_iff.mp (Bool.and_eq_true_iff.mp (Bool.and_eq_true_iff.mp (Bool.and_eq_true_iff.mp (Bool.and_eq_true_iff.mp (Bool.and_eq_true_iff.mp (Bool.and_eq_true_iff.mp (Bool.and_eq_true_iff.mp (Bool.and_eq_true_iff.mp (Bool.and_eq_true_iff.mp (Bool.and_eq_true_iff.mp (Bool.and_eq_true_iff.mp (Bool.and_eq_true_iff.mp (Bool.and_eq_true_iff.mp (Bool.and_eq_true_iff.mp (Bool.and_eq_true_iff.mp (Bool.and_eq_true_iff.mp (Bool.and_eq_true_iff.mp (Bool.and_eq_true_iff.mp (Bool.and_eq_true_iff.mp (Bool.and_eq_true_iff.mp (Bool.and_eq_true_iff.mp (Bool.and_eq_true_iff.mp (Bool.and_eq_true_iff.mp (Bool.and_eq_true_iff.mp (Bool.and_eq_true_iff.mp (Bool.and_eq_true_iff.mp (Bool.and_eq_true_iff.mp (Bool.and_eq_true_iff.mp (Bool.and_eq_true_iff.mp (Bool.and_eq_true_iff.mp (Bool.and_eq_true_iff.mp (Bool.and_eq_true_iff.mp (Bool.and_eq_true_iff.mp (Bool.and_eq_true_iff.mp (Bool.and_eq_true_iff.mp (Bool.and_eq_true_iff.mp (Bool.and_eq_true_iff.mp (Bool.and_eq_true_iff.mp (Bool.and_eq_true_iff.mp (Bool.and_eq_true_iff.mp xq).1).1).1).1).1).1).1).1).1).1).1).1).1).1).1).1).1).1).1).1).1).1).1).1).1).1).1).1).1).1).1).1).1).1).1).1).1).1).1).1).1).1).1).1).1).1).1).1).1).1).1).1).1).1).1).1).1).1).1).1).1).1).1).1).1).1).1).1).1).1).1).1).1).1).1).1).1).1).2) fun _ h => of_decide_eq_true h,
    fun n hn => of_decide_eq_true (List.all_eq_true.mp ((Bool.and_eq_true_iff.mp (Bool.and_eq_true_iff.mp (Bool.and_eq_true_iff.mp (Bool.and_eq_true_iff.mp (Bool.and_eq_true_iff.mp (Bool.and_eq_true_iff.mp (Bool.and_eq_true_iff.mp (Bool.and_eq_true_iff.mp (Bool.and_eq_true_iff.mp (Bool.and_eq_true_iff.mp (Bool.and_eq_true_iff.mp (Bool.and_eq_true_iff.mp (Bool.and_eq_true_iff.mp (Bool.and_eq_true_iff.mp (Bool.and_eq_true_iff.mp (Bool.and_eq_true_iff.mp (Bool.and_eq_true_iff.mp (Bool.and_eq_true_iff.mp (Bool.and_eq_true_iff.mp (Bool.and_eq_true_iff.mp (Bool.and_eq_true_iff.mp (Bool.and_eq_true_iff.mp (Bool.and_eq_true_iff.mp (Bool.and_eq_true_iff.mp (Bool.and_eq_true_iff.mp (Bool.and_eq_true_iff.mp (Bool.and_eq_true_iff.mp (Bool.and_eq_true_iff.mp (Bool.and_eq_true_iff.mp (Bool.and_eq_true_iff.mp (Bool.and_eq_true_iff.mp (Bool.and_eq_true_iff.mp (Bool.and_eq_true_iff.mp (Bool.and_eq_true_iff.mp (Bool.and_eq_true_iff.mp (Bool.and_eq_true_iff.mp (Bool.and_eq_true_iff.mp (Bool.and_eq_true_iff.mp (Bool.and_eq_true_iff.mp (Bool.and_eq_true_iff.mp (Bool.and_eq_true_iff.mp (Bool.and_eq_true_iff.mp (Bool.and_eq_true_iff.mp (Bool.and_eq_true_iff.mp (Bool.and_eq_true_iff.mp (Bool.and_eq_true_iff.mp (Bool.and_eq_true_iff.mp (Bool.and_eq_true_iff.mp (Bool.and_eq_true_iff.mp (Bool.and_eq_true_iff.mp (Bool.and_eq_true_iff.mp (Bool.and_eq_true_iff.mp (Bool.and_eq_true_iff.mp (Bool.and_eq_true_iff.mp (Bool.and_eq_true_iff.mp (Bool.and_eq_true_iff.mp (Bool.and_eq_true_iff.mp (Bool.and_eq_true_iff.mp (Bool.and_eq_true_iff.mp (Bool.and_eq_true_iff.mp (Bool.and_eq_true_iff.mp (Bool.and_eq_true_iff.mp (Bool.and_eq_true_iff.mp (Bool.and_eq_true_iff.mp (Bool.and_eq_true_iff.mp (Bool.and_eq_true_iff.mp (Bool.and_eq_true_iff.mp (Bool.and_eq_true_iff.mp (Bool.and_eq_true_iff.mp (Bool.and_eq_true_iff.mp (Bool.and_eq_true_iff.mp (Bool.and_eq_true_iff.mp (Bool.and_eq_true_iff.mp (Bool.and_eq_true_iff.mp (Bool.and_eq_true_iff.mp (Bool.and_eq_true_iff.mp (Bool.and_eq_true_iff.mp (Bool.and_eq_true_iff.mp xq).1).1).1).1).1).1).1).1).1).1).1).1).1).1).1).1).1).1).1).1).1).1).1).1).1).1).1).1).1).1).1).1).1).1).1).1).1).1).1).1).1).1).1).1).1).1).1).1).1).1).1).1).1).1).1).1).1).1).1).1).1).1).1).1).1).1).1).1).1).1).1).1).1).1).1).1).1).2) n hn),
    allB_ok ((Bool.and_eq_true_iff.mp (Bool.and_eq_true_iff.mp (Bool.and_eq_true_iff.mp (Bool.and_eq_true_iff.mp (Bool.and_eq_true_iff.mp (Bool.and_eq_true_iff.mp (Bool.and_eq_true_iff.mp (Bool.and_eq_true_iff.mp (Bool.and_eq_true_iff.mp (Bool.and_eq_true_iff.mp (Bool.and_eq_true_iff.mp (Bool.and_eq_true_iff.mp (Bool.and_eq_true_iff.mp (Bool.and_eq_true_iff.mp (Bool.and_eq_true_iff.mp (Bool.and_eq_true_iff.mp (Bool.and_eq_true_iff.mp (Bool.and_eq_true_iff.mp (Bool.and_eq_true_iff.mp (Bool.and_eq_true_iff.mp (Bool.and_eq_true_iff.mp (Bool.and_eq_true_iff.mp (Bool.and_eq_true_iff.mp (Bool.and_eq_true_iff.mp (Bool.and_eq_true_iff.mp (Bool.and_eq_true_iff.mp (Bool.and_eq_true_iff.mp (Bool.and_eq_true_iff.mp (Bool.and_eq_true_iff.mp (Bool.and_eq_true_iff.mp (Bool.and_eq_true_iff.mp (Bool.and_eq_true_iff.mp (Bool.and_eq_true_iff.mp (Bool.and_eq_true_iff.mp (Bool.and_eq_true_iff.mp (Bool.and_eq_true_iff.mp (Bool.and_eq_true_iff.mp (Bool.and_eq_true_iff.mp (Bool.and_eq_true_iff.mp (Bool.and_eq_true_iff.mp (Bool.and_eq_true_iff.mp (Bool.and_eq_true_iff.mp (Bool.and_eq_true_iff.mp (Bool.and_eq_true_iff.mp (Bool.and_eq_true_iff.mp (Bool.and_eq_true_iff.mp (Bool.and_eq_true_iff.mp (Bool.and_eq_true_iff.mp (Bool.and_eq_true_iff.mp (Bool.and_eq_true_iff.mp (Bool.and_eq_true_iff.mp (Bool.and_eq_true_iff.mp (Bool.and_eq_true_iff.mp (Bool.and_eq_true_iff.mp (Bool.and_eq_true_iff.mp (Bool.and_eq_true_iff.mp (Bool.and_eq_true_iff.mp (Bool.and_eq_true_iff.mp (Bool.and_eq_true_iff.mp (Bool.and_eq_true_iff.mp (Bool.and_eq_true_iff.mp (Bool.and_eq_true_iff.mp (Bool.and_eq_true_iff.mp (Bool.and_eq_true_iff.mp (Bool.and_eq_true_iff.mp (Bool.and_eq_true_iff.mp (Bool.and_eq_true_iff.mp (Bool.and_eq_true_iff.mp (Bool.and_eq_true_iff.mp (Bool.and_eq_true_iff.mp (Bool.and_eq_true_iff.mp (Bool.and_eq_true_iff.mp (Bool.and_eq_true_iff.mp (Bool.and_eq_true_iff.mp (Bool.and_eq_true_iff.mp (Bool.and_eq_true_iff.mp (Bool.and_eq_true_iff.mp xq).1).1).1).1).1).1).1).1).1).1).1).1).1).1).1).1).1).1).1).1).1).1).1).1).1).1).1).1).1).1).1).1).1).1).1).1).1).1).1).1).1).1).1).1).1).1).1).1).1).1).1).1).1).1).1).1).1).1).1).1).1).1).1).1).1).1).1).1).1).1).1).1).1).1).1).1).2) fun _ h => of_decide_eq_true h,
    fun n hn => of_decide_eq_true (List.all_eq_true.mp ((Bool.and_eq_true_iff.mp (Bool.and_eq_true_iff.mp (Bool.and_eq_true_iff.mp (Bool.and_eq_true_iff.mp (Bool.and_eq_true_iff.mp (Bool.and_eq_true_iff.mp (Bool.and_eq_true_iff.mp (Bool.and_eq_true_iff.mp (Bool.and_eq_true_iff.mp (Bool.and_eq_true_iff.mp (Bool.and_eq_true_iff.mp (Bool.and_eq_true_iff.mp (Bool.and_eq_true_iff.mp (Bool.and_eq_true_iff.mp (Bool.and_eq_true_iff.mp (Bool.and_eq_true_iff.mp (Bool.and_eq_true_iff.mp (Bool.and_eq_true_iff.mp (Bool.and_eq_true_iff.mp (Bool.and_eq_true_iff.mp (Bool.and_eq_true_iff.mp (Bool.and_eq_true_iff.mp (Bool.and_eq_true_iff.mp (Bool.and_eq_true_iff.mp (Bool.and_eq_true_iff.mp (Bool.and_eq_true_iff.mp (Bool.and_eq_true_iff.mp (Bool.and_eq_true_iff.mp (Bool.and_eq_true_iff.mp (Bool.and_eq_true_iff.mp (Bool.and_eq_true_iff.mp (Bool.and_eq_true_iff.mp (Bool.and_eq_true_iff.mp (Bool.and_eq_true_iff.mp (Bool.and_eq_true_iff.mp (Bool.and_eq_true_iff.mp (Bool.and_eq_true_iff.mp (Bool.and_eq_true_iff.mp (Bool.and_eq_true_iff.mp (Bool.and_eq_true_iff.mp (Bool.and_eq_true_iff.mp (Bool.and_eq_true_iff.mp (Bool.and_eq_true_iff.mp (Bool.and_eq_true_iff.mp (Bool.and_eq_true_iff.mp (Bool.and_eq_true_iff.mp (Bool.and_eq_true_iff.mp (Bool.and_eq_true_iff.mp (Bool.and_eq_true_iff.mp (Bool.and_eq_true_iff.mp (Bool.and_eq_true_iff.mp (Bool.and_eq_true_iff.mp (Bool.and_eq_true_iff.mp (Bool.and_eq_true_iff.mp (Bool.and_eq_true_iff.mp (Bool.and_eq_true_iff.mp (Bool.and_eq_true_iff.mp (Bool.and_eq_true_iff.mp (Bool.and_eq_true_iff.mp (Bool.and_eq_true_iff.mp (Bool.and_eq_true_iff.mp (Bool.and_eq_true_iff.mp (Bool.and_eq_true_iff.mp (Bool.and_eq_true_iff.mp (Bool.and_eq_true_iff.mp (Bool.and_eq_true_iff.mp (Bool.and_eq_true_iff.mp (Bool.and_eq_true_iff.mp (Bool.and_eq_true_iff.mp (Bool.and_eq_true_iff.mp (Bool.and_eq_true_iff.mp (Bool.and_eq_true_iff.mp (Bool.and_eq_true_iff.mp (Bool.and_eq_true_iff.mp (Bool.and_eq_true_iff.mp (Bool.and_eq_true_iff.mp xq).1).1).1).1).1).1).1).1).1).1).1).1).1).1).1).1).1).1).1).1).1).1).1).1).1).1).1).1).1).1).1).1).1).1).1).1).1).1).1).1).1).1).1).1).1).1).1).1).1).1).1).1).1).1).1).1).1).1).1).1).1).1).1).1).1).1).1).1).1).1).1).1).1).1).1).2) n hn),
    allB_ok ((Bool.and_eq_true_iff.mp (Bool.and_eq_true_iff.mp (Bool.and_eq_true_iff.mp (Bool.and_eq_true_iff.mp (Bool.and_eq_true_iff.mp (Bool.and_eq_true_iff.mp (Bool.and_eq_true_iff.mp (Bool.and_eq_true_iff.mp (Bool.and_eq_true_iff.mp (Bool.and_eq_true_iff.mp (Bool.and_eq_true_iff.mp (Bool.and_eq_true_iff.mp (Bool.and_eq_true_iff.mp (Bool.and_eq_true_iff.mp (Bool.and_eq_true_iff.mp (Bool.and_eq_true_iff.mp (Bool.and_eq_true_iff.mp (Bool.and_eq_true_iff.mp (Bool.and_eq_true_iff.mp (Bool.and_eq_true_iff.mp (Bool.and_eq_true_iff.mp (Bool.and_eq_true_iff.mp (Bool.and_eq_true_iff.mp (Bool.and_eq_true_iff.mp (Bool.and_eq_true_iff.mp (Bool.and_eq_true_iff.mp (Bool.and_eq_true_iff.mp (Bool.and_eq_true_iff.mp (Bool.and_eq_true_iff.mp (Bool.and_eq_true_iff.mp (Bool.and_eq_true_iff.mp (Bool.and_eq_true_iff.mp (Bool.and_eq_true_iff.mp (Bool.and_eq_true_iff.mp (Bool.and_eq_true_iff.mp (Bool.and_eq_true_iff.mp (Bool.and_eq_true_iff.mp (Bool.and_eq_true_iff.mp (Bool.and_eq_true_iff.mp (Bool.and_eq_true_iff.mp (Bool.and_eq_true_iff.mp (Bool.and_eq_true_iff.mp (Bool.and_eq_true_iff.mp (Bool.and_eq_true_iff.mp (Bool.and_eq_true_iff.mp (Bool.and_eq_true_iff.mp (Bool.and_eq_true_iff.mp (Bool.and_eq_true_iff.mp (Bool.and_eq_true_iff.mp (Bool.and_eq_true_iff.mp (Bool.and_eq_true_iff.mp (Bool.and_eq_true_iff.mp (Bool.and_eq_true_iff.mp (Bool.and_eq_true_iff.mp (Bool.and_eq_true_iff.mp (Bool.and_eq_true_iff.mp (Bool.and_eq_true_iff.mp (Bool.and_eq_true_iff.mp (Bool.and_eq_true_iff.mp (Bool.and_eq_true_iff.mp (Bool.and_eq_true_iff.mp (Bool.and_eq_true_iff.mp (Bool.and_eq_true_iff.mp (Bool.and_eq_true_iff.mp (Bool.and_eq_true_iff.mp (Bool.and_eq_true_iff.mp (Bool.and_eq_true_iff.mp (Bool.and_eq_true_iff.mp (Bool.and_eq_true_iff.mp (Bool.and_eq_true_iff.mp (Bool.and_eq_true_iff.mp (Bool.and_eq_true_iff.mp (Bool.and_eq_true_iff.mp (Bool.and_eq_true_iff.mp (Bool.and_eq_true_iff.mp xq).1).1).1).1).1).1).1).1).1).1).1).1).1).1).1).1).1).1).1).1).1).1).1).1).1).1).1).1).1).1).1).1).1).1).1).1).1).1).1).1).1).1).1).1).1).1).1).1).1).1).1).1).1).1).1).1).1).1).1).1).1).1).1).1).1).1).1).1).1).1).1).1).1).1).2) fun _ h => of_decide_eq_true h,
    fun n hn => of_decide_eq_true (List.all_eq_true.mp ((Bool.and_eq_true_iff.mp (Bool.and_eq_true_iff.mp (Bool.and_eq_true_iff.mp (Bool.and_eq_true_iff.mp (Bool.and_eq_true_iff.mp (Bool.and_eq_true_iff.mp (Bool.and_eq_true_iff.mp (Bool.and_eq_true_iff.mp (Bool.and_eq_true_iff.mp (Bool.and_eq_true_iff.mp (Bool.and_eq_true_iff.mp (Bool.and_eq_true_iff.mp (Bool.and_eq_true_iff.mp (Bool.and_eq_true_iff.mp (Bool.and_eq_true_iff.mp (Bool.and_eq_true_iff.mp (Bool.and_eq_true_iff.mp (Bool.and_eq_true_iff.mp (Bool.and_eq_true_iff.mp (Bool.and_eq_true_iff.mp (Bool.and_eq_true_iff.mp (Bool.and_eq_true_iff.mp (Bool.and_eq_true_iff.mp (Bool.and_eq_true_iff.mp (Bool.and_eq_true_iff.mp (Bool.and_eq_true_iff.mp (Bool.and_eq_true_iff.mp (Bool.and_eq_true_iff.mp (Bool.and_eq_true_iff.mp (Bool.and_eq_true_iff.mp (Bool.and_eq_true_iff.mp (Bool.and_eq_true_iff.mp (Bool.and_eq_true_iff.mp (Bool.and_eq_true_iff.mp (Bool.and_eq_true_iff.mp (Bool.and_eq_true_iff.mp (Bool.and_eq_true_iff.mp (Bool.and_eq_true_iff.mp (Bool.and_eq_true_iff.mp (Bool.and_eq_true_iff.mp (Bool.and_eq_true_iff.mp (Bool.and_eq_true_iff.mp (Bool.and_eq_true_iff.mp (Bool.and_eq_true_iff.mp (Bool.and_eq_true_iff.mp (Bool.and_eq_true_iff.mp (Bool.and_eq_true_iff.mp (Bool.and_eq_true_iff.mp (Bool.and_eq_true_iff.mp (Bool.and_eq_true_iff.mp (Bool.and_eq_true_iff.mp (Bool.and_eq_true_iff.mp (Bool.and_eq_true_iff.mp (Bool.and_eq_true_iff.mp (Bool.and_eq_true_iff.mp (Bool.and_eq_true_iff.mp (Bool.and_eq_true_iff.mp (Bool.and_eq_true_iff.mp (Bool.and_eq_true_iff.mp (Bool.and_eq_true_iff.mp (Bool.and_eq_true_iff.mp (Bool.and_eq_true_iff.mp (Bool.and_eq_true_iff.mp (Bool.and_eq_true_iff.mp (Bool.and_eq_true_iff.mp (Bool.and_eq_true_iff.mp (Bool.and_eq_true_iff.mp (Bool.and_eq_true_iff.mp (Bool.and_eq_true_iff.mp (Bool.and_eq_true_iff.mp (Bool.and_eq_true_iff.mp (Bool.and_eq_true_iff.mp (Bool.and_eq_true_iff.mp (Bool.and_eq_true_iff.mp xq).1).1).1).1).1).1).1).1).1).1).1).1).1).1).1).1).1).1).1).1).1).1).1).1).1).1).1).1).1).1).1).1).1).1).1).1).1).1).1).1).1).1).1).1).1).1).1).1).1).1).1).1).1).1).1).1).1).1).1).1).1).1).1).1).1).1).1).1).1).1).1).1).1).2) n hn),
    allB_ok ((Bool.and_eq_true_iff.mp (Bool.and_eq_true_iff.mp (Bool.and_eq_true_iff.mp (Bool.and_eq_true_iff.mp (Bool.and_eq_true_iff.mp (Bool.and_eq_true_iff.mp (Bool.and_eq_true_iff.mp (Bool.and_eq_true_iff.mp (Bool.and_eq_true_iff.mp (Bool.and_eq_true_iff.mp (Bool.and_eq_true_iff.mp (Bool.and_eq_true_iff.mp (Bool.and_eq_true_iff.mp (Bool.and_eq_true_iff.mp (Bool.and_eq_true_iff.mp (Bool.and_eq_true_iff.mp (Bool.and_eq_true_iff.mp (Bool.and_eq_true_iff.mp (Bool.and_eq_true_iff.mp (Bool.and_eq_true_iff.mp (Bool.and_eq_true_iff.mp (Bool.and_eq_true_iff.mp (Bool.and_eq_true_iff.mp (Bool.and_eq_true_iff.mp (Bool.and_eq_true_iff.mp (Bool.and_eq_true_iff.mp (Bool.and_eq_true_iff.mp (Bool.and_eq_true_iff.mp (Bool.and_eq_true_iff.mp (Bool.and_eq_true_iff.mp (Bool.and_eq_true_iff.mp (Bool.and_eq_true_iff.mp (Bool.and_eq_true_iff.mp (Bool.and_eq_true_iff.mp (Bool.and_eq_true_iff.mp (Bool.and_eq_true_iff.mp (Bool.and_eq_true_iff.mp (Bool.and_eq_true_iff.mp (Bool.and_eq_true_iff.mp (Bool.and_eq_true_iff.mp (Bool.and_eq_true_iff.mp (Bool.and_eq_true_iff.mp (Bool.and_eq_true_iff.mp (Bool.and_eq_true_iff.mp (Bool.and_eq_true_iff.mp (Bool.and_eq_true_iff.mp (Bool.and_eq_true_iff.mp (Bool.and_eq_true_iff.mp (Bool.and_eq_true_iff.mp (Bool.and_eq_true_iff.mp (Bool.and_eq_true_iff.mp (Bool.and_eq_true_iff.mp (Bool.and_eq_true_iff.mp (Bool.and_eq_true_iff.mp (Bool.and_eq_true_iff.mp (Bool.and_eq_true_iff.mp (Bool.and_eq_true_iff.mp (Bool.and_eq_true_iff.mp (Bool.and_eq_true_iff.mp (Bool.and_eq_true_iff.mp (Bool.and_eq_true_iff.mp (Bool.and_eq_true_iff.mp (Bool.and_eq_true_iff.mp (Bool.and_eq_true_iff.mp (Bool.and_eq_true_iff.mp (Bool.and_eq_true_iff.mp (Bool.and_eq_true_iff.mp (Bool.and_eq_true_iff.mp (Bool.and_eq_true_iff.mp (Bool.and_eq_true_iff.mp (Bool.and_eq_true_iff.mp (Bool.and_eq_true_iff.mp (Bool.and_eq_true_iff.mp xq).1).1).1).1).1).1).1).1).1).1).1).1).1).1).1).1).1).1).1).1).1).1).1).1).1).1).1).1).1).1).1).1).1).1).1).1).1).1).1).1).1).1).1).1).1).1).1).1).1).1).1).1).1).1).1).1).1).1).1).1).1).1).1).1).1).1).1).1).1).1).1).1).2) fun _ h => of_decide_eq_true h,
    fun n hn => of_decide_eq_true (List.all_eq_true.mp ((Bool.and_eq_true_iff.mp (Bool.and_eq_true_iff.mp (Bool.and_eq_true_iff.mp (Bool.and_eq_true_iff.mp (Bool.and_eq_true_iff.mp (Bool.and_eq_true_iff.mp (Bool.and_eq_true_iff.mp (Bool.and_eq_true_iff.mp (Bool.and_eq_true_iff.mp (Bool.and_eq_true_iff.mp (Bool.and_eq_true_iff.mp (Bool.and_eq_true_iff.mp (Bool.and_eq_true_iff.mp (Bool.and_eq_true_iff.mp (Bool.and_eq_true_iff.mp (Bool.and_eq_true_iff.mp (Bool.and_eq_true_iff.mp (Bool.and_eq_true_iff.mp (Bool.and_eq_true_iff.mp (Bool.and_eq_true_iff.mp (Bool.and_eq_true_iff.mp (Bool.and_eq_true_iff.mp (Bool.and_eq_true_iff.mp (Bool.and_eq_true_iff.mp (Bool.and_eq_true_iff.mp (Bool.and_eq_true_iff.mp (Bool.and_eq_true_iff.mp (Bool.and_eq_true_iff.mp (Bool.and_eq_true_iff.mp (Bool.and_eq_true_iff.mp (Bool.and_eq_true_iff.mp (Bool.and_eq_true_iff.mp (Bool.and_eq_true_iff.mp (Bool.and_eq_true_iff.mp (Bool.and_eq_true_iff.mp (Bool.and_eq_true_iff.mp (Bool.and_eq_true_iff.mp (Bool.and_eq_true_iff.mp (Bool.and_eq_true_iff.mp (Bool.and_eq_true_iff.mp (Bool.and_eq_true_iff.mp (Bool.and_eq_true_iff.mp (Bool.and_eq_true_iff.mp (Bool.and_eq_true_iff.mp (Bool.and_eq_true_iff.mp (Bool.and_eq_true_iff.mp (Bool.and_eq_true_iff.mp (Bool.and_eq_true_iff.mp (Bool.and_eq_true_iff.mp (Bool.and_eq_true_iff.mp (Bool.and_eq_true_iff.mp (Bool.and_eq_true_iff.mp (Bool.and_eq_true_iff.mp (Bool.and_eq_true_iff.mp (Bool.and_eq_true_iff.mp (Bool.and_eq_true_iff.mp (Bool.and_eq_true_iff.mp (Bool.and_eq_true_iff.mp (Bool.and_eq_true_iff.mp (Bool.and_eq_true_iff.mp (Bool.and_eq_true_iff.mp (Bool.and_eq_true_iff.mp (Bool.and_eq_true_iff.mp (Bool.and_eq_true_iff.mp (Bool.and_eq_true_iff.mp (Bool.and_eq_true_iff.mp (Bool.and_eq_true_iff.mp (Bool.and_eq_true_iff.mp (Bool.and_eq_true_iff.mp (Bool.and_eq_true_iff.mp (Bool.and_eq_true_iff.mp (Bool.and_eq_true_iff.mp xq).1).1).1).1).1).1).1).1).1).1).1).1).1).1).1).1).1).1).1).1).1).1).1).1).1).1).1).1).1).1).1).1).1).1).1).1).1).1).1).1).1).1).1).1).1).1).1).1).1).1).1).1).1).1).1).1).1).1).1).1).1).1).1).1).1).1).1).1).1).1).1).2) n hn),
    allB_ok ((Bool.and_eq_true_iff.mp (Bool.and_eq_true_iff.mp (Bool.and_eq_true_iff.mp (Bool.and_eq_true_iff.mp (Bool.and_eq_true_iff.mp (Bool.and_eq_true_iff.mp (Bool.and_eq_true_iff.mp (Bool.and_eq_true_iff.mp (Bool.and_eq_true_iff.mp (Bool.and_eq_true_iff.mp (Bool.and_eq_true_iff.mp (Bool.and_eq_true_iff.mp (Bool.and_eq_true_iff.mp (Bool.and_eq_true_iff.mp (Bool.and_eq_true_iff.mp (Bool.and_eq_true_iff.mp (Bool.and_eq_true_iff.mp (Bool.and_eq_true_iff.mp (Bool.and_eq_true_iff.mp (Bool.and_eq_true_iff.mp (Bool.and_eq_true_iff.mp (Bool.and_eq_true_iff.mp (Bool.and_eq_true_iff.mp (Bool.and_eq_true_iff.mp (Bool.and_eq_true_iff.mp (Bool.and_eq_true_iff.mp (Bool.and_eq_true_iff.mp (Bool.and_eq_true_iff.mp (Bool.and_eq_true_iff.mp (Bool.and_eq_true_iff.mp (Bool.and_eq_true_iff.mp (Bool.and_eq_true_iff.mp (Bool.and_eq_true_iff.mp (Bool.and_eq_true_iff.mp (Bool.and_eq_true_iff.mp (Bool.and_eq_true_iff.mp (Bool.and_eq_true_iff.mp (Bool.and_eq_true_iff.mp (Bool.and_eq_true_iff.mp (Bool.and_eq_true_iff.mp (Bool.and_eq_true_iff.mp (Bool.and_eq_true_iff.mp (Bool.and_eq_true_iff.mp (Bool.and_eq_true_iff.mp (Bool.and_eq_true_iff.mp (Bool.and_eq_true_iff.mp (Bool.and_eq_true_iff.mp (Bool.and_eq_true_iff.mp (Bool.and_eq_true_iff.mp (Bool.and_eq_true_iff.mp (Bool.and_eq_true_iff.mp (Bool.and_eq_true_iff.mp (Bool.and_eq_true_iff.mp (Bool.and_eq_true_iff.mp (Bool.and_eq_true_iff.mp (Bool.and_eq_true_iff.mp (Bool.and_eq_true_iff.mp (Bool.and_eq_true_iff.mp (Bool.and_eq_true_iff.mp (Bool.and_eq_true_iff.mp (Bool.and_eq_true_iff.mp (Bool.and_eq_true_iff.mp (Bool.and_eq_true_iff.mp (Bool.and_eq_true_iff.mp (Bool.and_eq_true_iff.mp (Bool.and_eq_true_iff.mp (Bool.and_eq_true_iff.mp (Bool.and_eq_true_iff.mp (Bool.and_eq_true_iff.mp (Bool.and_eq_true_iff.mp (Bool.and_eq_true_iff.mp xq).1).1).1).1).1).1).1).1).1).1).1).1).1).1).1).1).1).1).1).1).1).1).1).1).1).1).1).1).1).1).1).1).1).1).1).1).1).1).1).1).1).1).1).1).1).1).1).1).1).1).1).1).1).1).1).1).1).1).1).1).1).1).1).1).1).1).1).1).1).1).2) fun _ h => of_decide_eq_true h,
    fun n hn => of_decide_eq_true (List.all_eq_true.mp ((Bool.and_eq_true_iff.mp (Bool.and_eq_true_iff.mp (Bool.and_eq_true_iff.mp (Bool.and_eq_true_iff.mp (Bool.and_eq_true_iff.mp (Bool.and_eq_true_iff.mp (Bool.and_eq_true_iff.mp (Bool.and_eq_true_iff.mp (Bool.and_eq_true_iff.mp (Bool.and_eq_true_iff.mp (Bool.and_eq_true_iff.mp (Bool.and_eq_true_iff.mp (Bool.and_eq_true_iff.mp (Bool.and_eq_true_iff.mp (Bool.and_eq_true_iff.mp (Bool.and_eq_true_iff.mp (Bool.and_eq_true_iff.mp (Bool.and_eq_true_iff.mp (Bool.and_eq_true_iff.mp (Bool.and_eq_true_iff.mp (Bool.and_eq_true_iff.mp (Bool.and_eq_true_iff.mp (Bool.and_eq_true_iff.mp (Bool.and_eq_true_iff.mp (Bool.and_eq_true_iff.mp (Bool.and_eq_true_iff.mp (Bool.and_eq_true_iff.mp (Bool.and_eq_true_iff.mp (Bool.and_eq_true_iff.mp (Bool.and_eq_true_iff.mp (Bool.and_eq_true_iff.mp (Bool.and_eq_true_iff.mp (Bool.and_eq_true_iff.mp (Bool.and_eq_true_iff.mp (Bool.and_eq_true_iff.mp (Bool.and_eq_true_iff.mp (Bool.and_eq_true_iff.mp (Bool.and_eq_true_iff.mp (Bool.and_eq_true_iff.mp (Bool.and_eq_true_iff.mp (Bool.and_eq_true_iff.mp (Bool.and_eq_true_iff.mp (Bool.and_eq_true_iff.mp (Bool.and_eq_true_iff.mp (Bool.and_eq_true_iff.mp (Bool.and_eq_true_iff.mp (Bool.and_eq_true_iff.mp (Bool.and_eq_true_iff.mp (Bool.and_eq_true_iff.mp (Bool.and_eq_true_iff.mp (Bool.and_eq_true_iff.mp (Bool.and_eq_true_iff.mp (Bool.and_eq_true_iff.mp (Bool.and_eq_true_iff.mp (Bool.and_eq_true_iff.mp (Bool.and_eq_true_iff.mp (Bool.and_eq_true_iff.mp (Bool.and_eq_true_iff.mp (Bool.and_eq_true_iff.mp (Bool.and_eq_true_iff.mp (Bool.and_eq_true_iff.mp (Bool.and_eq_true_iff.mp (Bool.and_eq_true_iff.mp (Bool.and_eq_true_iff.mp (Bool.and_eq_true_iff.mp (Bool.and_eq_true_iff.mp (Bool.and_eq_true_iff.mp (Bool.and_eq_true_iff.mp (Bool.and_eq_true_iff.mp (Bool.and_eq_true_iff.mp xq).1).1).1).1).1).1).1).1).1).1).1).1).1).1).1).1).1).1).1).1).1).1).1).1).1).1).1).1).1).1).1).1).1).1).1).1).1).1).1).1).1).1).1).1).1).1).1).1).1).1).1).1).1).1).1).1).1).1).1).1).1).1).1).1).1).1).1).1).1).2) n hn),
    allB_ok ((Bool.and_eq_true_iff.mp (Bool.and_eq_true_iff.mp (Bool.and_eq_true_iff.mp (Bool.and_eq_true_iff.mp (Bool.and_eq_true_iff.mp (Bool.and_eq_true_iff.mp (Bool.and_eq_true_iff.mp (Bool.and_eq_true_iff.mp (Bool.and_eq_true_iff.mp (Bool.and_eq_true_iff.mp (Bool.and_eq_true_iff.mp (Bool.and_eq_true_iff.mp (Bool.and_eq_true_iff.mp (Bool.and_eq_true_iff.mp (Bool.and_eq_true_iff.mp (Bool.and_eq_true_iff.mp (Bool.and_eq_true_iff.mp (Bool.and_eq_true_iff.mp (Bool.and_eq_true_iff.mp (Bool.and_eq_true_iff.mp (Bool.and_eq_true_iff.mp (Bool.and_eq_true_iff.mp (Bool.and_eq_true_iff.mp (Bool.and_eq_true_iff.mp (Bool.and_eq_true_iff.mp (Bool.and_eq_true_iff.mp (Bool.and_eq_true_iff.mp (Bool.and_eq_true_iff.mp (Bool.and_eq_true_iff.mp (Bool.and_eq_true_iff.mp (Bool.and_eq_true_iff.mp (Bool.and_eq_true_iff.mp (Bool.and_eq_true_iff.mp (Bool.and_eq_true_iff.mp (Bool.and_eq_true_iff.mp (Bool.and_eq_true_iff.mp (Bool.and_eq_true_iff.mp (Bool.and_eq_true_iff.mp (Bool.and_eq_true_iff.mp (Bool.and_eq_true_iff.mp (Bool.and_eq_true_iff.mp (Bool.and_eq_true_iff.mp (Bool.and_eq_true_iff.mp (Bool.and_eq_true_iff.mp (Bool.and_eq_true_iff.mp (Bool.and_eq_true_iff.mp (Bool.and_eq_true_iff.mp (Bool.and_eq_true_iff.mp (Bool.and_eq_true_iff.mp (Bool.and_eq_true_iff.mp (Bool.and_eq_true_iff.mp (Bool.and_eq_true_iff.mp (Bool.and_eq_true_iff.mp (Bool.and_eq_true_iff.mp (Bool.and_eq_true_iff.mp (Bool.and_eq_true_iff.mp (Bool.and_eq_true_iff.mp (Bool.and_eq_true_iff.mp (Bool.and_eq_true_iff.mp (Bool.and_eq_true_iff.mp (Bool.and_eq_true_iff.mp (Bool.and_eq_true_iff.mp (Bool.and_eq_true_iff.mp (Bool.and_eq_true_iff.mp (Bool.and_eq_true_iff.mp (Bool.and_eq_true_iff.mp (Bool.and_eq_true_iff.mp (Bool.and_eq_true_iff.mp (Bool.and_eq_true_iff.mp xq).1).1).1).1).1).1).1).1).1).1).1).1).1).1).1).1).1).1).1).1).1).1).1).1).1).1).1).1).1).1).1).1).1).1).1).1).1).1).1).1).1).1).1).1).1).1).1).1).1).1).1).1).1).1).1).1).1).1).1).1).1).1).1).1).1).1).1).1).2) fun _ h => of_decide_eq_true h,
    fun n hn => of_decide_eq_true (List.all_eq_true.mp ((Bool.and_eq_true_iff.mp (Bool.and_eq_true_iff.mp (Bool.and_eq_true_iff.mp (Bool.and_eq_true_iff.mp (Bool.and_eq_true_iff.mp (Bool.and_eq_true_iff.mp (Bool.and_eq_true_iff.mp (Bool.and_eq_true_iff.mp (Bool.and_eq_true_iff.mp (Bool.and_eq_true_iff.mp (Bool.and_eq_true_iff.mp (Bool.and_eq_true_iff.mp (Bool.and_eq_true_iff.mp (Bool.and_eq_true_iff.mp (Bool.and_eq_true_iff.mp (Bool.and_eq_true_iff.mp (Bool.and_eq_true_iff.mp (Bool.and_eq_true_iff.mp (Bool.and_eq_true_iff.mp (Bool.and_eq_true_iff.mp (Bool.and_eq_true_iff.mp (Bool.and_eq_true_iff.mp (Bool.and_eq_true_iff.mp (Bool.and_eq_true_iff.mp (Bool.and_eq_true_iff.mp (Bool.and_eq_true_iff.mp (Bool.and_eq_true_iff.mp (Bool.and_eq_true_iff.mp (Bool.and_eq_true_iff.mp (Bool.and_eq_true_iff.mp (Bool.and_eq_true_iff.mp (Bool.and_eq_true_iff.mp (Bool.and_eq_true_iff.mp (Bool.and_eq_true_iff.mp (Bool.and_eq_true_iff.mp (Bool.and_eq_true_iff.mp (Bool.and_eq_true_iff.mp (Bool.and_eq_true_iff.mp (Bool.and_eq_true_iff.mp (Bool.and_eq_true_iff.mp (Bool.and_eq_true_iff.mp (Bool.and_eq_true_iff.mp (Bool.and_eq_true_iff.mp (Bool.and_eq_true_iff.mp (Bool.and_eq_true_iff.mp (Bool.and_eq_true_iff.mp (Bool.and_eq_true_iff.mp (Bool.and_eq_true_iff.mp (Bool.and_eq_true_iff.mp (Bool.and_eq_true_iff.mp (Bool.and_eq_true_iff.mp (Bool.and_eq_true_iff.mp (Bool.and_eq_true_iff.mp (Bool.and_eq_true_iff.mp (Bool.and_eq_true_iff.mp (Bool.and_eq_true_iff.mp (Bool.and_eq_true_iff.mp (Bool.and_eq_true_iff.mp (Bool.and_eq_true_iff.mp (Bool.and_eq_true_iff.mp (Bool.and_eq_true_iff.mp (Bool.and_eq_true_iff.mp (Bool.and_eq_true_iff.mp (Bool.and_eq_true_iff.mp (Bool.and_eq_true_iff.mp (Bool.and_eq_true_iff.mp (Bool.and_eq_true_iff.mp (Bool.and_eq_true_iff.mp xq).1).1).1).1).1).1).1).1).1).1).1).1).1).1).1).1).1).1).1).1).1).1).1).1).1).1).1).1).1).1).1).1).1).1).1).1).1).1).1).1).1).1).1).1).1).1).1).1).1).1).1).1).1).1).1).1).1).1).1).1).1).1).1).1).1).1).1).2) n hn),
    allB_ok ((Bool.and_eq_true_iff.mp (Bool.and_eq_true_iff.mp (Bool.and_eq_true_iff.mp (Bool.and_eq_true_iff.mp (Bool.and_eq_true_iff.mp (Bool.and_eq_true_iff.mp (Bool.and_eq_true_iff.mp (Bool.and_eq_true_iff.mp (Bool.and_eq_true_iff.mp (Bool.and_eq_true_iff.mp (Bool.and_eq_true_iff.mp (Bool.and_eq_true_iff.mp (Bool.and_eq_true_iff.mp (Bool.and_eq_true_iff.mp (Bool.and_eq_true_iff.mp (Bool.and_eq_true_iff.mp (Bool.and_eq_true_iff.mp (Bool.and_eq_true_iff.mp (Bool.and_eq_true_iff.mp (Bool.and_eq_true_iff.mp (Bool.and_eq_true_iff.mp (Bool.and_eq_true_iff.mp (Bool.and_eq_true_iff.mp (Bool.and_eq_true_iff.mp (Bool.and_eq_true_iff.mp (Bool.and_eq_true_iff.mp (Bool.and_eq_true_iff.mp (Bool.and_eq_true_iff.mp (Bool.and_eq_true_iff.mp (Bool.and_eq_true_iff.mp (Bool.and_eq_true_iff.mp (Bool.and_eq_true_iff.mp (Bool.and_eq_true_iff.mp (Bool.and_eq_true_iff.mp (Bool.and_eq_true_iff.mp (Bool.and_eq_true_iff.mp (Bool.and_eq_true_iff.mp (Bool.and_eq_true_iff.mp (Bool.and_eq_true_iff.mp (Bool.and_eq_true_iff.mp (Bool.and_eq_true_iff.mp (Bool.and_eq_true_iff.mp (Bool.and_eq_true_iff.mp (Bool.and_eq_true_iff.mp (Bool.and_eq_true_iff.mp (Bool.and_eq_true_iff.mp (Bool.and_eq_true_iff.mp (Bool.and_eq_true_iff.mp (Bool.and_eq_true_iff.mp (Bool.and_eq_true_iff.mp (Bool.and_eq_true_iff.mp (Bool.and_eq_true_iff.mp (Bool.and_eq_true_iff.mp (Bool.and_eq_true_iff.mp (Bool.and_eq_true_iff.mp (Bool.and_eq_true_iff.mp (Bool.and_eq_true_iff.mp (Bool.and_eq_true_iff.mp (Bool.and_eq_true_iff.mp (Bool.and_eq_true_iff.mp (Bool.and_eq_true_iff.mp (Bool.and_eq_true_iff.mp (Bool.and_eq_true_iff.mp (Bool.and_eq_true_iff.mp (Bool.and_eq_true_iff.mp (Bool.and_eq_true_iff.mp (Bool.and_eq_true_iff.mp xq).1).1).1).1).1).1).1).1).1).1).1).1).1).1).1).1).1).1).1).1).1).1).1).1).1).1).1).1).1).1).1).1).1).1).1).1).1).1).1).1).1).1).1).1).1).1).1).1).1).1).1).1).1).1).1).1).1).1).1).1).1).1).1).1).1).1).2) fun _ h => of_decide_eq_true h,
    fun n hn => of_decide_eq_true (List.all_eq_true.mp ((Bool.and_eq_true_iff.mp (Bool.and_eq_true_iff.mp (Bool.and_eq_true_iff.mp (Bool.and_eq_true_iff.mp (Bool.and_eq_true_iff.mp (Bool.and_eq_true_iff.mp (Bool.and_eq_true_iff.mp (Bool.and_eq_true_iff.mp (Bool.and_eq_true_iff.mp (Bool.and_eq_true_iff.mp (Bool.and_eq_true_iff.mp (Bool.and_eq_true_iff.mp (Bool.and_eq_true_iff.mp (Bool.and_eq_true_iff.mp (Bool.and_eq_true_iff.mp (Bool.and_eq_true_iff.mp (Bool.and_eq_true_iff.mp (Bool.and_eq_true_iff.mp (Bool.and_eq_true_iff.mp (Bool.and_eq_true_iff.mp (Bool.and_eq_true_iff.mp (Bool.and_eq_true_iff.mp (Bool.and_eq_true_iff.mp (Bool.and_eq_true_iff.mp (Bool.and_eq_true_iff.mp (Bool.and_eq_true_iff.mp (Bool.and_eq_true_iff.mp (Bool.and_eq_true_iff.mp (Bool.and_eq_true_iff.mp (Bool.and_eq_true_iff.mp (Bool.and_eq_true_iff.mp (Bool.and_eq_true_iff.mp (Bool.and_eq_true_iff.mp (Bool.and_eq_true_iff.mp (Bool.and_eq_true_iff.mp (Bool.and_eq_true_iff.mp (Bool.and_eq_true_iff.mp (Bool.and_eq_true_iff.mp (Bool.and_eq_true_iff.mp (Bool.and_eq_true_iff.mp (Bool.and_eq_true_iff.mp (Bool.and_eq_true_iff.mp (Bool.and_eq_true_iff.mp (Bool.and_eq_true_iff.mp (Bool.and_eq_true_iff.mp (Bool.and_eq_true_iff.mp (Bool.and_eq_true_iff.mp (Bool.and_eq_true_iff.mp (Bool.and_eq_true_iff.mp (Bool.and_eq_true_iff.mp (Bool.and_eq_true_iff.mp (Bool.and_eq_true_iff.mp (Bool.and_eq_true_iff.mp (Bool.and_eq_true_iff.mp (Bool.and_eq_true_iff.mp (Bool.and_eq_true_iff.mp (Bool.and_eq_true_iff.mp (Bool.and_eq_true_iff.mp (Bool.and_eq_true_iff.mp (Bool.and_eq_true_iff.mp (Bool.and_eq_true_iff.mp (Bool.and_eq_true_iff.mp (Bool.and_eq_true_iff.mp (Bool.and_eq_true_iff.mp (Bool.and_eq_true_iff.mp (Bool.and_eq_true_iff.mp xq).1).1).1).1).1).1).1).1).1).1).1).1).1).1).1).1).1).1).1).1).1).1).1).1).1).1).1).1).1).1).1).1).1).1).1).1).1).1).1).1).1).1).1).1).1).1).1).1).1).1).1).1).1).1).1).1).1).1).1).1).1).1).1).1).1).2) n hn),
    allB_ok ((Bool.and_eq_true_iff.mp (Bool.and_eq_true_iff.mp (Bool.and_eq_true_iff.mp (Bool.and_eq_true_iff.mp (Bool.and_eq_true_iff.mp (Bool.and_eq_true_iff.mp (Bool.and_eq_true_iff.mp (Bool.and_eq_true_iff.mp (Bool.and_eq_true_iff.mp (Bool.and_eq_true_iff.mp (Bool.and_eq_true_iff.mp (Bool.and_eq_true_iff.mp (Bool.and_eq_true_iff.mp (Bool.and_eq_true_iff.mp (Bool.and_eq_true_iff.mp (Bool.and_eq_true_iff.mp (Bool.and_eq_true_iff.mp (Bool.and_eq_true_iff.mp (Bool.and_eq_true_iff.mp (Bool.and_eq_true_iff.mp (Bool.and_eq_true_iff.mp (Bool.and_eq_true_iff.mp (Bool.and_eq_true_iff.mp (Bool.and_eq_true_iff.mp (Bool.and_eq_true_iff.mp (Bool.and_eq_true_iff.mp (Bool.and_eq_true_iff.mp (Bool.and_eq_true_iff.mp (Bool.and_eq_true_iff.mp (Bool.and_eq_true_iff.mp (Bool.and_eq_true_iff.mp (Bool.and_eq_true_iff.mp (Bool.and_eq_true_iff.mp (Bool.and_eq_true_iff.mp (Bool.and_eq_true_iff.mp (Bool.and_eq_true_iff.mp (Bool.and_eq_true_iff.mp (Bool.and_eq_true_iff.mp (Bool.and_eq_true_iff.mp (Bool.and_eq_true_iff.mp (Bool.and_eq_true_iff.mp (Bool.and_eq_true_iff.mp (Bool.and_eq_true_iff.mp (Bool.and_eq_true_iff.mp (Bool.and_eq_true_iff.mp (Bool.and_eq_true_iff.mp (Bool.and_eq_true_iff.mp (Bool.and_eq_true_iff.mp (Bool.and_eq_true_iff.mp (Bool.and_eq_true_iff.mp (Bool.and_eq_true_iff.mp (Bool.and_eq_true_iff.mp (Bool.and_eq_true_iff.mp (Bool.and_eq_true_iff.mp (Bool.and_eq_true_iff.mp (Bool.and_eq_true_iff.mp (Bool.and_eq_true_iff.mp (Bool.and_eq_true_iff.mp (Bool.and_eq_true_iff.mp (Bool.and_eq_true_iff.mp (Bool.and_eq_true_iff.mp (Bool.and_eq_true_iff.mp (Bool.and_eq_true_iff.mp (Bool.and_eq_true_iff.mp (Bool.and_eq_true_iff.mp xq).1).1).1).1).1).1).1).1).1).1).1).1).1).1).1).1).1).1).1).1).1).1).1).1).1).1).1).1).1).1).1).1).1).1).1).1).1).1).1).1).1).1).1).1).1).1).1).1).1).1).1).1).1).1).1).1).1).1).1).1).1).1).1).1).2) fun _ h => of_decide_eq_true h,
    fun n hn => of_decide_eq_true (List.all_eq_true.mp ((Bool.and_eq_true_iff.mp (Bool.and_eq_true_iff.mp (Bool.and_eq_true_iff.mp (Bool.and_eq_true_iff.mp (Bool.and_eq_true_iff.mp (Bool.and_eq_true_iff.mp (Bool.and_eq_true_iff.mp (Bool.and_eq_true_iff.mp (Bool.and_eq_true_iff.mp (Bool.and_eq_true_iff.mp (Bool.and_eq_true_iff.mp (Bool.and_eq_true_iff.mp (Bool.and_eq_true_iff.mp (Bool.and_eq_true_iff.mp (Bool.and_eq_true_iff.mp (Bool.and_eq_true_iff.mp (Bool.and_eq_true_iff.mp (Bool.and_eq_true_iff.mp (Bool.and_eq_true_iff.mp (Bool.and_eq_true_iff.mp (Bool.and_eq_true_iff.mp (Bool.and_eq_true_iff.mp (Bool.and_eq_true_iff.mp (Bool.and_eq_true_iff.mp (Bool.and_eq_true_iff.mp (Bool.and_eq_true_iff.mp (Bool.and_eq_true_iff.mp (Bool.and_eq_true_iff.mp (Bool.and_eq_true_iff.mp (Bool.and_eq_true_iff.mp (Bool.and_eq_true_iff.mp (Bool.and_eq_true_iff.mp (Bool.and_eq_true_iff.mp (Bool.and_eq_true_iff.mp (Bool.and_eq_true_iff.mp (Bool.and_eq_true_iff.mp (Bool.and_eq_true_iff.mp (Bool.and_eq_true_iff.mp (Bool.and_eq_true_iff.mp (Bool.and_eq_true_iff.mp (Bool.and_eq_true_iff.mp (Bool.and_eq_true_iff.mp (Bool.and_eq_true_iff.mp (Bool.and_eq_true_iff.mp (Bool.and_eq_true_iff.mp (Bool.and_eq_true_iff.mp (Bool.and_eq_true_iff.mp (Bool.and_eq_true_iff.mp (Bool.and_eq_true_iff.mp (Bool.and_eq_true_iff.mp (Bool.and_eq_true_iff.mp (Bool.and_eq_true_iff.mp (Bool.and_eq_true_iff.mp (Bool.and_eq_true_iff.mp (Bool.and_eq_true_iff.mp (Bool.and_eq_true_iff.mp (Bool.and_eq_true_iff.mp (Bool.and_eq_true_iff.mp (Bool.and_eq_true_iff.mp (Bool.and_eq_true_iff.mp (Bool.and_eq_true_iff.mp (Bool.and_eq_true_iff.mp (Bool.and_eq_true_iff.mp (Bool.and_eq_true_iff.mp xq).1).1).1).1).1).1).1).1).1).1).1).1).1).1).1).1).1).1).1).1).1).1).1).1).1).1).1).1).1).1).1).1).1).1).1).1).1).1).1).1).1).1).1).1).1).1).1).1).1).1).1).1).1).1).1).1).1).1).1).1).1).1).1).2) n hn),
    allB_ok ((Bool.and_eq_true_iff.mp (Bool.and_eq_true_iff.mp (Bool.and_eq_true_iff.mp (Bool.and_eq_true_iff.mp (Bool.and_eq_true_iff.mp (Bool.and_eq_true_iff.mp (Bool.and_eq_true_iff.mp (Bool.and_eq_true_iff.mp (Bool.and_eq_true_iff.mp (Bool.and_eq_true_iff.mp (Bool.and_eq_true_iff.mp (Bool.and_eq_true_iff.mp (Bool.and_eq_true_iff.mp (Bool.and_eq_true_iff.mp (Bool.and_eq_true_iff.mp (Bool.and_eq_true_iff.mp (Bool.and_eq_true_iff.mp (Bool.and_eq_true_iff.mp (Bool.and_eq_true_iff.mp (Bool.and_eq_true_iff.mp (Bool.and_eq_true_iff.mp (Bool.and_eq_true_iff.mp (Bool.and_eq_true_iff.mp (Bool.and_eq_true_iff.mp (Bool.and_eq_true_iff.mp (Bool.and_eq_true_iff.mp (Bool.and_eq_true_iff.mp (Bool.and_eq_true_iff.mp (Bool.and_eq_true_iff.mp (Bool.and_eq_true_iff.mp (Bool.and_eq_true_iff.mp (Bool.and_eq_true_iff.mp (Bool.and_eq_true_iff.mp (Bool.and_eq_true_iff.mp (Bool.and_eq_true_iff.mp (Bool.and_eq_true_iff.mp (Bool.and_eq_true_iff.mp (Bool.and_eq_true_iff.mp (Bool.and_eq_true_iff.mp (Bool.and_eq_true_iff.mp (Bool.and_eq_true_iff.mp (Bool.and_eq_true_iff.mp (Bool.and_eq_true_iff.mp (Bool.and_eq_true_iff.mp (Bool.and_eq_true_iff.mp (Bool.and_eq_true_iff.mp (Bool.and_eq_true_iff.mp (Bool.and_eq_true_iff.mp (Bool.and_eq_true_iff.mp (Bool.and_eq_true_iff.mp (Bool.and_eq_true_iff.mp (Bool.and_eq_true_iff.mp (Bool.and_eq_true_iff.mp (Bool.and_eq_true_iff.mp (Bool.and_eq_true_iff.mp (Bool.and_eq_true_iff.mp (Bool.and_eq_true_iff.mp (Bool.and_eq_true_iff.mp (Bool.and_eq_true_iff.mp (Bool.and_eq_true_iff.mp (Bool.and_eq_true_iff.mp (Bool.and_eq_true_iff.mp (Bool.and_eq_true_iff.mp xq).1).1).1).1).1).1).1).1).1).1).1).1).1).1).1).1).1).1).1).1).1).1).1).1).1).1).1).1).1).1).1).1).1).1).1).1).1).1).1).1).1).1).1).1).1).1).1).1).1).1).1).1).1).1).1).1).1).1).1).1).1).1).2) fun _ h => of_decide_eq_true h,
    fun n hn => of_decide_eq_true (List.all_eq_true.mp ((Bool.and_eq_true_iff.mp (Bool.and_eq_true_iff.mp (Bool.and_eq_true_iff.mp (Bool.and_eq_true_iff.mp (Bool.and_eq_true_iff.mp (Bool.and_eq_true_iff.mp (Bool.and_eq_true_iff.mp (Bool.and_eq_true_iff.mp (Bool.and_eq_true_iff.mp (Bool.and_eq_true_iff.mp (Bool.and_eq_true_iff.mp (Bool.and_eq_true_iff.mp (Bool.and_eq_true_iff.mp (Bool.and_eq_true_iff.mp (Bool.and_eq_true_iff.mp (Bool.and_eq_true_iff.mp (Bool.and_eq_true_iff.mp (Bool.and_eq_true_iff.mp (Bool.and_eq_true_iff.mp (Bool.and_eq_true_iff.mp (Bool.and_eq_true_iff.mp (Bool.and_eq_true_iff.mp (Bool.and_eq_true_iff.mp (Bool.and_eq_true_iff.mp (Bool.and_eq_true_iff.mp (Bool.and_eq_true_iff.mp (Bool.and_eq_true_iff.mp (Bool.and_eq_true_iff.mp (Bool.and_eq_true_iff.mp (Bool.and_eq_true_iff.mp (Bool.and_eq_true_iff.mp (Bool.and_eq_true_iff.mp (Bool.and_eq_true_iff.mp (Bool.and_eq_true_iff.mp (Bool.and_eq_true_iff.mp (Bool.and_eq_true_iff.mp (Bool.and_eq_true_iff.mp (Bool.and_eq_true_iff.mp (Bool.and_eq_true_iff.mp (Bool.and_eq_true_iff.mp (Bool.and_eq_true_iff.mp (Bool.and_eq_true_iff.mp (Bool.and_eq_true_iff.mp (Bool.and_eq_true_iff.mp (Bool.and_eq_true_iff.mp (Bool.and_eq_true_iff.mp (Bool.and_eq_true_iff.mp (Bool.and_eq_true_iff.mp (Bool.and_eq_true_iff.mp (Bool.and_eq_true_iff.mp (Bool.and_eq_true_iff.mp (Bool.and_eq_true_iff.mp (Bool.and_eq_true_iff.mp (Bool.and_eq_true_iff.mp (Bool.and_eq_true_iff.mp (Bool.and_eq_true_iff.mp (Bool.and_eq_true_iff.mp (Bool.and_eq_true_iff.mp (Bool.and_eq_true_iff.mp (Bool.and_eq_true_iff.mp (Bool.and_eq_true_iff.mp (Bool.and_eq_true_iff.mp xq).1).1).1).1).1).1).1).1).1).1).1).1).1).1).1).1).1).1).1).1).1).1).1).1).1).1).1).1).1).1).1).1).1).1).1).1).1).1).1).1).1).1).1).1).1).1).1).1).1).1).1).1).1).1).1).1).1).1).1).1).1).2) n hn),
    allB_ok ((Bool.and_eq_true_iff.mp (Bool.and_eq_true_iff.mp (Bool.and_eq_true_iff.mp (Bool.and_eq_true_iff.mp (Bool.and_eq_true_iff.mp (Bool.and_eq_true_iff.mp (Bool.and_eq_true_iff.mp (Bool.and_eq_true_iff.mp (Bool.and_eq_true_iff.mp (Bool.and_eq_true_iff.mp (Bool.and_eq_true_iff.mp (Bool.and_eq_true_iff.mp (Bool.and_eq_true_iff.mp (Bool.and_eq_true_iff.mp (Bool.and_eq_true_iff.mp (Bool.and_eq_true_iff.mp (Bool.and_eq_true_iff.mp (Bool.and_eq_true_iff.mp (Bool.and_eq_true_iff.mp (Bool.and_eq_true_iff.mp (Bool.and_eq_true_iff.mp (Bool.and_eq_true_iff.mp (Bool.and_eq_true_iff.mp (Bool.and_eq_true_iff.mp (Bool.and_eq_true_iff.mp (Bool.and_eq_true_iff.mp (Bool.and_eq_true_iff.mp (Bool.and_eq_true_iff.mp (Bool.and_eq_true_iff.mp (Bool.and_eq_true_iff.mp (Bool.and_eq_true_iff.mp (Bool.and_eq_true_iff.mp (Bool.and_eq_true_iff.mp (Bool.and_eq_true_iff.mp (Bool.and_eq_true_iff.mp (Bool.and_eq_true_iff.mp (Bool.and_eq_true_iff.mp (Bool.and_eq_true_iff.mp (Bool.and_eq_true_iff.mp (Bool.and_eq_true_iff.mp (Bool.and_eq_true_iff.mp (Bool.and_eq_true_iff.mp (Bool.and_eq_true_iff.mp (Bool.and_eq_true_iff.mp (Bool.and_eq_true_iff.mp (Bool.and_eq_true_iff.mp (Bool.and_eq_true_iff.mp (Bool.and_eq_true_iff.mp (Bool.and_eq_true_iff.mp (Bool.and_eq_true_iff.mp (Bool.and_eq_true_iff.mp (Bool.and_eq_true_iff.mp (Bool.and_eq_true_iff.mp (Bool.and_eq_true_iff.mp (Bool.and_eq_true_iff.mp (Bool.and_eq_true_iff.mp (Bool.and_eq_true_iff.mp (Bool.and_eq_true_iff.mp (Bool.and_eq_true_iff.mp (Bool.and_eq_true_iff.mp (Bool.and_eq_true_iff.mp xq).1).1).1).1).1).1).1).1).1).1).1).1).1).1).1).1).1).1).1).1).1).1).1).1).1).1).1).1).1).1).1).1).1).1).1).1).1).1).1).1).1).1).1).1).1).1).1).1).1).1).1).1).1).1).1).1).1).1).1).1).2) fun _ h => of_decide_eq_true h,
    fun n hn => of_decide_eq_true (List.all_eq_true.mp ((Bool.and_eq_true_iff.mp (Bool.and_eq_true_iff.mp (Bool.and_eq_true_iff.mp (Bool.and_eq_true_iff.mp (Bool.and_eq_true_iff.mp (Bool.and_eq_true_iff.mp (Bool.and_eq_true_iff.mp (Bool.and_eq_true_iff.mp (Bool.and_eq_true_iff.mp (Bool.and_eq_true_iff.mp (Bool.and_eq_true_iff.mp (Bool.and_eq_true_iff.mp (Bool.and_eq_true_iff.mp (Bool.and_eq_true_iff.mp (Bool.and_eq_true_iff.mp (Bool.and_eq_true_iff.mp (Bool.and_eq_true_iff.mp (Bool.and_eq_true_iff.mp (Bool.and_eq_true_iff.mp (Bool.and_eq_true_iff.mp (Bool.and_eq_true_iff.mp (Bool.and_eq_true_iff.mp (Bool.and_eq_true_iff.mp (Bool.and_eq_true_iff.mp (Bool.and_eq_true_iff.mp (Bool.and_eq_true_iff.mp (Bool.and_eq_true_iff.mp (Bool.and_eq_true_iff.mp (Bool.and_eq_true_iff.mp (Bool.and_eq_true_iff.mp (Bool.and_eq_true_iff.mp (Bool.and_eq_true_iff.mp (Bool.and_eq_true_iff.mp (Bool.and_eq_true_iff.mp (Bool.and_eq_true_iff.mp (Bool.and_eq_true_iff.mp (Bool.and_eq_true_iff.mp (Bool.and_eq_true_iff.mp (Bool.and_eq_true_iff.mp (Bool.and_eq_true_iff.mp (Bool.and_eq_true_iff.mp (Bool.and_eq_true_iff.mp (Bool.and_eq_true_iff.mp (Bool.and_eq_true_iff.mp (Bool.and_eq_true_iff.mp (Bool.and_eq_true_iff.mp (Bool.and_eq_true_iff.mp (Bool.and_eq_true_iff.mp (Bool.and_eq_true_iff.mp (Bool.and_eq_true_iff.mp (Bool.and_eq_true_iff.mp (Bool.and_eq_true_iff.mp (Bool.and_eq_true_iff.mp (Bool.and_eq_true_iff.mp (Bool.and_eq_true_iff.mp (Bool.and_eq_true_iff.mp (Bool.and_eq_true_iff.mp (Bool.and_eq_true_iff.mp (Bool.and_eq_true_iff.mp (Bool.and_eq_true_iff.mp xq).1).1).1).1).1).1).1).1).1).1).1).1).1).1).1).1).1).1).1).1).1).1).1).1).1).1).1).1).1).1).1).1).1).1).1).1).1).1).1).1).1).1).1).1).1).1).1).1).1).1).1).1).1).1).1).1).1).1).1).2) n hn),
    allB_ok ((Bool.and_eq_true_iff.mp (Bool.and_eq_true_iff.mp (Bool.and_eq_true_iff.mp (Bool.and_eq_true_iff.mp (Bool.and_eq_true_iff.mp (Bool.and_eq_true_iff.mp (Bool.and_eq_true_iff.mp (Bool.and_eq_true_iff.mp (Bool.and_eq_true_iff.mp (Bool.and_eq_true_iff.mp (Bool.and_eq_true_iff.mp (Bool.and_eq_true_iff.mp (Bool.and_eq_true_iff.mp (Bool.and_eq_true_iff.mp (Bool.and_eq_true_iff.mp (Bool.and_eq_true_iff.mp (Bool.and_eq_true_iff.mp (Bool.and_eq_true_iff.mp (Bool.and_eq_true_iff.mp (Bool.and_eq_true_iff.mp (Bool.and_eq_true_iff.mp (Bool.and_eq_true_iff.mp (Bool.and_eq_true_iff.mp (Bool.and_eq_true_iff.mp (Bool.and_eq_true_iff.mp (Bool.and_eq_true_iff.mp (Bool.and_eq_true_iff.mp (Bool.and_eq_true_iff.mp (Bool.and_eq_true_iff.mp (Bool.and_eq_true_iff.mp (Bool.and_eq_true_iff.mp (Bool.and_eq_true_iff.mp (Bool.and_eq_true_iff.mp (Bool.and_eq_true_iff.mp (Bool.and_eq_true_iff.mp (Bool.and_eq_true_iff.mp (Bool.and_eq_true_iff.mp (Bool.and_eq_true_iff.mp (Bool.and_eq_true_iff.mp (Bool.and_eq_true_iff.mp (Bool.and_eq_true_iff.mp (Bool.and_eq_true_iff.mp (Bool.and_eq_true_iff.mp (Bool.and_eq_true_iff.mp (Bool.and_eq_true_iff.mp (Bool.and_eq_true_iff.mp (Bool.and_eq_true_iff.mp (Bool.and_eq_true_iff.mp (Bool.and_eq_true_iff.mp (Bool.and_eq_true_iff.mp (Bool.and_eq_true_iff.mp (Bool.and_eq_true_iff.mp (Bool.and_eq_true_iff.mp (Bool.and_eq_true_iff.mp (Bool.and_eq_true_iff.mp (Bool.and_eq_true_iff.mp (Bool.and_eq_true_iff.mp (Bool.and_eq_true_iff.mp (Bool.and_eq_true_iff.mp xq).1).1).1).1).1).1).1).1).1).1).1).1).1).1).1).1).1).1).1).1).1).1).1).1).1).1).1).1).1).1).1).1).1).1).1).1).1).1).1).1).1).1).1).1).1).1).1).1).1).1).1).1).1).1).1).1).1).1).2) fun _ h => of_decide_eq_true h,
    fun n hn => of_decide_eq_true (List.all_eq_true.mp ((Bool.and_eq_true_iff.mp (Bool.and_eq_true_iff.mp (Bool.and_eq_true_iff.mp (Bool.and_eq_true_iff.mp (Bool.and_eq_true_iff.mp (Bool.and_eq_true_iff.mp (Bool.and_eq_true_iff.mp (Bool.and_eq_true_iff.mp (Bool.and_eq_true_iff.mp (Bool.and_eq_true_iff.mp (Bool.and_eq_true_iff.mp (Bool.and_eq_true_iff.mp (Bool.and_eq_true_iff.mp (Bool.and_eq_true_iff.mp (Bool.and_eq_true_iff.mp (Bool.and_eq_true_iff.mp (Bool.and_eq_true_iff.mp (Bool.and_eq_true_iff.mp (Bool.and_eq_true_iff.mp (Bool.and_eq_true_iff.mp (Bool.and_eq_true_iff.mp (Bool.and_eq_true_iff.mp (Bool.and_eq_true_iff.mp (Bool.and_eq_true_iff.mp (Bool.and_eq_true_iff.mp (Bool.and_eq_true_iff.mp (Bool.and_eq_true_iff.mp (Bool.and_eq_true_iff.mp (Bool.and_eq_true_iff.mp (Bool.and_eq_true_iff.mp (Bool.and_eq_true_iff.mp (Bool.and_eq_true_iff.mp (Bool.and_eq_true_iff.mp (Bool.and_eq_true_iff.mp (Bool.and_eq_true_iff.mp (Bool.and_eq_true_iff.mp (Bool.and_eq_true_iff.mp (Bool.and_eq_true_iff.mp (Bool.and_eq_true_iff.mp (Bool.and_eq_true_iff.mp (Bool.and_eq_true_iff.mp (Bool.and_eq_true_iff.mp (Bool.and_eq_true_iff.mp (Bool.and_eq_true_iff.mp (Bool.and_eq_true_iff.mp (Bool.and_eq_true_iff.mp (Bool.and_eq_true_iff.mp (Bool.and_eq_true_iff.mp (Bool.and_eq_true_iff.mp (Bool.and_eq_true_iff.mp (Bool.and_eq_true_iff.mp (Bool.and_eq_true_iff.mp (Bool.and_eq_true_iff.mp (Bool.and_eq_true_iff.mp (Bool.and_eq_true_iff.mp (Bool.and_eq_true_iff.mp (Bool.and_eq_true_iff.mp (Bool.and_eq_true_iff.mp xq).1).1).1).1).1).1).1).1).1).1).1).1).1).1).1).1).1).1).1).1).1).1).1).1).1).1).1).1).1).1).1).1).1).1).1).1).1).1).1).1).1).1).1).1).1).1).1).1).1).1).1).1).1).1).1).1).1).2) n hn),
    allB_ok ((Bool.and_eq_true_iff.mp (Bool.and_eq_true_iff.mp (Bool.and_eq_true_iff.mp (Bool.and_eq_true_iff.mp (Bool.and_eq_true_iff.mp (Bool.and_eq_true_iff.mp (Bool.and_eq_true_iff.mp (Bool.and_eq_true_iff.mp (Bool.and_eq_true_iff.mp (Bool.and_eq_true_iff.mp (Bool.and_eq_true_iff.mp (Bool.and_eq_true_iff.mp (Bool.and_eq_true_iff.mp (Bool.and_eq_true_iff.mp (Bool.and_eq_true_iff.mp (Bool.and_eq_true_iff.mp (Bool.and_eq_true_iff.mp (Bool.and_eq_true_iff.mp (Bool.and_eq_true_iff.mp (Bool.and_eq_true_iff.mp (Bool.and_eq_true_iff.mp (Bool.and_eq_true_iff.mp (Bool.and_eq_true_iff.mp (Bool.and_eq_true_iff.mp (Bool.and_eq_true_iff.mp (Bool.and_eq_true_iff.mp (Bool.and_eq_true_iff.mp (Bool.and_eq_true_iff.mp (Bool.and_eq_true_iff.mp (Bool.and_eq_true_iff.mp (Bool.and_eq_true_iff.mp (Bool.and_eq_true_iff.mp (Bool.and_eq_true_iff.mp (Bool.and_eq_true_iff.mp (Bool.and_eq_true_iff.mp (Bool.and_eq_true_iff.mp (Bool.and_eq_true_iff.mp (Bool.and_eq_true_iff.mp (Bool.and_eq_true_iff.mp (Bool.and_eq_true_iff.mp (Bool.and_eq_true_iff.mp (Bool.and_eq_true_iff.mp (Bool.and_eq_true_iff.mp (Bool.and_eq_true_iff.mp (Bool.and_eq_true_iff.mp (Bool.and_eq_true_iff.mp (Bool.and_eq_true_iff.mp (Bool.and_eq_true_iff.mp (Bool.and_eq_true_iff.mp (Bool.and_eq_true_iff.mp (Bool.and_eq_true_iff.mp (Bool.and_eq_true_iff.mp (Bool.and_eq_true_iff.mp (Bool.and_eq_true_iff.mp (Bool.and_eq_true_iff.mp (Bool.and_eq_true_iff.mp (Bool.and_eq_true_iff.mp xq).1).1).1).1).1).1).1).1).1).1).1).1).1).1).1).1).1).1).1).1).1).1).1).1).1).1).1).1).1).1).1).1).1).1).1).1).1).1).1).1).1).1).1).1).1).1).1).1).1).1).1).1).1).1).1).1).2) fun _ h => of_decide_eq_true h,
    fun n hn => of_decide_eq_true (List.all_eq_true.mp ((Bool.and_eq_true_iff.mp (Bool.and_eq_true_iff.mp (Bool.and_eq_true_iff.mp (Bool.and_eq_true_iff.mp (Bool.and_eq_true_iff.mp (Bool.and_eq_true_iff.mp (Bool.and_eq_true_iff.mp (Bool.and_eq_true_iff.mp (Bool.and_eq_true_iff.mp (Bool.and_eq_true_iff.mp (Bool.and_eq_true_iff.mp (Bool.and_eq_true_iff.mp (Bool.and_eq_true_iff.mp (Bool.and_eq_true_iff.mp (Bool.and_eq_true_iff.mp (Bool.and_eq_true_iff.mp (Bool.and_eq_true_iff.mp (Bool.and_eq_true_iff.mp (Bool.and_eq_true_iff.mp (Bool.and_eq_true_iff.mp (Bool.and_eq_true_iff.mp (Bool.and_eq_true_iff.mp (Bool.and_eq_true_iff.mp (Bool.and_eq_true_iff.mp (Bool.and_eq_true_iff.mp (Bool.and_eq_true_iff.mp (Bool.and_eq_true_iff.mp (Bool.and_eq_true_iff.mp (Bool.and_eq_true_iff.mp (Bool.and_eq_true_iff.mp (Bool.and_eq_true_iff.mp (Bool.and_eq_true_iff.mp (Bool.and_eq_true_iff.mp (Bool.and_eq_true_iff.mp (Bool.and_eq_true_iff.mp (Bool.and_eq_true_iff.mp (Bool.and_eq_true_iff.mp (Bool.and_eq_true_iff.mp (Bool.and_eq_true_iff.mp (Bool.and_eq_true_iff.mp (Bool.and_eq_true_iff.mp (Bool.and_eq_true_iff.mp (Bool.and_eq_true_iff.mp (Bool.and_eq_true_iff.mp (Bool.and_eq_true_iff.mp (Bool.and_eq_true_iff.mp (Bool.and_eq_true_iff.mp (Bool.and_eq_true_iff.mp (Bool.and_eq_true_iff.mp (Bool.and_eq_true_iff.mp (Bool.and_eq_true_iff.mp (Bool.and_eq_true_iff.mp (Bool.and_eq_true_iff.mp (Bool.and_eq_true_iff.mp (Bool.and_eq_true_iff.mp (Bool.and_eq_true_iff.mp xq).1).1).1).1).1).1).1).1).1).1).1).1).1).1).1).1).1).1).1).1).1).1).1).1).1).1).1).1).1).1).1).1).1).1).1).1).1).1).1).1).1).1).1).1).1).1).1).1).1).1).1).1).1).1).1).2) n hn),
    allB_ok ((Bool.and_eq_true_iff.mp (Bool.and_eq_true_iff.mp (Bool.and_eq_true_iff.mp (Bool.and_eq_true_iff.mp (Bool.and_eq_true_iff.mp (Bool.and_eq_true_iff.mp (Bool.and_eq_true_iff.mp (Bool.and_eq_true_iff.mp (Bool.and_eq_true_iff.mp (Bool.and_eq_true_iff.mp (Bool.and_eq_true_iff.mp (Bool.and_eq_true_iff.mp (Bool.and_eq_true_iff.mp (Bool.and_eq_true_iff.mp (Bool.and_eq_true_iff.mp (Bool.and_eq_true_iff.mp (Bool.and_eq_true_iff.mp (Bool.and_eq_true_iff.mp (Bool.and_eq_true_iff.mp (Bool.and_eq_true_iff.mp (Bool.and_eq_true_iff.mp (Bool.and_eq_true_iff.mp (Bool.and_eq_true_iff.mp (Bool.and_eq_true_iff.mp (Bool.and_eq_true_iff.mp (Bool.and_eq_true_iff.mp (Bool.and_eq_true_iff.mp (Bool.and_eq_true_iff.mp (Bool.and_eq_true_iff.mp (Bool.and_eq_true_iff.mp (Bool.and_eq_true_iff.mp (Bool.and_eq_true_iff.mp (Bool.and_eq_true_iff.mp (Bool.and_eq_true_iff.mp (Bool.and_eq_true_iff.mp (Bool.and_eq_true_iff.mp (Bool.and_eq_true_iff.mp (Bool.and_eq_true_iff.mp (Bool.and_eq_true_iff.mp (Bool.and_eq_true_iff.mp (Bool.and_eq_true_iff.mp (Bool.and_eq_true_iff.mp (Bool.and_eq_true_iff.mp (Bool.and_eq_true_iff.mp (Bool.and_eq_true_iff.mp (Bool.and_eq_true_iff.mp (Bool.and_eq_true_iff.mp (Bool.and_eq_true_iff.mp (Bool.and_eq_true_iff.mp (Bool.and_eq_true_iff.mp (Bool.and_eq_true_iff.mp (Bool.and_eq_true_iff.mp (Bool.and_eq_true_iff.mp (Bool.and_eq_true_iff.mp (Bool.and_eq_true_iff.mp xq).1).1).1).1).1).1).1).1).1).1).1).1).1).1).1).1).1).1).1).1).1).1).1).1).1).1).1).1).1).1).1).1).1).1).1).1).1).1).1).1).1).1).1).1).1).1).1).1).1).1).1).1).1).1).2) fun _ h => of_decide_eq_true h,
    fun n hn => of_decide_eq_true (List.all_eq_true.mp ((Bool.and_eq_true_iff.mp (Bool.and_eq_true_iff.mp (Bool.and_eq_true_iff.mp (Bool.and_eq_true_iff.mp (Bool.and_eq_true_iff.mp (Bool.and_eq_true_iff.mp (Bool.and_eq_true_iff.mp (Bool.and_eq_true_iff.mp (Bool.and_eq_true_iff.mp (Bool.and_eq_true_iff.mp (Bool.and_eq_true_iff.mp (Bool.and_eq_true_iff.mp (Bool.and_eq_true_iff.mp (Bool.and_eq_true_iff.mp (Bool.and_eq_true_iff.mp (Bool.and_eq_true_iff.mp (Bool.and_eq_true_iff.mp (Bool.and_eq_true_iff.mp (Bool.and_eq_true_iff.mp (Bool.and_eq_true_iff.mp (Bool.and_eq_true_iff.mp (Bool.and_eq_true_iff.mp (Bool.and_eq_true_iff.mp (Bool.and_eq_true_iff.mp (Bool.and_eq_true_iff.mp (Bool.and_eq_true_iff.mp (Bool.and_eq_true_iff.mp (Bool.and_eq_true_iff.mp (Bool.and_eq_true_iff.mp (Bool.and_eq_true_iff.mp (Bool.and_eq_true_iff.mp (Bool.and_eq_true_iff.mp (Bool.and_eq_true_iff.mp (Bool.and_eq_true_iff.mp (Bool.and_eq_true_iff.mp (Bool.and_eq_true_iff.mp (Bool.and_eq_true_iff.mp (Bool.and_eq_true_iff.mp (Bool.and_eq_true_iff.mp (Bool.and_eq_true_iff.mp (Bool.and_eq_true_iff.mp (Bool.and_eq_true_iff.mp (Bool.and_eq_true_iff.mp (Bool.and_eq_true_iff.mp (Bool.and_eq_true_iff.mp (Bool.and_eq_true_iff.mp (Bool.and_eq_true_iff.mp (Bool.and_eq_true_iff.mp (Bool.and_eq_true_iff.mp (Bool.and_eq_true_iff.mp (Bool.and_eq_true_iff.mp (Bool.and_eq_true_iff.mp (Bool.and_eq_true_iff.mp (Bool.and_eq_true_iff.mp xq).1).1).1).1).1).1).1).1).1).1).1).1).1).1).1).1).1).1).1).1).1).1).1).1).1).1).1).1).1).1).1).1).1).1).1).1).1).1).1).1).1).1).1).1).1).1).1).1).1).1).1).1).1).2) n hn),
    allB_ok ((Bool.and_eq_true_iff.mp (Bool.and_eq_true_iff.mp (Bool.and_eq_true_iff.mp (Bool.and_eq_true_iff.mp (Bool.and_eq_true_iff.mp (Bool.and_eq_true_iff.mp (Bool.and_eq_true_iff.mp (Bool.and_eq_true_iff.mp (Bool.and_eq_true_iff.mp (Bool.and_eq_true_iff.mp (Bool.and_eq_true_iff.mp (Bool.and_eq_true_iff.mp (Bool.and_eq_true_iff.mp (Bool.and_eq_true_iff.mp (Bool.and_eq_true_iff.mp (Bool.and_eq_true_iff.mp (Bool.and_eq_true_iff.mp (Bool.and_eq_true_iff.mp (Bool.and_eq_true_iff.mp (Bool.and_eq_true_iff.mp (Bool.and_eq_true_iff.mp (Bool.and_eq_true_iff.mp (Bool.and_eq_true_iff.mp (Bool.and_eq_true_iff.mp (Bool.and_eq_true_iff.mp (Bool.and_eq_true_iff.mp (Bool.and_eq_true_iff.mp (Bool.and_eq_true_iff.mp (Bool.and_eq_true_iff.mp (Bool.and_eq_true_iff.mp (Bool.and_eq_true_iff.mp (Bool.and_eq_true_iff.mp (Bool.and_eq_true_iff.mp (Bool.and_eq_true_iff.mp (Bool.and_eq_true_iff.mp (Bool.and_eq_true_iff.mp (Bool.and_eq_true_iff.mp (Bool.and_eq_true_iff.mp (Bool.and_eq_true_iff.mp (Bool.and_eq_true_iff.mp (Bool.and_eq_true_iff.mp (Bool.and_eq_true_iff.mp (Bool.and_eq_true_iff.mp (Bool.and_eq_true_iff.mp (Bool.and_eq_true_iff.mp (Bool.and_eq_true_iff.mp (Bool.and_eq_true_iff.mp (Bool.and_eq_true_iff.mp (Bool.and_eq_true_iff.mp (Bool.and_eq_true_iff.mp (Bool.and_eq_true_iff.mp (Bool.and_eq_true_iff.mp (Bool.and_eq_true_iff.mp xq).1).1).1).1).1).1).1).1).1).1).1).1).1).1).1).1).1).1).1).1).1).1).1).1).1).1).1).1).1).1).1).1).1).1).1).1).1).1).1).1).1).1).1).1).1).1).1).1).1).1).1).1).2) fun _ h => of_decide_eq_true h,
    fun n hn => of_decide_eq_true (List.all_eq_true.mp ((Bool.and_eq_true_iff.mp (Bool.and_eq_true_iff.mp (Bool.and_eq_true_iff.mp (Bool.and_eq_true_iff.mp (Bool.and_eq_true_iff.mp (Bool.and_eq_true_iff.mp (Bool.and_eq_true_iff.mp (Bool.and_eq_true_iff.mp (Bool.and_eq_true_iff.mp (Bool.and_eq_true_iff.mp (Bool.and_eq_true_iff.mp (Bool.and_eq_true_iff.mp (Bool.and_eq_true_iff.mp (Bool.and_eq_true_iff.mp (Bool.and_eq_true_iff.mp (Bool.and_eq_true_iff.mp (Bool.and_eq_true_iff.mp (Bool.and_eq_true_iff.mp (Bool.and_eq_true_iff.mp (Bool.and_eq_true_iff.mp (Bool.and_eq_true_iff.mp (Bool.and_eq_true_iff.mp (Bool.and_eq_true_iff.mp (Bool.and_eq_true_iff.mp (Bool.and_eq_true_iff.mp (Bool.and_eq_true_iff.mp (Bool.and_eq_true_iff.mp (Bool.and_eq_true_iff.mp (Bool.and_eq_true_iff.mp (Bool.and_eq_true_iff.mp (Bool.and_eq_true_iff.mp (Bool.and_eq_true_iff.mp (Bool.and_eq_true_iff.mp (Bool.and_eq_true_iff.mp (Bool.and_eq_true_iff.mp (Bool.and_eq_true_iff.mp (Bool.and_eq_true_iff.mp (Bool.and_eq_true_iff.mp (Bool.and_eq_true_iff.mp (Bool.and_eq_true_iff.mp (Bool.and_eq_true_iff.mp (Bool.and_eq_true_iff.mp (Bool.and_eq_true_iff.mp (Bool.and_eq_true_iff.mp (Bool.and_eq_true_iff.mp (Bool.and_eq_true_iff.mp (Bool.and_eq_true_iff.mp (Bool.and_eq_true_iff.mp (Bool.and_eq_true_iff.mp (Bool.and_eq_true_iff.mp (Bool.and_eq_true_iff.mp (Bool.and_eq_true_iff.mp xq).1).1).1).1).1).1).1).1).1).1).1).1).1).1).1).1).1).1).1).1).1).1).1).1).1).1).1).1).1).1).1).1).1).1).1).1).1).1).1).1).1).1).1).1).1).1).1).1).1).1).1).2) n hn),
    allB_ok ((Bool.and_eq_true_iff.mp (Bool.and_eq_true_iff.mp (Bool.and_eq_true_iff.mp (Bool.and_eq_true_iff.mp (Bool.and_eq_true_iff.mp (Bool.and_eq_true_iff.mp (Bool.and_eq_true_iff.mp (Bool.and_eq_true_iff.mp (Bool.and_eq_true_iff.mp (Bool.and_eq_true_iff.mp (Bool.and_eq_true_iff.mp (Bool.and_eq_true_iff.mp (Bool.and_eq_true_iff.mp (Bool.and_eq_true_iff.mp (Bool.and_eq_true_iff.mp (Bool.and_eq_true_iff.mp (Bool.and_eq_true_iff.mp (Bool.and_eq_true_iff.mp (Bool.and_eq_true_iff.mp (Bool.and_eq_true_iff.mp (Bool.and_eq_true_iff.mp (Bool.and_eq_true_iff.mp (Bool.and_eq_true_iff.mp (Bool.and_eq_true_iff.mp (Bool.and_eq_true_iff.mp (Bool.and_eq_true_iff.mp (Bool.and_eq_true_iff.mp (Bool.and_eq_true_iff.mp (Bool.and_eq_true_iff.mp (Bool.and_eq_true_iff.mp (Bool.and_eq_true_iff.mp (Bool.and_eq_true_iff.mp (Bool.and_eq_true_iff.mp (Bool.and_eq_true_iff.mp (Bool.and_eq_true_iff.mp (Bool.and_eq_true_iff.mp (Bool.and_eq_true_iff.mp (Bool.and_eq_true_iff.mp (Bool.and_eq_true_iff.mp (Bool.and_eq_true_iff.mp (Bool.and_eq_true_iff.mp (Bool.and_eq_true_iff.mp (Bool.and_eq_true_iff.mp (Bool.and_eq_true_iff.mp (Bool.and_eq_true_iff.mp (Bool.and_eq_true_iff.mp (Bool.and_eq_true_iff.mp (Bool.and_eq_true_iff.mp (Bool.and_eq_true_iff.mp (Bool.and_eq_true_iff.mp (Bool.and_eq_true_iff.mp xq).1).1).1).1).1).1).1).1).1).1).1).1).1).1).1).1).1).1).1).1).1).1).1).1).1).1).1).1).1).1).1).1).1).1).1).1).1).1).1).1).1).1).1).1).1).1).1).1).1).1).2) fun _ h => of_decide_eq_true h,
    fun n hn => of_decide_eq_true (List.all_eq_true.mp ((Bool.and_eq_true_iff.mp (Bool.and_eq_true_iff.mp (Bool.and_eq_true_iff.mp (Bool.and_eq_true_iff.mp (Bool.and_eq_true_iff.mp (Bool.and_eq_true_iff.mp (Bool.and_eq_true_iff.mp (Bool.and_eq_true_iff.mp (Bool.and_eq_true_iff.mp (Bool.and_eq_true_iff.mp (Bool.and_eq_true_iff.mp (Bool.and_eq_true_iff.mp (Bool.and_eq_true_iff.mp (Bool.and_eq_true_iff.mp (Bool.and_eq_true_iff.mp (Bool.and_eq_true_iff.mp (Bool.and_eq_true_iff.mp (Bool.and_eq_true_iff.mp (Bool.and_eq_true_iff.mp (Bool.and_eq_true_iff.mp (Bool.and_eq_true_iff.mp (Bool.and_eq_true_iff.mp (Bool.and_eq_true_iff.mp (Bool.and_eq_true_iff.mp (Bool.and_eq_true_iff.mp (Bool.and_eq_true_iff.mp (Bool.and_eq_true_iff.mp (Bool.and_eq_true_iff.mp (Bool.and_eq_true_iff.mp (Bool.and_eq_true_iff.mp (Bool.and_eq_true_iff.mp (Bool.and_eq_true_iff.mp (Bool.and_eq_true_iff.mp (Bool.and_eq_true_iff.mp (Bool.and_eq_true_iff.mp (Bool.and_eq_true_iff.mp (Bool.and_eq_true_iff.mp (Bool.and_eq_true_iff.mp (Bool.and_eq_true_iff.mp (Bool.and_eq_true_iff.mp (Bool.and_eq_true_iff.mp (Bool.and_eq_true_iff.mp (Bool.and_eq_true_iff.mp (Bool.and_eq_true_iff.mp (Bool.and_eq_true_iff.mp (Bool.and_eq_true_iff.mp (Bool.and_eq_true_iff.mp (Bool.and_eq_true_iff.mp (Bool.and_eq_true_iff.mp (Bool.and_eq_true_iff.mp xq).1).1).1).1).1).1).1).1).1).1).1).1).1).1).1).1).1).1).1).1).1).1).1).1).1).1).1).1).1).1).1).1).1).1).1).1).1).1).1).1).1).1).1).1).1).1).1).1).1).2) n hn),
    allB_ok ((Bool.and_eq_true_iff.mp (Bool.and_eq_true_iff.mp (Bool.and_eq_true_iff.mp (Bool.and_eq_true_iff.mp (Bool.and_eq_true_iff.mp (Bool.and_eq_true_iff.mp (Bool.and_eq_true_iff.mp (Bool.and_eq_true_iff.mp (Bool.and_eq_true_iff.mp (Bool.and_eq_true_iff.mp (Bool.and_eq_true_iff.mp (Bool.and_eq_true_iff.mp (Bool.and_eq_true_iff.mp (Bool.and_eq_true_iff.mp (Bool.and_eq_true_iff.mp (Bool.and_eq_true_iff.mp (Bool.and_eq_true_iff.mp (Bool.and_eq_true_iff.mp (Bool.and_eq_true_iff.mp (Bool.and_eq_true_iff.mp (Bool.and_eq_true_iff.mp (Bool.and_eq_true_iff.mp (Bool.and_eq_true_iff.mp (Bool.and_eq_true_iff.mp (Bool.and_eq_true_iff.mp (Bool.and_eq_true_iff.mp (Bool.and_eq_true_iff.mp (Bool.and_eq_true_iff.mp (Bool.and_eq_true_iff.mp (Bool.and_eq_true_iff.mp (Bool.and_eq_true_iff.mp (Bool.and_eq_true_iff.mp (Bool.and_eq_true_iff.mp (Bool.and_eq_true_iff.mp (Bool.and_eq_true_iff.mp (Bool.and_eq_true_iff.mp (Bool.and_eq_true_iff.mp (Bool.and_eq_true_iff.mp (Bool.and_eq_true_iff.mp (Bool.and_eq_true_iff.mp (Bool.and_eq_true_iff.mp (Bool.and_eq_true_iff.mp (Bool.and_eq_true_iff.mp (Bool.and_eq_true_iff.mp (Bool.and_eq_true_iff.mp (Bool.and_eq_true_iff.mp (Bool.and_eq_true_iff.mp (Bool.and_eq_true_iff.mp (Bool.and_eq_true_iff.mp xq).1).1).1).1).1).1).1).1).1).1).1).1).1).1).1).1).1).1).1).1).1).1).1).1).1).1).1).1).1).1).1).1).1).1).1).1).1).1).1).1).1).1).1).1).1).1).1).1).2) fun _ h => of_decide_eq_true h,
    fun n hn => of_decide_eq_true (List.all_eq_true.mp ((Bool.and_eq_true_iff.mp (Bool.and_eq_true_iff.mp (Bool.and_eq_true_iff.mp (Bool.and_eq_true_iff.mp (Bool.and_eq_true_iff.mp (Bool.and_eq_true_iff.mp (Bool.and_eq_true_iff.mp (Bool.and_eq_true_iff.mp (Bool.and_eq_true_iff.mp (Bool.and_eq_true_iff.mp (Bool.and_eq_true_iff.mp (Bool.and_eq_true_iff.mp (Bool.and_eq_true_iff.mp (Bool.and_eq_true_iff.mp (Bool.and_eq_true_iff.mp (Bool.and_eq_true_iff.mp (Bool.and_eq_true_iff.mp (Bool.and_eq_true_iff.mp (Bool.and_eq_true_iff.mp (Bool.and_eq_true_iff.mp (Bool.and_eq_true_iff.mp (Bool.and_eq_true_iff.mp (Bool.and_eq_true_iff.mp (Bool.and_eq_true_iff.mp (Bool.and_eq_true_iff.mp (Bool.and_eq_true_iff.mp (Bool.and_eq_true_iff.mp (Bool.and_eq_true_iff.mp (Bool.and_eq_true_iff.mp (Bool.and_eq_true_iff.mp (Bool.and_eq_true_iff.mp (Bool.and_eq_true_iff.mp (Bool.and_eq_true_iff.mp (Bool.and_eq_true_iff.mp (Bool.and_eq_true_iff.mp (Bool.and_eq_true_iff.mp (Bool.and_eq_true_iff.mp (Bool.and_eq_true_iff.mp (Bool.and_eq_true_iff.mp (Bool.and_eq_true_iff.mp (Bool.and_eq_true_iff.mp (Bool.and_eq_true_iff.mp (Bool.and_eq_true_iff.mp (Bool.and_eq_true_iff.mp (Bool.and_eq_true_iff.mp (Bool.and_eq_true_iff.mp (Bool.and_eq_true_iff.mp (Bool.and_eq_true_iff.mp xq).1).1).1).1).1).1).1).1).1).1).1).1).1).1).1).1).1).1).1).1).1).1).1).1).1).1).1).1).1).1).1).1).1).1).1).1).1).1).1).1).1).1).1).1).1).1).1).2) n hn),
    allB_ok ((Bool.and_eq_true_iff.mp (Bool.and_eq_true_iff.mp (Bool.and_eq_true_iff.mp (Bool.and_eq_true_iff.mp (Bool.and_eq_true_iff.mp (Bool.and_eq_true_iff.mp (Bool.and_eq_true_iff.mp (Bool.and_eq_true_iff.mp (Bool.and_eq_true_iff.mp (Bool.and_eq_true_iff.mp (Bool.and_eq_true_iff.mp (Bool.and_eq_true_iff.mp (Bool.and_eq_true_iff.mp (Bool.and_eq_true_iff.mp (Bool.and_eq_true_iff.mp (Bool.and_eq_true_iff.mp (Bool.and_eq_true_iff.mp (Bool.and_eq_true_iff.mp (Bool.and_eq_true_iff.mp (Bool.and_eq_true_iff.mp (Bool.and_eq_true_iff.mp (Bool.and_eq_true_iff.mp (Bool.and_eq_true_iff.mp (Bool.and_eq_true_iff.mp (Bool.and_eq_true_iff.mp (Bool.and_eq_true_iff.mp (Bool.and_eq_true_iff.mp (Bool.and_eq_true_iff.mp (Bool.and_eq_true_iff.mp (Bool.and_eq_true_iff.mp (Bool.and_eq_true_iff.mp (Bool.and_eq_true_iff.mp (Bool.and_eq_true_iff.mp (Bool.and_eq_true_iff.mp (Bool.and_eq_true_iff.mp (Bool.and_eq_true_iff.mp (Bool.and_eq_true_iff.mp (Bool.and_eq_true_iff.mp (Bool.and_eq_true_iff.mp (Bool.and_eq_true_iff.mp (Bool.and_eq_true_iff.mp (Bool.and_eq_true_iff.mp (Bool.and_eq_true_iff.mp (Bool.and_eq_true_iff.mp (Bool.and_eq_true_iff.mp (Bool.and_eq_true_iff.mp (Bool.and_eq_true_iff.mp xq).1).1).1).1).1).1).1).1).1).1).1).1).1).1).1).1).1).1).1).1).1).1).1).1).1).1).1).1).1).1).1).1).1).1).1).1).1).1).1).1).1).1).1).1).1).1).2) fun _ h => of_decide_eq_true h,
    fun n hn => of_decide_eq_true (List.all_eq_true.mp ((Bool.and_eq_true_iff.mp (Bool.and_eq_true_iff.mp (Bool.and_eq_true_iff.mp (Bool.and_eq_true_iff.mp (Bool.and_eq_true_iff.mp (Bool.and_eq_true_iff.mp (Bool.and_eq_true_iff.mp (Bool.and_eq_true_iff.mp (Bool.and_eq_true_iff.mp (Bool.and_eq_true_iff.mp (Bool.and_eq_true_iff.mp (Bool.and_eq_true_iff.mp (Bool.and_eq_true_iff.mp (Bool.and_eq_true_iff.mp (Bool.and_eq_true_iff.mp (Bool.and_eq_true_iff.mp (Bool.and_eq_true_iff.mp (Bool.and_eq_true_iff.mp (Bool.and_eq_true_iff.mp (Bool.and_eq_true_iff.mp (Bool.and_eq_true_iff.mp (Bool.and_eq_true_iff.mp (Bool.and_eq_true_iff.mp (Bool.and_eq_true_iff.mp (Bool.and_eq_true_iff.mp (Bool.and_eq_true_iff.mp (Bool.and_eq_true_iff.mp (Bool.and_eq_true_iff.mp (Bool.and_eq_true_iff.mp (Bool.and_eq_true_iff.mp (Bool.and_eq_true_iff.mp (Bool.and_eq_true_iff.mp (Bool.and_eq_true_iff.mp (Bool.and_eq_true_iff.mp (Bool.and_eq_true_iff.mp (Bool.and_eq_true_iff.mp (Bool.and_eq_true_iff.mp (Bool.and_eq_true_iff.mp (Bool.and_eq_true_iff.mp (Bool.and_eq_true_iff.mp (Bool.and_eq_true_iff.mp (Bool.and_eq_true_iff.mp (Bool.and_eq_true_iff.mp (Bool.and_eq_true_iff.mp (Bool.and_eq_true_iff.mp (Bool.and_eq_true_iff.mp xq).1).1).1).1).1).1).1).1).1).1).1).1).1).1).1).1).1).1).1).1).1).1).1).1).1).1).1).1).1).1).1).1).1).1).1).1).1).1).1).1).1).1).1).1).1).2) n hn),
    allB_ok ((Bool.and_eq_true_iff.mp (Bool.and_eq_true_iff.mp (Bool.and_eq_true_iff.mp (Bool.and_eq_true_iff.mp (Bool.and_eq_true_iff.mp (Bool.and_eq_true_iff.mp (Bool.and_eq_true_iff.mp (Bool.and_eq_true_iff.mp (Bool.and_eq_true_iff.mp (Bool.and_eq_true_iff.mp (Bool.and_eq_true_iff.mp (Bool.and_eq_true_iff.mp (Bool.and_eq_true_iff.mp (Bool.and_eq_true_iff.mp (Bool.and_eq_true_iff.mp (Bool.and_eq_true_iff.mp (Bool.and_eq_true_iff.mp (Bool.and_eq_true_iff.mp (Bool.and_eq_true_iff.mp (Bool.and_eq_true_iff.mp (Bool.and_eq_true_iff.mp (Bool.and_eq_true_iff.mp (Bool.and_eq_true_iff.mp (Bool.and_eq_true_iff.mp (Bool.and_eq_true_iff.mp (Bool.and_eq_true_iff.mp (Bool.and_eq_true_iff.mp (Bool.and_eq_true_iff.mp (Bool.and_eq_true_iff.mp (Bool.and_eq_true_iff.mp (Bool.and_eq_true_iff.mp (Bool.and_eq_true_iff.mp (Bool.and_eq_true_iff.mp (Bool.and_eq_true_iff.mp (Bool.and_eq_true_iff.mp (Bool.and_eq_true_iff.mp (Bool.and_eq_true_iff.mp (Bool.and_eq_true_iff.mp (Bool.and_eq_true_iff.mp (Bool.and_eq_true_iff.mp (Bool.and_eq_true_iff.mp (Bool.and_eq_true_iff.mp (Bool.and_eq_true_iff.mp (Bool.and_eq_true_iff.mp (Bool.and_eq_true_iff.mp xq).1).1).1).1).1).1).1).1).1).1).1).1).1).1).1).1).1).1).1).1).1).1).1).1).1).1).1).1).1).1).1).1).1).1).1).1).1).1).1).1).1).1).1).1).2) fun _ h => of_decide_eq_true h,
    fun n hn => of_decide_eq_true (List.all_eq_true.mp ((Bool.and_eq_true_iff.mp (Bool.and_eq_true_iff.mp (Bool.and_eq_true_iff.mp (Bool.and_eq_true_iff.mp (Bool.and_eq_true_iff.mp (Bool.and_eq_true_iff.mp (Bool.and_eq_true_iff.mp (Bool.and_eq_true_iff.mp (Bool.and_eq_true_iff.mp (Bool.and_eq_true_iff.mp (Bool.and_eq_true_iff.mp (Bool.and_eq_true_iff.mp (Bool.and_eq_true_iff.mp (Bool.and_eq_true_iff.mp (Bool.and_eq_true_iff.mp (Bool.and_eq_true_iff.mp (Bool.and_eq_true_iff.mp (Bool.and_eq_true_iff.mp (Bool.and_eq_true_iff.mp (Bool.and_eq_true_iff.mp (Bool.and_eq_true_iff.mp (Bool.and_eq_true_iff.mp (Bool.and_eq_true_iff.mp (Bool.and_eq_true_iff.mp (Bool.and_eq_true_iff.mp (Bool.and_eq_true_iff.mp (Bool.and_eq_true_iff.mp (Bool.and_eq_true_iff.mp (Bool.and_eq_true_iff.mp (Bool.and_eq_true_iff.mp (Bool.and_eq_true_iff.mp (Bool.and_eq_true_iff.mp (Bool.and_eq_true_iff.mp (Bool.and_eq_true_iff.mp (Bool.and_eq_true_iff.mp (Bool.and_eq_true_iff.mp (Bool.and_eq_true_iff.mp (Bool.and_eq_true_iff.mp (Bool.and_eq_true_iff.mp (Bool.and_eq_true_iff.mp (Bool.and_eq_true_iff.mp (Bool.and_eq_true_iff.mp (Bool.and_eq_true_iff.mp (Bool.and_eq_true_iff.mp xq).1).1).1).1).1).1).1).1).1).1).1).1).1).1).1).1).1).1).1).1).1).1).1).1).1).1).1).1).1).1).1).1).1).1).1).1).1).1).1).1).1).1).1).2) n hn),
    allB_ok ((Bool.and_eq_true_iff.mp (Bool.and_eq_true_iff.mp (Bool.and_eq_true_iff.mp (Bool.and_eq_true_iff.mp (Bool.and_eq_true_iff.mp (Bool.and_eq_true_iff.mp (Bool.and_eq_true_iff.mp (Bool.and_eq_true_iff.mp (Bool.and_eq_true_iff.mp (Bool.and_eq_true_iff.mp (Bool.and_eq_true_iff.mp (Bool.and_eq_true_iff.mp (Bool.and_eq_true_iff.mp (Bool.and_eq_true_iff.mp (Bool.and_eq_true_iff.mp (Bool.and_eq_true_iff.mp (Bool.and_eq_true_iff.mp (Bool.and_eq_true_iff.mp (Bool.and_eq_true_iff.mp (Bool.and_eq_true_iff.mp (Bool.and_eq_true_iff.mp (Bool.and_eq_true_iff.mp (Bool.and_eq_true_iff.mp (Bool.and_eq_true_iff.mp (Bool.and_eq_true_iff.mp (Bool.and_eq_true_iff.mp (Bool.and_eq_true_iff.mp (Bool.and_eq_true_iff.mp (Bool.and_eq_true_iff.mp (Bool.and_eq_true_iff.mp (Bool.and_eq_true_iff.mp (Bool.and_eq_true_iff.mp (Bool.and_eq_true_iff.mp (Bool.and_eq_true_iff.mp (Bool.and_eq_true_iff.mp (Bool.and_eq_true_iff.mp (Bool.and_eq_true_iff.mp (Bool.and_eq_true_iff.mp (Bool.and_eq_true_iff.mp (Bool.and_eq_true_iff.mp (Bool.and_eq_true_iff.mp (Bool.and_eq_true_iff.mp (Bool.and_eq_true_iff.mp xq).1).1).1).1).1).1).1).1).1).1).1).1).1).1).1).1).1).1).1).1).1).1).1).1).1).1).1).1).1).1).1).1).1).1).1).1).1).1).1).1).1).1).2) fun _ h => of_decide_eq_true h,
    fun n hn => of_decide_eq_true (List.all_eq_true.mp ((Bool.and_eq_true_iff.mp (Bool.and_eq_true_iff.mp (Bool.and_eq_true_iff.mp (Bool.and_eq_true_iff.mp (Bool.and_eq_true_iff.mp (Bool.and_eq_true_iff.mp (Bool.and_eq_true_iff.mp (Bool.and_eq_true_iff.mp (Bool.and_eq_true_iff.mp (Bool.and_eq_true_iff.mp (Bool.and_eq_true_iff.mp (Bool.and_eq_true_iff.mp (Bool.and_eq_true_iff.mp (Bool.and_eq_true_iff.mp (Bool.and_eq_true_iff.mp (Bool.and_eq_true_iff.mp (Bool.and_eq_true_iff.mp (Bool.and_eq_true_iff.mp (Bool.and_eq_true_iff.mp (Bool.and_eq_true_iff.mp (Bool.and_eq_true_iff.mp (Bool.and_eq_true_iff.mp (Bool.and_eq_true_iff.mp (Bool.and_eq_true_iff.mp (Bool.and_eq_true_iff.mp (Bool.and_eq_true_iff.mp (Bool.and_eq_true_iff.mp (Bool.and_eq_true_iff.mp (Bool.and_eq_true_iff.mp (Bool.and_eq_true_iff.mp (Bool.and_eq_true_iff.mp (Bool.and_eq_true_iff.mp (Bool.and_eq_true_iff.mp (Bool.and_eq_true_iff.mp (Bool.and_eq_true_iff.mp (Bool.and_eq_true_iff.mp (Bool.and_eq_true_iff.mp (Bool.and_eq_true_iff.mp (Bool.and_eq_true_iff.mp (Bool.and_eq_true_iff.mp (Bool.and_eq_true_iff.mp (Bool.and_eq_true_iff.mp xq).1).1).1).1).1).1).1).1).1).1).1).1).1).1).1).1).1).1).1).1).1).1).1).1).1).1).1).1).1).1).1).1).1).1).1).1).1).1).1).1).1).2) n hn),
    allB_ok ((Bool.and_eq_true_iff.mp (Bool.and_eq_true_iff.mp (Bool.and_eq_true_iff.mp (Bool.and_eq_true_iff.mp (Bool.and_eq_true_iff.mp (Bool.and_eq_true_iff.mp (Bool.and_eq_true_iff.mp (Bool.and_eq_true_iff.mp (Bool.and_eq_true_iff.mp (Bool.and_eq_true_iff.mp (Bool.and_eq_true_iff.mp (Bool.and_eq_true_iff.mp (Bool.and_eq_true_iff.mp (Bool.and_eq_true_iff.mp (Bool.and_eq_true_iff.mp (Bool.and_eq_true_iff.mp (Bool.and_eq_true_iff.mp (Bool.and_eq_true_iff.mp (Bool.and_eq_true_iff.mp (Bool.and_eq_true_iff.mp (Bool.and_eq_true_iff.mp (Bool.and_eq_true_iff.mp (Bool.and_eq_true_iff.mp (Bool.and_eq_true_iff.mp (Bool.and_eq_true_iff.mp (Bool.and_eq_true_iff.mp (Bool.and_eq_true_iff.mp (Bool.and_eq_true_iff.mp (Bool.and_eq_true_iff.mp (Bool.and_eq_true_iff.mp (Bool.and_eq_true_iff.mp (Bool.and_eq_true_iff.mp (Bool.and_eq_true_iff.mp (Bool.and_eq_true_iff.mp (Bool.and_eq_true_iff.mp (Bool.and_eq_true_iff.mp (Bool.and_eq_true_iff.mp (Bool.and_eq_true_iff.mp (Bool.and_eq_true_iff.mp (Bool.and_eq_true_iff.mp (Bool.and_eq_true_iff.mp xq).1).1).1).1).1).1).1).1).1).1).1).1).1).1).1).1).1).1).1).1).1).1).1).1).1).1).1).1).1).1).1).1).1).1).1).1).1).1).1).1).2) fun _ h => of_decide_eq_true h,
    fun n hn => of_decide_eq_true (List.all_eq_true.mp ((Bool.and_eq_true_iff.mp (Bool.and_eq_true_iff.mp (Bool.and_eq_true_iff.mp (Bool.and_eq_true_iff.mp (Bool.and_eq_true_iff.mp (Bool.and_eq_true_iff.mp (Bool.and_eq_true_iff.mp (Bool.and_eq_true_iff.mp (Bool.and_eq_true_iff.mp (Bool.and_eq_true_iff.mp (Bool.and_eq_true_iff.mp (Bool.and_eq_true_iff.mp (Bool.and_eq_true_iff.mp (Bool.and_eq_true_iff.mp (Bool.and_eq_true_iff.mp (Bool.and_eq_true_iff.mp (Bool.and_eq_true_iff.mp (Bool.and_eq_true_iff.mp (Bool.and_eq_true_iff.mp (Bool.and_eq_true_iff.mp (Bool.and_eq_true_iff.mp (Bool.and_eq_true_iff.mp (Bool.and_eq_true_iff.mp (Bool.and_eq_true_iff.mp (Bool.and_eq_true_iff.mp (Bool.and_eq_true_iff.mp (Bool.and_eq_true_iff.mp (Bool.and_eq_true_iff.mp (Bool.and_eq_true_iff.mp (Bool.and_eq_true_iff.mp (Bool.and_eq_true_iff.mp (Bool.and_eq_true_iff.mp (Bool.and_eq_true_iff.mp (Bool.and_eq_true_iff.mp (Bool.and_eq_true_iff.mp (Bool.and_eq_true_iff.mp (Bool.and_eq_true_iff.mp (Bool.and_eq_true_iff.mp (Bool.and_eq_true_iff.mp (Bool.and_eq_true_iff.mp xq).1).1).1).1).1).1).1).1).1).1).1).1).1).1).1).1).1).1).1).1).1).1).1).1).1).1).1).1).1).1).1).1).1).1).1).1).1).1).1).2) n hn),
    allB_ok ((Bool.and_eq_true_iff.mp (Bool.and_eq_true_iff.mp (Bool.and_eq_true_iff.mp (Bool.and_eq_true_iff.mp (Bool.and_eq_true_iff.mp (Bool.and_eq_true_iff.mp (Bool.and_eq_true_iff.mp (Bool.and_eq_true_iff.mp (Bool.and_eq_true_iff.mp (Bool.and_eq_true_iff.mp (Bool.and_eq_true_iff.mp (Bool.and_eq_true_iff.mp (Bool.and_eq_true_iff.mp (Bool.and_eq_true_iff.mp (Bool.and_eq_true_iff.mp (Bool.and_eq_true_iff.mp (Bool.and_eq_true_iff.mp (Bool.and_eq_true_iff.mp (Bool.and_eq_true_iff.mp (Bool.and_eq_true_iff.mp (Bool.and_eq_true_iff.mp (Bool.and_eq_true_iff.mp (Bool.and_eq_true_iff.mp (Bool.and_eq_true_iff.mp (Bool.and_eq_true_iff.mp (Bool.and_eq_true_iff.mp (Bool.and_eq_true_iff.mp (Bool.and_eq_true_iff.mp (Bool.and_eq_true_iff.mp (Bool.and_eq_true_iff.mp (Bool.and_eq_true_iff.mp (Bool.and_eq_true_iff.mp (Bool.and_eq_true_iff.mp (Bool.and_eq_true_iff.mp (Bool.and_eq_true_iff.mp (Bool.and_eq_true_iff.mp (Bool.and_eq_true_iff.mp (Bool.and_eq_true_iff.mp (Bool.and_eq_true_iff.mp xq).1).1).1).1).1).1).1).1).1).1).1).1).1).1).1).1).1).1).1).1).1).1).1).1).1).1).1).1).1).1).1).1).1).1).1).1).1).1).2) fun _ h => of_decide_eq_true h,
    fun n hn => of_decide_eq_true (List.all_eq_true.mp ((Bool.and_eq_true_iff.mp (Bool.and_eq_true_iff.mp (Bool.and_eq_true_iff.mp (Bool.and_eq_true_iff.mp (Bool.and_eq_true_iff.mp (Bool.and_eq_true_iff.mp (Bool.and_eq_true_iff.mp (Bool.and_eq_true_iff.mp (Bool.and_eq_true_iff.mp (Bool.and_eq_true_iff.mp (Bool.and_eq_true_iff.mp (Bool.and_eq_true_iff.mp (Bool.and_eq_true_iff.mp (Bool.and_eq_true_iff.mp (Bool.and_eq_true_iff.mp (Bool.and_eq_true_iff.mp (Bool.and_eq_true_iff.mp (Bool.and_eq_true_iff.mp (Bool.and_eq_true_iff.mp (Bool.and_eq_true_iff.mp (Bool.and_eq_true_iff.mp (Bool.and_eq_true_iff.mp (Bool.and_eq_true_iff.mp (Bool.and_eq_true_iff.mp (Bool.and_eq_true_iff.mp (Bool.and_eq_true_iff.mp (Bool.and_eq_true_iff.mp (Bool.and_eq_true_iff.mp (Bool.and_eq_true_iff.mp (Bool.and_eq_true_iff.mp (Bool.and_eq_true_iff.mp (Bool.and_eq_true_iff.mp (Bool.and_eq_true_iff.mp (Bool.and_eq_true_iff.mp (Bool.and_eq_true_iff.mp (Bool.and_eq_true_iff.mp (Bool.and_eq_true_iff.mp (Bool.and_eq_true_iff.mp xq).1).1).1).1).1).1).1).1).1).1).1).1).1).1).1).1).1).1).1).1).1).1).1).1).1).1).1).1).1).1).1).1).1).1).1).1).1).2) n hn),
    allB_ok ((Bool.and_eq_true_iff.mp (Bool.and_eq_true_iff.mp (Bool.and_eq_true_iff.mp (Bool.and_eq_true_iff.mp (Bool.and_eq_true_iff.mp (Bool.and_eq_true_iff.mp (Bool.and_eq_true_iff.mp (Bool.and_eq_true_iff.mp (Bool.and_eq_true_iff.mp (Bool.and_eq_true_iff.mp (Bool.and_eq_true_iff.mp (Bool.and_eq_true_iff.mp (Bool.and_eq_true_iff.mp (Bool.and_eq_true_iff.mp (Bool.and_eq_true_iff.mp (Bool.and_eq_true_iff.mp (Bool.and_eq_true_iff.mp (Bool.and_eq_true_iff.mp (Bool.and_eq_true_iff.mp (Bool.and_eq_true_iff.mp (Bool.and_eq_true_iff.mp (Bool.and_eq_true_iff.mp (Bool.and_eq_true_iff.mp (Bool.and_eq_true_iff.mp (Bool.and_eq_true_iff.mp (Bool.and_eq_true_iff.mp (Bool.and_eq_true_iff.mp (Bool.and_eq_true_iff.mp (Bool.and_eq_true_iff.mp (Bool.and_eq_true_iff.mp (Bool.and_eq_true_iff.mp (Bool.and_eq_true_iff.mp (Bool.and_eq_true_iff.mp (Bool.and_eq_true_iff.mp (Bool.and_eq_true_iff.mp (Bool.and_eq_true_iff.mp (Bool.and_eq_true_iff.mp xq).1).1).1).1).1).1).1).1).1).1).1).1).1).1).1).1).1).1).1).1).1).1).1).1).1).1).1).1).1).1).1).1).1).1).1).1).2) fun _ h => of_decide_eq_true h,
    fun n hn => of_decide_eq_true (List.all_eq_true.mp ((Bool.and_eq_true_iff.mp (Bool.and_eq_true_iff.mp (Bool.and_eq_true_iff.mp (Bool.and_eq_true_iff.mp (Bool.and_eq_true_iff.mp (Bool.and_eq_true_iff.mp (Bool.and_eq_true_iff.mp (Bool.and_eq_true_iff.mp (Bool.and_eq_true_iff.mp (Bool.and_eq_true_iff.mp (Bool.and_eq_true_iff.mp (Bool.and_eq_true_iff.mp (Bool.and_eq_true_iff.mp (Bool.and_eq_true_iff.mp (Bool.and_eq_true_iff.mp (Bool.and_eq_true_iff.mp (Bool.and_eq_true_iff.mp (Bool.and_eq_true_iff.mp (Bool.and_eq_true_iff.mp (Bool.and_eq_true_iff.mp (Bool.and_eq_true_iff.mp (Bool.and_eq_true_iff.mp (Bool.and_eq_true_iff.mp (Bool.and_eq_true_iff.mp (Bool.and_eq_true_iff.mp (Bool.and_eq_true_iff.mp (Bool.and_eq_true_iff.mp (Bool.and_eq_true_iff.mp (Bool.and_eq_true_iff.mp (Bool.and_eq_true_iff.mp (Bool.and_eq_true_iff.mp (Bool.and_eq_true_iff.mp (Bool.and_eq_true_iff.mp (Bool.and_eq_true_iff.mp (Bool.and_eq_true_iff.mp (Bool.and_eq_true_iff.mp xq).1).1).1).1).1).1).1).1).1).1).1).1).1).1).1).1).1).1).1).1).1).1).1).1).1).1).1).1).1).1).1).1).1).1).1).2) n hn),
    allB_ok ((Bool.and_eq_true_iff.mp (Bool.and_eq_true_iff.mp (Bool.and_eq_true_iff.mp (Bool.and_eq_true_iff.mp (Bool.and_eq_true_iff.mp (Bool.and_eq_true_iff.mp (Bool.and_eq_true_iff.mp (Bool.and_eq_true_iff.mp (Bool.and_eq_true_iff.mp (Bool.and_eq_true_iff.mp (Bool.and_eq_true_iff.mp (Bool.and_eq_true_iff.mp (Bool.and_eq_true_iff.mp (Bool.and_eq_true_iff.mp (Bool.and_eq_true_iff.mp (Bool.and_eq_true_iff.mp (Bool.and_eq_true_iff.mp (Bool.and_eq_true_iff.mp (Bool.and_eq_true_iff.mp (Bool.and_eq_true_iff.mp (Bool.and_eq_true_iff.mp (Bool.and_eq_true_iff.mp (Bool.and_eq_true_iff.mp (Bool.and_eq_true_iff.mp (Bool.and_eq_true_iff.mp (Bool.and_eq_true_iff.mp (Bool.and_eq_true_iff.mp (Bool.and_eq_true_iff.mp (Bool.and_eq_true_iff.mp (Bool.and_eq_true_iff.mp (Bool.and_eq_true_iff.mp (Bool.and_eq_true_iff.mp (Bool.and_eq_true_iff.mp (Bool.and_eq_true_iff.mp (Bool.and_eq_true_iff.mp xq).1).1).1).1).1).1).1).1).1).1).1).1).1).1).1).1).1).1).1).1).1).1).1).1).1).1).1).1).1).1).1).1).1).1).2) fun _ h => of_decide_eq_true h,
    fun n hn => of_decide_eq_true (List.all_eq_true.mp ((Bool.and_eq_true_iff.mp (Bool.and_eq_true_iff.mp (Bool.and_eq_true_iff.mp (Bool.and_eq_true_iff.mp (Bool.and_eq_true_iff.mp (Bool.and_eq_true_iff.mp (Bool.and_eq_true_iff.mp (Bool.and_eq_true_iff.mp (Bool.and_eq_true_iff.mp (Bool.and_eq_true_iff.mp (Bool.and_eq_true_iff.mp (Bool.and_eq_true_iff.mp (Bool.and_eq_true_iff.mp (Bool.and_eq_true_iff.mp (Bool.and_eq_true_iff.mp (Bool.and_eq_true_iff.mp (Bool.and_eq_true_iff.mp (Bool.and_eq_true_iff.mp (Bool.and_eq_true_iff.mp (Bool.and_eq_true_iff.mp (Bool.and_eq_true_iff.mp (Bool.and_eq_true_iff.mp (Bool.and_eq_true_iff.mp (Bool.and_eq_true_iff.mp (Bool.and_eq_true_iff.mp (Bool.and_eq_true_iff.mp (Bool.and_eq_true_iff.mp (Bool.and_eq_true_iff.mp (Bool.and_eq_true_iff.mp (Bool.and_eq_true_iff.mp (Bool.and_eq_true_iff.mp (Bool.and_eq_true_iff.mp (Bool.and_eq_true_iff.mp (Bool.and_eq_true_iff.mp xq).1).1).1).1).1).1).1).1).1).1).1).1).1).1).1).1).1).1).1).1).1).1).1).1).1).1).1).1).1).1).1).1).1).2) n hn),
    allB_ok ((Bool.and_eq_true_iff.mp (Bool.and_eq_true_iff.mp (Bool.and_eq_true_iff.mp (Bool.and_eq_true_iff.mp (Bool.and_eq_true_iff.mp (Bool.and_eq_true_iff.mp (Bool.and_eq_true_iff.mp (Bool.and_eq_true_iff.mp (Bool.and_eq_true_iff.mp (Bool.and_eq_true_iff.mp (Bool.and_eq_true_iff.mp (Bool.and_eq_true_iff.mp (Bool.and_eq_true_iff.mp (Bool.and_eq_true_iff.mp (Bool.and_eq_true_iff.mp (Bool.and_eq_true_iff.mp (Bool.and_eq_true_iff.mp (Bool.and_eq_true_iff.mp (Bool.and_eq_true_iff.mp (Bool.and_eq_true_iff.mp (Bool.and_eq_true_iff.mp (Bool.and_eq_true_iff.mp (Bool.and_eq_true_iff.mp (Bool.and_eq_true_iff.mp (Bool.and_eq_true_iff.mp (Bool.and_eq_true_iff.mp (Bool.and_eq_true_iff.mp (Bool.and_eq_true_iff.mp (Bool.and_eq_true_iff.mp (Bool.and_eq_true_iff.mp (Bool.and_eq_true_iff.mp (Bool.and_eq_true_iff.mp (Bool.and_eq_true_iff.mp xq).1).1).1).1).1).1).1).1).1).1).1).1).1).1).1).1).1).1).1).1).1).1).1).1).1).1).1).1).1).1).1).1).2) fun _ h => of_decide_eq_true h,
    fun n hn => of_decide_eq_true (List.all_eq_true.mp ((Bool.and_eq_true_iff.mp (Bool.and_eq_true_iff.mp (Bool.and_eq_true_iff.mp (Bool.and_eq_true_iff.mp (Bool.and_eq_true_iff.mp (Bool.and_eq_true_iff.mp (Bool.and_eq_true_iff.mp (Bool.and_eq_true_iff.mp (Bool.and_eq_true_iff.mp (Bool.and_eq_true_iff.mp (Bool.and_eq_true_iff.mp (Bool.and_eq_true_iff.mp (Bool.and_eq_true_iff.mp (Bool.and_eq_true_iff.mp (Bool.and_eq_true_iff.mp (Bool.and_eq_true_iff.mp (Bool.and_eq_true_iff.mp (Bool.and_eq_true_iff.mp (Bool.and_eq_true_iff.mp (Bool.and_eq_true_iff.mp (Bool.and_eq_true_iff.mp (Bool.and_eq_true_iff.mp (Bool.and_eq_true_iff.mp (Bool.and_eq_true_iff.mp (Bool.and_eq_true_iff.mp (Bool.and_eq_true_iff.mp (Bool.and_eq_true_iff.mp (Bool.and_eq_true_iff.mp (Bool.and_eq_true_iff.mp (Bool.and_eq_true_iff.mp (Bool.and_eq_true_iff.mp (Bool.and_eq_true_iff.mp xq).1).1).1).1).1).1).1).1).1).1).1).1).1).1).1).1).1).1).1).1).1).1).1).1).1).1).1).1).1).1).1).2) n hn),
    allB_ok ((Bool.and_eq_true_iff.mp (Bool.and_eq_true_iff.mp (Bool.and_eq_true_iff.mp (Bool.and_eq_true_iff.mp (Bool.and_eq_true_iff.mp (Bool.and_eq_true_iff.mp (Bool.and_eq_true_iff.mp (Bool.and_eq_true_iff.mp (Bool.and_eq_true_iff.mp (Bool.and_eq_true_iff.mp (Bool.and_eq_true_iff.mp (Bool.and_eq_true_iff.mp (Bool.and_eq_true_iff.mp (Bool.and_eq_true_iff.mp (Bool.and_eq_true_iff.mp (Bool.and_eq_true_iff.mp (Bool.and_eq_true_iff.mp (Bool.and_eq_true_iff.mp (Bool.and_eq_true_iff.mp (Bool.and_eq_true_iff.mp (Bool.and_eq_true_iff.mp (Bool.and_eq_true_iff.mp (Bool.and_eq_true_iff.mp (Bool.and_eq_true_iff.mp (Bool.and_eq_true_iff.mp (Bool.and_eq_true_iff.mp (Bool.and_eq_true_iff.mp (Bool.and_eq_true_iff.mp (Bool.and_eq_true_iff.mp (Bool.and_eq_true_iff.mp (Bool.and_eq_true_iff.mp xq).1).1).1).1).1).1).1).1).1).1).1).1).1).1).1).1).1).1).1).1).1).1).1).1).1).1).1).1).1).1).2) fun _ h => of_decide_eq_true h,
    fun n hn => of_decide_eq_true (List.all_eq_true.mp ((Bool.and_eq_true_iff.mp (Bool.and_eq_true_iff.mp (Bool.and_eq_true_iff.mp (Bool.and_eq_true_iff.mp (Bool.and_eq_true_iff.mp (Bool.and_eq_true_iff.mp (Bool.and_eq_true_iff.mp (Bool.and_eq_true_iff.mp (Bool.and_eq_true_iff.mp (Bool.and_eq_true_iff.mp (Bool.and_eq_true_iff.mp (Bool.and_eq_true_iff.mp (Bool.and_eq_true_iff.mp (Bool.and_eq_true_iff.mp (Bool.and_eq_true_iff.mp (Bool.and_eq_true_iff.mp (Bool.and_eq_true_iff.mp (Bool.and_eq_true_iff.mp (Bool.and_eq_true_iff.mp (Bool.and_eq_true_iff.mp (Bool.and_eq_true_iff.mp (Bool.and_eq_true_iff.mp (Bool.and_eq_true_iff.mp (Bool.and_eq_true_iff.mp (Bool.and_eq_true_iff.mp (Bool.and_eq_true_iff.mp (Bool.and_eq_true_iff.mp (Bool.and_eq_true_iff.mp (Bool.and_eq_true_iff.mp (Bool.and_eq_true_iff.mp xq).1).1).1).1).1).1).1).1).1).1).1).1).1).1).1).1).1).1).1).1).1).1).1).1).1).1).1).1).1).2) n hn),
    allB_ok ((Bool.and_eq_true_iff.mp (Bool.and_eq_true_iff.mp (Bool.and_eq_true_iff.mp (Bool.and_eq_true_iff.mp (Bool.and_eq_true_iff.mp (Bool.and_eq_true_iff.mp (Bool.and_eq_true_iff.mp (Bool.and_eq_true_iff.mp (Bool.and_eq_true_iff.mp (Bool.and_eq_true_iff.mp (Bool.and_eq_true_iff.mp (Bool.and_eq_true_iff.mp (Bool.and_eq_true_iff.mp (Bool.and_eq_true_iff.mp (Bool.and_eq_true_iff.mp (Bool.and_eq_true_iff.mp (Bool.and_eq_true_iff.mp (Bool.and_eq_true_iff.mp (Bool.and_eq_true_iff.mp (Bool.and_eq_true_iff.mp (Bool.and_eq_true_iff.mp (Bool.and_eq_true_iff.mp (Bool.and_eq_true_iff.mp (Bool.and_eq_true_iff.mp (Bool.and_eq_true_iff.mp (Bool.and_eq_true_iff.mp (Bool.and_eq_true_iff.mp (Bool.and_eq_true_iff.mp (Bool.and_eq_true_iff.mp xq).1).1).1).1).1).1).1).1).1).1).1).1).1).1).1).1).1).1).1).1).1).1).1).1).1).1).1).1).2) fun _ h => of_decide_eq_true h,
    fun n hn => of_decide_eq_true (List.all_eq_true.mp ((Bool.and_eq_true_iff.mp (Bool.and_eq_true_iff.mp (Bool.and_eq_true_iff.mp (Bool.and_eq_true_iff.mp (Bool.and_eq_true_iff.mp (Bool.and_eq_true_iff.mp (Bool.and_eq_true_iff.mp (Bool.and_eq_true_iff.mp (Bool.and_eq_true_iff.mp (Bool.and_eq_true_iff.mp (Bool.and_eq_true_iff.mp (Bool.and_eq_true_iff.mp (Bool.and_eq_true_iff.mp (Bool.and_eq_true_iff.mp (Bool.and_eq_true_iff.mp (Bool.and_eq_true_iff.mp (Bool.and_eq_true_iff.mp (Bool.and_eq_true_iff.mp (Bool.and_eq_true_iff.mp (Bool.and_eq_true_iff.mp (Bool.and_eq_true_iff.mp (Bool.and_eq_true_iff.mp (Bool.and_eq_true_iff.mp (Bool.and_eq_true_iff.mp (Bool.and_eq_true_iff.mp (Bool.and_eq_true_iff.mp (Bool.and_eq_true_iff.mp (Bool.and_eq_true_iff.mp xq).1).1).1).1).1).1).1).1).1).1).1).1).1).1).1).1).1).1).1).1).1).1).1).1).1).1).1).2) n hn),
    allB_ok ((Bool.and_eq_true_iff.mp (Bool.and_eq_true_iff.mp (Bool.and_eq_true_iff.mp (Bool.and_eq_true_iff.mp (Bool.and_eq_true_iff.mp (Bool.and_eq_true_iff.mp (Bool.and_eq_true_iff.mp (Bool.and_eq_true_iff.mp (Bool.and_eq_true_iff.mp (Bool.and_eq_true_iff.mp (Bool.and_eq_true_iff.mp (Bool.and_eq_true_iff.mp (Bool.and_eq_true_iff.mp (Bool.and_eq_true_iff.mp (Bool.and_eq_true_iff.mp (Bool.and_eq_true_iff.mp (Bool.and_eq_true_iff.mp (Bool.and_eq_true_iff.mp (Bool.and_eq_true_iff.mp (Bool.and_eq_true_iff.mp (Bool.and_eq_true_iff.mp (Bool.and_eq_true_iff.mp (Bool.and_eq_true_iff.mp (Bool.and_eq_true_iff.mp (Bool.and_eq_true_iff.mp (Bool.and_eq_true_iff.mp (Bool.and_eq_true_iff.mp xq).1).1).1).1).1).1).1).1).1).1).1).1).1).1).1).1).1).1).1).1).1).1).1).1).1).1).2) fun _ h => of_decide_eq_true h,
    fun n hn => of_decide_eq_true (List.all_eq_true.mp ((Bool.and_eq_true_iff.mp (Bool.and_eq_true_iff.mp (Bool.and_eq_true_iff.mp (Bool.and_eq_true_iff.mp (Bool.and_eq_true_iff.mp (Bool.and_eq_true_iff.mp (Bool.and_eq_true_iff.mp (Bool.and_eq_true_iff.mp (Bool.and_eq_true_iff.mp (Bool.and_eq_true_iff.mp (Bool.and_eq_true_iff.mp (Bool.and_eq_true_iff.mp (Bool.and_eq_true_iff.mp (Bool.and_eq_true_iff.mp (Bool.and_eq_true_iff.mp (Bool.and_eq_true_iff.mp (Bool.and_eq_true_iff.mp (Bool.and_eq_true_iff.mp (Bool.and_eq_true_iff.mp (Bool.and_eq_true_iff.mp (Bool.and_eq_true_iff.mp (Bool.and_eq_true_iff.mp (Bool.and_eq_true_iff.mp (Bool.and_eq_true_iff.mp (Bool.and_eq_true_iff.mp (Bool.and_eq_true_iff.mp xq).1).1).1).1).1).1).1).1).1).1).1).1).1).1).1).1).1).1).1).1).1).1).1).1).1).2) n hn),
    allB_ok ((Bool.and_eq_true_iff.mp (Bool.and_eq_true_iff.mp (Bool.and_eq_true_iff.mp (Bool.and_eq_true_iff.mp (Bool.and_eq_true_iff.mp (Bool.and_eq_true_iff.mp (Bool.and_eq_true_iff.mp (Bool.and_eq_true_iff.mp (Bool.and_eq_true_iff.mp (Bool.and_eq_true_iff.mp (Bool.and_eq_true_iff.mp (Bool.and_eq_true_iff.mp (Bool.and_eq_true_iff.mp (Bool.and_eq_true_iff.mp (Bool.and_eq_true_iff.mp (Bool.and_eq_true_iff.mp (Bool.and_eq_true_iff.mp (Bool.and_eq_true_iff.mp (Bool.and_eq_true_iff.mp (Bool.and_eq_true_iff.mp (Bool.and_eq_true_iff.mp (Bool.and_eq_true_iff.mp (Bool.and_eq_true_iff.mp (Bool.and_eq_true_iff.mp (Bool.and_eq_true_iff.mp xq).1).1).1).1).1).1).1).1).1).1).1).1).1).1).1).1).1).1).1).1).1).1).1).1).2) fun _ h => of_decide_eq_true h,
    fun n hn => of_decide_eq_true (List.all_eq_true.mp ((Bool.and_eq_true_iff.mp (Bool.and_eq_true_iff.mp (Bool.and_eq_true_iff.mp (Bool.and_eq_true_iff.mp (Bool.and_eq_true_iff.mp (Bool.and_eq_true_iff.mp (Bool.and_eq_true_iff.mp (Bool.and_eq_true_iff.mp (Bool.and_eq_true_iff.mp (Bool.and_eq_true_iff.mp (Bool.and_eq_true_iff.mp (Bool.and_eq_true_iff.mp (Bool.and_eq_true_iff.mp (Bool.and_eq_true_iff.mp (Bool.and_eq_true_iff.mp (Bool.and_eq_true_iff.mp (Bool.and_eq_true_iff.mp (Bool.and_eq_true_iff.mp (Bool.and_eq_true_iff.mp (Bool.and_eq_true_iff.mp (Bool.and_eq_true_iff.mp (Bool.and_eq_true_iff.mp (Bool.and_eq_true_iff.mp (Bool.and_eq_true_iff.mp xq).1).1).1).1).1).1).1).1).1).1).1).1).1).1).1).1).1).1).1).1).1).1).1).2) n hn),
    allB_ok ((Bool.and_eq_true_iff.mp (Bool.and_eq_true_iff.mp (Bool.and_eq_true_iff.mp (Bool.and_eq_true_iff.mp (Bool.and_eq_true_iff.mp (Bool.and_eq_true_iff.mp (Bool.and_eq_true_iff.mp (Bool.and_eq_true_iff.mp (Bool.and_eq_true_iff.mp (Bool.and_eq_true_iff.mp (Bool.and_eq_true_iff.mp (Bool.and_eq_true_iff.mp (Bool.and_eq_true_iff.mp (Bool.and_eq_true_iff.mp (Bool.and_eq_true_iff.mp (Bool.and_eq_true_iff.mp (Bool.and_eq_true_iff.mp (Bool.and_eq_true_iff.mp (Bool.and_eq_true_iff.mp (Bool.and_eq_true_iff.mp (Bool.and_eq_true_iff.mp (Bool.and_eq_true_iff.mp (Bool.and_eq_true_iff.mp xq).1).1).1).1).1).1).1).1).1).1).1).1).1).1).1).1).1).1).1).1).1).1).2) fun _ h => of_decide_eq_true h,
    fun n hn => of_decide_eq_true (List.all_eq_true.mp ((Bool.and_eq_true_iff.mp (Bool.and_eq_true_iff.mp (Bool.and_eq_true_iff.mp (Bool.and_eq_true_iff.mp (Bool.and_eq_true_iff.mp (Bool.and_eq_true_iff.mp (Bool.and_eq_true_iff.mp (Bool.and_eq_true_iff.mp (Bool.and_eq_true_iff.mp (Bool.and_eq_true_iff.mp (Bool.and_eq_true_iff.mp (Bool.and_eq_true_iff.mp (Bool.and_eq_true_iff.mp (Bool.and_eq_true_iff.mp (Bool.and_eq_true_iff.mp (Bool.and_eq_true_iff.mp (Bool.and_eq_true_iff.mp (Bool.and_eq_true_iff.mp (Bool.and_eq_true_iff.mp (Bool.and_eq_true_iff.mp (Bool.and_eq_true_iff.mp (Bool.and_eq_true_iff.mp xq).1).1).1).1).1).1).1).1).1).1).1).1).1).1).1).1).1).1).1).1).1).2) n hn),
    allB_ok ((Bool.and_eq_true_iff.mp (Bool.and_eq_true_iff.mp (Bool.and_eq_true_iff.mp (Bool.and_eq_true_iff.mp (Bool.and_eq_true_iff.mp (Bool.and_eq_true_iff.mp (Bool.and_eq_true_iff.mp (Bool.and_eq_true_iff.mp (Bool.and_eq_true_iff.mp (Bool.and_eq_true_iff.mp (Bool.and_eq_true_iff.mp (Bool.and_eq_true_iff.mp (Bool.and_eq_true_iff.mp (Bool.and_eq_true_iff.mp (Bool.and_eq_true_iff.mp (Bool.and_eq_true_iff.mp (Bool.and_eq_true_iff.mp (Bool.and_eq_true_iff.mp (Bool.and_eq_true_iff.mp (Bool.and_eq_true_iff.mp (Bool.and_eq_true_iff.mp xq).1).1).1).1).1).1).1).1).1).1).1).1).1).1).1).1).1).1).1).1).2) fun _ h => of_decide_eq_true h,
    fun n hn => of_decide_eq_true (List.all_eq_true.mp ((Bool.and_eq_true_iff.mp (Bool.and_eq_true_iff.mp (Bool.and_eq_true_iff.mp (Bool.and_eq_true_iff.mp (Bool.and_eq_true_iff.mp (Bool.and_eq_true_iff.mp (Bool.and_eq_true_iff.mp (Bool.and_eq_true_iff.mp (Bool.and_eq_true_iff.mp (Bool.and_eq_true_iff.mp (Bool.and_eq_true_iff.mp (Bool.and_eq_true_iff.mp (Bool.and_eq_true_iff.mp (Bool.and_eq_true_iff.mp (Bool.and_eq_true_iff.mp (Bool.and_eq_true_iff.mp (Bool.and_eq_true_iff.mp (Bool.and_eq_true_iff.mp (Bool.and_eq_true_iff.mp (Bool.and_eq_true_iff.mp xq).1).1).1).1).1).1).1).1).1).1).1).1).1).1).1).1).1).1).1).2) n hn),
    allB_ok ((Bool.and_eq_true_iff.mp (Bool.and_eq_true_iff.mp (Bool.and_eq_true_iff.mp (Bool.and_eq_true_iff.mp (Bool.and_eq_true_iff.mp (Bool.and_eq_true_iff.mp (Bool.and_eq_true_iff.mp (Bool.and_eq_true_iff.mp (Bool.and_eq_true_iff.mp (Bool.and_eq_true_iff.mp (Bool.and_eq_true_iff.mp (Bool.and_eq_true_iff.mp (Bool.and_eq_true_iff.mp (Bool.and_eq_true_iff.mp (Bool.and_eq_true_iff.mp (Bool.and_eq_true_iff.mp (Bool.and_eq_true_iff.mp (Bool.and_eq_true_iff.mp (Bool.and_eq_true_iff.mp xq).1).1).1).1).1).1).1).1).1).1).1).1).1).1).1).1).1).1).2) fun _ h => of_decide_eq_true h,
    fun n hn => of_decide_eq_true (List.all_eq_true.mp ((Bool.and_eq_true_iff.mp (Bool.and_eq_true_iff.mp (Bool.and_eq_true_iff.mp (Bool.and_eq_true_iff.mp (Bool.and_eq_true_iff.mp (Bool.and_eq_true_iff.mp (Bool.and_eq_true_iff.mp (Bool.and_eq_true_iff.mp (Bool.and_eq_true_iff.mp (Bool.and_eq_true_iff.mp (Bool.and_eq_true_iff.mp (Bool.and_eq_true_iff.mp (Bool.and_eq_true_iff.mp (Bool.and_eq_true_iff.mp (Bool.and_eq_true_iff.mp (Bool.and_eq_true_iff.mp (Bool.and_eq_true_iff.mp (Bool.and_eq_true_iff.mp xq).1).1).1).1).1).1).1).1).1).1).1).1).1).1).1).1).1).2) n hn),
    allB_ok ((Bool.and_eq_true_iff.mp (Bool.and_eq_true_iff.mp (Bool.and_eq_true_iff.mp (Bool.and_eq_true_iff.mp (Bool.and_eq_true_iff.mp (Bool.and_eq_true_iff.mp (Bool.and_eq_true_iff.mp (Bool.and_eq_true_iff.mp (Bool.and_eq_true_iff.mp (Bool.and_eq_true_iff.mp (Bool.and_eq_true_iff.mp (Bool.and_eq_true_iff.mp (Bool.and_eq_true_iff.mp (Bool.and_eq_true_iff.mp (Bool.and_eq_true_iff.mp (Bool.and_eq_true_iff.mp (Bool.and_eq_true_iff.mp xq).1).1).1).1).1).1).1).1).1).1).1).1).1).1).1).1).2) fun _ h => of_decide_eq_true h,
    fun n hn => of_decide_eq_true (List.all_eq_true.mp ((Bool.and_eq_true_iff.mp (Bool.and_eq_true_iff.mp (Bool.and_eq_true_iff.mp (Bool.and_eq_true_iff.mp (Bool.and_eq_true_iff.mp (Bool.and_eq_true_iff.mp (Bool.and_eq_true_iff.mp (Bool.and_eq_true_iff.mp (Bool.and_eq_true_iff.mp (Bool.and_eq_true_iff.mp (Bool.and_eq_true_iff.mp (Bool.and_eq_true_iff.mp (Bool.and_eq_true_iff.mp (Bool.and_eq_true_iff.mp (Bool.and_eq_true_iff.mp (Bool.and_eq_true_iff.mp xq).1).1).1).1).1).1).1).1).1).1).1).1).1).1).1).2) n hn),
    allB_ok ((Bool.and_eq_true_iff.mp (Bool.and_eq_true_iff.mp (Bool.and_eq_true_iff.mp (Bool.and_eq_true_iff.mp (Bool.and_eq_true_iff.mp (Bool.and_eq_true_iff.mp (Bool.and_eq_true_iff.mp (Bool.and_eq_true_iff.mp (Bool.and_eq_true_iff.mp (Bool.and_eq_true_iff.mp (Bool.and_eq_true_iff.mp (Bool.and_eq_true_iff.mp (Bool.and_eq_true_iff.mp (Bool.and_eq_true_iff.mp (Bool.and_eq_true_iff.mp xq).1).1).1).1).1).1).1).1).1).1).1).1).1).1).2) fun _ h => of_decide_eq_true h,
    fun n hn => of_decide_eq_true (List.all_eq_true.mp ((Bool.and_eq_true_iff.mp (Bool.and_eq_true_iff.mp (Bool.and_eq_true_iff.mp (Bool.and_eq_true_iff.mp (Bool.and_eq_true_iff.mp (Bool.and_eq_true_iff.mp (Bool.and_eq_true_iff.mp (Bool.and_eq_true_iff.mp (Bool.and_eq_true_iff.mp (Bool.and_eq_true_iff.mp (Bool.and_eq_true_iff.mp (Bool.and_eq_true_iff.mp (Bool.and_eq_true_iff.mp (Bool.and_eq_true_iff.mp xq).1).1).1).1).1).1).1).1).1).1).1).1).1).2) n hn),
    He.glo_ok X G (c.fact 38 (f := .glo "AbsentError") rfl),
    He.glo_ok X G (c.fact 39 (f := .glo "ProbeError") rfl),
    allB_ok ((Bool.and_eq_true_iff.mp (Bool.and_eq_true_iff.mp (Bool.and_eq_true_iff.mp (Bool.and_eq_true_iff.mp (Bool.and_eq_true_iff.mp (Bool.and_eq_true_iff.mp (Bool.and_eq_true_iff.mp (Bool.and_eq_true_iff.mp (Bool.and_eq_true_iff.mp (Bool.and_eq_true_iff.mp (Bool.and_eq_true_iff.mp (Bool.and_eq_true_iff.mp (Bool.and_eq_true_iff.mp xq).1).1).1).1).1).1).1).1).1).1).1).1).2) fun _ h => ⟨excB_xf (Bool.and_eq_true_iff.mp h).1, He.eqO_ok (Bool.and_eq_true_iff.mp h).2⟩,
    allB_ok ((Bool.and_eq_true_iff.mp (Bool.and_eq_true_iff.mp (Bool.and_eq_true_iff.mp (Bool.and_eq_true_iff.mp (Bool.and_eq_true_iff.mp (Bool.and_eq_true_iff.mp (Bool.and_eq_true_iff.mp (Bool.and_eq_true_iff.mp (Bool.and_eq_true_iff.mp (Bool.and_eq_true_iff.mp (Bool.and_eq_true_iff.mp (Bool.and_eq_true_iff.mp xq).1).1).1).1).1).1).1).1).1).1).1).2) fun _ h => ⟨excB_xf (Bool.and_eq_true_iff.mp h).1, He.eqO_ok (Bool.and_eq_true_iff.mp h).2⟩,
    allB_ok ((Bool.and_eq_true_iff.mp (Bool.and_eq_true_iff.mp (Bool.and_eq_true_iff.mp (Bool.and_eq_true_iff.mp (Bool.and_eq_true_iff.mp (Bool.and_eq_true_iff.mp (Bool.and_eq_true_iff.mp (Bool.and_eq_true_iff.mp (Bool.and_eq_true_iff.mp (Bool.and_eq_true_iff.mp (Bool.and_eq_true_iff.mp xq).1).1).1).1).1).1).1).1).1).1).2) fun _ h => ⟨excB_xf (Bool.and_eq_true_iff.mp h).1, He.eqO_ok (Bool.and_eq_true_iff.mp h).2⟩,
    allB_ok ((Bool.and_eq_true_iff.mp (Bool.and_eq_true_iff.mp (Bool.and_eq_true_iff.mp (Bool.and_eq_true_iff.mp (Bool.and_eq_true_iff.mp (Bool.and_eq_true_iff.mp (Bool.and_eq_true_iff.mp (Bool.and_eq_true_iff.mp (Bool.and_eq_true_iff.mp (Bool.and_eq_true_iff.mp xq).1).1).1).1).1).1).1).1).1).2) fun _ h => ⟨excB_xf (Bool.and_eq_true_iff.mp h).1, He.eqO_ok (Bool.and_eq_true_iff.mp h).2⟩,
    allB_ok ((Bool.and_eq_true_iff.mp (Bool.and_eq_true_iff.mp (Bool.and_eq_true_iff.mp (Bool.and_eq_true_iff.mp (Bool.and_eq_true_iff.mp (Bool.and_eq_true_iff.mp (Bool.and_eq_true_iff.mp (Bool.and_eq_true_iff.mp (Bool.and_eq_true_iff.mp xq).1).1).1).1).1).1).1).1).2) fun _ h => ⟨excB_xf (Bool.and_eq_true_iff.mp h).1, He.eqO_ok (Bool.and_eq_true_iff.mp h).2⟩,
    allB_ok ((Bool.and_eq_true_iff.mp (Bool.and_eq_true_iff.mp (Bool.and_eq_true_iff.mp (Bool.and_eq_true_iff.mp (Bool.and_eq_true_iff.mp (Bool.and_eq_true_iff.mp (Bool.and_eq_true_iff.mp (Bool.and_eq_true_iff.mp xq).1).1).1).1).1).1).1).2) fun _ h => ⟨excB_xf (Bool.and_eq_true_iff.mp h).1, He.eqO_ok (Bool.and_eq_true_iff.mp h).2⟩,
    allB_ok ((Bool.and_eq_true_iff.mp (Bool.and_eq_true_iff.mp (Bool.and_eq_true_iff.mp (Bool.and_eq_true_iff.mp (Bool.and_eq_true_iff.mp (Bool.and_eq_true_iff.mp (Bool.and_eq_true_iff.mp xq).1).1).1).1).1).1).2) fun _ h => ⟨excB_xf (Bool.and_eq_true_iff.mp h).1, He.eqO_ok (Bool.and_eq_true_iff.mp h).2⟩,
    allB_ok ((Bool.and_eq_true_iff.mp (Bool.and_eq_true_iff.mp (Bool.and_eq_true_iff.mp (Bool.and_eq_true_iff.mp (Bool.and_eq_true_iff.mp (Bool.and_eq_true_iff.mp xq).1).1).1).1).1).2) fun _ h => ⟨excB_xf (Bool.and_eq_true_iff.mp h).1, He.eqO_ok (Bool.and_eq_true_iff.mp h).2⟩,
    allB_ok ((Bool.and_eq_true_iff.mp (Bool.and_eq_true_iff.mp (Bool.and_eq_true_iff.mp (Bool.and_eq_true_iff.mp (Bool.and_eq_true_iff.mp xq).1).1).1).1).2) fun _ h => ⟨excB_xf (Bool.and_eq_true_iff.mp h).1, He.eqO_ok (Bool.and_eq_true_iff.mp h).2⟩,
    allB_ok ((Bool.and_eq_true_iff.mp (Bool.and_eq_true_iff.mp (Bool.and_eq_true_iff.mp (Bool.and_eq_true_iff.mp xq).1).1).1).2) fun _ h => ⟨excB_xf (Bool.and_eq_true_iff.mp h).1, He.eqO_ok (Bool.and_eq_true_iff.mp h).2⟩,
    allB_ok ((Bool.and_eq_true_iff.mp (Bool.and_eq_true_iff.mp (Bool.and_eq_true_iff.mp xq).1).1).2) fun _ h => ⟨excB_xf (Bool.and_eq_true_iff.mp h).1, He.eqO_ok (Bool.and_eq_true_iff.mp h).2⟩,
    of_decide_eq_true ((Bool.and_eq_true_iff.mp (Bool.and_eq_true_iff.mp xq).1).2),
    He.free_ok X G (c.fact 40 (f := .free "IndexError") rfl),
    He.free_ok X G (c.fact 41 (f := .free "KeyError") rfl),
    He.free_ok X G (c.fact 42 (f := .free "LookupError") rfl),
    He.free_ok X G (c.fact 43 (f := .free "OverflowError") rfl),
    He.free_ok X G (c.fact 44 (f := .free "ValueError") rfl),
    He.free_ok X G (c.fact 45 (f := .free "abs") rfl),
    He.free_ok X G (c.fact 46 (f := .free "enumerate") rfl),
    He.free_ok X G (c.fact 47 (f := .free "int") rfl),
    He.free_ok X G (c.fact 48 (f := .free "isinstance") rfl),
    He.free_ok X G (c.fact 49 (f := .free "len") rfl),
    He.free_ok X G (c.fact 50 (f := .free "list") rfl),
    He.free_ok X G (c.fact 51 (f := .free "range") rfl),
    He.free_ok X G (c.fact 52 (f := .free "repr") rfl),
    (Bool.and_eq_true_iff.mp xq).2⟩
end My
open PySem PySem.W PySem.Calls PyProof.Rows
set_option maxRecDepth 100000 in
set_option maxHeartbeats 0 in
theorem PySem.Challenge.cw_carryprobe_k08_errors_and_their_fields_holds : PySem.Challenge.rw_carryprobe_k08_errors_and_their_fields.Holds := by
  w_on; o_law
  refine HandSHeadRun.head_any (r := OpenLaw.row PySem.Challenge.rw_carryprobe_k08_errors_and_their_fields) (q := view (OpenLaw.row PySem.Challenge.rw_carryprobe_k08_errors_and_their_fields).prog [41]) (H := My.hk) (ob := My.ob) (M := 12000) (loose := My.loose) (d := HandSHeadRun.topDef (OpenLaw.row PySem.Challenge.rw_carryprobe_k08_errors_and_their_fields).prog 41) (kwd := []) My.ob_eq
    (by kernel_rfl) (fun s => by kernel_rfl) My.run (by kernel_rfl) (by kernel_rfl) (by kernel_rfl) (by rfl) (by first | assumption | decide +kernel) (by decide +kernel) ⟨rfl, rfl, rfl, rfl, rfl, by decide +kernel⟩ ?hw ?hc
  case hw => w_witness2
  case hc =>
    refine DX.walk_ofT (tn := My.tl.map (·.1)) (l := PySem.Challenge.rw_carryprobe_k08_errors_and_their_fields) (k := 7) rfl (by kernel_rfl) ⟨rfl, by decide, by decide⟩ ?G
    intro w mg fa h Y G hmg0
    obtain ⟨K, KX, cc, TK, h1⟩ := Y
    have hmg : mg ("law" : PySem.Str) = some (.ref fa) := by
      have e : (HandSHeadRun.topDef (OpenLaw.row PySem.Challenge.rw_carryprobe_k08_errors_and_their_fields).prog 41).name = ("law" : PySem.Str) := by kernel_rfl
      rw [← e]
      exact hmg0
    have T := My.txt KX G cc.says cc.exx cc
    have e := hmg.symm.trans T.m_law
    cases e
    exact ⟨K, _, KX, TK, fun H a ns hl hS hP => (by
      obtain ⟨F, M, ds, o, rd, ns, e, tm, q, k⟩ := My.law_start T.hz hl h1 hS fun x hx => hP _ (List.mem_map_of_mem hx)
      subst e
      exact ⟨F, M, _, o, rd, rfl, rfl, ns, rfl, tm, q, fun _ => rfl⟩), fun base _ _ hTB => My.fx_law_1 ⟨T, fun x hx => hTB _ (List.mem_map_of_mem hx)⟩⟩

