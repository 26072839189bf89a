import PyProof.Rows.All
import Wide.All
import OpenK.AllK
import Wide.FinOn
import HandS.ForMost
import HandS.Walk
import HandS.Flow
import HandS.Defaults
import HandS.Dict
import HandS.DictTup
import PyProof.DictMoreH
import HandS.Lambda
import HandS.TupAny
import HandS.TupMul
import HandS.Zip
import HandS.Deep
import PyProof.ReprRoads
import PyProof.ReprLen
import HandS.WideBits
import HandS.IsInst
import HandS.Iter
import HandS.Style
import HandS.Conv
import HandS.Text
import HandS.Codes
import HandS.List
import HandS.HeadHook1
import HandS.HeadHook2
import HandS.Star
import HandS.Replace
import HandS.StrMore
import KE.KDictPairs
import PyProof.ListStr
import PyProof.StrBlock2
import PyProof.Rows.StrMul
import PyProof.Rows.StrCase
import HandS.Property
import HandS.ClsMeth
import KE.KIndexOf
import KE.GoesEnum
import PyProof.TupleOfStr
import HandS.TupLe
import KE.KRevSl
import HandS.FStr
import PyProof.NeKinds
import KE.GoesZip
import HandS.SetFor
import HandS.Exc
import HandS.ExcInit
import PyProof.InstNe
import PyProof.InstEq
import KE.KExcInit
import PyProof.ExcBaseAll.LookupError
import PyProof.ExcBaseAll.OverflowError
import HandS.ExcIs
import HandS.ExcField
import KE.KTryMore
import HandS.NoneIn
import HandS.EndTab
import KE.KNestM
import KE.KDictZip
import KE.KTurns
import PyProof.ListNew
import KE.GoesEnumKw
import KE.DataFind
import OpenK.KMore
import PyProof.CollectIter
import PyProof.Walks
import KE.KUnpack
import KE.KxField
import HandS.DictComp
import HandS.Nested
import KE.KSuper
import HandS.GenList
import HandS.OwnEq
import KE.KStateDown
import Lean
import HandS.Head0
import HandS.Head1
import HandS.Head2
import HandS.HeadEnd
import PySem.Challenge.RW_carryprobe_k54_whole_how_many_trials_are
set_option Elab.async false
set_option linter.all false
set_option maxRecDepth 100000
set_option autoImplicit false
set_option maxHeartbeats 4000000
namespace DTK
end DTK
namespace DX
end DX
namespace ZipL
end ZipL
namespace EnZ
end EnZ
namespace My
end My
namespace EnT
end EnT
namespace RevT
end RevT
namespace ZMix
end ZMix
namespace EnK
end EnK
namespace TupF
end TupF
namespace TupNe
end TupNe
namespace LstNe
end LstNe
namespace EnL
end EnL
section
namespace DTK
open PySem PySem.Spec L2 PyProof.Rows
abbrev TE3 := List (List Int × Addr × V)
def tH (ks : List Int) : Int := reduceHash (Builtin.Tuple.tupleHashOf (ks.map hashInt))
def entI (x : List Int × Addr × Value) : DictEntry := ⟨tH x.1, .ref x.2.1, x.2.2⟩
/-- the entries as they stand in the heap -/
def EntR (kvs : TE3) (xs : List (List Int × Addr × Value)) : Prop := Paired (fun (p : List Int × Addr × V) (q : List Int × Addr × Value) => p.1 = q.1 ∧ p.2.1 = q.2.1 ∧ RelV p.2.2 q.2.2) kvs xs
def DTX (a : Addr) (kvs : TE3) : HO := .ext fun h => kvs.length ≤ sizeLine ∧ (a == sysModules) = false ∧ ∃ xs, EntR kvs xs ∧
  ∃ o es ep, h.get? a = some o ∧ o.ExactDict ∧ o.data = .dict es ep ∧ es.toList = xs.map entI ∧ (xs.map (·.1)).Nodup
def atV (kvs : TE3) (k : List Int) : Option V := (kvs.find? fun p => decide (p.1 = k)).map (·.2.2)
end DTK
namespace DX
open PySem PySem.Spec L2

inductive D where
  | non | bl (b : Bool) | int (i : Int) | str (x : Str) | adr (a : Addr) | ty (n : String)
  | tup (ds : List D) | lst (ds : List D) | scr (ns : List Int)
  | ins (C : Addr) (fs : List (Str × D))
  | dct (kvs : List (Key × D))
  | stup (ds : List D)
  | exn (C : Addr) (fs : List (Str × D))
  | tbl (q : Str)
  | dtx (kvs : List (List Int × Int))

/-- at a: an error of the class at C that was caught, its dict at d -/
def exH (a C : Addr) (d : Option Addr) : HO := .ext fun h => ∃ (oe : Obj) (vs : Array Value), h.get? a = some oe ∧ oe.cls = .ref C ∧ oe.dict = d ∧ oe.data = .fields vs

mutual
inductive Rp (K : PySem.W.Frag) (F : Hp) : V → D → Prop
  | non : Rp K F .non .non
  | bl (b : Bool) : Rp K F (.bl b) (.bl b)
  | int (i : Int) : Rp K F (.int i) (.int i)
  | str (x : Str) : Rp K F (.str x) (.str x)
  | adr (a : Addr) : Rp K F (.ref a) (.adr a)
  | ty (n : String) : Rp K F (.ty n) (.ty n)
  | tup {a : Addr} {xs : List V} {ds : List D} : SqT K F a xs → Rps K F xs ds → Rp K F (.ref a) (.tup ds)
  | lst {a : Addr} {xs : List V} {ds : List D} : F a = some (.lst xs) → Rps K F xs ds → Rp K F (.ref a) (.lst ds)
  | scr {a : Addr} {ns : List Int} : SqL K F a (ns.map V.int) → Rp K F (.ref a) (.scr ns)
  | ins {a C dx : Addr} {fs : List (Str × V)} {gs : List (Str × D)} : F a = some (.ins C dx fs) → Rfs K F fs gs → Rp K F (.ref a) (.ins C gs)
  | dct {a : Addr} {kvs : List (Key × V)} {ds : List (Key × D)} : F a = some (.dK kvs) → Rks K F kvs ds → Rp K F (.ref a) (.dct ds)
  | stup {a : Addr} {o : Obj} {xs : List V} {ds : List D} : F a = some (.frz o (.tup xs)) → (o.cls = .type "tuple" ∧ o.dict = none) → Rps K F xs ds → Rp K F (.ref a) (.stup ds)
  | stupK {a : Addr} {o : Obj} : K.lookup a = some o → (o.cls = .type "tuple" ∧ o.dict = none ∧ ∃ n, o.data = .seq #[] n) → Rp K F (.ref a) (.stup [])
  | exn {a C : Addr} {d : Option Addr} {fs : List (Str × V)} {gs : List (Str × D)} : F a = some (exH a C d) → ((d = none ∧ fs = []) ∨ ∃ dd, d = some dd ∧ F dd = some (.xd fs)) → Rfs K F fs gs → Rp K F (.ref a) (.exn C gs)
inductive Rps (K : PySem.W.Frag) (F : Hp) : List V → List D → Prop
  | nil : Rps K F [] []
  | cons {v : V} {d : D} {vs : List V} {ds : List D} : Rp K F v d → Rps K F vs ds → Rps K F (v :: vs) (d :: ds)
inductive Rfs (K : PySem.W.Frag) (F : Hp) : List (Str × V) → List (Str × D) → Prop
  | nil : Rfs K F [] []
  | cons {x : Str} {v : V} {d : D} {vs : List (Str × V)} {ds : List (Str × D)} : Rp K F v d → Rfs K F vs ds → Rfs K F ((x, v) :: vs) ((x, d) :: ds)
inductive Rks (K : PySem.W.Frag) (F : Hp) : List (Key × V) → List (Key × D) → Prop
  | nil : Rks K F [] []
  | cons {x : Key} {v : V} {d : D} {vs : List (Key × V)} {ds : List (Key × D)} : Rp K F v d → Rks K F vs ds → Rks K F ((x, v) :: vs) ((x, d) :: ds)
end

section
variable {K : PySem.W.Frag} {F F' H H' : Hp}
theorem same_rd {a : Addr} {u : HO} (e : Same H H') (h : Rd H a u) : Rd H' a u := by
  rcases h with h | ⟨o, h⟩
  · exact .inl (e _ _ h)
  · exact .inr ⟨o, e _ _ h⟩
theorem same_l {a : Addr} {xs : List V} (e : Same H H') (h : SqL K H a xs) : SqL K H' a xs := by
  rcases h with h | h
  · exact .inl (same_rd e h)
  · exact .inr h
theorem same_t {a : Addr} {xs : List V} (e : Same H H') (h : SqT K H a xs) : SqT K H' a xs := by
  rcases h with h | h
  · exact .inl (same_rd e h)
  · exact .inr h
mutual
theorem Rp.mono (e : Same F F') : ∀ {v : V} {d : D}, Rp K F v d → Rp K F' v d
  | _, _, .non => .non
  | _, _, .bl b => .bl b
  | _, _, .int i => .int i
  | _, _, .str x => .str x
  | _, _, .adr a => .adr a
  | _, _, .ty n => .ty n
  | _, _, .tup h r => .tup (same_t e h) (Rps.mono e r)
  | _, _, .lst h r => .lst (e _ _ h) (Rps.mono e r)
  | _, _, .scr h => .scr (same_l e h)
  | _, _, .ins h r => .ins (e _ _ h) (Rfs.mono e r)
  | _, _, .dct h r => .dct (e _ _ h) (Rks.mono e r)
  | _, _, .stup h c r => .stup (e _ _ h) c (Rps.mono e r)
  | _, _, .stupK h c => .stupK h c
  | _, _, .exn h c r => .exn (e _ _ h) (c.imp id fun ⟨dd, h1, h2⟩ => ⟨dd, h1, e _ _ h2⟩) (Rfs.mono e r)
theorem Rps.mono (e : Same F F') : ∀ {v : List V} {d : List D}, Rps K F v d → Rps K F' v d
  | _, _, .nil => .nil
  | _, _, .cons h r => .cons (Rp.mono e h) (Rps.mono e r)
theorem Rfs.mono (e : Same F F') : ∀ {v : List (Str × V)} {d : List (Str × D)}, Rfs K F v d → Rfs K F' v d
  | _, _, .nil => .nil
  | _, _, .cons h r => .cons (Rp.mono e h) (Rfs.mono e r)
theorem Rks.mono (e : Same F F') : ∀ {v : List (Key × V)} {d : List (Key × D)}, Rks K F v d → Rks K F' v d
  | _, _, .nil => .nil
  | _, _, .cons h r => .cons (Rp.mono e h) (Rks.mono e r)
end
theorem Rps.length : ∀ {v : List V} {d : List D}, Rps K F v d → v.length = d.length
  | _, _, .nil => rfl
  | _, _, .cons _ r => congrArg Nat.succ (Rps.length r)
theorem Rps.append : ∀ {v w : List V} {d e : List D}, Rps K F v d → Rps K F w e → Rps K F (v ++ w) (d ++ e)
  | _, _, _, _, .nil, s => s
  | _, _, _, _, .cons h r, s => .cons h (Rps.append r s)
theorem Rps.get : ∀ {v : List V} {d : List D} {i : Nat} {x : D}, Rps K F v d → d[i]? = some x → ∃ y, v[i]? = some y ∧ Rp K F y x
  | _, _, i, _, .nil, e => by simp at e
  | _, _, 0, _, .cons h _, e => by simp at e; subst e; exact ⟨_, rfl, h⟩
  | _, _, i + 1, x, .cons _ r, e => by
    obtain ⟨y, h1, h2⟩ := Rps.get (i := i) (x := x) r (by simpa using e)
    exact ⟨y, by simpa using h1, h2⟩
theorem Rps.set : ∀ {v : List V} {d : List D} {y : V} {x : D} (i : Nat), Rps K F v d → Rp K F y x → Rps K F (v.set i y) (d.set i x)
  | _, _, _, _, _, .nil, _ => .nil
  | _, _, _, _, 0, .cons _ r, h => .cons h r
  | _, _, _, _, i + 1, .cons h' r, h => .cons h' (Rps.set i r h)
theorem Rps.drop : ∀ {v : List V} {d : List D} (i : Nat), Rps K F v d → Rps K F (v.drop i) (d.drop i)
  | _, _, 0, r => r
  | _, _, _ + 1, .nil => .nil
  | _, _, i + 1, .cons _ r => Rps.drop i r
end

abbrev DEnv := List (Option D)
def look : DEnv → Nat → Option D
  | [], _ => none
  | d :: _, 0 => d
  | _ :: r, n + 1 => look r n
def put : DEnv → Nat → D → DEnv
  | [], _, _ => []
  | _ :: r, 0, d => some d :: r
  | x :: r, n + 1, d => x :: put r n d
inductive En (K : PySem.W.Frag) (F : Hp) : St → DEnv → Prop
  | nil : En K F [] []
  | cons {v : Option V} {d : Option D} {σ : St} {ρ : DEnv} : (∀ x, d = some x → ∃ y, v = some y ∧ Rp K F y x) → En K F σ ρ → En K F (v :: σ) (d :: ρ)
section
variable {K : PySem.W.Frag} {F F' H H' : Hp}
theorem En.mono (e : Same F F') : ∀ {σ : St} {ρ : DEnv}, En K F σ ρ → En K F' σ ρ
  | _, _, .nil => .nil
  | _, _, .cons h r => .cons (fun x q => let ⟨y, a, b⟩ := h x q; ⟨y, a, b.mono e⟩) (En.mono e r)
theorem En.look : ∀ {σ : St} {ρ : DEnv} {i : Nat} {d : D}, En K F σ ρ → DX.look ρ i = some d → ∃ y, σ[i]? = some (some y) ∧ Rp K F y d
  | _, _, i, _, .nil, e => by simp [DX.look] at e
  | _, _, 0, d, .cons h r, e => by
    obtain ⟨y, a, b⟩ := h d e
    exact ⟨y, by rw [a]; rfl, b⟩
  | _, _, i + 1, d, .cons h r, e => by
    obtain ⟨y, a, b⟩ := En.look (i := i) r e
    exact ⟨y, by simpa using a, b⟩
theorem En.put : ∀ {σ : St} {ρ : DEnv} {y : V} {d : D} (i : Nat), En K F σ ρ → Rp K F y d → En K F (σ.set i (some y)) (DX.put ρ i d)
  | _, _, _, _, _, .nil, _ => .nil
  | _, _, y, d, 0, .cons _ r, h => .cons (fun x q => ⟨y, rfl, by cases q; exact h⟩) r
  | _, _, _, _, i + 1, .cons h' r, h => .cons h' (En.put i r h)
end

abbrev Mem := Addr → Option D
def up (M : Mem) (a : Addr) (d : D) : Mem := fun b => if b = a then some d else M b
def rm (M : Mem) (a : Addr) : Mem := fun b => if b = a then none else M b
theorem up_same {M : Mem} {a : Addr} {d : D} : up M a d a = some d := if_pos rfl
theorem up_ne {M : Mem} {a b : Addr} {d : D} (h : b ≠ a) : up M a d b = M b := if_neg h
def Mt (K : PySem.W.Frag) (F H : Hp) (a : Addr) : D → Prop
  | .lst ds => ∃ xs, H a = some (.lst xs) ∧ Rps K F xs ds
  | .ins C gs => ∃ dx fs, H a = some (.ins C dx fs) ∧ Rfs K F fs gs
  | .dct ds => ∃ kvs, H a = some (.dK kvs) ∧ Rks K F kvs ds
  | .dtx kvs => ∃ es : DTK.TE3, H a = some (DTK.DTX a es) ∧ Paired (fun (p : List Int × Addr × V) (q : List Int × Int) => p.1 = q.1 ∧ SqT K F p.2.1 (p.1.map V.int) ∧ p.2.2 = V.int q.2) es kvs
  | .tbl q => ∃ ps : Array Value, H a = some (.tbl ps) ∧ TriplesOk ps.toList ∧ ∀ (pos : Pos) (cv : Value), codeAmong pos ps.toList = some cv → ∃ c, cv = .ref c ∧ F c = some (LamX.CodeO c q)
  | _ => False
structure Ok (K : PySem.W.Frag) (F : Hp) (M : Mem) (H : Hp) : Prop where
  ex : Same F H
  mt : ∀ a d, M a = some d → F a = none ∧ Mt K F H a d
section
variable {K : PySem.W.Frag} {F F' H H' : Hp} {M : Mem}
theorem Mt.there {a : Addr} {d : D} (m : Mt K F H a d) : ∃ o, H a = some o := by
  cases d <;> first
    | exact m.elim
    | (obtain ⟨_, h, _⟩ := m; exact ⟨_, h⟩)
    | (obtain ⟨_, _, h, _⟩ := m; exact ⟨_, h⟩)
theorem Mt.mono {a : Addr} {d : D} (e : Same F F') (h : H' a = H a) (m : Mt K F H a d) : Mt K F' H' a d := by
  cases d <;> first
    | exact m.elim
    | (obtain ⟨xs, p, r⟩ := m; exact ⟨xs, by rw [h]; exact p, r.mono e⟩)
    | (obtain ⟨dx, fs, p, r⟩ := m; exact ⟨dx, fs, by rw [h]; exact p, r.mono e⟩)
    | (obtain ⟨es, p, r⟩ := m; exact ⟨es, by rw [h]; exact p, L2.Paired.mapP r fun _ _ z => ⟨z.1, same_t e z.2.1, z.2.2⟩⟩)
    | (obtain ⟨ps, p, t, r⟩ := m; exact ⟨ps, by rw [h]; exact p, t, fun pos cv z => let ⟨c, h1, h2⟩ := r pos cv z; ⟨c, h1, e _ _ h2⟩⟩)
theorem same_new {a : Addr} {o : HO} (h : H a = none) : Same H (upd H a o) := fun b u e => by
  rw [upd_ne (ne_of_none e h)]
  exact e
/-- it changes -/
theorem Ok.set (k : Ok K F M H) {a : Addr} {o : HO} {d d' : D} (h : M a = some d) (m : Mt K F (upd H a o) a d') : Ok K F (up M a d') (upd H a o) := by
  have h1 := (k.mt a d h).1
  refine ⟨fun b u e => ?_, fun b d' e => ?_⟩
  · rw [upd_ne (ne_of_none e h1)]
    exact k.ex b u e
  · by_cases hb : b = a
    · subst hb
      rw [up_same] at e; cases e
      exact ⟨h1, m⟩
    · rw [up_ne hb] at e
      obtain ⟨m1, m2⟩ := k.mt b d' e
      exact ⟨m1, m2.mono (Same.refl F) (upd_ne hb)⟩
/-- it is not to change any more -/
theorem Ok.freeze (k : Ok K F M H) {a : Addr} {o : HO} {d : D} (h : M a = some d) (ho : H a = some o) : Same F (upd F a o) ∧ Ok K (upd F a o) (rm M a) H := by
  have h1 := (k.mt a d h).1
  refine ⟨same_new h1, fun b u e => ?_, fun b d' e => ?_⟩
  · by_cases hb : b = a
    · subst hb; rw [upd_same] at e; cases e; exact ho
    · rw [upd_ne hb] at e; exact k.ex b u e
  · unfold rm at e
    by_cases hb : b = a
    · rw [if_pos hb] at e; cases e
    · rw [if_neg hb] at e
      obtain ⟨m1, m2⟩ := k.mt b d' e
      exact ⟨by rw [upd_ne hb]; exact m1, m2.mono (same_new h1) rfl⟩
end

/-- what stays known, whatever is added -/
structure Gh where
  p : Hp → Prop
  mono : ∀ F F', Same F F' → p F → p F'
structure Sts (K : PySem.W.Frag) (J : Gh) (F : Hp) (σ : St) (H : Hp) (ρ : DEnv) (M : Mem) : Prop where
  en : En K F σ ρ
  ok : Ok K F M H
  gh : J.p F
def Kt (K : PySem.W.Frag) (F : Hp) (P : D → Mem → Prop) (Q : VK) : Prop := ∀ d v M' F' H', P d M' → Same F F' → Ok K F' M' H' → Rp K F' v d → Q v H'
def Kb (K : PySem.W.Frag) (F : Hp) (P : Bool → Mem → Prop) (Q : Bool → Hp → Prop) : Prop := ∀ b M' F' H', P b M' → Same F F' → Ok K F' M' H' → Q b H'
def Ka (K : PySem.W.Frag) (F : Hp) (P : List D → Mem → Prop) (Q : List V → Hp → Prop) : Prop := ∀ ds vs M' F' H', P ds M' → Same F F' → Ok K F' M' H' → Rps K F' vs ds → Q vs H'
def tD (K : PySem.W.Frag) (J : Gh) (ρ : DEnv) (M : Mem) (P : D → Mem → Prop) : TE := fun σ H Q => ∃ F, Sts K J F σ H ρ M ∧ Kt K F P Q
def tT (K : PySem.W.Frag) (J : Gh) (ρ : DEnv) (M : Mem) (P : Bool → Mem → Prop) : TT := fun σ H Q => ∃ F, Sts K J F σ H ρ M ∧ Kb K F P Q
def tA (K : PySem.W.Frag) (J : Gh) (ρ : DEnv) (M : Mem) (P : List D → Mem → Prop) : TA := fun σ H Q => ∃ F, Sts K J F σ H ρ M ∧ Ka K F P Q
def EX (X : Cx) (J : Gh) (e : Expr) (ρ : DEnv) (M : Mem) (P : D → Mem → Prop) : Prop := PE X e (tD X.K J ρ M P)
def TX (X : Cx) (J : Gh) (e : Expr) (ρ : DEnv) (M : Mem) (P : Bool → Mem → Prop) : Prop := PT X e (tT X.K J ρ M P)
def WX (X : Cx) (J : Gh) (e : Expr) (ρ : DEnv) (M : Mem) (P : Bool → Mem → Prop) : Prop := PW X e (tT X.K J ρ M P)
def AX (X : Cx) (J : Gh) (es : List Expr) (ρ : DEnv) (M : Mem) (P : List D → Mem → Prop) : Prop := PA X es (tA X.K J ρ M P)
/-- the reading that any derivation may fill -/
def tE (X : Cx) (e : Expr) : TE := fun σ H Q => ∃ t, PE X e t ∧ t σ H Q
def tTe (X : Cx) (e : Expr) : TT := fun σ H Q => ∃ t, PT X e t ∧ t σ H Q
def tWe (X : Cx) (e : Expr) : TT := fun σ H Q => ∃ t, PW X e t ∧ t σ H Q
def tAe (X : Cx) (es : List Expr) : TA := fun σ H Q => ∃ t, PA X es t ∧ t σ H Q
section
variable {X : Cx} {J : Gh} {e : Expr} {es : List Expr} {ρ : DEnv} {M M' : Mem} {F F' H H' : Hp} {σ : St} {P : D → Mem → Prop} {K : PySem.W.Frag}
theorem Sts.to (s : Sts K J F σ H ρ M) (e : Same F F') (o : Ok K F' M' H') : Sts K J F' σ H' ρ M' := ⟨s.en.mono e, o, J.mono _ _ e s.gh⟩
theorem Kt.to {Q : VK} (k : Kt K F P Q) (e : Same F F') : Kt K F' P Q := fun d v M' F2 H' p e2 => k d v M' F2 H' p (e.trans e2)
theorem Kb.to {P : Bool → Mem → Prop} {Q : Bool → Hp → Prop} (k : Kb K F P Q) (e : Same F F') : Kb K F' P Q := fun b M' F2 H' p e2 => k b M' F2 H' p (e.trans e2)
theorem Ka.to {P : List D → Mem → Prop} {Q : List V → Hp → Prop} (k : Ka K F P Q) (e : Same F F') : Ka K F' P Q := fun b vs M' F2 H' p e2 => k b vs M' F2 H' p (e.trans e2)
theorem EX.go (h : EX X J e ρ M P) (s : Sts X.K J F σ H ρ M) {Q : VK} (k : Kt X.K F P Q) : tE X e σ H Q := ⟨_, h, F, s, k⟩
theorem TX.go {P : Bool → Mem → Prop} (h : TX X J e ρ M P) (s : Sts X.K J F σ H ρ M) {Q : Bool → Hp → Prop} (k : Kb X.K F P Q) : tTe X e σ H Q := ⟨_, h, F, s, k⟩
theorem WX.go {P : Bool → Mem → Prop} (h : WX X J e ρ M P) (s : Sts X.K J F σ H ρ M) {Q : Bool → Hp → Prop} (k : Kb X.K F P Q) : tWe X e σ H Q := ⟨_, h, F, s, k⟩
theorem AX.go {P : List D → Mem → Prop} (h : AX X J es ρ M P) (s : Sts X.K J F σ H ρ M) {Q : List V → Hp → Prop} (k : Ka X.K F P Q) : tAe X es σ H Q := ⟨_, h, F, s, k⟩
theorem ex_of {t : TE} (h : PE X e t) (k : ∀ F σ H Q, Sts X.K J F σ H ρ M → Kt X.K F P Q → t σ H Q) : EX X J e ρ M P := ⟨fun pins s σ H Q I ⟨F, st, q⟩ => h.run pins s σ H Q I (k F σ H Q st q)⟩
theorem tx_of {t : TT} {P : Bool → Mem → Prop} (h : PT X e t) (k : ∀ F σ H Q, Sts X.K J F σ H ρ M → Kb X.K F P Q → t σ H Q) : TX X J e ρ M P := ⟨fun pins s σ H Q I ⟨F, st, q⟩ => h.run pins s σ H Q I (k F σ H Q st q)⟩
theorem ax_of {t : TA} {P : List D → Mem → Prop} (h : PA X es t) (k : ∀ F σ H Q, Sts X.K J F σ H ρ M → Ka X.K F P Q → t σ H Q) : AX X J es ρ M P := ⟨fun pos pins s σ H Q I ⟨F, st, q⟩ => h.run pos pins s σ H Q I (k F σ H Q st q)⟩
theorem EX.imp {P' : D → Mem → Prop} (h : EX X J e ρ M P) (k : ∀ d M', P d M' → P' d M') : EX X J e ρ M P' := ex_of h fun F σ H Q st q => ⟨F, st, fun d v M' F' H' p => q d v M' F' H' (k d M' p)⟩
theorem TX.imp {P P' : Bool → Mem → Prop} (h : TX X J e ρ M P) (k : ∀ d M', P d M' → P' d M') : TX X J e ρ M P' := tx_of h fun F σ H Q st q => ⟨F, st, fun d M' F' H' p => q d M' F' H' (k d M' p)⟩
/-- the value as it is, nothing changed -/
theorem Kt.here {Q : VK} {d : D} {v : V} (k : Kt K F P Q) (p : P d M) (o : Ok K F M H) (r : Rp K F v d) : Q v H := k d v M F H p (Same.refl F) o r
theorem Kb.here {P : Bool → Mem → Prop} {Q : Bool → Hp → Prop} {b : Bool} (k : Kb K F P Q) (p : P b M) (o : Ok K F M H) : Q b H := k b M F H p (Same.refl F) o
end
end DX
namespace DX
open PySem PySem.Spec L2

section
variable {X : Cx} {J : Gh} {e a b c : Expr} {es : List Expr} {ρ : DEnv} {M M' : Mem} {F F' H H' : Hp} {σ : St} {P : D → Mem → Prop} {PB : Bool → Mem → Prop} {PA' : List D → Mem → Prop} {K : PySem.W.Frag} {pos : Pos} {x : Str}

def rAnyO (X : Cx) (f : Value → Value → Sem Value) : R2 := fun v u H Q => ∃ r, OpR X f r ∧ r v u H Q
/-- f at the data x, y: what comes -/
def OD (X : Cx) (f : Value → Value → Sem Value) (x y : D) (M : Mem) (P : D → Mem → Prop) : Prop :=
  ∃ r, OpR X f r ∧ ∀ F H v u Q, Ok X.K F M H → Rp X.K F v x → Rp X.K F u y → Kt X.K F P Q → r v u H Q
theorem OD.go {f : Value → Value → Sem Value} {x y : D} (h : OD X f x y M P) {v u : V} {Q : VK} (o : Ok X.K F M H) (rx : Rp X.K F v x) (ry : Rp X.K F u y) (k : Kt X.K F P Q) : rAnyO X f v u H Q := by
  obtain ⟨r, h1, h2⟩ := h
  exact ⟨r, h1, h2 F H v u Q o rx ry k⟩
variable {i j : Int}
/-- scalars: == and != -/
def sc : D → D → Bool
  | .non, .non => true
  | .non, .int _ => true
  | .int _, .non => true
  | .non, .bl _ => true
  | .bl _, .non => true
  | .non, .str _ => true
  | .str _, .non => true
  | .int _, .int _ => true
  | .bl _, .bl _ => true
  | .str _, .str _ => true
  | .int _, .str _ => true
  | .str _, .int _ => true
  | .bl _, .str _ => true
  | .str _, .bl _ => true
  | _, _ => false
inductive Sq (M : Mem) : D → List D → Prop
  | lst {ds : List D} : Sq M (.lst ds) ds
  | tup {ds : List D} : Sq M (.tup ds) ds
  | adr {p : Addr} {ds : List D} : M p = some (.lst ds) → Sq M (.adr p) ds
inductive Sl (M : Mem) : D → List D → Prop
  | lst {ds : List D} : Sl M (.lst ds) ds
  | adr {p : Addr} {ds : List D} : M p = some (.lst ds) → Sl M (.adr p) ds
theorem Sl.get {d : D} {ds : List D} {v : V} (s : Sl M d ds) (o : Ok K F M H) (r : Rp K F v d) : ∃ p xs, v = .ref p ∧ H p = some (.lst xs) ∧ Rps K F xs ds := by
  cases s with
  | lst =>
    cases r with
    | lst h r => exact ⟨_, _, rfl, o.ex _ _ h, r⟩
  | adr h =>
    cases r
    obtain ⟨_, xs, h1, h2⟩ := o.mt _ _ h
    exact ⟨_, xs, rfl, h1, h2⟩
theorem Sq.get {d : D} {ds : List D} {v : V} (s : Sq M d ds) (o : Ok K F M H) (r : Rp K F v d) : ∃ p xs, v = .ref p ∧ (SqL K H p xs ∨ SqT K H p xs) ∧ Rps K F xs ds := by
  cases s with
  | lst =>
    cases r with
    | lst h r => exact ⟨_, _, rfl, .inl (SqL.of (o.ex _ _ h)), r⟩
  | tup =>
    cases r with
    | tup h r => exact ⟨_, _, rfl, .inr (same_t o.ex h), r⟩
  | adr h =>
    cases r
    obtain ⟨_, xs, h1, h2⟩ := o.mt _ _ h
    exact ⟨_, xs, rfl, .inl (SqL.of h1), h2⟩
theorem Sl.sq {d : D} {ds : List D} (s : Sl M d ds) : Sq M d ds := by
  cases s with
  | lst => exact .lst
  | adr h => exact .adr h
end
end DX
namespace DX
open PySem PySem.Spec L2

structure Bd where
  nx : DEnv → Mem → Prop
  rt : D → Mem → Prop
  bk : DEnv → Mem → Prop := fun _ _ => False
  ct : DEnv → Mem → Prop := fun _ _ => False
structure Kd (K : PySem.W.Frag) (F : Hp) (B : Bd) (E : Ends) : Prop where
  nx : ∀ F' σ' H' ρ' M', B.nx ρ' M' → Same F F' → En K F' σ' ρ' → Ok K F' M' H' → E.nx σ' H'
  rt : Kt K F B.rt E.rt
  bk : ∀ F' σ' H' ρ' M', B.bk ρ' M' → Same F F' → En K F' σ' ρ' → Ok K F' M' H' → E.bk σ' H'
  ct : ∀ F' σ' H' ρ' M', B.ct ρ' M' → Same F F' → En K F' σ' ρ' → Ok K F' M' H' → E.ct σ' H'
def tSd (K : PySem.W.Frag) (J : Gh) (ρ : DEnv) (M : Mem) (B : Bd) : TS := fun E σ H => ∃ F, Sts K J F σ H ρ M ∧ Kd K F B E
def GX (X : Cx) (J : Gh) (st : List Stmt) (ρ : DEnv) (M : Mem) (B : Bd) : Prop := PSs X st (tSd X.K J ρ M B)
def G1 (X : Cx) (J : Gh) (st : Stmt) (ρ : DEnv) (M : Mem) (B : Bd) : Prop := PS X st (tSd X.K J ρ M B)
def tSe (X : Cx) (st : List Stmt) : TS := fun E σ H => ∃ t, PSs X st t ∧ t E σ H
def tS1 (X : Cx) (st : Stmt) : TS := fun E σ H => ∃ t, PS X st t ∧ t E σ H
section
variable {X : Cx} {J : Gh} {e a b c : Expr} {es : List Expr} {st : Stmt} {rest sts : List Stmt} {ρ ρ' : DEnv} {M M' : Mem} {F F' H H' : Hp} {σ : St} {B : Bd} {K : PySem.W.Frag} {pos p : Pos} {x : Str} {E : Ends}
theorem Kd.to (k : Kd K F B E) (e : Same F F') : Kd K F' B E :=
  ⟨fun F2 σ' H' ρ' M' p e2 => k.nx F2 σ' H' ρ' M' p (e.trans e2), k.rt.to e, fun F2 σ' H' ρ' M' p e2 => k.bk F2 σ' H' ρ' M' p (e.trans e2), fun F2 σ' H' ρ' M' p e2 => k.ct F2 σ' H' ρ' M' p (e.trans e2)⟩
theorem GX.go (h : GX X J sts ρ M B) (s : Sts X.K J F σ H ρ M) (k : Kd X.K F B E) : tSe X sts E σ H := ⟨_, h, F, s, k⟩
theorem G1.go (h : G1 X J st ρ M B) (s : Sts X.K J F σ H ρ M) (k : Kd X.K F B E) : tS1 X st E σ H := ⟨_, h, F, s, k⟩
theorem gx_of {t : TS} (h : PSs X sts t) (k : ∀ F σ H E, Sts X.K J F σ H ρ M → Kd X.K F B E → t E σ H) : GX X J sts ρ M B := ⟨fun pins s σ H D I ⟨F, st, q⟩ => h.run pins s σ H D I (k F σ H D st q)⟩
theorem GX.imp {B' : Bd} (h : GX X J sts ρ M B) (h1 : ∀ ρ' M', B.nx ρ' M' → B'.nx ρ' M') (h2 : ∀ d M', B.rt d M' → B'.rt d M') (h3 : ∀ ρ' M', B.bk ρ' M' → B'.bk ρ' M') (h4 : ∀ ρ' M', B.ct ρ' M' → B'.ct ρ' M') : GX X J sts ρ M B' :=
  gx_of h fun F σ H E st k => ⟨F, st, fun F' σ' H' ρ' M' q => k.nx F' σ' H' ρ' M' (h1 _ _ q), fun d v M' F' H' q => k.rt d v M' F' H' (h2 _ _ q), fun F' σ' H' ρ' M' q => k.bk F' σ' H' ρ' M' (h3 _ _ q), fun F' σ' H' ρ' M' q => k.ct F' σ' H' ρ' M' (h4 _ _ q)⟩
structure Wk (K : PySem.W.Frag) (F : Hp) (I : It) (ds : List D) : Prop where
  goes : ∀ i H, i < ds.length → Same F H → I.go i H
  stops : ∀ H, Same F H → I.stop ds.length H
  yields : ∀ i d H x H' F1 M, ds[i]? = some d → Same F F1 → Ok K F1 M H → I.yld i H x H' → ∃ F2, Same F1 F2 ∧ Ok K F2 M H' ∧ Rp K F2 x d
theorem Wk.mono {I : It} {ds : List D} (w : Wk K F I ds) (e : Same F F') : Wk K F' I ds :=
  ⟨fun i H hi s => w.goes i H hi (e.trans s), fun H s => w.stops H (e.trans s), fun i d H x H' F1 M hd s => w.yields i d H x H' F1 M hd (e.trans s)⟩
def Ki (K : PySem.W.Frag) (F : Hp) (P : List D → Mem → Prop) (R : It → Hp → Prop) : Prop := ∀ ds I M' F' H', P ds M' → Same F F' → Ok K F' M' H' → Wk K F' I ds → R I H'
/-- what a loop walks -/
def IX (X : Cx) (J : Gh) (tg iter : Expr) (ρ : DEnv) (M : Mem) (P : List D → Mem → Prop) : Prop := PI X tg iter fun σ H R => ∃ F, Sts X.K J F σ H ρ M ∧ Ki X.K F P R
def tIe (X : Cx) (tg iter : Expr) : TI := fun σ H R => ∃ t, PI X tg iter t ∧ t σ H R
theorem IX.go {tg iter : Expr} {P : List D → Mem → Prop} (h : IX X J tg iter ρ M P) (s : Sts X.K J F σ H ρ M) {R : It → Hp → Prop} (k : Ki X.K F P R) : tIe X tg iter σ H R := ⟨_, h, F, s, k⟩
end
end DX
namespace DX
open PySem PySem.Spec L2

section
variable {X : Cx} {J : Gh} {e a b c : Expr} {es : List Expr} {st : Stmt} {rest sts : List Stmt} {ρ ρ' : DEnv} {M M' : Mem} {F F' H H' : Hp} {σ : St} {B : Bd} {K : PySem.W.Frag} {pos p apos : Pos} {x : Str} {P : D → Mem → Prop}

variable {scope : Scope} {tg iter elt : Expr} {ifs : List Expr}
abbrev Tr := List D → Mem → (D → Mem → Prop) → Prop
end
end DX
namespace DX
open PySem PySem.Spec L2

structure FnG (pg : Program) (w : World) (K : PySem.W.Frag) (mg : Str → Option Value) (base : Heap) (k : Nat) (f : Addr) (fd : FuncData) (ps : List Str) (T : Tr) : Prop where
  len : ∀ ds M P, T ds M P → ds.length = ps.length
  go : ∀ (A : Around) (outer : List PySem.Env) (s : Shared) (H F : Hp) (M : Mem) (ds : List D) (P : D → Mem → Prop) (args : Args) (us : List Value) (vs : List V) (Q : VK), A.guards = some [] → Room k A → Env0 pg w K mg base A outer s H →
    BindsTo s fd args (ps.zip us) → Vals vs us → Ok K F M H → Rps K F vs ds → T ds M P → Kt K F P Q → codeAny (model pg w) A (.call (.ref f) args) (CR CX0 outer pg w H s Q E0) s
theorem FnG.mono {pg : Program} {w : World} {K : PySem.W.Frag} {mg : Str → Option Value} {base : Heap} {j k : Nat} {f : Addr} {fd : FuncData} {ps : List Str} {T : Tr} (G : FnG pg w K mg base j f fd ps T) (h : j ≤ k) : FnG pg w K mg base k f fd ps T :=
  ⟨G.len, fun A outer s H F M ds P args us vs Q g hr => G.go A outer s H F M ds P args us vs Q g (hr.mono h)⟩
end DX
namespace DX
open PySem PySem.Spec L2

section
variable {X : Cx} {J : Gh} {e a b c o : Expr} {es : List Expr} {ρ ρ' : DEnv} {M M' : Mem} {F F' H H' : Hp} {σ : St} {B : Bd} {K : PySem.W.Frag} {pos p apos cpos : Pos} {x : Str} {P : D → Mem → Prop}
def KX (X : Cx) (J : Gh) (kws : List Keyword) (ρ : DEnv) (M : Mem) (P : List D → Mem → Prop) : Prop := PK X kws (tA X.K J ρ M P)
def tKe (X : Cx) (kws : List Keyword) : TA := fun σ H Q => ∃ t, PK X kws t ∧ t σ H Q
theorem KX.go {kws : List Keyword} {P : List D → Mem → Prop} (h : KX X J kws ρ M P) (s : Sts X.K J F σ H ρ M) {Q : List V → Hp → Prop} (k : Ka X.K F P Q) : tKe X kws σ H Q := ⟨_, h, F, s, k⟩
end
end DX
namespace DX
open PySem PySem.Spec L2
structure Hs where
  cells : List Int
  at_ : Int
  gr : Int
structure HOk (s : Hs) (n : Int) : Prop where
  a0 : 0 ≤ s.at_
  an : s.at_ ≤ n
  g0 : 0 ≤ s.gr
theorem HOk.mono {s : Hs} {n m : Int} (h : HOk s n) (l : n ≤ m) : HOk s m := ⟨h.a0, by have := h.an; omega, h.g0⟩
end DX
namespace DX
open PySem PySem.Spec L2
def kn : D → String
  | .bl _ => "bool"
  | .int _ => "int"
  | .str _ => "str"
  | .tup _ => "tuple"
  | .lst _ => "list"
  | .dct _ => "dict"
  | _ => "NoneType"
def plain : D → Bool
  | .adr _ => false
  | .ty _ => false
  | .scr _ => false
  | .ins _ _ => false
  | .stup _ => false
  | .exn _ _ => false
  | _ => true
theorem kn_mem (d : D) : kn d ∈ ["NoneType", "bool", "int", "str", "tuple", "list", "dict"] := by
  cases d <;> simp [kn]
section
variable {X : Cx} {J : Gh} {e a b c o : Expr} {es : List Expr} {st : Stmt} {ρ ρ' : DEnv} {M M' : Mem} {F F' H H' : Hp} {σ : St} {B : Bd} {K : PySem.W.Frag} {pos p apos cpos : Pos} {x : Str} {P : D → Mem → Prop}
theorem ty_of {d : D} {v : V} (h : plain d = true) (hs : Same F H) (r : Rp K F v d) : TyX K H v (.type (kn d)) := by
  cases r with
  | non => exact .base .non
  | bl b => exact .base (.bl b)
  | int i => exact .base (.int i)
  | str x => exact .base (.str x)
  | lst h1 r => exact .base (.lst (hs _ _ h1))
  | tup h1 r =>
    rcases h1 with (h1 | ⟨o, h1⟩) | ⟨o, its, n, h1, h2, _⟩
    · exact .base (.tup (hs _ _ h1))
    · exact .fTuple (hs _ _ h1)
    · exact .kTuple h1 h2
  | dct h1 r => exact .base (.dK (hs _ _ h1))
  | adr a => cases h
  | ty n => cases h
  | scr h1 => cases h
  | exn h1 c r => cases h
  | ins h1 r => cases h
  | stup h1 c r => cases h
  | stupK h1 c => cases h
end
end DX
namespace DX
open PySem PySem.Spec L2
def bits (v : Int) (n : Nat) : List D := (List.range n).map fun i => D.int (v / 2 ^ i % 2)
end DX
namespace DX
open PySem PySem.Spec L2
open SX
section
variable {X : Cx} {J : Gh} {M : Mem} {P : D → Mem → Prop}
def acc (f : Nat → Int) : Nat → Int
  | 0 => 0
  | i + 1 => acc f i + 2 ^ i * f i
end
end DX
namespace DX
open PySem PySem.Spec L2 PyProof.Rows StX

/-- t looks names up in the dict at D, one behind another, and ends in what fin says -/
def KwChainE {α : Type} (D : Addr) (fin : Sem α → Prop) : List (Str × Value) → Sem α → Prop
  | [], t => fin t
  | q :: l, t => ∃ (β γ : Type) (k1 : Option Value → Sem β) (k2 : β → Sem γ) (k3 : γ → Sem α) (a : β), t = ((nsGet D q.1 >>= k1) >>= k2) >>= k3 ∧ k1 (some q.2) = pure a ∧ KwChainE D fin l (k2 a >>= k3)
theorem KwChainE.run {α : Type} {K : PySem.W.Frag} {M : Model} {A : Around} {s : Shared} {D : Addr} {fin : Sem α → Prop} {Q : α → Shared → Prop} {E : Value → Shared → Prop} (X : K.In s.heap) (hf : ∀ t, fin t → wpAny M A t Q E s) :
    ∀ {l : List (Str × Value)} {t : Sem α}, (∀ q ∈ l, PySem.W.nsIn K D q.1 = some (some q.2)) → KwChainE D fin l t → wpAny M A t Q E s
  | [], t, _, e => hf t e
  | q :: l, t, hl, e => by
    obtain ⟨β, γ, k1, k2, k3, a, e1, e2, e3⟩ := e
    have l1 : PySem.W.Looks M s.heap (nsGet D q.1 >>= k1) a := (PySem.W.looks_nsIn X (hl q (List.mem_cons_self ..))).andThen (PySem.W.Looks.of_pure e2)
    rw [e1, bind_assoc]
    exact wpAny_bind (l1.here (KwChainE.run X hf (fun p hp => hl p (List.mem_cons_of_mem _ hp)) e3))
section
variable {pg : Program} {w : World} {K : PySem.W.Frag} {mg : Str → Option Value} {base : Heap} {x qual : Str} {params : Arguments} {body : List Stmt} {scope : Scope} {kws : List (Str × V)} {f : Addr} {fd : FuncData} {N pn : List Str} {pv : Str} {k : Nat} {T : Tr} {gd : Bool}
theorem Rps.split {F : Hp} : ∀ {vs : List V} {d1 d2 : List D}, Rps K F vs (d1 ++ d2) → ∃ v1 v2, vs = v1 ++ v2 ∧ Rps K F v1 d1 ∧ Rps K F v2 d2
  | vs, [], d2, h => ⟨[], vs, rfl, .nil, h⟩
  | _, d :: d1, d2, h => by
    cases h with
    | cons a r =>
      obtain ⟨v1, v2, e, r1, r2⟩ := Rps.split r
      exact ⟨_ :: v1, v2, by rw [e]; rfl, .cons a r1, r2⟩
end

section
variable {X : Cx} {J : Gh} {e a b c o : Expr} {es : List Expr} {ρ ρ' : DEnv} {M M' : Mem} {F F' H H' : Hp} {σ : L2.St} {B : Bd} {K : PySem.W.Frag} {pos p apos cpos : Pos} {x : Str} {P : D → Mem → Prop}
def valD (kvs : List (Key × D)) (k : Key) : Option D := (kvs.find? fun kv => decide (kv.1 = k)).map (·.2)
def putD (kvs : List (Key × D)) (k : Key) (v : D) : List (Key × D) :=
  if (kvs.any fun kv => decide (kv.1 = k)) = true then kvs.map (fun kv => if kv.1 = k then (kv.1, v) else kv) else kvs ++ [(k, v)]
theorem Rks.get {k : Key} : ∀ {vs : List (Key × V)} {ds : List (Key × D)}, Rks K F vs ds → (valV vs k = none ∧ valD ds k = none) ∨ ∃ v d, valV vs k = some v ∧ valD ds k = some d ∧ Rp K F v d
  | _, _, .nil => .inl ⟨rfl, rfl⟩
  | _, _, .cons (x := y) h r => by
    by_cases e : y = k
    · exact .inr ⟨_, _, valV_pos e, by simp [valD, List.find?_cons, e], h⟩
    · rcases Rks.get (k := k) r with ⟨h1, h2⟩ | ⟨v, d, h1, h2, h3⟩
      · exact .inl ⟨by rw [valV_neg e]; exact h1, by simpa [valD, List.find?_cons, e] using h2⟩
      · exact .inr ⟨v, d, by rw [valV_neg e]; exact h1, by simpa [valD, List.find?_cons, e] using h2, h3⟩
theorem Rks.any {k : Key} : ∀ {vs : List (Key × V)} {ds : List (Key × D)}, Rks K F vs ds → (vs.any fun kv => decide (kv.1 = k)) = ds.any fun kv => decide (kv.1 = k)
  | _, _, .nil => rfl
  | _, _, .cons h r => by rw [List.any_cons, List.any_cons, Rks.any r]
theorem Rks.over {k : Key} {v : V} {d : D} (h : Rp K F v d) : ∀ {vs : List (Key × V)} {ds : List (Key × D)}, Rks K F vs ds → Rks K F (vs.map fun kv => if kv.1 = k then (kv.1, v) else kv) (ds.map fun kv => if kv.1 = k then (kv.1, d) else kv)
  | _, _, .nil => .nil
  | _, _, .cons (x := y) h' r => by
    rw [List.map_cons, List.map_cons]
    by_cases e : y = k
    · rw [if_pos e, if_pos e]; exact .cons h (Rks.over h r)
    · rw [if_neg e, if_neg e]; exact .cons h' (Rks.over h r)
theorem Rks.append : ∀ {v w : List (Key × V)} {d e : List (Key × D)}, Rks K F v d → Rks K F w e → Rks K F (v ++ w) (d ++ e)
  | _, _, _, _, .nil, s => s
  | _, _, _, _, .cons h r, s => .cons h (Rks.append r s)
theorem Rks.put {k : Key} {v : V} {d : D} {vs : List (Key × V)} {ds : List (Key × D)} (h : Rp K F v d) (r : Rks K F vs ds) : Rks K F (putK vs k v) (putD ds k d) := by
  unfold putK putD
  rw [r.any]
  split
  · exact r.over h
  · exact r.append (.cons h .nil)
end
end DX
namespace DX
open PySem PySem.Spec L2
/-- sys.modules' place holds a dict: read off the written part -/
def sysB (K : PySem.W.Frag) : Bool := match K.lookup sysModules with
  | some o => decide (o.cls = .type "dict")
  | none => false
end DX
namespace DX
open PySem PySem.Spec L2 StX PyProof.Rows
inductive Is (M : Mem) : D → Addr → List (Str × D) → Prop
  | frz {C : Addr} {gs : List (Str × D)} : Is M (.ins C gs) C gs
  | adr {p C : Addr} {gs : List (Str × D)} : M p = some (.ins C gs) → Is M (.adr p) C gs
section
variable {K : PySem.W.Frag} {F H : Hp} {M : Mem}
theorem Is.get {d : D} {C : Addr} {gs : List (Str × D)} {v : V} (s : Is M d C gs) (o : Ok K F M H) (r : Rp K F v d) : ∃ a dx fs, v = .ref a ∧ H a = some (.ins C dx fs) ∧ Rfs K F fs gs := by
  cases s with
  | frz =>
    cases r with
    | ins h r => exact ⟨_, _, _, rfl, o.ex _ _ h, r⟩
  | adr h =>
    cases r
    obtain ⟨_, dx, fs, h1, h2⟩ := o.mt _ _ h
    exact ⟨_, dx, fs, rfl, h1, h2⟩
theorem Rfs.look {f : Str} : ∀ {fs : List (Str × V)} {gs : List (Str × D)}, Rfs K F fs gs → (fs.lookup f = none ∧ gs.lookup f = none) ∨ ∃ v d, fs.lookup f = some v ∧ gs.lookup f = some d ∧ Rp K F v d
  | _, _, .nil => .inl ⟨rfl, rfl⟩
  | _, _, .cons (x := x) h r => by
    by_cases e : f = x
    · subst e; exact .inr ⟨_, _, by simp [List.lookup], by simp [List.lookup], h⟩
    · have e2 : (f == x) = false := by simpa using e
      rcases Rfs.look (f := f) r with ⟨h1, h2⟩ | ⟨v, d, h1, h2, h3⟩
      · exact .inl ⟨by simpa [List.lookup, e2] using h1, by simpa [List.lookup, e2] using h2⟩
      · exact .inr ⟨v, d, by simpa [List.lookup, e2] using h1, by simpa [List.lookup, e2] using h2, h3⟩
def putG (f : Str) (v : D) : List (Str × D) → List (Str × D)
  | [] => [(f, v)]
  | (g, x) :: r => if g = f then (g, v) :: r else (g, x) :: putG f v r
theorem Rfs.put {f : Str} {v : V} {d : D} (h : Rp K F v d) : ∀ {fs : List (Str × V)} {gs : List (Str × D)}, Rfs K F fs gs → Rfs K F (putF f v fs) (putG f d gs)
  | _, _, .nil => .cons h .nil
  | _, _, .cons (x := x) h' r => by
    unfold putF putG
    by_cases e : x = f
    · rw [if_pos e, if_pos e]; exact .cons h r
    · rw [if_neg e, if_neg e]; exact .cons h' (Rfs.put h r)
theorem Rfs.length : ∀ {fs : List (Str × V)} {gs : List (Str × D)}, Rfs K F fs gs → fs.length = gs.length
  | _, _, .nil => rfl
  | _, _, .cons _ r => congrArg Nat.succ r.length
/-- an object beside -/
theorem Ok.more (k : Ok K F M H) {a : Addr} {o : HO} (h : H a = none) : Ok K F M (upd H a o) := by
  refine ⟨fun b u e => ?_, fun b d e => ?_⟩
  · rw [upd_ne (ne_of_none (k.ex b u e) h)]; exact k.ex b u e
  · obtain ⟨m1, m2⟩ := k.mt b d e
    obtain ⟨o2, h2⟩ := m2.there
    exact ⟨m1, m2.mono (Same.refl F) (upd_ne (ne_of_none h2 h))⟩
end
end DX
namespace DX
open PySem PySem.Spec L2
def prAd (K : PySem.W.Frag) (C f : Str) : Addr × Addr := match PySem.W.findIn K (.ref (He.ga K C)) f with
  | some (some (.ref p)) => (match PySem.W.recIn K p "property" with
    | some (.ref g :: _) => (p, g)
    | _ => (match PySem.W.recIn K p "classmethod" with
      | some (.ref g :: _) => (p, g)
      | _ => (0, 0)))
  | _ => (0, 0)
def fnWA (K : PySem.W.Frag) (a : Addr) : He.FnW := match K.lookup a with
  | some ⟨_, _, .func fd, _⟩ => some (fd.name, fd.qualname, fd.params, fd.body, fd.scope, fd.globals, fd.closure, fd.builtins)
  | _ => none
/-- the same of a def that has captured a cell -/
def fnWS (K : PySem.W.Frag) (a : Addr) : He.FnW := match K.lookup a with
  | some ⟨_, _, .func fd, _⟩ => some (fd.name, fd.qualname, fd.params, fd.body, fd.scope, fd.globals, [], fd.builtins)
  | _ => none
/-- a property's getter: the class, the property's name; its def -/
def prB (K : PySem.W.Frag) (C f q : Str) : Bool :=
  He.eqO (PySem.W.findIn K (.ref (He.ga K C)) f) (some (some (.ref (prAd K C f).1))) && (He.eqO (PySem.W.specialIn K (.ref (prAd K C f).1) "__get__") (some (some (.builtin "property.__get__"))) &&
    (decide (PySem.W.takesIn K (.ref (prAd K C f).1) = some true) && ((match PySem.W.recIn K (prAd K C f).1 "property" with
      | some (v :: _) => decide (v = .ref (prAd K C f).2)
      | _ => false) && (PySem.W.keepIn K (.ref (prAd K C f).2) && (match K.lookup (prAd K C f).2 with
        | some ⟨_, _, .func fd, _⟩ => PySem.W.codeIn K fd.code q && (He.dflB K fd.defaults [] && He.kwdB K fd.kwdefaults [])
        | _ => false)))))
/-- a classmethod: the class, its name; its def -/
def cmB (K : PySem.W.Frag) (C f q : Str) : Bool :=
  PySem.W.readsIn K (He.ga K C) (.type "type") && (He.eqO (PySem.W.specialIn K (.ref (He.ga K C)) "__getattribute__") (some (some (.builtin "type.__getattribute__"))) &&
    ((match PySem.W.findCls K (.ref (He.ga K C)) (.type "type") f with
      | some (.get (.builtin g) (.ref p) .none (.ref D)) => decide (g = "classmethod.__get__") && (decide (p = (prAd K C f).1) && decide (D = He.ga K C))
      | _ => false) && ((match PySem.W.recIn K (prAd K C f).1 "classmethod" with
      | some (v :: _) => decide (v = .ref (prAd K C f).2)
      | _ => false) && (PySem.W.fnIn K (prAd K C f).2 && (PySem.W.keepIn K (.ref (prAd K C f).2) && (match K.lookup (prAd K C f).2 with
        | some ⟨_, _, .func fd, _⟩ => PySem.W.codeIn K fd.code q && (He.dflB K fd.defaults [] && He.kwdB K fd.kwdefaults [])
        | _ => false))))))
/-- a setter: the property's record, its second def -/
def psAd (K : PySem.W.Frag) (C f : Str) : Addr × Addr := match PySem.W.findIn K (.ref (He.ga K C)) f with
  | some (some (.ref p)) => (match PySem.W.recIn K p "property" with
    | some (_ :: .ref g :: _) => (p, g)
    | _ => (0, 0))
  | _ => (0, 0)
def psB (K : PySem.W.Frag) (C f q : Str) : Bool :=
  He.eqO (PySem.W.takerIn K (He.ga K C) f) (some (some (.ref (psAd K C f).1))) && (decide (PySem.W.typeIn K (.ref (psAd K C f).1) = some (.type "property")) &&
    ((match PySem.W.recIn K (psAd K C f).1 "property" with
      | some (_ :: v :: _) => decide (v = .ref (psAd K C f).2)
      | _ => false) && (PySem.W.keepIn K (.ref (psAd K C f).2) && (match K.lookup (psAd K C f).2 with
        | some ⟨_, _, .func fd, _⟩ => PySem.W.codeIn K fd.code q && (He.dflB K fd.defaults [] && He.kwdB K fd.kwdefaults [])
        | _ => false))))
/-- a getter's def (0; at_: the class, the property), a classmethod's (1), a setter's (2) -/
structure PrD where
  kd : Nat
  cls : Str
  nm : Str
  qual : Str
  params : Arguments
  body : List Stmt
  scope : Scope
def PrD.ad (K : PySem.W.Frag) (d : PrD) : Addr × Addr := match d.kd with
  | 2 => psAd K d.cls d.nm
  | 3 => (He.fAd K (d.cls, some d.nm), He.fAd K (d.cls, some d.nm))
  | _ => prAd K d.cls d.nm
/-- what is seen of it: a method that has captured a cell (3) without that cell -/
def PrD.fw (K : PySem.W.Frag) (d : PrD) : He.FnW := match d.kd with
  | 3 => fnWS K (d.ad K).2
  | _ => fnWA K (d.ad K).2
def PrD.okB (K : PySem.W.Frag) (d : PrD) : Bool := match d.kd with
  | 0 => prB K d.cls d.nm d.qual
  | 1 => cmB K d.cls d.nm d.qual
  | 2 => psB K d.cls d.nm d.qual
  | 3 => true
  | _ => false
def PrD.val (d : PrD) : He.FnW := some (d.nm, d.qual, d.params, .stmts d.body, d.scope, mainGlobals, [], builtinsNs)
def obsP (fa : List He.Fa) (fn : List He.DefD) (pr : List PrD) (ex : PySem.W.Frag → Bool) (K : PySem.W.Frag) : He.AlD × Bool × List He.FnW :=
  (He.obsD fa fn K, ex K && pr.all (fun d => d.okB K), pr.map fun d => d.fw K)
def SaysP (fa : List He.Fa) (fn : List He.DefD) (pr : List PrD) (ex : PySem.W.Frag → Bool) (K : PySem.W.Frag) : Prop := obsP fa fn pr ex K = (He.valD fn, true, pr.map PrD.val)
section
variable {fa : List He.Fa} {fn : List He.DefD} {pr : List PrD} {ex : PySem.W.Frag → Bool} {K : PySem.W.Frag}
theorem SaysP.says (c : SaysP fa fn pr ex K) : He.SaysD fa fn K := congrArg Prod.fst c
end
/-- a class that stands first among those that its instances are looked up in -/
def sfB (K : PySem.W.Frag) (C : Str) : Bool := PySem.W.selfFirst K (He.ga K C)
/-- a constant of a class, an int -/
def conB (K : PySem.W.Frag) (C f : Str) (i : Int) : Bool := match PySem.W.findIn K (.ref (He.ga K C)) f with
  | some (some (.int j t)) => decide (j = i) && He.eqO (PySem.W.specialIn K (.int j t) "__get__") (some none)
  | _ => false
/-- its instances may be called -/
def callB (K : PySem.W.Frag) (C : Str) : Bool := He.eqO (PySem.W.findIn K (.ref (He.ga K C)) "__call__") (some (some (.ref (He.ma K (He.ga K C) "__call__")))) && (PySem.W.isFn K (.ref (He.ma K (He.ga K C) "__call__")) && PySem.W.fnIn K (He.ma K (He.ga K C) "__call__"))
end DX
namespace DX
open PySem PySem.Spec L2
/-- what a look at the module tells of the class C -/
def isiB (K : PySem.W.Frag) (C : Str) : Bool :=
  He.eqO (PySem.W.findIn K (.ref (He.ga K C)) "__class__") (some (some (.builtin "object.__class__"))) && (He.eqO (PySem.W.specialIn K (.builtin "object.__class__") "__get__") (some (some (.builtin "getset_descriptor.__get__"))) &&
    (decide (PySem.W.takesIn K (.builtin "object.__class__") = some true) && (decide (PySem.W.mroIn K (He.ga K C) (.type "object") = some true) &&
      (["NoneType", "bool", "int", "str", "tuple", "list", "dict"].all fun n => decide (PySem.W.kitOne K (.type n) (.ref (He.ga K C)) = some false)))))
end DX
namespace DX
open PySem PySem.Spec L2
section
variable {X : Cx} {J : Gh} {e a b c : Expr} {es : List Expr} {ρ ρ' : DEnv} {M M' : Mem} {F F' H H' : Hp} {σ : St} {B : Bd} {K : PySem.W.Frag} {pos p : Pos} {x : Str} {P : D → Mem → Prop}
variable {scope : Scope} {tg iter elt : Expr} {ifs : List Expr}
theorem En.frz : ∀ {σ : St} {ρ : DEnv} {i : Nat} {q : Addr} {d : D}, En K F σ ρ → DX.look ρ i = some (.adr q) → Rp K F (.ref q) d → En K F σ (DX.put ρ i d)
  | _, _, i, _, _, .nil, e, _ => by simp [DX.look] at e
  | _, _, 0, q, d, .cons h r, e, rq => .cons (fun x z => by
    obtain ⟨y, a, b⟩ := h (.adr q) e
    cases z
    cases b
    exact ⟨_, a, rq⟩) r
  | _, _, i + 1, q, d, .cons h r, e, rq => .cons h (En.frz r e rq)
end
end DX
namespace DX
open PySem PySem.Spec L2 SX

noncomputable section
theorem so {α : Type} {a b : α} (h : some a = some b) : a = b := Option.some.inj h
def frzD : D → Bool
  | .lst _ => true
  | .ins _ _ => true
  | .dct _ => true
  | _ => false
/-- x, as it stands in a name, is seen as d -/
inductive Vw (M : Mem) : D → D → Prop
  | id {d : D} : Vw M d d
  | ad {p : Addr} {d : D} : M p = some d → frzD d = true → Vw M (.adr p) d
section
variable {X : Cx} {J : Gh} {e a b c o : Expr} {es : List Expr} {ρ ρ' : DEnv} {M M' : Mem} {F F' H H' : Hp} {σ : L2.St} {B : Bd} {K : PySem.W.Frag} {pos p apos cpos : Pos} {x y dx dy z : D} {P : D → Mem → Prop} {t : Bool}
theorem Vw.sl {ds : List D} (v : Vw M x (.lst ds)) : Sl M x ds := by
  cases v with
  | id => exact .lst
  | ad h hf => exact .adr h
theorem Vw.sq {ds : List D} (v : Vw M x (.lst ds)) : Sq M x ds := v.sl.sq
theorem Vw.rtup {ds : List D} {v : V} (w : Vw M x (.tup ds)) (o : Ok K F M H) (r : Rp K F v x) : Rp K F v (.tup ds) := by
  cases w with
  | id => exact r
  | ad h hf => exact (o.mt _ _ h).2.elim
theorem Vw.int {i : Int} (w : Vw M x (.int i)) (o : Ok K F M H) : x = .int i := by
  cases w with
  | id => rfl
  | ad h hf => exact (o.mt _ _ h).2.elim
theorem Vw.str {i : Str} (w : Vw M x (.str i)) (o : Ok K F M H) : x = .str i := by
  cases w with
  | id => rfl
  | ad h hf => exact (o.mt _ _ h).2.elim
/-- a list, a tuple, as lists of V -/
theorem Vw.seq {ds : List D} {v : V} (w : Vw M x z) (hz : z = .lst ds ∨ z = .tup ds) (o : Ok K F M H) (r : Rp K F v x) : ∃ p xs, v = .ref p ∧ (SqL K H p xs ∨ SqT K H p xs) ∧ Rps K F xs ds := by
  rcases hz with rfl | rfl
  · exact w.sq.get o r
  · have r := w.rtup o r
    cases r with
    | tup h r => exact ⟨_, _, rfl, .inr (same_t o.ex h), r⟩
/-- plain data but in what changes -/
def imm : D → Bool
  | .lst _ => false
  | .ins _ _ => false
  | .dct _ => false
  | .tbl _ => false
  | .dtx _ => false
  | _ => true
theorem Vw.rp {v : V} (w : Vw M x z) (hz : imm z = true) (o : Ok K F M H) (r : Rp K F v x) : Rp K F v z := by
  cases w with
  | id => exact r
  | ad h hf =>
    have := (o.mt _ _ h).2
    cases z <;> first | exact this.elim | cases hz

end
end
end DX
namespace DX
open PySem PySem.Spec L2 SX
noncomputable section
section
variable {X : Cx} {J : Gh} {e a b c o : Expr} {es : List Expr} {ρ ρ' : DEnv} {M M' M0 M1 : Mem} {F F' H H' : Hp} {σ : L2.St} {B : Bd} {K : PySem.W.Frag} {pos p apos cpos : Pos} {x y dx dy z : D} {P : D → Mem → Prop} {t : Bool}
def Sub (M0 M1 : Mem) : Prop := ∀ a d, M0 a = some d → M1 a = some d
def SubX (p : Addr) (M0 M1 : Mem) : Prop := ∀ a d, M0 a = some d → a ≠ p ∧ M1 a = some d
theorem Ok.sub (o : Ok K F M1 H) (s : Sub M0 M1) : Ok K F M0 H := ⟨o.ex, fun a d h => o.mt a d (s a d h)⟩
theorem Ok.frz {p : Addr} {u : HO} (o : Ok K F M1 H) (s : SubX p M0 M1) {d : D} (hp : M1 p = some d) (hH : H p = some u) : Same F (upd F p u) ∧ Ok K (upd F p u) M0 H := by
  obtain ⟨h1, h2⟩ := o.freeze hp hH
  refine ⟨h1, h2.sub fun a d' q => ?_⟩
  obtain ⟨q1, q2⟩ := s a d' q
  unfold rm; rw [if_neg q1]; exact q2
theorem Mt.rp {p : Addr} {d : D} {u : HO} (m : Mt K F H p d) (h : H p = some u) (s : Same F F') (hF : F' p = some u) (hf : frzD d = true) : Rp K F' (.ref p) d := by
  cases d <;> first
    | exact m.elim
    | (cases hf; done)
    | (obtain ⟨xs, g1, g2⟩ := m; rw [h] at g1; cases g1; first | exact .lst hF (g2.mono s) | exact .dct hF (g2.mono s))
    | (obtain ⟨dx, fs, g1, g2⟩ := m; rw [h] at g1; cases g1; exact .ins hF (g2.mono s))
theorem AX.imp {P' Q' : List D → Mem → Prop} (h : AX X J es ρ M P') (k : ∀ d M', P' d M' → Q' d M') : AX X J es ρ M Q' := ax_of h fun F σ H Q st q => ⟨F, st, fun d v M' F' H' p => q d v M' F' H' (k d M' p)⟩
end
end
end DX
namespace DX
open PySem PySem.Spec L2
open PyProof.Rows hiding St
section
variable {X : Cx} {J : Gh} {e a b c o : Expr} {es : List Expr} {ρ : DEnv} {M : Mem} {F F' H H' : Hp} {σ : St} {K : PySem.W.Frag} {pos p q apos cpos : Pos} {P : D → Mem → Prop} {f : Str}
/-- an instance, or the place of one that may change -/
inductive Iw (M : Mem) : D → D → Prop
  | id {d : D} : Iw M d d
  | ad {p : Addr} {d : D} : M p = some d → Iw M (.adr p) d
theorem Iw.is {d : D} {C : Addr} {gs : List (Str × D)} (w : Iw M d (.ins C gs)) : Is M d C gs := by
  cases w with
  | id => exact .frz
  | ad h => exact .adr h
end
end DX
namespace DX
open PySem PySem.Spec L2 PyProof.Rows StX
/-- what is let out: a class, the fields, what may change -/
abbrev RX := Addr → List (Str × D) → Mem → Prop
def noX : RX := fun _ _ _ => False
def ExR (K : PySem.W.Frag) (F : Hp) (C : Addr) (gs : List (Str × D)) (cls : Value) (d : Option Addr) : Prop :=
  cls = .ref C ∧ ((gs = [] ∧ d = none) ∨ ∃ dd fs, d = some dd ∧ F dd = some (.xd fs) ∧ Rfs K F fs gs)
def Kx (K : PySem.W.Frag) (F : Hp) (R : RX) (E : XK) : Prop := ∀ C gs M' F' H' cls d, R C gs M' → Same F F' → Ok K F' M' H' → ExR K F' C gs cls d → E cls d H'
theorem Kx.to {K : PySem.W.Frag} {F F' : Hp} {R : RX} {E : XK} (k : Kx K F R E) (e : Same F F') : Kx K F' R E := fun C gs M' F2 H' cls d r e2 => k C gs M' F2 H' cls d r (e.trans e2)
theorem Kx.no {K : PySem.W.Frag} {F : Hp} {E : XK} : Kx K F noX E := fun _ _ _ _ _ _ _ r => r.elim
abbrev TrX := List D → List D → Mem → (D → Mem → Prop) → RX → Prop
structure FnX (pg : Program) (w : World) (K : PySem.W.Frag) (mg : Str → Option Value) (base : Heap) (gd : Bool) (k : Nat) (f : Addr) (ks : List Str) (T : TrX) : Prop where
  go : ∀ (A : Around) (outer : List PySem.Env) (s : Shared) (H F : Hp) (M : Mem) (ds zs : List D) (P : D → Mem → Prop) (R : RX) (us ws : List Value) (vs xs : List V) (Q : VK) (E : XK), (gd = true → A.guards = some []) → Room k A → Env0 pg w K mg base A outer s H →
    Vals vs us → Vals xs ws → ws.length = ks.length → Ok K F M H → Rps K F vs ds → Rps K F xs zs → T ds zs M P R → Kt K F P Q → Kx K F R E → codeAny (model pg w) A (.call (.ref f) ⟨us, ks.zip ws⟩) (CR (L2.CX pg w) outer pg w H s Q E) s
theorem FnX.mono {pg : Program} {w : World} {K : PySem.W.Frag} {mg : Str → Option Value} {base : Heap} {gd : Bool} {j k : Nat} {f : Addr} {ks : List Str} {T : TrX} (G : FnX pg w K mg base gd j f ks T) (h : j ≤ k) : FnX pg w K mg base gd k f ks T :=
  ⟨fun A outer s H F M ds zs P R us ws vs xs Q E hg hr => G.go A outer s H F M ds zs P R us ws vs xs Q E hg (hr.mono h)⟩
/-- the context lets out what R tells -/
structure Lets (X : Cx) (J : Gh) (R : Addr → List (Str × D) → DEnv → Mem → Prop) : Prop where
  ex : ∃ W : L2.WX, Takes X W ∧ ∀ cls d σ H F ρ M C gs, Sts X.K J F σ H ρ M → ExR X.K F C gs cls d → R C gs ρ M → W cls d σ H
theorem takes_no {X : Cx} : Takes X (fun _ _ _ _ => False) := fun _ _ x => by
  obtain ⟨_, _, _, _, _, _, _, _, _, _, _, _, _, _, _, _, z⟩ := x
  exact z.elim
theorem Lets.no {X : Cx} {J : Gh} : Lets X J (fun _ _ _ _ => False) := ⟨_, takes_no, fun _ _ _ _ _ _ _ _ _ _ _ r => r⟩
end DX
namespace DX
open PySem PySem.Spec L2 PyProof.Rows StX
section
variable {X : Cx} {J : Gh} {e a b o : Expr} {es : List Expr} {kws : List Keyword} {ks : List Str} {ρ : DEnv} {M M1 M2 : Mem} {F F' H H' : Hp} {σ : L2.St} {K : PySem.W.Frag} {pos p apos : Pos} {x m f : Str} {P : D → Mem → Prop} {PA : List D → List D → Mem → Prop} {RR : Addr → List (Str × D) → DEnv → Mem → Prop}
/-- the arguments are ds by place, zs by the keywords ks -/
def EvA (X : Cx) (J : Gh) (pos : Pos) (args : List Expr) (kws : List Keyword) (ks : List Str) (ρ : DEnv) (M : Mem) (PA : List D → List D → Mem → Prop) : Prop :=
  ∀ (fv : Value) (pins : List (Addr × Obj)) (σ : L2.St) (H F : Hp) (s : Shared) (Qa : Args → Shared → Prop), L2.Inv X pins σ H s → Sts X.K J F σ H ρ M →
    (∀ us ws vs xs ds zs F2 M2 H2 s2, L2.Inv X pins σ H2 s2 → Same F F2 → Ok X.K F2 M2 H2 → Vals vs us → Vals xs ws → Rps X.K F2 vs ds → Rps X.K F2 xs zs → zs.length = ks.length → PA ds zs M2 → Qa ⟨us, ks.zip ws⟩ s2) →
    wpAny (model X.prog X.w) X.A (evalArgs fv true (backTo pos (starEach args X.env)) (backToKw pos (keywordEach kws X.env))) Qa X.xe s
end
end DX
namespace DX
open PySem PySem.Spec L2 PyProof.Rows StX
/-- a value, that of an instance that changes no more, or one that may change -/
theorem Iw.rp {K : PySem.W.Frag} {F H : Hp} {M : Mem} {d : D} {C : Addr} {gs : List (Str × D)} {v : V} (i : Iw M d (.ins C gs)) (o : Ok K F M H) (r : Rp K F v d) : ∃ a dx fs, v = .ref a ∧ H a = some (.ins C dx fs) ∧ Rfs K F fs gs := i.is.get o r
section
variable {X : Cx} {J : Gh} {e a b o : Expr} {es : List Expr} {kws : List Keyword} {ks : List Str} {ρ : DEnv} {M M1 M2 : Mem} {F F' H H' : Hp} {σ : L2.St} {K : PySem.W.Frag} {pos p apos : Pos} {x m f : Str} {P : D → Mem → Prop} {RR : Addr → List (Str × D) → DEnv → Mem → Prop}
/-- the other side of a comparison: a value of a built-in type, or an instance of a class that does not go first -/
def Other (K : PySem.W.Frag) (C : Addr) (M : Mem) (y : D) : Prop := (plain y = true ∧ ∀ n ∈ ["NoneType", "bool", "int", "str", "tuple", "list", "dict"], PySem.W.subIn K (.type n) (.ref C) = some false) ∨ ∃ C' hs, Is M y C' hs ∧ PySem.W.notFirst K C (.ref C') = true
theorem Other.ty {C : Addr} {y : D} {v : V} {u : Value} {pins : List (Addr × Obj)} {s : Shared} (h : Other X.K C M y) (I : L2.Inv X pins σ H s) (o : Ok X.K F M H) (r : Rp X.K F v y) (rv : RelV v u) : ∃ tb, PySem.W.Looks (model X.prog X.w) s.heap (typeOf u) tb ∧ PySem.W.notFirst X.K C tb = true := by
  rcases h with ⟨h, hn⟩ | ⟨C', hs, hi, hn⟩
  · have ty := ty_of h o.ex r
    refine ⟨.type (kn y), ?_, by unfold PySem.W.notFirst; rw [hn _ (kn_mem y)]; simp⟩
    obtain ⟨Pk, kx, hp, _⟩ := kit_of I rv ty
    exact kx.ty _ _ I.kIn hp
  · obtain ⟨b, dy, fs', rfl, h2, _⟩ := hi.get o r
    obtain rfl : u = Value.ref b := rv
    obtain ⟨oy, od', J1, _⟩ := insC_at (X := X) I (.inr ⟨dy, fs', h2⟩)
    exact ⟨.ref C', J1.type, hn⟩
end
end DX
namespace DX
open PySem PySem.Spec L2 PyProof.Rows StX
abbrev mroV : List Value := [.type "ValueError", .type "Exception", .type "BaseException", .type "object"]
abbrev mroL : List Value := [.type "LookupError", .type "Exception", .type "BaseException", .type "object"]
end DX
namespace DX
open PySem PySem.Spec L2 PyProof.Rows StX
def Zk (K : PySem.W.Frag) : Str → Addr := fun x => He.ga K x
/-- an instance of the class C -/
def isC (C : Addr) : D → Option (List (Str × D))
  | .ins C' gs => if C' = C then some gs else none
  | _ => none
def oexB (newId : String) (bmB : List Value) (K : PySem.W.Frag) (C : Addr) : Bool :=
  PySem.W.excInitIn K C bmB newId && (He.eqO (PySem.W.findIn K (.ref C) "__setattr__") (some (some (.builtin "object.__setattr__"))) && (decide (PySem.W.subIn K (.ref C) (.type "BaseException") = some true) && (decide (PySem.W.typeIn K (.ref C) = some (.type "type")) &&
    (PySem.W.keepIn K (.ref C) && (PySem.W.excOver K C bmB && PySem.W.hasDictIn K C)))))
def errB (newId : String) (bmB : List Value) (K : PySem.W.Frag) (C : Str) : Bool :=
  oexB newId bmB K (He.ga K C) && (He.eqO (PySem.W.findIn K (.ref (He.ga K C)) "__init__") (some (some (.ref (He.fAd K (C, some "__init__"))))) && decide (PySem.W.typeIn K (.ref (He.fAd K (C, some "__init__"))) = some (.type "function")))
/-- a property of each of some classes, checked -/
def allB (K : PySem.W.Frag) (L : List Str) (p : Addr → Bool) : Bool := L.all fun x => p (He.ga K x)
end DX
namespace DX
open PySem PySem.Spec L2 PyProof.Rows StX LamX
/-- a def's code object and its table of code objects -/
def ctA (K : PySem.W.Frag) (x : Str × Option Str) : Addr × Addr := match K.lookup (He.fAd K x) with
  | some ⟨_, _, .func fd, _⟩ => (match fd.code with
    | .ref c => (match K.lookup c with
      | some ⟨_, _, .fields vs, _⟩ => (match (vs[11]? : Option Value) with
        | some (.ref P) => (c, P)
        | _ => (0, 0))
      | _ => (0, 0))
    | _ => (0, 0))
  | _ => (0, 0)
/-- the places of the tables and the names of what stands in them -/
abbrev TbL := List ((Str × Option Str) × Str)
end DX
namespace DX
open PySem PySem.Spec L2 PyProof.Rows StX LamX
abbrev TbN := List (Str × Option Str)
/-- what is known of the tables -/
structure TbK (K : PySem.W.Frag) (tn : TbN) (h : Heap) : Prop where
  ex : ∀ x ∈ tn, PySem.W.CodeHd h (ctA K x).1 (ctA K x).2 ∧ h.get? (ctA K x).2 = some { cls := .none, data := .fields #[] } ∧ K.lookup (ctA K x).2 = none
def tbOne (K : PySem.W.Frag) (tl : TbL) : Bool := tl.all fun x => match tl.find? fun y => (ctA K y.1).2 == (ctA K x.1).2 with
  | some y => decide (y.2 = x.2)
  | none => false
def hid (K : PySem.W.Frag) (tl : TbL) (H : Hp) : Hp := fun b => if (tl.any fun x => (ctA K x.1).2 == b) = true then none else H b
def cutK (K : PySem.W.Frag) (ps : List Addr) : PySem.W.Frag := K.filter fun p => !ps.contains p.1
theorem cutK_sub {ps : List Addr} {a : Addr} {o : Obj} : ∀ {K : PySem.W.Frag}, (cutK K ps).lookup a = some o → K.lookup a = some o
  | [], h => h
  | (b, ob) :: r, h => by
    unfold cutK at h
    rw [List.filter_cons] at h
    by_cases e : (!ps.contains b) = true
    · rw [if_pos (by exact e)] at h
      rw [List.lookup_cons] at h ⊢
      cases q : a == b with
      | true => rw [q] at h; exact h
      | false => rw [q] at h; exact cutK_sub (K := r) h
    · rw [if_neg (by exact e)] at h
      have h2 := cutK_sub (K := r) h
      rw [List.lookup_cons]
      cases q : a == b with
      | true =>
        have : a = b := beq_iff_eq.mp q
        subst this
        exfalso
        have hc : ps.contains a = true := by simpa using e
        have none_ : ∀ K : PySem.W.Frag, (cutK K ps).lookup a = none := fun K => by
          induction K with
          | nil => rfl
          | cons p r ih =>
            unfold cutK at ih ⊢
            rw [List.filter_cons]
            split
            · rename_i hq
              rw [List.lookup_cons]
              cases z : a == p.1 with
              | true =>
                have : a = p.1 := beq_iff_eq.mp z
                rw [← this, hc] at hq
                cases hq
              | false => exact ih
            · exact ih
        have := none_ r
        unfold cutK at this
        rw [this] at h; cases h
      | false => exact h2
def emptyTab (o : Option Obj) : Bool := match o with
  | some ⟨.none, none, .fields vs, sl⟩ => vs.size == 0 && sl.size == 0
  | _ => false
theorem emptyTab_eq {o : Option Obj} (h : emptyTab o = true) : o = some { cls := .none, data := .fields #[] } := by
  unfold emptyTab at h
  split at h
  · rename_i vs sl
    obtain ⟨h1, h2⟩ := He.ba h
    have e1 : vs = #[] := Array.eq_empty_of_size_eq_zero (beq_iff_eq.mp h1)
    have e2 : sl = #[] := Array.eq_empty_of_size_eq_zero (beq_iff_eq.mp h2)
    rw [e1, e2]
  · cases h
abbrev LookT := (He.AlD × Bool × List He.FnW) × Bool
def tabsB (K0 K : PySem.W.Frag) (tl : TbL) : Bool := tl.all (fun x => PySem.W.codeHdIn K (ctA K x.1).1 (ctA K x.1).2 && (emptyTab (K0.lookup (ctA K x.1).2) && (K.lookup (ctA K x.1).2).isNone)) && tbOne K tl
def addM : List Addr → List Addr → Nat → List Addr × Nat
  | [], acc, m => (acc, m)
  | a :: as, acc, m => match Nat.beq (Nat.land (Nat.shiftRight m a) 1) 1 with
    | true => addM as acc m
    | false => addM as (a :: acc) (Nat.lor m (Nat.shiftLeft 1 a))
def stepM (g : Addr → Option Obj) : List Addr → List Addr → Nat → List Addr × Nat
  | [], acc, m => (acc, m)
  | a :: as, acc, m => match g a with
    | some o => let r := addM (He.refsD o) acc m; stepM g as r.1 r.2
    | none => stepM g as acc m
def asM (g : Addr → Option Obj) : Nat → List Addr → Nat → List Addr
  | 0, fr, _ => fr
  | n + 1, fr, m => let r := stepM g fr [] m; fr ++ asM g n r.1 r.2
def asN (g : Addr → Option Obj) (n : Nat) : List Addr := asM g n [mainGlobals] (Nat.shiftLeft 1 mainGlobals)
def lookT (fa : List He.Fa) (fn : List He.DefD) (pr : List PrD) (ex : PySem.W.Frag → Bool) (tl : TbL) (n : Nat) (g : Addr → Option Obj) : LookT :=
  let K0 := He.frG g (cStatics :: sysModules :: asN g n)
  let K := cutK K0 (tl.map fun x => (ctA K0 x.1).2)
  (obsP fa fn pr ex K, tabsB K0 K tl)
def SaysT (fa : List He.Fa) (fn : List He.DefD) (pr : List PrD) (ex : PySem.W.Frag → Bool) (tl : TbL) (h : Heap) : Prop := ∃ K : PySem.W.Frag, K.In h ∧ SaysP fa fn pr ex K ∧ TbK K (tl.map (·.1)) h ∧ tbOne K tl = true
theorem saysT_of {fa : List He.Fa} {fn : List He.DefD} {pr : List PrD} {ex : PySem.W.Frag → Bool} {tl : TbL} {n : Nat} {h : Heap} (e : lookT fa fn pr ex tl n h.get? = ((He.valD fn, true, pr.map PrD.val), true)) : SaysT fa fn pr ex tl h := by
  have e1 := congrArg Prod.fst e
  have e2 : tabsB _ _ tl = true := congrArg Prod.snd e
  have in0 : PySem.W.Frag.In (He.frG h.get? (cStatics :: sysModules :: asN h.get? n)) h := He.frG_in
  refine ⟨_, fun b o z => in0 b o (cutK_sub z), e1, ⟨fun x hx => ?_⟩, (He.ba e2).2⟩
  obtain ⟨y, hy, rfl⟩ := List.mem_map.mp hx
  obtain ⟨q1, q⟩ := He.ba (List.all_eq_true.mp (He.ba e2).1 y hy)
  obtain ⟨q2, q3⟩ := He.ba q
  exact ⟨PySem.W.codeHd_of_K (fun b o z => in0 b o (cutK_sub z)) q1, in0 _ _ (emptyTab_eq q2), Option.isNone_iff_eq_none.mp q3⟩
def hookT (n : Nat) (fa : List He.Fa) (fn : List He.DefD) (pr : List PrD) (ex : PySem.W.Frag → Bool) (tl : TbL) : PySem.W.Hook where
  α := LookT
  obs := fun s => lookT fa fn pr ex tl n s.heap.get?
  val := fun _ => ((He.valD fn, true, pr.map PrD.val), true)
  says := fun _ h => SaysT fa fn pr ex tl h
  of := fun _ _ e => saysT_of e
  keeps := fun _ _ _ ⟨K, hK, c, t, u⟩ k => ⟨K, PySem.W.Frag.In.keeps hK k, c, ⟨fun x hx => let ⟨q1, q2, q3⟩ := t.ex x hx; ⟨q1.keeps k, k _ _ q2, q3⟩⟩, u⟩
end DX
namespace ZipL
open PySem PySem.Spec L2 PyProof.Rows
theorem zip_no_len : typeLookup (.type "zip") "__len__" = pure none := by rw [typeLookup_type, builtinLookup_eq_fast]; kernel_rfl
theorem zip_no_hint : typeLookup (.type "zip") "__length_hint__" = pure none := by rw [typeLookup_type, builtinLookup_eq_fast]; kernel_rfl
/-- the zip has given i pairs -/
def ZSt (z TI TO i1 i2 l1 l2 S : Addr) (xs ys : Array Value) (i : Nat) (h : Heap) : Prop :=
  IsPair h TI (.ref i1) (.ref i2) ∧ h.IsListIter i1 l1 i ∧ h.IsListIter i2 l2 i ∧ h.IsList l1 xs ∧ h.IsList l2 ys ∧ ((IsZip h z TI TO .none ∧ ∃ a b, IsPair h TO a b) ∨ ∃ T f oT, IsZipHeld h z TI TO T f ∧ h.get? T = some oT ∧ T ≠ z ∧ T ≠ i1 ∧ T ≠ i2 ∧ T ≠ S)
/-- the pairs given so far -/
def Acc (S : Addr) (xs ys : Array Value) (ts : List Addr) (h : Heap) : Prop :=
  (∀ T ∈ ts, S < T ∧ ∃ o, h.get? T = some o) ∧ ts.Pairwise (· < ·) ∧ ∀ (j : Nat) T, ts[j]? = some T → ∃ x y, xs[j]? = some x ∧ ys[j]? = some y ∧ IsPair h T x y
theorem Acc.keep {S : Addr} {xs ys : Array Value} {ts : List Addr} {h h' : Heap} (a : Acc S xs ys ts h) (k : ∀ b o, S < b → h.get? b = some o → h'.get? b = some o) : Acc S xs ys ts h' :=
  ⟨fun T hT => ⟨(a.1 T hT).1, let ⟨o, ho⟩ := (a.1 T hT).2; ⟨o, k _ _ (a.1 T hT).1 ho⟩⟩, a.2.1, fun j T hj => by
    obtain ⟨x, y, e1, e2, e3⟩ := a.2.2 j T hj
    exact ⟨x, y, e1, e2, k _ _ (a.1 T (List.mem_of_getElem? hj)).1 e3⟩⟩
theorem Acc.more {S T0 : Addr} {xs ys : Array Value} {ts : List Addr} {h : Heap} {x y : Value} (a : Acc S xs ys ts h) (hT : S < T0) (hl : ∀ T ∈ ts, T < T0) (ex : xs[ts.length]? = some x) (ey : ys[ts.length]? = some y) (e : IsPair h T0 x y) : Acc S xs ys (ts ++ [T0]) h := by
  refine ⟨fun T hm => ?_, ?_, fun j T hj => ?_⟩
  · rcases List.mem_append.mp hm with hm | hm
    · exact a.1 T hm
    · rw [List.mem_singleton] at hm; subst hm; exact ⟨hT, _, e⟩
  · rw [List.pairwise_append]
    exact ⟨a.2.1, List.pairwise_singleton _ _, fun u hu v hv => by rw [List.mem_singleton] at hv; subst hv; exact hl u hu⟩
  · by_cases hb : j < ts.length
    · rw [List.getElem?_append_left hb] at hj
      exact a.2.2 j T hj
    · rw [List.getElem?_append_right (by omega)] at hj
      have e1 : j - ts.length = 0 := by
        have := (List.getElem?_eq_some_iff.mp hj).1
        simp only [List.length_singleton] at this
        omega
      rw [e1] at hj
      have e2 : T0 = T := by simpa using hj
      subst e2
      have e3 : j = ts.length := by omega
      subst e3
      exact ⟨x, y, ex, ey, e⟩
section
variable {prog : Program} {w : World} {A : Around} {R : Result → Shared → Prop} {z TI TO i1 i2 l1 l2 S : Addr} {xs ys : Array Value}
/-- S stands behind all that the zip writes -/
structure Off (z TI TO i1 i2 l1 l2 S : Addr) : Prop where
  z : z < S
  TI : TI < S
  TO : TO < S
  i1 : i1 < S
  i2 : i2 < S
  l1 : l1 < S
  l2 : l2 < S
theorem loop (hh : A.in1.handled = none) (D : ZipApart z TI TO i1 i2 l1 l2) (O : Off z TI TO i1 i2 l1 l2 S) (hn : min xs.size ys.size ≤ sizeLine) (res : Value) :
    ∀ (k : Nat) (s : Shared) (ts : List Addr) (c : Nat), min xs.size ys.size - ts.length = k → ts.length ≤ min xs.size ys.size → ZSt z TI TO i1 i2 l1 l2 S xs ys ts.length s.heap →
    s.heap.get? S = some { cls := .type "list", dict := none, data := .seq (ts.map Value.ref).toArray c, slots := #[] } → Acc S xs ys ts s.heap →
    (∀ h' ts' c', (∀ b o, b ≠ S → b ≠ z → b ≠ TO → b ≠ i1 → b ≠ i2 → s.heap.get? b = some o → h'.get? b = some o) → h'.get? S = some { cls := .type "list", dict := none, data := .seq (ts'.map Value.ref).toArray c', slots := #[] } →
      ts'.length = min xs.size ys.size → Acc S xs ys ts' h' → R (.ok (.ret res)) { s with heap := h' }) →
    codeAny (model prog w) A (.builtin "list.extend.loop" ⟨[.ref S, .ref z, res], []⟩) R s := by
  intro k
  induction k with
  | zero =>
    intro s ts c hk hi hst hS hacc hR
    have hin : ts.length = min xs.size ys.size := by omega
    refine codeAny_builtin F.entry_extend_loop ?_
    rw [Around.under_plainId F.plain_extend_loop _]
    show wpAny _ A.in1 (pyNext (.ref z) >>= _) _ _ s
    obtain ⟨hTI, h1, h2, hl1, hl2, hz⟩ := hst
    have hend : xs[ts.length]? = none ∨ ys[ts.length]? = none := by
      rcases Nat.le_total xs.size ys.size with h | h
      · exact .inl (Array.getElem?_eq_none (by omega))
      · exact .inr (Array.getElem?_eq_none (by omega))
    have fin : ∀ h', (∀ b o, b ≠ z → b ≠ TO → b ≠ i1 → b ≠ i2 → s.heap.get? b = some o → h'.get? b = some o) → R (.ok (.ret res)) { s with heap := h' } := fun h' kp =>
      hR h' ts c (fun b o _ a1 a2 a3 a4 e => kp b o a1 a2 a3 a4 e) (kp _ _ (Nat.ne_of_gt O.z) (Nat.ne_of_gt O.TO) (Nat.ne_of_gt O.i1) (Nat.ne_of_gt O.i2) hS) hin (hacc.keep fun b o hb e => kp b o (Nat.ne_of_gt (Nat.lt_trans O.z hb)) (Nat.ne_of_gt (Nat.lt_trans O.TO hb)) (Nat.ne_of_gt (Nat.lt_trans O.i1 hb)) (Nat.ne_of_gt (Nat.lt_trans O.i2 hb)) e)
    rcases hz with ⟨hz, a, b, hTO⟩ | ⟨T, f, oT, hz, hT, r1, r2, r3, r4⟩
    · exact wpAny_bind (wpAny_pyNext_zip_end hh D hz hTI hTO h1 h2 hl1 hl2 hend fun h' hk => wpAny_pure (fin h' fun b o a1 a2 a3 a4 e => hk b o a1 a2 a3 a4 e))
    · exact wpAny_bind (wpAny_pyNext_zip_end_held hh D hz hT hTI h1 h2 hl1 hl2 hend fun h' hk => wpAny_pure (fin h' fun b o a1 a2 a3 a4 e => hk b o a1 a3 a4 e))
  | succ k ih =>
    intro s ts c hk hi hst hS hacc hR
    have hlt : ts.length < min xs.size ys.size := by omega
    refine codeAny_builtin F.entry_extend_loop ?_
    rw [Around.under_plainId F.plain_extend_loop _]
    show wpAny _ A.in1 (pyNext (.ref z) >>= _) _ _ s
    obtain ⟨hTI, h1, h2, hl1, hl2, hz⟩ := hst
    have hix : ts.length < xs.size := by omega
    have hiy : ts.length < ys.size := by omega
    have ex := Array.getElem?_eq_getElem hix
    have ey := Array.getElem?_eq_getElem hiy
    have Sl : S < s.heap.objs.size := Heap.lt_size hS
    have lt : ∀ {c o}, s.heap.get? c = some o → c < s.heap.objs.size := fun e => Heap.lt_size e
    -- one pair more
    have step : ∀ h', (∀ b o, b ≠ z → b ≠ TO → b ≠ i1 → b ≠ i2 → s.heap.get? b = some o → h'.get? b = some o) → h'.get? TI = some { cls := .type "tuple", data := .seq #[.ref i1, .ref i2] } → h'.IsListIter i1 l1 (ts.length + 1) → h'.IsListIter i2 l2 (ts.length + 1) →
        IsPair h' s.heap.objs.size xs[ts.length] ys[ts.length] → (∃ T f oT, IsZipHeld h' z TI TO T f ∧ h'.get? T = some oT ∧ T ≠ z ∧ T ≠ i1 ∧ T ≠ i2 ∧ T ≠ S) →
        wpAny (model prog w) A.in1 (updateSeq S (·.push (.ref s.heap.objs.size)) >>= fun _ => again (.builtin "list.extend.loop" ⟨[.ref S, .ref z, res], []⟩))
          (fun fin s' => match fin with | .done f => R (.ok f) s' | .again c' => c'.quiet = true ∧ codeAny (model prog w) A c' R s') (fun e s' => R (.error e) s') { s with heap := h' } := by
      intro h' kp qTI q1 q2 qT qz
      have hS' := kp _ _ (Nat.ne_of_gt O.z) (Nat.ne_of_gt O.TO) (Nat.ne_of_gt O.i1) (Nat.ne_of_gt O.i2) hS
      refine wpAny_bind ?_
      have hS2 := Heap.get?_update_self (Obj.mapSeq (·.push (Value.ref s.heap.objs.size))) hS' rfl
      obtain ⟨c2, hS3⟩ : ∃ c2, (h'.update S (Obj.mapSeq (·.push (Value.ref s.heap.objs.size)))).get? S = some { cls := .type "list", dict := none, data := .seq ((ts ++ [s.heap.objs.size]).map Value.ref).toArray c2, slots := #[] } :=
        ⟨if ((ts.map Value.ref).toArray.push (Value.ref s.heap.objs.size)).size == (ts.map Value.ref).toArray.size then c else c + 1, hS2.trans (by simp [Obj.mapSeq])⟩
      have oth : ∀ b o, b ≠ S → h'.get? b = some o → (h'.update S (Obj.mapSeq (·.push (Value.ref s.heap.objs.size)))).get? b = some o := fun b o hb e => (Heap.get?_update_other _ _ (Ne.symm hb)).trans e
      have a1 : Acc S xs ys ts h' := hacc.keep fun b o hb e => kp b o (Nat.ne_of_gt (Nat.lt_trans O.z hb)) (Nat.ne_of_gt (Nat.lt_trans O.TO hb)) (Nat.ne_of_gt (Nat.lt_trans O.i1 hb)) (Nat.ne_of_gt (Nat.lt_trans O.i2 hb)) e
      have a2 : Acc S xs ys (ts ++ [s.heap.objs.size]) h' := a1.more Sl (fun T hT => let ⟨o, ho⟩ := (hacc.1 T hT).2; lt ho) ex ey qT
      have a3 : Acc S xs ys (ts ++ [s.heap.objs.size]) (h'.update S (Obj.mapSeq (·.push (Value.ref s.heap.objs.size)))) := a2.keep fun b o hb e => oth b o (Nat.ne_of_gt hb) e
      refine wpAny_updateSeq hS' rfl (wpAny_pure ⟨plainId_quiet F.plain_extend_loop _, ih { s with heap := h'.update S (Obj.mapSeq (·.push (Value.ref s.heap.objs.size))) } (ts ++ [s.heap.objs.size]) c2 (by rw [List.length_append, List.length_singleton]; omega) (by rw [List.length_append, List.length_singleton]; omega) ?_ hS3 a3 fun h'' ts' c' kp2 e2 hl2 hA => ?_⟩)
        (by rw [List.size_toArray, List.length_map]; omega) (by rw [Array.size_push, List.size_toArray, List.length_map]; omega)
      · rw [List.length_append, List.length_singleton]
        refine ⟨oth _ _ (Nat.ne_of_lt O.TI) qTI, q1.at fun o e => oth _ o (Nat.ne_of_lt O.i1) e, q2.at fun o e => oth _ o (Nat.ne_of_lt O.i2) e, (hl1.at fun o e => kp _ o D.l1z D.l1TO D.l1i1 D.l1i2 e).at fun o e => oth _ o (Nat.ne_of_lt O.l1) e, (hl2.at fun o e => kp _ o D.l2z D.l2TO D.l2i1 D.l2i2 e).at fun o e => oth _ o (Nat.ne_of_lt O.l2) e, .inr ?_⟩
        obtain ⟨T, f, oT, w1, w2, w3, w4, w5, w6⟩ := qz
        exact ⟨T, f, oT, oth _ _ (Nat.ne_of_lt O.z) w1, oth _ _ w6 w2, w3, w4, w5, w6⟩
      · exact hR h'' ts' c' (fun b o b1 b2 b3 b4 b5 e => kp2 b o b1 b2 b3 b4 b5 (oth b o b1 (kp b o b2 b3 b4 b5 e))) e2 hl2 hA
    rcases hz with ⟨hz, a, b, hTO⟩ | ⟨T, f, oT, hz, hT, r1, r2, r3, r4⟩
    · refine wpAny_bind (wpAny_pyNext_zip_item D hz hTI hTO h1 h2 hl1 hl2 ex ey fun h' a1 a2 a3 a4 a5 a6 hk => ?_)
      refine step h' hk (hk _ _ D.TIz D.TITO D.TIi1 D.TIi2 hTI) a3 a4 a5 ⟨s.heap.objs.size, false, _, a1, a5, Nat.ne_of_gt (lt hz), ?_, ?_, Nat.ne_of_gt Sl⟩
      · obtain ⟨o, e, _⟩ := h1; exact Nat.ne_of_gt (lt e)
      · obtain ⟨o, e, _⟩ := h2; exact Nat.ne_of_gt (lt e)
    · refine wpAny_bind (wpAny_pyNext_zip_item_held D hz hT hTI h1 h2 hl1 hl2 ex ey fun h' a1 a3 a4 a5 a6 hk => ?_)
      exact step h' (fun b o b1 b2 b3 b4 e => hk b o b1 b3 b4 e) (hk _ _ D.TIz D.TIi1 D.TIi2 hTI) a3 a4 a5 ⟨T, true, oT, a1, hk _ _ r1 r2 r3 hT, r1, r2, r3, r4⟩
end
section
variable {prog : Program} {w : World} {A : Around} {R : Result → Shared → Prop} {E : Value → Shared → Prop} {s : Shared} {z TI TO i1 i2 l1 l2 S : Addr} {xs ys : Array Value}
theorem extend (hh : A.in1.handled = none) (D : ZipApart z TI TO i1 i2 l1 l2) (O : Off z TI TO i1 i2 l1 l2 S) (hn : min xs.size ys.size ≤ sizeLine) (res : Value) (c : Nat) (hz : IsZip s.heap z TI TO .none) (hst : ZSt z TI TO i1 i2 l1 l2 S xs ys 0 s.heap)
    (hS : s.heap.get? S = some { cls := .type "list", data := .seq #[] c })
    (hR : ∀ h' ts' c', (∀ b o, b ≠ S → b ≠ z → b ≠ TO → b ≠ i1 → b ≠ i2 → s.heap.get? b = some o → h'.get? b = some o) → h'.get? S = some { cls := .type "list", dict := none, data := .seq (ts'.map Value.ref).toArray c', slots := #[] } →
      ts'.length = min xs.size ys.size → Acc S xs ys ts' h' → R (.ok (.ret res)) { s with heap := h' }) :
    wpAny (model prog w) A.in1 (Builtin.List.listExtendWith (.ref S) (.ref z) res)
      (fun fin s' => match fin with | .done f => R (.ok f) s' | .again c' => c'.quiet = true ∧ codeAny (model prog w) A c' R s') (fun e s' => R (.error e) s') s := by
  have hT : s.TypeIs (.ref z) "zip" := ⟨_, hz, rfl⟩
  unfold Builtin.List.listExtendWith
  refine wpAny_bind (wpAny_typeOf hT ?_)
  have h1 : Builtin.List.listSameRef (.ref S) (.ref z) = false := by simp [Builtin.List.listSameRef, Nat.ne_of_gt O.z]
  have h2 : (Value.type "zip" == Value.type "list") = false := by decide
  have h3 : (Value.type "zip" == Value.type "tuple") = false := by decide
  simp only [h1, h2, h3, Bool.or_false, Bool.false_eq_true, if_false]
  refine wpAny_bind (wpAny_pyIter_zip hz ?_)
  refine wpAny_bind (wpAny_holding ?_)
  unfold Builtin.List.listLengthHint
  refine wpAny_bind (wpAny_specialOf hT zip_no_len ?_)
  show wpAny _ A.in1 (specialOf (Value.ref z) (Str.ofString "__length_hint__") >>= _) _ _ _
  refine wpAny_bind (wpAny_specialOf hT zip_no_hint ?_)
  refine wpAny_pure ?_
  show wpAny _ A.in1 (rule "list.extend.makes-room" >>= fun _ => Builtin.List.listTouch (.ref S) >>= fun _ =>
    again (.builtin "list.extend.loop" ⟨[.ref S, .ref z, res], []⟩)) _ _ _
  refine wpAny_bind (wpAny_rule ?_)
  refine wpAny_bind ?_
  show wpAny _ A.in1 (updateSeq S (·.push .none) >>= fun _ => updateSeq S (·.pop)) _ _ _
  refine wpAny_bind (wpAny_updateSeq hS rfl ?_)
  have hS₂ := Heap.get?_update_self (Obj.mapSeq (·.push Value.none)) hS rfl
  refine wpAny_updateSeq (hz := by seq_fits) hS₂ rfl ?_
  have hS₃ := Heap.get?_update_self (Obj.mapSeq (·.pop)) hS₂ rfl
  have oth : ∀ b o, b ≠ S → s.heap.get? b = some o → ((s.heap.update S (Obj.mapSeq (·.push Value.none))).update S (Obj.mapSeq (·.pop))).get? b = some o :=
    fun b o hb e => (Heap.get?_update_other _ _ (Ne.symm hb)).trans ((Heap.get?_update_other _ _ (Ne.symm hb)).trans e)
  have hst' : ZSt z TI TO i1 i2 l1 l2 S xs ys 0 ((s.heap.update S (Obj.mapSeq (·.push Value.none))).update S (Obj.mapSeq (·.pop))) := by
    obtain ⟨a1, a2, a3, a4, a5, a6⟩ := hst
    refine ⟨oth _ _ (Nat.ne_of_lt O.TI) a1, a2.at fun o e => oth _ o (Nat.ne_of_lt O.i1) e, a3.at fun o e => oth _ o (Nat.ne_of_lt O.i2) e, a4.at fun o e => oth _ o (Nat.ne_of_lt O.l1) e, a5.at fun o e => oth _ o (Nat.ne_of_lt O.l2) e, ?_⟩
    rcases a6 with ⟨q1, a, b, q2⟩ | ⟨T, f, oT, q1, q2, q3, q4, q5, q6⟩
    · exact .inl ⟨oth _ _ (Nat.ne_of_lt O.z) q1, a, b, oth _ _ (Nat.ne_of_lt O.TO) q2⟩
    · exact .inr ⟨T, f, oT, oth _ _ (Nat.ne_of_lt O.z) q1, oth _ _ q6 q2, q3, q4, q5, q6⟩
  exact wpAny_pure ⟨plainId_quiet F.plain_extend_loop _, loop hh D O hn res _ _ [] _ rfl (Nat.zero_le _) hst' hS₃ ⟨fun T hT => (nomatch hT), List.Pairwise.nil, fun j T hj => by simp at hj⟩ fun h' ts' c' kp e hl hA =>
    hR h' ts' c' (fun b o b1 b2 b3 b4 b5 e => kp b o b1 b2 b3 b4 b5 (oth b o b1 e)) e hl hA⟩
end
end ZipL
namespace DX
open PySem PySem.Spec L2 PyProof.Rows
section
variable {X : Cx} {J : Gh} {e o : Expr} {es : List Expr} {ρ ρ' : DEnv} {M M0 M1 : Mem} {F F' H H' : Hp} {σ : L2.St} {P : D → Mem → Prop} {K : PySem.W.Frag} {pos apos cpos : Pos}
def stillF (F H : Hp) (M : Mem) : Hp := fun a => if (M a).isSome = true then H a else F a
theorem still_same (k : Ok K F M H) : Same F (stillF F H M) := fun a u h => by
  unfold stillF
  split
  · rename_i q
    obtain ⟨d, hd⟩ := Option.isSome_iff_exists.mp q
    rw [(k.mt a d hd).1] at h; cases h
  · exact h
/-- the fields of an instance, its lists that change held still -/
inductive ThG (M : Mem) : List (Str × D) → List (Str × D) → Prop
  | nil : ThG M [] []
  | same {x : Str} {d : D} {gs hs : List (Str × D)} : ThG M gs hs → ThG M ((x, d) :: gs) ((x, d) :: hs)
  | ad {x : Str} {a : Addr} {d : D} {gs hs : List (Str × D)} : M a = some d → frzD d = true → ThG M gs hs → ThG M ((x, .adr a) :: gs) ((x, d) :: hs)
theorem ThG.refl : ∀ {gs : List (Str × D)}, ThG M gs gs
  | [] => .nil
  | _ :: _ => .same ThG.refl
theorem ThG.rfs (k : Ok K F M H) : ∀ {gs hs : List (Str × D)}, ThG M gs hs → ∀ {fs : List (Str × V)}, Rfs K F fs gs → Rfs K (stillF F H M) fs hs
  | _, _, .nil, _, .nil => .nil
  | _, _, .same h, _, .cons r rs => .cons (r.mono (still_same k)) (h.rfs k rs)
  | _, _, .ad hp hf h, _, .cons r rs => by
    cases r
    obtain ⟨u, hu⟩ := (k.mt _ _ hp).2.there
    exact .cons ((k.mt _ _ hp).2.rp hu (still_same k) (show stillF F H M _ = some u by unfold stillF; rw [hp]; exact hu) hf) (h.rfs k rs)
inductive StillE (M : Mem) : DEnv → DEnv → Prop
  | nil : StillE M [] []
  | same {d : Option D} {ρ ρ' : DEnv} : StillE M ρ ρ' → StillE M (d :: ρ) (d :: ρ')
  | ad {p : Addr} {d : D} {ρ ρ' : DEnv} : M p = some d → frzD d = true → StillE M ρ ρ' → StillE M (some (.adr p) :: ρ) (some d :: ρ')
  | own {p C : Addr} {gs hs : List (Str × D)} {ρ ρ' : DEnv} : M p = some (.ins C gs) → ThG M gs hs → StillE M ρ ρ' → StillE M (some (.adr p) :: ρ) (some (.ins C hs) :: ρ')
  | adl {p : Addr} {d : D} {ρ ρ' : DEnv} : M p = some d → frzD d = true → StillE M ρ ρ' → StillE M (some (.lst [.adr p]) :: ρ) (some (.lst [d]) :: ρ')
theorem StillE.en (k : Ok K F M H) : ∀ {ρ ρ' : DEnv}, StillE M ρ ρ' → ∀ {σ : L2.St}, En K F σ ρ → En K (stillF F H M) σ ρ'
  | _, _, .nil, _, .nil => .nil
  | _, _, .same h, _, .cons x r => .cons (fun y q => let ⟨z, a, b⟩ := x y q; ⟨z, a, b.mono (still_same k)⟩) (h.en k r)
  | _, _, .ad (p := p) (d := d) hp hf h, _, .cons x r => .cons (fun y q => by
      cases q
      obtain ⟨z, a, b⟩ := x _ rfl
      cases b
      obtain ⟨u, hu⟩ := (k.mt p _ hp).2.there
      exact ⟨_, a, (k.mt p _ hp).2.rp hu (still_same k) (show stillF F H M p = some u by unfold stillF; rw [hp]; exact hu) hf⟩) (h.en k r)
  | _, _, .adl (p := p) (d := d) hp hf h, _, .cons x r => .cons (fun y q => by
      cases q
      obtain ⟨z, a, b⟩ := x _ rfl
      cases b with
      | lst h1 h2 =>
        cases h2 with
        | cons h3 h4 =>
          cases h3
          cases h4
          obtain ⟨u, hu⟩ := (k.mt p _ hp).2.there
          exact ⟨_, a, .lst (still_same k _ _ h1) (.cons ((k.mt p _ hp).2.rp hu (still_same k) (show stillF F H M p = some u by unfold stillF; rw [hp]; exact hu) hf) .nil)⟩) (h.en k r)
  | _, _, .own (p := p) hp t h, _, .cons x r => .cons (fun y q => by
      cases q
      obtain ⟨z, a, b⟩ := x _ rfl
      cases b
      obtain ⟨dx, fs, h1, h2⟩ := (k.mt p _ hp).2
      exact ⟨_, a, .ins (show stillF F H M p = some (.ins _ dx fs) by unfold stillF; rw [hp]; exact h1) (t.rfs k h2)⟩) (h.en k r)
end
end DX
namespace DX
open PySem PySem.Spec L2 PyProof.Rows StX LamX
mutual
/-- no instance of these classes within -/
def noI (L : List Addr) : D → Bool
  | .tup ds => noIs L ds
  | .lst ds => noIs L ds
  | .stup ds => noIs L ds
  | .ins C gs => decide (C ∉ L) && noIk L gs
  | .dct kvs => noId L kvs
  | .exn _ gs => noIk L gs
  | _ => true
def noIs (L : List Addr) : List D → Bool
  | [] => true
  | d :: ds => noI L d && noIs L ds
def noIk (L : List Addr) : List (Str × D) → Bool
  | [] => true
  | (_, d) :: ds => noI L d && noIk L ds
def noId (L : List Addr) : List (Key × D) → Bool
  | [] => true
  | (_, d) :: ds => noI L d && noId L ds
end
structure KeepsP (L : List Addr) (F F2 : Hp) : Prop where
  k : ∀ a u, F a = some u → (∀ C dx fs, u = .ins C dx fs → C ∉ L) → F2 a = some u
section
variable {K : PySem.W.Frag} {F F2 : Hp} {L : List Addr}
theorem KeepsP.rd (h : KeepsP L F F2) {a : Addr} {u : HO} (hu : ∀ C dx fs, u ≠ .ins C dx fs) (r : Rd F a u) : Rd F2 a u := by
  rcases r with r | ⟨o, r⟩
  · exact .inl (h.k _ _ r fun C dx fs e => absurd e (hu C dx fs))
  · exact .inr ⟨o, h.k _ _ r fun C dx fs e => by cases e⟩
theorem KeepsP.sl (h : KeepsP L F F2) {a : Addr} {xs : List V} (r : SqL K F a xs) : SqL K F2 a xs := by
  rcases r with r | r
  · exact .inl (h.rd (fun _ _ _ e => by cases e) r)
  · exact .inr r
theorem KeepsP.st (h : KeepsP L F F2) {a : Addr} {xs : List V} (r : SqT K F a xs) : SqT K F2 a xs := by
  rcases r with r | r
  · exact .inl (h.rd (fun _ _ _ e => by cases e) r)
  · exact .inr r
mutual
theorem rp_noI (h : KeepsP L F F2) : ∀ (d : D) (v : V), noI L d = true → Rp K F v d → Rp K F2 v d
  | .non, _, _, .non => .non
  | .bl b, _, _, .bl _ => .bl _
  | .int i, _, _, .int _ => .int _
  | .str x, _, _, .str _ => .str _
  | .adr a, _, _, .adr _ => .adr _
  | .ty n, _, _, .ty _ => .ty _
  | .scr ns, _, _, .scr r => .scr (h.sl r)
  | .tup ds, _, q, .tup h1 h2 => .tup (h.st h1) (rps_noI h ds _ (by rw [noI] at q; exact q) h2)
  | .lst ds, _, q, .lst h1 h2 => .lst (h.k _ _ h1 fun _ _ _ e => by cases e) (rps_noI h ds _ (by rw [noI] at q; exact q) h2)
  | .stup ds, _, q, .stup h1 h2 h3 => .stup (h.k _ _ h1 fun _ _ _ e => by cases e) h2 (rps_noI h ds _ (by rw [noI] at q; exact q) h3)
  | .stup [], _, _, .stupK h1 h2 => .stupK h1 h2
  | .ins C gs, _, q, .ins h1 h2 => by
    rw [noI, Bool.and_eq_true] at q
    exact .ins (h.k _ _ h1 fun _ _ _ e => by cases e; exact of_decide_eq_true q.1) (rfs_noI h gs _ q.2 h2)
  | .dct kvs, _, q, .dct h1 h2 => .dct (h.k _ _ h1 fun _ _ _ e => by cases e) (rks_noI h kvs _ (by rw [noI] at q; exact q) h2)
  | .exn C gs, _, q, .exn h1 h2 h3 => .exn (h.k _ _ h1 fun _ _ _ e => by cases e) (h2.imp id fun ⟨dd, e, r⟩ => ⟨dd, e, h.k _ _ r fun _ _ _ e => by cases e⟩) (rfs_noI h gs _ (by rw [noI] at q; exact q) h3)
  | .tbl _, _, _, r => nomatch r
  | .dtx _, _, _, r => nomatch r
theorem rps_noI (h : KeepsP L F F2) : ∀ (ds : List D) (vs : List V), noIs L ds = true → Rps K F vs ds → Rps K F2 vs ds
  | [], _, _, .nil => .nil
  | d :: ds, _, q, .cons h1 h2 => by
    rw [noIs, Bool.and_eq_true] at q
    exact .cons (rp_noI h d _ q.1 h1) (rps_noI h ds _ q.2 h2)
theorem rfs_noI (h : KeepsP L F F2) : ∀ (ds : List (Str × D)) (vs : List (Str × V)), noIk L ds = true → Rfs K F vs ds → Rfs K F2 vs ds
  | [], _, _, .nil => .nil
  | (x, d) :: ds, _, q, .cons h1 h2 => by
    rw [noIk, Bool.and_eq_true] at q
    exact .cons (rp_noI h d _ q.1 h1) (rfs_noI h ds _ q.2 h2)
theorem rks_noI (h : KeepsP L F F2) : ∀ (ds : List (Key × D)) (vs : List (Key × V)), noId L ds = true → Rks K F vs ds → Rks K F2 vs ds
  | [], _, _, .nil => .nil
  | (x, d) :: ds, _, q, .cons h1 h2 => by
    rw [noId, Bool.and_eq_true] at q
    exact .cons (rp_noI h d _ q.1 h1) (rks_noI h ds _ q.2 h2)
end
end
end DX
namespace DX
open PySem PySem.Spec L2 PyProof.Rows StX LamX
/-- besides: what stands at p is seen as d -/
def Gh.hold (J : Gh) (K : PySem.W.Frag) (p : Addr) (d : D) : Gh := ⟨fun F => J.p F ∧ Rp K F (.ref p) d, fun _ _ e h => ⟨J.mono _ _ e h.1, h.2.mono e⟩⟩
section
variable {X : Cx} {J : Gh} {ρ ρ' : DEnv} {M M0 : Mem} {P : D → Mem → Prop} {L : List Addr} {x : Str} {pos : Pos} {K : PySem.W.Frag} {F F2 : Hp} {σ : L2.St} {st : Stmt} {rest : List Stmt} {B : Bd}
/-- names behind the statement: their values hold no instance of these classes, or are forgotten -/
inductive NoE (L : List Addr) : DEnv → DEnv → Prop
  | nil : NoE L [] []
  | keep {d : D} {ρ ρ' : DEnv} : noI L d = true → NoE L ρ ρ' → NoE L (some d :: ρ) (some d :: ρ')
  | drop {d : Option D} {ρ ρ' : DEnv} : NoE L ρ ρ' → NoE L (d :: ρ) (none :: ρ')
theorem NoE.en (kp : KeepsP L F F2) : ∀ {ρ ρ' : DEnv}, NoE L ρ ρ' → ∀ {σ : L2.St}, En K F σ ρ → En K F2 σ ρ'
  | _, _, .nil, _, .nil => .nil
  | _, _, .keep hd h, _, .cons x r => .cons (fun y q => by
      obtain ⟨z, a, b⟩ := x y q
      cases q
      exact ⟨z, a, rp_noI kp _ z hd b⟩) (h.en kp r)
  | _, _, .drop h, _, .cons x r => .cons (fun y q => nomatch q) (h.en kp r)
end
end DX
namespace DX
open PySem PySem.Spec L2 PyProof.Rows StX
section
variable {X : Cx} {J : Gh} {e a b o : Expr} {es : List Expr} {kws : List Keyword} {ks : List Str} {ρ : DEnv} {M M1 M2 : Mem} {F F' H H' : Hp} {σ : L2.St} {K : PySem.W.Frag} {pos p apos : Pos} {x m f : Str} {P : D → Mem → Prop} {PA PA' : List D → List D → Mem → Prop} {RR : Addr → List (Str × D) → DEnv → Mem → Prop} {L : List Addr} {TU : TrX} {k : Nat}
theorem EvA.imp (h : EvA X J pos es kws ks ρ M PA) (kk : ∀ ds zs M', PA ds zs M' → PA' ds zs M') : EvA X J pos es kws ks ρ M PA' :=
  fun fv pins σ H F s Qa I st q => h fv pins σ H F s Qa I st fun us ws vs xs ds zs F2 M2 H2 s2 I2 e2 o2 r rx rd rz hl t => q us ws vs xs ds zs F2 M2 H2 s2 I2 e2 o2 r rx rd rz hl (kk _ _ _ t)
end
end DX
namespace DX
open PySem PySem.Spec L2
open PyProof.Rows hiding St
/-- a dict as a value, or the place of one that changes -/
inductive Kw (M : Mem) : D → List (Key × D) → Prop
  | id {kvs : List (Key × D)} : Kw M (.dct kvs) kvs
  | ad {p : Addr} {kvs : List (Key × D)} : M p = some (.dct kvs) → Kw M (.adr p) kvs
section
variable {X : Cx} {J : Gh} {e a b o : Expr} {es : List Expr} {ρ : DEnv} {M M1 : Mem} {F F' H H' : Hp} {σ : St} {K : PySem.W.Frag} {pos p apos : Pos} {x m f : Str} {P : D → Mem → Prop} {B : Bd}
theorem Kw.get {d : D} {kvs : List (Key × D)} {v : V} (w : Kw M d kvs) (k : Ok K F M H) (r : Rp K F v d) : ∃ q vs, v = .ref q ∧ H q = some (.dK vs) ∧ Rks K F vs kvs := by
  cases w with
  | id =>
    cases r with
    | dct h1 h2 => exact ⟨_, _, rfl, k.ex _ _ h1, h2⟩
  | ad h =>
    cases r
    obtain ⟨vs, h1, h2⟩ := (k.mt _ _ h).2
    exact ⟨_, vs, rfl, h1, h2⟩
theorem Rks.len : ∀ {vs : List (Key × V)} {ds : List (Key × D)}, Rks K F vs ds → vs.length = ds.length
  | _, _, .nil => rfl
  | _, _, .cons _ r => congrArg Nat.succ (Rks.len r)
end
end DX
namespace DX
open PySem PySem.Spec L2 GenW
open PyProof.Rows hiding St
/-- what is wanted behind a statement of a generator: what is out, the names, what may change -/
structure GBd where
  nx : List D → DEnv → Mem → Prop
  rt : List D → D → Mem → Prop := fun _ _ _ => False
  bk : List D → DEnv → Mem → Prop := fun _ _ _ => False
  ct : List D → DEnv → Mem → Prop := fun _ _ _ => False
def GBd.at (B : GBd) (ys : List D) : Bd := ⟨B.nx ys, B.rt ys, B.bk ys, B.ct ys⟩
structure KGd (K : PySem.W.Frag) (F : Hp) (B : GBd) (E : GEnds) : Prop where
  nx : ∀ F' σ' H' ρ' M' ys vs, B.nx ys ρ' M' → Same F F' → En K F' σ' ρ' → Ok K F' M' H' → Rps K F' vs ys → E.nx vs σ' H'
  rt : ∀ d v M' F' H' ys vs, B.rt ys d M' → Same F F' → Ok K F' M' H' → Rp K F' v d → Rps K F' vs ys → E.rt vs v H'
  bk : ∀ F' σ' H' ρ' M' ys vs, B.bk ys ρ' M' → Same F F' → En K F' σ' ρ' → Ok K F' M' H' → Rps K F' vs ys → E.bk vs σ' H'
  ct : ∀ F' σ' H' ρ' M' ys vs, B.ct ys ρ' M' → Same F F' → En K F' σ' ρ' → Ok K F' M' H' → Rps K F' vs ys → E.ct vs σ' H'
def tGd (K : PySem.W.Frag) (J : Gh) (ys : List D) (ρ : DEnv) (M : Mem) (B : GBd) : TGn := fun D vs σ H => ∃ F, Sts K J F σ H ρ M ∧ Rps K F vs ys ∧ KGd K F B D
def GGX (X : Cx) (J : Gh) (st : List Stmt) (ys : List D) (ρ : DEnv) (M : Mem) (B : GBd) : Prop := GSs X st (tGd X.K J ys ρ M B)
def GG1 (X : Cx) (J : Gh) (st : Stmt) (ys : List D) (ρ : DEnv) (M : Mem) (B : GBd) : Prop := GS X st (tGd X.K J ys ρ M B)
def tGSe (X : Cx) (st : List Stmt) : TGn := fun D vs σ H => ∃ t, GSs X st t ∧ t D vs σ H
def tGS1 (X : Cx) (st : Stmt) : TGn := fun D vs σ H => ∃ t, GS X st t ∧ t D vs σ H
section
variable {X : Cx} {J : Gh} {e a b c : Expr} {es : List Expr} {st : Stmt} {rest sts : List Stmt} {ys : List D} {ρ ρ' : DEnv} {M M0 M' : Mem} {F F' H H' : Hp} {σ : St} {B : GBd} {K : PySem.W.Frag} {pos p yp : Pos} {E : GEnds}
theorem KGd.to (k : KGd K F B E) (e : Same F F') : KGd K F' B E :=
  ⟨fun F2 σ' H' ρ' M' ys vs p e2 => k.nx F2 σ' H' ρ' M' ys vs p (e.trans e2), fun d v M' F2 H' ys vs p e2 => k.rt d v M' F2 H' ys vs p (e.trans e2), fun F2 σ' H' ρ' M' ys vs p e2 => k.bk F2 σ' H' ρ' M' ys vs p (e.trans e2), fun F2 σ' H' ρ' M' ys vs p e2 => k.ct F2 σ' H' ρ' M' ys vs p (e.trans e2)⟩
theorem GGX.go {vs : List V} (h : GGX X J sts ys ρ M B) (s : Sts X.K J F σ H ρ M) (r : Rps X.K F vs ys) (k : KGd X.K F B E) : tGSe X sts E vs σ H := ⟨_, h, F, s, r, k⟩
theorem GG1.go {vs : List V} (h : GG1 X J st ys ρ M B) (s : Sts X.K J F σ H ρ M) (r : Rps X.K F vs ys) (k : KGd X.K F B E) : tGS1 X st E vs σ H := ⟨_, h, F, s, r, k⟩
end
end DX
namespace DX
open PySem PySem.Spec L2 PyProof.Rows StX
section
variable {X : Cx} {J : Gh} {M : Mem} {P : D → Mem → Prop} {pins : List (Addr × Obj)} {σ : L2.St} {F : Hp} {k : Nat} {C g : Addr} {T : TrX}
/-- two instances of C, equal by f -/
def eqO (C : Addr) (f : D → D → Option D) (a b : D) : Option Unit := (isC C a).bind fun _ => (isC C b).bind fun _ => (f a b).bind fun v => match v with
  | .bl true => some ()
  | _ => none
end
end DX
namespace DX
open PySem PySem.Spec
open L2 PyProof.Rows StX
section
variable {X : Cx} {J : Gh} {e a b o : Expr} {es : List Expr} {kws : List Keyword} {ks : List Str} {ρ : DEnv} {M M1 M2 : Mem} {F F' H H1 H' : Hp} {σ : L2.St} {K : PySem.W.Frag} {pos p rpos : Pos} {x f f1 f2 : Str} {newId : String} {bmB : List Value} {C g : Addr} {fd : FuncData} {ps : List Str} {P : D → Mem → Prop} {pins : List (Addr × Obj)} {s : Shared}
def errNB (newId : String) (bmB : List Value) (K : PySem.W.Frag) (C : Str) : Bool :=
  PySem.W.excIn K (He.ga K C) bmB newId && (PySem.W.keepIn K (.ref (He.ga K C)) && (decide (PySem.W.subIn K (.ref (He.ga K C)) (.type "BaseException") = some true) && decide (PySem.W.typeIn K (.ref (He.ga K C)) = some (.type "type"))))
end
end DX
namespace EnZ
open PySem PySem.Spec L2 PyProof.Rows
open PySem.W (kdx_alive)
def F0 (v : Value) : Prop := v = .none ∨ ∃ T : Addr, v = rawInt T
open ZMix
end EnZ
namespace DX
open PySem PySem.Spec L2
abbrev KXT := List (List Int × Int)
def atX (kvs : KXT) (k : List Int) : Option Int := (kvs.find? fun p => decide (p.1 = k)).map (·.2)
section
variable {K : PySem.W.Frag} {F F' H H' : Hp} {M : Mem}
def XR (K : PySem.W.Frag) (F : Hp) (es : DTK.TE3) (kvs : KXT) : Prop := Paired (fun (p : List Int × Addr × V) (q : List Int × Int) => p.1 = q.1 ∧ SqT K F p.2.1 (p.1.map V.int) ∧ p.2.2 = V.int q.2) es kvs
theorem XR.len {es : DTK.TE3} {kvs : KXT} (r : XR K F es kvs) : es.length = kvs.length := Paired.length r
theorem XR.at {k : List Int} : ∀ {es : DTK.TE3} {kvs : KXT}, XR K F es kvs → DTK.atV es k = (atX kvs k).map V.int
  | _, _, .nil => rfl
  | _, _, .cons (a := p) (b := q) r t => by
    obtain ⟨e1, e2, e3⟩ := r
    have ih := XR.at (k := k) t
    unfold DTK.atV atX at *
    rw [List.find?_cons, List.find?_cons, e1]
    by_cases z : q.1 = k
    · rw [decide_eq_true z]
      show some p.2.2 = some (V.int q.2)
      rw [e3]
    · rw [decide_eq_false z]; exact ih
theorem XR.mono {es : DTK.TE3} {kvs : KXT} (e : Same F F') (r : XR K F es kvs) : XR K F' es kvs := L2.Paired.mapP r fun _ _ z => ⟨z.1, same_t e z.2.1, z.2.2⟩
theorem Ok.dtx (k : Ok K F M H) {p : Addr} {kvs : KXT} (h : M p = some (.dtx kvs)) : ∃ es, H p = some (DTK.DTX p es) ∧ XR K F es kvs := (k.mt _ _ h).2
end
end DX
namespace DX
open PySem PySem.Spec L2 PyProof.Rows StX LamX
/-- one parameter a, no other name of its own: captured ones and globals -/
structure LamS1 (sc scope : Scope) (N : List Str) (a : Str) : Prop where
  kind : scope.kind = .function
  co : scope.isCoroutine = false
  gen : scope.isGenerator = false
  par : scope.names.lookup a = some .local
  own : ∀ y ∈ scope.names, (y.2 = .local → y.1 = a) ∧ y.2 ≠ .cell
  free : ∀ y ∈ scope.names, y.2 = .free → sc.names.lookup y.1 = some .cell ∨ sc.names.lookup y.1 = some .free
  new : a ∉ N
theorem LamS1.has {X : Cx} {scope : Scope} {a : Str} (L : LamS1 X.env.scope scope X.N a) (ok : X.Ok) : ∀ y ∈ scope.names, y.2 = .free → ∃ c, X.env.cells.lookup y.1 = some c := fun y hy e => ok.has _ (L.free y hy e)
/-- what the call of a function with one value leads to -/
abbrev TL := D → Mem → (D → Mem → Prop) → RX → Prop
/-- f can be called with one value, from the state (s, H) of the frames outer on -/
structure Callee (pg : Program) (w : World) (K : PySem.W.Frag) (mg : Str → Option Value) (base : Heap) (gl : Bool) (kb : Nat) (f : Addr) (F0 : Hp) (T : TL) (outer : List PySem.Env) (s : Shared) (H : Hp) : Prop where
  obj : PySem.W.FnAt f s.heap
  hid : H f = none
  far : f ∉ frs outer
  go : ∀ (A : Around) (outer' : List PySem.Env) (s1 : Shared) (H1 F : Hp) (M : Mem) (d : D) (u : Value) (v : V) (P : D → Mem → Prop) (R : RX) (Q : VK) (E : XK), (gl = true → A.guards = some []) → Room (kb + 1) A → Env0 pg w K mg base A outer' s1 H1 → Un (frs outer) [] H H1 s.heap s1.heap → RelV v u → Same F0 F → Ok K F M H1 → Rp K F v d → T d M P R → Kt K F P Q → Kx K F R E →
    codeAny (model pg w) A (.call (.ref f) ⟨[u], []⟩) (CR (L2.CX pg w) outer' pg w H1 s1 Q E) s1
end DX
namespace DX
open PySem PySem.Spec L2 PyProof.Rows StX LamX
section
variable {pg : Program} {w : World} {K : PySem.W.Frag} {mg : Str → Option Value} {base : Heap} {x qual : Str} {params : Arguments} {body : List Stmt} {scope : Scope} {kws : List (Str × V)} {f : Addr} {fd : FuncData} {N ps : List Str} {k kb : Nat} {gd : Bool}
theorem Callee.to {cf : Addr} {F0 F1 : Hp} {T : TL} {outer : List PySem.Env} {s s2 : Shared} {H H2 : Hp} (C : Callee pg w K mg base gd kb cf F0 T outer s H) (un : Un (frs outer) [] H H2 s.heap s2.heap) (sm : Same F0 F1) : Callee pg w K mg base gd kb cf F1 T outer s2 H2 := by
  obtain ⟨oc, od, fd, sl, hf⟩ := C.obj
  have nx : cf ∉ ([] : List Addr) := fun z => nomatch z
  exact ⟨⟨oc, od, fd, sl, un.keep cf _ hf C.hid C.far nx⟩, un.free cf _ hf C.hid nx, C.far, fun A o s1 H1 F M d u v P R Q E hg hr e0 u2 rv sF => C.go A o s1 H1 F M d u v P R Q E hg hr e0 (un.trans u2) rv (sm.trans sF)⟩
end
end DX
namespace DX
open PySem PySem.Spec L2 SX
section
variable {α β : Type} {f : D → Option D} {xs : List D}
/-- what holds of what comes -/
def Gives {α : Type} (o : Option α) (Q : α → Prop) : Prop := ∃ y, o = some y ∧ Q y
theorem Gives.bind {o : Option α} {f : α → Option β} {Q : β → Prop} (h : Gives o fun a => Gives (f a) Q) : Gives (o.bind f) Q := by
  obtain ⟨y, rfl, h⟩ := h
  exact h
theorem Gives.imp {o : Option α} {Q Q' : α → Prop} (h : Gives o Q) (k : ∀ a, Q a → Q' a) : Gives o Q' := by
  obtain ⟨y, e, h⟩ := h
  exact ⟨y, e, k y h⟩
end
end DX
namespace My
open PySem PySem.Spec L2 DX SX
noncomputable section
abbrev HzL : List PySem.Str := ["Finder", "Order"]
def Hz (Z : Str → Addr) : Prop := (HzL.map Z).Nodup
instance {Z : Str → Addr} : Decidable (Hz Z) := inferInstanceAs (Decidable ((HzL.map Z).Nodup))
end
end My
namespace My
open PySem PySem.Spec L2 DX SX PyProof.Rows StX LamX
def topS (i : Nat) : Stmt := PySem.Challenge.pw_carryprobe_k54_whole_how_many_trials_are.main.body.getD i (.Pass ⟨0, 0, 0, 0⟩)
abbrev s_Ltap : Stmt := topS 36
abbrev s_Lnext : Stmt := topS 37
abbrev s_output_positions : Stmt := topS 21
abbrev s_halvings : Stmt := topS 30
abbrev s_most_trials : Stmt := topS 31
abbrev s_Lhidden : Stmt := topS 38
abbrev s_is_between : Stmt := topS 12
abbrev s_first_ones : Stmt := topS 23
abbrev s_Order___init__ : Stmt := inClass (topS 24) 1
abbrev s_Order___add__ : Stmt := inClass (topS 24) 9
abbrev s_need_size : Stmt := topS 32
abbrev s_candidates_behind : Stmt := topS 27
abbrev s_Finder___init__ : Stmt := inClass (topS 33) 0
abbrev s_Finder_candidates : Stmt := inClass (topS 33) 2
abbrev s_Finder_is_finished : Stmt := inClass (topS 33) 3
abbrev s_settled_stage : Stmt := topS 28
abbrev s_Finder_tell : Stmt := inClass (topS 33) 6
abbrev s_trial_with : Stmt := topS 18
abbrev s_next_trial : Stmt := topS 29
abbrev s_Finder_trial : Stmt := inClass (topS 33) 4
abbrev s_Finder_known : Stmt := inClass (topS 33) 1
abbrev s_Finder_order : Stmt := inClass (topS 33) 8
abbrev s_found_order : Stmt := topS 34
abbrev s_state_at : Stmt := topS 17
abbrev s_first_state : Stmt := topS 20
abbrev s_Order___call__ : Stmt := inClass (topS 24) 10
abbrev s_Lnoted : Stmt := topS 39
abbrev s_Order___eq__ : Stmt := inClass (topS 24) 4
abbrev s_Order_positions : Stmt := inClass (topS 24) 2
abbrev s_Ltrials : Stmt := topS 40
abbrev s_Lsum : Stmt := topS 41
abbrev s_Lall : Stmt := topS 42
abbrev s_Lsmall_right : Stmt := topS 43
abbrev s_law : Stmt := topS 44
abbrev s_InvalidPosition___init__ : Stmt := inClass (topS 4) 0
abbrev s_InvalidSize___init__ : Stmt := inClass (topS 3) 0
abbrev tl : TbL := [(("_law_trials", none), "_law_trials.<locals>.<lambda>")]
def dd_Ltap : He.DefD := ⟨("_law_tap", none), "_law_tap", "_law_tap", defArgs s_Ltap, defBody s_Ltap, defScope s_Ltap, [], []⟩
def dd_Lnext : He.DefD := ⟨("_law_next", none), "_law_next", "_law_next", defArgs s_Lnext, defBody s_Lnext, defScope s_Lnext, [], []⟩
def dd_output_positions : He.DefD := ⟨("output_positions", none), "output_positions", "output_positions", defArgs s_output_positions, defBody s_output_positions, defScope s_output_positions, [], []⟩
def dd_halvings : He.DefD := ⟨("halvings", none), "halvings", "halvings", defArgs s_halvings, defBody s_halvings, defScope s_halvings, [], []⟩
def dd_most_trials : He.DefD := ⟨("most_trials", none), "most_trials", "most_trials", defArgs s_most_trials, defBody s_most_trials, defScope s_most_trials, [], [("ring", .bl false)]⟩
def dd_Lhidden : He.DefD := ⟨("_law_hidden", none), "_law_hidden", "_law_hidden", defArgs s_Lhidden, defBody s_Lhidden, defScope s_Lhidden, [], []⟩
def dd_is_between : He.DefD := ⟨("is_between", none), "is_between", "is_between", defArgs s_is_between, defBody s_is_between, defScope s_is_between, [], []⟩
def dd_first_ones : He.DefD := ⟨("first_ones", none), "first_ones", "first_ones", defArgs s_first_ones, defBody s_first_ones, defScope s_first_ones, [], []⟩
def dd_Order___init__ : He.DefD := ⟨("Order", some "__init__"), "__init__", "Order.__init__", defArgs s_Order___init__, defBody s_Order___init__, defScope s_Order___init__, [], []⟩
def dd_Order___add__ : He.DefD := ⟨("Order", some "__add__"), "__add__", "Order.__add__", defArgs s_Order___add__, defBody s_Order___add__, defScope s_Order___add__, [], []⟩
def dd_need_size : He.DefD := ⟨("need_size", none), "need_size", "need_size", defArgs s_need_size, defBody s_need_size, defScope s_need_size, [], []⟩
def dd_candidates_behind : He.DefD := ⟨("candidates_behind", none), "candidates_behind", "candidates_behind", defArgs s_candidates_behind, defBody s_candidates_behind, defScope s_candidates_behind, [], []⟩
def dd_Finder___init__ : He.DefD := ⟨("Finder", some "__init__"), "__init__", "Finder.__init__", defArgs s_Finder___init__, defBody s_Finder___init__, defScope s_Finder___init__, [], [("ring", .bl false)]⟩
def dd_settled_stage : He.DefD := ⟨("settled_stage", none), "settled_stage", "settled_stage", defArgs s_settled_stage, defBody s_settled_stage, defScope s_settled_stage, [], []⟩
def dd_Finder_tell : He.DefD := ⟨("Finder", some "tell"), "tell", "Finder.tell", defArgs s_Finder_tell, defBody s_Finder_tell, defScope s_Finder_tell, [], []⟩
def dd_trial_with : He.DefD := ⟨("trial_with", none), "trial_with", "trial_with", defArgs s_trial_with, defBody s_trial_with, defScope s_trial_with, [], [("zero", .str "K")]⟩
def dd_next_trial : He.DefD := ⟨("next_trial", none), "next_trial", "next_trial", defArgs s_next_trial, defBody s_next_trial, defScope s_next_trial, [], []⟩
def dd_Finder_order : He.DefD := ⟨("Finder", some "order"), "order", "Finder.order", defArgs s_Finder_order, defBody s_Finder_order, defScope s_Finder_order, [], []⟩
def dd_found_order : He.DefD := ⟨("found_order", none), "found_order", "found_order", defArgs s_found_order, defBody s_found_order, defScope s_found_order, [], [("ring", .bl false)]⟩
def dd_state_at : He.DefD := ⟨("state_at", none), "state_at", "state_at", defArgs s_state_at, defBody s_state_at, defScope s_state_at, [], []⟩
def dd_first_state : He.DefD := ⟨("first_state", none), "first_state", "first_state", defArgs s_first_state, defBody s_first_state, defScope s_first_state, [], []⟩
def dd_Order___call__ : He.DefD := ⟨("Order", some "__call__"), "__call__", "Order.__call__", defArgs s_Order___call__, defBody s_Order___call__, defScope s_Order___call__, [], []⟩
def dd_Lnoted : He.DefD := ⟨("_law_noted", none), "_law_noted", "_law_noted", defArgs s_Lnoted, defBody s_Lnoted, defScope s_Lnoted, [], []⟩
def dd_Order___eq__ : He.DefD := ⟨("Order", some "__eq__"), "__eq__", "Order.__eq__", defArgs s_Order___eq__, defBody s_Order___eq__, defScope s_Order___eq__, [], []⟩
def dd_Ltrials : He.DefD := ⟨("_law_trials", none), "_law_trials", "_law_trials", defArgs s_Ltrials, defBody s_Ltrials, defScope s_Ltrials, [], []⟩
def dd_Lsum : He.DefD := ⟨("_law_sum", none), "_law_sum", "_law_sum", defArgs s_Lsum, defBody s_Lsum, defScope s_Lsum, [], []⟩
def dd_Lall : He.DefD := ⟨("_law_all", none), "_law_all", "_law_all", defArgs s_Lall, defBody s_Lall, defScope s_Lall, [], []⟩
def dd_Lsmall_right : He.DefD := ⟨("_law_small_right", none), "_law_small_right", "_law_small_right", defArgs s_Lsmall_right, defBody s_Lsmall_right, defScope s_Lsmall_right, [], []⟩
def dd_law : He.DefD := ⟨("law", none), "law", "law", defArgs s_law, defBody s_law, defScope s_law, [], []⟩
def dd_InvalidPosition___init__ : He.DefD := ⟨("InvalidPosition", some "__init__"), "__init__", "InvalidPosition.__init__", defArgs s_InvalidPosition___init__, defBody s_InvalidPosition___init__, defScope s_InvalidPosition___init__, [], []⟩
def dd_InvalidSize___init__ : He.DefD := ⟨("InvalidSize", some "__init__"), "__init__", "InvalidSize.__init__", defArgs s_InvalidSize___init__, defBody s_InvalidSize___init__, defScope s_InvalidSize___init__, [], []⟩
def dp_Finder_candidates : DX.PrD := ⟨0, "Finder", "candidates", "Finder.candidates", defArgs s_Finder_candidates, defBody s_Finder_candidates, defScope s_Finder_candidates⟩
def dp_Finder_is_finished : DX.PrD := ⟨0, "Finder", "is_finished", "Finder.is_finished", defArgs s_Finder_is_finished, defBody s_Finder_is_finished, defScope s_Finder_is_finished⟩
def dp_Finder_trial : DX.PrD := ⟨0, "Finder", "trial", "Finder.trial", defArgs s_Finder_trial, defBody s_Finder_trial, defScope s_Finder_trial⟩
def dp_Finder_known : DX.PrD := ⟨0, "Finder", "known", "Finder.known", defArgs s_Finder_known, defBody s_Finder_known, defScope s_Finder_known⟩
def dp_Order_positions : DX.PrD := ⟨0, "Order", "positions", "Order.positions", defArgs s_Order_positions, defBody s_Order_positions, defScope s_Order_positions⟩
def fn : List He.DefD := [dd_Ltap, dd_Lnext, dd_output_positions, dd_halvings, dd_most_trials, dd_Lhidden, dd_is_between, dd_first_ones, dd_Order___init__, dd_Order___add__, dd_need_size, dd_candidates_behind, dd_Finder___init__, dd_settled_stage, dd_Finder_tell, dd_trial_with, dd_next_trial, dd_Finder_order, dd_found_order, dd_state_at, dd_first_state, dd_Order___call__, dd_Lnoted, dd_Order___eq__, dd_Ltrials, dd_Lsum, dd_Lall, dd_Lsmall_right, dd_law, dd_InvalidPosition___init__, dd_InvalidSize___init__]
def fa : List He.Fa := [.glo "_law_tap", .glo "_law_next", .glo "output_positions", .glo "halvings", .glo "most_trials", .glo "_law_hidden", .glo "is_between", .glo "first_ones", .glo "need_size", .glo "candidates_behind", .glo "settled_stage", .glo "trial_with", .glo "next_trial", .glo "found_order", .glo "state_at", .glo "first_state", .glo "_law_noted", .glo "_law_trials", .glo "_law_sum", .glo "_law_all", .glo "_law_small_right", .glo "law", .glo "InvalidPosition", .cls "Order", .noat "Order" "entries", .mkr "Order", .glo "Order", .glo "InvalidSize", .cls "Finder", .noat "Finder" "stages", .noat "Finder" "carries_told", .noat "Finder" "for_ring", .noat "Finder" "bits", .glo "NotFinished", .mkr "Finder", .glo "Finder", .meth "Finder" "tell", .meth "Finder" "order", .meth "Order" "__add__", .meth "Order" "__eq__", .free "abs", .free "bool", .free "dict", .free "enumerate", .free "int", .free "isinstance", .free "len", .free "list", .free "max", .free "range", .free "repr", .free "sum", .free "tuple", .str "END" "end", .str "GENERATE" "G", .str "KILL" "K", .int "MOST_BITS" 24, .str "PASS" "P"]
abbrev R : PySem.W.OpenRow := PySem.W.OpenLaw.row PySem.Challenge.rw_carryprobe_k54_whole_how_many_trials_are
def exq (K : PySem.W.Frag) : Bool := (DX.conB K "Order" "GREATEST" 24) && (errB "ValueError.__new__" mroV K "InvalidPosition") && (He.eqO (PySem.W.findIn K (.ref (He.ga K "InvalidPosition")) "index") (some none)) && (errB "ValueError.__new__" mroV K "InvalidSize") && (He.eqO (PySem.W.findIn K (.ref (He.ga K "InvalidSize")) "value") (some none)) && (errNB "LookupError.__new__" mroL K "NotFinished") && (DX.callB K "Order") && (DX.isiB K "Order") && (sfB K "Order") && ((["NoneType", "bool", "int", "str", "tuple", "list", "dict"] : List String).all fun n => decide (PySem.W.subIn K (.type n) (.ref (He.ga K "Order")) = some false)) && (allB K (["Order"] : List PySem.Str) fun C => PySem.W.notFirst K (He.ga K "Order") (.ref C)) && (decide (Hz (Zk K))) && sysB K
def pr : List DX.PrD := [dp_Finder_candidates, dp_Finder_is_finished, dp_Finder_trial, dp_Finder_known, dp_Order_positions]
abbrev hk : PySem.W.Hook := DX.hookT 5 fa fn pr exq tl
def ob (s : PySem.W.SharedT) : DX.LookT := DX.lookT fa fn pr exq tl 5 (HandSHeadRun.getT s)
def loose : List PySem.Str := (["_wall", "ProbeError", "InvalidSize", "InvalidPosition", "InvalidCarry", "AbsentError", "NoPlace", "Finished", "NotFinished", "MOST_BITS", "is_between", "GENERATE", "KILL", "PASS", "state_at", "trial_with", "first_state", "output_positions", "first_ones", "Order", "END", "candidates_behind", "settled_stage", "next_trial", "halvings", "most_trials", "need_size", "Finder", "found_order", "_law_tap"] : List PySem.Str) ++ (["_law_next", "_law_hidden", "_law_noted", "_law_trials", "_law_sum", "_law_all", "_law_small_right"] : List PySem.Str)
theorem run (w : World) : HandSHeadRun.RunEq R (PySem.W.view R.prog [44]) hk ob 12000 loose w := by
  intro os
  kernel_rfl
end My
end
namespace DTK
open PySem PySem.Spec L2 PyProof.Rows
section
variable {X : Cx} {pins : List (Addr × Obj)} {σ : L2.St} {H : Hp} {s : Shared} {a b : Addr} {ks : List Int} {kvs : TE3} {v : V} {u : Value} {A : Around} {E : Value → Shared → Prop}
end
end DTK
namespace DX
open PySem PySem.Spec L2

section
variable {K : PySem.W.Frag} {F F' H H' : Hp}
theorem Rps.getV : ∀ {v : List V} {d : List D} {i : Nat} {y : V}, Rps K F v d → v[i]? = some y → ∃ x, d[i]? = some x ∧ Rp K F y x
  | _, _, i, _, .nil, e => by simp at e
  | _, _, 0, _, .cons h _, e => by simp at e; subst e; exact ⟨_, rfl, h⟩
  | _, _, i + 1, x, .cons _ r, e => by
    obtain ⟨y, h1, h2⟩ := Rps.getV (i := i) (y := x) r (by simpa using e)
    exact ⟨y, by simpa using h1, h2⟩
theorem Rps.take : ∀ {v : List V} {d : List D} (i : Nat), Rps K F v d → Rps K F (v.take i) (d.take i)
  | _, _, 0, _ => .nil
  | _, _, _ + 1, .nil => .nil
  | _, _, i + 1, .cons h r => .cons h (Rps.take i r)
theorem Rps.rep {v : List V} {d : List D} (r : Rps K F v d) : ∀ n : Nat, Rps K F (List.replicate n v).flatten (List.replicate n d).flatten
  | 0 => .nil
  | n + 1 => by
    rw [List.replicate_succ, List.replicate_succ, List.flatten_cons, List.flatten_cons]
    exact r.append (Rps.rep r n)
theorem Rps.reverse : ∀ {v : List V} {d : List D}, Rps K F v d → Rps K F v.reverse d.reverse
  | _, _, .nil => .nil
  | _, _, .cons h r => by
    rw [List.reverse_cons, List.reverse_cons]
    exact (Rps.reverse r).append (.cons h .nil)
theorem Rps.ints : ∀ {v : List V} {ns : List Int}, Rps K F v (ns.map D.int) → v = ns.map V.int
  | v, [], h => by cases h; rfl
  | v, n :: ns, h => by
    cases h with
    | cons a r =>
      cases a
      rw [Rps.ints r]; rfl
theorem Rps.ofInts : ∀ {ns : List Int}, Rps K F (ns.map V.int) (ns.map D.int)
  | [] => .nil
  | n :: ns => .cons (.int n) Rps.ofInts
theorem Rps.strs : ∀ {v : List V} {ns : List Str}, Rps K F v (ns.map D.str) → v = ns.map V.str
  | v, [], h => by cases h; rfl
  | v, n :: ns, h => by
    cases h with
    | cons a r =>
      cases a
      rw [Rps.strs r]; rfl
theorem Rps.ofStrs : ∀ {ns : List Str}, Rps K F (ns.map V.str) (ns.map D.str)
  | [] => .nil
  | n :: ns => .cons (.str n) Rps.ofStrs
end

/-- a slot forgotten -/
def cut : DEnv → Nat → DEnv
  | [], _ => []
  | _ :: r, 0 => none :: r
  | x :: r, n + 1 => x :: cut r n
def cuts (ρ : DEnv) : List Nat → DEnv
  | [] => ρ
  | v :: vs => cut (cuts ρ vs) v
section
variable {K : PySem.W.Frag} {F F' H H' : Hp}
theorem En.cut : ∀ {σ : St} {ρ : DEnv} (i : Nat), En K F σ ρ → En K F (σ.set i none) (DX.cut ρ i)
  | _, _, _, .nil => .nil
  | _, _, 0, .cons _ r => .cons (fun x q => by cases q) r
  | _, _, i + 1, .cons h' r => .cons h' (En.cut i r)
theorem En.cuts {σ : St} {ρ : DEnv} (h : En K F σ ρ) : ∀ vs : List Nat, En K F (wipe σ vs) (DX.cuts ρ vs)
  | [] => h
  | v :: vs => En.cut v (En.cuts h vs)
def startD (n : Nat) (ds : List D) : DEnv := ds.map some ++ List.replicate n none
theorem En.rep : ∀ n : Nat, En K F (List.replicate n none) (List.replicate n none)
  | 0 => .nil
  | n + 1 => .cons (fun x q => by cases q) (En.rep n)
theorem En.start : ∀ {vs : List V} {ds : List D} (n : Nat), Rps K F vs ds → En K F (vs.map some ++ List.replicate n none) (startD n ds)
  | _, _, n, .nil => En.rep n
  | _, _, n, .cons h r => .cons (fun x q => ⟨_, rfl, by cases q; exact h⟩) (En.start n r)
end

theorem up_up {M : Mem} {a : Addr} {d e : D} : up (up M a d) a e = up M a e := by
  funext b; unfold up; split <;> rfl
theorem up_comm {M : Mem} {a b : Addr} {d e : D} (h : a ≠ b) : up (up M a d) b e = up (up M b e) a d := by
  funext c; unfold up
  by_cases h1 : c = a
  · subst h1
    rw [if_neg h]; simp
  · simp [h1]
theorem rm_up {M : Mem} {a : Addr} {d : D} (h : M a = none) : rm (up M a d) a = M := by
  funext c; unfold rm up
  by_cases h1 : c = a
  · subst h1; rw [if_pos rfl, h]
  · rw [if_neg h1, if_neg h1]
section
variable {K : PySem.W.Frag} {F F' H H' : Hp} {M : Mem}
theorem Ok.nn (k : Ok K F M H) {a : Addr} (h : H a = none) : F a = none ∧ M a = none := by
  refine ⟨k.ex.free h, ?_⟩
  cases q : M a with
  | none => rfl
  | some d =>
    obtain ⟨o, e⟩ := (k.mt a d q).2.there
    rw [h] at e; cases e
/-- a new object that is never to change -/
theorem Ok.fix (k : Ok K F M H) {a : Addr} {o : HO} (h : H a = none) : Ok K (upd F a o) M (upd H a o) := by
  obtain ⟨h1, h2⟩ := k.nn h
  refine ⟨fun b u e => ?_, fun b d e => ?_⟩
  · by_cases hb : b = a
    · subst hb; rw [upd_same] at e ⊢; exact e
    · rw [upd_ne hb] at e ⊢; exact k.ex b u e
  · have hb : b ≠ a := fun z => by subst z; rw [h2] at e; cases e
    obtain ⟨m1, m2⟩ := k.mt b d e
    exact ⟨by rw [upd_ne hb]; exact m1, m2.mono (same_new h1) (upd_ne hb)⟩
theorem Ok.fixSame (k : Ok K F M H) {a : Addr} {o : HO} (h : H a = Option.none) : Same F (upd F a o) := same_new (k.nn h).1
/-- a new object that may change -/
theorem Ok.lay (k : Ok K F M H) {a : Addr} {o : HO} {d : D} (h : H a = Option.none) (m : Mt K F (upd H a o) a d) : Ok K F (up M a d) (upd H a o) := by
  obtain ⟨h1, h2⟩ := k.nn h
  refine ⟨fun b u e => ?_, fun b d' e => ?_⟩
  · rw [upd_ne (ne_of_none e h1)]
    exact k.ex b u e
  · by_cases hb : b = a
    · subst hb
      rw [up_same] at e; cases e
      exact ⟨h1, m⟩
    · rw [up_ne hb] at e
      obtain ⟨m1, m2⟩ := k.mt b d' e
      exact ⟨m1, m2.mono (Same.refl F) (upd_ne hb)⟩
end

def Gh.triv : Gh := ⟨fun _ => True, fun _ _ _ h => h⟩
section
variable {X : Cx} {J : Gh} {e : Expr} {es : List Expr} {ρ : DEnv} {M M' : Mem} {F F' H H' : Hp} {σ : St} {P : D → Mem → Prop} {K : PySem.W.Frag}
theorem pe_any : PE X e (tE X e) := ⟨fun pins s σ H Q I ⟨t, h, q⟩ => h.run pins s σ H Q I q⟩
theorem pt_any : PT X e (tTe X e) := ⟨fun pins s σ H Q I ⟨t, h, q⟩ => h.run pins s σ H Q I q⟩
theorem pw_any : PW X e (tWe X e) := ⟨fun wh pins s σ H Q I ⟨t, h, q⟩ => h.run wh pins s σ H Q I q⟩
theorem pa_any : PA X es (tAe X es) := ⟨fun pos pins s σ H Q I ⟨t, h, q⟩ => h.run pos pins s σ H Q I q⟩
theorem wx_of {t : TT} {P : Bool → Mem → Prop} (h : PW X e t) (k : ∀ F σ H Q, Sts X.K J F σ H ρ M → Kb X.K F P Q → t σ H Q) : WX X J e ρ M P := ⟨fun wh pins s σ H Q I ⟨F, st, q⟩ => h.run wh pins s σ H Q I (k F σ H Q st q)⟩
end
end DX
namespace DX
open PySem PySem.Spec L2

section
variable {X : Cx} {J : Gh} {e a b c : Expr} {es : List Expr} {ρ : DEnv} {M M' : Mem} {F F' H H' : Hp} {σ : St} {P : D → Mem → Prop} {PB : Bool → Mem → Prop} {PA' : List D → Mem → Prop} {K : PySem.W.Frag} {pos : Pos} {x : Str}

theorem ex_var {d : D} (i : Nat) (h : look ρ i = some d) (p : P d M) (hN : X.N[i]? = some x := by rfl) (hv : Vis X.env.scope x := by first | exact Or.inl rfl | exact Or.inr (Or.inl rfl) | exact Or.inr (Or.inr rfl)) (hd : (x == ("__debug__" : Str)) = false := by decide)
    (hcd : (x == ("__classdict__" : Str)) = false := by decide) : EX X J (.Name x pos) ρ M P :=
  ex_of (pe_var hN hv hd hcd) fun F σ H Q st k => by
    obtain ⟨v, h1, h2⟩ := st.en.look h
    exact ⟨v, h1, k.here p st.ok h2⟩
theorem ex_int {i : Int} {j} (p : P (.int i) M) : EX X J (.Constant (.int i) j pos) ρ M P := ex_of pe_int fun F σ H Q st k => k.here p st.ok (.int i)
theorem ex_bl {i : Bool} {j} (p : P (.bl i) M) : EX X J (.Constant (.bool i) j pos) ρ M P := ex_of pe_bl fun F σ H Q st k => k.here p st.ok (.bl i)
theorem ex_non {j} (p : P .non M) : EX X J (.Constant .none j pos) ρ M P := ex_of pe_non fun F σ H Q st k => k.here p st.ok .non
theorem ex_str {i : Str} {j} (p : P (.str i) M) : EX X J (.Constant (.str i) j pos) ρ M P := ex_of pe_str fun F σ H Q st k => k.here p st.ok (.str i)
/-- a module's constant -/
theorem ex_glob {v : V} {u : Value} {d : D} (hg : Gl X x) (hm : X.mg x = some u) (r : RelV v u) (hr : ∀ F, Rp X.K F v d) (p : P d M) (hd : (x == ("__debug__" : Str)) = false := by decide) : EX X J (.Name x pos) ρ M P :=
  ex_of (pe_glob hg hm r hd) fun F σ H Q st k => k.here p st.ok (hr F)

theorem ax_nil (p : PA' [] M) : AX X J [] ρ M PA' := ax_of pa_nil fun F σ H Q st k => k [] [] M F H p (Same.refl F) st.ok .nil
theorem ax_cons (h : EX X J e ρ M fun d M1 => AX X J es ρ M1 fun ds M2 => PA' (d :: ds) M2) (hs : starEach (e :: es) X.env = (false, eval e X.env) :: starEach es X.env := by rfl) : AX X J (e :: es) ρ M PA' :=
  ax_of (pa_cons pe_any pa_any hs) fun F σ H Q st k => h.go st fun d v M1 F1 H1 p e1 o1 r1 => AX.go p (st.to e1 o1) fun ds vs M2 F2 H2 p2 e2 o2 r2 => k _ _ M2 F2 H2 p2 (e1.trans e2) o2 (.cons (r1.mono e2) r2)

theorem op_any {f : Value → Value → Sem Value} : OpR X f (rAnyO X f) := fun pins s σ H x y v u Q I rx ry ⟨r, h, q⟩ => h pins s σ H x y v u Q I rx ry q
theorem ex_bin {op : Operator} (h : EX X J a ρ M fun x M1 => EX X J b ρ M1 fun y M2 => OD X (binaryOp op) x y M2 P) : EX X J (.BinOp a op b pos) ρ M P :=
  ex_of (pe_op op_any pe_any pe_any) fun F σ H Q st k => h.go st fun d v M1 F1 H1 p e1 o1 r1 => EX.go p (st.to e1 o1) fun d2 v2 M2 F2 H2 p2 e2 o2 r2 => p2.go o2 (r1.mono e2) r2 (k.to (e1.trans e2))
/-- a comparison as a value; as a test -/
theorem ex_cmp {op : CmpOp} (h : EX X J a ρ M fun x M1 => EX X J b ρ M1 fun y M2 => OD X (compareOp op) x y M2 P) (hm : behindInMarks op b = false := by rfl) : EX X J (.Compare a [op] [b] pos) ρ M P :=
  ex_of (pe_cmpR op_any pe_any pe_any hm) fun F σ H Q st k => h.go st fun d v M1 F1 H1 p e1 o1 r1 => EX.go p (st.to e1 o1) fun d2 v2 M2 F2 H2 p2 e2 o2 r2 => p2.go o2 (r1.mono e2) r2 (k.to (e1.trans e2))
def PBl (PB : Bool → Mem → Prop) : D → Mem → Prop := fun d M => ∃ c, d = .bl c ∧ PB c M
theorem kt_bl {Q : Bool → Hp → Prop} (k : Kb K F PB Q) : Kt K F (PBl PB) (fun x H' => ∃ k, x = .bl k ∧ Q k H') := fun d v M' F' H' p e o r => by
  obtain ⟨c, rfl, p⟩ := p
  cases r
  exact ⟨c, rfl, k c M' F' H' p e o⟩
theorem tx_cmp {op : CmpOp} (h : EX X J a ρ M fun x M1 => EX X J b ρ M1 fun y M2 => OD X (compareOp op) x y M2 (PBl PB)) (hm : behindInMarks op b = false := by rfl) : TX X J (.Compare a [op] [b] pos) ρ M PB :=
  tx_of (pt_cmpR op_any pe_any pe_any hm) fun F σ H Q st k => h.go st fun d v M1 F1 H1 p e1 o1 r1 => EX.go p (st.to e1 o1) fun d2 v2 M2 F2 H2 p2 e2 o2 r2 => p2.go o2 (r1.mono e2) r2 ((kt_bl k).to (e1.trans e2))
/-- a op b op' c -/
theorem ex_chain {op op' : CmpOp} (h : EX X J a ρ M fun x M1 => EX X J b ρ M1 fun y M2 => OD X (compareOp op) x y M2 (PBl fun t M3 => (t = true → EX X J c ρ M3 fun z M4 => OD X (compareOp op') y z M4 P) ∧ (t = false → P (.bl false) M3)))
    (h1 : lastMarks [op, op'] [b, c] = false := by with_unfolding_all rfl) : EX X J (.Compare a [op, op'] [b, c] pos) ρ M P :=
  ex_of (pe_chain op_any op_any pe_any pe_any pe_any h1) fun F σ H Q st k => h.go st fun d v M1 F1 H1 p e1 o1 r1 => EX.go p (st.to e1 o1) fun d2 v2 M2 F2 H2 p2 e2 o2 r2 => p2.go o2 (r1.mono e2) r2 fun d3 v3 M3 F3 H3 p3 e3 o3 r3 => by
    obtain ⟨t, rfl, p4, p5⟩ := p3
    cases r3
    refine ⟨t, rfl, ?_⟩
    cases t with
    | true => exact iteT ((p4 rfl).go (st.to ((e1.trans e2).trans e3) o3) fun d4 v4 M4 F4 H4 p6 e4 o4 r4 => OD.go p6 o4 ((r2.mono e3).mono e4) r4 (k.to (((e1.trans e2).trans e3).trans e4)))
    | false => exact iteF (k _ _ _ _ _ (p5 rfl) ((e1.trans e2).trans e3) o3 (.bl false))
theorem od_int {f : Value → Value → Sem Value} {C : Int → Int → Prop} {g : Int → Int → V} {g' : Int → Int → D} (h : OpR X f (rI C g)) {i j : Int} (hc : C i j) (hr : ∀ F, Rp X.K F (g i j) (g' i j)) (p : P (g' i j) M) : OD X f (.int i) (.int j) M P :=
  ⟨_, h, fun F H v u Q o rx ry k => by
    cases rx; cases ry
    exact ⟨i, j, rfl, rfl, hc, k.here p o (hr F)⟩⟩
theorem od_int0 {f : Value → Value → Sem Value} {g : Int → Int → V} {g' : Int → Int → D} (h : OpR X f (rI0 g)) {i j : Int} (hr : ∀ F, Rp X.K F (g i j) (g' i j)) (p : P (g' i j) M) : OD X f (.int i) (.int j) M P :=
  ⟨_, h, fun F H v u Q o rx ry k => by
    cases rx; cases ry
    exact ⟨i, j, rfl, rfl, k.here p o (hr F)⟩⟩
variable {i j : Int}
theorem od_add (p : P (.int (i + j)) M) : OD X (binaryOp .Add) (.int i) (.int j) M P := od_int0 (g' := fun i j => .int (i + j)) op_add (fun F => .int _) p
theorem od_sub (p : P (.int (i - j)) M) : OD X (binaryOp .Sub) (.int i) (.int j) M P := od_int0 (g' := fun i j => .int (i - j)) op_sub (fun F => .int _) p
theorem od_mul (hc : CMul i j) (p : P (.int (i * j)) M) : OD X (binaryOp .Mult) (.int i) (.int j) M P := od_int (g' := fun i j => .int (i * j)) op_mul hc (fun F => .int _) p
theorem od_fdiv (hc : CDiv i j) (p : P (.int (i / j)) M) : OD X (binaryOp .FloorDiv) (.int i) (.int j) M P := od_int (g' := fun i j => .int (i / j)) op_fdiv hc (fun F => .int _) p
theorem od_mod (hc : 0 < j) (p : P (.int (i % j)) M) : OD X (binaryOp .Mod) (.int i) (.int j) M P := od_int (g' := fun i j => .int (i % j)) op_mod hc (fun F => .int _) p
theorem od_pow (hc : CPow i j) (p : P (.int (i ^ j.toNat)) M) : OD X (binaryOp .Pow) (.int i) (.int j) M P := od_int (g' := fun i j => .int (i ^ j.toNat)) op_pow hc (fun F => .int _) p
theorem od_shl (hc : CPow i j) (p : P (.int (i * 2 ^ j.toNat)) M) : OD X (binaryOp .LShift) (.int i) (.int j) M P := od_int (g' := fun i j => .int (i * 2 ^ j.toNat)) op_shl hc (fun F => .int _) p
theorem od_lt (p : P (.bl (decide (i < j))) M) : OD X (compareOp .Lt) (.int i) (.int j) M P := od_int0 (g' := fun i j => .bl (decide (i < j))) op_lt (fun F => .bl _) p
theorem od_le (p : P (.bl (decide (i ≤ j))) M) : OD X (compareOp .LtE) (.int i) (.int j) M P := od_int0 (g' := fun i j => .bl (decide (i ≤ j))) op_le (fun F => .bl _) p
theorem od_gt (p : P (.bl (decide (j < i))) M) : OD X (compareOp .Gt) (.int i) (.int j) M P := od_int0 (g' := fun i j => .bl (decide (j < i))) op_gt (fun F => .bl _) p
theorem od_ge (p : P (.bl (decide (j ≤ i))) M) : OD X (compareOp .GtE) (.int i) (.int j) M P := od_int0 (g' := fun i j => .bl (decide (j ≤ i))) op_ge (fun F => .bl _) p
def sceq : D → D → Bool
  | .non, .non => true
  | .int i, .int j => decide (i = j)
  | .bl i, .bl j => decide (i = j)
  | .str i, .str j => decide (i = j)
  | _, _ => false
theorem sc_ok {x y : D} {v u : V} (h : sc x y = true) (rx : Rp K F v x) (ry : Rp K F u y) : scal v u = true ∧ decide (v = u) = sceq x y := by
  cases rx <;> cases ry <;> first
    | exact absurd h Bool.false_ne_true
    | exact ⟨rfl, by simp [sceq]⟩
theorem od_eq {x y : D} (h : sc x y = true) (p : P (.bl (sceq x y)) M) : OD X (compareOp .Eq) x y M P :=
  ⟨_, op_eq, fun F H v u Q o rx ry k => by
    obtain ⟨h1, h2⟩ := sc_ok h rx ry
    exact ⟨h1, by rw [h2]; exact k.here p o (.bl _)⟩⟩
theorem od_ne {x y : D} (h : sc x y = true) (p : P (.bl (!sceq x y)) M) : OD X (compareOp .NotEq) x y M P :=
  ⟨_, op_ne, fun F H v u Q o rx ry k => by
    obtain ⟨h1, h2⟩ := sc_ok h rx ry
    exact ⟨h1, by rw [h2]; exact k.here p o (.bl _)⟩⟩
theorem tx_pw (h : WX X J e ρ M PB) : TX X J e ρ M PB := PW.pt h
theorem wx_and1 (h : TX X J a ρ M PB) : WX X J (.BoolOp .And [a] pos) ρ M PB := pw_and1 h
theorem wx_or1 (h : TX X J a ρ M PB) : WX X J (.BoolOp .Or [a] pos) ρ M PB := pw_or1 h
theorem wx_and {rest : List Expr} (h : TX X J a ρ M fun t M1 => (t = true → WX X J (.BoolOp .And (b :: rest) pos) ρ M1 PB) ∧ (t = false → PB false M1)) : WX X J (.BoolOp .And (a :: b :: rest) pos) ρ M PB :=
  wx_of (pw_and pt_any pw_any) fun F σ H Q st k => h.go st fun t M1 F1 H1 p e1 o1 => by
    cases t with
    | true => exact iteT ((p.1 rfl).go (st.to e1 o1) (k.to e1))
    | false => exact iteF (k _ _ _ _ (p.2 rfl) e1 o1)
theorem wx_or {rest : List Expr} (h : TX X J a ρ M fun t M1 => (t = false → WX X J (.BoolOp .Or (b :: rest) pos) ρ M1 PB) ∧ (t = true → PB true M1)) : WX X J (.BoolOp .Or (a :: b :: rest) pos) ρ M PB :=
  wx_of (pw_or pt_any pw_any) fun F σ H Q st k => h.go st fun t M1 F1 H1 p e1 o1 => by
    cases t with
    | false => exact iteF ((p.1 rfl).go (st.to e1 o1) (k.to e1))
    | true => exact iteT (k _ _ _ _ (p.2 rfl) e1 o1)
theorem tx_not (h : TX X J a ρ M fun t M1 => PB (!t) M1) : TX X J (.UnaryOp .Not a pos) ρ M PB :=
  tx_of (pt_not pt_any) fun F σ H Q st k => h.go st fun t M1 F1 H1 p e1 o1 => k _ _ _ _ p e1 o1
/-- as values, bools -/
theorem ex_one {op} (h : EX X J a ρ M P) : EX X J (.BoolOp op [a] pos) ρ M P := pe_one h
theorem ex_if (h : TX X J c ρ M fun t M1 => (t = true → EX X J a ρ M1 P) ∧ (t = false → EX X J b ρ M1 P)) : EX X J (.IfExp c a b pos) ρ M P :=
  ex_of (pe_ifExp pt_any pe_any pe_any) fun F σ H Q st k => h.go st fun t M1 F1 H1 p e1 o1 => by
    cases t with
    | true => exact iteT ((p.1 rfl).go (st.to e1 o1) (k.to e1))
    | false => exact iteF ((p.2 rfl).go (st.to e1 o1) (k.to e1))

/-- a new tuple, a new list that is not to change -/
theorem ex_tup {x1} (h : AX X J es ρ M fun ds M1 => ds.length ≤ 1000000 ∧ P (.tup ds) M1) : EX X J (.Tuple es x1 pos) ρ M P :=
  ex_of (pe_tup pa_any) fun F σ H Q st k => h.go st fun ds vs M1 F1 H1 p e1 o1 r1 => ⟨by rw [r1.length, sizeLine_eq]; omega, fun q hq =>
    k _ _ _ _ _ p.2 (e1.trans (o1.fixSame hq)) (o1.fix hq) (.tup (SqT.of upd_same) (r1.mono (o1.fixSame hq)))⟩
theorem ex_lst (h : AX X J es ρ M fun ds M1 => ds.length ≤ 1000000 ∧ P (.lst ds) M1) : EX X J (.List es pos) ρ M P :=
  ex_of (pe_lst pa_any) fun F σ H Q st k => h.go st fun ds vs M1 F1 H1 p e1 o1 r1 => ⟨by rw [r1.length, sizeLine_eq]; omega, fun q hq =>
    k _ _ _ _ _ p.2 (e1.trans (o1.fixSame hq)) (o1.fix hq) (.lst upd_same (r1.mono (o1.fixSame hq)))⟩
/-- a new list that may change -/
theorem ex_lstM (h : AX X J es ρ M fun ds M1 => ds.length ≤ 1000000 ∧ ∀ p, M1 p = none → P (.adr p) (up M1 p (.lst ds))) : EX X J (.List es pos) ρ M P :=
  ex_of (pe_lst pa_any) fun F σ H Q st k => h.go st fun ds vs M1 F1 H1 p e1 o1 r1 => ⟨by rw [r1.length, sizeLine_eq]; omega, fun q hq =>
    k _ _ _ _ _ (p.2 q (o1.nn hq).2) e1 (o1.lay hq ⟨vs, upd_same, r1⟩) (.adr q)⟩
/-- x[i] -/
def rAnyI (X : Cx) : R2 := fun v u H Q => ∃ r, IxR X r ∧ r v u H Q
theorem ix_any : IxR X (rAnyI X) := fun value slice pins s σ H x y v u Q I rx ry ⟨r, h, q⟩ hs => h value slice pins s σ H x y v u Q I rx ry q hs
def ID (X : Cx) (x y : D) (M : Mem) (P : D → Mem → Prop) : Prop :=
  ∃ r, IxR X r ∧ ∀ F H v u Q, Ok X.K F M H → Rp X.K F v x → Rp X.K F u y → Kt X.K F P Q → r v u H Q
theorem ex_ix (h : EX X J a ρ M fun x M1 => EX X J b ρ M1 fun y M2 => ID X x y M2 P) (hs : PlainIx b := by intro _ _; rfl) : EX X J (.Subscript a b pos) ρ M P :=
  ex_of (pe_ix ix_any pe_any pe_any hs) fun F σ H Q st k => h.go st fun d v M1 F1 H1 p e1 o1 r1 => EX.go p (st.to e1 o1) fun d2 v2 M2 F2 H2 p2 e2 o2 r2 => by
    obtain ⟨r, h1, h2⟩ := p2
    exact ⟨r, h1, h2 F2 H2 v v2 Q o2 (r1.mono e2) r2 (k.to (e1.trans e2))⟩
theorem atI_of {ds : List D} {xs : List V} {i : Int} {d : D} (r : Rps K F xs ds) (h : atI ds i = some d) : ∃ v, atI xs i = some v ∧ Rp K F v d := by
  unfold atI at h ⊢
  rw [r.length]
  cases e : ixN ds.length i with
  | none => rw [e] at h; cases h
  | some j =>
    rw [e] at h
    obtain ⟨v, h1, h2⟩ := r.get (show ds[j]? = some d from h)
    exact ⟨v, h1, h2⟩
theorem id_seq {x d : D} {ds : List D} (s : Sq M x ds) (h : atI ds i = some d) (p : P d M) : ID X x (.int i) M P :=
  ⟨_, ix_list.or ix_tup, fun F H v u Q o rx ry k => by
    cases ry
    obtain ⟨q, xs, rfl, hs, r⟩ := s.get o rx
    obtain ⟨w, h1, h2⟩ := atI_of r h
    rcases hs with hs | hs
    · exact .inl ⟨q, xs, i, w, rfl, rfl, hs, h1, k.here p o h2⟩
    · exact .inr ⟨q, xs, i, w, rfl, rfl, hs, h1, k.here p o h2⟩⟩
theorem id_str {z : Str} {n : Nat} (hz : z.length ≤ 1000000) (h : atI z.cps.toList i = some n) (p : P (.str ⟨#[n]⟩) M) : ID X (.str z) (.int i) M P :=
  ⟨_, ix_str, fun F H v u Q o rx ry k => by
    cases rx; cases ry
    exact ⟨z, i, n, rfl, rfl, by rw [sizeLine_eq]; omega, h, k.here p o (.str _)⟩⟩
/-- x + y of texts, lists, tuples; x * n -/
theorem od_addS {x y : Str} (hz : x.length + y.length ≤ 1000000) (p : P (.str (x ++ y)) M) : OD X (binaryOp .Add) (.str x) (.str y) M P :=
  ⟨_, op_add_str, fun F H v u Q o rx ry k => by
    cases rx; cases ry
    exact ⟨x, y, rfl, rfl, by rw [sizeLine_eq]; omega, k.here p o (.str _)⟩⟩
theorem od_addL {x y : D} {ds es : List D} (sx : Sl M x ds) (sy : Sl M y es) (hz : ds.length + es.length ≤ 1000000) (p : P (.lst (ds ++ es)) M) : OD X (binaryOp .Add) x y M P :=
  ⟨_, op_cat, fun F H v u Q o rx ry k => by
    obtain ⟨a, xs, rfl, h1, r1⟩ := sx.get o rx
    obtain ⟨b, ys, rfl, h2, r2⟩ := sy.get o ry
    exact ⟨a, b, xs, ys, rfl, rfl, h1, h2, by rw [r1.length, r2.length, sizeLine_eq]; omega, fun q hq => k _ _ _ _ _ p (o.fixSame hq) (o.fix hq) (.lst upd_same ((r1.append r2).mono (o.fixSame hq)))⟩⟩
theorem od_addT {ds es : List D} (hz : ds.length + es.length ≤ 1000000) (p : P (.tup (ds ++ es)) M) : OD X (binaryOp .Add) (.tup ds) (.tup es) M P :=
  ⟨_, op_catA, fun F H v u Q o rx ry k => by
    cases rx with
    | @tup a xs _ h1 r1 =>
    cases ry with
    | @tup b ys _ h2 r2 =>
      have g1 := same_t o.ex h1
      have g2 := same_t o.ex h2
      refine ⟨a, b, xs, ys, rfl, rfl, g1, g2, by rw [r1.length, r2.length, sizeLine_eq]; omega, fun e => ?_, fun _ e => ?_, fun _ _ q hq => ?_⟩
      · subst e
        have : ds = [] := by cases r1; rfl
        subst this
        exact k.here p o (.tup h2 (by simpa using r2))
      · subst e
        have : es = [] := by cases r2; rfl
        subst this
        exact k.here p o (.tup h1 (by simpa using r1))
      · exact k _ _ _ _ _ p (o.fixSame hq) (o.fix hq) (.tup (SqT.of upd_same) ((r1.append r2).mono (o.fixSame hq)))⟩
theorem od_mulL {x : D} {ds : List D} {n : Int} (sx : Sl M x ds) (h0 : -(2 ^ 62) ≤ n ∧ n < 2 ^ 62) (hz : ds.length * n.toNat ≤ 1000000) (p : P (.lst (List.replicate n.toNat ds).flatten) M) : OD X (binaryOp .Mult) x (.int n) M P :=
  ⟨_, op_rep, fun F H v u Q o rx ry k => by
    cases ry
    obtain ⟨a, xs, rfl, h1, r1⟩ := sx.get o rx
    exact ⟨a, n, xs, rfl, rfl, h1, by omega, by omega, by rw [r1.length, sizeLine_eq]; omega, fun q hq => k _ _ _ _ _ p (o.fixSame hq) (o.fix hq) (.lst upd_same ((r1.rep _).mono (o.fixSame hq)))⟩⟩
/-- slices of lists, tuples, texts -/
def tOe (X : Cx) (e : Option Expr) : TO := fun σ H Q => ∃ t, PO X e t ∧ t σ H Q
theorem po_any {eo : Option Expr} : PO X eo (tOe X eo) := ⟨fun pins s σ H Q I ⟨t, h, q⟩ => h.run pins s σ H Q I q⟩
def Ko (K : PySem.W.Frag) (F : Hp) (P : Option Int → Mem → Prop) (Q : Option Int → Hp → Prop) : Prop := ∀ b M' F' H', P b M' → Same F F' → Ok K F' M' H' → Q b H'
def OX (X : Cx) (J : Gh) (eo : Option Expr) (ρ : DEnv) (M : Mem) (P : Option Int → Mem → Prop) : Prop := ∀ F σ H Q, Sts X.K J F σ H ρ M → Ko X.K F P Q → tOe X eo σ H Q
theorem ox_none {PO' : Option Int → Mem → Prop} (p : PO' none M) : OX X J none ρ M PO' := fun F σ H Q st k => ⟨_, po_none, k _ _ _ _ p (Same.refl F) st.ok⟩
def rAnyS (X : Cx) : V → Option Int → Option Int → Hp → VK → Prop := fun v l h H Q => ∃ r, SlR X r ∧ r v l h H Q
theorem sl_any : SlR X (rAnyS X) := fun pins s σ H x v vl vu lo hi sl Q I rx hs pl pu ⟨r, h1, h2⟩ => h1 pins s σ H x v vl vu lo hi sl Q I rx hs pl pu h2
def SD (X : Cx) (x : D) (l h : Option Int) (M : Mem) (P : D → Mem → Prop) : Prop :=
  ∃ r, SlR X r ∧ ∀ F H v Q, Ok X.K F M H → Rp X.K F v x → Kt X.K F P Q → r v l h H Q
theorem ex_slice {lo hi : Option Expr} {p2 : Pos} (h : EX X J e ρ M fun x M1 => OX X J lo ρ M1 fun l M2 => OX X J hi ρ M2 fun u M3 => SD X x l u M3 P) : EX X J (.Subscript e (.Slice lo hi none p2) pos) ρ M P :=
  ex_of (pe_slice sl_any pe_any po_any po_any) fun F σ H Q st k => h.go st fun d v M1 F1 H1 p e1 o1 r1 => p F1 σ H1 _ (st.to e1 o1) fun l M2 F2 H2 p2 e2 o2 => p2 F2 σ H2 _ (st.to (e1.trans e2) o2) fun u M3 F3 H3 p3 e3 o3 => by
    obtain ⟨r, h1, h2⟩ := p3
    exact ⟨r, h1, h2 F3 H3 v Q o3 ((r1.mono e2).mono e3) (k.to ((e1.trans e2).trans e3))⟩
def cutD (ds : List D) (lo hi : Option Int) : List D := (ds.drop (HT.sIx ds.length 0 lo)).take (HT.sIx ds.length ds.length hi - HT.sIx ds.length 0 lo)
theorem cut_of {ds : List D} {xs : List V} (r : Rps K F xs ds) (lo hi : Option Int) : Rps K F (cutV xs lo hi) (cutD ds lo hi) := by
  unfold cutV cutD
  rw [r.length]
  exact (r.drop _).take _
theorem sd_list {x : D} {ds : List D} {l u : Option Int} (s : Sl M x ds) (p : P (.lst (cutD ds l u)) M) : SD X x l u M P :=
  ⟨_, sl_list, fun F H v Q o rx k => by
    obtain ⟨a, xs, rfl, h1, r1⟩ := s.get o rx
    exact ⟨a, xs, rfl, SqL.of h1, fun q hq => k _ _ _ _ _ p (o.fixSame hq) (o.fix hq) (.lst upd_same ((cut_of r1 l u).mono (o.fixSame hq)))⟩⟩
end
end DX
namespace DX
open PySem PySem.Spec L2

section
variable {X : Cx} {J : Gh} {e a b c : Expr} {es : List Expr} {st : Stmt} {rest sts : List Stmt} {ρ ρ' : DEnv} {M M' : Mem} {F F' H H' : Hp} {σ : St} {B : Bd} {K : PySem.W.Frag} {pos p : Pos} {x : Str} {E : Ends}
theorem pss_any : PSs X sts (tSe X sts) := ⟨fun pins s σ H D I ⟨t, h, q⟩ => h.run pins s σ H D I q⟩
theorem ps_any : PS X st (tS1 X st) := ⟨fun pins s σ H D I ⟨t, h, q⟩ => h.run pins s σ H D I q⟩
theorem g1_of {t : TS} (h : PS X st t) (k : ∀ F σ H E, Sts X.K J F σ H ρ M → Kd X.K F B E → t E σ H) : G1 X J st ρ M B := ⟨fun pins s σ H D I ⟨F, st, q⟩ => h.run pins s σ H D I (k F σ H D st q)⟩
/-- the ends with another way on -/
def Bd.thn (B : Bd) (nx : DEnv → Mem → Prop) : Bd := { B with nx := nx }
theorem gx_nil (h : B.nx ρ M) : GX X J [] ρ M B := gx_of pss_nil fun F σ H E st k => k.nx F σ H ρ M h (Same.refl F) st.en st.ok
/-- a statement, then the rest -/
theorem gx_cons (h : G1 X J st ρ M (B.thn fun ρ' M' => GX X J rest ρ' M' B)) (hJ : ∀ F, J.p F → ∀ F', Same F F' → J.p F') : GX X J (st :: rest) ρ M B :=
  gx_of (pss_cons ps_any pss_any) fun F σ H E s k => h.go s
    ⟨fun F' σ' H' ρ' M' q e en o => GX.go q ⟨en, o, J.mono _ _ e s.gh⟩ (k.to e), k.rt, k.bk, k.ct⟩
theorem gx_seq (h : G1 X J st ρ M (B.thn fun ρ' M' => GX X J rest ρ' M' B)) : GX X J (st :: rest) ρ M B := gx_cons h fun F q F' e => J.mono F F' e q
/-- at d, into the names ρ: then P of the names -/
def AsD (X : Cx) (target : Expr) (d : D) (ρ : DEnv) (P : DEnv → Prop) : Prop :=
  ∃ g, PG X target g ∧ ∀ F M v σ H Q, Ok X.K F M H → Rp X.K F v d → En X.K F σ ρ → (∀ σ' ρ', P ρ' → En X.K F σ' ρ' → Q σ' H) → g v σ H Q
def AsDs (X : Cx) (ts : List Expr) (ds : List D) (ρ : DEnv) (P : DEnv → Prop) : Prop :=
  ∃ g, PGs X ts g ∧ ∀ F M vs σ H Q, Ok X.K F M H → Rps X.K F vs ds → En X.K F σ ρ → (∀ σ' ρ', P ρ' → En X.K F σ' ρ' → Q σ' H) → g vs σ H Q
def gE (X : Cx) (target : Expr) : TG := fun v σ H Q => ∃ g, PG X target g ∧ g v σ H Q
theorem pg_any {target : Expr} : PG X target (gE X target) := ⟨fun pins s σ H v u Q I r ⟨g, h, q⟩ => h.run pins s σ H v u Q I r q⟩
theorem as_name {d : D} {P : DEnv → Prop} (i : Nat) (h : P (put ρ i d)) (hN : X.N.Nodup := by rfl) (hi : X.N[i]? = some x := by rfl) (hx : Loc X.env.scope x := by first | exact Or.inl rfl | exact Or.inr rfl) (hf : X.fn x = true ∨ X.env.scope.names.lookup x = some .local := by first | exact .inl rfl | exact .inr rfl) : AsD X (.Name x pos) d ρ P :=
  ⟨_, pg_name hN hi hx hf, fun F M v σ H Q o r en k => k _ _ h (en.put i r)⟩
theorem as_tup {ds : List D} {k : Nat} {P : DEnv → Prop} (hc : X.calm = true) (hl : (assignEach es X.env).length = ds.length) (h : AsDs X es ds ρ P) (hst : (assignEach es X.env).findIdx? (·.1) = none := by rfl) : AsD X (.Tuple es k pos) (.tup ds) ρ P := by
  obtain ⟨g, hg, h⟩ := h
  refine ⟨_, pg_tup hc hg hl hst, fun F M v σ H Q o r en k => ?_⟩
  cases r with
  | tup h1 r1 => exact ⟨_, _, rfl, same_t o.ex h1, r1.length, h F M _ σ H Q o r1 en k⟩
theorem asd_go {target : Expr} {d : D} {P : DEnv → Prop} (h : AsD X target d ρ P) {v : V} {Q : St → Hp → Prop} (o : Ok X.K F M H) (r : Rp X.K F v d) (en : En X.K F σ ρ) (k : ∀ σ' ρ', P ρ' → En X.K F σ' ρ' → Q σ' H) : gE X target v σ H Q := by
  obtain ⟨g, hg, h⟩ := h
  exact ⟨g, hg, h F M v σ H Q o r en k⟩
theorem asd_nil {P : DEnv → Prop} (h : P ρ) : AsDs X [] [] ρ P := ⟨_, pgs_nil, fun F M vs σ H Q o r en k => by cases r; exact ⟨rfl, k _ _ h en⟩⟩
theorem asd_cons {t : Expr} {ts : List Expr} {d : D} {ds : List D} {P : DEnv → Prop} (h : AsD X t d ρ fun ρ' => AsDs X ts ds ρ' P)
    (hs : (assignEach (t :: ts) X.env).map (·.2) = assign t X.env :: (assignEach ts X.env).map (·.2) := by rfl) : AsDs X (t :: ts) (d :: ds) ρ P :=
  ⟨_, pgs_cons pg_any (⟨fun pins s σ H vs us Q I r ⟨g, h, q⟩ => h.run pins s σ H vs us Q I r q⟩ : PGs X ts (fun vs σ H Q => ∃ g, PGs X ts g ∧ g vs σ H Q)) hs, fun F M vs σ H Q o r en k => by
    cases r with
    | cons h1 r1 => exact ⟨_, _, rfl, asd_go h o h1 en fun σ' ρ' q en' => by
        obtain ⟨g, hg, q⟩ := q
        exact ⟨g, hg, q F M _ σ' H Q o r1 en' k⟩⟩⟩

theorem g1_asg {tg : Expr} (h : EX X J e ρ M fun d M1 => AsD X tg d ρ fun ρ' => B.nx ρ' M1) (hs : swapsWithSole [tg] e pos.line X.env = pure false := by rfl) (hw : swappedStores [tg] e X.env = pure none := by rfl)
    (h1 : (assignEach [tg] X.env).map (·.2) = [assign tg X.env] := by rfl) : G1 X J (.Assign [tg] e pos) ρ M B :=
  g1_of (ps_asg pe_any pg_any hs hw h1) fun F σ H E s k => h.go s fun d v M1 F1 H1 p e1 o1 r1 => asd_go p o1 r1 (s.en.mono e1) fun σ' ρ' q en => k.nx F1 σ' H1 ρ' M1 q e1 en o1
/-- a, b = x, y -/
theorem g1_par {x y : Str} {px py pt : Pos} {kt k2 pt2} (i j : Nat) (hc : X.calm = true) (hij : i ≠ j) (h : AX X J [a, b] ρ M fun ds M1 => ∃ d1 d2, ds = [d1, d2] ∧ B.nx (put (put ρ i d1) j d2) M1)
    (hN : X.N.Nodup := by rfl) (hi : X.N[i]? = some x := by rfl) (hj : X.N[j]? = some y := by rfl) (hx : X.env.scope.names.lookup x = some .local := by rfl) (hy : X.env.scope.names.lookup y = some .local := by rfl)
    (hw : swappedStores [.Tuple [.Name x px, .Name y py] kt pt] (.Tuple [a, b] k2 pt2) X.env = pure (some [x, y]) := by rfl)
    (hs : swapsWithSole [.Tuple [.Name x px, .Name y py] kt pt] (.Tuple [a, b] k2 pt2) pos.line X.env = pure false := by rfl) :
    G1 X J (.Assign [.Tuple [.Name x px, .Name y py] kt pt] (.Tuple [a, b] k2 pt2) pos) ρ M B :=
  g1_of (ps_par hc hN hi hj hij hx hy pa_any hw hs) fun F σ H E s k => h.go s fun ds vs M1 F1 H1 p e1 o1 r1 => by
    obtain ⟨d1, d2, rfl, p⟩ := p
    cases r1 with
    | cons h1 r1 =>
      cases r1 with
      | cons h2 r1 =>
        cases r1
        exact ⟨_, _, rfl, k.nx F1 _ H1 _ M1 p e1 (((s.en.mono e1).put i h1).put j h2) o1⟩
/-- x += e and its like, ints -/
theorem g1_aug {x : Str} {op : Operator} {f : Int → Int → Int} (ho : PIp X op (ipI f)) (i : Nat) (h : ∃ u, look ρ i = some (.int u) ∧ EX X J e ρ M fun d M1 => ∃ v, d = .int v ∧ B.nx (put ρ i (.int (f u v))) M1)
    (hN : X.N.Nodup := by rfl) (hi : X.N[i]? = some x := by rfl) (hx : Loc X.env.scope x := by first | exact Or.inl rfl | exact Or.inr rfl) (hf : X.fn x = true ∨ X.env.scope.names.lookup x = some .local := by first | exact .inl rfl | exact .inr rfl) :
    G1 X J (.AugAssign (.Name x p) op e pos) ρ M B := by
  obtain ⟨u, hu, h⟩ := h
  exact g1_of (ps_aug hN hi hx pe_any ho hf) fun F σ H E s k => by
    obtain ⟨v0, h1, h2⟩ := s.en.look hu
    cases h2
    refine ⟨_, h1, h.go s fun d v M1 F1 H1 q e1 o1 r1 => ?_⟩
    obtain ⟨w, rfl, q⟩ := q
    cases r1
    exact ⟨u, w, rfl, rfl, k.nx F1 _ H1 _ M1 q e1 ((s.en.mono e1).put i (.int _)) o1⟩
theorem g1_ret (h : EX X J e ρ M B.rt) : G1 X J (.Return (some e) pos) ρ M B := g1_of (ps_ret pe_any) fun F σ H E s k => h.go s k.rt
theorem g1_expr (h : EX X J e ρ M fun _ M1 => B.nx ρ M1) (hs : swapsWith e none pos.line X.env = pure false := by rfl) : G1 X J (.Expr e pos) ρ M B :=
  g1_of (ps_expr pe_any hs) fun F σ H E s k => h.go s fun d v M1 F1 H1 p e1 o1 r1 => k.nx F1 σ H1 ρ M1 p e1 (s.en.mono e1) o1
theorem g1_break (h : B.bk ρ M) : G1 X J (.Break pos) ρ M B := g1_of ps_break fun F σ H E s k => k.bk F σ H ρ M h (Same.refl F) s.en s.ok
theorem g1_if {s1 s2 : List Stmt} (h : TX X J c ρ M fun t M1 => (t = true → GX X J s1 ρ M1 B) ∧ (t = false → GX X J s2 ρ M1 B)) : G1 X J (.If c s1 s2 pos) ρ M B :=
  g1_of (ps_if pt_any pss_any pss_any) fun F σ H E s k => h.go s fun t M1 F1 H1 p e1 o1 => by
    cases t with
    | true => exact iteT ((p.1 rfl).go (s.to e1 o1) (k.to e1))
    | false => exact iteF ((p.2 rfl).go (s.to e1 o1) (k.to e1))

theorem pi_any {tg iter : Expr} : PI X tg iter (tIe X tg iter) := ⟨fun pins s σ H R I ⟨t, h, q⟩ => h.run pins s σ H R I q⟩
theorem ix_of {tg iter : Expr} {t : TI} {P : List D → Mem → Prop} (h : PI X tg iter t) (k : ∀ F σ H R, Sts X.K J F σ H ρ M → Ki X.K F P R → t σ H R) : IX X J tg iter ρ M P := ⟨fun pins s σ H R I ⟨F, st, q⟩ => h.run pins s σ H R I (k F σ H R st q)⟩
theorem wk_list {q : Addr} {xs : List V} {ds : List D} (h : F q = some (.lst xs)) (r : Rps K F xs ds) : Wk K F (Itl K q) ds :=
  ⟨fun i H hi s => ⟨xs, xs[i]'(by rw [r.length]; exact hi), SqL.of (s _ _ h), by simp⟩, fun H s => ⟨xs, SqL.of (s _ _ h), by rw [r.length]; exact Nat.le_refl _⟩,
    fun i d H x H' F1 M hd s o y => by
      obtain ⟨rfl, y⟩ := y
      obtain ⟨v, h1, h2⟩ := r.get hd
      have e1 := y xs (SqL.of (o.ex _ _ (s _ _ h)))
      rw [h1] at e1; cases e1
      exact ⟨F1, Same.refl _, o, h2.mono s⟩⟩
theorem wk_tup {q : Addr} {xs : List V} {ds : List D} (h : SqT K F q xs) (r : Rps K F xs ds) : Wk K F (Itt K q) ds :=
  ⟨fun i H hi s => ⟨xs, xs[i]'(by rw [r.length]; exact hi), same_t s h, by simp⟩, fun H s => ⟨xs, same_t s h, by rw [r.length]; exact Nat.le_refl _⟩,
    fun i d H x H' F1 M hd s o y => by
      obtain ⟨rfl, y⟩ := y
      obtain ⟨v, h1, h2⟩ := r.get hd
      have e1 := y xs (same_t o.ex (same_t s h))
      rw [h1] at e1; cases e1
      exact ⟨F1, Same.refl _, o, h2.mono s⟩⟩
theorem ix_lst {tg : Expr} {P : List D → Mem → Prop} (h : EX X J e ρ M fun d M1 => ∃ ds, d = .lst ds ∧ P ds M1) : IX X J tg e ρ M P :=
  ix_of (pi_list pe_any) fun F σ H R s k => h.go s fun d v M1 F1 H1 p e1 o1 r1 => by
    obtain ⟨ds, rfl, p⟩ := p
    cases r1 with
    | lst h1 r1 => exact ⟨_, rfl, ⟨_, SqL.of (o1.ex _ _ h1)⟩, k ds _ M1 F1 H1 p e1 o1 (wk_list h1 r1)⟩
theorem ix_tup {tg : Expr} {P : List D → Mem → Prop} (h : EX X J e ρ M fun d M1 => ∃ ds, d = .tup ds ∧ P ds M1) : IX X J tg e ρ M P :=
  ix_of (pi_tup pe_any) fun F σ H R s k => h.go s fun d v M1 F1 H1 p e1 o1 r1 => by
    obtain ⟨ds, rfl, p⟩ := p
    cases r1 with
    | tup h1 r1 => exact ⟨_, rfl, ⟨_, same_t o1.ex h1⟩, k ds _ M1 F1 H1 p e1 o1 (wk_tup h1 r1)⟩
def rngD (lo : Int) (n : Nat) : List D := (List.range n).map fun (i : Nat) => D.int (lo + (i : Int))
theorem rngD_len {lo : Int} {n : Nat} : (rngD lo n).length = n := by unfold rngD; simp
theorem rngD_at {lo : Int} {n i : Nat} {d : D} (h : (rngD lo n)[i]? = some d) : i < n ∧ d = .int (lo + (i : Int)) := by
  unfold rngD at h
  rw [List.getElem?_map] at h
  by_cases hi : i < n
  · rw [List.getElem?_range hi] at h
    cases h
    exact ⟨hi, rfl⟩
  · rw [List.getElem?_eq_none (by simp; omega)] at h
    cases h
theorem wk_rng {lo : Int} {n : Nat} : Wk K F (Itr lo n) (rngD lo n) :=
  ⟨fun i H hi s => by rw [rngD_len] at hi; exact hi, fun H s => by rw [rngD_len]; exact Nat.le_refl _, fun i d H x H' F1 M hd s o y => by
    obtain ⟨rfl, rfl⟩ := y
    obtain ⟨_, rfl⟩ := rngD_at hd
    exact ⟨F1, Same.refl _, o, .int _⟩⟩
theorem ix_range1 {tg : Expr} {P : List D → Mem → Prop} (hm : X.mg "range" = none) (h : AX X J [a] ρ M fun ds M1 => ∃ j, ds = [.int j] ∧ (-(2 ^ 62) ≤ j ∧ j < 2 ^ 62) ∧ P (rngD 0 j.toNat) M1) (hg : Gl X "range" := by rfl)
    (hs : starEach [a] X.env = [(false, eval a X.env)] := by rfl) : IX X J tg (.Call (.Name "range" p) [a] [] pos) ρ M P :=
  ix_of (pi_range1 hg hm pa_any hs) fun F σ H R s k => h.go s fun ds vs M1 F1 H1 q e1 o1 r1 => by
    obtain ⟨j, rfl, hj, q⟩ := q
    cases r1 with
    | cons h1 r1 =>
      cases r1
      cases h1
      exact ⟨j, rfl, hj.1, hj.2, k _ _ M1 F1 H1 q e1 o1 wk_rng⟩
theorem ix_range2 {tg : Expr} {P : List D → Mem → Prop} (hm : X.mg "range" = none) (h : AX X J [a, b] ρ M fun ds M2 => ∃ i j, ds = [.int i, .int j] ∧ (-(2 ^ 62) ≤ i ∧ i < 2 ^ 62 ∧ -(2 ^ 62) ≤ j ∧ j < 2 ^ 62) ∧ P (rngD i (j - i).toNat) M2) (hg : Gl X "range" := by rfl)
    (hs : starEach [a, b] X.env = [(false, eval a X.env), (false, eval b X.env)] := by rfl) (hs2 : starEach [b] X.env = [(false, eval b X.env)] := by rfl) : IX X J tg (.Call (.Name "range" p) [a, b] [] pos) ρ M P :=
  ix_of (pi_range2 hg hm pa_any hs hs2) fun F σ H R s k => h.go s fun ds vs M1 F1 H1 q e1 o1 r1 => by
    obtain ⟨i, j, rfl, hj, q2⟩ := q
    cases r1 with
    | cons h1 r1 =>
      cases r1 with
      | cons h2 r1 =>
        cases r1
        cases h1; cases h2
        exact ⟨i, j, rfl, hj, k _ _ M1 F1 H1 q2 e1 o1 wk_rng⟩
/-- zip of two lists, of two tuples -/
def zipD : List D → List D → List D
  | x :: xs, y :: ys => .tup [x, y] :: zipD xs ys
  | _, _ => []
theorem pair_new {x y d1 d2 : D} {v1 v2 : V} {T : Addr} (o : Ok K F M H) (h : H T = none) (r1 : Rp K F v1 d1) (r2 : Rp K F v2 d2) : ∃ F2, Same F F2 ∧ Ok K F2 M (upd H T (.tup [v1, v2])) ∧ Rp K F2 (.ref T) (.tup [d1, d2]) :=
  ⟨_, o.fixSame h, o.fix h, .tup (SqT.of upd_same) (.cons (r1.mono (o.fixSame h)) (.cons (r2.mono (o.fixSame h)) .nil))⟩
/-- both lists, or both tuples -/
inductive Zs : D → D → List D → List D → Prop
  | lst {ds es : List D} : Zs (.lst ds) (.lst es) ds es
  | tup {ds es : List D} : Zs (.tup ds) (.tup es) ds es
/-- enumerate of a list -/
def enumD (i : Nat) : List D → List D
  | [] => []
  | x :: xs => .tup [.int (i : Int), x] :: enumD (i + 1) xs
theorem enumD_len : ∀ (i : Nat) (xs : List D), (enumD i xs).length = xs.length
  | i, [] => rfl
  | i, x :: xs => by simp [enumD, enumD_len (i + 1) xs]
theorem enumD_at : ∀ {xs : List D} {k i : Nat} {d : D}, (enumD k xs)[i]? = some d → ∃ x, xs[i]? = some x ∧ d = .tup [.int ((k + i : Nat) : Int), x]
  | [], k, i, d, h => by simp [enumD] at h
  | x :: xs, k, 0, d, h => by simp [enumD] at h; exact ⟨x, rfl, h.symm⟩
  | x :: xs, k, i + 1, d, h => by
    obtain ⟨y, h1, h2⟩ := enumD_at (xs := xs) (k := k + 1) (i := i) (by simpa [enumD] using h)
    exact ⟨y, by simpa using h1, by rw [h2, Nat.add_assoc, Nat.add_comm 1 i]⟩
theorem wk_enum {q : Addr} {xs : List V} {ds : List D} (h : F q = some (.lst xs)) (hx : Rps K F xs ds) : Wk K F (Ite K q) (enumD 0 ds) := by
  refine ⟨fun i H hi s => ?_, fun H s => ⟨xs, SqL.of (s _ _ h), by rw [enumD_len, hx.length]; exact Nat.le_refl _⟩, fun i d H x H' F1 M hd s o y => ?_⟩
  · rw [enumD_len] at hi
    have h1 : i < xs.length := by rw [hx.length]; omega
    exact ⟨xs, xs[i], SqL.of (s _ _ h), by simp [h1]⟩
  · obtain ⟨T, v1, rfl, h2, rfl, h4⟩ := y
    obtain ⟨d1, g1, rfl⟩ := enumD_at hd
    obtain ⟨w1, k1, k2⟩ := hx.get g1
    have e1 := h4 xs (SqL.of (o.ex _ _ (s _ _ h)))
    rw [k1] at e1; cases e1
    rw [Nat.zero_add]
    exact pair_new (x := d1) (y := d1) o h2 (.int _) (k2.mono s)
theorem ix_enum {elts : List Expr} {kk : Nat} {tpos : Pos} {P : List D → Mem → Prop} (hm : X.mg "enumerate" = none) (h : AX X J [a] ρ M fun ws M1 => ∃ ds, ws = [.lst ds] ∧ P (enumD 0 ds) M1) (hg : Gl X "enumerate" := by rfl)
    (hs : starEach [a] X.env = [(false, eval a X.env)] := by rfl) : IX X J (.Tuple elts kk tpos) (.Call (.Name "enumerate" p) [a] [] pos) ρ M P :=
  ix_of (pi_enum hg hm pa_any hs) fun F σ H R s k => h.go s fun ws vs M1 F1 H1 q e1 o1 r1 => by
    obtain ⟨ds, rfl, q⟩ := q
    cases r1 with
    | cons h1 r1 =>
      cases r1
      cases h1 with
      | lst h1 k1 => exact ⟨_, _, rfl, SqL.of (o1.ex _ _ h1), k _ _ M1 F1 H1 q e1 o1 (wk_enum h1 k1)⟩
/-- the signs of a text -/
def signs (z : Str) : List D := z.cps.toList.map fun c => D.str ⟨#[c]⟩
theorem wk_str {z : Str} : Wk K F (Its z) (signs z) := by
  refine ⟨fun i H hi s => ?_, fun H s => ?_, fun i d H x H' F1 M hd s o y => ?_⟩
  · unfold signs at hi; simp at hi; exact hi
  · unfold signs; simp; exact Nat.le_refl _
  · obtain ⟨rfl, c, h1, rfl⟩ := y
    unfold signs at hd
    rw [List.getElem?_map] at hd
    have : z.cps.toList[i]? = some c := by simpa using h1
    rw [this] at hd
    cases hd
    exact ⟨F1, Same.refl _, o, .str _⟩
theorem ix_str {tg : Expr} {P : List D → Mem → Prop} (h : EX X J e ρ M fun d M1 => ∃ z, d = .str z ∧ P (signs z) M1) : IX X J tg e ρ M P :=
  ix_of (pi_str pe_any) fun F σ H R s k => h.go s fun d v M1 F1 H1 p e1 o1 r1 => by
    obtain ⟨z, rfl, p⟩ := p
    cases r1
    exact ⟨z, rfl, k _ _ M1 F1 H1 p e1 o1 wk_str⟩
/-- for -/
theorem g1_for {tg iter : Expr} {body : List Stmt} (hp : PassesOwn (model X.prog X.w) X.A X.env X.xe) (hc : X.calm = true)
    (h : IX X J tg iter ρ M fun ds M1 => ∃ Wd : Nat → DEnv → Mem → Prop, Wd 0 ρ M1 ∧
      (∀ i d ρ' M', ds[i]? = some d → Wd i ρ' M' → AsD X tg d ρ' fun ρ2 => GX X J body ρ2 M' ⟨Wd (i + 1), B.rt, B.nx, Wd (i + 1)⟩) ∧ ∀ ρ' M', Wd ds.length ρ' M' → B.nx ρ' M')
    (hs : ∀ x, foldedSetIterable iter X.env x = pure x := by intro _; rfl) : G1 X J (.For tg iter body [] pos) ρ M B :=
  g1_of (ps_for hp hc pi_any pg_any pss_any hs) fun F σ H E s k => h.go s fun ds I M1 F1 H1 ⟨Wd, h0, hs, hd⟩ e1 o1 w => by
    refine ⟨fun i m σ H => m = ds.length - i ∧ i ≤ ds.length ∧ ∃ F' ρ' M', Same F1 F' ∧ Sts X.K J F' σ H ρ' M' ∧ Wd i ρ' M', ⟨ds.length, by simp, Nat.zero_le _, F1, ρ, M1, Same.refl _, s.to e1 o1, h0⟩, ?_⟩
    rintro i m σ' H' ⟨rfl, hi, F', ρ', M', e2, s2, q⟩
    by_cases hlt : i < ds.length
    · refine .inr ⟨w.goes i H' hlt (e2.trans s2.ok.ex), _, fun σ3 H3 n3 => n3, fun x H3 y => ?_⟩
      · obtain ⟨F3, e3, o3, r3⟩ := w.yields i ds[i] H' x H3 F' M' (by simp [hlt]) e2 s2.ok y
        refine asd_go (hs i ds[i] ρ' M' (by simp [hlt]) q) o3 r3 (s2.en.mono e3) fun σ4 ρ4 q4 en4 => GX.go q4 ⟨en4, o3, J.mono _ _ e3 s2.gh⟩ ?_
        have nxt : ∀ F' σ' H' ρ' M', Wd (i + 1) ρ' M' → Same F3 F' → En X.K F' σ' ρ' → Ok X.K F' M' H' → ∃ m', m' < ds.length - i ∧ m' = ds.length - (i + 1) ∧ i + 1 ≤ ds.length ∧ ∃ F' ρ' M', Same F1 F' ∧ Sts X.K J F' σ' H' ρ' M' ∧ Wd (i + 1) ρ' M' :=
          fun F5 σ5 H5 ρ5 M5 q5 e5 en5 o5 => ⟨_, by omega, rfl, hlt, F5, ρ5, M5, (e2.trans e3).trans e5, ⟨en5, o5, J.mono _ _ (e3.trans e5) s2.gh⟩, q5⟩
        exact ⟨nxt, k.rt.to ((e1.trans e2).trans e3), fun F5 σ5 H5 ρ5 M5 q5 e5 en5 o5 => k.nx F5 σ5 H5 ρ5 M5 q5 (((e1.trans e2).trans e3).trans e5) en5 o5, nxt⟩
    · have e : i = ds.length := by omega
      subst e
      exact .inl ⟨w.stops H' (e2.trans s2.ok.ex), k.nx F' σ' H' ρ' M' (hd ρ' M' q) (e1.trans e2) s2.en s2.ok⟩
/-- while: the word with its measure -/
theorem g1_while {body : List Stmt} (hp : PassesOwn (model X.prog X.w) X.A X.env X.xe) (Wd : Nat → DEnv → Mem → Prop) (m0 : Nat) (h0 : Wd m0 ρ M)
    (hs : ∀ m ρ' M', Wd m ρ' M' → TX X J c ρ' M' fun t M1 => (t = true → GX X J body ρ' M1 ⟨fun ρ2 M2 => ∃ m', m' < m ∧ Wd m' ρ2 M2, B.rt, B.nx, fun ρ2 M2 => ∃ m', m' < m ∧ Wd m' ρ2 M2⟩) ∧ (t = false → B.nx ρ' M1)) : G1 X J (.While c body [] pos) ρ M B :=
  g1_of (ps_while hp pt_any pss_any) fun F σ H E s k => by
    refine ⟨fun m σ' H' => ∃ F' ρ' M', Same F F' ∧ Sts X.K J F' σ' H' ρ' M' ∧ Wd m ρ' M', ⟨m0, F, ρ, M, Same.refl _, s, h0⟩, ?_⟩
    rintro m σ' H' ⟨F', ρ', M', e2, s2, q⟩
    refine (hs m ρ' M' q).go s2 fun t M1 F1 H1 p e1 o1 => ?_
    cases t with
    | true =>
      refine iteT ⟨fun σ3 H3 => ∃ m', m' < m ∧ ∃ F' ρ' M', Same F F' ∧ Sts X.K J F' σ3 H3 ρ' M' ∧ Wd m' ρ' M', fun _ _ n => n, (p.1 rfl).go (s2.to e1 o1) ?_⟩
      have nxt : ∀ F3 σ3 H3 ρ3 M3, (∃ m', m' < m ∧ Wd m' ρ3 M3) → Same F1 F3 → En X.K F3 σ3 ρ3 → Ok X.K F3 M3 H3 → ∃ m', m' < m ∧ ∃ F' ρ' M', Same F F' ∧ Sts X.K J F' σ3 H3 ρ' M' ∧ Wd m' ρ' M' :=
        fun F3 σ3 H3 ρ3 M3 ⟨m', hm, q3⟩ e3 en3 o3 => ⟨m', hm, F3, ρ3, M3, (e2.trans e1).trans e3, ⟨en3, o3, J.mono _ _ (e1.trans e3) s2.gh⟩, q3⟩
      exact ⟨nxt, k.rt.to (e2.trans e1), fun F5 σ5 H5 ρ5 M5 q5 e5 en5 o5 => k.nx F5 σ5 H5 ρ5 M5 q5 ((e2.trans e1).trans e5) en5 o5, nxt⟩
    | false => exact iteF (k.nx F1 σ' H1 ρ' M1 (p.2 rfl) (e2.trans e1) (s2.en.mono e1) o1)
end
end DX
namespace DX
open PySem PySem.Spec L2

theorem wipe_get (σ : St) (i : Nat) : ∀ vs : List Nat, (wipe σ vs)[i]? = if i ∈ vs then (σ[i]?).map (fun _ => none) else σ[i]?
  | [] => by simp [wipe]
  | v :: vs => by
    unfold wipe
    rw [List.getElem?_set]
    by_cases h : v = i
    · subst h
      rw [if_pos rfl, wipe_length]
      by_cases hl : v < σ.length
      · rw [if_pos hl, if_pos List.mem_cons_self, List.getElem?_eq_getElem hl]; rfl
      · rw [if_neg hl, if_pos List.mem_cons_self, List.getElem?_eq_none (by omega)]; rfl
    · rw [if_neg h, wipe_get σ i vs]
      have e : (i ∈ v :: vs) = (i ∈ vs) := by simp [Ne.symm h]
      simp only [e]
theorem wipe_set {σ : St} {j : Nat} {x : Option V} {vs : List Nat} (h : j ∈ vs) : wipe (σ.set j x) vs = wipe σ vs := by
  apply List.ext_getElem?
  intro i
  rw [wipe_get, wipe_get]
  by_cases hi : i ∈ vs
  · rw [if_pos hi, if_pos hi, List.getElem?_set]
    by_cases hj : j = i
    · subst hj
      rw [if_pos rfl]
      by_cases hl : j < σ.length
      · rw [if_pos hl, List.getElem?_eq_getElem hl]; rfl
      · rw [if_neg hl, List.getElem?_eq_none (by omega)]
    · rw [if_neg hj]
  · rw [if_neg hi, if_neg hi, List.getElem?_set_ne]
    intro z; subst z; exact hi h
theorem wipe_wipe (σ : St) (vs : List Nat) : wipe (wipe σ vs) vs = wipe σ vs := by
  apply List.ext_getElem?
  intro i
  rw [wipe_get, wipe_get]
  by_cases hi : i ∈ vs
  · rw [if_pos hi, if_pos hi]
    cases σ[i]? <;> rfl
  · rw [if_neg hi, if_neg hi]

section
variable {X : Cx} {J : Gh} {e a b c : Expr} {es : List Expr} {st : Stmt} {rest sts : List Stmt} {ρ ρ' : DEnv} {M M' : Mem} {F F' H H' : Hp} {σ : St} {B : Bd} {K : PySem.W.Frag} {pos p apos : Pos} {x : Str} {P : D → Mem → Prop}

abbrev Blk (X : Cx) (scope : Scope) : Type := Shared × Hp × Addr × List (Str × Addr) × List Addr
abbrev Blk.cx {X : Cx} {scope : Scope} (b : Blk X scope) : Cx := X.blk b.1 b.2.1 scope (compEnvC scope b.2.2.2.1 b.2.2.1 X.env) b.2.2.2.2
def EXb (X : Cx) (J : Gh) (scope : Scope) (e : Expr) (ρ : DEnv) (M : Mem) (P : D → Mem → Prop) : Prop := ∀ (s : Shared) (H : Hp) (C : Addr) (cl : List (Str × Addr)) (fp : List Addr), EX (X.blk s H scope (compEnvC scope cl C X.env) fp) J e ρ M P
def TXb (X : Cx) (J : Gh) (scope : Scope) (ifs : List Expr) (ρ : DEnv) (M : Mem) (P : Bool → Mem → Prop) : Prop := ∃ t, (∀ (s : Shared) (H : Hp) (C : Addr) (cl : List (Str × Addr)) (fp : List Addr), PTs (X.blk s H scope (compEnvC scope cl C X.env) fp) ifs t) ∧ ∀ F σ H Q, Sts X.K J F σ H ρ M → Kb X.K F P Q → t σ H Q
def AsB (X : Cx) (scope : Scope) (vs : List Nat) (target : Expr) (d : D) (ρ : DEnv) (P : DEnv → Prop) : Prop :=
  ∃ g, (∀ (s : Shared) (H : Hp) (C : Addr) (cl : List (Str × Addr)) (fp : List Addr), PG (X.blk s H scope (compEnvC scope cl C X.env) fp) target g) ∧
    ∀ F M v σ H Q, Ok X.K F M H → Rp X.K F v d → En X.K F σ ρ → (∀ σ' ρ', P ρ' → En X.K F σ' ρ' → wipe σ' vs = wipe σ vs → Q σ' H) → g v σ H Q
def AsBs (X : Cx) (scope : Scope) (vs : List Nat) (ts : List Expr) (ds : List D) (ρ : DEnv) (P : DEnv → Prop) : Prop :=
  ∃ g, (∀ (s : Shared) (H : Hp) (C : Addr) (cl : List (Str × Addr)) (fp : List Addr), PGs (X.blk s H scope (compEnvC scope cl C X.env) fp) ts g) ∧
    ∀ F M xs σ H Q, Ok X.K F M H → Rps X.K F xs ds → En X.K F σ ρ → (∀ σ' ρ', P ρ' → En X.K F σ' ρ' → wipe σ' vs = wipe σ vs → Q σ' H) → g xs σ H Q
def tEb (X : Cx) (scope : Scope) (e : Expr) : TE := fun σ H Q => ∃ t, (∀ (s : Shared) (H : Hp) (C : Addr) (cl : List (Str × Addr)) (fp : List Addr), PE (X.blk s H scope (compEnvC scope cl C X.env) fp) e t) ∧ t σ H Q
def tTb (X : Cx) (scope : Scope) (ifs : List Expr) : TT := fun σ H Q => ∃ t, (∀ (s : Shared) (H : Hp) (C : Addr) (cl : List (Str × Addr)) (fp : List Addr), PTs (X.blk s H scope (compEnvC scope cl C X.env) fp) ifs t) ∧ t σ H Q
def gB (X : Cx) (scope : Scope) (target : Expr) : TG := fun v σ H Q => ∃ g, (∀ (s : Shared) (H : Hp) (C : Addr) (cl : List (Str × Addr)) (fp : List Addr), PG (X.blk s H scope (compEnvC scope cl C X.env) fp) target g) ∧ g v σ H Q
variable {scope : Scope} {tg iter elt : Expr} {ifs : List Expr}
theorem txb_nil {P : Bool → Mem → Prop} (h : P true M) : TXb X J scope [] ρ M P := ⟨tYes, fun _ _ _ _ _ => pts_nil, fun F σ H Q st k => k _ _ _ _ h (Same.refl F) st.ok⟩
theorem txb_one {P : Bool → Mem → Prop} (h : ∀ (s : Shared) (H : Hp) (C : Addr) (cl : List (Str × Addr)) (fp : List Addr), TX (X.blk s H scope (compEnvC scope cl C X.env) fp) J c ρ M P) : TXb X J scope [c] ρ M P :=
  ⟨tT X.K J ρ M P, fun s H C cl fp => pts_one (h s H C cl fp), fun F σ H Q st k => ⟨F, st, k⟩⟩
theorem pe_lcA {own : List (Str × Nat)} (hc : X.calm = true) (hN : X.N.Nodup) (ok : BlkOk X.N X.env.scope scope own) (hs : ∀ x, foldedSetIterable iter X.env x = pure x := by intro _; rfl) :
    PE X (.ListComp elt [⟨tg, iter, ifs, 0⟩] scope pos) (tLc (tIe X tg iter) (gB X scope tg) (tTb X scope ifs) (tEb X scope elt) (own.map (·.2))) :=
  pe_lc hc hN pi_any ok (fun s H C cl fp => ⟨fun pins s' σ H' v u Q I r ⟨g, h, q⟩ => (h s H C cl fp).run pins s' σ H' v u Q I r q⟩)
    (fun s H C cl fp => ⟨fun pins s' σ H' Q I ⟨t, h, q⟩ => (h s H C cl fp).run pins s' σ H' Q I q⟩) (fun s H C cl fp => ⟨fun pins s' σ H' Q I ⟨t, h, q⟩ => (h s H C cl fp).run pins s' σ H' Q I q⟩) hs
theorem asb_name {d : D} {vs : List Nat} {P : DEnv → Prop} (i : Nat) (h : P (put ρ i d)) (hv : i ∈ vs := by decide) (hN : X.N.Nodup := by rfl) (hi : X.N[i]? = some x := by rfl) (hx : ∀ (s : Shared) (H : Hp) (C : Addr) (cl : List (Str × Addr)) (fp : List Addr), Loc (X.blk s H scope (compEnvC scope cl C X.env) fp).env.scope x := by intros; first | exact Or.inl rfl | exact Or.inr rfl)
    (hf : ∀ (s : Shared) (H : Hp) (C : Addr) (cl : List (Str × Addr)) (fp : List Addr), (X.blk s H scope (compEnvC scope cl C X.env) fp).fn x = true ∨ (X.blk s H scope (compEnvC scope cl C X.env) fp).env.scope.names.lookup x = some .local := by intros; first | exact .inr rfl | exact .inl rfl) : AsB X scope vs (.Name x pos) d ρ P :=
  ⟨_, fun s H C cl fp => pg_name (X := X.blk s H scope (compEnvC scope cl C X.env) fp) hN hi (hx s H C cl fp) (hf s H C cl fp), fun F M v σ H Q o r en k => k _ _ h (en.put i r) (wipe_set hv)⟩
/-- [elt for tg in iter if ..]: the word by the turn, what is made so far, the memory (the new list, at Dl, in it while a turn runs) -/
def LcW (X : Cx) (J : Gh) (scope : Scope) (vs : List Nat) (tg : Expr) (ifs : List Expr) (elt : Expr) (ρ : DEnv) (P : D → Mem → Prop) (ds : List D) (M1 : Mem) : Prop := ∃ Wd : Nat → List D → Mem → Prop, Wd 0 [] M1 ∧
  (∀ i d acc M' Dl, ds[i]? = some d → Wd i acc M' → M' Dl = none → acc.length < 1000000 ∧ AsB X scope vs tg d (cuts ρ vs) fun ρ2 =>
    TXb X J scope ifs ρ2 (up M' Dl (.lst acc)) fun t M2 => (t = true → EXb X J scope elt ρ2 M2 fun y M3 => ∃ M4, M4 Dl = none ∧ M3 = up M4 Dl (.lst acc) ∧ Wd (i + 1) (acc ++ [y]) M4) ∧
      (t = false → ∃ M4, M4 Dl = none ∧ M2 = up M4 Dl (.lst acc) ∧ Wd (i + 1) acc M4)) ∧
  ∀ acc M', Wd ds.length acc M' → P (.lst acc) M'
theorem lc_go {vs : List Nat} {Q : VK} (st : Sts X.K J F σ H ρ M) (k : Kt X.K F P Q) (h : IX X J tg iter ρ M (LcW X J scope vs tg ifs elt ρ P)) :
    tLc (tIe X tg iter) (gB X scope tg) (tTb X scope ifs) (tEb X scope elt) vs σ H Q := by
  refine h.go st fun ds I M1 F1 H1 ⟨Wd, h0, hs, hd⟩ e1 o1 w Dl hD => ?_
  have hm1 := o1.nn hD
  refine ⟨fun i m H2 => m = ds.length - i ∧ i ≤ ds.length ∧ ∃ F' M' acc xs, Same F1 F' ∧ Ok X.K F' (up M' Dl (.lst acc)) H2 ∧ M' Dl = none ∧ H2 Dl = some (.lst xs) ∧ Wd i acc M', ⟨ds.length, by simp, Nat.zero_le _, F1, M1, [], [], Same.refl _, o1.lay hD ⟨[], upd_same, .nil⟩, hm1.2, upd_same, h0⟩, ?_⟩
  rintro i m H2 ⟨rfl, hi, F', M', acc, xs, e2, o2, hn, hx, q⟩
  by_cases hlt : i < ds.length
  · refine .inr ⟨w.goes i H2 hlt (e2.trans o2.ex), fun H3 => ∃ m', m' < ds.length - i ∧ m' = ds.length - (i + 1) ∧ i + 1 ≤ ds.length ∧ ∃ F' M' acc xs, Same F1 F' ∧ Ok X.K F' (up M' Dl (.lst acc)) H3 ∧ M' Dl = none ∧ H3 Dl = some (.lst xs) ∧ Wd (i + 1) acc M', fun H3 n3 => n3, fun x H3 y => ?_⟩
    obtain ⟨F3, e3, o3, r3⟩ := w.yields i ds[i] H2 x H3 F' _ (by simp [hlt]) e2 o2 y
    obtain ⟨ha, g, hg, hgo⟩ := hs i ds[i] acc M' Dl (by simp [hlt]) q hn
    have en3 : En X.K F3 (wipe σ vs) (cuts ρ vs) := (((st.en.cuts vs).mono e1).mono e2).mono e3
    refine ⟨g, hg, hgo F3 _ x _ H3 _ o3 r3 en3 fun σ4 ρ4 q4 en4 w4 => ⟨w4.trans (wipe_wipe σ vs), ?_⟩⟩
    obtain ⟨t, ht, q4⟩ := q4
    refine ⟨t, ht, q4 F3 σ4 H3 _ ⟨en4, o3, J.mono _ _ ((e1.trans e2).trans e3) st.gh⟩ fun tb M5 F5 H5 q5 e5 o5 => ?_⟩
    have fin : ∀ F6 M6 acc6 H6, Same F5 F6 → M6 Dl = none → Ok X.K F6 (up M6 Dl (.lst acc6)) H6 → Wd (i + 1) acc6 M6 → ∃ m', m' < ds.length - i ∧ m' = ds.length - (i + 1) ∧ i + 1 ≤ ds.length ∧ ∃ F' M' acc xs, Same F1 F' ∧ Ok X.K F' (up M' Dl (.lst acc)) H6 ∧ M' Dl = none ∧ H6 Dl = some (.lst xs) ∧ Wd (i + 1) acc M' := by
      intro F6 M6 acc6 H6 e6 n6 o6 q6
      obtain ⟨_, xs6, h6, _⟩ := o6.mt Dl _ up_same
      exact ⟨_, by omega, rfl, hlt, F6, M6, acc6, xs6, ((e2.trans e3).trans e5).trans e6, o6, n6, h6, q6⟩
    cases tb with
    | true =>
      refine iteT ⟨tD X.K J ρ4 M5 _, q5.1 rfl, F5, ⟨en4.mono e5, o5, J.mono _ _ (((e1.trans e2).trans e3).trans e5) st.gh⟩, fun y v M7 F7 H7 ⟨M4, n4, e4, q7⟩ e7 o7 r7 => ?_⟩
      subst e4
      obtain ⟨_, ys, hy, ry⟩ := o7.mt Dl _ up_same
      refine ⟨ys, hy, by rw [ry.length, sizeLine_eq]; omega, fin F7 M4 (acc ++ [y]) _ e7 n4 ?_ q7⟩
      have := o7.set (o := .lst (ys ++ [v])) (d' := .lst (acc ++ [y])) up_same ⟨_, upd_same, ry.append (.cons r7 .nil)⟩
      rwa [up_up] at this
    | false =>
      obtain ⟨M4, n4, e4, q7⟩ := q5.2 rfl
      subst e4
      exact iteF (fin F5 M4 acc H5 (Same.refl _) n4 o5 q7)
  · have e : i = ds.length := by omega
    subst e
    obtain ⟨_, ys, hy, ry⟩ := o2.mt Dl _ up_same
    obtain ⟨s1, o4⟩ := o2.freeze up_same hy
    rw [rm_up hn] at o4
    exact .inl ⟨w.stops H2 (e2.trans o2.ex), k _ _ _ _ _ (hd acc M' q) ((e1.trans e2).trans s1) o4 (.lst upd_same (ry.mono s1))⟩
theorem ex_lc {own : List (Str × Nat)} (hc : X.calm = true) (h : IX X J tg iter ρ M (LcW X J scope (own.map (·.2)) tg ifs elt ρ P)) (hN : X.N.Nodup := by rfl) (ok : blkC X.N X.env.scope scope own = true := by rfl) (hs : ∀ x, foldedSetIterable iter X.env x = pure x := by intro _; rfl) :
    EX X J (.ListComp elt [⟨tg, iter, ifs, 0⟩] scope pos) ρ M P :=
  ex_of (pe_lcA hc hN (blkOk_by ok) hs) fun F σ H Q st k => lc_go st k h
theorem g1_lc {y : Str} {py : Pos} {spos : Pos} {own : List (Str × Nat)} (i : Nat) (hc : X.calm = true) (h : IX X J tg iter ρ M (LcW X J scope (own.map (·.2)) tg ifs elt ρ fun d M1 => B.nx (put ρ i d) M1)) (hN : X.N.Nodup := by rfl) (hy : X.N[i]? = some y := by rfl) (hyl : X.env.scope.names.lookup y = some .local := by rfl)
    (hsw : swapsWith (.ListComp elt [⟨tg, iter, ifs, 0⟩] scope pos) (some (.Name y py)) spos.line X.env = pure true := by rfl) (ok : blkC X.N X.env.scope scope own = true := by rfl) (hs : ∀ x, foldedSetIterable iter X.env x = pure x := by intro _; rfl) :
    G1 X J (.Assign [.Name y py] (.ListComp elt [⟨tg, iter, ifs, 0⟩] scope pos) spos) ρ M B :=
  g1_of (ps_setLc hc hN hy hyl hsw pi_any (blkOk_by ok) (fun s H C cl fp => ⟨fun pins s' σ H' v u Q I r ⟨g, h, q⟩ => (h s H C cl fp).run pins s' σ H' v u Q I r q⟩)
    (fun s H C cl fp => ⟨fun pins s' σ H' Q I ⟨t, h, q⟩ => (h s H C cl fp).run pins s' σ H' Q I q⟩) (fun s H C cl fp => ⟨fun pins s' σ H' Q I ⟨t, h, q⟩ => (h s H C cl fp).run pins s' σ H' Q I q⟩) hs)
    fun F σ H E st k => lc_go st (P := fun d M1 => B.nx (put ρ i d) M1) (fun d v M' F' H' q e o r => k.nx F' _ H' _ M' q e ((st.en.mono e).put i r) o) h

def SpD (K : PySem.W.Frag) (T : Tr) : Sp := fun vs H Q _ => ∃ F M ds P, Ok K F M H ∧ Rps K F vs ds ∧ T ds M P ∧ Kt K F P Q
def rAnyC (X : Cx) (f : Value) : List V → Hp → VK → Prop := fun vs H Q => ∃ r, CallR X f r ∧ r vs H Q
theorem cr_anyR {f : Value} : CallR X f (rAnyC X f) := fun pins s σ H vs us Q I r ⟨t, h, q⟩ => h pins s σ H vs us Q I r q
def CD (X : Cx) (f : Value) (ds : List D) (M : Mem) (P : D → Mem → Prop) : Prop :=
  ∃ r, CallR X f r ∧ ∀ F H vs Q, Ok X.K F M H → Rps X.K F vs ds → Kt X.K F P Q → r vs H Q
theorem ex_blt {id : String} (hm : X.mg x = none) (hv : bootBuiltins x = some (.builtin id)) (h : AX X J (e :: es) ρ M fun ds M1 => CD X (.builtin id) ds M1 P) (hg : Gl X x := by rfl) (hn : x ≠ "__name__" := by decide) (hdb : (x == ("__debug__" : Str)) = false := by decide)
    (he : starEach (e :: es) X.env = (false, eval e X.env) :: starEach es X.env := by rfl) (hpl : (backTo pos (starEach es X.env)).any (·.1) = false := by rfl) : EX X J (.Call (.Name x p) (e :: es) [] pos) ρ M P :=
  ex_of (pe_callB cr_anyR hg hm hv pa_any hn hdb he hpl) fun F σ H Q st k => h.go st fun ds vs M1 F1 H1 q e1 o1 r1 => by
    obtain ⟨r, h1, h2⟩ := q
    exact ⟨r, h1, h2 F1 H1 vs Q o1 r1 (k.to e1)⟩
theorem ex_ty {T : String} (hm : X.mg x = none) (hv : bootBuiltins x = some (.type T)) (h : AX X J (e :: es) ρ M fun ds M1 => CD X (.type T) ds M1 P) (hg : Gl X x := by rfl) (hn : x ≠ "__name__" := by decide) (hdb : (x == ("__debug__" : Str)) = false := by decide)
    (he : starEach (e :: es) X.env = (false, eval e X.env) :: starEach es X.env := by rfl) (hpl : (backTo pos (starEach es X.env)).any (·.1) = false := by rfl) : EX X J (.Call (.Name x p) (e :: es) [] pos) ρ M P :=
  ex_of (pe_callTy cr_anyR hg hm hv pa_any hn hdb he hpl) fun F σ H Q st k => h.go st fun ds vs M1 F1 H1 q e1 o1 r1 => by
    obtain ⟨r, h1, h2⟩ := q
    exact ⟨r, h1, h2 F1 H1 vs Q o1 r1 (k.to e1)⟩
theorem bb_len : bootBuiltins "len" = some (.builtin "len") := by decide +kernel
theorem bb_abs : bootBuiltins "abs" = some (.builtin "abs") := by decide +kernel
theorem bb_repr : bootBuiltins "repr" = some (.builtin "repr") := by decide +kernel
theorem bb_isi : bootBuiltins "isinstance" = some (.builtin "isinstance") := by decide +kernel
theorem bb_max : bootBuiltins "max" = some (.builtin "max") := by decide +kernel
theorem bb_sum : bootBuiltins "sum" = some (.builtin "sum") := by decide +kernel
theorem bb_int : bootBuiltins "int" = some (.type "int") := by decide +kernel
theorem bb_list : bootBuiltins "list" = some (.type "list") := by decide +kernel
theorem bb_tuple : bootBuiltins "tuple" = some (.type "tuple") := by decide +kernel
theorem cd_len {d : D} {ds : List D} (s : Sq M d ds) (q : P (.int (ds.length : Int)) M) : CD X (.builtin "len") [d] M P :=
  ⟨_, call_len_seq, fun F H vs Q o r k => by
    cases r with
    | cons h1 r =>
      cases r
      obtain ⟨a, xs, rfl, h2, r2⟩ := s.get o h1
      refine ⟨a, xs, rfl, h2, ?_⟩
      rw [r2.length]
      exact k.here q o (.int _)⟩
theorem cd_lenS {z : Str} (hz : z.length ≤ 1000000) (q : P (.int (z.length : Int)) M) : CD X (.builtin "len") [.str z] M P :=
  ⟨_, call_len_str, fun F H vs Q o r k => by
    cases r with
    | cons h1 r =>
      cases r
      cases h1
      exact ⟨z, rfl, by rw [sizeLine_eq]; omega, k.here q o (.int _)⟩⟩
theorem cd_list {d : D} {ds : List D} (s : Sq M d ds) (q : P (.lst ds) M) : CD X (.type "list") [d] M P :=
  ⟨_, call_list_of, fun F H vs Q o r k => by
    cases r with
    | cons h1 r =>
      cases r
      obtain ⟨a, xs, rfl, h2, r2⟩ := s.get o h1
      exact ⟨a, xs, rfl, h2, fun l hl => k _ _ _ _ _ q (o.fixSame hl) (o.fix hl) (.lst upd_same (r2.mono (o.fixSame hl)))⟩⟩
theorem cd_tuple {d : D} {ds : List D} (s : Sl M d ds) (q : P (.tup ds) M) : CD X (.type "tuple") [d] M P :=
  ⟨_, call_tuple_of, fun F H vs Q o r k => by
    cases r with
    | cons h1 r =>
      cases r
      obtain ⟨a, xs, rfl, h2, r2⟩ := s.get o h1
      exact ⟨a, xs, rfl, .inl ⟨SqL.of h2, fun l hl => k _ _ _ _ _ q (o.fixSame hl) (o.fix hl) (.tup (SqT.of upd_same) (r2.mono (o.fixSame hl)))⟩⟩⟩
theorem cd_tupleT {ds : List D} (q : P (.tup ds) M) : CD X (.type "tuple") [.tup ds] M P :=
  ⟨_, call_tuple_of, fun F H vs Q o r k => by
    cases r with
    | cons h1 r =>
      cases r
      cases h1 with
      | tup h2 r2 => exact ⟨_, _, rfl, .inr ⟨same_t o.ex h2, k.here q o (.tup h2 r2)⟩⟩⟩
theorem cd_intB {t : Bool} (q : P (.int (if t = true then 1 else 0)) M) : CD X (.type "int") [.bl t] M P :=
  ⟨_, call_int1, fun F H vs Q o r k => by
    cases r with
    | cons h1 r =>
      cases r
      cases h1
      exact .inr ⟨t, rfl, k.here q o (.int _)⟩⟩
theorem cd_intI {t : Int} (q : P (.int t) M) : CD X (.type "int") [.int t] M P :=
  ⟨_, call_int1, fun F H vs Q o r k => by
    cases r with
    | cons h1 r =>
      cases r
      cases h1
      exact .inl ⟨t, rfl, k.here q o (.int _)⟩⟩
theorem cd_abs {t : Int} (q : P (.int (if t < 0 then -t else t)) M) : CD X (.builtin "abs") [.int t] M P :=
  ⟨_, call_abs, fun F H vs Q o r k => by
    cases r with
    | cons h1 r =>
      cases r
      cases h1
      exact ⟨t, rfl, k.here q o (.int _)⟩⟩
mutual
def D.py : D → Option PyData
  | .non => some .none
  | .bl b => some (.bool b)
  | .int i => some (.int i)
  | .str x => some (.str x)
  | .tup ds => (pys ds).map .tuple
  | .lst ds => (pys ds).map .list
  | _ => none
def pys : List D → Option (List PyData)
  | [] => some []
  | d :: ds => (D.py d).bind fun z => (pys ds).map fun zs => z :: zs
end
mutual
theorem Rp.dp (hs : Same F H) : ∀ {d : D} {v : V} {z : PyData}, Rp K F v d → d.py = some z → Dp K H v z
  | .non, _, z, .non, e => by simp [D.py] at e; subst e; exact .non
  | .bl b, _, z, .bl _, e => by simp [D.py] at e; subst e; exact .bl b
  | .int i, _, z, .int _, e => by simp [D.py] at e; subst e; exact .int i
  | .str x, _, z, .str _, e => by simp [D.py] at e; subst e; exact .str x
  | .tup ds, _, z, .tup h r, e => by
    rw [D.py] at e
    obtain ⟨zs, h1, rfl⟩ := Option.map_eq_some_iff.mp e
    exact .tup (same_t hs h) (Rps.dps hs r h1)
  | .lst ds, _, z, .lst h r, e => by
    rw [D.py] at e
    obtain ⟨zs, h1, rfl⟩ := Option.map_eq_some_iff.mp e
    exact .lst (SqL.of (hs _ _ h)) (Rps.dps hs r h1)
  | .adr _, _, z, _, e => by simp [D.py] at e
  | .ty _, _, z, _, e => by simp [D.py] at e
  | .ins _ _, _, z, _, e => by simp [D.py] at e
  | .scr _, _, z, _, e => by simp [D.py] at e
  | .dct _, _, z, _, e => by simp [D.py] at e
  | .stup _, _, z, _, e => by simp [D.py] at e
theorem Rps.dps (hs : Same F H) : ∀ {ds : List D} {vs : List V} {zs : List PyData}, Rps K F vs ds → pys ds = some zs → DpAll K H vs zs
  | [], _, zs, .nil, e => by simp [pys] at e; subst e; exact .nil
  | d :: ds, _, zs, .cons h r, e => by
    rw [pys] at e
    obtain ⟨z, h1, e⟩ := Option.bind_eq_some_iff.mp e
    obtain ⟨ws, h2, rfl⟩ := Option.map_eq_some_iff.mp e
    exact .cons (Rp.dp hs h h1) (Rps.dps hs r h2)
end
end
end DX
namespace DX
open PySem PySem.Spec L2

section
variable {X : Cx} {J : Gh} {e a b c : Expr} {es : List Expr} {ρ ρ' : DEnv} {M M' : Mem} {F F' H H' : Hp} {σ : St} {B : Bd} {K : PySem.W.Frag} {pos p apos : Pos} {x : Str} {P : D → Mem → Prop}
end
end DX
namespace DX
open PySem PySem.Spec L2

mutual
/-- ints below 2^200, texts of signs, lists and tuples of such -/
def good : D → Prop
  | .non => True
  | .bl _ => True
  | .int i => -(2 ^ 200) ≤ i ∧ i ≤ 2 ^ 200
  | .str x => PyData.strOk x = true
  | .tup ds => goods ds
  | .lst ds => goods ds
  | _ => False
def goods : List D → Prop
  | [] => True
  | d :: ds => good d ∧ goods ds
end
mutual
/-- at least as much as its text is long -/
def wt : D → Nat
  | .str x => 10 * x.length + 2
  | .tup ds => wts ds + 3
  | .lst ds => wts ds + 3
  | _ => 64
def wts : List D → Nat
  | [] => 0
  | d :: ds => wt d + 2 + wts ds
end
mutual
def dep : D → Nat
  | .tup ds => deps ds + 1
  | .lst ds => deps ds + 1
  | _ => 0
def deps : List D → Nat
  | [] => 0
  | d :: ds => max (dep d) (deps ds)
end
mutual
def pyd : D → PyData
  | .bl b => .bool b
  | .int i => .int i
  | .str x => .str x
  | .tup ds => .tuple (pyds ds)
  | .lst ds => .list (pyds ds)
  | _ => .none
def pyds : List D → List PyData
  | [] => []
  | d :: ds => pyd d :: pyds ds
end
/-- the text that repr gives -/
def txt (d : D) : Str := (pyd d).shown
theorem small_log {i : Int} (h : -(2 ^ 200) ≤ i ∧ i ≤ 2 ^ 200) : i.natAbs.log2 < 1920 := by
  have h1 : i.natAbs ≤ 2 ^ 200 := by omega
  by_cases h0 : i.natAbs = 0
  · rw [h0]; decide
  · rw [Nat.log2_lt h0]
    exact Nat.lt_of_le_of_lt h1 (by decide)
mutual
theorem good_py : ∀ {d : D}, good d → d.py = some (pyd d)
  | .non, _ => rfl
  | .bl _, _ => rfl
  | .int _, _ => rfl
  | .str _, _ => rfl
  | .tup ds, h => by rw [D.py, goods_py h]; rfl
  | .lst ds, h => by rw [D.py, goods_py h]; rfl
theorem goods_py : ∀ {ds : List D}, goods ds → pys ds = some (pyds ds)
  | [], _ => rfl
  | d :: ds, h => by rw [pys, good_py h.1, goods_py h.2]; rfl
end
mutual
theorem good_lay : ∀ {d : D}, good d → (pyd d).canLay0 = true
  | .non, _ => by simp [pyd, PyData.canLay0]
  | .bl _, _ => by simp [pyd, PyData.canLay0]
  | .int _, _ => by simp [pyd, PyData.canLay0]
  | .str _, h => by simp only [pyd, PyData.canLay0]; exact h
  | .tup ds, h => by simp only [pyd, PyData.canLay0]; exact goods_lay h
  | .lst ds, h => by simp only [pyd, PyData.canLay0]; exact goods_lay h
theorem goods_lay : ∀ {ds : List D}, goods ds → PyData.canLayAll0 (pyds ds) = true
  | [], _ => by simp [pyds, PyData.canLayAll0]
  | d :: ds, h => by simp only [pyds, PyData.canLayAll0, good_lay h.1, goods_lay h.2, Bool.and_self]
end
mutual
theorem good_show : ∀ {d : D}, good d → (pyd d).showable = true
  | .non, _ => by simp [pyd, PyData.showable]
  | .bl _, _ => by simp [pyd, PyData.showable]
  | .int i, h => by simp only [pyd, PyData.showable]; exact decide_eq_true (small_log h)
  | .str _, h => by simp [pyd, PyData.showable]
  | .tup ds, h => by simp only [pyd, PyData.showable]; exact goods_show h
  | .lst ds, h => by simp only [pyd, PyData.showable]; exact goods_show h
theorem goods_show : ∀ {ds : List D}, goods ds → PyData.showableAll (pyds ds) = true
  | [], _ => by simp [pyds, PyData.showableAll]
  | d :: ds, h => by simp only [pyds, PyData.showableAll, good_show h.1, goods_show h.2, Bool.and_self]
end
mutual
theorem dep_py : ∀ {d : D}, good d → (pyd d).depth ≤ dep d + 1
  | .non, _ => by simp [pyd, PyData.depth]
  | .bl _, _ => by simp [pyd, PyData.depth]
  | .int i, h => by simp [pyd, PyData.depth]
  | .str _, h => by simp [pyd, PyData.depth]
  | .tup ds, h => by simp only [pyd, PyData.depth, dep]; have := deps_py (ds := ds) h; omega
  | .lst ds, h => by simp only [pyd, PyData.depth, dep]; have := deps_py (ds := ds) h; omega
theorem deps_py : ∀ {ds : List D}, goods ds → PyData.depthAll (pyds ds) ≤ deps ds + 1
  | [], _ => by simp [pyds, PyData.depthAll]
  | d :: ds, h => by
    simp only [pyds, PyData.depthAll, deps]
    have h1 := dep_py h.1
    have h2 := deps_py h.2
    omega
end
mutual
theorem wt_py : ∀ {d : D}, good d → (pyd d).shown.length ≤ wt d
  | .non, _ => by simp only [pyd, PyData.shown, wt]; decide +kernel
  | .bl b, _ => by cases b <;> (simp only [pyd, PyData.shown, wt]; decide +kernel)
  | .int i, h => by
    simp only [pyd, PyData.shown, wt]
    have h0 : -(2 ^ 200) ≤ i ∧ i ≤ 2 ^ 200 := h
    have h1 : i.natAbs < 10 ^ 61 := Nat.lt_of_le_of_lt (show i.natAbs ≤ 2 ^ 200 by omega) (by decide)
    have h2 := int_text_length_le10 (a := i) (k := 61) (by decide) h1
    rw [← PySem.ofString_length] at h2
    omega
  | .str x, h => by
    simp only [pyd, PyData.shown, wt]
    refine StrLaws.reprText_len x fun c hc => ?_
    have h1 : x.cps.all (· < 0x110000) = true := h
    have h2 := Array.all_eq_true_iff_forall_mem.mp h1 c (by simpa using hc)
    have h3 : c < 0x110000 := by simpa using h2
    exact Nat.lt_trans h3 (by decide)
  | .tup ds, h => by
    simp only [pyd, PyData.shown, wt]
    have h1 := tupleText_len_le (PyData.shownAll (pyds ds))
    have h2 := wts_py (ds := ds) h
    omega
  | .lst ds, h => by
    simp only [pyd, PyData.shown, wt]
    have h1 := listText_len_le (PyData.shownAll (pyds ds))
    have h2 := wts_py (ds := ds) h
    omega
theorem wts_py : ∀ {ds : List D}, goods ds → ((PyData.shownAll (pyds ds)).map (·.length)).sum + 2 * (PyData.shownAll (pyds ds)).length ≤ wts ds
  | [], _ => by simp [pyds, PyData.shownAll, wts]
  | d :: ds, h => by
    simp only [pyds, PyData.shownAll, wts, List.map_cons, List.sum_cons, List.length_cons]
    have h1 := wt_py h.1
    have h2 := wts_py h.2
    omega
end
mutual
theorem eqv_refl : ∀ {d : D}, good d → PyData.eqv (pyd d) (pyd d) = true
  | .non, _ => by simp [pyd, PyData.eqv]
  | .bl b, _ => by cases b <;> simp [pyd, PyData.eqv]
  | .int i, h => by simp [pyd, PyData.eqv]
  | .str _, h => by simp [pyd, PyData.eqv]
  | .tup ds, h => by simp only [pyd, PyData.eqv]; exact eqvs_refl h
  | .lst ds, h => by simp only [pyd, PyData.eqv]; exact eqvs_refl h
theorem eqvs_refl : ∀ {ds : List D}, goods ds → PyData.eqvAll (pyds ds) (pyds ds) = true
  | [], _ => by simp [pyds, PyData.eqvAll]
  | d :: ds, h => by simp only [pyds, PyData.eqvAll, eqv_refl h.1, eqvs_refl h.2, Bool.and_self]
end

section
variable {X : Cx} {J : Gh} {e a b c o : Expr} {es : List Expr} {ρ ρ' : DEnv} {M M' : Mem} {F F' H H' : Hp} {σ : St} {B : Bd} {K : PySem.W.Frag} {pos p apos cpos : Pos} {x : Str} {P : D → Mem → Prop}
def rReprD (K : PySem.W.Frag) : List V → Hp → VK → Prop := fun xs H Q => ∃ y z, xs = [y] ∧ Dp K H y z ∧ z.showable = true ∧ z.hasDict = false ∧ z.depth ≤ 60 ∧ z.shown.length ≤ sizeLine ∧ Q (.str z.shown) H
theorem shaped_good {d : D} (h : good d) (hd : dep d ≤ 50) : SeqAt.shaped (pyd d) = true := by
  have := dep_py h
  unfold SeqAt.shaped
  rw [good_lay h, Bool.true_and]
  exact decide_eq_true (by omega)
/-- == of data -/
def eqD (d1 d2 : D) : Bool := PyData.eqv (pyd d1) (pyd d2)
/-- at h stands d; with another in its place the memory is f of it -/
structure At (M : Mem) (h : Addr) (d : D) (f : D → Mem) : Prop where
  get : M h = some d
  set : ∀ d', f d' = up M h d'
theorem at0 {h : Addr} {d : D} : At (up M h d) h d (fun d' => up M h d') := ⟨up_same, fun _ => up_up.symm⟩
theorem at1 {h q : Addr} {d l : D} {f : D → Mem} (hq : h ≠ q) (A : At M h d f) : At (up M q l) h d (fun d' => up (f d') q l) :=
  ⟨by rw [up_ne hq]; exact A.get, fun d' => by rw [A.set, up_comm hq]⟩
/-- x.append(e) -/
theorem tyV_lst {K : PySem.W.Frag} {a : Addr} {xs : List V} {H : Hp} (h : H a = some (.lst xs)) : tyV K "list" (.ref a) H := Or.inl ⟨rfl, _, Or.inl (Or.inl h)⟩
theorem ex_append (h : EX X J o ρ M fun d M1 => ∃ q ds1, d = .adr q ∧ M1 q = some (.lst ds1) ∧ AX X J [e] ρ M1 fun ys M2 => ∃ y ds f, ys = [y] ∧ At M2 q (.lst ds) f ∧ ds.length < 1000000 ∧ P .non (f (.lst (ds ++ [y]))))
    (hbase : attributeBase o "append" X.env (eval o X.env) = eval o X.env := by rfl)
    (few : ((backTo cpos (starEach [e] X.env)).all (fun x => !x.1) && (backToKw cpos (keywordEach [] X.env)).all (fun x => x.1.isSome) && decide ([e].length + ([] : List Keyword).length + (if ([] : List Keyword).isEmpty then 0 else 1) < 30)) = true := by rfl)
    (line : (apos.endLine == cpos.line) = true := by rfl) (hst : starEach [e] X.env = (false, eval e X.env) :: starEach [] X.env := by rfl) (hpl : (backTo cpos (starEach [] X.env)).any (·.1) = false := by rfl) :
    EX X J (.Call (.Attribute o "append" apos) [e] [] cpos) ρ M P :=
  ex_of (pe_bm PySem.F.plainAttrs_list PySem.F.slot_list_append PySem.F.type_list_append mt_append pe_any pa_any hbase few line hst hpl) fun F σ H Q st k => h.go st fun d v M1 F1 H1 q1 e1 o1 r1 => by
    obtain ⟨q, ds1, rfl, hq, q2⟩ := q1
    cases r1
    obtain ⟨_, xs1, hx1, _⟩ := o1.mt _ _ hq
    refine ⟨tyV_lst hx1, q2.go (st.to e1 o1) fun ys vs M2 F2 H2 q3 e2 o2 r2 => ?_⟩
    obtain ⟨y, ds, f, rfl, hA, hz, q3⟩ := q3
    cases r2 with
    | cons r2 r3 =>
      cases r3
      obtain ⟨_, xs, hx, rx⟩ := o2.mt _ _ hA.get
      refine ⟨q, xs, _, rfl, rfl, hx, by rw [rx.length, sizeLine_eq]; omega, k _ _ _ _ _ q3 (e1.trans e2) ?_ .non⟩
      rw [hA.set]
      exact o2.set (o := .lst (xs ++ [_])) hA.get ⟨_, upd_same, rx.append (.cons r2 .nil)⟩
/-- x[i] = e -/
theorem g1_setIx {tp : Pos} (h : EX X J e ρ M fun y M1 => EX X J o ρ M1 fun d M2 => EX X J a ρ M2 fun i M3 => ∃ q ds f n m, d = .adr q ∧ i = .int n ∧ At M3 q (.lst ds) f ∧ ixN ds.length n = some m ∧ B.nx ρ (f (.lst (ds.set m y))))
    (hs : swapsWithSole [.Subscript o a tp] e pos.line X.env = pure false := by rfl) (hw : swappedStores [.Subscript o a tp] e X.env = pure none := by rfl)
    (h1 : (assignEach [.Subscript o a tp] X.env).map (·.2) = [assign (.Subscript o a tp) X.env] := by rfl)
    (ha : ∀ v, assign (.Subscript o a tp) X.env v = (do let ov ← holding [v] (eval o X.env); let iv ← holding [v, ov] (eval a X.env); standAt tp; holding [v, ov, iv] (setItem ov iv v); release [v, ov, iv] []) := by intro _; rfl) : G1 X J (.Assign [.Subscript o a tp] e pos) ρ M B :=
  g1_of (ps_asg pe_any (pg_sub pe_any pe_any set_list ha) hs hw h1) fun F σ H E s k => h.go s fun y v M1 F1 H1 q1 e1 o1 r1 => q1.go (s.to e1 o1) fun d w M2 F2 H2 q2 e2 o2 r2 => q2.go (s.to (e1.trans e2) o2) fun i u M3 F3 H3 q3 e3 o3 r3 => by
    obtain ⟨q, ds, f, n, m, rfl, rfl, hA, hm, q3⟩ := q3
    cases r2; cases r3
    obtain ⟨_, xs, hx, rx⟩ := o3.mt _ _ hA.get
    refine ⟨q, xs, n, m, rfl, rfl, hx, by rw [rx.length]; exact hm, k.nx F3 _ _ _ _ q3 ((e1.trans e2).trans e3) (((s.en.mono e1).mono e2).mono e3) ?_⟩
    rw [hA.set]
    exact o3.set (o := .lst (xs.set m v)) hA.get ⟨_, upd_same, rx.set m ((r1.mono e2).mono e3)⟩

def pick {α : Type} (l : List α) (ix : List Nat) : List α := ix.filterMap fun i => l[i]?
theorem pick_vals {vs : List V} {us : List Value} (r : Vals vs us) : ∀ ix : List Nat, Vals (pick vs ix) (pick us ix)
  | [] => .nil
  | i :: ix => by
    unfold pick
    rw [List.filterMap_cons, List.filterMap_cons]
    cases e : vs[i]? with
    | none => rw [Vals.none_of r e]; exact pick_vals r ix
    | some v =>
      obtain ⟨u, h1, h2⟩ := r.get e
      rw [h1]
      exact .cons h2 (pick_vals r ix)
theorem pick_rps {vs : List V} {ds : List D} (r : Rps K F vs ds) : ∀ ix : List Nat, Rps K F (pick vs ix) (pick ds ix)
  | [] => .nil
  | i :: ix => by
    unfold pick
    rw [List.filterMap_cons, List.filterMap_cons]
    cases e : vs[i]? with
    | none =>
      have : ds[i]? = none := by
        rw [List.getElem?_eq_none_iff] at e ⊢
        rw [← r.length]; exact e
      rw [this]; exact pick_rps r ix
    | some v =>
      obtain ⟨d, h1, h2⟩ := r.getV e
      rw [h1]
      exact .cons h2 (pick_rps r ix)
theorem pk_any {kws : List Keyword} : PK X kws (tKe X kws) := ⟨fun pos pins s σ H Q I ⟨t, h, q⟩ => h.run pos pins s σ H Q I q⟩
theorem kx_nil {P : List D → Mem → Prop} (q : P [] M) : KX X J [] ρ M P := ⟨fun pos pins s σ H Q I ⟨F, st, k⟩ => pk_nil.run pos pins s σ H Q I (k [] [] M F H q (Same.refl F) st.ok .nil)⟩
theorem kx_cons {kws : List Keyword} {nm : Option Str} {kpos : Pos} {P : List D → Mem → Prop} (h : EX X J e ρ M fun d M1 => KX X J kws ρ M1 fun ds M2 => P (d :: ds) M2) : KX X J (⟨nm, e, kpos⟩ :: kws) ρ M P :=
  ⟨fun pos pins s σ H Q I ⟨F, st, k⟩ => (pk_cons pe_any pk_any).run pos pins s σ H Q I (h.go st fun d v M1 F1 H1 q e1 o1 r1 => KX.go q (st.to e1 o1) fun ds vs M2 F2 H2 q2 e2 o2 r2 => k _ _ M2 F2 H2 q2 (e1.trans e2) o2 (.cons (r1.mono e2) r2))⟩
end
end DX
namespace DX
open PySem PySem.Spec L2
theorem le_b {m n : Nat} (h : Nat.ble m n = true) : m ≤ n := Nat.le_of_ble_eq_true h
section
variable {X : Cx} {J : Gh} {e a b c o : Expr} {es : List Expr} {st : Stmt} {ρ ρ' : DEnv} {M M' : Mem} {F F' H H' : Hp} {σ : St} {B : Bd} {K : PySem.W.Frag} {pos p apos cpos : Pos} {x : Str} {P : D → Mem → Prop}
/-- a word between a statement and the rest -/
theorem g1_mid (Mid : DEnv → Mem → Prop) (h : G1 X J st ρ M (B.thn Mid)) (k : ∀ ρ' M', Mid ρ' M' → B.nx ρ' M') : G1 X J st ρ M B :=
  g1_of h fun F σ H E st kd => ⟨F, st, fun F' σ' H' ρ' M' q => kd.nx F' σ' H' ρ' M' (k _ _ q), kd.rt, kd.bk, kd.ct⟩
/-- the script's first items, as a list -/
theorem sd_scr {ns : List Int} {k : Nat} (q : P (.lst ((ns.take k).map D.int)) M) : SD X (.scr ns) none (some (k : Int)) M P :=
  ⟨_, sl_list, fun F H v Q o rx kt => by
    cases rx with
    | scr h =>
      refine ⟨_, _, rfl, same_l o.ex h, fun q' hq => kt _ _ _ _ _ q (o.fixSame hq) (o.fix hq) (.lst upd_same ?_)⟩
      have e1 : cutV (ns.map V.int) none (some (k : Int)) = (ns.take k).map V.int := by
        unfold cutV
        rw [HT.sIx_none, HT.sIx_nat, Nat.sub_zero, List.drop_zero, List.map_take, List.length_map]
        by_cases hk : k ≤ ns.length
        · rw [Nat.min_eq_left hk]
        · rw [Nat.min_eq_right (by omega), List.take_of_length_le (by simp), List.take_of_length_le (by simp; omega)]
      rw [e1]
      exact Rps.ofInts⟩
theorem pyds_ints : ∀ ns : List Int, pys (ns.map D.int) = some (ns.map PyData.int)
  | [] => rfl
  | n :: ns => by rw [List.map_cons, pys, pyds_ints ns]; rfl
theorem lay_ints : ∀ ns : List Int, PyData.canLayAll0 (ns.map PyData.int) = true
  | [] => by simp [PyData.canLayAll0]
  | n :: ns => by simp only [List.map_cons, PyData.canLayAll0, PyData.canLay0, lay_ints ns, Bool.and_self]
theorem dep_ints : ∀ ns : List Int, PyData.depthAll (ns.map PyData.int) ≤ 1
  | [] => by simp [PyData.depthAll]
  | n :: ns => by have := dep_ints ns; simp only [List.map_cons, PyData.depthAll, PyData.depth]; omega
theorem shaped_ints (ns : List Int) : SeqAt.shaped (.list (ns.map PyData.int)) = true := by
  have := dep_ints ns
  unfold SeqAt.shaped
  rw [Bool.and_eq_true]
  exact ⟨by simp only [PyData.canLay0]; exact lay_ints ns, decide_eq_true (by simp only [PyData.depth]; omega)⟩
end

def hand (s : Hs) : D := .lst [.lst (s.cells.map D.int), .int s.at_, .int s.gr]
/-- a draw: any number below the bound -/
def trTake : Tr := fun ds M P => ∃ h s b M0 n, ds = [.adr h, .int b] ∧ M = up M0 h (hand s) ∧ HOk s n ∧ n ≤ 1000000 ∧ (0 < b ∧ b < 1000000000) ∧ ∀ k s', 0 ≤ k → k < b → HOk s' (n + 1) → P (.int k) (up M0 h (hand s'))
def trBegin : Tr := fun ds M P => ∃ ns, ds = [.scr ns] ∧ ∀ h s, M h = none → HOk s 0 → P (.adr h) (up M h (hand s))
theorem law_start {T : Tr} (hT : ∀ ns M P, (∀ M', P (.bl true) M') → T [.scr ns] M P) {K : PySem.W.Frag} {H : Hp} {a : Addr} {ns : List Int} (hS : SqL K H a (ns.map V.int)) : ∃ F M ds, Ok K F M H ∧ Rps K F [.ref a] ds ∧ T ds M fun d _ => d = .bl true :=
  ⟨H, fun _ => none, [.scr ns], ⟨Same.refl H, fun a d e => by cases e⟩, .cons (.scr hS) .nil, hT ns _ _ fun _ => rfl⟩
end DX
namespace DX
open PySem PySem.Spec L2
def isi (n : String) (d : D) : Bool := (kn d == n) || (kn d == "bool" && n == "int")
theorem kit_names : ∀ a ∈ ["NoneType", "bool", "int", "str", "tuple", "list", "dict"], ∀ n ∈ ["int", "bool", "str", "tuple", "list", "dict"], kitB a n = some ((a == n) || (a == "bool" && n == "int")) := by decide +kernel
section
variable {X : Cx} {J : Gh} {e a b c o : Expr} {es : List Expr} {st : Stmt} {ρ ρ' : DEnv} {M M' : Mem} {F F' H H' : Hp} {σ : St} {B : Bd} {K : PySem.W.Frag} {pos p apos cpos : Pos} {x : Str} {P : D → Mem → Prop}
theorem cd_isi {d : D} {n : String} (hn : n ∈ ["int", "bool", "str", "tuple", "list", "dict"]) (h : plain d = true) (q : P (.bl (isi n d)) M) : CD X (.builtin "isinstance") [d, .ty n] M P :=
  ⟨_, call_isi, fun F H vs Q ok r k => by
    cases r with
    | cons h1 r =>
      cases r with
      | cons h2 r =>
        cases r
        cases h2
        exact ⟨_, _, _, _, _, rfl, .ty n, ty_of h ok.ex h1, kit_ty (kit_names _ (kn_mem d) _ hn), k.here q ok (.bl _)⟩⟩
/-- a built-in type by its name -/
theorem ex_tyn {n : String} (hm : X.mg x = none) (hv : bootBuiltins x = some (.type n)) (q : P (.ty n) M) (hg : Gl X x := by rfl) (hn : x ≠ "__name__" := by decide) (hd : (x == ("__debug__" : Str)) = false := by decide) : EX X J (.Name x pos) ρ M P :=
  ex_of (pe_bltn (v := .ty n) hg hm hv rfl hn hd) fun F σ H Q st k => k.here q st.ok (.ty n)
theorem bb_bool : bootBuiltins "bool" = some (.type "bool") := by decide +kernel
/-- a text, a tuple of the module by its name -/
theorem ex_gstr {z : Str} (hm : ∃ t, X.mg x = some (.str z t)) (q : P (.str z) M) (hg : Gl X x := by rfl) (hd : (x == ("__debug__" : Str)) = false := by decide) : EX X J (.Name x pos) ρ M P := by
  obtain ⟨t, h⟩ := hm
  exact ex_glob (v := .str z) hg h ⟨t, rfl⟩ (fun F => .str z) q hd
theorem ex_gint {z : Int} (hm : ∃ t, X.mg x = some (.int z t)) (q : P (.int z) M) (hg : Gl X x := by rfl) (hd : (x == ("__debug__" : Str)) = false := by decide) : EX X J (.Name x pos) ρ M P := by
  obtain ⟨t, h⟩ := hm
  exact ex_glob (v := .int z) hg h ⟨t, rfl⟩ (fun F => .int z) q hd
end
end DX
namespace DX
open PySem PySem.Spec L2
section
variable {X : Cx} {J : Gh} {e : Expr} {ρ : DEnv} {M : Mem} {P : D → Mem → Prop}
end
/-- adding bit by bit: the sum of the low parts -/
def low (a b c : Int) (i : Nat) : Int := a % 2 ^ i + b % 2 ^ i + c
end DX
namespace DX
open PySem PySem.Spec L2
open PyProof.Rows hiding St
section
variable {X : Cx} {J : Gh} {e a b c o : Expr} {es : List Expr} {ρ : DEnv} {M : Mem} {F F' H H' : Hp} {σ : St} {K : PySem.W.Frag} {pos p apos cpos : Pos} {P : D → Mem → Prop}
def toS : D → Str
  | .str z => z
  | _ => Str.empty
def AllS (ds : List D) : Prop := (ds.map toS).map D.str = ds
theorem alls_map {α : Type} {f : α → Str} {l : List α} : AllS (l.map fun x => D.str (f x)) := by
  unfold AllS; rw [List.map_map, List.map_map]; rfl
theorem vals_strs : ∀ {xs : List V} {zs : List Str}, Rps K F xs (zs.map D.str) → xs = zs.map V.str
  | _, [], .nil => rfl
  | _, z :: zs, .cons h r => by cases h; rw [vals_strs r]; rfl
def sizeJ (ds : List D) : Nat := ((ds.map toS).map (·.length)).sum
theorem ex_join (h : EX X J o ρ M fun d M1 => ∃ z, d = .str z ∧ EX X J e ρ M1 fun d2 M2 => ∃ ds, Sq M2 d2 ds ∧ AllS ds ∧ sizeJ ds + ds.length * z.length ≤ 16777216 ∧ P (.str (Txt.join z (ds.map toS))) M2)
    (hs : starEach [e] X.env = [(false, eval e X.env)] := by rfl) (hbase : attributeBase o "join" X.env (eval o X.env) = eval o X.env := by rfl) (hline : (apos.endLine == pos.line) = true := by rfl) :
    EX X J (.Call (.Attribute o "join" apos) [e] [] pos) ρ M P :=
  ex_of (pe_join pe_any pe_any hs hbase hline) fun F σ H Q st k => h.go st fun d v M1 F1 H1 q e1 o1 r1 => by
    obtain ⟨z, rfl, q⟩ := q
    cases r1
    refine ⟨⟨_, rfl⟩, EX.go q (st.to e1 o1) fun d2 v2 M2 F2 H2 q2 e2 o2 r2 => ?_⟩
    obtain ⟨ds, s, ha, hz, q3⟩ := q2
    obtain ⟨p, xs, rfl, h2, r3⟩ := s.get o2 r2
    have e3 : xs = (ds.map toS).map V.str := vals_strs (by rw [ha]; exact r3)
    refine ⟨z, p, ds.map toS, rfl, rfl, by rw [← e3]; exact h2, by rw [List.length_map]; exact hz, k _ _ _ _ _ q3 (e1.trans e2) o2 (.str _)⟩
theorem ex_revL {k : Nat} {p1 p2 p3 : Pos} (h : EX X J e ρ M fun d M1 => ∃ ds, Sl M1 d ds ∧ P (.lst ds.reverse) M1) : EX X J (.Subscript e (.Slice none none (some (.UnaryOp .USub (.Constant (.int 1) k p1) p2)) p3) pos) ρ M P :=
  ex_of (pe_revL pe_any) fun F σ H Q st k => h.go st fun d v M1 F1 H1 q e1 o1 r1 => by
    obtain ⟨ds, s, q⟩ := q
    obtain ⟨p, xs, rfl, h2, r2⟩ := s.get o1 r1
    exact ⟨p, xs, rfl, SqL.of h2, fun l hl => k _ _ _ _ _ q (e1.trans (o1.fixSame hl)) (o1.fix hl) (.lst upd_same (Rps.mono (o1.fixSame hl) (rps_rev r2)))⟩
where
  rps_rev {K : PySem.W.Frag} {F : Hp} : ∀ {xs : List V} {ds : List D}, Rps K F xs ds → Rps K F xs.reverse ds.reverse
    | _, _, .nil => .nil
    | _, _, .cons h r => by
      rw [List.reverse_cons, List.reverse_cons]
      exact Rps.append (rps_rev r) (.cons h .nil)
def rngC (a c : Int) (n : Nat) : List D := (List.range n).map fun (i : Nat) => D.int (a + (i : Int) * c)
theorem rngC_len {a c : Int} {n : Nat} : (rngC a c n).length = n := by simp [rngC]
theorem rngC_one {a : Int} {n : Nat} : rngC a 1 n = rngD a n := by unfold rngC rngD; simp only [Int.mul_one]
theorem rngC_at {a c : Int} {n i : Nat} {d : D} (h : (rngC a c n)[i]? = some d) : i < n ∧ d = .int (a + (i : Int) * c) := by
  unfold rngC at h
  rw [List.getElem?_map] at h
  by_cases hi : i < n
  · rw [List.getElem?_range hi] at h
    cases h
    exact ⟨hi, rfl⟩
  · rw [List.getElem?_eq_none (by simp; omega)] at h
    cases h
def PRc (X : Cx) (e : Expr) (t : St → Hp → (Int → Int → Nat → Hp → Prop) → Prop) : Prop :=
  ∀ (pins : List (Addr × Obj)) (s : Shared) (σ : St) (H : Hp) (Q : Int → Int → Nat → Hp → Prop), Inv X pins σ H s → t σ H Q →
    wpAny (model X.prog X.w) X.A (eval e X.env) (fun x s' => ∃ r a b c n t u v H', x = .ref r ∧ IsRange s'.heap r a b c t u v ∧ RgC a b c n ∧ n ≤ 2 ^ 24 ∧ Inv X pins σ H' s' ∧ Q a c n H') X.xe s
def tRc (ta : TA) : St → Hp → (Int → Int → Nat → Hp → Prop) → Prop := fun σ H Q => ta σ H fun vs H1 => ∃ i j c n, (vs = [.int i, .int j, .int c] ∨ (vs = [.int i, .int j] ∧ c = 1) ∨ (vs = [.int j] ∧ i = 0 ∧ c = 1)) ∧ RgC i j c n ∧ n ≤ 2 ^ 24 ∧ Q i c n H1
theorem rgc_pos {i j : Int} (ha : -(2 ^ 62) ≤ i) (ha' : i < 2 ^ 62) (hb : -(2 ^ 62) ≤ j) (hb' : j < 2 ^ 62) : RgC i j 1 (j - i).toNat :=
  ⟨by decide, by decide, small_one ha ha' hb hb', rangeSize_nat i j⟩
theorem prc {ta : TA} (hg : Gl X "range") (hm : X.mg "range" = none) (ha : PA X (a :: es) ta)
    (hs : starEach (a :: es) X.env = (false, eval a X.env) :: starEach es X.env := by rfl) (hpl : (backTo pos (starEach es X.env)).any (·.1) = false := by rfl) :
    PRc X (.Call (.Name "range" p) (a :: es) [] pos) (tRc ta) := by
  intro pins s σ H Q I h
  refine Call_ (ld_blt I hg hm boot_range (callWith_type1 (thn (ha.run pos pins s σ H _ I h) fun us s1 ⟨vs, H1, I1, r1, q1⟩ => ?_) hs hpl))
  obtain ⟨i, j, c, n, e, hc, hn, q⟩ := q1
  rcases e with e | ⟨e, ec⟩ | ⟨e, ei, ec⟩
  · subst e
    cases r1 with
    | cons r rr =>
      cases rr with
      | cons r' rr =>
        cases rr with
        | cons r'' rr =>
          cases rr
          obtain ⟨t, rfl⟩ := r
          obtain ⟨t', rfl⟩ := r'
          obtain ⟨t'', rfl⟩ := r''
          exact call_range_3 hc.1 ⟨_, i, j, c, n, _, _, _, H1, rfl, IsRange.new .., hc, hn, I1.kept (t' := s1.toks) fun b o e => Heap.get?_push_of_some _ e, q⟩ (.inl (PyProof.noPylong_small hc.2.1))
  · subst e ec
    cases r1 with
    | cons r rr =>
      cases rr with
      | cons r' rr =>
        cases rr
        obtain ⟨t, rfl⟩ := r
        obtain ⟨t', rfl⟩ := r'
        exact call_range_2 ⟨_, i, j, 1, n, _, _, _, H1, rfl, IsRange.new .., hc, hn, I1.kept fun b o e => Heap.get?_push_of_some _ e, q⟩
  · subst e ei ec
    cases r1 with
    | cons r rr =>
      cases rr
      obtain ⟨t, rfl⟩ := r
      exact call_range_1 ⟨_, 0, j, 1, n, _, _, _, H1, rfl, IsRange.new .., hc, hn, I1.kept fun b o e => Heap.get?_push_of_some _ e, q⟩
def rgC (a c : Int) (n : Nat) : List V := (List.range n).map fun (i : Nat) => V.int (a + (i : Int) * c)
theorem rps_rgC {a c : Int} {n : Nat} : Rps K F (rgC a c n) (rngC a c n) := by
  unfold rgC rngC
  induction (List.range n) with
  | nil => exact .nil
  | cons i r ih => exact .cons (.int _) ih
theorem vals_rgC {a c : Int} {n : Nat} {acc : Array Value} (h : ItemsOf (fun i v => ∃ t, v = .int (a + i * c) t) acc n) : Vals (rgC a c n) acc.toList := by
  have e : acc.toList.length = n := by rw [Array.length_toList]; exact h.1
  unfold rgC
  rw [← e]
  refine vals_of_get acc.toList _ fun j u hj => ?_
  obtain ⟨t, rfl⟩ := h.2 j u (by rw [← hj, Array.getElem?_toList])
  exact ⟨t, rfl⟩
theorem rgC_len {a c : Int} {n : Nat} : (rgC a c n).length = n := by simp [rgC]
def tLstRc (te : St → Hp → (Int → Int → Nat → Hp → Prop) → Prop) : TE := fun σ H Q => te σ H fun a c n H1 => ∀ q, H1 q = none → Q (.ref q) (upd H1 q (.lst (rgC a c n)))
def tTupRc (te : St → Hp → (Int → Int → Nat → Hp → Prop) → Prop) : TE := fun σ H Q => te σ H fun a c n H1 => ∀ q, H1 q = none → Q (.ref q) (upd H1 q (.tup (rgC a c n)))
variable {te : St → Hp → (Int → Int → Nat → Hp → Prop) → Prop}
theorem pe_lstRc (hc : X.calm = true) (hg : Gl X "list") (hm : X.mg "list" = none) (he : PRc X e te) (na : starEach [e] X.env = (false, eval e X.env) :: starEach [] X.env := by rfl) : PE X (.Call (.Name "list" p) [e] [] pos) (tLstRc te) := by
  refine ⟨fun pins s σ H Q I h => ?_⟩
  refine Call_ (ld_blt I hg hm boot_list (callWith_type1 (args_cons (thn (he pins s σ H _ I h) fun x s1 ⟨r, a, b, c, n, t, u, v, H1, ex, hr, ok, hn, I1, q⟩ => args_nil ?_) na) na))
  subst ex
  refine call_list_range (n := n) (I1.ok.hd hc) hr ok.2.2.1 ok.2.2.2 hn fun h' tk acc c' hk e' hi => ?_
  refine ⟨.ref s1.heap.objs.size, upd H1 s1.heap.objs.size (.lst (rgC a c n)), I1.laid hk (Nat.le_refl _) (show ObjOk X.prog X.w _ _ _ (.lst (rgC a c n)) from ⟨?_, acc.toList, c', vals_rgC hi, ?_⟩), rfl, q _ (I1.hok.fresh (Nat.le_refl _))⟩
  · rw [rgC_len, sizeLine_eq]; omega
  · rw [Array.toArray_toList]; exact e'
theorem pe_tupRc (hc : X.calm = true) (hg : Gl X "tuple") (hm : X.mg "tuple" = none) (he : PRc X e te) (na : starEach [e] X.env = (false, eval e X.env) :: starEach [] X.env := by rfl) : PE X (.Call (.Name "tuple" p) [e] [] pos) (tTupRc te) := by
  refine ⟨fun pins s σ H Q I h => ?_⟩
  refine Call_ (ld_blt I hg hm boot_tuple (callWith_type1 (args_cons (thn (he pins s σ H _ I h) fun x s1 ⟨r, a, b, c, n, t, u, v, H1, ex, hr, ok, hn, I1, q⟩ => args_nil ?_) na) na))
  subst ex
  refine call_tuple_range (n := n) (I1.ok.hd hc) hr ok.2.2.1 ok.2.2.2 hn fun h' tk acc hk hi => ?_
  have I2 : Inv X pins σ H1 { s1 with heap := h', toks := tk } := I1.kept hk
  refine ⟨.ref h'.objs.size, upd H1 h'.objs.size (.tup (rgC a c n)), I2.laid (t' := tk) (fun c o e => Heap.get?_push_of_some _ e) (Nat.le_refl _) (show ObjOk X.prog X.w _ _ _ (.tup (rgC a c n)) from ⟨?_, acc.toList, vals_rgC hi, ?_⟩), rfl, q _ (I2.hok.fresh (Nat.le_refl _))⟩
  · rw [rgC_len, sizeLine_eq]; omega
  · rw [Array.toArray_toList]; exact IsTup.new _ _
/-- what range is asked -/
def Rg (ds : List D) (i c : Int) (n : Nat) : Prop := ∃ j, (ds = [.int i, .int j, .int c] ∨ (ds = [.int i, .int j] ∧ c = 1) ∨ (ds = [.int j] ∧ i = 0 ∧ c = 1)) ∧ RgC i j c n ∧ n ≤ 2 ^ 24
theorem rg1 {j : Int} (h : -16777216 ≤ j ∧ j ≤ 16777216) : Rg [.int j] 0 1 j.toNat := ⟨j, .inr (.inr ⟨rfl, rfl, rfl⟩), by have := rgc_pos (i := 0) (j := j) (by omega) (by omega) (by omega) (by omega); rwa [Int.sub_zero] at this, by omega⟩
theorem rg2 {i j : Int} (h : (0 ≤ i ∧ i ≤ 16777216) ∧ -16777216 ≤ j ∧ j ≤ 16777216) : Rg [.int i, .int j] i 1 (j - i).toNat := ⟨j, .inr (.inl ⟨rfl, rfl⟩), rgc_pos (by omega) (by omega) (by omega) (by omega), by omega⟩
theorem rg3 {i j : Int} (h : (-1000000 ≤ i ∧ i ≤ 1000000) ∧ -1000000 ≤ j ∧ j ≤ 1000000) : Rg [.int i, .int j, .int (-1)] i (-1) (i - j).toNat := ⟨j, .inl rfl, RgC.neg (by omega) (by omega) (by omega) (by omega), by omega⟩
theorem Rg.raw {ds : List D} {vs : List V} {i c : Int} {n : Nat} (h : Rg ds i c n) (r : Rps K F vs ds) : ∃ i' j c' n', (vs = [.int i', .int j, .int c'] ∨ (vs = [.int i', .int j] ∧ c' = 1) ∨ (vs = [.int j] ∧ i' = 0 ∧ c' = 1)) ∧ RgC i' j c' n' ∧ n' ≤ 2 ^ 24 ∧ i' = i ∧ c' = c ∧ n' = n := by
  obtain ⟨j, h, hr, hn⟩ := h
  rcases h with rfl | ⟨rfl, hc⟩ | ⟨rfl, hi, hc⟩
  · cases r with | cons h1 r => cases r with | cons h2 r => cases r with | cons h3 r => cases r; cases h1; cases h2; cases h3; exact ⟨i, j, c, n, .inl rfl, hr, hn, rfl, rfl, rfl⟩
  · cases r with | cons h1 r => cases r with | cons h2 r => cases r; cases h1; cases h2; exact ⟨i, j, c, n, .inr (.inl ⟨rfl, hc⟩), hr, hn, rfl, rfl, rfl⟩
  · cases r with | cons h1 r => cases r; cases h1; exact ⟨i, j, c, n, .inr (.inr ⟨rfl, hi, hc⟩), hr, hn, rfl, rfl, rfl⟩
theorem ex_tupR {p' pos' : Pos} (hc : X.calm = true) (hmt : X.mg "tuple" = none) (hm : X.mg "range" = none) (h : AX X J (a :: es) ρ M fun ds M1 => ∃ i c n, Rg ds i c n ∧ P (.tup (rngC i c n)) M1) (hgt : Gl X "tuple" := by rfl) (hg : Gl X "range" := by rfl)
    (hs : starEach (a :: es) X.env = (false, eval a X.env) :: starEach es X.env := by rfl) (hpl : (backTo pos (starEach es X.env)).any (·.1) = false := by rfl) (na : starEach [.Call (.Name "range" p) (a :: es) [] pos] X.env = (false, eval (.Call (.Name "range" p) (a :: es) [] pos) X.env) :: starEach [] X.env := by rfl) :
    EX X J (.Call (.Name "tuple" p') [.Call (.Name "range" p) (a :: es) [] pos] [] pos') ρ M P :=
  ex_of (pe_tupRc hc hgt hmt (prc hg hm pa_any hs hpl) na) fun F σ H Q st k => h.go st fun ds vs M1 F1 H1 q e1 o1 r1 => by
    obtain ⟨i, c, n, hr, q⟩ := q
    obtain ⟨i', j, c', n', h1, h2, h3, rfl, rfl, rfl⟩ := hr.raw r1
    exact ⟨i', j, c', n', h1, h2, h3, fun l hl => k _ _ _ _ _ q (e1.trans (o1.fixSame hl)) (o1.fix hl) (.tup (.inl (.inl upd_same)) rps_rgC)⟩
theorem ex_lstR {p' pos' : Pos} (hc : X.calm = true) (hmt : X.mg "list" = none) (hm : X.mg "range" = none) (h : AX X J (a :: es) ρ M fun ds M1 => ∃ i c n, Rg ds i c n ∧ P (.lst (rngC i c n)) M1) (hgt : Gl X "list" := by rfl) (hg : Gl X "range" := by rfl)
    (hs : starEach (a :: es) X.env = (false, eval a X.env) :: starEach es X.env := by rfl) (hpl : (backTo pos (starEach es X.env)).any (·.1) = false := by rfl) (na : starEach [.Call (.Name "range" p) (a :: es) [] pos] X.env = (false, eval (.Call (.Name "range" p) (a :: es) [] pos) X.env) :: starEach [] X.env := by rfl) :
    EX X J (.Call (.Name "list" p') [.Call (.Name "range" p) (a :: es) [] pos] [] pos') ρ M P :=
  ex_of (pe_lstRc hc hgt hmt (prc hg hm pa_any hs hpl) na) fun F σ H Q st k => h.go st fun ds vs M1 F1 H1 q e1 o1 r1 => by
    obtain ⟨i, c, n, hr, q⟩ := q
    obtain ⟨i', j, c', n', h1, h2, h3, rfl, rfl, rfl⟩ := hr.raw r1
    exact ⟨i', j, c', n', h1, h2, h3, fun l hl => k _ _ _ _ _ q (e1.trans (o1.fixSame hl)) (o1.fix hl) (.lst upd_same rps_rgC)⟩
theorem wk_rngC {lo c : Int} {n : Nat} : Wk K F (Itc lo c n) (rngC lo c n) :=
  ⟨fun i H hi s => by rw [rngC_len] at hi; exact hi, fun H s => by rw [rngC_len]; exact Nat.le_refl _, fun i d H x H' F1 M hd s o y => by
    obtain ⟨rfl, rfl⟩ := y
    obtain ⟨_, rfl⟩ := rngC_at hd
    exact ⟨F1, Same.refl _, o, .int _⟩⟩
theorem ix_range3 {tg : Expr} {P : List D → Mem → Prop} (hm : X.mg "range" = none) (h : AX X J [a, b, c] ρ M fun ds M2 => ∃ i j, ds = [.int i, .int j, .int (-1)] ∧ ((-1000000 ≤ i ∧ i ≤ 1000000) ∧ -1000000 ≤ j ∧ j ≤ 1000000) ∧ P (rngC i (-1) (i - j).toNat) M2) (hg : Gl X "range" := by rfl)
    (hs : starEach [a, b, c] X.env = (false, eval a X.env) :: starEach [b, c] X.env := by rfl) (hpl : (backTo pos (starEach [b, c] X.env)).any (·.1) = false := by rfl) : IX X J tg (.Call (.Name "range" p) [a, b, c] [] pos) ρ M P :=
  ix_of (pi_range3 hg hm pa_any hs hpl) fun F σ H R s k => h.go s fun ds vs M1 F1 H1 q e1 o1 r1 => by
    obtain ⟨i, j, rfl, hj, q2⟩ := q
    cases r1 with | cons h1 r1 => cases r1 with | cons h2 r1 => cases r1 with | cons h3 r1 =>
      cases r1
      cases h1; cases h2; cases h3
      exact ⟨i, j, -1, (i - j).toNat, rfl, RgC.neg (by omega) (by omega) (by omega) (by omega), k _ _ M1 F1 H1 q2 e1 o1 wk_rngC⟩
end
end DX
namespace DX
open PySem PySem.Spec L2
open SX
section
variable {X : Cx} {J : Gh} {M : Mem} {P : D → Mem → Prop}
def isS (c : Nat) : Prop := c = 71 ∨ c = 75 ∨ c = 80
def sgl (L : List Nat) : List D := L.map fun c => D.str (S [c])
theorem tl_S {l : List Nat} : (S l).cps.toList = l := rfl
theorem joinL_one : ∀ L : List Nat, TL.joinL [] (L.map fun c => [c]) = L
  | [] => rfl
  | [c] => rfl
  | c :: d :: r => by
    have := joinL_one (d :: r)
    simp only [List.map_cons] at this
    simp only [List.map_cons, TL.joinL, this]
    simp
theorem sgl_toS (L : List Nat) : (sgl L).map toS = (L.map fun c => [c]).map S := by
  unfold sgl; rw [List.map_map, List.map_map]; rfl
theorem empty_S : ("" : Str) = S [] := by decide
theorem join_sgl (L : List Nat) : Txt.join "" ((sgl L).map toS) = S L := by
  rw [sgl_toS, empty_S, join_S, joinL_one]
theorem sgl_all (L : List Nat) : AllS (sgl L) := alls_map
theorem sgl_size : ∀ {L : List Nat}, sizeJ (sgl L) = L.length
  | [] => rfl
  | c :: r => by
    have := sgl_size (L := r)
    unfold sizeJ sgl at this ⊢
    simp only [List.map_cons, List.sum_cons, this, List.length_cons]
    show (S [c]).length + _ = _
    rw [S_len]; simp; omega
def stp (l : List Nat) (p : Int) : Nat := l.getD (l.length - 1 - p.toNat) 0
def firstS (l : List Nat) : List Int → Nat
  | [] => 80
  | p :: ps => if stp l p = 80 then firstS l ps else stp l p
def carryS (c : Nat) : Int := if c = 71 then 1 else 0
def down (a b : Int) : List Int := (List.range (a - b).toNat).map fun (i : Nat) => a + (i : Int) * (-1)
theorem rngC_down {a b : Int} : rngC a (-1) (a - b).toNat = (down a b).map D.int := by unfold rngC down; rw [List.map_map]; rfl
theorem down_nil {a b : Int} (h : a ≤ b) : down a b = [] := by unfold down; rw [show (a - b).toNat = 0 by omega]; rfl
theorem down_cons {a b : Int} (h : b < a) : down a b = a :: down (a - 1) b := by
  unfold down
  rw [show (a - b).toNat = (a - 1 - b).toNat + 1 by omega, List.range_succ_eq_map, List.map_cons, List.map_map]
  congr 1
  · simp
  · apply List.map_congr_left
    intro i _
    simp only [Function.comp]
    omega
def dueP (n o : Int) (r : Bool) : List Int := if r then down o 0 ++ down n o else down o (-1)
def upto (a b : Int) : List Int := (List.range (b - a).toNat).map fun (i : Nat) => a + (i : Int)
theorem rngD_upto {a b : Int} : rngD a (b - a).toNat = (upto a b).map D.int := by unfold rngD upto; rw [List.map_map]; rfl
theorem upto_mem {a b p : Int} (h : p ∈ upto a b) : a ≤ p ∧ p < b := by
  unfold upto at h
  simp only [List.mem_map, List.mem_range] at h
  obtain ⟨i, hi, rfl⟩ := h
  omega
def isRing (l : List Nat) : Bool := decide (stp l 0 = 80)
def trueS (l : List Nat) (o : Int) : Int := carryS (firstS l (dueP ((l.length : Int) - 1) o (isRing l)))
def trueAll (l : List Nat) : List Int := (upto (if isRing l then 1 else 0) ((l.length : Int) - 1 + 1)).map (trueS l)
theorem lit_G : ("G" : Str) = S [71] := by decide
theorem lit_P : ("P" : Str) = S [80] := by decide
end
end DX
namespace DX
open PySem PySem.Spec L2
open SX
section
variable {X : Cx} {J : Gh} {M : Mem} {P : D → Mem → Prop}
def cutA {α : Type} (xs : List α) (lo hi : Option Int) : List α := (xs.drop (HT.sIx xs.length 0 lo)).take (HT.sIx xs.length xs.length hi - HT.sIx xs.length 0 lo)
theorem sd_str {z : Str} {l u : Option Int} (hz : z.cps.toList.length ≤ 1000000) (p : P (.str (S (cutA z.cps.toList l u))) M) : SD X (.str z) l u M P :=
  ⟨_, sl_str, fun F H v Q o rx k => by
    cases rx
    have hl : z.length = z.cps.toList.length := by unfold Str.length; rw [Array.length_toList]
    refine ⟨z, rfl, by rw [sizeLine_eq]; omega, ?_⟩
    have e : cutS z l u = S (cutA z.cps.toList l u) := by unfold cutS cutA; rw [hl]
    rw [e]
    exact k.here p o (.str _)⟩
/-- the state that two bits make -/
def ltr (x y : Int) : Nat := if x ≠ y then 80 else if x = 1 then 71 else 75
def stL (a b : Int) (n : Nat) : List Nat := (List.range n).map fun i => ltr (a / 2 ^ i % 2) (b / 2 ^ i % 2)
def fA (L : List Nat) (i : Nat) : Int := if L.getD i 0 = 75 then 0 else 1
def fB (L : List Nat) (i : Nat) : Int := if L.getD i 0 = 71 then 1 else 0
end
end DX
namespace DX
open PySem PySem.Spec L2
open SX
section
variable {X : Cx} {J : Gh} {M : Mem} {P : D → Mem → Prop}
def inS (z : Str) (ds : List D) : Bool := ds.any fun d => decide (toS d = z)
end
def lookY (fa : List He.Fa) (fn : List He.DefD) (ex : PySem.W.Frag → Bool) (n : Nat) (g : Addr → Option Obj) : He.AlD × Bool :=
  (He.obsDG n fa fn g, ex (He.frG g (He.asD g n)))
def hookY (n : Nat) (fa : List He.Fa) (fn : List He.DefD) (ex : PySem.W.Frag → Bool) : PySem.W.Hook where
  α := He.AlD × Bool
  obs := fun s => lookY fa fn ex n s.heap.get?
  val := fun _ => (He.valD fn, true)
  says := fun _ h => ∃ K : PySem.W.Frag, K.In h ∧ He.SaysD fa fn K ∧ ex K = true
  of := fun _ _ e => ⟨_, He.frG_in, congrArg Prod.fst e, congrArg Prod.snd e⟩
  keeps := fun _ _ _ ⟨K, hK, c, d⟩ k => ⟨K, PySem.W.Frag.In.keeps hK k, c, d⟩
end DX
namespace DX
open PySem PySem.Spec L2 PyProof.Rows StX

abbrev TrV := List D → List D → Mem → (D → Mem → Prop) → Prop
structure FnV (pg : Program) (w : World) (K : PySem.W.Frag) (mg : Str → Option Value) (base : Heap) (gd : Bool) (k : Nat) (f : Addr) (ks : List Str) (T : TrV) : Prop where
  go : ∀ (A : Around) (outer : List PySem.Env) (s : Shared) (H F : Hp) (M : Mem) (ds zs : List D) (P : D → Mem → Prop) (us ws : List Value) (vs xs : List V) (Q : VK), (gd = true → A.guards = some []) → Room k A → Env0 pg w K mg base A outer s H →
    Vals vs us → Vals xs ws → ws.length = ks.length → Ok K F M H → Rps K F vs ds → Rps K F xs zs → T ds zs M P → Kt K F P Q → codeAny (model pg w) A (.call (.ref f) ⟨us, ks.zip ws⟩) (CR CX0 outer pg w H s Q E0) s
/-- a def's body keeps the promise T of what stands in its parameters -/
def BodyOk (pg : Program) (w : World) (K : PySem.W.Frag) (mg : Str → Option Value) (base : Heap) (gd : Bool) (k : Nat) (f : Addr) (qual : Str) (body : List Stmt) (scope : Scope) (N ps : List Str) (T : Tr) : Prop :=
  ∀ (cdv : Value) (A : Around) (outer : List PySem.Env) (s : Shared) (H : Hp) (ds : List D) (M : Mem) (P : D → Mem → Prop), (gd = true → A.guards = some []) → Room k (A.deeper (PyProof.Rows.envOfC qual scope s.heap.objs.size f cdv)) → T ds M P →
      GX (cxOf CX0 pg w K mg base N qual scope f cdv A outer s H E0).nox Gh.triv body (startD (N.length - ps.length) ds) M ⟨fun _ M' => P .non M', P, fun _ _ => False, fun _ _ => False⟩
section
variable {pg : Program} {w : World} {K : PySem.W.Frag} {mg : Str → Option Value} {base : Heap} {x qual : Str} {params : Arguments} {body : List Stmt} {scope : Scope} {kws : List (Str × V)} {f : Addr} {fd : FuncData} {N pn : List Str} {pv : Str} {k : Nat} {T : Tr} {gd : Bool}
end

section
variable {X : Cx} {J : Gh} {e a b c o : Expr} {es : List Expr} {ρ ρ' : DEnv} {M M' : Mem} {F F' H H' : Hp} {σ : L2.St} {B : Bd} {K : PySem.W.Frag} {pos p apos cpos : Pos} {x : Str} {P : D → Mem → Prop}
def kD : Key → D
  | .inl i => .int i
  | .inr z => .str z
theorem kD_rp {k : Key} {v : V} (r : Rp K F v (kD k)) : v = kV k := by cases k <;> (cases r; rfl)
def mergeD (kvs more : List (Key × D)) : List (Key × D) := more.foldl (fun acc kv => putD acc kv.1 kv.2) kvs
theorem Rks.merge : ∀ {more : List (Key × V)} {rs : List (Key × D)} {vs : List (Key × V)} {ds : List (Key × D)}, Rks K F more rs → Rks K F vs ds → Rks K F (mergeK vs more) (mergeD ds rs)
  | _, _, _, _, .nil, q => q
  | _, _, _, _, .cons (x := kk) h r, q => by have := Rks.merge r (q.put (k := kk) h); exact this
/-- pairs of keys and values -/
def prsD (kvs : List (Key × D)) : List D := kvs.map fun kv => .tup [kD kv.1, kv.2]
theorem prs_of : ∀ {kvs : List (Key × D)} {vs : List V}, Rps K F vs (prsD kvs) → ∃ (ps : List Addr) (ws : List (Key × V)), vs = ps.map V.ref ∧ Paired (fun q kv => SqT K F q [kV kv.1, kv.2]) ps ws ∧ Rks K F ws kvs
  | [], _, .nil => ⟨[], [], rfl, .nil, .nil⟩
  | kv :: kvs, _, .cons h r => by
    obtain ⟨ps, ws, e1, e2, e3⟩ := prs_of r
    cases h with
    | tup h1 r1 =>
      cases r1 with
      | cons a r1 =>
        cases r1 with
        | cons b r1 =>
          cases r1
          rw [kD_rp a] at h1
          exact ⟨_ :: ps, (kv.1, _) :: ws, by rw [e1]; rfl, .cons h1 e2, .cons b e3⟩
theorem paired_mono {R R' : Addr → (Key × V) → Prop} (i : ∀ a b, R a b → R' a b) : ∀ {xs : List Addr} {ys : List (Key × V)}, Paired R xs ys → Paired R' xs ys
  | _, _, .nil => .nil
  | _, _, .cons h r => .cons (i _ _ h) (paired_mono i r)
/-- the values of pairs, as they stand -/
def PW (h : Heap) (prs : List (Key × Value)) (Ts : List Addr) : Prop := True
/-- dict(xs) of a tuple of pairs whose object is known -/
theorem call_dictT (hcalm : X.calm = true) : CallR X (.type "dict") (fun xs H Q => ∃ (a : Addr) (ob : Obj) (ps : List Addr) (kvs : List (Key × V)), xs = [.ref a] ∧ (H a = some (.frz ob (.tup (ps.map V.ref))) ∨ (X.K.lookup a = some ob ∧ ps = [] ∧ ∃ n, ob.data = .seq #[] n)) ∧ ob.cls = .type "tuple" ∧ ob.dict = none ∧ Paired (fun p kv => SqT X.K H p [kV kv.1, kv.2]) ps kvs ∧
    ∀ p, H p = none → Q (.ref p) (upd H p (.dK (mergeK [] kvs)))) := by
  intro pins s σ H xs us Q I r q
  obtain ⟨a, ob, ps, kvs, ex, hq, hoc, hod, hp, q⟩ := q
  subst ex
  obtain ⟨u, eu, rx⟩ := vals1 r
  subst eu
  cases rx
  obtain ⟨hget, hz, n, hdat⟩ : s.heap.get? a = some ob ∧ ps.length ≤ sizeLine ∧ ∃ n, ob.data = .seq (ps.map Value.ref).toArray n := by
    rcases hq with hq | ⟨hq, rfl, n, hn⟩
    · obtain ⟨hget, hz, its, rv, ⟨o2, ho2, hc2, n, hdat⟩⟩ := I.hok a _ hq
      rw [hget] at ho2
      cases ho2
      have ei := refs_at rv
      subst ei
      rw [List.length_map] at hz
      exact ⟨hget, hz, n, hdat⟩
    · exact ⟨I.kIn a ob hq, Nat.zero_le _, n, hn⟩
  obtain ⟨prs, rel, hl, hpr⟩ := pairs_of I hp
  have hpr' : ∀ (j : Nat) (q : Key × Value), prs[j]? = some q → ∃ u : Value, (ps.map Value.ref).toArray[j]? = some (.ref (ps.getD j 0)) ∧ IsTup s.heap (ps.getD j 0) #[u, q.2] ∧ keyIs q.1 u = true := by
    intro j q e
    obtain ⟨b, u, e1, e2, e3⟩ := hpr j q e
    have eb : ps.getD j 0 = b := by rw [List.getD_eq_getElem?_getD, e1]; rfl
    exact ⟨u, by simp [e1, eb], by rw [eb]; exact e2, e3⟩
  have key : ∃ pv : List (Value × Value), pv.length = prs.length ∧ ∀ (j : Nat) (kk v : Value), pv[j]? = some (kk, v) → ∃ kx, prs[j]? = some (kx, v) ∧ keyIs kx kk = true ∧ IsTup s.heap (ps.getD j 0) #[kk, v] := by
    have : ∀ (L : List (Key × Value)) (i0 : Nat), (∀ j q, L[j]? = some q → ∃ u : Value, IsTup s.heap (ps.getD (i0 + j) 0) #[u, q.2] ∧ keyIs q.1 u = true) →
        ∃ pv : List (Value × Value), pv.length = L.length ∧ ∀ (j : Nat) (kk v : Value), pv[j]? = some (kk, v) → ∃ kx, L[j]? = some (kx, v) ∧ keyIs kx kk = true ∧ IsTup s.heap (ps.getD (i0 + j) 0) #[kk, v] := by
      intro L
      induction L with
      | nil => exact fun i0 _ => ⟨[], rfl, fun j kk v e => by simp at e⟩
      | cons q L ih =>
        intro i0 h
        obtain ⟨u, h1, h2⟩ := h 0 q rfl
        obtain ⟨pv, h3, h4⟩ := ih (i0 + 1) fun j q' e => by
          obtain ⟨u, h5, h6⟩ := h (j + 1) q' (by simpa using e)
          exact ⟨u, by rw [show i0 + 1 + j = i0 + (j + 1) by omega]; exact h5, h6⟩
        refine ⟨(u, q.2) :: pv, by simp [h3], fun j kk v e => ?_⟩
        cases j with
        | zero =>
          simp only [List.getElem?_cons_zero, Option.some.injEq, Prod.mk.injEq] at e
          obtain ⟨rfl, rfl⟩ := e
          exact ⟨q.1, rfl, h2, h1⟩
        | succ j =>
          obtain ⟨kx, h5, h6, h7⟩ := h4 j kk v (by simpa using e)
          exact ⟨kx, by simpa using h5, h6, by rw [show i0 + (j + 1) = i0 + 1 + j by omega]; exact h7⟩
    obtain ⟨pv, h1, h2⟩ := this prs 0 fun j q e => by
      obtain ⟨u, _, h3, h4⟩ := hpr' j q e
      exact ⟨u, by rw [Nat.zero_add]; exact h3, h4⟩
    exact ⟨pv, h1, fun j kk v e => by
      obtain ⟨kx, h3, h4, h5⟩ := h2 j kk v e
      exact ⟨kx, h3, h4, by rw [Nat.zero_add] at h5; exact h5⟩⟩
  obtain ⟨pv, hpl, hpv⟩ := key
  refine PySem.call_dict_pairs (knd := mixKind X.prog X.w) (kvs := prs) (PairArg.tuple a (ps.map Value.ref).toArray (fun j => ps.getD j 0) pv) (I.ok.hd hcalm) ⟨⟨ob, n, hget, hoc, hod, hdat⟩, ⟨by simp [hpl, hl], fun j kk v e => ?_⟩⟩ ⟨by rw [hpl], fun i kk v e => ?_⟩ (by rw [hpl, hl]; exact hz) fun h' tk hd' k => ?_
  · obtain ⟨kx, h1, h2, h3⟩ := hpv j kk v e
    obtain ⟨_, h4, _⟩ := hpr' j _ h1
    exact ⟨h4, .inl h3⟩
  · obtain ⟨kx, h1, h2, h3⟩ := hpv i kk v e
    exact ⟨kx, h1, h2⟩
  · have hm : (s.heap.objs.size == sysModules) = false := beq_eq_false_iff_ne.mpr (Nat.ne_of_gt I.big)
    have hlen : (mergeK [] kvs).length ≤ sizeLine := by
      refine Nat.le_trans (length_mergeK kvs []) ?_
      rw [List.length_nil, Nat.zero_add, rel.length, hl]
      exact hz
    exact ⟨.ref s.heap.objs.size, upd H s.heap.objs.size (.dK (mergeK [] kvs)), I.laid (t' := tk) (fun b o => k b o (by simp)) (Nat.le_refl _) (show ObjOk X.prog X.w _ _ _ (.dK (mergeK [] kvs)) from ⟨hlen, hm, merged [] prs, KV.merge rel .nil, hd'⟩), rfl, q _ (I.hok.fresh (Nat.le_refl _))⟩
theorem bb_dict : bootBuiltins "dict" = some (.type "dict") := by decide +kernel
theorem cd_dict {kvs : List (Key × D)} (hc : X.calm = true) (q : P (.dct (mergeD [] kvs)) M) : CD X (.type "dict") [.stup (prsD kvs)] M P :=
  ⟨_, call_dictT hc, fun F H vs Q o r k => by
    obtain ⟨pk, hpk⟩ : ∃ pk, pk = prsD kvs := ⟨_, rfl⟩
    rw [← hpk] at r
    cases r with
    | cons h1 r =>
      cases r
      cases h1 with
      | stupK h2 hc =>
        cases kvs with
        | cons kv kvs => cases hpk
        | nil =>
          exact ⟨_, _, [], [], rfl, .inr ⟨h2, rfl, hc.2.2⟩, hc.1, hc.2.1, .nil, fun l hl => k _ _ _ _ _ q (o.fixSame hl) (o.fix hl) (.dct upd_same .nil)⟩
      | stup h2 hc r2 =>
        subst hpk
        obtain ⟨ps, ws, e1, e2, e3⟩ := prs_of r2
        subst e1
        exact ⟨_, _, ps, ws, rfl, .inl (o.ex _ _ h2), hc.1, hc.2, paired_mono (fun _ _ z => same_t o.ex z) e2, fun l hl => k _ _ _ _ _ q (o.fixSame hl) (o.fix hl) (.dct upd_same ((e3.merge .nil).mono (o.fixSame hl)))⟩⟩
/-- d.get(k, x) -/
theorem ex_dget2 (hu : X.A.units + 64 < cLine) (h : EX X J o ρ M fun d M1 => ∃ kvs, d = .dct kvs ∧ EX X J a ρ M1 fun y M2 => ∃ k, y = kD k ∧ EX X J b ρ M2 fun z M3 => P ((valD kvs k).getD z) M3)
    (hbase : attributeBase o "get" X.env (eval o X.env) = eval o X.env := by rfl)
    (few : ((backTo cpos (starEach [a, b] X.env)).all (fun x => !x.1) && (backToKw cpos (keywordEach [] X.env)).all (fun x => x.1.isSome) && decide ([a, b].length + ([] : List Keyword).length + (if ([] : List Keyword).isEmpty then 0 else 1) < 30)) = true := by rfl)
    (line : (apos.endLine == cpos.line) = true := by rfl) (trees : backTo cpos (starEach [a, b] X.env) = [(false, eval a X.env), (false, eval b X.env)] := by rfl) :
    EX X J (.Call (.Attribute o "get" apos) [a, b] [] cpos) ρ M P :=
  ex_of (pe_dget2 (by omega) pe_any pe_any pe_any ⟨hbase, few, line, trees⟩) fun F σ H Q st kt => h.go st fun d v M1 F1 H1 q1 e1 o1 r1 => by
    obtain ⟨kvs, rfl, q1⟩ := q1
    cases r1 with
    | dct h1 r1 =>
      refine ⟨_, rfl, .inl ⟨_, .inl (o1.ex _ _ h1)⟩, q1.go (st.to e1 o1) fun y w M2 F2 H2 q2 e2 o2 r2 => ?_⟩
      obtain ⟨kk, rfl, q2⟩ := q2
      have := kD_rp r2
      subst this
      refine q2.go (st.to (e1.trans e2) o2) fun z u M3 F3 H3 q3 e3 o3 r3 => ?_
      refine ⟨_, .inl ⟨_, kk, .inl (o3.ex _ _ (e3 _ _ (e2 _ _ h1))), rfl, rfl⟩, ?_⟩
      rcases ((r1.mono e2).mono e3).get (k := kk) with ⟨g1, g2⟩ | ⟨v', d', g1, g2, g3⟩
      · rw [g1]; rw [g2] at q3
        exact kt _ _ _ _ _ q3 ((e1.trans e2).trans e3) o3 r3
      · rw [g1]; rw [g2] at q3
        exact kt _ _ _ _ _ q3 ((e1.trans e2).trans e3) o3 g3
/-- xs.pop(i) -/
theorem Rps.eraseIdx : ∀ {v : List V} {d : List D} (i : Nat), Rps K F v d → Rps K F (v.eraseIdx i) (d.eraseIdx i)
  | _, _, _, .nil => .nil
  | _, _, 0, .cons _ r => r
  | _, _, i + 1, .cons h r => .cons h (Rps.eraseIdx i r)
theorem ex_pop (h : EX X J o ρ M fun d M1 => ∃ q ds1, d = .adr q ∧ M1 q = some (.lst ds1) ∧ AX X J [e] ρ M1 fun ys M2 => ∃ i ds f y n, ys = [.int i] ∧ At M2 q (.lst ds) f ∧ (-(2 ^ 63) ≤ i ∧ i < 2 ^ 63) ∧ ixN ds.length i = some n ∧ ds[n]? = some y ∧ P y (f (.lst (ds.eraseIdx n))))
    (hbase : attributeBase o "pop" X.env (eval o X.env) = eval o X.env := by rfl)
    (few : ((backTo cpos (starEach [e] X.env)).all (fun x => !x.1) && (backToKw cpos (keywordEach [] X.env)).all (fun x => x.1.isSome) && decide ([e].length + ([] : List Keyword).length + (if ([] : List Keyword).isEmpty then 0 else 1) < 30)) = true := by rfl)
    (line : (apos.endLine == cpos.line) = true := by rfl) (hst : starEach [e] X.env = (false, eval e X.env) :: starEach [] X.env := by rfl) (hpl : (backTo cpos (starEach [] X.env)).any (·.1) = false := by rfl) :
    EX X J (.Call (.Attribute o "pop" apos) [e] [] cpos) ρ M P :=
  ex_of (pe_bm PySem.F.plainAttrs_list PySem.F.slot_list_pop PySem.F.type_list_pop mt_popAt pe_any pa_any hbase few line hst hpl) fun F σ H Q st k => h.go st fun d v M1 F1 H1 q1 e1 o1 r1 => by
    obtain ⟨q, ds1, rfl, hq, q2⟩ := q1
    cases r1
    obtain ⟨_, xs1, hx1, _⟩ := o1.mt _ _ hq
    refine ⟨tyV_lst hx1, q2.go (st.to e1 o1) fun ys vs M2 F2 H2 q3 e2 o2 r2 => ?_⟩
    obtain ⟨i, ds, f, y, n, rfl, hA, hi, hn, hy, q3⟩ := q3
    cases r2 with
    | cons r2 r3 =>
      cases r3
      cases r2
      obtain ⟨_, xs, hx, rx⟩ := o2.mt _ _ hA.get
      obtain ⟨w, hw, rw'⟩ := rx.get hy
      refine ⟨q, xs, i, n, w, rfl, rfl, hx, hi.1, hi.2, (ixN_seq (by rw [rx.length]; exact hn)).1, hw, k _ _ _ _ _ q3 (e1.trans e2) ?_ rw'⟩
      rw [hA.set]
      exact o2.set (o := .lst (xs.eraseIdx n)) hA.get ⟨_, upd_same, rx.eraseIdx n⟩
/-- *e among the arguments -/
theorem ax_star {PA' : List D → Mem → Prop} {sp : Pos} (h : EX X J e ρ M fun d M1 => ∃ ds, Sq M1 d ds ∧ AX X J es ρ M1 fun ds2 M2 => PA' (ds ++ ds2) M2) (hs : starEach (.Starred e sp :: es) X.env = (true, eval e X.env) :: starEach es X.env := by rfl) : AX X J (.Starred e sp :: es) ρ M PA' :=
  ax_of (pa_star pe_any pa_any hs) fun F σ H Q st k => h.go st fun d v M1 F1 H1 q1 e1 o1 r1 => by
    obtain ⟨ds, sq, q1⟩ := q1
    obtain ⟨q, xs, rfl, hx, rx⟩ := sq.get o1 r1
    exact ⟨q, xs, rfl, hx.symm, q1.go (st.to e1 o1) fun ds2 vs M2 F2 H2 q2 e2 o2 r2 => k _ _ M2 F2 H2 q2 (e1.trans e2) o2 ((rx.mono e2).append r2)⟩
end
end DX
namespace DX
open PySem PySem.Spec L2
section
variable {X : Cx} {J : Gh} {e a b c o : Expr} {es : List Expr} {ρ ρ' : DEnv} {M M' : Mem} {F F' H H' : Hp} {σ : St} {B : Bd} {K : PySem.W.Frag} {pos p apos cpos : Pos} {x : Str} {P : D → Mem → Prop}
/-- list(range(..)) that may change -/
theorem ex_lstRM {p' pos' : Pos} (hc : X.calm = true) (hmt : X.mg "list" = none) (hm : X.mg "range" = none) (h : AX X J (a :: es) ρ M fun ds M1 => ∃ i c n, Rg ds i c n ∧ ∀ q, M1 q = none → P (.adr q) (up M1 q (.lst (rngC i c n)))) (hgt : Gl X "list" := by rfl) (hg : Gl X "range" := by rfl)
    (hs : starEach (a :: es) X.env = (false, eval a X.env) :: starEach es X.env := by rfl) (hpl : (backTo pos (starEach es X.env)).any (·.1) = false := by rfl) (na : starEach [.Call (.Name "range" p) (a :: es) [] pos] X.env = (false, eval (.Call (.Name "range" p) (a :: es) [] pos) X.env) :: starEach [] X.env := by rfl) :
    EX X J (.Call (.Name "list" p') [.Call (.Name "range" p) (a :: es) [] pos] [] pos') ρ M P :=
  ex_of (pe_lstRc hc hgt hmt (prc hg hm pa_any hs hpl) na) fun F σ H Q st k => h.go st fun ds vs M1 F1 H1 q e1 o1 r1 => by
    obtain ⟨i, c, n, hr, q⟩ := q
    obtain ⟨i', j, c', n', h1, h2, h3, rfl, rfl, rfl⟩ := hr.raw r1
    exact ⟨i', j, c', n', h1, h2, h3, fun l hl => k _ _ _ _ _ (q l (o1.nn hl).2) e1 (o1.lay hl ⟨_, upd_same, rps_rgC⟩) (.adr l)⟩
variable {scope : Scope} {tg iter elt : Expr} {ifs : List Expr}
def lcR (n : Nat) (t : Nat → Bool) (g : Nat → D) : List D := ((List.range n).filter t).map g
end
end DX
namespace DX
open PySem PySem.Spec L2
def keyP : Key → PyData
  | .inl i => .int i
  | .inr x => .str x
mutual
def pydR : D → PyData
  | .bl b => .bool b
  | .int i => .int i
  | .str x => .str x
  | .tup ds => .tuple (pydRs ds)
  | .lst ds => .list (pydRs ds)
  | .dct kvs => .dict (pydRk kvs)
  | _ => .none
def pydRs : List D → List PyData
  | [] => []
  | d :: ds => pydR d :: pydRs ds
def pydRk : List (Key × D) → List (PyData × PyData)
  | [] => []
  | (k, d) :: ds => (keyP k, pydR d) :: pydRk ds
end
mutual
/-- what may be shown -/
def shw : D → Bool
  | .non => true
  | .bl _ => true
  | .int _ => true
  | .str _ => true
  | .tup ds => shws ds
  | .lst ds => shws ds
  | .dct kvs => shwk kvs
  | _ => false
def shws : List D → Bool
  | [] => true
  | d :: ds => shw d && shws ds
def shwk : List (Key × D) → Bool
  | [] => true
  | (_, d) :: ds => shw d && shwk ds
end
/-- the text that repr gives -/
def txtR (d : D) : Str := (pydR d).shown
/-- all that repr asks of the data (to be shown by computation or by rules below) -/
structure ROk (d : D) : Prop where
  sh : shw d = true
  ok : (pydR d).showable = true
  dp : (pydR d).depth ≤ 60
  sz : (pydR d).shown.length ≤ 16000000
section
variable {X : Cx} {pins : List (Addr × Obj)} {σ : L2.St} {F H : Hp} {s : Shared}
theorem sys_dict (hS : sysB X.K = true) (I : L2.Inv X pins σ H s) : ∃ o, s.heap.get? sysModules = some o ∧ o.cls = .type "dict" := by
  unfold sysB at hS
  cases e : X.K.lookup sysModules with
  | none => rw [e] at hS; cases hS
  | some o =>
    rw [e] at hS
    exact ⟨o, I.kIn _ _ e, of_decide_eq_true hS⟩
theorem not_sys (hS : sysB X.K = true) (I : L2.Inv X pins σ H s) {a : Addr} {o : Obj} (h : s.heap.get? a = some o) (hc : o.cls = .type "list") : sysModules ≠ a := by
  intro e
  obtain ⟨o2, h2, h3⟩ := sys_dict hS I
  rw [e, h] at h2
  cases h2
  rw [hc] at h3
  exact absurd h3 (by decide)
theorem pairs_reads {h : Heap} {vs : List (Key × Value)} {es : List DictEntry} (ps : Pairs (mixKind X.prog X.w) es vs) : ReadsAll h (es.map (·.key)) (vs.map fun q => keyP q.1) [] ∧ es.map (·.val) = vs.map (·.2) := by
  induction ps with
  | nil => exact ⟨.nil, rfl⟩
  | @cons e kv es kvs hk hv _ ih =>
    refine ⟨?_, by rw [List.map_cons, List.map_cons, ih.2, hv]⟩
    rw [List.map_cons, List.map_cons]
    have hr : Reads h e.key (keyP kv.1) [] := by
      rcases keyIs_shape (show keyIs kv.1 e.key = true from hk) with ⟨i, t, e1, e2⟩ | ⟨x, t, e1, e2⟩
      · rw [e1, e2]; exact .int i t
      · rw [e1, e2]; exact .str x t
    exact ReadsAll.cons (as := []) (bs := []) hr ih.1
mutual
theorem Rp.reads (hS : sysB X.K = true) (I : L2.Inv X pins σ H s) (hs : Same F H) : ∀ (d : D) (v : V) (u : Value), shw d = true → Rp X.K F v d → RelV v u → ∃ as, Reads s.heap u (pydR d) as ∧ sysModules ∉ as
  | .non, _, _, _, .non, r => by cases r; exact ⟨_, .none, by simp⟩
  | .bl b, _, _, _, .bl _, r => by cases r; exact ⟨_, .bool b, by simp⟩
  | .int i, _, _, _, .int _, r => by obtain ⟨t, rfl⟩ := r; exact ⟨_, .int i t, by simp⟩
  | .str x, _, _, _, .str _, r => by obtain ⟨t, rfl⟩ := r; exact ⟨_, .str x t, by simp⟩
  | .lst ds, _, _, h, .lst h1 h2, r => by
    cases r
    obtain ⟨its, rv, ⟨o, n, ho, hc, _, hd⟩, _⟩ := I.list (SqL.of (hs _ _ h1))
    obtain ⟨as, hr, hn⟩ := Rps.readsAll hS I hs ds _ its (by rw [shw] at h; exact h) h2 rv
    have q := Reads.list ho hc hd hr
    rw [show pydR (.lst ds) = .list (pydRs ds) by rw [pydR]]
    exact ⟨_, q, by rw [List.mem_cons, not_or]; exact ⟨not_sys hS I ho hc, hn⟩⟩
  | .tup ds, _, _, h, .tup h1 h2, r => by
    cases r
    obtain ⟨its, rv, ⟨o, ho, hc, n, hd⟩, _⟩ := I.tuple (same_t hs h1)
    obtain ⟨as, hr, hn⟩ := Rps.readsAll hS I hs ds _ its (by rw [shw] at h; exact h) h2 rv
    have q := Reads.tuple ho hc hd hr
    rw [show pydR (.tup ds) = .tuple (pydRs ds) by rw [pydR]]
    exact ⟨_, q, hn⟩
  | .dct kvs, _, _, h, .dct h1 h2, r => by
    cases r
    obtain ⟨_, hne, vs, rel, o, es, ep, ho, hx, hd, _, hp, _⟩ := I.hok _ _ (hs _ _ h1)
    obtain ⟨k1, k2⟩ := pairs_reads (h := s.heap) hp
    obtain ⟨bs, hr, hn⟩ := Rks.readsAll hS I hs kvs _ vs (by rw [shw] at h; exact h) h2 rel
    have e : (pydRk kvs).map (·.1) = vs.map fun q => keyP q.1 := hr.2
    have k3 : ReadsAll s.heap (es.toList.map (·.key)) ((pydRk kvs).map (·.1)) [] := by rw [e]; exact k1
    have k4 : ReadsAll s.heap (es.toList.map (·.val)) ((pydRk kvs).map (·.2)) bs := by rw [k2]; exact hr.1
    have q := Reads.dict (as := []) ho hx.1 hd k3 k4
    rw [show pydR (.dct kvs) = .dict (pydRk kvs) by rw [pydR]]
    refine ⟨_, q, ?_⟩
    simp only [List.append_nil, List.cons_append, List.nil_append, List.mem_cons, not_or]
    exact ⟨fun z => by rw [← z] at hne; simp at hne, hn⟩
  | .adr _, _, _, h, _, _ => by simp [shw] at h
  | .ty _, _, _, h, _, _ => by simp [shw] at h
  | .scr _, _, _, h, _, _ => by simp [shw] at h
  | .ins _ _, _, _, h, _, _ => by simp [shw] at h
  | .stup _, _, _, h, _, _ => by simp [shw] at h
theorem Rps.readsAll (hS : sysB X.K = true) (I : L2.Inv X pins σ H s) (hs : Same F H) : ∀ (ds : List D) (vs : List V) (us : List Value), shws ds = true → Rps X.K F vs ds → Vals vs us → ∃ as, ReadsAll s.heap us (pydRs ds) as ∧ sysModules ∉ as
  | [], _, _, _, .nil, .nil => ⟨_, .nil, by simp⟩
  | d :: ds, _, _, h, .cons h1 h2, .cons r1 r2 => by
    rw [shws, Bool.and_eq_true] at h
    obtain ⟨as, q1, n1⟩ := Rp.reads hS I hs d _ _ h.1 h1 r1
    obtain ⟨bs, q2, n2⟩ := Rps.readsAll hS I hs ds _ _ h.2 h2 r2
    exact ⟨_, ReadsAll.cons q1 q2, by rw [List.mem_append, not_or]; exact ⟨n1, n2⟩⟩
theorem Rks.readsAll (hS : sysB X.K = true) (I : L2.Inv X pins σ H s) (hs : Same F H) : ∀ (ds : List (Key × D)) (vs : List (Key × V)) (us : List (Key × Value)), shwk ds = true → Rks X.K F vs ds → KV vs us →
    ∃ as, (ReadsAll s.heap (us.map (·.2)) ((pydRk ds).map (·.2)) as ∧ (pydRk ds).map (·.1) = us.map fun q => keyP q.1) ∧ sysModules ∉ as
  | [], _, _, _, .nil, .nil => ⟨_, ⟨.nil, rfl⟩, by simp⟩
  | (k, d) :: ds, _, _, h, .cons h1 h2, .cons (b := q) r1 r2 => by
    rw [shwk, Bool.and_eq_true] at h
    obtain ⟨as, q1, n1⟩ := Rp.reads hS I hs d _ _ h.1 h1 r1.2
    obtain ⟨bs, ⟨q2, q3⟩, n2⟩ := Rks.readsAll hS I hs ds _ _ h.2 h2 r2
    refine ⟨_, ⟨ReadsAll.cons q1 q2, ?_⟩, by rw [List.mem_append, not_or]; exact ⟨n1, n2⟩⟩
    rw [pydRk, List.map_cons, List.map_cons, q3, ← r1.1]
end
end
section
variable {X : Cx} {J : Gh} {e a b c o : Expr} {es : List Expr} {ρ ρ' : DEnv} {M M' : Mem} {F F' H H' : Hp} {σ : L2.St} {B : Bd} {K : PySem.W.Frag} {pos p apos cpos : Pos} {x : Str} {P : D → Mem → Prop}
theorem repr_allR {pins : List (Addr × Obj)} {s : Shared} {d : D} {v : V} {u : Value} {Q : Value → Shared → Prop} (hS : sysB X.K = true) (hg : X.A.guards = some []) (hu : X.A.units + 64 < cLine) (I : L2.Inv X pins σ H s) (hs : Same F H) (hR : ROk d) (h : Rp X.K F v d) (r : RelV v u)
    (k : ∀ t s', L2.Inv X pins σ H s' → Q (.str (txtR d) t) s') : wpAny (model X.prog X.w) X.A (call (.builtin "repr") [u]) Q X.xe s := by
  have hz : (pydR d).shown.length ≤ sizeLine := by rw [sizeLine_eq]; have := hR.sz; omega
  have hd := hR.dp
  unfold txtR at k
  obtain ⟨as, rd, hn⟩ := Rp.reads hS I hs d v u hR.sh h r
  have big : ∀ a, u = .ref a → wpAny (model X.prog X.w) X.A (call (.builtin "repr") [u]) Q X.xe s := by
    rintro a rfl
    exact repr_of_reads' rd hR.ok (fun _ => hn) hg (by omega) (fun b ob z => z) (fun h' t tk hk => k t _ (I.kept hk)) hz
  have hsh := hR.ok
  clear rd hn
  cases h with
  | non => cases r; exact PySem.P.repr_of_none (by simpa [pydR, PyData.shown] using k _ _ (I.tok _))
  | bl b => cases r; exact PySem.P.repr_of_bool (by simpa [pydR, PyData.shown] using k _ _ (I.tok _))
  | int i =>
    obtain ⟨t, rfl⟩ := r
    exact PySem.P.repr_of_int (by simpa [pydR, PyData.showable] using hsh) (by simpa [pydR, PyData.shown] using k _ _ (I.tok _))
  | str y =>
    obtain ⟨t, rfl⟩ := r
    exact PySem.P.repr_of_str (by simpa [pydR, PyData.shown] using k _ _ (I.tok _)) (by simpa [pydR, PyData.shown] using hz)
  | lst _ _ => exact big _ r
  | tup _ _ => exact big _ r
  | dct _ _ => exact big _ r
  | adr _ => have := hR.sh; simp [shw] at this
  | ty _ => have := hR.sh; simp [shw] at this
  | scr _ => have := hR.sh; simp [shw] at this
  | ins _ _ => have := hR.sh; simp [shw] at this
  | stup _ _ _ => have := hR.sh; simp [shw] at this
  | stupK _ _ => have := hR.sh; simp [shw] at this
  | exn _ _ _ => have := hR.sh; simp [shw] at this
theorem call_reprR (hS : sysB X.K = true) (hg : X.A.guards = some []) (hu : X.A.units + 64 < cLine) : CallR X (.builtin "repr") (fun xs H Q => ∃ F v d, xs = [v] ∧ Same F H ∧ ROk d ∧ Rp X.K F v d ∧ Q (.str (txtR d)) H) := by
  intro pins s σ H xs us Q I r h
  obtain ⟨F, v, d, rfl, hs, hR, h, q⟩ := h
  obtain ⟨u, rfl, rx⟩ := vals1 r
  exact repr_allR hS hg hu I hs hR h rx fun t s' I' => ⟨.str (txtR d), H, I', ⟨t, rfl⟩, q⟩
theorem cd_reprR {d : D} (hS : sysB X.K = true) (hg : X.A.guards = some []) (hu : X.A.units + 64 < cLine) (hR : ROk d) (q : P (.str (txtR d)) M) : CD X (.builtin "repr") [d] M P :=
  ⟨_, call_reprR hS hg hu, fun F H vs Q o r k => by
    cases r with
    | cons h1 r =>
      cases r
      exact ⟨F, _, d, rfl, o.ex, hR, h1, k.here q o (.str _)⟩⟩
theorem call_list_text (hc : X.calm = true) : CallR X (.type "list") (fun xs H Q => ∃ z : Str, xs = [.str z] ∧ z.length ≤ 1000000 ∧ ∀ l, H l = none → Q (.ref l) (upd H l (.lst (z.cps.toList.map fun c => V.str ⟨#[c]⟩)))) := by
  intro pins s σ H xs us Q I r h
  obtain ⟨z, rfl, hz, q⟩ := h
  obtain ⟨u, rfl, rx⟩ := vals1 r
  obtain ⟨t, rfl⟩ := rx
  have hz2 : z.cps.size ≤ 1000000 := hz
  refine call_list_str (I.ok.hd hc) z t (hn := by rw [sizeLine_eq]; omega) fun h' tk acc c' kp e hi => ?_
  refine ⟨.ref s.heap.objs.size, _, I.laid (t' := tk) kp (Nat.le_refl _) (show ObjOk X.prog X.w _ h' _ (.lst (z.cps.toList.map fun c => V.str ⟨#[c]⟩)) from ⟨?_, acc.toList, c', ?_, e⟩), rfl, q _ (I.hok.fresh (Nat.le_refl _))⟩
  · rw [List.length_map, Array.length_toList, sizeLine_eq]; omega
  · have e1 : acc.toList.length = z.cps.toList.length := by rw [Array.length_toList, Array.length_toList]; exact hi.1
    have e2 : (z.cps.toList.map fun c => V.str ⟨#[c]⟩) = (List.range acc.toList.length).map fun j => V.str ⟨#[z.cps.toList.getD j 0]⟩ := by
      rw [e1]
      apply List.ext_getElem
      · simp
      · intro j h1 h2
        rw [List.length_map] at h1
        rw [List.getElem_map, List.getElem_map, List.getElem_range, List.getD_eq_getElem?_getD, List.getElem?_eq_getElem h1]; rfl
    rw [e2]
    refine vals_of_get _ _ fun j w hj => ?_
    obtain ⟨c, u, h1, h2⟩ := hi.2 j w (by rw [← hj, Array.getElem?_toList])
    have : z.cps.toList[j]? = some c := by rw [Array.getElem?_toList]; exact h1
    rw [List.getD_eq_getElem?_getD, this]
    exact ⟨u, h2⟩
theorem cd_listS {z : Str} (hc : X.calm = true) (hz : z.cps.toList.length ≤ 1000000) (q : P (.lst (signs z)) M) : CD X (.type "list") [.str z] M P :=
  ⟨_, call_list_text hc, fun F H vs Q o r k => by
    cases r with
    | cons h1 r =>
      cases r
      cases h1
      refine ⟨z, rfl, ?_, fun l hl => ?_⟩
      · show z.cps.size ≤ _
        rw [← Array.length_toList]; exact hz
      · refine k _ _ _ _ _ q (o.fixSame hl) (o.fix hl) (.lst upd_same ?_)
        have e : (z.cps.toList.map fun c => V.str ⟨#[c]⟩) = (z.cps.toList.map fun c => (⟨#[c]⟩ : Str)).map V.str := by rw [List.map_map]; rfl
        have e2 : signs z = (z.cps.toList.map fun c => (⟨#[c]⟩ : Str)).map D.str := by unfold signs; rw [List.map_map]; rfl
        rw [e, e2]
        exact Rps.ofStrs⟩
end
end DX
namespace DX
open PySem PySem.Spec L2 SX
def lookS (fa : List He.Fa) (fn : List He.DefD) (ex : PySem.W.Frag → Bool) (n : Nat) (g : Addr → Option Obj) : He.AlD × Bool :=
  (He.obsD fa fn (He.frG g (sysModules :: He.asD g n)), ex (He.frG g (sysModules :: He.asD g n)))
def hookS (n : Nat) (fa : List He.Fa) (fn : List He.DefD) (ex : PySem.W.Frag → Bool) : PySem.W.Hook where
  α := He.AlD × Bool
  obs := fun s => lookS fa fn ex n s.heap.get?
  val := fun _ => (He.valD fn, true)
  says := fun _ h => ∃ K : PySem.W.Frag, K.In h ∧ He.SaysD fa fn K ∧ ex K = true
  of := fun _ _ e => ⟨_, He.frG_in, congrArg Prod.fst e, congrArg Prod.snd e⟩
  keeps := fun _ _ _ ⟨K, hK, c, d⟩ k => ⟨K, PySem.W.Frag.In.keeps hK k, c, d⟩
section
variable {X : Cx} {M : Mem} {P : D → Mem → Prop}
theorem op_mul_str : OpR X (binaryOp .Mult) (fun x y H Q => ∃ z n, x = .str z ∧ y = .int n ∧ z.length ≤ 1000 ∧ -(2 ^ 62) ≤ n ∧ n ≤ 10000 ∧ Q (.str (Txt.mul z n)) H) := by
  intro pins s σ H x y v u Q I rx ry h
  obtain ⟨z, n, rfl, rfl, hz, h1, h2, q⟩ := h
  obtain ⟨t, rfl⟩ := rx
  obtain ⟨t', rfl⟩ := ry
  exact PySem.SB.mul (PyProof.Rows.mulOk_of 1000 10000 hz h2 (by omega) (by decide) (by decide)) fun t' k => ⟨.str (Txt.mul z n), H, I.tok _, ⟨_, rfl⟩, q⟩
end
mutual
theorem good_R : ∀ {d : D}, good d → pydR d = pyd d ∧ shw d = true
  | .non, _ => ⟨by simp [pydR, pyd], by simp [shw]⟩
  | .bl _, _ => ⟨by simp [pydR, pyd], by simp [shw]⟩
  | .int _, _ => ⟨by simp [pydR, pyd], by simp [shw]⟩
  | .str _, _ => ⟨by simp [pydR, pyd], by simp [shw]⟩
  | .tup ds, h => by have := goods_R (ds := ds) h; exact ⟨by rw [pydR, pyd, this.1], by rw [shw, this.2]⟩
  | .lst ds, h => by have := goods_R (ds := ds) h; exact ⟨by rw [pydR, pyd, this.1], by rw [shw, this.2]⟩
theorem goods_R : ∀ {ds : List D}, goods ds → pydRs ds = pyds ds ∧ shws ds = true
  | [], _ => ⟨by simp [pydRs, pyds], by simp [shws]⟩
  | d :: ds, h => by
    have h1 := good_R h.1
    have h2 := goods_R h.2
    exact ⟨by rw [pydRs, pyds, h1.1, h2.1], by rw [shws, h1.2, h2.2]; rfl⟩
end
def tx (l : List Nat) : Prop := ∀ c ∈ l, c < 128
theorem tx_ok {l : List Nat} (h : tx l) : PyData.strOk (S l) = true := by
  show (l.toArray).all (· < 0x110000) = true
  rw [Array.all_eq_true_iff_forall_mem]
  intro c hc
  have := h c (by simpa using hc)
  simp; omega
/-- a text, if it is one, is short and of such signs -/
def txz (d : D) : Prop := ∀ z, d = .str z → tx z.cps.toList ∧ z.cps.toList.length ≤ 1000
/-- values that laws hand in: shown, asked for their kind, short if texts -/
structure Th (d : D) : Prop where
  pl : plain d = true
  ro : ROk d
  tz : txz d
end DX
namespace DX
open PySem PySem.Spec L2 StX PyProof.Rows
theorem looks_fills {K : PySem.W.Frag} {M : Model} {h : Heap} {C f : Addr} {nm : String} (X : K.In h) (hsf : PySem.W.selfFirst K C = true) (hs : PySem.W.findIn K (.ref C) (dunder nm) = some (some (.ref f))) : PySem.W.Looks M h (fillsNumberSlot (.ref C) nm) true := by
  unfold PySem.W.selfFirst at hsf
  cases hc : PySem.W.clsIn K C with
  | none => rw [hc] at hsf; cases hsf
  | some cd =>
    rw [hc] at hsf
    have hh : cd.mro.head? = some (.ref C) := by simpa using hsf
    cases hm : cd.mro with
    | nil => rw [hm] at hh; cases hh
    | cons v rest =>
      rw [hm] at hh
      cases hh
      have L1 : PySem.W.Looks M h (mroOf (.ref C)) (.ref C :: rest) := by
        show PySem.W.Looks M h (classData C >>= fun d => pure d.mro) _
        exact (PySem.W.looks_clsIn X hc).andThen (by rw [hm]; exact PySem.W.Looks.now)
      show PySem.W.Looks M h (mroOf (.ref C) >>= fun l => l.anyM _) true
      refine L1.andThen ?_
      rw [List.anyM]
      refine PySem.W.Looks.andThen (a := true) ?_ PySem.W.Looks.now
      show PySem.W.Looks M h ([dunder nm, dunderR nm].anyM _) true
      rw [List.anyM]
      refine PySem.W.Looks.andThen (a := true) ?_ PySem.W.Looks.now
      refine (PySem.W.looks_findIn X hs).andThen ?_
      exact PySem.W.Looks.now
section
variable {prog : Program} {w : World} {A : Around} {E : Value → Shared → Prop} {s : Shared} {K : PySem.W.Frag} {x y C f : Addr} {ox oy : Obj} {od od' : Option Obj}
theorem special_K {name : Str} {args : List Value} {Q : Option Value → Shared → Prop} (X : K.In s.heap) (I : PySem.W.InstAt s.heap x ox C od) (hs : PySem.W.findIn K (.ref C) name = some (some (.ref f))) (hf : PySem.W.isFn K (.ref f) = true)
    (h : wpAny (model prog w) A (call (.ref f) (.ref x :: args)) (fun v => Q (some v)) E s) : wpAny (model prog w) A (callSpecial? (.ref x) name args) Q E s := by
  unfold callSpecial? specialOf
  refine wpAny_bind (wpAny_bind (I.type.here ((PySem.W.looks_findIn X hs).here ?_)))
  refine wpAny_holding (wpAny_bind ((PySem.W.bind_fn X _ (beq_iff_eq.mp hf)).here ?_))
  exact wpAny_bind (wpAny_mono h (fun v s' h' => wpAny_pure h') fun _ _ h' => h')
theorem add_own {Q : Value → Shared → Prop} (X : K.In s.heap) (I : PySem.W.InstAt s.heap x ox C od) (J : PySem.W.InstAt s.heap y oy C od') (hsf : PySem.W.selfFirst K C = true) (hs : PySem.W.findIn K (.ref C) "__add__" = some (some (.ref f))) (hf : PySem.W.isFn K (.ref f) = true)
    (h : wpAny (model prog w) A (call (.ref f) [.ref x, .ref y]) (fun v s' => v ≠ .notImplemented ∧ Q v s') E s) : wpAny (model prog w) A (binaryOp .Add (.ref x) (.ref y)) Q E s := by
  have one : wpAny (model prog w) A (binaryOp1 "add" (.ref x) (.ref y)) (fun r s' => ∃ v, r = some v ∧ Q v s') E s := by
    simp only [binaryOp1]
    refine wpAny_bind (I.type.here (wpAny_bind (J.type.here (wpAny_bind ((looks_fills (nm := "add") X hsf (by exact hs)).here ?_)))))
    simp only [beq_self_eq_true, if_true, pure_bind, Bool.and_false, Bool.false_and, Bool.false_eq_true, if_false]
    refine wpAny_bind ?_
    unfold tryMethod
    refine wpAny_bind (special_K (args := [.ref y]) X I (by exact hs) hf (wpAny_mono h (fun v s' h' => ?_) fun _ _ h' => h'))
    obtain ⟨h1, h2⟩ := h'
    cases v <;> first | exact absurd rfl h1 | exact wpAny_pure (wpAny_pure ⟨_, rfl, h2⟩)
  show wpAny (model prog w) A (holding [.ref x, .ref y] _) Q E s
  refine wpAny_holding (wpAny_bind (wpAny_mono one (fun r s' z => ?_) fun _ _ h' => h'))
  obtain ⟨v, rfl, hq⟩ := z
  exact wpAny_pure hq
end

section
variable {K : PySem.W.Frag} {F H : Hp} {M : Mem}
end
section
variable {X : Cx} {J : Gh} {e a b c o : Expr} {es : List Expr} {ρ ρ' : DEnv} {M M' : Mem} {F F' H H' : Hp} {σ : L2.St} {B : Bd} {K : PySem.W.Frag} {pos p apos cpos : Pos} {x f : Str} {P : D → Mem → Prop}
/-- e.f, a field -/
theorem ex_fld (h : EX X J e ρ M fun d M1 => ∃ C gs y, Is M1 d C gs ∧ Cls X.K C ∧ NoAttr X.K C f ∧ gs.lookup f = some y ∧ P y M1) (hb : attributeBase e f X.env (eval e X.env) = eval e X.env := by rfl) : EX X J (.Attribute e f pos) ρ M P :=
  ex_of (pe_fld pe_any hb) fun F σ H Q st k => h.go st fun d v M1 F1 H1 q1 e1 o1 r1 => by
    obtain ⟨C, gs, y, hi, hc, hn, hl, q⟩ := q1
    obtain ⟨a, dx, fs, rfl, h1, h2⟩ := hi.get o1 r1
    rcases h2.look (f := f) with ⟨_, h3⟩ | ⟨w, d', h3, h4, h5⟩
    · rw [h3] at hl; cases hl
    · rw [h4] at hl; cases hl
      exact ⟨a, C, dx, fs, w, rfl, h1, hc, hn, h3, k _ _ _ _ _ q e1 o1 h5⟩
/-- e.f, a constant of the class -/
theorem ex_con (h : EX X J e ρ M fun d M1 => ∃ C gs v u y, Is M1 d C gs ∧ Cls X.K C ∧ Con X.K C f v u ∧ gs.lookup f = none ∧ (∀ F, Rp X.K F v y) ∧ P y M1) (hb : attributeBase e f X.env (eval e X.env) = eval e X.env := by rfl) : EX X J (.Attribute e f pos) ρ M P :=
  ex_of (pe_con pe_any hb) fun F σ H Q st k => h.go st fun d v M1 F1 H1 q1 e1 o1 r1 => by
    obtain ⟨C, gs, v, u, y, hi, hc, hk, hl, hy, q⟩ := q1
    obtain ⟨a, dx, fs, rfl, h1, h2⟩ := hi.get o1 r1
    rcases h2.look (f := f) with ⟨h3, _⟩ | ⟨w, d', h3, h4, h5⟩
    · exact ⟨a, C, dx, fs, v, u, rfl, h1, hc, hk, h3, k _ _ _ _ _ q e1 o1 (hy _)⟩
    · rw [h4] at hl; cases hl
/-- o.f = e, o an instance that may change -/
theorem g1_setFld {fp : Pos} (h : EX X J e ρ M fun y M1 => EX X J o ρ M1 fun d M2 => ∃ q C gs, d = .adr q ∧ M2 q = some (.ins C gs) ∧ Cls X.K C ∧ NoAttr X.K C f ∧ gs.length < 1000 ∧ B.nx ρ (up M2 q (.ins C (putG f y gs))))
    (hs : swapsWith e (some (.Attribute o f fp)) pos.line X.env = pure false := by rfl) : G1 X J (.Assign [.Attribute o f fp] e pos) ρ M B :=
  g1_of (ps_fld pe_any pe_any hs) fun F σ H E s k => h.go s fun y v M1 F1 H1 q1 e1 o1 r1 => q1.go (s.to e1 o1) fun d w M2 F2 H2 q2 e2 o2 r2 => by
    obtain ⟨q, C, gs, rfl, hq, hc, hn, hl, q3⟩ := q2
    cases r2
    obtain ⟨_, dx, fs, h1, h2⟩ := o2.mt _ _ hq
    refine ⟨q, C, dx, fs, rfl, h1, hc, hn, by rw [h2.length]; exact hl, k.nx F2 _ _ _ _ q3 (e1.trans e2) ((s.en.mono e1).mono e2) ?_⟩
    exact o2.set (o := .ins C dx (putF f v fs)) hq ⟨dx, _, upd_same, h2.put (r1.mono e2)⟩
/-- what is made by C(..), told of its values -/
def TMk (C : Addr) (T : TrV) (ds : List D) (M : Mem) (P : D → Mem → Prop) : Prop := ∀ a, M a = none → T (.adr a :: ds) [] (up M a (.ins C [])) fun d M2 => d = .non ∧ ∃ gs M0, M0 a = none ∧ M2 = up M0 a (.ins C gs) ∧ P (.ins C gs) M0
theorem evalArgs_two {Mo : Model} {A : Around} {E : Value → Shared → Prop} {s : Shared} {fv : Value} {u1 u2 : Bool × Sem Value} {rest : List (Bool × Sem Value)} {Q : Args → Shared → Prop}
    (h : wpAny Mo A (spliced (u1 :: u2 :: rest)) (fun vs s' => Q ⟨vs, []⟩ s') E s) : wpAny Mo A (evalArgs fv true (u1 :: u2 :: rest) []) Q E s := by
  unfold evalArgs
  obtain ⟨b1, x1⟩ := u1
  cases b1 <;>
  · show wpAny Mo A (spliced _ >>= _) Q E s
    refine wpAny_bind (wpAny_mono h (fun vs s' h' => ?_) fun _ _ x => x)
    refine wpAny_holding ?_
    exact wpAny_bind (wpAny_pure (wpAny_bind (wpAny_pure (wpAny_pure h'))))
def SpV (K : PySem.W.Frag) (T : TrV) : Sp := fun vs H Q _ => ∃ F M ds P, Ok K F M H ∧ Rps K F vs ds ∧ T ds [] M P ∧ Kt K F P Q
end
end DX
namespace DX
open PySem PySem.Spec L2
theorem prB_prop {K : PySem.W.Frag} {C f q : Str} (h : prB K C f q = true) : PropOf K (He.ga K C) f (prAd K C f).1 (prAd K C f).2 := by
  obtain ⟨h1, h⟩ := He.ba h
  obtain ⟨h2, h⟩ := He.ba h
  obtain ⟨h3, h⟩ := He.ba h
  obtain ⟨h4, h⟩ := He.ba h
  refine ⟨He.eqO_ok h1, He.eqO_ok h2, of_decide_eq_true h3, ?_⟩
  cases e : PySem.W.recIn K (prAd K C f).1 "property" with
  | none => rw [e] at h4; cases h4
  | some l =>
    cases l with
    | nil => rw [e] at h4; cases h4
    | cons v r =>
      rw [e] at h4
      rw [of_decide_eq_true h4]
      exact ⟨r, rfl⟩
theorem prB_fun {K : PySem.W.Frag} {C f : Str} {name qual : Str} {params : Arguments} {body : List Stmt} {scope : Scope} (h : prB K C f qual = true) (e : fnWA K (prAd K C f).2 = some (name, qual, params, .stmts body, scope, mainGlobals, [], builtinsNs)) :
    ∃ fd, FunD K name qual params body scope [] [] (prAd K C f).2 fd := by
  obtain ⟨_, h⟩ := He.ba h
  obtain ⟨_, h⟩ := He.ba h
  obtain ⟨_, h⟩ := He.ba h
  obtain ⟨_, h⟩ := He.ba h
  obtain ⟨kp, c2⟩ := He.ba h
  unfold fnWA at e
  cases q : K.lookup (prAd K C f).2 with
  | none => rw [q] at c2; cases c2
  | some o =>
    obtain ⟨oc, od, dt, osl⟩ := o
    rw [q] at c2 e
    cases dt with
    | func fd =>
      obtain ⟨n1, n2, n3, n4, n5, n6, n7, n8, n9, n10, n11, n12, n13, n14, n15⟩ := fd
      have e2 : (some (n1, n2, n3, n4, n5, n6, n7, n15) : He.FnW) = some (name, qual, params, .stmts body, scope, mainGlobals, [], builtinsNs) := e
      simp only [Option.some.injEq, Prod.mk.injEq] at e2
      obtain ⟨h1, h2, h3, h4, h5, h6, h7, h8⟩ := e2
      subst h1 h2 h3 h4 h5 h6 h7 h8
      have c3 : (PySem.W.codeIn K n13 _ && (He.dflB K n8 [] && He.kwdB K n9 [])) = true := c2
      obtain ⟨k1, k2⟩ := He.ba c3
      obtain ⟨k3, k4⟩ := He.ba k2
      exact ⟨_, ⟨oc, od, n8, n9, n10, n11, n12, n13, n14, osl, rfl, q, k1, He.dflB_ok k3, He.kwdB_ok k4⟩, kp⟩
    | _ => cases c2
structure PSetOf (K : PySem.W.Frag) (C : Addr) (f : Str) (p g : Addr) : Prop where
  tak : PySem.W.takerIn K C f = some (some (.ref p))
  ty : PySem.W.typeIn K (.ref p) = some (.type "property")
  rec_ : ∃ a rest, PySem.W.recIn K p "property" = some (a :: .ref g :: rest)
def lookP (fa : List He.Fa) (fn : List He.DefD) (pr : List PrD) (ex : PySem.W.Frag → Bool) (n : Nat) (g : Addr → Option Obj) : He.AlD × Bool × List He.FnW := obsP fa fn pr ex (He.frG g (cStatics :: sysModules :: He.asD g n))
def hookP (n : Nat) (fa : List He.Fa) (fn : List He.DefD) (pr : List PrD) (ex : PySem.W.Frag → Bool) : PySem.W.Hook where
  α := He.AlD × Bool × List He.FnW
  obs := fun s => lookP fa fn pr ex n s.heap.get?
  val := fun _ => (He.valD fn, true, pr.map PrD.val)
  says := fun _ h => ∃ K : PySem.W.Frag, K.In h ∧ SaysP fa fn pr ex K
  of := fun _ _ e => ⟨_, He.frG_in, e⟩
  keeps := fun _ _ _ ⟨K, hK, c⟩ k => ⟨K, PySem.W.Frag.In.keeps hK k, c⟩
section
variable {fa : List He.Fa} {fn : List He.DefD} {pr : List PrD} {ex : PySem.W.Frag → Bool} {K : PySem.W.Frag}
theorem SaysP.exx (c : SaysP fa fn pr ex K) : ex K = true := (He.ba (congrArg (fun z => z.2.1) c)).1
theorem SaysP.wr_ (c : SaysP fa fn pr ex K) (i : Nat) {d : PrD} (h : pr[i]? = some d) : d.okB K = true ∧ d.fw K = d.val := by
  have c2 := (He.ba (congrArg (fun z => z.2.1) c)).2
  have e : pr.map (fun d => d.fw K) = pr.map PrD.val := congrArg (fun z => z.2.2) c
  have e2 : (pr.map fun d => d.fw K)[i]? = (pr.map PrD.val)[i]? := by rw [e]
  rw [List.getElem?_map, List.getElem?_map, h] at e2
  exact ⟨List.all_eq_true.mp c2 d (List.mem_of_getElem? h), Option.some.inj e2⟩
theorem SaysP.pr_ (c : SaysP fa fn pr ex K) (i : Nat) {d : PrD} (h : pr[i]? = some d := by rfl) (hc : d.kd = 0 := by rfl) : PropOf K (He.ga K d.cls) d.nm (prAd K d.cls d.nm).1 (prAd K d.cls d.nm).2 ∧ ∃ fd, FunD K d.nm d.qual d.params d.body d.scope [] [] (prAd K d.cls d.nm).2 fd := by
  obtain ⟨hb, e⟩ := c.wr_ i h
  unfold PrD.okB at hb
  unfold PrD.fw PrD.ad at e
  rw [hc] at hb e
  exact ⟨prB_prop hb, prB_fun hb e⟩
end
theorem conB_ok {K : PySem.W.Frag} {C f : Str} {i : Int} (h : conB K C f i = true) (hc : PySem.W.copiedNames.contains f = false) : ∃ u, Con K (He.ga K C) f (.int i) u := by
  unfold conB at h
  cases e : PySem.W.findIn K (.ref (He.ga K C)) f with
  | none => rw [e] at h; cases h
  | some v =>
    cases v with
    | none => rw [e] at h; cases h
    | some w =>
      rw [e] at h
      cases w with
      | int j t =>
        obtain ⟨h1, h2⟩ := He.ba h
        have := of_decide_eq_true h1
        subst this
        exact ⟨_, e, ⟨t, rfl⟩, He.eqO_ok h2, hc⟩
      | _ => cases h
theorem callB_ok {K : PySem.W.Frag} {C : Str} (h : callB K C = true) : StX.CallO K (He.ga K C) (He.ma K (He.ga K C) "__call__") := by
  obtain ⟨h1, h⟩ := He.ba h
  obtain ⟨h2, h3⟩ := He.ba h
  exact ⟨He.eqO_ok h1, h2, h3⟩
end DX
namespace DX
open PySem PySem.Spec L2
open SX
section
variable {X : Cx} {J : Gh} {M : Mem} {P : D → Mem → Prop} {ρ : DEnv} {o e : Expr} {pos apos cpos : Pos}
theorem inV_ints {i : Int} : ∀ ns : List Int, inV (.int i) (ns.map V.int) = decide (i ∈ ns)
  | [] => by simp [inV]
  | y :: ns => by
    have ih := inV_ints (i := i) ns
    unfold inV at ih ⊢
    rw [List.map_cons, List.any_cons, ih]
    show (y == i || decide (i ∈ ns)) = decide (i ∈ y :: ns)
    by_cases h : y = i
    · subst h; simp
    · have h' : ¬ i = y := fun z => h z.symm
      simp [h, h']
theorem od_inC {y z : Str} {c : Nat} (e : y = ⟨#[c]⟩) (p : P (.bl (decide (c ∈ z.cps.toList))) M) : OD X (compareOp .In) (.str y) (.str z) M P :=
  ⟨_, op_in_sign, fun F H v u Q o rx ry k => by
    subst e
    cases rx; cases ry
    exact ⟨c, z, rfl, rfl, k.here p o (.bl _)⟩⟩
theorem od_notInC {y z : Str} {c : Nat} (e : y = ⟨#[c]⟩) (p : P (.bl (!decide (c ∈ z.cps.toList))) M) : OD X (compareOp .NotIn) (.str y) (.str z) M P :=
  ⟨_, op_notIn_sign, fun F H v u Q o rx ry k => by
    subst e
    cases rx; cases ry
    exact ⟨c, z, rfl, rfl, k.here p o (.bl _)⟩⟩
theorem cd_maxL {d : D} {ds : List D} {ns : List Int} (hc : X.calm = true) (s : Sl M d ds) (e : ds = ns.map D.int) (hn : 0 < ns.length) (q : ∀ m, m ∈ ns → (∀ y, y ∈ ns → y ≤ m) → P (.int m) M) : CD X (.builtin "max") [d] M P :=
  ⟨_, cr_max hc, fun F H vs Q o r k => by
    subst e
    cases r with
    | cons h1 r =>
      cases r
      obtain ⟨a, xs, rfl, h2, r2⟩ := s.get o h1
      exact ⟨a, ns, rfl, by rw [← r2.ints]; exact SqL.of h2, hn, fun m h3 h4 => k.here (q m h3 h4) o (.int _)⟩⟩
end
end DX
namespace EnT
open PySem PySem.Spec L2 PyProof.Rows
theorem meets1 {v : Value} {o : Obj} {Hh : Heap → Prop} (B : Begins v o Hh) :
    Meets (Builtin.«enumerate.__new__» ⟨[.type "enumerate", v], []⟩) (fun _ R s => Hh s.heap ∧
      R (.ok (.ret (.ref (s.heap.push o).objs.size))) { s with heap := (s.heap.push o).push { cls := .type "enumerate", data := .fields #[.none, .bool false, .ref s.heap.objs.size, rawInt 0, .none, .none] } }) :=
  .of_wp fun prog w A R s h => by
    obtain ⟨hp, g, d, tk, os⟩ := s
    obtain ⟨h1, h⟩ := h
    have hsub := sub_enumerate
    have it1 : ∀ {A' : Around} {E : Value → Shared → Prop} {Q : Value → Shared → Prop}, Q (.ref hp.objs.size) ⟨hp.push o, g, d, tk, os⟩ → wpAny (model prog w) A' (pyIter v) Q E ⟨hp, g, d, tk, os⟩ :=
      fun q => B.iter prog w _ _ ⟨hp, g, d, tk, os⟩ _ h1 q
    wp_walk using it1
    refine wpAny_stack_any fun st => wpAny_pure ?_
    split
    · rename_i c _ _ _ _ _
      by_cases z : (c == Value.type "enumerate") = true
      · rw [z]; wp_walk using it1
        exact ⟨_, rfl, h⟩
      · rw [Bool.not_eq_true] at z
        rw [z]; wp_walk using it1
        exact ⟨_, rfl, h⟩
    · wp_walk using it1
      exact ⟨_, rfl, h⟩
section
variable {prog : Program} {w : World} {A : Around} {E : Value → Shared → Prop} {s : Shared}
theorem begins1 {v : Value} {o : Obj} {Hh : Heap → Prop} {Q : Value → Shared → Prop} (B : Begins v o Hh) (h1 : Hh s.heap)
    (h : ∀ h', IsEnum h' (s.heap.objs.size + 1) s.heap.objs.size 0 .none → h'.get? s.heap.objs.size = some o → h'.objs.size = s.heap.objs.size + 2 →
      (∀ b ob, s.heap.get? b = some ob → h'.get? b = some ob) → Q (.ref (s.heap.objs.size + 1)) { s with heap := h' }) : wpAny (model prog w) A (call (.type "enumerate") [v]) Q E s := by
  refine callType_new F.called_enumerate (by decide) (F.typeCall_enumerate_1 _) (F.newCall_enumerate_1 _) (fun obj => F.args_object_init_2 obj _) F.entry_enumerate_new (meets1 B) ⟨h1, ?_⟩
  have n1 : (s.heap.push o).objs.size = s.heap.objs.size + 1 := Heap.size_push ..
  have g0 := Heap.get?_push_size (s.heap.push o) (o := { cls := .type "enumerate", data := .fields #[.none, .bool false, .ref s.heap.objs.size, rawInt 0, .none, .none] }) rfl
  show _ ∧ _
  rw [n1] at g0 ⊢
  exact ⟨⟨_, g0, rfl⟩, h _ g0 (Heap.get?_push_of_some _ (Heap.get?_push_size _ B.free)) (by rw [Heap.size_push, n1]) fun b ob z => Heap.get?_push_of_some _ (Heap.get?_push_of_some _ z)⟩
end
/-- the tuple at a, its items in new pairs -/
def IteT (K : PySem.W.Frag) (a : Addr) : It :=
  ⟨fun i H => ∃ (xs : List V) (x : V), SqT K H a xs ∧ xs[i]? = some x, fun i H v H' => ∃ T x, v = .ref T ∧ H T = none ∧ H' = upd H T (.tup [.int (i : Nat), x]) ∧ ∀ xs, SqT K H a xs → xs[i]? = some x, fun i H => ∃ xs : List V, SqT K H a xs ∧ xs.length ≤ i⟩
theorem turnT {P : Program} {w : World} {K : PySem.W.Frag} {elts : List Expr} {kk : Nat} {tpos : Pos} (a e it : Addr) (hai : a ≠ it) (hae : a ≠ e) :
    Turn P w K (.Tuple elts kk tpos) (IteT K a) [e, it] e (fun i h => (∃ old, IsEnum h e it ((i : Nat) : Int) old) ∧ h.IsTupleIter it a i ∧ e ≠ it) where
  mem := by simp
  obj := fun i h st b hb => by
    obtain ⟨⟨old, he⟩, ⟨o, ho, hc, hd⟩, _⟩ := st
    rcases (show b = e ∨ b = it by simpa using hb) with z | z
    · rw [z]; exact ⟨_, he, fun v q => nomatch q⟩
    · rw [z]; exact ⟨o, ho, fun v q => by rw [hd] at q; cases q⟩
  keep := fun i h h' st k => let ⟨⟨old, he⟩, hi, hne⟩ := st; ⟨⟨old, k e (by simp) _ he⟩, hi.at fun o q => k it (by simp) o q, hne⟩
  item := by
    intro X hP hw hK hc i pins s σ H E I hf st hg
    subst hP hw hK
    obtain ⟨⟨old, he⟩, hit, hne⟩ := st
    obtain ⟨xs, x, hq, hx⟩ := hg
    obtain ⟨its, rv, p, hz⟩ := I.tuple hq
    obtain ⟨u, hu, ru⟩ := rv.get hx
    have hel : e < s.heap.objs.size := Heap.lt_size he
    have hil : it < s.heap.objs.size := by obtain ⟨_, q, _⟩ := hit; exact Heap.lt_size q
    have hin : i < its.toArray.size := by simpa using (List.getElem?_eq_some_iff.mp hu).1
    have D := Draws.tuple (prog := X.prog) (w := X.w) (A := X.A.in1) (show X.A.in1.handled = none from I.ok.hd hc) it a hai its.toArray
    refine wpAny_pyNext_enum_itemD D he ⟨hit, p⟩ hin hne (by simp [hne, Ne.symm hae]) fun y h' tk hy ho hst hT hsz hk => ?_
    obtain rfl : u = y := Option.some.inj ((by simpa using hu : its.toArray[i]? = some u).symm.trans hy)
    refine ⟨_, rfl, wpAny_letOwnedTupleGo_enum (s := { s with heap := h', toks := tk + 1 }) ho fun h'' he' sb => ?_⟩
    have hT2 : h''.get? s.heap.objs.size = some { cls := .type "tuple", data := .seq #[.int i tk, u] } := (sb.2 _ (Nat.ne_of_gt hel)).trans hT
    have new : ObjOk X.prog X.w (upd H s.heap.objs.size (.tup [.int (i : Nat), x])) h'' s.heap.objs.size (.tup [.int (i : Nat), x]) :=
      ⟨by show 2 ≤ sizeLine; decide, [.int i tk, u], .cons ⟨_, rfl⟩ (.cons ru .nil), ⟨_, hT2, rfl, _, rfl⟩⟩
    have I1 : Inv X pins σ (upd H s.heap.objs.size (.tup [.int (i : Nat), x])) { s with heap := h'', toks := tk + 1 } :=
      I.turnedNew (ch := [e, it]) (fun b ob hb q => (sb.2 b (fun z => hb (by simp [z]))).trans (hk b ob (fun z => hb (by simp [z])) (fun z => hb (by simp [z])) q)) hf (Nat.le_refl _) new
    refine ⟨.ref s.heap.objs.size, _, I1, rfl, ⟨_, x, rfl, I.hok.fresh (Nat.le_refl _), rfl, fun ys hy => by rw [I.tuple_inj hy hq]; exact hx⟩, ⟨⟨u, ?_⟩, hst.1.at fun o q => (sb.2 it (Ne.symm hne)).trans q, hne⟩, fun b hb => ?_⟩
    · rw [show ((i + 1 : Nat) : Int) = (i : Int) + 1 by omega]; exact he'
    · have hb' : b < s.heap.objs.size := by
        rcases (show b = e ∨ b = it by simpa using hb) with z | z
        · rw [z]; exact hel
        · rw [z]; exact hil
      rw [upd_ne (Nat.ne_of_lt hb')]
      exact (hf b hb).1
  done := by
    intro X hP hw hK hc i pins s σ H E I hf st hg
    subst hP hw hK
    obtain ⟨⟨old, he⟩, hit, hne⟩ := st
    obtain ⟨xs, hq, hx⟩ := hg
    obtain ⟨its, rv, p, hz⟩ := I.tuple hq
    obtain ⟨f0, f1, f2, f3, f4, f5⟩ := hf it (by simp)
    have hl := rv.length
    have hT : s.TypeIs (.ref e) "enumerate" := ⟨_, he, rfl⟩
    unfold pyNext
    refine wpAny_bind (wpAny_attempt (wpAny_callSpecial?_slot (name := Str.ofString "__next__") hT F.slot_enumerate_next
      (wpAny_call_entry F.slot_enumerate_next hT F.entry_enumerate_next ?_ (F.args_enumerate_next_1 _))))
    show wpAny _ _ (field (.ref e) 2 >>= _) _ _ _
    refine wpAny_bind (wpAny_field he rfl (x := .ref it) rfl ?_)
    refine wpAny_bind (wpAny_nextOf_tuple_end (I.ok.hd hc) hit p (by simp; omega) fun h' y eb hy => ?_)
    obtain ⟨o, ho, hc'⟩ := hy
    refine wpAny_bind (wpAny_isInstance (T := "StopIteration") (b := true) ⟨o, ho, hc'⟩ isSubtype_stop ?_)
    exact wpAny_pure ⟨rfl, I.turned (t' := s.toks) (fun b o hb q => eb b o hb q) f0 f1 f3 f4 f5⟩
  self := fun A i s Q E st h => let ⟨⟨_, he⟩, _⟩ := st; wpAny_pyIter_enum he h
def iEnumT (K : PySem.W.Frag) (ta : TA) : TI := fun σ H R => ta σ H fun vs H1 => ∃ a xs, vs = [.ref a] ∧ SqT K H1 a xs ∧ R (IteT K a) H1
theorem pi_enumT {X : Cx} {e : Expr} {ta : TA} {p pos tpos : Pos} {elts : List Expr} {kk : Nat} (hg : Gl X "enumerate") (hm : X.mg "enumerate" = none) (ha : PA X [e] ta) (hs : starEach [e] X.env = [(false, eval e X.env)] := by rfl) :
    PI X (.Tuple elts kk tpos) (.Call (.Name "enumerate" p) [e] [] pos) (iEnumT X.K ta) := by
  refine ⟨fun pins s σ H R I h => ?_⟩
  refine Call_ (ld_blt I hg hm boot_enumerate (PyProof.Rows.callWith_type1 (thn (ha.run pos pins s σ H _ I h) fun us s1 ⟨vs, H1, I1, r1, q1⟩ => ?_) hs rfl))
  obtain ⟨a, xs, ex, hq, q⟩ := q1
  subst ex
  cases r1 with
  | cons r rr =>
    cases rr
    cases r
    obtain ⟨its, rv, p', hz⟩ := I1.tuple hq
    have hal : a < s1.heap.objs.size := p'.lt
    refine begins1 (begins_tuple a its.toArray) p' fun h' he hit hsz hk => wpAny_pyIter_enum he ?_
    have I2 : Inv X pins σ H1 { s1 with heap := h' } := I1.kept (t' := s1.toks) hk
    refine ⟨s1.heap.objs.size + 1, [s1.heap.objs.size + 1, s1.heap.objs.size], _, _, H1, rfl, I2, turnT a (s1.heap.objs.size + 1) s1.heap.objs.size (Nat.ne_of_lt hal) (Nat.ne_of_lt (Nat.lt_succ_of_lt hal)), ⟨⟨.none, he⟩, ⟨_, hit, rfl, rfl⟩, Nat.succ_ne_self _⟩, fun b hb => ?_, q⟩
    have hle : s1.heap.objs.size ≤ b := by
      rcases (show b = s1.heap.objs.size + 1 ∨ b = s1.heap.objs.size by simpa using hb) with z | z
      · rw [z]; exact Nat.le_add_right _ _
      · rw [z]; exact Nat.le_refl _
    exact I1.fpOk hle (I1.hok.fresh hle)
end EnT
namespace DX
open PySem PySem.Spec L2
variable {X : Cx} {J : Gh} {M : Mem} {F : Hp} {K : PySem.W.Frag} {ρ : DEnv} {a : Expr} {p pos : Pos}
def tIfT (t ta tb : TT) : TT := fun σ H Q => t σ H fun c H1 => if c = true then ta σ H1 Q else tb σ H1 Q
theorem wk_enumT {q : Addr} {xs : List V} {ds : List D} (h : SqT K F q xs) (hx : Rps K F xs ds) : Wk K F (EnT.IteT K q) (enumD 0 ds) := by
  refine ⟨fun i H hi s => ?_, fun H s => ⟨xs, same_t s h, by rw [enumD_len, hx.length]; exact Nat.le_refl _⟩, fun i d H x H' F1 M hd s o y => ?_⟩
  · rw [enumD_len] at hi
    have h1 : i < xs.length := by rw [hx.length]; omega
    exact ⟨xs, xs[i], same_t s h, by simp [h1]⟩
  · obtain ⟨T, v1, rfl, h2, rfl, h4⟩ := y
    obtain ⟨d1, g1, rfl⟩ := enumD_at hd
    obtain ⟨w1, k1, k2⟩ := hx.get g1
    have e1 := h4 xs (same_t o.ex (same_t s h))
    rw [k1] at e1; cases e1
    rw [Nat.zero_add]
    exact pair_new (x := d1) (y := d1) o h2 (.int _) (k2.mono s)
theorem ix_enumT {elts : List Expr} {kk : Nat} {tpos : Pos} {P : List D → Mem → Prop} (hm : X.mg "enumerate" = none) (h : AX X J [a] ρ M fun ws M1 => ∃ ds, ws = [.tup ds] ∧ P (enumD 0 ds) M1) (hg : Gl X "enumerate" := by rfl)
    (hs : starEach [a] X.env = [(false, eval a X.env)] := by rfl) : IX X J (.Tuple elts kk tpos) (.Call (.Name "enumerate" p) [a] [] pos) ρ M P :=
  ix_of (EnT.pi_enumT hg hm pa_any hs) fun F σ H R s k => h.go s fun ws vs M1 F1 H1 q e1 o1 r1 => by
    obtain ⟨ds, rfl, q⟩ := q
    cases r1 with
    | cons h1 r1 =>
      cases r1
      cases h1 with
      | tup h1 k1 => exact ⟨_, _, rfl, same_t o1.ex h1, k _ _ M1 F1 H1 q e1 o1 (wk_enumT h1 k1)⟩
open PyProof.Rows in
theorem call_tuple_text (hc : X.calm = true) : CallR X (.type "tuple") (fun xs H Q => ∃ z : Str, xs = [.str z] ∧ z.length ≤ 1000000 ∧ ∀ l, H l = none → Q (.ref l) (upd H l (.tup (z.cps.toList.map fun c => V.str ⟨#[c]⟩)))) := by
  intro pins s σ H xs us Q I r h
  obtain ⟨z, rfl, hz, q⟩ := h
  obtain ⟨u, rfl, rx⟩ := vals1 r
  obtain ⟨t, rfl⟩ := rx
  have hz2 : z.cps.size ≤ 1000000 := hz
  refine call_tuple_str (I.ok.hd hc) z t (fun h' tk acc kp hi => ?_) (hsz := by rw [sizeLine_eq]; omega)
  have I1 : Inv X pins σ H { s with heap := h', toks := tk } := I.kept (t' := tk) kp
  have e1 : acc.toList.length = z.cps.toList.length := by rw [Array.length_toList, Array.length_toList]; exact hi.1
  have hv : Vals (z.cps.toList.map fun c => V.str ⟨#[c]⟩) acc.toList := by
    have e2 : (z.cps.toList.map fun c => V.str ⟨#[c]⟩) = (List.range acc.toList.length).map fun j => V.str ⟨#[z.cps.toList.getD j 0]⟩ := by
      rw [e1]
      apply List.ext_getElem
      · simp
      · intro j h1 h2
        rw [List.length_map] at h1
        rw [List.getElem_map, List.getElem_map, List.getElem_range, List.getD_eq_getElem?_getD, List.getElem?_eq_getElem h1]; rfl
    rw [e2]
    refine vals_of_get _ _ fun j w hj => ?_
    obtain ⟨c, u, h1, h2⟩ := hi.2 j w (by rw [← hj, Array.getElem?_toList])
    have : z.cps.toList[j]? = some c := by rw [Array.getElem?_toList]; exact h1
    rw [List.getD_eq_getElem?_getD, this]
    exact ⟨u, h2⟩
  have I2 : Inv X pins σ (upd H h'.objs.size (.tup (z.cps.toList.map fun c => V.str ⟨#[c]⟩))) { s with heap := h'.push { cls := .type "tuple", data := .seq acc }, toks := tk } :=
    I1.laid (t' := tk) (fun b o e => Heap.get?_push_of_some _ e) (Nat.le_refl _) (show ObjOk X.prog X.w _ _ _ (.tup (z.cps.toList.map fun c => V.str ⟨#[c]⟩)) from ⟨by rw [List.length_map, Array.length_toList, sizeLine_eq]; omega, acc.toList, hv, IsTup.new _ _⟩)
  exact ⟨.ref h'.objs.size, _, I2, rfl, q _ (I1.hok.fresh (Nat.le_refl _))⟩
theorem cd_tupleS {P : D → Mem → Prop} {z : Str} (hc : X.calm = true) (hz : z.cps.toList.length ≤ 1000000) (q : P (.tup (signs z)) M) : CD X (.type "tuple") [.str z] M P :=
  ⟨_, call_tuple_text hc, fun F H vs Q o r k => by
    cases r with
    | cons h1 r =>
      cases r
      cases h1
      refine ⟨z, rfl, ?_, fun l hl => ?_⟩
      · show z.cps.size ≤ _
        rw [← Array.length_toList]; exact hz
      · refine k _ _ _ _ _ q (o.fixSame hl) (o.fix hl) (.tup (SqT.of upd_same) ?_)
        have e : (z.cps.toList.map fun c => V.str ⟨#[c]⟩) = (z.cps.toList.map fun c => (⟨#[c]⟩ : Str)).map V.str := by rw [List.map_map]; rfl
        have e2 : signs z = (z.cps.toList.map fun c => (⟨#[c]⟩ : Str)).map D.str := by unfold signs; rw [List.map_map]; rfl
        rw [e, e2]
        exact Rps.ofStrs⟩
theorem od_isB {P : D → Mem → Prop} {x y : Bool} (p : P (.bl (decide (x = y))) M) : OD X (compareOp .Is) (.bl x) (.bl y) M P :=
  ⟨_, op_is_bl, fun F H v u Q o rx ry k => by
    cases rx; cases ry
    exact ⟨x, y, rfl, rfl, k.here p o (.bl _)⟩⟩
end DX
namespace DX
open PySem PySem.Spec L2
structure IsiC (K : PySem.W.Frag) (C : Addr) : Prop where
  ha : PySem.W.findIn K (.ref C) "__class__" = some (some (.builtin "object.__class__"))
  hn : PySem.W.specialIn K (.builtin "object.__class__") "__get__" = some (some (.builtin "getset_descriptor.__get__"))
  htk : PySem.W.takesIn K (.builtin "object.__class__") = some true
  hm : PySem.W.mroIn K C (.type "object") = some true
  no : ∀ n ∈ ["NoneType", "bool", "int", "str", "tuple", "list", "dict"], PySem.W.kitOne K (.type n) (.ref C) = some false
theorem isiB_ok {K : PySem.W.Frag} {C : Str} (h : isiB K C = true) : IsiC K (He.ga K C) := by
  obtain ⟨h1, h⟩ := He.ba h
  obtain ⟨h2, h⟩ := He.ba h
  obtain ⟨h3, h⟩ := He.ba h
  obtain ⟨h4, h5⟩ := He.ba h
  exact ⟨He.eqO_ok h1, He.eqO_ok h2, of_decide_eq_true h3, of_decide_eq_true h4, fun n hn => of_decide_eq_true (List.all_eq_true.mp h5 n hn)⟩
section
variable {X : Cx} {J : Gh} {M : Mem} {P : D → Mem → Prop} {ρ : DEnv} {pos : Pos} {x : Str}
/-- an instance is one -/
theorem cd_isiO {d : D} {C : Addr} {gs : List (Str × D)} (c : Cls X.K C) (ic : IsiC X.K C) (hi : Is M d C gs) (q : P (.bl true) M) : CD X (.builtin "isinstance") [d, .adr C] M P :=
  ⟨_, call_isi, fun F H vs Q o r k => by
    cases r with
    | cons h1 r =>
      cases r with
      | cons h2 r =>
        cases r
        cases h2
        obtain ⟨a, dx, fs, rfl, e, _⟩ := hi.get o h1
        refine ⟨_, _, .ref C, .ref C, true, rfl, .own C, .base (.ins e c ic.ha ic.hn ic.htk ic.hm), ?_, k.here q o (.bl _)⟩
        unfold PySem.W.kitOne
        rw [if_pos (by simp)]⟩
/-- plain data are none -/
theorem cd_isiN {d : D} {C : Addr} (ic : IsiC X.K C) (h : plain d = true) (q : P (.bl false) M) : CD X (.builtin "isinstance") [d, .adr C] M P :=
  ⟨_, call_isi, fun F H vs Q o r k => by
    cases r with
    | cons h1 r =>
      cases r with
      | cons h2 r =>
        cases r
        cases h2
        exact ⟨_, _, _, .ref C, false, rfl, .own C, ty_of h o.ex h1, ic.no _ (kn_mem d), k.here q o (.bl _)⟩⟩
end
end DX
namespace RevT
open PySem PySem.Spec L2 PyProof.Rows HT
theorem fm_congr {α β : Type} {f g : α → Option β} : ∀ {l : List α}, (∀ a ∈ l, f a = g a) → l.filterMap f = l.filterMap g
  | [], _ => rfl
  | a :: l, h => by rw [List.filterMap_cons, List.filterMap_cons, h a List.mem_cons_self, fm_congr (fun b hb => h b (List.mem_cons_of_mem _ hb))]
theorem rev_pick (xs : Array Value) : ((List.range xs.size).filterMap fun (k : Nat) => xs[(((xs.size : Int) - 1) + (k : Int) * (-1)).toNat]?) = xs.toList.reverse := by
  have e : ((List.range xs.size).filterMap fun (k : Nat) => xs[(((xs.size : Int) - 1) + (k : Int) * (-1)).toNat]?) = ((List.range xs.size).map fun k => xs.size - 1 - k).filterMap (xs[·]?) := by
    rw [List.filterMap_map]
    refine fm_congr fun k hk => ?_
    have := List.mem_range.mp hk
    have e3 : (((xs.size : Int) - 1) + (k : Int) * (-1)).toNat = xs.size - 1 - k := by omega
    show xs[(((xs.size : Int) - 1) + (k : Int) * (-1)).toNat]? = xs[xs.size - 1 - k]?
    rw [e3]
  have e2 : ((List.range xs.size).map fun k => xs.size - 1 - k) = (List.range xs.size).reverse := by
    apply List.ext_getElem
    · simp
    · intro i h1 h2
      simp at h1 h2 ⊢
  rw [e, e2, List.filterMap_reverse, PySem.W.krv_all]
section
variable {prog : Program} {w : World} {A : Around} {E : Value → Shared → Prop} {s : Shared}
theorem getItem_rev {t sl : Addr} {items : Array Value} {vs : Value} {Q : Value → Shared → Prop} (ht : IsTup s.heap t items) (hs : s.heap.IsSliceOf sl .none .none vs) (ps : IsPart vs (some (-1)))
    (h : Q (.ref s.heap.objs.size) { s with heap := s.heap.push { cls := .type "tuple", data := .seq items.toList.reverse.toArray } }) (hsz : items.size ≤ sizeLine) : wpAny (model prog w) A (getItem (.ref t) (.ref sl)) Q E s := by
  have hok : sizeOk (.seq items.toList.reverse.toArray) := by
    show items.toList.reverse.toArray.size ≤ sizeLine
    rw [List.size_toArray, List.length_reverse, Array.length_toList]
    exact hsz
  obtain ⟨os, hos, hcs, hds⟩ := id hs
  have hTs : s.TypeIs (.ref sl) "slice" := ⟨os, hos, hcs⟩
  unfold getItem
  try with_reducible refine wpAny_holding ?_
  first | refine wpAny_bind (wpAny_pure ?_) | skip
  refine wpAny_bind (wpAny_sequenceKey ht.typeIs (by decide) ?_)
  refine wpAny_bind (wpAny_callSpecial?_slot (name := Str.ofString "__getitem__") ht.typeIs PyProof.Rows.slot_tuple_getitem
    (wpAny_call_entry PyProof.Rows.slot_tuple_getitem ht.typeIs entry_tuple_getitem ?_ (args_tuple_getitem _ _)))
  show wpAny _ _ (Builtin.Tuple.tupleItemsOf (.ref t) >>= _) _ _ s
  refine wpAny_bind (tupleItemsOf_ ht ?_)
  refine wpAny_bind (wpAny_typeOf hTs ?_)
  rw [if_pos (by decide)]
  refine wpAny_bind ?_
  · unfold Builtin.Slice.sliceApplied Builtin.Slice.sliceFields
    refine wpAny_bind (wpAny_bind (wpAny_field hos hds (x := .none) rfl (wpAny_bind (wpAny_field hos hds (x := .none) rfl (wpAny_bind (wpAny_field hos hds (x := vs) rfl (wpAny_pure ?_)))))))
    refine wpAny_bind (slicePart_ ps ?_)
    show wpAny _ _ (if ((-1 : Int) == 0) = true then _ else _) _ _ s
    rw [if_neg (by decide)]
    refine wpAny_bind (slicePart_none (wpAny_bind (slicePart_none (wpAny_bind (wpAny_pure ?_)))))
    show wpAny _ _ (pure ((items.size : Int) - 1, (-1 : Int), Builtin.Slice.slicePlaces ((items.size : Int) - 1) (-1) (-1))) _ _ s
    have e : Builtin.Slice.slicePlaces ((items.size : Int) - 1) (-1) (-1) = items.size := by
      unfold Builtin.Slice.slicePlaces
      rw [if_neg (by decide), show (-(-1) : Int) = 1 from rfl, Int.ediv_one]
      split <;> omega
    rw [e]
    refine wpAny_pure ?_
    have hno : ¬ ((((items.size : Int) - 1) == 0 && (-1 : Int) == 1 && items.size == items.size) = true) := by simp
    show wpAny _ _ (if (((items.size : Int) - 1) == 0 && (-1 : Int) == 1 && items.size == items.size) = true then _ else _) _ _ s
    rw [if_neg hno, rev_pick]
    first
      | exact wpAny_bind (m := Builtin.Tuple.tupleExact _) (wpAny_newObj_type (wpAny_pure ⟨_, rfl, wpAny_pure h⟩) hok)
      | exact wpAny_bind (m := Builtin.Tuple.tupleExact _) (wpAny_newObj_type (wpAny_bind (wpAny_pure (wpAny_pure ⟨_, rfl, wpAny_pure h⟩))) hok)
      | exact wpAny_bind (wpAny_bind (m := Builtin.Tuple.tupleExact _) (wpAny_newObj_type (wpAny_pure (wpAny_pure ⟨_, rfl, wpAny_pure h⟩)) hok))
      | exact wpAny_bind (wpAny_bind (m := Builtin.Tuple.tupleExact _) (wpAny_newObj_type (wpAny_pure ⟨_, rfl, wpAny_pure h⟩) hok))
end
end RevT
namespace RevT
open PySem PySem.Spec L2 PyProof.Rows HT
def tRevT (K : PySem.W.Frag) (te : TE) : TE := fun σ H Q => te σ H fun x H1 => ∃ a xs, x = .ref a ∧ SqT K H1 a xs ∧ ∀ p (ob : Obj), H1 p = none → (ob.cls = .type "tuple" ∧ ob.dict = none) → Q (.ref p) (upd H1 p (.frz ob (.tup xs.reverse)))
theorem pe_revT {X : Cx} {e : Expr} {te : TE} {k : Nat} {p1 p2 p3 pos : Pos} (he : PE X e te) : PE X (.Subscript e (.Slice none none (some (.UnaryOp .USub (.Constant (.int 1) k p1) p2)) p3) pos) (tRevT X.K te) := by
  refine ⟨fun pins s σ H Q I h => ?_⟩
  refine Subscript_ (thn (he.run pins s σ H _ I h) fun v s1 ⟨x, H1, I1, r1, q1⟩ => ?_)
  obtain ⟨a, xs, ex, hx, q⟩ := q1
  subst ex
  cases r1
  have hst : PO X (some (.UnaryOp .USub (.Constant (.int 1) k p1) p2)) (tPart (tUn (rU fun i => .int (-i)) (tC (.int 1)))) := po_some (pe_un un_neg pe_int)
  refine wpAny_Slice (thn (po_none.run pins s1 σ H1 (fun o H2 => o = none ∧ H2 = H1) I1 ⟨rfl, rfl⟩) fun vl s2 ⟨l, H2, I2, pl, el, e2⟩ => ?_)
  subst el e2
  refine thn (po_none.run pins s2 σ H2 (fun o H3 => o = none ∧ H3 = H2) I2 ⟨rfl, rfl⟩) fun vu s3 ⟨u, H3, I3, pu, eu, e3⟩ => ?_
  subst eu e3
  refine thn (hst.run pins s3 σ H3 (fun o H4 => o = some (-1) ∧ H4 = H3) I3 ⟨1, rfl, -1, rfl, rfl, rfl⟩) fun vs s4 ⟨o, H4, I4, ps, eo, e4⟩ => ?_
  subst eo e4
  cases pl
  cases pu
  have I5 : Inv X pins σ H4 { s4 with heap := s4.heap.push { cls := .type "slice", data := .fields #[.none, .none, vs] } } := I4.kept (t' := s4.toks) fun b ob q => Heap.get?_push_of_some _ q
  obtain ⟨its, r, ht, hz⟩ := I5.tuple hx
  have hlen := r.length
  show wpAny (model X.prog X.w) X.A (subscriptTail e (.Slice none none (some (.UnaryOp .USub (.Constant (.int 1) k p1) p2)) p3) (.ref a) (.ref s4.heap.objs.size)) (EP X pins σ Q) X.xe { s4 with heap := s4.heap.push { cls := .type "slice", data := .fields #[.none, .none, vs] } }
  refine tail_any (ops := [.ref a, .ref s4.heap.objs.size]) ht.typeIs (PyProof.Rows.slot_tuple_getitem.lookup) ?_ (by with_unfolding_all rfl)
  refine getItem_rev ht (Heap.IsSliceOf.new _ .none .none vs) ps ?_ (by rw [List.size_toArray]; omega)
  have e1 : its.toArray.toList.reverse.toArray = its.reverse.toArray := by simp
  rw [e1]
  refine ⟨.ref _, _, I5.laid (t' := s4.toks) (o := .frz { cls := .type "tuple", data := .seq its.reverse.toArray } (.tup xs.reverse)) (fun b ob q => Heap.get?_push_of_some _ q) (Nat.le_refl _) ?_, rfl, q _ _ (I5.hok.fresh (Nat.le_refl _)) ⟨rfl, rfl⟩⟩
  exact ⟨Heap.get?_push_size _ rfl, by rw [List.length_reverse]; exact hz, its.reverse, r.reverse, IsTup.new _ _⟩
/-- o.m(e, ..) of an object that is known -/
def tBMK (T : String) (r : V → List V → Hp → VK → Prop) (to : TE) (t : TA) : TE := fun σ H Q => to σ H fun x H1 => (∃ p ob u, x = .ref p ∧ H1 p = some (.frz ob u) ∧ ob.cls = .type T ∧ ob.dict = none) ∧ t σ H1 fun xs H2 => r x xs H2 Q
end RevT
namespace DX
open PySem PySem.Spec L2
section
variable {X : Cx} {J : Gh} {M : Mem} {P : D → Mem → Prop} {ρ : DEnv} {o e : Expr} {pos apos cpos : Pos} {F H : Hp} {K : PySem.W.Frag}
theorem rps_rev : ∀ {xs : List V} {ds : List D}, Rps K F xs ds → Rps K F xs.reverse ds.reverse
  | _, _, .nil => .nil
  | _, _, .cons h r => by
    rw [List.reverse_cons, List.reverse_cons]
    exact Rps.append (rps_rev r) (.cons h .nil)
theorem ex_revT {k : Nat} {p1 p2 p3 : Pos} (h : EX X J e ρ M fun d M1 => ∃ ds, d = .tup ds ∧ P (.stup ds.reverse) M1) : EX X J (.Subscript e (.Slice none none (some (.UnaryOp .USub (.Constant (.int 1) k p1) p2)) p3) pos) ρ M P :=
  ex_of (RevT.pe_revT pe_any) fun F σ H Q st k => h.go st fun d v M1 F1 H1 q e1 o1 r1 => by
    obtain ⟨ds, rfl, q⟩ := q
    cases r1 with
    | tup h2 r2 => exact ⟨_, _, rfl, same_t o1.ex h2, fun l ob hl hc => k _ _ _ _ _ q (e1.trans (o1.fixSame hl)) (o1.fix hl) (.stup upd_same hc (Rps.mono (o1.fixSame hl) (rps_rev r2)))⟩
/-- a tuple whose object is known is a tuple -/
theorem Rp.unst {v : V} {ds : List D} (r : Rp K F v (.stup ds)) : Rp K F v (.tup ds) := by
  cases r with
  | stup h c r => exact .tup (.inl (.inr ⟨_, h⟩)) r
  | stupK h c =>
    obtain ⟨c1, c2, n, c3⟩ := c
    exact .tup (xs := []) (.inr ⟨_, #[], n, h, c1, c3, Nat.zero_le _, .nil⟩) .nil
theorem ex_unst (h : EX X J e ρ M fun d M1 => ∃ ds, d = .stup ds ∧ P (.tup ds) M1) : EX X J e ρ M P :=
  ex_of h fun F σ H Q st k => ⟨F, st, fun d v M' F' H' q e1 o r => by
    obtain ⟨ds, rfl, q⟩ := q
    exact k _ _ _ _ _ q e1 o r.unst⟩
theorem En.unst : ∀ {σ : St} {ρ : DEnv} {i : Nat} {ds : List D}, En K F σ ρ → DX.look ρ i = some (.stup ds) → En K F σ (DX.put ρ i (.tup ds))
  | _, _, i, _, .nil, e => by simp [DX.look] at e
  | _, _, 0, ds, .cons h r, e => .cons (fun x q => by
    obtain ⟨y, a, b⟩ := h (.stup ds) e
    cases q
    exact ⟨y, a, b.unst⟩) r
  | _, _, i + 1, ds, .cons h r, e => .cons h (En.unst r e)
/-- t[l:u], also where it is the whole of t -/
theorem sd_tupA {ds : List D} {l u : Option Int} (p : P (.tup (cutD ds l u)) M) : SD X (.tup ds) l u M P :=
  ⟨_, sl_tupA, fun F H v Q o rx k => by
    cases rx with
    | tup h1 r1 =>
      refine ⟨_, _, rfl, same_t o.ex h1, fun hw => ?_, fun hw q hq => k _ _ _ _ _ p (o.fixSame hq) (o.fix hq) (.tup (.inl (.inl upd_same)) ((cut_of r1 l u).mono (o.fixSame hq)))⟩
      rw [r1.length] at hw
      have e : cutD ds l u = ds := by
        unfold cutD
        rw [hw.1, hw.2, Nat.sub_zero, List.drop_zero, List.take_length]
      rw [e] at p
      exact k.here p o (.tup h1 r1)⟩
end
end DX
namespace DX
open PySem PySem.Spec L2
section
variable {X : Cx} {J : Gh} {M : Mem} {P : D → Mem → Prop} {ρ : DEnv} {a b c o e : Expr} {p pos apos cpos : Pos} {K : PySem.W.Frag} {F : Hp}
/-- how many numbers range(i, j, c) has -/
def cntP (i j c : Int) : Nat := if i < j then ((j - i - 1) / c + 1).toNat else 0
end
end DX
namespace DX
open PySem PySem.Spec L2
section
variable {X : Cx} {J : Gh} {e a b c : Expr} {es : List Expr} {ρ ρ' : DEnv} {M M' : Mem} {F F' H H' : Hp} {σ : St} {B : Bd} {K : PySem.W.Frag} {pos p : Pos} {x : Str} {P : D → Mem → Prop}
variable {scope : Scope} {tg iter elt : Expr} {ifs : List Expr}
/-- LcW, where the list goes on changing -/
def LcWM (X : Cx) (J : Gh) (scope : Scope) (vs : List Nat) (tg : Expr) (ifs : List Expr) (elt : Expr) (ρ : DEnv) (P : D → Mem → Prop) (ds : List D) (M1 : Mem) : Prop := ∃ Wd : Nat → List D → Mem → Prop, Wd 0 [] M1 ∧
  (∀ i d acc M' Dl, ds[i]? = some d → Wd i acc M' → M' Dl = none → acc.length < 1000000 ∧ AsB X scope vs tg d (cuts ρ vs) fun ρ2 =>
    TXb X J scope ifs ρ2 (up M' Dl (.lst acc)) fun t M2 => (t = true → EXb X J scope elt ρ2 M2 fun y M3 => ∃ M4, M4 Dl = none ∧ M3 = up M4 Dl (.lst acc) ∧ Wd (i + 1) (acc ++ [y]) M4) ∧
      (t = false → ∃ M4, M4 Dl = none ∧ M2 = up M4 Dl (.lst acc) ∧ Wd (i + 1) acc M4)) ∧
  ∀ acc M' Dl, Wd ds.length acc M' → M' Dl = none → P (.adr Dl) (up M' Dl (.lst acc))
end
end DX
namespace DX
open PySem PySem.Spec L2
section
variable {X : Cx} {J : Gh} {M : Mem} {P : D → Mem → Prop} {ρ : DEnv} {o e : Expr} {apos cpos : Pos} {K : PySem.W.Frag} {F : Hp}
end
end DX
namespace DX
open PySem PySem.Spec L2 SX

noncomputable section
open Classical in
def chk {α : Type} (p : Prop) (x : α) : Option α := if p then some x else none
theorem chk_inv {α : Type} {p : Prop} {x y : α} (h : chk p x = some y) : p ∧ x = y := by
  unfold chk at h
  split at h
  · exact ⟨by assumption, Option.some.inj h⟩
  · cases h
theorem chk_pos {α : Type} {p : Prop} {x : α} (h : p) : chk p x = some x := if_pos h
theorem bi {α β : Type} {o : Option α} {f : α → Option β} {r : β} {C : Prop} (h : o.bind f = some r) (k : ∀ v, o = some v → f v = some r → C) : C := by
  cases o with
  | none => cases h
  | some v => exact k v rfl h
theorem iT {α : Type} {c : Bool} {a b r : α} (q : c = true) (h : (if c = true then a else b) = r) : a = r := by rwa [if_pos q] at h
theorem iF {α : Type} {c : Bool} {a b r : α} (q : c = false) (h : (if c = true then a else b) = r) : b = r := by rwa [if_neg (by rw [q]; decide)] at h

section
variable {X : Cx} {J : Gh} {e a b c o : Expr} {es : List Expr} {ρ ρ' : DEnv} {M M' : Mem} {F F' H H' : Hp} {σ : L2.St} {B : Bd} {K : PySem.W.Frag} {pos p apos cpos : Pos} {x y dx dy z : D} {P : D → Mem → Prop} {t : Bool}
theorem od_by {f : Value → Value → Sem Value} (hx : imm dx = true) (hy : imm dy = true) (vx : Vw M x dx) (vy : Vw M y dy) (h : OD X f dx dy M P) : OD X f x y M P := by
  obtain ⟨r, h1, h2⟩ := h
  exact ⟨r, h1, fun F H v u Q o rx ry k => h2 F H v u Q o (vx.rp hx o rx) (vy.rp hy o ry) k⟩
def dAdd : D → D → Option D
  | .int i, .int j => some (.int (i + j))
  | .str a, .str b => chk (a.length + b.length ≤ 1000000) (.str (a ++ b))
  | .lst a, .lst b => chk (a.length + b.length ≤ 1000000) (.lst (a ++ b))
  | .tup a, .tup b => chk (a.length + b.length ≤ 1000000) (.tup (a ++ b))
  | _, _ => none
theorem od_dAdd (vx : Vw M x dx) (vy : Vw M y dy) (h : dAdd dx dy = some z) (p : P z M) : OD X (binaryOp .Add) x y M P := by
  unfold dAdd at h
  split at h
  · cases h; exact od_by rfl rfl vx vy (od_add p)
  · obtain ⟨h1, rfl⟩ := chk_inv h; exact od_by rfl rfl vx vy (od_addS h1 p)
  · obtain ⟨h1, rfl⟩ := chk_inv h; exact od_addL vx.sl vy.sl h1 p
  · obtain ⟨h1, rfl⟩ := chk_inv h; exact od_by rfl rfl vx vy (od_addT h1 p)
  · cases h
/-- the same, of lists, the new one may change -/
def lAdd : D → D → Option (List D)
  | .lst a, .lst b => chk (a.length + b.length ≤ 1000000) (a ++ b)
  | _, _ => none
def dSub : D → D → Option D
  | .int i, .int j => some (.int (i - j))
  | _, _ => none
theorem od_dSub (vx : Vw M x dx) (vy : Vw M y dy) (h : dSub dx dy = some z) (p : P z M) : OD X (binaryOp .Sub) x y M P := by
  unfold dSub at h
  split at h
  · cases h; exact od_by rfl rfl vx vy (od_sub p)
  · cases h
def dMul : D → D → Option D
  | .int i, .int j => chk (CMul i j) (.int (i * j))
  | .str a, .int n => chk (a.length ≤ 1000 ∧ -(2 ^ 62) ≤ n ∧ n ≤ 10000) (.str (Txt.mul a n))
  | .lst a, .int n => chk ((-(2 ^ 62) ≤ n ∧ n < 2 ^ 62) ∧ a.length * n.toNat ≤ 1000000) (.lst (List.replicate n.toNat a).flatten)
  | .tup a, .int n => chk (a ≠ [] ∧ 2 ≤ n ∧ n ≤ 1000 ∧ a.length ≤ 1000) (.tup (List.replicate n.toNat a).flatten)
  | _, _ => none
theorem od_dMul (vx : Vw M x dx) (vy : Vw M y dy) (h : dMul dx dy = some z) (p : P z M) : OD X (binaryOp .Mult) x y M P := by
  unfold dMul at h
  split at h
  · obtain ⟨h1, rfl⟩ := chk_inv h; exact od_by rfl rfl vx vy (od_mul h1 p)
  · obtain ⟨h1, rfl⟩ := chk_inv h
    refine od_by rfl rfl vx vy ⟨_, op_mul_str, fun F H v u Q o rx ry k => ?_⟩
    cases rx; cases ry
    exact ⟨_, _, rfl, rfl, h1.1, h1.2.1, h1.2.2, k.here p o (.str _)⟩
  · rename_i a n
    obtain ⟨h1, rfl⟩ := chk_inv h
    obtain ⟨r, g1, g2⟩ := od_mulL (X := X) vx.sl h1.1 h1.2 p
    exact ⟨r, g1, fun F H v u Q o rx ry k => g2 F H v u Q o rx (vy.rp rfl o ry) k⟩
  · obtain ⟨h1, rfl⟩ := chk_inv h
    refine od_by rfl rfl vx vy ⟨_, op_repT, fun F H v u Q o rx ry k => ?_⟩
    cases ry
    cases rx with
    | @tup a xs _ g1 r1 =>
    refine ⟨a, _, xs, rfl, rfl, same_t o.ex g1, fun e => ?_, h1.2.1, h1.2.2.1, by rw [r1.length]; exact h1.2.2.2, fun q hq => k _ _ _ _ _ p (o.fixSame hq) (o.fix hq) (.tup (SqT.of upd_same) ((r1.rep _).mono (o.fixSame hq)))⟩
    subst e
    cases r1
    exact h1.1 rfl
  · cases h
def lMul : D → D → Option (List D)
  | .lst a, .int n => chk ((-(2 ^ 62) ≤ n ∧ n < 2 ^ 62) ∧ a.length * n.toNat ≤ 1000000) (List.replicate n.toNat a).flatten
  | _, _ => none
def dFdiv : D → D → Option D
  | .int i, .int j => chk (CDiv i j) (.int (i / j))
  | _, _ => none
theorem od_dFdiv (vx : Vw M x dx) (vy : Vw M y dy) (h : dFdiv dx dy = some z) (p : P z M) : OD X (binaryOp .FloorDiv) x y M P := by
  unfold dFdiv at h
  split at h
  · obtain ⟨h1, rfl⟩ := chk_inv h; exact od_by rfl rfl vx vy (od_fdiv h1 p)
  · cases h
def dMod : D → D → Option D
  | .int i, .int j => chk (0 < j) (.int (i % j))
  | _, _ => none
theorem od_dMod (vx : Vw M x dx) (vy : Vw M y dy) (h : dMod dx dy = some z) (p : P z M) : OD X (binaryOp .Mod) x y M P := by
  unfold dMod at h
  split at h
  · obtain ⟨h1, rfl⟩ := chk_inv h; exact od_by rfl rfl vx vy (od_mod h1 p)
  · cases h
def dPow : D → D → Option D
  | .int i, .int j => chk (CPow i j) (.int (i ^ j.toNat))
  | _, _ => none
theorem od_dPow (vx : Vw M x dx) (vy : Vw M y dy) (h : dPow dx dy = some z) (p : P z M) : OD X (binaryOp .Pow) x y M P := by
  unfold dPow at h
  split at h
  · obtain ⟨h1, rfl⟩ := chk_inv h; exact od_by rfl rfl vx vy (od_pow h1 p)
  · cases h
def dShl : D → D → Option D
  | .int i, .int j => chk (CPow i j) (.int (i * 2 ^ j.toNat))
  | _, _ => none
theorem od_dShl (vx : Vw M x dx) (vy : Vw M y dy) (h : dShl dx dy = some z) (p : P z M) : OD X (binaryOp .LShift) x y M P := by
  unfold dShl at h
  split at h
  · obtain ⟨h1, rfl⟩ := chk_inv h; exact od_by rfl rfl vx vy (od_shl h1 p)
  · cases h
def dShr : D → D → Option D
  | .int i, .int j => chk (0 ≤ j) (.int (i / 2 ^ j.toNat))
  | _, _ => none
def dBand : D → D → Option D
  | .int i, .int j => some (.int (Builtin.bitAnd i j))
  | _, _ => none
def dBor : D → D → Option D
  | .int i, .int j => some (.int (Builtin.bitOr i j))
  | _, _ => none
def dBxor : D → D → Option D
  | .int i, .int j => some (.int (Builtin.bitXor i j))
  | _, _ => none
def dNeg : D → Option D
  | .int i => some (.int (-i))
  | _ => none
theorem ex_dNeg (h : EX X J a ρ M fun x M1 => ∃ dx z, Vw M1 x dx ∧ dNeg dx = some z ∧ P z M1) : EX X J (.UnaryOp .USub a pos) ρ M P :=
  ex_of (pe_un un_neg pe_any) fun F σ H Q st k => h.go st fun d v M1 F1 H1 p e1 o1 r1 => by
    obtain ⟨dx, z, w, g, p⟩ := p
    unfold dNeg at g
    split at g
    · cases g
      have r2 := w.rp rfl o1 r1
      cases r2
      exact ⟨_, rfl, k _ _ _ _ _ p e1 o1 (.int _)⟩
    · cases g
def dInv : D → Option D
  | .int i => some (.int (Builtin.bitNot i))
  | _ => none
def cLt : D → D → Option Bool
  | .int i, .int j => some (decide (i < j))
  | _, _ => none
def cLe : D → D → Option Bool
  | .int i, .int j => some (decide (i ≤ j))
  | _, _ => none
def cGt : D → D → Option Bool
  | .int i, .int j => some (decide (j < i))
  | _, _ => none
def cGe : D → D → Option Bool
  | .int i, .int j => some (decide (j ≤ i))
  | _, _ => none
theorem od_cLt (vx : Vw M x dx) (vy : Vw M y dy) (h : cLt dx dy = some t) (p : P (.bl t) M) : OD X (compareOp .Lt) x y M P := by
  unfold cLt at h
  split at h
  · cases h; exact od_by rfl rfl vx vy (od_lt p)
  · cases h
theorem od_cLe (vx : Vw M x dx) (vy : Vw M y dy) (h : cLe dx dy = some t) (p : P (.bl t) M) : OD X (compareOp .LtE) x y M P := by
  unfold cLe at h
  split at h
  · cases h; exact od_by rfl rfl vx vy (od_le p)
  · cases h
theorem od_cGt (vx : Vw M x dx) (vy : Vw M y dy) (h : cGt dx dy = some t) (p : P (.bl t) M) : OD X (compareOp .Gt) x y M P := by
  unfold cGt at h
  split at h
  · cases h; exact od_by rfl rfl vx vy (od_gt p)
  · cases h
theorem od_cGe (vx : Vw M x dx) (vy : Vw M y dy) (h : cGe dx dy = some t) (p : P (.bl t) M) : OD X (compareOp .GtE) x y M P := by
  unfold cGe at h
  split at h
  · cases h; exact od_by rfl rfl vx vy (od_ge p)
  · cases h
/-- == of data; a list that changes against data by its content -/
def isLst : D → Bool
  | .lst _ => true
  | _ => false
/-- lists of ints of any size against [] -/
def intsB : List D → Bool
  | [] => true
  | .int _ :: ds => intsB ds
  | _ => false
def nilB : D → D → Bool
  | .lst ds, .lst [] => intsB ds
  | _, _ => false
def empB : D → Bool
  | .lst ds => ds.isEmpty
  | _ => false
theorem intsB_eq : ∀ {ds : List D}, intsB ds = true → ∃ ns : List Int, ds = ns.map D.int
  | [], _ => ⟨[], rfl⟩
  | .int i :: ds, h => by
    obtain ⟨ns, e⟩ := intsB_eq (ds := ds) h
    exact ⟨i :: ns, by rw [e]; rfl⟩
theorem intsB_map : ∀ ns : List Int, intsB (ns.map D.int) = true
  | [] => rfl
  | n :: ns => intsB_map ns
/-- lists of unlike lengths; a tuple against the empty one -/
def lenB : D → D → Bool
  | .lst ds, .lst es => ds.length != es.length
  | .tup (_ :: _), .tup [] => true
  | _, _ => false
def strsL : D → Option (List Str)
  | .lst ds => ds.mapM fun d => match d with
    | .str z => some z
    | _ => none
  | _ => none
theorem strsL_eq {d : D} {xs : List Str} (h : strsL d = some xs) : d = .lst (xs.map D.str) := by
  have main : ∀ (ds : List D) (xs : List Str), (ds.mapM fun d => match d with | .str z => some z | _ => none) = some xs → ds = xs.map D.str := by
    intro ds
    induction ds with
    | nil => intro xs h; cases h; rfl
    | cons d ds ih =>
      intro xs h
      rw [List.mapM_cons] at h
      obtain ⟨z, h1, h2⟩ := Option.bind_eq_some_iff.mp h
      obtain ⟨zs, h3, h4⟩ := Option.bind_eq_some_iff.mp h2
      cases h4
      rw [List.map_cons, ← ih zs h3]
      cases d <;> first | (cases h1; rfl) | cases h1
  cases d <;> first
    | (rename_i ds; exact congrArg D.lst (main ds xs h))
    | cases h
theorem all_eq {xs ys : List Str} (hl : xs.length = ys.length) : ((List.range xs.length).all fun j => xs.getD j Str.empty == ys.getD j Str.empty) = decide (xs = ys) := by
  by_cases h : xs = ys
  · subst h
    rw [decide_eq_true rfl, List.all_eq_true]
    intro j _
    simp
  · rw [decide_eq_false h, List.all_eq_false]
    by_cases g : ∃ j, j < xs.length ∧ xs.getD j Str.empty ≠ ys.getD j Str.empty
    · obtain ⟨j, h1, h2⟩ := g
      exact ⟨j, List.mem_range.mpr h1, by simpa using h2⟩
    · refine absurd (List.ext_getElem hl fun j h1 h2 => ?_) h
      have e : xs.getD j Str.empty = ys.getD j Str.empty := Decidable.byContradiction fun q => g ⟨j, h1, q⟩
      rw [List.getD_eq_getElem?_getD, List.getD_eq_getElem?_getD, List.getElem?_eq_getElem h1, List.getElem?_eq_getElem h2] at e
      exact e
theorem vals_strT {xs : List Str} {us : List Value} (r : Vals (xs.map V.str) us) : us.length = xs.length ∧ ∀ j (h : j < us.length), ∃ t, us[j] = .str (xs.getD j Str.empty) t := by
  induction xs generalizing us with
  | nil => cases r; exact ⟨rfl, fun j h => absurd h (Nat.not_lt_zero _)⟩
  | cons x xs ih =>
    cases r with
    | cons r1 r2 =>
      obtain ⟨t, rfl⟩ := r1
      obtain ⟨h1, h2⟩ := ih r2
      refine ⟨by simp [h1], fun j h => ?_⟩
      cases j with
      | zero => exact ⟨t, rfl⟩
      | succ j =>
        obtain ⟨t2, e⟩ := h2 j (by simpa using h)
        exact ⟨t2, by simpa using e⟩
theorem op_strsEq (hu : X.A.units + 64 < cLine) : OpR X (compareOp .Eq) (fun x y H Q => ∃ (a b : Addr) (xs ys : List Str), x = .ref a ∧ y = .ref b ∧ H a = some (.lst (xs.map V.str)) ∧ H b = some (.lst (ys.map V.str)) ∧ xs.length = ys.length ∧ Q (.bl (decide (xs = ys))) H) := by
  intro pins s σ H x y v u Q I rx ry ⟨a, b, xs, ys, e1, e2, h1, h2, hn, q⟩
  subst e1 e2
  cases (show v = Value.ref a from rx)
  cases (show u = Value.ref b from ry)
  obtain ⟨us, r1, p1, _⟩ := I.list (SqL.of h1)
  obtain ⟨ws, r2, p2, _⟩ := I.list (SqL.of h2)
  obtain ⟨l1, g1⟩ := vals_strT r1
  obtain ⟨l2, g2⟩ := vals_strT r2
  refine SeqAt.RcAt.lists (e := fun j => xs.getD j Str.empty == ys.getD j Str.empty) p1.isList p2.isList (by rw [List.size_toArray, List.size_toArray, l1, l2, hn]) (by omega) (fun j h3 h4 => ?_) _ _ _ _ ?_
  · obtain ⟨t1, e1⟩ := g1 j (by simpa using h3)
    obtain ⟨t2, e2⟩ := g2 j (by simpa using h4)
    rw [show us.toArray[j] = us[j]'(by simpa using h3) from by simp, show ws.toArray[j] = ws[j]'(by simpa using h4) from by simp, e1, e2]
    exact SeqAt.EqAt.str_str _ _ _ _
  · rw [List.size_toArray, l1, all_eq hn]
    exact ⟨.bl _, H, I, rfl, q⟩
theorem op_strsNe (hu : X.A.units + 64 < cLine) : OpR X (compareOp .NotEq) (fun x y H Q => ∃ (a b : Addr) (xs ys : List Str), x = .ref a ∧ y = .ref b ∧ H a = some (.lst (xs.map V.str)) ∧ H b = some (.lst (ys.map V.str)) ∧ xs.length = ys.length ∧ Q (.bl (!decide (xs = ys))) H) := by
  intro pins s σ H x y v u Q I rx ry ⟨a, b, xs, ys, e1, e2, h1, h2, hn, q⟩
  subst e1 e2
  cases (show v = Value.ref a from rx)
  cases (show u = Value.ref b from ry)
  obtain ⟨us, r1, p1, _⟩ := I.list (SqL.of h1)
  obtain ⟨ws, r2, p2, _⟩ := I.list (SqL.of h2)
  obtain ⟨l1, g1⟩ := vals_strT r1
  obtain ⟨l2, g2⟩ := vals_strT r2
  refine SeqAt.RcNeAt.lists (e := fun j => xs.getD j Str.empty == ys.getD j Str.empty) p1.isList p2.isList (by rw [List.size_toArray, List.size_toArray, l1, l2, hn]) (by omega) (fun j h3 h4 => ?_) _ _ _ _ ?_
  · obtain ⟨t1, e1⟩ := g1 j (by simpa using h3)
    obtain ⟨t2, e2⟩ := g2 j (by simpa using h4)
    rw [show us.toArray[j] = us[j]'(by simpa using h3) from by simp, show ws.toArray[j] = ws[j]'(by simpa using h4) from by simp, e1, e2]
    exact SeqAt.EqAt.str_str _ _ _ _
  · rw [List.size_toArray, l1, all_eq hn]
    exact ⟨.bl _, H, I, rfl, q⟩
def cEq (a b : D) : Option Bool :=
  if sc a b = true then some (sceq a b) else if nilB a b = true then some (empB a) else match chk (good a ∧ good b ∧ dep a ≤ 50 ∧ dep b ≤ 50) (eqD a b) with
    | some t => some t
    | none => if lenB a b = true then some false else match strsL a, strsL b with
      | some xs, some ys => some (decide (xs = ys))
      | _, _ => none
theorem op_lenEq (hu : X.A.units + 64 < cLine) : OpR X (compareOp .Eq) (fun x y H Q => ∃ a b xs ys, x = .ref a ∧ y = .ref b ∧ H a = some (.lst xs) ∧ H b = some (.lst ys) ∧ xs.length ≠ ys.length ∧ Q (.bl false) H) := by
  intro pins s σ H x y v u Q I rx ry ⟨a, b, xs, ys, e1, e2, h1, h2, hn, q⟩
  subst e1 e2
  cases (show v = Value.ref a from rx)
  cases (show u = Value.ref b from ry)
  obtain ⟨us, r1, p1, _⟩ := I.list (SqL.of h1)
  obtain ⟨ws, r2, p2, _⟩ := I.list (SqL.of h2)
  refine SeqAt.RcAt.lists_lengths p1.isList p2.isList ?_ (by omega) _ _ _ _ ⟨.bl false, H, I, rfl, q⟩
  rw [List.size_toArray, List.size_toArray, ← r1.length, ← r2.length]
  simpa using hn
theorem op_lenNe (hu : X.A.units + 64 < cLine) : OpR X (compareOp .NotEq) (fun x y H Q => ∃ a b xs ys, x = .ref a ∧ y = .ref b ∧ H a = some (.lst xs) ∧ H b = some (.lst ys) ∧ xs.length ≠ ys.length ∧ Q (.bl true) H) := by
  intro pins s σ H x y v u Q I rx ry ⟨a, b, xs, ys, e1, e2, h1, h2, hn, q⟩
  subst e1 e2
  cases (show v = Value.ref a from rx)
  cases (show u = Value.ref b from ry)
  obtain ⟨us, r1, p1, _⟩ := I.list (SqL.of h1)
  obtain ⟨ws, r2, p2, _⟩ := I.list (SqL.of h2)
  refine SeqAt.RcNeAt.lists_lengths p1.isList p2.isList ?_ (by omega) _ _ _ _ ⟨.bl true, H, I, rfl, q⟩
  rw [List.size_toArray, List.size_toArray, ← r1.length, ← r2.length]
  simpa using hn
theorem op_tupNilEq (hu : X.A.units + 64 < cLine) : OpR X (compareOp .Eq) (fun x y H Q => ∃ a b xs, x = .ref a ∧ y = .ref b ∧ SqT X.K H a xs ∧ SqT X.K H b [] ∧ xs ≠ [] ∧ Q (.bl false) H) := by
  intro pins s σ H x y v u Q I rx ry ⟨a, b, xs, e1, e2, h1, h2, hn, q⟩
  subst e1 e2
  cases (show v = Value.ref a from rx)
  cases (show u = Value.ref b from ry)
  obtain ⟨us, r1, p1, _⟩ := I.tuple h1
  obtain ⟨ws, r2, p2, _⟩ := I.tuple h2
  cases r2
  have hl := r1.length
  have hne : us.length ≠ 0 := fun z => hn (List.eq_nil_of_length_eq_zero (by omega))
  have key := SeqAt.RcAt.tuples (A := X.A) (e := fun _ => true) (show s.heap.IsTuple a us.toArray from p1) (show s.heap.IsTuple b ([] : List Value).toArray from p2) (by omega) (fun j h1 h2 => absurd h2 (by simp))
  rw [show ((List.range (min us.toArray.size ([] : List Value).toArray.size)).all (fun _ => true) && us.toArray.size == ([] : List Value).toArray.size) = false by simp; exact fun z => hne (by rw [z]; rfl)] at key
  exact key _ _ _ _ ⟨.bl false, H, I, rfl, q⟩
theorem op_tupNilNe (hu : X.A.units + 64 < cLine) : OpR X (compareOp .NotEq) (fun x y H Q => ∃ a b xs, x = .ref a ∧ y = .ref b ∧ SqT X.K H a xs ∧ SqT X.K H b [] ∧ xs ≠ [] ∧ Q (.bl true) H) := by
  intro pins s σ H x y v u Q I rx ry ⟨a, b, xs, e1, e2, h1, h2, hn, q⟩
  subst e1 e2
  cases (show v = Value.ref a from rx)
  cases (show u = Value.ref b from ry)
  obtain ⟨us, r1, p1, _⟩ := I.tuple h1
  obtain ⟨ws, r2, p2, _⟩ := I.tuple h2
  cases r2
  have hl := r1.length
  have hne : us.length ≠ 0 := fun z => hn (List.eq_nil_of_length_eq_zero (by omega))
  have key := SeqAt.RcNeAt.tuples (A := X.A) (e := fun _ => true) (show s.heap.IsTuple a us.toArray from p1) (show s.heap.IsTuple b ([] : List Value).toArray from p2) (by omega) (fun j h1 h2 => absurd h2 (by simp))
  rw [show (!((List.range (min us.toArray.size ([] : List Value).toArray.size)).all (fun _ => true) && us.toArray.size == ([] : List Value).toArray.size)) = true by simp; exact fun z => hne (by rw [z]; rfl)] at key
  exact key _ _ _ _ ⟨.bl true, H, I, rfl, q⟩
theorem tupnil_at {v w : V} {d : D} {ds : List D} (vx : Vw M x (.tup (d :: ds))) (vy : Vw M y (.tup [])) (o : Ok K F M H) (rx : Rp K F v x) (ry : Rp K F w y) :
    ∃ a b xs, v = .ref a ∧ w = .ref b ∧ SqT K H a xs ∧ SqT K H b [] ∧ xs ≠ [] := by
  cases vx.rp rfl o rx with
  | tup h1 k1 =>
    cases vy.rp rfl o ry with
    | tup h2 k2 =>
      cases k2
      exact ⟨_, _, _, rfl, rfl, same_t o.ex h1, same_t o.ex h2, fun z => by rw [z] at k1; cases k1⟩
theorem cEq_inv {a b : D} {t : Bool} (h : (match chk (good a ∧ good b ∧ dep a ≤ 50 ∧ dep b ≤ 50) (eqD a b) with
    | some t => some t
    | none => if lenB a b = true then some false else match strsL a, strsL b with
      | some xs, some ys => some (decide (xs = ys))
      | _, _ => none) = some t) : ((good a ∧ good b ∧ dep a ≤ 50 ∧ dep b ≤ 50) ∧ t = eqD a b) ∨ (t = false ∧ ((∃ ds es, a = .lst ds ∧ b = .lst es ∧ ds.length ≠ es.length) ∨ ∃ d ds, a = .tup (d :: ds) ∧ b = .tup [])) ∨
      ∃ xs ys : List Str, a = .lst (xs.map D.str) ∧ b = .lst (ys.map D.str) ∧ xs.length = ys.length ∧ t = decide (xs = ys) := by
  split at h
  · rename_i t' e
    cases h
    obtain ⟨g, e⟩ := chk_inv e
    exact .inl ⟨g, by rw [e]⟩
  · split at h
    · rename_i hl
      cases h
      refine .inr (.inl ⟨rfl, ?_⟩)
      unfold lenB at hl
      split at hl
      · exact .inl ⟨_, _, rfl, rfl, by simpa using hl⟩
      · exact .inr ⟨_, _, rfl, rfl⟩
      · cases hl
    · rename_i hl
      split at h
      · rename_i xs ys h1 h2
        cases h
        have e1 := strsL_eq h1
        have e2 := strsL_eq h2
        subst e1 e2
        refine .inr (.inr ⟨xs, ys, rfl, rfl, ?_, rfl⟩)
        simpa [lenB] using hl
      · cases h
theorem strs_at {v w : V} {xs ys : List Str} (vx : Vw M x (.lst (xs.map D.str))) (vy : Vw M y (.lst (ys.map D.str))) (o : Ok K F M H) (rx : Rp K F v x) (ry : Rp K F w y) :
    ∃ a b, v = .ref a ∧ w = .ref b ∧ H a = some (.lst (xs.map V.str)) ∧ H b = some (.lst (ys.map V.str)) := by
  obtain ⟨q, us, rfl, h1, r1⟩ := vx.sl.get o rx
  obtain ⟨q2, ws, rfl, h2, r2⟩ := vy.sl.get o ry
  rw [Rps.strs r1] at h1
  rw [Rps.strs r2] at h2
  exact ⟨q, q2, rfl, rfl, h1, h2⟩
theorem lenat_v {v w : V} {ds es : List D} (vx : Vw M x (.lst ds)) (vy : Vw M y (.lst es)) (o : Ok K F M H) (rx : Rp K F v x) (ry : Rp K F w y) (hn : ds.length ≠ es.length) :
    ∃ a b xs ys, v = .ref a ∧ w = .ref b ∧ H a = some (.lst xs) ∧ H b = some (.lst ys) ∧ xs.length ≠ ys.length := by
  obtain ⟨q, xs, rfl, h1, r1⟩ := vx.sl.get o rx
  obtain ⟨q2, ys, rfl, h2, r2⟩ := vy.sl.get o ry
  exact ⟨q, q2, xs, ys, rfl, rfl, h1, h2, by rw [r1.length, r2.length]; exact hn⟩
theorem nil_dp {v w : V} (h : nilB dx dy = true) (vx : Vw M x dx) (vy : Vw M y dy) (o : Ok K F M H) (rx : Rp K F v x) (ry : Rp K F w y) :
    ∃ z1, Dp K H v z1 ∧ Dp K H w (.list []) ∧ SeqAt.shaped z1 = true ∧ SeqAt.shaped (.list []) = true ∧ PyData.eqv z1 (.list []) = empB dx := by
  unfold nilB at h
  split at h
  · obtain ⟨ns, rfl⟩ := intsB_eq h
    obtain ⟨q, xs, rfl, h1, r1⟩ := vx.sl.get o rx
    obtain ⟨q2, ys, rfl, h2, r2⟩ := vy.sl.get o ry
    have e2 : ys = [] := by cases r2; rfl
    subst e2
    refine ⟨.list (ns.map PyData.int), .lst (SqL.of h1) (r1.dps o.ex (pyds_ints ns)), .lst (SqL.of h2) .nil, shaped_ints ns, shaped_ints [], ?_⟩
    cases ns with
    | nil => simp [PyData.eqv, PyData.eqvAll, empB]
    | cons n ns => simp [PyData.eqv, PyData.eqvAll, empB]
  · cases h
theorem sc_imm (h : sc dx dy = true) : imm dx = true ∧ imm dy = true := by
  cases dx <;> cases dy <;> first | exact ⟨rfl, rfl⟩ | cases h
theorem Vw.dp {v : V} (w : Vw M x dx) (g : good dx) (o : Ok K F M H) (r : Rp K F v x) : Dp K H v (pyd dx) := by
  cases w with
  | id => exact r.dp o.ex (good_py g)
  | ad h hf =>
    obtain ⟨_, hm⟩ := o.mt _ _ h
    cases dx with
    | lst ds =>
      obtain ⟨xs, h1, h2⟩ := hm
      cases r
      rw [pyd]
      exact .lst (SqL.of h1) (h2.dps o.ex (goods_py (by simpa [good] using g)))
    | _ => first | exact hm.elim | exact g.elim
theorem od_cEq (hu : X.A.units + 64 < cLine) (vx : Vw M x dx) (vy : Vw M y dy) (h : cEq dx dy = some t) (p : P (.bl t) M) : OD X (compareOp .Eq) x y M P := by
  unfold cEq at h
  split at h
  · rename_i hs
    cases h
    exact od_by (sc_imm hs).1 (sc_imm hs).2 vx vy (od_eq hs p)
  split at h
  · rename_i hs
    cases h
    refine ⟨_, op_eqD hu, fun F H v u Q o rx ry k => ?_⟩
    obtain ⟨z1, g1, g2, s1, s2, e⟩ := nil_dp hs vx vy o rx ry
    exact ⟨_, _, g1, g2, s1, s2, by rw [e]; exact k.here p o (.bl _)⟩
  rcases cEq_inv h with ⟨⟨g1, g2, d1, d2⟩, rfl⟩ | ⟨rfl, ⟨ds, es, rfl, rfl, hn⟩ | ⟨d, ds, rfl, rfl⟩⟩ | ⟨xs, ys, rfl, rfl, hn, rfl⟩
  rotate_left
  rotate_left
  rotate_left
  · refine ⟨_, op_strsEq hu, fun F H v u Q o rx ry k => ?_⟩
    obtain ⟨a, b, e1, e2, h1, h2⟩ := strs_at vx vy o rx ry
    exact ⟨a, b, xs, ys, e1, e2, h1, h2, hn, k.here p o (.bl _)⟩
  rotate_left
  · refine ⟨_, op_lenEq hu, fun F H v u Q o rx ry k => ?_⟩
    obtain ⟨a, b, xs, ys, e1, e2, h1, h2, h3⟩ := lenat_v vx vy o rx ry hn
    exact ⟨a, b, xs, ys, e1, e2, h1, h2, h3, k.here p o (.bl _)⟩
  · refine ⟨_, op_tupNilEq hu, fun F H v u Q o rx ry k => ?_⟩
    obtain ⟨a, b, xs, e1, e2, h1, h2, h3⟩ := tupnil_at vx vy o rx ry
    exact ⟨a, b, xs, e1, e2, h1, h2, h3, k.here p o (.bl _)⟩
  · exact ⟨_, op_eqD hu, fun F H v u Q o rx ry k => ⟨_, _, vx.dp g1 o rx, vy.dp g2 o ry, shaped_good g1 d1, shaped_good g2 d2, k.here p o (.bl _)⟩⟩
def cNe (a b : D) : Option Bool := (cEq a b).map (!·)
theorem od_cNe (hu : X.A.units + 64 < cLine) (vx : Vw M x dx) (vy : Vw M y dy) (h : cNe dx dy = some t) (p : P (.bl t) M) : OD X (compareOp .NotEq) x y M P := by
  unfold cNe at h
  obtain ⟨t2, h', e'⟩ := Option.map_eq_some_iff.mp h
  subst e'
  clear h
  have h := h'
  unfold cEq at h
  split at h
  · rename_i hs
    cases h
    exact od_by (sc_imm hs).1 (sc_imm hs).2 vx vy (od_ne hs p)
  split at h
  · rename_i hs
    cases h
    refine ⟨_, op_neD hu, fun F H v u Q o rx ry k => ?_⟩
    obtain ⟨z1, g1, g2, s1, s2, e⟩ := nil_dp hs vx vy o rx ry
    exact ⟨_, _, g1, g2, s1, s2, by rw [e]; exact k.here p o (.bl _)⟩
  rcases cEq_inv h with ⟨⟨g1, g2, d1, d2⟩, rfl⟩ | ⟨rfl, ⟨ds, es, rfl, rfl, hn⟩ | ⟨d, ds, rfl, rfl⟩⟩ | ⟨xs, ys, rfl, rfl, hn, rfl⟩
  rotate_left
  rotate_left
  rotate_left
  · refine ⟨_, op_strsNe hu, fun F H v u Q o rx ry k => ?_⟩
    obtain ⟨a, b, e1, e2, h1, h2⟩ := strs_at vx vy o rx ry
    exact ⟨a, b, xs, ys, e1, e2, h1, h2, hn, k.here p o (.bl _)⟩
  rotate_left
  · refine ⟨_, op_lenNe hu, fun F H v u Q o rx ry k => ?_⟩
    obtain ⟨a, b, xs, ys, e1, e2, h1, h2, h3⟩ := lenat_v vx vy o rx ry hn
    exact ⟨a, b, xs, ys, e1, e2, h1, h2, h3, k.here p o (.bl _)⟩
  · refine ⟨_, op_tupNilNe hu, fun F H v u Q o rx ry k => ?_⟩
    obtain ⟨a, b, xs, e1, e2, h1, h2, h3⟩ := tupnil_at vx vy o rx ry
    exact ⟨a, b, xs, e1, e2, h1, h2, h3, k.here p o (.bl _)⟩
  · exact ⟨_, op_neD hu, fun F H v u Q o rx ry k => ⟨_, _, vx.dp g1 o rx, vy.dp g2 o ry, shaped_good g1 d1, shaped_good g2 d2, k.here p o (.bl _)⟩⟩
/-- is, is not: with None; of bools -/
def isNonD : D → Option Bool
  | .non => some true
  | .int _ => some false
  | .bl _ => some false
  | .str _ => some false
  | .tup _ => some false
  | .lst _ => some false
  | .ins _ _ => some false
  | .dct _ => some false
  | .exn _ _ => some false
  | _ => none
def cIs : D → D → Option Bool
  | .bl a, .bl b => some (decide (a = b))
  | x, .non => isNonD x
  | _, _ => none
theorem Vw.isn {v : V} (w : Vw M x dx) (h : isNonD dx = some t) (o : Ok K F M H) (r : Rp K F v x) : decide (v = V.non) = t := by
  cases w with
  | id => cases r <;> cases h <;> rfl
  | ad q hf =>
    cases r
    have := (o.mt _ _ q).2
    cases dx <;> cases h <;> first | rfl | exact this.elim
theorem od_cIs (vx : Vw M x dx) (vy : Vw M y dy) (h : cIs dx dy = some t) (p : P (.bl t) M) : OD X (compareOp .Is) x y M P := by
  unfold cIs at h
  split at h
  · cases h; exact od_by rfl rfl vx vy (od_isB p)
  · refine ⟨_, op_isN, fun F H v u Q o rx ry k => ?_⟩
    have ry := vy.rp rfl o ry
    cases ry
    refine ⟨rfl, ?_⟩
    rw [vx.isn h o rx]
    exact k.here p o (.bl _)
  · cases h
def cIsnt (a b : D) : Option Bool := (cIs a b).map (!·)
/-- flat data as values -/
def flD : D → Option V
  | .non => some .non
  | .bl b => some (.bl b)
  | .int i => some (.int i)
  | .str z => some (.str z)
  | _ => none
def flDs : List D → Option (List V)
  | [] => some []
  | d :: ds => (flD d).bind fun v => (flDs ds).map fun vs => v :: vs
theorem flD_rp {d : D} {v w : V} (h : flD d = some w) (r : Rp K F v d) : v = w := by
  cases r <;> cases h <;> rfl
theorem flDs_rps : ∀ {ds : List D} {vs ws : List V}, flDs ds = some ws → Rps K F vs ds → vs = ws
  | [], _, _, h, .nil => by cases h; rfl
  | d :: ds, _, _, h, .cons r rs => by
    rw [flDs] at h
    obtain ⟨v, h1, h⟩ := Option.bind_eq_some_iff.mp h
    obtain ⟨vs, h2, rfl⟩ := Option.map_eq_some_iff.mp h
    rw [flD_rp h1 r, flDs_rps h2 rs]
theorem flD_flat {d : D} {v : V} (h : flD d = some v) : flatV v = true := by
  cases d <;> cases h <;> rfl
theorem flDs_flat : ∀ {ds : List D} {vs : List V}, flDs ds = some vs → vs.all flatV = true
  | [], _, h => by cases h; rfl
  | d :: ds, _, h => by
    rw [flDs] at h
    obtain ⟨v, h1, h⟩ := Option.bind_eq_some_iff.mp h
    obtain ⟨vs, h2, rfl⟩ := Option.map_eq_some_iff.mp h
    rw [List.all_cons, flD_flat h1, flDs_flat h2]; rfl
theorem flDs_ints : ∀ ns : List Int, flDs (ns.map D.int) = some (ns.map V.int)
  | [] => rfl
  | n :: ns => by rw [List.map_cons, flDs, flDs_ints ns]; rfl
def itemsD : D → Option (List D)
  | .lst ds => some ds
  | .tup ds => some ds
  | _ => none
theorem items_eq {d : D} {ds : List D} (h : itemsD d = some ds) : d = .lst ds ∨ d = .tup ds := by
  cases d <;> cases h
  · exact .inr rfl
  · exact .inl rfl
/-- x in c: flat x among flat items; a sign in a text; a key in a dict -/
def cIn (a c : D) : Option Bool := match a, c with
  | .str y, .str z => match y.cps.toList with
    | [n] => some (decide (n ∈ z.cps.toList))
    | _ => none
  | a, c => (flD a).bind fun v => (itemsD c).bind fun ds => (flDs ds).bind fun vs => some (inV v vs)
theorem od_cIn (vx : Vw M x dx) (vy : Vw M y dy) (h : cIn dx dy = some t) (p : P (.bl t) M) : OD X (compareOp .In) x y M P := by
  unfold cIn at h
  split at h
  · rename_i y z
    split at h
    · rename_i n e
      cases h
      have e2 : y = ⟨#[n]⟩ := by
        cases y with | mk a => simp at e; cases a; simp at e; subst e; rfl
      exact od_by rfl rfl vx vy (od_inC e2 p)
    · cases h
  · obtain ⟨v0, h1, h⟩ := Option.bind_eq_some_iff.mp h
    obtain ⟨ds, h2, h⟩ := Option.bind_eq_some_iff.mp h
    obtain ⟨vs, h3, h⟩ := Option.bind_eq_some_iff.mp h
    cases h
    refine ⟨_, op_in_seq, fun F H v u Q o rx ry k => ?_⟩
    have i1 : imm dx = true := by cases dx <;> first | rfl | cases h1
    have rx := vx.rp i1 o rx
    obtain rfl := flD_rp h1 rx
    obtain ⟨q, xs, rfl, hs, rs⟩ := vy.seq (items_eq h2) o ry
    obtain rfl := flDs_rps h3 rs
    exact ⟨q, xs, rfl, hs, flD_flat h1, flDs_flat h3, k.here p o (.bl _)⟩
def cNin (a c : D) : Option Bool := (cIn a c).map (!·)
theorem od_cNin (vx : Vw M x dx) (vy : Vw M y dy) (h : cNin dx dy = some t) (p : P (.bl t) M) : OD X (compareOp .NotIn) x y M P := by
  unfold cNin at h
  obtain ⟨t2, h', e'⟩ := Option.map_eq_some_iff.mp h
  subst e'
  clear h
  have h := h'
  unfold cIn at h
  split at h
  · rename_i y z
    split at h
    · rename_i n e
      cases h
      have e2 : y = ⟨#[n]⟩ := by
        cases y with | mk a => simp at e; cases a; simp at e; subst e; rfl
      exact od_by rfl rfl vx vy (od_notInC e2 p)
    · cases h
  · obtain ⟨v0, h1, h⟩ := Option.bind_eq_some_iff.mp h
    obtain ⟨ds, h2, h⟩ := Option.bind_eq_some_iff.mp h
    obtain ⟨vs, h3, h⟩ := Option.bind_eq_some_iff.mp h
    cases h
    refine ⟨_, op_notIn_seq, fun F H v u Q o rx ry k => ?_⟩
    have i1 : imm dx = true := by cases dx <;> first | rfl | cases h1
    have rx := vx.rp i1 o rx
    obtain rfl := flD_rp h1 rx
    obtain ⟨q, xs, rfl, hs, rs⟩ := vy.seq (items_eq h2) o ry
    obtain rfl := flDs_rps h3 rs
    exact ⟨q, xs, rfl, hs, flD_flat h1, flDs_flat h3, k.here p o (.bl _)⟩
def dTru : D → Option Bool
  | .non => some false
  | .bl b => some b
  | .int i => some (i != 0)
  | .str y => chk (y.length ≤ 1000000) ((y.length : Int) != 0)
  | .lst ds => some (!ds.isEmpty)
  | .tup ds => some (!ds.isEmpty)
  | _ => none
theorem rps_empty {xs : List V} {ds : List D} (r : Rps K F xs ds) : xs.isEmpty = ds.isEmpty := by cases r <;> rfl
theorem Vw.tru {v : V} (w : Vw M x dx) (h : dTru dx = some t) (o : Ok K F M H) (r : Rp K F v x) : TruV K v H t := by
  unfold dTru at h
  split at h
  · have r := w.rp rfl o r; cases r; cases h; rfl
  · have r := w.rp rfl o r; cases r; cases h; rfl
  · have r := w.rp rfl o r; cases r; cases h; rfl
  · have r := w.rp rfl o r; cases r
    obtain ⟨h1, rfl⟩ := chk_inv h
    exact ⟨by rw [sizeLine_eq]; omega, rfl⟩
  · cases h
    obtain ⟨q, xs, rfl, h1, r1⟩ := w.sl.get o r
    exact .inl ⟨xs, SqL.of h1, by rw [rps_empty r1]⟩
  · cases h
    have r := w.rp rfl o r
    cases r with
    | tup h1 r1 => exact .inr (.inl ⟨_, same_t o.ex h1, by rw [rps_empty r1]⟩)
  · cases h
theorem tx_tru {PB : Bool → Mem → Prop} (h : EX X J e ρ M fun x M1 => ∃ dx t, Vw M1 x dx ∧ dTru dx = some t ∧ PB t M1) (he : ∀ whole, isTrue e X.env whole = (do let v ← whole; standAt e.pos; holding [v] (truthy v)) := by intro _; rfl) : TX X J e ρ M PB :=
  tx_of (pt_truth pe_any he) fun F σ H Q st k => h.go st fun d v M1 F1 H1 p e1 o1 r1 => by
    obtain ⟨dx, t, w, g, p⟩ := p
    exact ⟨t, w.tru g o1 r1, k _ _ _ _ p e1 o1⟩
theorem ex_notT (h : EX X J a ρ M fun x M1 => ∃ dx t, Vw M1 x dx ∧ dTru dx = some t ∧ P (.bl (!t)) M1) : EX X J (.UnaryOp .Not a pos) ρ M P :=
  ex_of (pe_notT pe_any) fun F σ H Q st k => h.go st fun d v M1 F1 H1 p e1 o1 r1 => by
    obtain ⟨dx, t, w, g, p⟩ := p
    exact ⟨t, w.tru g o1 r1, k _ _ _ _ _ p e1 o1 (.bl _)⟩
theorem ex_andT {rest : List Expr} (h : EX X J a ρ M fun x M1 => ∃ dx t, Vw M1 x dx ∧ dTru dx = some t ∧ (t = true → EX X J (.BoolOp .And (b :: rest) pos) ρ M1 P) ∧ (t = false → P x M1)) : EX X J (.BoolOp .And (a :: b :: rest) pos) ρ M P :=
  ex_of (pe_andT pe_any pe_any) fun F σ H Q st k => h.go st fun d v M1 F1 H1 p e1 o1 r1 => by
    obtain ⟨dx, t, w, g, p⟩ := p
    refine ⟨t, w.tru g o1 r1, ?_⟩
    cases t with
    | true => exact iteT ((p.1 rfl).go (st.to e1 o1) (k.to e1))
    | false => exact iteF (k _ _ _ _ _ (p.2 rfl) e1 o1 r1)
theorem ex_orT {rest : List Expr} (h : EX X J a ρ M fun x M1 => ∃ dx t, Vw M1 x dx ∧ dTru dx = some t ∧ (t = false → EX X J (.BoolOp .Or (b :: rest) pos) ρ M1 P) ∧ (t = true → P x M1)) : EX X J (.BoolOp .Or (a :: b :: rest) pos) ρ M P :=
  ex_of (pe_orT pe_any pe_any) fun F σ H Q st k => h.go st fun d v M1 F1 H1 p e1 o1 r1 => by
    obtain ⟨dx, t, w, g, p⟩ := p
    refine ⟨t, w.tru g o1 r1, ?_⟩
    cases t with
    | true => exact iteT (k _ _ _ _ _ (p.2 rfl) e1 o1 r1)
    | false => exact iteF ((p.1 rfl).go (st.to e1 o1) (k.to e1))
/-- what is known of the end is shown once -/
theorem ex_fix (v : D) (M1 : Mem) (h : EX X J e ρ M fun d M' => d = v ∧ M' = M1) (k : P v M1) : EX X J e ρ M P := h.imp fun d M' q => by rw [q.1, q.2]; exact k
theorem tx_fix {PB : Bool → Mem → Prop} (v : Bool) (M1 : Mem) (h : TX X J e ρ M fun d M' => d = v ∧ M' = M1) (k : PB v M1) : TX X J e ρ M PB := h.imp fun d M' q => by rw [q.1, q.2]; exact k
def dIx : D → D → Option D
  | .lst ds, .int i => atI ds i
  | .tup ds, .int i => atI ds i
  | .str z, .int i => (atI z.cps.toList i).bind fun n => chk (z.length ≤ 1000000) (.str ⟨#[n]⟩)
  | _, _ => none
theorem id_dIx (vx : Vw M x dx) (vy : Vw M y dy) (h : dIx dx dy = some z) (p : P z M) : ID X x y M P := by
  unfold dIx at h
  split at h
  · rename_i ds i
    obtain ⟨r, h1, h2⟩ := id_seq (X := X) vx.sq h p
    exact ⟨r, h1, fun F H v u Q o rx ry k => h2 F H v u Q o rx (vy.rp rfl o ry) k⟩
  · rename_i ds i
    obtain ⟨r, h1, h2⟩ := id_seq (X := X) (.tup : Sq M (.tup ds) ds) h p
    exact ⟨r, h1, fun F H v u Q o rx ry k => h2 F H v u Q o (vx.rp rfl o rx) (vy.rp rfl o ry) k⟩
  · obtain ⟨n, h1, h⟩ := Option.bind_eq_some_iff.mp h
    obtain ⟨h2, rfl⟩ := chk_inv h
    obtain ⟨r, g1, g2⟩ := id_str (X := X) h2 h1 p
    exact ⟨r, g1, fun F H v u Q o rx ry k => g2 F H v u Q o (vx.rp rfl o rx) (vy.rp rfl o ry) k⟩
  · cases h
/-- a slice's end -/
def dEnd : D → Option Int
  | .int i => some i
  | _ => none
theorem ox_d {PO' : Option Int → Mem → Prop} (h : EX X J e ρ M fun x M1 => ∃ dx i, Vw M1 x dx ∧ dEnd dx = some i ∧ PO' (some i) M1) : OX X J (some e) ρ M PO' := fun F σ H Q st k => ⟨_, po_some pe_any, h.go st fun d v M1 F1 H1 p e1 o1 r1 => by
  obtain ⟨dx, i, w, g, p⟩ := p
  unfold dEnd at g
  split at g
  · cases g
    have r2 := w.rp rfl o1 r1
    cases r2
    exact ⟨_, rfl, k _ _ _ _ p e1 o1⟩
  · cases g⟩
def dCut (d : D) (l u : Option Int) : Option D := match d, l, u with
  | .lst ds, l, u => some (.lst (cutD ds l u))
  | .tup ds, l, u => some (.tup (cutD ds l u))
  | .str z, l, u => chk (z.cps.toList.length ≤ 1000000) (.str (S (cutA z.cps.toList l u)))
  | .scr ns, none, some (.ofNat k) => some (.lst ((ns.take k).map D.int))
  | _, _, _ => none
theorem sd_by {l u : Option Int} (w : Vw M x dx) (hz : imm dx = true) (h : SD X dx l u M P) : SD X x l u M P := by
  obtain ⟨r, h1, h2⟩ := h
  exact ⟨r, h1, fun F H v Q o rx k => h2 F H v Q o (w.rp hz o rx) k⟩
theorem sd_dCut {l u : Option Int} (w : Vw M x dx) (h : dCut dx l u = some z) (p : P z M) : SD X x l u M P := by
  unfold dCut at h
  split at h
  · cases h; exact sd_list w.sl p
  · cases h; exact sd_by w rfl (sd_tupA p)
  · obtain ⟨h1, rfl⟩ := chk_inv h; exact sd_by w rfl (sd_str h1 p)
  · cases h; exact sd_by w rfl (sd_scr p)
  · cases h
theorem cd_by {f : Value} (w : Vw M x dx) (hz : imm dx = true) (h : CD X f [dx] M P) : CD X f [x] M P := by
  obtain ⟨r, h1, h2⟩ := h
  exact ⟨r, h1, fun F H vs Q o rs k => by
    cases rs with
    | cons r1 rs => exact h2 F H _ Q o (.cons (w.rp hz o r1) rs) k⟩
def dLen : D → Option D
  | .lst ds => some (.int (ds.length : Int))
  | .tup ds => some (.int (ds.length : Int))
  | .str z => chk (z.length ≤ 1000000) (.int (z.length : Int))
  | _ => none
theorem cd_dLen (w : Vw M x dx) (h : dLen dx = some z) (p : P z M) : CD X (.builtin "len") [x] M P := by
  unfold dLen at h
  split at h
  · cases h; exact cd_len w.sq p
  · cases h; exact cd_by w rfl (cd_len .tup p)
  · obtain ⟨h1, rfl⟩ := chk_inv h; exact cd_by w rfl (cd_lenS h1 p)
  · cases h
def dAbs : D → Option D
  | .int t => some (.int (if t < 0 then -t else t))
  | _ => none
theorem cd_dAbs (w : Vw M x dx) (h : dAbs dx = some z) (p : P z M) : CD X (.builtin "abs") [x] M P := by
  unfold dAbs at h
  split at h
  · cases h; exact cd_by w rfl (cd_abs p)
  · cases h
def dInt : D → Option D
  | .int t => some (.int t)
  | .bl t => some (.int (if t = true then 1 else 0))
  | .str a => (PySem.intText? a).bind fun n => chk (a.length ≤ 640) (.int n)
  | _ => none
theorem cd_intS {a : Str} {n : Int} (hn : PySem.intText? a = some n) (hl : a.length ≤ 640) (q : P (.int n) M) : CD X (.type "int") [.str a] M P :=
  ⟨_, call_int_str, fun F H vs Q o r k => by
    cases r with
    | cons h1 r =>
      cases r
      cases h1
      exact ⟨a, n, rfl, hn, hl, k.here q o (.int _)⟩⟩
theorem cd_dInt (w : Vw M x dx) (h : dInt dx = some z) (p : P z M) : CD X (.type "int") [x] M P := by
  unfold dInt at h
  split at h
  · cases h; exact cd_by w rfl (cd_intI p)
  · cases h; exact cd_by w rfl (cd_intB p)
  · obtain ⟨n, hn, h⟩ := Option.bind_eq_some_iff.mp h
    obtain ⟨hl, rfl⟩ := chk_inv h
    exact cd_by w rfl (cd_intS hn hl p)
  · cases h
def dStr : D → Option D
  | .int i => chk (i.natAbs.log2 < 1920) (.str (toString i))
  | _ => none
/-- list(x), tuple(x) -/
def lList : D → Option (List D)
  | .lst ds => some ds
  | .tup ds => some ds
  | .str z => chk (z.cps.toList.length ≤ 1000000) (signs z)
  | _ => none
theorem cd_lList {l : List D} (hc : X.calm = true) (w : Vw M x dx) (h : lList dx = some l) (p : P (.lst l) M) : CD X (.type "list") [x] M P := by
  unfold lList at h
  split at h
  · cases h; exact cd_list w.sq p
  · cases h; exact cd_by w rfl (cd_list .tup p)
  · obtain ⟨h1, rfl⟩ := chk_inv h; exact cd_by w rfl (cd_listS hc h1 p)
  · cases h
def lListM : D → Option (List D)
  | .lst ds => some ds
  | .tup ds => some ds
  | _ => none
theorem cd_lTuple {l : List D} (hc : X.calm = true) (w : Vw M x dx) (h : lList dx = some l) (p : P (.tup l) M) : CD X (.type "tuple") [x] M P := by
  unfold lList at h
  split at h
  · cases h; exact cd_tuple w.sl p
  · cases h; exact cd_by w rfl (cd_tupleT p)
  · obtain ⟨h1, rfl⟩ := chk_inv h; exact cd_by w rfl (cd_tupleS hc h1 p)
  · cases h
/-- lists of ints, of bools -/
def intsD : List D → Option (List Int)
  | [] => some []
  | .int i :: ds => (intsD ds).map fun l => i :: l
  | _ => none
theorem ints_eq : ∀ {ds : List D} {ns : List Int}, intsD ds = some ns → ds = ns.map D.int
  | [], _, h => by cases h; rfl
  | .int i :: ds, _, h => by
    rw [intsD] at h
    obtain ⟨l, h1, rfl⟩ := Option.map_eq_some_iff.mp h
    rw [ints_eq h1]; rfl
theorem intsD_map : ∀ ns : List Int, intsD (ns.map D.int) = some ns
  | [] => rfl
  | n :: ns => by rw [List.map_cons, intsD, intsD_map ns]; rfl
def blsD : List D → Option (List Bool)
  | [] => some []
  | .bl i :: ds => (blsD ds).map fun l => i :: l
  | _ => none
theorem blsD_map : ∀ ns : List Bool, blsD (ns.map D.bl) = some ns
  | [] => rfl
  | n :: ns => by rw [List.map_cons, blsD, blsD_map ns]; rfl
def lstD : D → Option (List D)
  | .lst ds => some ds
  | _ => none
theorem lstD_eq {d : D} {ds : List D} (h : lstD d = some ds) : d = .lst ds := by cases d <;> cases h; rfl
def maxI : List Int → Int
  | [] => 0
  | n :: ns => ns.foldl max n
def minI : List Int → Int
  | [] => 0
  | n :: ns => ns.foldl min n
theorem foldmax : ∀ (ns : List Int) (n : Int), (ns.foldl max n = n ∨ ns.foldl max n ∈ ns) ∧ n ≤ ns.foldl max n ∧ ∀ y ∈ ns, y ≤ ns.foldl max n
  | [], n => ⟨.inl rfl, Int.le_refl _, fun y hy => absurd hy List.not_mem_nil⟩
  | m :: ns, n => by
    obtain ⟨h1, h2, h3⟩ := foldmax ns (max n m)
    rw [List.foldl_cons]
    refine ⟨?_, by omega, fun y hy => ?_⟩
    · rcases h1 with h1 | h1
      · rw [h1]
        by_cases h : n ≤ m
        · right; rw [Int.max_eq_right h]; exact List.mem_cons_self
        · left; rw [Int.max_eq_left (by omega)]
      · exact .inr (List.mem_cons_of_mem _ h1)
    · rcases List.mem_cons.mp hy with rfl | hy
      · omega
      · exact h3 y hy
theorem maxI_mem {ns : List Int} (h : 0 < ns.length) : maxI ns ∈ ns ∧ ∀ y ∈ ns, y ≤ maxI ns := by
  cases ns with
  | nil => cases h
  | cons n ns =>
    obtain ⟨h1, h2, h3⟩ := foldmax ns n
    refine ⟨?_, fun y hy => ?_⟩
    · rcases h1 with h1 | h1
      · show ns.foldl max n ∈ _
        rw [h1]; exact List.mem_cons_self
      · exact List.mem_cons_of_mem _ h1
    · rcases List.mem_cons.mp hy with rfl | hy
      · exact h2
      · exact h3 y hy
def dMax (d : D) : Option D := (lstD d).bind fun ds => (intsD ds).bind fun ns => chk (0 < ns.length) (.int (maxI ns))
def dMin (d : D) : Option D := (lstD d).bind fun ds => (intsD ds).bind fun ns => chk (0 < ns.length) (.int (minI ns))
def dSum (d : D) : Option D := (lstD d).bind fun ds => (intsD ds).bind fun ns => some (.int ns.sum)
def dAll (d : D) : Option D := (lstD d).bind fun ds => (blsD ds).bind fun ns => some (.bl (ns.all id))
def dAny (d : D) : Option D := (lstD d).bind fun ds => (blsD ds).bind fun ns => some (.bl (ns.any id))
theorem cd_dMax (hc : X.calm = true) (w : Vw M x dx) (h : dMax dx = some z) (p : P z M) : CD X (.builtin "max") [x] M P := by
  obtain ⟨ds, h1, h⟩ := Option.bind_eq_some_iff.mp h
  obtain ⟨ns, h2, h⟩ := Option.bind_eq_some_iff.mp h
  obtain ⟨h3, rfl⟩ := chk_inv h
  obtain rfl := lstD_eq h1
  refine cd_maxL hc w.sl (ints_eq h2) h3 fun m hm hb => ?_
  have q := maxI_mem h3
  have e : m = maxI ns := by have a := hb _ q.1; have b := q.2 _ hm; omega
  rw [e]; exact p
theorem cd_dSum (hc : X.calm = true) (w : Vw M x dx) (h : dSum dx = some z) (p : P z M) : CD X (.builtin "sum") [x] M P := by
  obtain ⟨ds, h1, h⟩ := Option.bind_eq_some_iff.mp h
  obtain ⟨ns, h2, h⟩ := Option.bind_eq_some_iff.mp h
  cases h
  obtain rfl := lstD_eq h1
  obtain rfl := ints_eq h2
  refine ⟨_, cr_sum hc, fun F H vs Q o r k => ?_⟩
  cases r with
  | cons g1 r =>
    cases r
    obtain ⟨a, xs, rfl, g2, r2⟩ := w.sl.get o g1
    obtain rfl := r2.ints
    exact ⟨a, ns, rfl, SqL.of g2, k.here p o (.int _)⟩
def dMax2 : D → D → Option D
  | .int i, .int j => some (.int (if j > i then j else i))
  | _, _ => none
def dMin2 : D → D → Option D
  | .int i, .int j => some (.int (if j < i then j else i))
  | _, _ => none
/-- repr of data without dicts -/
def dRepr (d : D) : Option D := chk (good d ∧ wt d ≤ 16000000 ∧ dep d ≤ 50) (.str (txt d))
/-- isinstance with a built-in class -/
def dIsi (n : String) (d : D) : Option Bool := chk (plain d = true) (isi n d)
theorem cd_dIsi {n : String} (hn : n ∈ ["int", "bool", "str", "tuple", "list", "dict"]) (w : Vw M x dx) (hi : x = dx) (h : dIsi n dx = some t) (p : P (.bl t) M) : CD X (.builtin "isinstance") [x, .ty n] M P := by
  obtain ⟨h1, rfl⟩ := chk_inv h
  subst hi
  exact cd_isi hn h1 p
end
end
end DX
namespace ZMix
open PySem PySem.Spec L2 PyProof.Rows
def SeqK : Bool → Heap → Addr → Array Value → Prop
  | true, h, a, its => h.IsTuple a its
  | false, h, a, its => h.IsList a its
def WalkK : Bool → Heap → Addr → Addr → Nat → Prop
  | true, h, it, a, i => h.IsTupleIter it a i
  | false, h, it, a, i => h.IsListIter it a i
def SqK : Bool → PySem.W.Frag → Hp → Addr → List V → Prop
  | true, K, H, a, xs => SqT K H a xs
  | false, K, H, a, xs => SqL K H a xs
def objK : Bool → Addr → Obj
  | true, a => { cls := .type "tuple_iterator", data := .fields #[.ref a, .int 0 0] }
  | false, a => { cls := .type "list_iterator", data := .fields #[.ref a, .int 0 0] }
/-- both walked side by side, in new pairs -/
def ItM (t u : Bool) (K : PySem.W.Frag) (a b : Addr) : It :=
  ⟨fun i H => ∃ xs ys : List V, ∃ x y : V, SqK t K H a xs ∧ SqK u K H b ys ∧ xs[i]? = some x ∧ ys[i]? = some y,
   fun i H v H' => ∃ n : Addr, ∃ x y : V, v = .ref n ∧ H n = none ∧ H' = upd H n (.tup [x, y]) ∧ (∀ xs, SqK t K H a xs → xs[i]? = some x) ∧ (∀ ys, SqK u K H b ys → ys[i]? = some y),
   fun i H => ∃ xs ys : List V, SqK t K H a xs ∧ SqK u K H b ys ∧ i ≤ xs.length ∧ i ≤ ys.length ∧ (i = xs.length ∨ i = ys.length)⟩
structure Far (z TI TO i1 i2 a b : Addr) : Prop where
  s : ZipSep2 z TI TO i1 i2 [i1, a] [i2, b]
  a1 : a ≠ i1
  b1 : b ≠ i2
  i12 : i1 ≠ i2
def iZipM (t u : Bool) (K : PySem.W.Frag) (ta : TA) : TI := fun σ H R => ta σ H fun vs H1 => ∃ a b : Addr, ∃ xs ys : List V, vs = [.ref a, .ref b] ∧ SqK t K H1 a xs ∧ SqK u K H1 b ys ∧ R (ItM t u K a b) H1
end ZMix
namespace DX
open PySem PySem.Spec L2 ZMix
variable {X : Cx} {J : Gh} {M : Mem} {F : Hp} {K : PySem.W.Frag} {ρ : DEnv} {a b : Expr} {p pos : Pos}
end DX
namespace DX
open PySem PySem.Spec L2 SX
noncomputable section
inductive Ctl (S R : Type) where
  | go (s : S) | brk (s : S) | ret (r : R)
def foldO {S : Type} (f : S → D → Option S) : S → List D → Option S
  | s, [] => some s
  | s, x :: xs => (f s x).bind fun s' => foldO f s' xs
/-- how a loop that may be left ends: brk never -/
def loopC {S R : Type} (f : S → D → Option (Ctl S R)) : S → List D → Option (Ctl S R)
  | s, [] => some (.go s)
  | s, x :: xs => (f s x).bind fun
    | .go s' => loopC f s' xs
    | .brk s' => some (.go s')
    | .ret r => some (.ret r)
def ctl {S R T : Type} (c : Ctl S R) (f : S → Option T) (g : R → Option T) : Option T := match c with
  | .go s => f s
  | .brk s => f s
  | .ret r => g r
theorem ctl_retS {S R : Type} {c : Ctl S R} {f : S → Option R} {v z : R} (h : ctl c f (fun v => some v) = some z) (e : c = .ret v) : some v = some z := by subst e; exact h
theorem ctl_go {S R T : Type} {c : Ctl S R} {f : S → Option T} {g : R → Option T} {v : S} {z : T} (h : ctl c f g = some z) (e : c = .go v) : f v = some z := by subst e; exact h
def whileO {S : Type} (c : S → Option Bool) (f : S → Option S) : Nat → S → Option S
  | 0, _ => none
  | n + 1, s => (c s).bind fun t => if t = true then (f s).bind fun s' => whileO c f n s' else some s
def mapO (f : D → Option D) : List D → Option (List D)
  | [] => some []
  | x :: xs => (f x).bind fun y => (mapO f xs).map fun ys => y :: ys
def filtO (f : D → Option (Option D)) : List D → Option (List D)
  | [] => some []
  | x :: xs => (f x).bind fun o => (filtO f xs).map fun ys => match o with
    | some y => y :: ys
    | none => ys
def mapS {S : Type} (f : S → D → Option (D × S)) : S → List D → Option (List D × S)
  | s, [] => some ([], s)
  | s, x :: xs => (f s x).bind fun p => (mapS f p.2 xs).map fun q => (p.1 :: q.1, q.2)
def filtS {S : Type} (f : S → D → Option (Option D × S)) : S → List D → Option (List D × S)
  | s, [] => some ([], s)
  | s, x :: xs => (f s x).bind fun p => (filtS f p.2 xs).map fun q => (match p.1 with
    | some y => y :: q.1
    | none => q.1, q.2)
/-- the tuple's parts -/
def un1 : D → Option D
  | .tup [a] => some a
  | _ => none
def un2 : D → Option (D × D)
  | .tup [a, b] => some (a, b)
  | _ => none
def un3 : D → Option (D × D × D)
  | .tup [a, b, c] => some (a, b, c)
  | _ => none
def un4 : D → Option (D × D × D × D)
  | .tup [a, b, c, d] => some (a, b, c, d)
  | _ => none
def un5 : D → Option (D × D × D × D × D)
  | .tup [a, b, c, d, e] => some (a, b, c, d, e)
  | _ => none
theorem un2_eq {d : D} {p : D × D} (h : un2 d = some p) : d = .tup [p.1, p.2] := by unfold un2 at h; split at h <;> cases h; rfl
/-- what is walked -/
def dIter : D → Option (List D)
  | .lst ds => some ds
  | .tup ds => some ds
  | .str z => some (signs z)
  | _ => none
def dZip : D → D → Option (List D)
  | .lst a, .lst b => some (zipD a b)
  | .tup a, .tup b => some (zipD a b)
  | .tup a, .lst b => some (zipD a b)
  | .lst a, .tup b => some (zipD a b)
  | _, _ => none
def dEnum : D → Option (List D)
  | .lst a => some (enumD 0 a)
  | .tup a => some (enumD 0 a)
  | _ => none
def dRange : List D → Option (List D)
  | [.int j] => chk (-1000000 ≤ j ∧ j ≤ 1000000) (rngD 0 j.toNat)
  | [.int i, .int j] => chk ((0 ≤ i ∧ i ≤ 1000000) ∧ -1000000 ≤ j ∧ j ≤ 1000000) (rngD i (j - i).toNat)
  | [.int i, .int j, .int c] => if c = -1 then chk ((-1000000 ≤ i ∧ i ≤ 1000000) ∧ -1000000 ≤ j ∧ j ≤ 1000000) (rngC i (-1) (i - j).toNat)
    else chk ((-1000000 ≤ i ∧ i ≤ 1000000) ∧ (-1000000 ≤ j ∧ j ≤ 1000000) ∧ 1 ≤ c ∧ c ≤ 1000) (rngC i c (cntP i j c))
  | _ => none
/-- x[i] = v; x.pop(i); x.pop() -/
def lSet (l : List D) (i v : D) : Option (List D) := match i with
  | .int n => (ixN l.length n).map fun m => l.set m v
  | _ => none
def lPopAt (l : List D) (i : D) : Option (D × List D) := match i with
  | .int n => (chk (-(2 ^ 62) ≤ n ∧ n < 2 ^ 62) ()).bind fun _ => (ixN l.length n).bind fun m => (l[m]?).map fun v => (v, l.eraseIdx m)
  | _ => none
def lPop (l : List D) : Option (D × List D) := (l[l.length - 1]?).map fun v => (v, l.dropLast)
def dJoin (z d : D) : Option D := match z, itemsD d with
  | .str z, some ds => chk (AllS ds ∧ sizeJ ds + ds.length * z.length ≤ 16777216) (.str (Txt.join z (ds.map toS)))
  | _, _ => none
section
variable {X : Cx} {J : Gh} {e a b c o : Expr} {es : List Expr} {ρ ρ' : DEnv} {M M' M0 M1 : Mem} {F F' H H' : Hp} {σ : L2.St} {B : Bd} {K : PySem.W.Frag} {pos p apos cpos : Pos} {x y dx dy z : D} {P : D → Mem → Prop} {t : Bool}
theorem up_none {a b : Addr} {d : D} (h : up M a d b = none) : a ≠ b ∧ M b = none := by
  unfold up at h
  split at h
  · cases h
  · rename_i q; exact ⟨fun e => q e.symm, h⟩
theorem nn {a b : Addr} {d : D} (q : a ≠ b) (h : M b = none) : up M a d b = none := by rw [up_ne (Ne.symm q)]; exact h
theorem At.ne {h b : Addr} {d : D} {f : D → Mem} (A : At M h d f) (q : M b = none) : h ≠ b := by rintro rfl; rw [A.get] at q; cases q
theorem fresh1 {W : D → Mem} {p b : Addr} (hW : ∀ x, At (W x) p x W) {x : D} (h : W x b = none) (y : D) : W y b = none := by
  rw [(hW x).set y, up_ne (Ne.symm ((hW x).ne h))]; exact h
theorem sub_refl : Sub M M := fun _ _ h => h
theorem sub_drop {a : Addr} {d : D} (s : Sub M0 M1) (h : M1 a = none) : Sub M0 (up M1 a d) := fun b d' q => by
  have q1 := s b d' q
  rw [up_ne (fun e => by rw [e, h] at q1; cases q1)]; exact q1
theorem sub_keep {a : Addr} {d : D} (s : Sub M0 M1) : Sub (up M0 a d) (up M1 a d) := fun b d' q => by
  unfold up at q ⊢
  split at q
  · rename_i e; rw [if_pos e]; exact q
  · rename_i e; rw [if_neg e]; exact s b d' q
theorem subx_here {p : Addr} {d : D} (h : M p = none) : SubX p M (up M p d) := fun a d' q => by
  have : a ≠ p := fun e => by rw [e, h] at q; cases q
  exact ⟨this, by rw [up_ne this]; exact q⟩
theorem ex_less (h : EX X J e ρ M fun d M1 => ∃ M0, Sub M0 M1 ∧ P d M0) : EX X J e ρ M P :=
  ex_of h fun F σ H Q st k => ⟨F, st, fun d v M' F' H' q e1 o1 r1 => by
    obtain ⟨M0, s, q⟩ := q
    exact k d v M0 F' H' q e1 (o1.sub s) r1⟩
theorem gx_frzA {sts : List Stmt} {p : Addr} {d : D} (i : Nat) (hi : DX.look ρ i = some (.adr p)) (hp : M p = some d) (sx : SubX p M0 M) (h : GX X J sts (DX.put ρ i d) M0 B) (hf : frzD d = true := by rfl) : GX X J sts ρ M B :=
  ⟨fun pins s σ H E I ⟨F, st, k⟩ => by
    obtain ⟨u, hu⟩ := (st.ok.mt p _ hp).2.there
    obtain ⟨s1, o4⟩ := st.ok.frz sx hp hu
    exact h.run pins s σ H E I ⟨_, ⟨(st.en.mono s1).frz hi ((st.ok.mt p _ hp).2.rp hu s1 upd_same hf), o4, J.mono _ _ s1 st.gh⟩, ⟨fun F' σ' H' ρ' M' q z1 z2 z3 => k.nx F' σ' H' ρ' M' q (s1.trans z1) z2 z3, k.rt.to s1, fun F' σ' H' ρ' M' q z1 z2 z3 => k.bk F' σ' H' ρ' M' q (s1.trans z1) z2 z3, fun F' σ' H' ρ' M' q z1 z2 z3 => k.ct F' σ' H' ρ' M' q (s1.trans z1) z2 z3⟩⟩⟩
theorem ret0 {v r : D} (e : v = r) (k : P r M) : P v M := by subst e; exact k
theorem ret1 {v : D} {r : D × List D} {l : List D} {W : D → Mem} (e : (v, l) = r) (k : P r.1 (W (.lst r.2))) : P v (W (.lst l)) := by subst e; exact k
theorem as_eq {tg : Expr} {d d' : D} {Q : DEnv → Prop} (e : d = d') (h : AsD X tg d' ρ Q) : AsD X tg d ρ Q := by subst e; exact h
theorem ix_seqU {tg : Expr} {v : D} {ds : List D} {M2 : Mem} {P : List D → Mem → Prop} (h : EX X J e ρ M fun d M' => d = v ∧ M' = M2) (hv : dIter v = some ds) (k : P ds M2) : IX X J tg e ρ M P := by
  cases v <;> cases hv
  · exact ix_str (h.imp fun d M' q => ⟨_, q.1, by rw [q.2]; exact k⟩)
  · exact ix_tup (h.imp fun d M' q => ⟨_, q.1, by rw [q.2]; exact k⟩)
  · exact ix_lst (h.imp fun d M' q => ⟨_, q.1, by rw [q.2]; exact k⟩)
theorem ix_enumU {elts : List Expr} {kk : Nat} {tpos : Pos} {v : D} {ds : List D} {M2 : Mem} {P : List D → Mem → Prop} (hm : X.mg "enumerate" = none) (h : AX X J [a] ρ M fun ws M' => ws = [v] ∧ M' = M2) (hv : dEnum v = some ds) (k : P ds M2) (hg : Gl X "enumerate" := by rfl)
    (hs : starEach [a] X.env = [(false, eval a X.env)] := by rfl) : IX X J (.Tuple elts kk tpos) (.Call (.Name "enumerate" p) [a] [] pos) ρ M P := by
  cases v <;> cases hv
  · exact ix_enumT hm (h.imp fun d M' q => ⟨_, q.1, by rw [q.2]; exact k⟩) hg hs
  · exact ix_enum hm (h.imp fun d M' q => ⟨_, q.1, by rw [q.2]; exact k⟩) hg hs
theorem ix_range1U {tg : Expr} {v : D} {ds : List D} {M2 : Mem} {P : List D → Mem → Prop} (hm : X.mg "range" = none) (h : AX X J [a] ρ M fun ws M' => ws = [v] ∧ M' = M2) (hv : dRange [v] = some ds) (k : P ds M2) (hg : Gl X "range" := by rfl)
    (hs : starEach [a] X.env = [(false, eval a X.env)] := by rfl) : IX X J tg (.Call (.Name "range" p) [a] [] pos) ρ M P := by
  cases v <;> first | (cases hv; done) | skip
  obtain ⟨h1, rfl⟩ := chk_inv hv
  exact ix_range1 hm (h.imp fun d M' q => ⟨_, q.1, ⟨by omega, by omega⟩, by rw [q.2]; exact k⟩) hg hs
theorem ix_range2U {tg : Expr} {v w : D} {ds : List D} {M2 : Mem} {P : List D → Mem → Prop} (hm : X.mg "range" = none) (h : AX X J [a, b] ρ M fun ws M' => ws = [v, w] ∧ M' = M2) (hv : dRange [v, w] = some ds) (k : P ds M2) (hg : Gl X "range" := by rfl)
    (hs : starEach [a, b] X.env = [(false, eval a X.env), (false, eval b X.env)] := by rfl) (hs2 : starEach [b] X.env = [(false, eval b X.env)] := by rfl) : IX X J tg (.Call (.Name "range" p) [a, b] [] pos) ρ M P := by
  cases v <;> first | (cases hv; done) | skip
  cases w <;> first | (cases hv; done) | skip
  obtain ⟨h1, rfl⟩ := chk_inv hv
  exact ix_range2 hm (h.imp fun d M' q => ⟨_, _, q.1, ⟨by omega, by omega, by omega, by omega⟩, by rw [q.2]; exact k⟩) hg hs hs2
theorem ix_range3U {tg : Expr} {v w : D} {ds : List D} {M2 : Mem} {P : List D → Mem → Prop} (hm : X.mg "range" = none) (h : AX X J [a, b, c] ρ M fun ws M' => ws = [v, w, .int (-1)] ∧ M' = M2) (hv : dRange [v, w, .int (-1)] = some ds) (k : P ds M2) (hg : Gl X "range" := by rfl)
    (hs : starEach [a, b, c] X.env = (false, eval a X.env) :: starEach [b, c] X.env := by rfl) (hpl : (backTo pos (starEach [b, c] X.env)).any (·.1) = false := by rfl) : IX X J tg (.Call (.Name "range" p) [a, b, c] [] pos) ρ M P := by
  cases v <;> first | (cases hv; done) | skip
  cases w <;> first | (cases hv; done) | skip
  unfold dRange at hv
  dsimp only at hv
  rw [if_pos rfl] at hv
  obtain ⟨h1, rfl⟩ := chk_inv hv
  exact ix_range3 hm (h.imp fun d M' q => ⟨_, _, q.1, h1, by rw [q.2]; exact k⟩) hg hs hpl
theorem rg_d {vs ds : List D} (h : dRange vs = some ds) (hc : ∀ i j c, vs = [.int i, .int j, .int c] → c = -1) : ∃ i c n, Rg vs i c n ∧ ds = rngC i c n := by
  unfold dRange at h
  split at h
  · obtain ⟨h1, rfl⟩ := chk_inv h; exact ⟨_, _, _, rg1 (by omega), rngC_one.symm⟩
  · obtain ⟨h1, rfl⟩ := chk_inv h; exact ⟨_, _, _, rg2 (by omega), rngC_one.symm⟩
  · rename_i i j c
    obtain rfl := hc _ _ _ rfl
    rw [if_pos rfl] at h
    obtain ⟨h1, rfl⟩ := chk_inv h; exact ⟨_, _, _, rg3 h1, rfl⟩
  · cases h
section
variable {S R : Type} {xs : List D} {tg : Expr} {stm : List Stmt}
theorem drop_at {i : Nat} {d : D} (h : xs[i]? = some d) : xs.drop i = d :: xs.drop (i + 1) := by
  have hi : i < xs.length := by
    by_cases q : i < xs.length
    · exact q
    · rw [List.getElem?_eq_none (by omega)] at h; cases h
  rw [List.getElem?_eq_getElem hi] at h
  cases h
  exact List.drop_eq_getElem_cons hi
theorem forF {f : S → D → Option S} {s0 sN : S} (hl : foldO f s0 xs = some sN) (V : S → DEnv → Mem → Prop) (h0 : V s0 ρ M)
    (hs : ∀ d s s', f s d = some s' → ∀ ρ' M', V s ρ' M' → AsD X tg d ρ' fun ρ2 => GX X J stm ρ2 M' ⟨V s', B.rt, B.nx, V s'⟩) (hd : ∀ ρ' M', V sN ρ' M' → B.nx ρ' M') :
    ∃ Wd : Nat → DEnv → Mem → Prop, Wd 0 ρ M ∧ (∀ i d ρ' M', xs[i]? = some d → Wd i ρ' M' → AsD X tg d ρ' fun ρ2 => GX X J stm ρ2 M' ⟨Wd (i + 1), B.rt, B.nx, Wd (i + 1)⟩) ∧ ∀ ρ' M', Wd xs.length ρ' M' → B.nx ρ' M' := by
  refine ⟨fun i ρ' M' => ∃ s, foldO f s (xs.drop i) = some sN ∧ V s ρ' M', ⟨s0, hl, h0⟩, fun i d ρ' M' hi ⟨s, h1, h2⟩ => ?_, fun ρ' M' ⟨s, h1, h2⟩ => ?_⟩
  · rw [drop_at hi, foldO] at h1
    obtain ⟨s', h3, h4⟩ := Option.bind_eq_some_iff.mp h1
    obtain ⟨g, hg, h⟩ := hs d s s' h3 ρ' M' h2
    exact ⟨g, hg, fun F M v σ H Q o r en k => h F M v σ H Q o r en fun σ' ρ2 q en2 => k σ' ρ2 (q.imp (fun _ _ z => ⟨s', h4, z⟩) (fun _ _ z => z) (fun _ _ z => z) (fun _ _ z => ⟨s', h4, z⟩)) en2⟩
  · rw [List.drop_length, foldO] at h1
    cases h1
    exact hd ρ' M' h2
theorem forC {f : S → D → Option (Ctl S R)} {s0 : S} {c : Ctl S R} (hl : loopC f s0 xs = some c) (V : S → DEnv → Mem → Prop) (h0 : V s0 ρ M)
    (hs : ∀ d s b, f s d = some b → (∀ r, b = .ret r → c = .ret r) → ∀ ρ' M', V s ρ' M' → AsD X tg d ρ' fun ρ2 => GX X J stm ρ2 M' ⟨fun ρ M => ∃ s', b = .go s' ∧ V s' ρ M, B.rt, fun ρ M => ∃ s', b = .brk s' ∧ V s' ρ M, fun ρ M => ∃ s', b = .go s' ∧ V s' ρ M⟩)
    (hd : ∀ s', c = .go s' → ∀ ρ' M', V s' ρ' M' → B.nx ρ' M') :
    ∃ Wd : Nat → DEnv → Mem → Prop, Wd 0 ρ M ∧ (∀ i d ρ' M', xs[i]? = some d → Wd i ρ' M' → AsD X tg d ρ' fun ρ2 => GX X J stm ρ2 M' ⟨Wd (i + 1), B.rt, B.nx, Wd (i + 1)⟩) ∧ ∀ ρ' M', Wd xs.length ρ' M' → B.nx ρ' M' := by
  refine ⟨fun i ρ' M' => ∃ s, loopC f s (xs.drop i) = some c ∧ V s ρ' M', ⟨s0, hl, h0⟩, fun i d ρ' M' hi ⟨s, h1, h2⟩ => ?_, fun ρ' M' ⟨s, h1, h2⟩ => ?_⟩
  · rw [drop_at hi, loopC] at h1
    obtain ⟨b, h3, h4⟩ := Option.bind_eq_some_iff.mp h1
    obtain ⟨g, hg, h⟩ := hs d s b h3 (fun r e => by subst e; cases h4; rfl) ρ' M' h2
    refine ⟨g, hg, fun F M v σ H Q o r en k => h F M v σ H Q o r en fun σ' ρ2 q en2 => k σ' ρ2 (q.imp (fun _ _ z => ?_) (fun _ _ z => z) (fun _ _ z => ?_) (fun _ _ z => ?_)) en2⟩
    · obtain ⟨s', e, z⟩ := z; subst e; exact ⟨s', h4, z⟩
    · obtain ⟨s', e, z⟩ := z; subst e; exact hd s' (so h4).symm _ _ z
    · obtain ⟨s', e, z⟩ := z; subst e; exact ⟨s', h4, z⟩
  · rw [List.drop_length, loopC] at h1
    exact hd s (so h1).symm ρ' M' h2
theorem whF {cF : S → Option Bool} {f : S → Option S} {n : Nat} {s0 sN : S} {c : Expr} (hp : PassesOwn (model X.prog X.w) X.A X.env X.xe) (hl : whileO cF f n s0 = some sN) (V : S → DEnv → Mem → Prop) (h0 : V s0 ρ M)
    (hs : ∀ s t ρ' M', cF s = some t → V s ρ' M' → TX X J c ρ' M' fun t' M1 => t' = t ∧ M1 = M')
    (hb : ∀ s s' ρ' M', f s = some s' → V s ρ' M' → GX X J stm ρ' M' ⟨V s', B.rt, B.nx, V s'⟩) (hd : ∀ ρ' M', V sN ρ' M' → B.nx ρ' M') : G1 X J (.While c stm [] pos) ρ M B := by
  refine g1_while hp (fun m ρ' M' => ∃ s, whileO cF f m s = some sN ∧ V s ρ' M') n ⟨s0, hl, h0⟩ fun m ρ' M' ⟨s, h1, h2⟩ => ?_
  cases m with
  | zero => cases h1
  | succ m =>
    rw [whileO] at h1
    obtain ⟨t, h3, h4⟩ := Option.bind_eq_some_iff.mp h1
    refine (hs s t ρ' M' h3 h2).imp fun t' M1 q => ?_
    obtain ⟨rfl, rfl⟩ := q
    refine ⟨fun e => ?_, fun e => ?_⟩
    · subst e
      rw [if_pos rfl] at h4
      obtain ⟨s', h5, h6⟩ := Option.bind_eq_some_iff.mp h4
      exact (hb s s' ρ' _ h5 h2).imp (fun _ _ z => ⟨m, Nat.lt_succ_self _, s', h6, z⟩) (fun _ _ z => z) (fun _ _ z => z) (fun _ _ z => ⟨m, Nat.lt_succ_self _, s', h6, z⟩)
    · subst e
      rw [if_neg (by decide)] at h4
      cases h4
      exact hd ρ' _ h2
end
section
variable {S : Type} {scope : Scope} {tg elt : Expr} {ifs : List Expr} {vs : List Nat} {xs ys : List D}
theorem len_at {i : Nat} {d : D} (h : xs[i]? = some d) : i < xs.length := by
  by_cases q : i < xs.length
  · exact q
  · rw [List.getElem?_eq_none (by omega)] at h; cases h
theorem lcF {f : D → Option D} (hl : mapO f xs = some ys) (hz : xs.length ≤ 1000000)
    (hs : ∀ d y acc Dl, f d = some y → M Dl = none → AsB X scope vs tg d (cuts ρ vs) fun ρ2 => EXb X J scope elt ρ2 (up M Dl (.lst acc)) fun y' M3 => y' = y ∧ M3 = up M Dl (.lst acc)) (k : P (.lst ys) M) : LcW X J scope vs tg [] elt ρ P xs M := by
  refine ⟨fun i acc M' => M' = M ∧ acc.length = i ∧ ∃ r, mapO f (xs.drop i) = some r ∧ acc ++ r = ys, ⟨rfl, rfl, ys, hl, rfl⟩, fun i d acc M' Dl hi ⟨e, ha, r, h1, h2⟩ hD => ?_, fun acc M' ⟨e, ha, r, h1, h2⟩ => ?_⟩
  · subst e
    have hi2 := len_at hi
    refine ⟨by omega, ?_⟩
    rw [drop_at hi, mapO] at h1
    obtain ⟨y, h3, h1⟩ := Option.bind_eq_some_iff.mp h1
    obtain ⟨r', h4, rfl⟩ := Option.map_eq_some_iff.mp h1
    obtain ⟨g, hg, h⟩ := hs d y acc Dl h3 hD
    refine ⟨g, hg, fun F M v σ H Q o r en k => h F M v σ H Q o r en fun σ' ρ2 q en2 w => k σ' ρ2 ?_ en2 w⟩
    refine txb_nil ⟨fun _ => fun s H C cl fp => (q s H C cl fp).imp fun y' M3 z => ?_, fun h => nomatch h⟩
    obtain ⟨rfl, rfl⟩ := z
    exact ⟨M', hD, rfl, rfl, by rw [List.length_append, ha]; rfl, r', h4, by rw [List.append_assoc]; exact h2⟩
  · rw [List.drop_length, mapO] at h1
    cases h1
    subst e
    rw [List.append_nil] at h2
    subst h2
    exact k
theorem filtF {f : D → Option (Option D)} (hl : filtO f xs = some ys) (hz : xs.length ≤ 1000000)
    (hs : ∀ d y acc Dl, f d = some y → M Dl = none → AsB X scope vs tg d (cuts ρ vs) fun ρ2 => TXb X J scope ifs ρ2 (up M Dl (.lst acc)) fun t M2 => (t = true → EXb X J scope elt ρ2 M2 fun y' M3 => y = some y' ∧ M3 = up M Dl (.lst acc)) ∧ (t = false → y = none ∧ M2 = up M Dl (.lst acc))) (k : P (.lst ys) M) : LcW X J scope vs tg ifs elt ρ P xs M := by
  refine ⟨fun i acc M' => M' = M ∧ acc.length ≤ i ∧ ∃ r, filtO f (xs.drop i) = some r ∧ acc ++ r = ys, ⟨rfl, Nat.le_refl _, ys, hl, rfl⟩, fun i d acc M' Dl hi ⟨e, ha, r, h1, h2⟩ hD => ?_, fun acc M' ⟨e, ha, r, h1, h2⟩ => ?_⟩
  · subst e
    have hi2 := len_at hi
    refine ⟨by omega, ?_⟩
    rw [drop_at hi, filtO] at h1
    obtain ⟨y, h3, h1⟩ := Option.bind_eq_some_iff.mp h1
    obtain ⟨r', h4, rfl⟩ := Option.map_eq_some_iff.mp h1
    obtain ⟨g, hg, h⟩ := hs d y acc Dl h3 hD
    refine ⟨g, hg, fun F M v σ H Q o r en k => h F M v σ H Q o r en fun σ' ρ2 q en2 w => k σ' ρ2 ?_ en2 w⟩
    obtain ⟨tt, h5, h6⟩ := q
    refine ⟨tt, h5, fun F σ H Q st kb => h6 F σ H Q st fun tb M2 F' H' q e o => kb tb M2 F' H' ?_ e o⟩
    refine ⟨fun ht => fun s H C cl fp => (q.1 ht s H C cl fp).imp fun y' M3 z => ?_, fun ht => ?_⟩
    · obtain ⟨rfl, rfl⟩ := z
      exact ⟨M', hD, rfl, rfl, by rw [List.length_append, List.length_singleton]; omega, r', h4, by rw [List.append_assoc]; exact h2⟩
    · obtain ⟨rfl, e2⟩ := q.2 ht
      exact ⟨M', hD, e2, rfl, by omega, r', h4, h2⟩
  · rw [List.drop_length, filtO] at h1
    cases h1
    subst e
    rw [List.append_nil] at h2
    subst h2
    exact k
theorem mapSF {f : S → D → Option (D × S)} {s0 sN : S} (hl : mapS f s0 xs = some (ys, sN)) (hz : xs.length ≤ 1000000) (W : S → Mem) (hM : M = W s0)
    (hs : ∀ d s q acc Dl, f s d = some q → W s Dl = none → AsB X scope vs tg d (cuts ρ vs) fun ρ2 => EXb X J scope elt ρ2 (up (W s) Dl (.lst acc)) fun y' M3 => y' = q.1 ∧ W q.2 Dl = none ∧ M3 = up (W q.2) Dl (.lst acc)) (k : P (.lst ys) (W sN)) : LcW X J scope vs tg [] elt ρ P xs M := by
  refine ⟨fun i acc M' => acc.length = i ∧ ∃ s r, M' = W s ∧ mapS f s (xs.drop i) = some (r, sN) ∧ acc ++ r = ys, ⟨rfl, s0, ys, hM, hl, rfl⟩, fun i d acc M' Dl hi ⟨ha, s, r, e, h1, h2⟩ hD => ?_, fun acc M' ⟨ha, s, r, e, h1, h2⟩ => ?_⟩
  · subst e
    have hi2 := len_at hi
    refine ⟨by omega, ?_⟩
    rw [drop_at hi, mapS] at h1
    obtain ⟨q, h3, h1⟩ := Option.bind_eq_some_iff.mp h1
    obtain ⟨q', h4, e4⟩ := Option.map_eq_some_iff.mp h1
    obtain ⟨r', s'⟩ := q'
    cases e4
    obtain ⟨g, hg, h⟩ := hs d s q acc Dl h3 hD
    refine ⟨g, hg, fun F M v σ H Q o r en k => h F M v σ H Q o r en fun σ' ρ2 q en2 w => k σ' ρ2 ?_ en2 w⟩
    refine txb_nil ⟨fun _ => fun s H C cl fp => (q s H C cl fp).imp fun y' M3 z => ?_, fun h => nomatch h⟩
    obtain ⟨rfl, z2, rfl⟩ := z
    exact ⟨W _, z2, rfl, by rw [List.length_append, ha]; rfl, _, r', rfl, h4, by rw [List.append_assoc]; exact h2⟩
  · rw [List.drop_length, mapS] at h1
    cases h1
    subst e
    rw [List.append_nil] at h2
    subst h2
    exact k
end
def strD : D → Option Str
  | .str z => some z
  | _ => none
theorem strD_eq {d : D} {z : Str} (h : strD d = some z) : d = .str z := by cases d <;> cases h; rfl
def dJoinS (z : Str) (d : D) : Option D := (itemsD d).bind fun ds => chk (AllS ds ∧ sizeJ ds + ds.length * z.length ≤ 16777216) (.str (Txt.join z (ds.map toS)))
theorem jn {z : Str} {y dy r : D} (w : Vw M y dy) (h : dJoinS z dy = some r) (p : P r M) : ∃ ds, Sq M y ds ∧ AllS ds ∧ sizeJ ds + ds.length * z.length ≤ 16777216 ∧ P (.str (Txt.join z (ds.map toS))) M := by
  obtain ⟨ds, h1, h⟩ := Option.bind_eq_some_iff.mp h
  obtain ⟨⟨h2, h3⟩, rfl⟩ := chk_inv h
  refine ⟨ds, ?_, h2, h3, p⟩
  rcases items_eq h1 with rfl | rfl
  · exact w.sq
  · cases w with
    | id => exact .tup
    | ad q hf => cases hf
def lExt (l : List D) (v : D) : Option (List D) := (lstD v).bind fun es => chk (l.length + es.length ≤ 1000000) (l ++ es)
theorem g1_setIxF {tp : Pos} (h : EX X J e ρ M fun y M1 => EX X J o ρ M1 fun d M2 => EX X J a ρ M2 fun i M3 => ∃ q l f l', d = .adr q ∧ At M3 q (.lst l) f ∧ lSet l i y = some l' ∧ B.nx ρ (f (.lst l')))
    (hs : swapsWithSole [.Subscript o a tp] e pos.line X.env = pure false := by rfl) (hw : swappedStores [.Subscript o a tp] e X.env = pure none := by rfl)
    (h1 : (assignEach [.Subscript o a tp] X.env).map (·.2) = [assign (.Subscript o a tp) X.env] := by rfl)
    (ha : ∀ v, assign (.Subscript o a tp) X.env v = (do let ov ← holding [v] (eval o X.env); let iv ← holding [v, ov] (eval a X.env); standAt tp; holding [v, ov, iv] (setItem ov iv v); release [v, ov, iv] []) := by intro _; rfl) : G1 X J (.Assign [.Subscript o a tp] e pos) ρ M B :=
  g1_setIx (h.imp fun y M1 q => q.imp fun d M2 q => q.imp fun i M3 q => by
    obtain ⟨q, l, f, l', e1, hA, h1, k⟩ := q
    unfold lSet at h1
    split at h1
    · obtain ⟨m, h2, rfl⟩ := Option.map_eq_some_iff.mp h1
      exact ⟨q, l, f, _, m, e1, rfl, hA, h2, k⟩
    · cases h1) hs hw h1 ha
end
end
end DX
namespace DX
open PySem PySem.Spec L2 SX
noncomputable section
def iOp (f : Int → Int → Int) : D → D → Option D
  | .int i, .int j => some (.int (f i j))
  | _, _ => none
theorem iOp_eq {f : Int → Int → Int} {a b z : D} (h : iOp f a b = some z) : ∃ i j, a = .int i ∧ b = .int j ∧ z = .int (f i j) := by
  unfold iOp at h
  split at h
  · cases h; exact ⟨_, _, rfl, rfl, rfl⟩
  · cases h
def keyD : D → Option Key
  | .int i => some (.inl i)
  | .str z => some (.inr z)
  | _ => none
theorem keyD_eq {d : D} {k : Key} (h : keyD d = some k) : d = kD k := by cases d <;> cases h <;> rfl
def dctD : D → Option (List (Key × D))
  | .dct l => some l
  | _ => none
theorem dctD_eq {d : D} {l : List (Key × D)} (h : dctD d = some l) : d = .dct l := by cases d <;> cases h; rfl
def kvsD : List D → Option (List (Key × D))
  | [] => some []
  | .tup [a, b] :: ds => (keyD a).bind fun k => (kvsD ds).map fun l => (k, b) :: l
  | _ => none
theorem kvs_eq : ∀ {ds : List D} {l : List (Key × D)}, kvsD ds = some l → ds = prsD l := by
  intro ds
  induction ds with
  | nil => intro l h; cases h; rfl
  | cons d ds ih =>
    intro l h
    unfold kvsD at h
    split at h
    · rename_i e; cases e
    · rename_i a b ds' e
      cases e
      obtain ⟨k, h1, h⟩ := Option.bind_eq_some_iff.mp h
      obtain ⟨l', h2, rfl⟩ := Option.map_eq_some_iff.mp h
      rw [ih h2, keyD_eq h1]; rfl
    · cases h
section
variable {X : Cx} {J : Gh} {e a b c o : Expr} {es : List Expr} {ρ ρ' : DEnv} {M M' M0 M1 : Mem} {F F' H H' : Hp} {σ : L2.St} {B : Bd} {K : PySem.W.Frag} {pos p apos cpos : Pos} {x y dx dy z : D} {P : D → Mem → Prop} {t : Bool}
theorem g1_augF {x : Str} {op : Operator} {f : Int → Int → Int} (ho : PIp X op (ipI f)) (i : Nat) {u : D} (hu : look ρ i = some u) (h : EX X J e ρ M fun d M1 => ∃ z, iOp f u d = some z ∧ B.nx (put ρ i z) M1)
    (hN : X.N.Nodup := by rfl) (hi : X.N[i]? = some x := by rfl) (hx : Loc X.env.scope x := by first | exact Or.inl rfl | exact Or.inr rfl) (hf : X.fn x = true ∨ X.env.scope.names.lookup x = some .local := by first | exact .inl rfl | exact .inr rfl) :
    G1 X J (.AugAssign (.Name x p) op e pos) ρ M B := by
  cases u with
  | int v =>
    refine g1_aug ho i ⟨v, hu, h.imp fun d M1 q => ?_⟩ hN hi hx hf
    obtain ⟨z, h1, q⟩ := q
    obtain ⟨i', j', e1, rfl, rfl⟩ := iOp_eq h1
    cases e1
    exact ⟨_, rfl, q⟩
  | _ => 
    refine g1_of (ps_aug hN hi hx pe_any ho hf) fun F σ H E s k => ?_
    obtain ⟨v0, h1, h2⟩ := s.en.look hu
    refine ⟨_, h1, h.go s fun d v M1 F1 H1 q e1 o1 r1 => ?_⟩
    obtain ⟨z, h1, q⟩ := q
    obtain ⟨i', j', e2, _, _⟩ := iOp_eq h1
    cases e2
theorem sqOf {l : List D} (w : Vw M x dx) (h : itemsD dx = some l) : Sq M x l := by
  rcases items_eq h with rfl | rfl
  · exact w.sq
  · cases w with
    | id => exact .tup
    | ad q hf => cases hf
theorem rgkT {vs ds : List D} (h : dRange vs = some ds) (hc : ∀ i j c, vs = [.int i, .int j, .int c] → c = -1) (p : P (.tup ds) M) : ∃ i c n, Rg vs i c n ∧ P (.tup (rngC i c n)) M := by
  obtain ⟨i, c, n, h1, rfl⟩ := rg_d h hc
  exact ⟨i, c, n, h1, p⟩
theorem rgkL {vs ds : List D} (h : dRange vs = some ds) (hc : ∀ i j c, vs = [.int i, .int j, .int c] → c = -1) (p : P (.lst ds) M) : ∃ i c n, Rg vs i c n ∧ P (.lst (rngC i c n)) M := by
  obtain ⟨i, c, n, h1, rfl⟩ := rg_d h hc
  exact ⟨i, c, n, h1, p⟩
theorem rgkM {vs ds : List D} (h : dRange vs = some ds) (hc : ∀ i j c, vs = [.int i, .int j, .int c] → c = -1) (p : ∀ q, M q = none → P (.adr q) (up M q (.lst ds))) : ∃ i c n, Rg vs i c n ∧ ∀ q, M q = none → P (.adr q) (up M q (.lst (rngC i c n))) := by
  obtain ⟨i, c, n, h1, rfl⟩ := rg_d h hc
  exact ⟨i, c, n, h1, p⟩
theorem popK {l : List D} {r : D × List D} {q : Addr} {f : D → Mem} (h : lPopAt l x = some r) (A : At M q (.lst l) f) (k : P r.1 (f (.lst r.2))) : ∃ i ds f y n, [x] = [.int i] ∧ At M q (.lst ds) f ∧ (-(2 ^ 63) ≤ i ∧ i < 2 ^ 63) ∧ ixN ds.length i = some n ∧ ds[n]? = some y ∧ P y (f (.lst (ds.eraseIdx n))) := by
  unfold lPopAt at h
  split at h
  · obtain ⟨_, h1, h⟩ := Option.bind_eq_some_iff.mp h
    obtain ⟨m, h2, h⟩ := Option.bind_eq_some_iff.mp h
    obtain ⟨v, h3, rfl⟩ := Option.map_eq_some_iff.mp h
    have h1 := (chk_inv h1).1
    exact ⟨_, l, f, v, m, rfl, A, ⟨by omega, by omega⟩, h2, h3, k⟩
  · cases h
theorem cd_dictK {l : List D} {kvs : List (Key × D)} (h : kvsD l = some kvs) (q : P (.dct (mergeD [] kvs)) M) (hc : X.calm = true := by rfl) : CD X (.type "dict") [.stup l] M P := by
  rw [kvs_eq h]; exact cd_dict hc q
def dLstrip (z : Str) : D → Option D
  | .str y => chk (z.length ≤ 1000000) (.str (Txt.lstripChars z y))
  | _ => none
theorem cwS {M : Model} {A : Around} {E : Value → Shared → Prop} {s : Shared} {f : Value} {first : List Value} {pos : Pos} {Q : Value → Shared → Prop} {Ph : Heap → Prop} {args : List (Bool × Sem Value)} {kw : List (Option Str × Sem Value)} (hst : (args.any (·.1) || kw.any (·.1.isNone)) = true)
    (hk : ∀ h, Ph h → ∃ k, (k = Keeper.frame ∨ k = Keeper.machine ∨ k = Keeper.boundFrame) ∧ PySem.W.Looks M h (keeperOf f) k)
    (h : wpAny M A (evalArgs f true args kw) (fun a s1 => Ph s1.heap ∧ wpAny M A (call f (first ++ a.pos) a.kw) Q E s1) E s) : wpAny M A (callWith pos f first args kw) Q E s := by
  unfold callWith
  refine wpAny_bind (wpAny_holding (wpAny_mono h (fun a s1 g => wpAny_bind (wpAny_standAt ?_)) fun _ _ x => x))
  obtain ⟨k, hk', L⟩ := hk _ g.1
  simp only [hst]
  refine wpAny_bind (L.here ?_)
  have fin : ∀ {z : Sem Value}, wpAny M A z Q E s1 → wpAny M A (z >>= fun r => holding [r] point >>= fun _ => pure r) Q E s1 := by
    intro z hz
    exact wpAny_bind (wpAny_mono hz (fun r s2 hr => wpAny_bind (wpAny_holding (wpAny_point (wpAny_pure hr)))) fun _ _ x => x)
  rcases hk' with rfl | rfl | rfl
  · refine fin ?_
    show wpAny M A (callMarked _ f (first ++ a.pos) a.kw) Q E s1
    unfold callMarked
    exact Calls.wpAny_keep g.2
  · exact fin (wpAny_operating g.2)
  · exact fin (wpAny_operating g.2)
theorem ex_joinF (h : EX X J o ρ M fun d M1 => ∃ z, d = .str z ∧ EX X J e ρ M1 fun d2 M2 => ∃ dy r, Vw M2 d2 dy ∧ dJoinS z dy = some r ∧ P r M2)
    (hbase : attributeBase o "join" X.env (eval o X.env) = eval o X.env := by rfl)
    (few : ((backTo cpos (starEach [e] X.env)).all (fun x => !x.1) && (backToKw cpos (keywordEach [] X.env)).all (fun x => x.1.isSome) && decide ([e].length + ([] : List Keyword).length + (if ([] : List Keyword).isEmpty then 0 else 1) < 30)) = true := by rfl)
    (line : (apos.endLine == cpos.line) = true := by rfl) (hst : starEach [e] X.env = (false, eval e X.env) :: starEach [] X.env := by rfl) (hpl : (backTo cpos (starEach [] X.env)).any (·.1) = false := by rfl) :
    EX X J (.Call (.Attribute o "join" apos) [e] [] cpos) ρ M P :=
  ex_join (h.imp fun d M1 q => by
    obtain ⟨z, e1, q⟩ := q
    exact ⟨z, e1, q.imp fun d2 M2 q => by
      obtain ⟨dy, r, w, h1, k⟩ := q
      exact jn w h1 k⟩) (hbase := hbase) (hline := line) (hs := hst)
theorem ex_popF (h : EX X J o ρ M fun d M1 => ∃ q l, d = .adr q ∧ M1 q = some (.lst l) ∧ EX X J e ρ M1 fun y M2 => ∃ l f r, At M2 q (.lst l) f ∧ lPopAt l y = some r ∧ P r.1 (f (.lst r.2)))
    (hbase : attributeBase o "pop" X.env (eval o X.env) = eval o X.env := by rfl)
    (few : ((backTo cpos (starEach [e] X.env)).all (fun x => !x.1) && (backToKw cpos (keywordEach [] X.env)).all (fun x => x.1.isSome) && decide ([e].length + ([] : List Keyword).length + (if ([] : List Keyword).isEmpty then 0 else 1) < 30)) = true := by rfl)
    (line : (apos.endLine == cpos.line) = true := by rfl) (hst : starEach [e] X.env = (false, eval e X.env) :: starEach [] X.env := by rfl) (hpl : (backTo cpos (starEach [] X.env)).any (·.1) = false := by rfl) :
    EX X J (.Call (.Attribute o "pop" apos) [e] [] cpos) ρ M P :=
  ex_pop (h.imp fun d M1 q => by
    obtain ⟨a, l, e1, h1, q⟩ := q
    refine ⟨a, l, e1, h1, ax_cons (q.imp fun y M2 q => ax_nil ?_) hst⟩
    obtain ⟨l, f, r, A, h2, k⟩ := q
    exact popK h2 A k) hbase few line hst hpl
theorem ex_tupRF {p' pos' : Pos} (hc : X.calm = true) (hmt : X.mg "tuple" = none) (hm : X.mg "range" = none) (h : AX X J (a :: es) ρ M fun vs M1 => ∃ ds, dRange vs = some ds ∧ (∀ i j c, vs = [.int i, .int j, .int c] → c = -1) ∧ P (.tup ds) M1) (hgt : Gl X "tuple" := by rfl) (hg : Gl X "range" := by rfl)
    (na : starEach [.Call (.Name "range" p') (a :: es) [] pos'] X.env = (false, eval (.Call (.Name "range" p') (a :: es) [] pos') X.env) :: starEach [] X.env := by rfl) (he : starEach (a :: es) X.env = (false, eval a X.env) :: starEach es X.env := by rfl) (hpl : (backTo pos' (starEach es X.env)).any (·.1) = false := by rfl) : EX X J (.Call (.Name "tuple" p) [.Call (.Name "range" p') (a :: es) [] pos'] [] pos) ρ M P :=
  ex_tupR hc hmt hm (h.imp fun vs M1 q => by
    obtain ⟨ds, h1, h2, k⟩ := q
    exact rgkT h1 h2 k) (hgt := hgt) (hg := hg) (hs := he) (hpl := hpl) (na := na)
theorem ex_lstRF {p' pos' : Pos} (hc : X.calm = true) (hmt : X.mg "list" = none) (hm : X.mg "range" = none) (h : AX X J (a :: es) ρ M fun vs M1 => ∃ ds, dRange vs = some ds ∧ (∀ i j c, vs = [.int i, .int j, .int c] → c = -1) ∧ P (.lst ds) M1) (hgt : Gl X "list" := by rfl) (hg : Gl X "range" := by rfl)
    (na : starEach [.Call (.Name "range" p') (a :: es) [] pos'] X.env = (false, eval (.Call (.Name "range" p') (a :: es) [] pos') X.env) :: starEach [] X.env := by rfl) (he : starEach (a :: es) X.env = (false, eval a X.env) :: starEach es X.env := by rfl) (hpl : (backTo pos' (starEach es X.env)).any (·.1) = false := by rfl) : EX X J (.Call (.Name "list" p) [.Call (.Name "range" p') (a :: es) [] pos'] [] pos) ρ M P :=
  ex_lstR hc hmt hm (h.imp fun vs M1 q => by
    obtain ⟨ds, h1, h2, k⟩ := q
    exact rgkL h1 h2 k) (hgt := hgt) (hg := hg) (hs := he) (hpl := hpl) (na := na)
theorem ex_lstRMF {p' pos' : Pos} (hc : X.calm = true) (hmt : X.mg "list" = none) (hm : X.mg "range" = none) (h : AX X J (a :: es) ρ M fun vs M1 => ∃ ds, dRange vs = some ds ∧ (∀ i j c, vs = [.int i, .int j, .int c] → c = -1) ∧ ∀ q, M1 q = none → P (.adr q) (up M1 q (.lst ds))) (hgt : Gl X "list" := by rfl) (hg : Gl X "range" := by rfl)
    (na : starEach [.Call (.Name "range" p') (a :: es) [] pos'] X.env = (false, eval (.Call (.Name "range" p') (a :: es) [] pos') X.env) :: starEach [] X.env := by rfl) (he : starEach (a :: es) X.env = (false, eval a X.env) :: starEach es X.env := by rfl) (hpl : (backTo pos' (starEach es X.env)).any (·.1) = false := by rfl) : EX X J (.Call (.Name "list" p) [.Call (.Name "range" p') (a :: es) [] pos'] [] pos) ρ M P :=
  ex_lstRM hc hmt hm (h.imp fun vs M1 q => by
    obtain ⟨ds, h1, h2, k⟩ := q
    exact rgkM h1 h2 k) (hgt := hgt) (hg := hg) (hs := he) (hpl := hpl) (na := na)
end
end
end DX
namespace DX
open PySem PySem.Spec L2
open PyProof.Rows hiding St
section
variable {X : Cx} {J : Gh} {e a b c o : Expr} {es : List Expr} {ρ : DEnv} {M : Mem} {F F' H H' : Hp} {σ : St} {K : PySem.W.Frag} {pos p q apos cpos : Pos} {P : D → Mem → Prop}
/-- the numbers, each once -/
def difI : List Int → List Int
  | [] => []
  | n :: ns => if n ∈ ns then difI ns else n :: difI ns
theorem nd_len : ∀ {l m : List Int}, l.Nodup → (∀ k ∈ l, k ∈ m) → l.length ≤ m.length
  | [], m, _, _ => Nat.zero_le _
  | a :: l, m, h, s => by
    have h := List.nodup_cons.mp h
    have ha := s a List.mem_cons_self
    have := nd_len (m := m.erase a) h.2 fun k hk => (List.mem_erase_of_ne (a := k) (b := a) (fun e => h.1 (by rw [← e]; exact hk))).mpr (s k (List.mem_cons_of_mem _ hk))
    have h3 := List.length_erase_of_mem ha
    have h4 := List.length_pos_of_mem ha
    rw [List.length_cons]; omega
def tDif (K : PySem.W.Frag) (ta : TE) : TE := fun σ H Q => ta σ H fun x H1 => ∃ l : Addr, ∃ ns : List Int, x = .ref l ∧ (SqL K H1 l (ns.map V.int) ∨ SqT K H1 l (ns.map V.int)) ∧ ns.length ≤ 4000 ∧ Q (.int ((difI ns).length : Nat)) H1
/-- len(set(x)) -/
noncomputable def dLenSet : D → Option D
  | .lst ds => (intsD ds).bind fun ns => chk (ns.length ≤ 4000) (.int ((difI ns).length : Int))
  | .tup ds => (intsD ds).bind fun ns => chk (ns.length ≤ 4000) (.int ((difI ns).length : Int))
  | _ => none
/-- x[::-1] -/
def dRev : D → Option D
  | .lst ds => some (.lst ds.reverse)
  | .tup ds => some (.tup ds.reverse)
  | _ => none
theorem ex_revF {kk : Nat} {p1 p2 p3 : Pos} {v dx z : D} {M2 : Mem} (w : Vw M2 v dx) (h : EX X J e ρ M fun d M1 => d = v ∧ M1 = M2) (hz : dRev dx = some z) (k : P z M2) :
    EX X J (.Subscript e (.Slice none none (some (.UnaryOp .USub (.Constant (.int 1) kk p1) p2)) p3) pos) ρ M P := by
  unfold dRev at hz
  split at hz
  · rename_i ds; cases hz; exact ex_revL (h.imp fun d M1 q => ⟨ds, by rw [q.1, q.2]; exact w.sl, by rw [q.2]; exact k⟩)
  · cases hz
    cases w with
    | id => rename_i ds; exact ex_unst (ex_revT (h.imp fun d M1 q => ⟨ds, q.1, _, rfl, by rw [q.2]; exact k⟩))
    | ad h1 h2 => cases h2
  · cases hz
end
end DX
namespace DX
open PySem PySem.Spec L2
open PyProof.Rows hiding St
section
variable {X : Cx} {J : Gh} {e a b c o : Expr} {es : List Expr} {ρ : DEnv} {M : Mem} {F F' H H' : Hp} {σ : St} {K : PySem.W.Frag} {pos p q apos cpos : Pos} {P : D → Mem → Prop} {f : Str}
/-- e.f, a field of an instance of one of the classes L -/
def dFld (L : List Addr) (f : Str) : D → Option D
  | .ins C gs => if C ∈ L then gs.lookup f else none
  | _ => none
/-- e.f, a constant of the class: for each class its value -/
def dCon (L : List (Addr × D)) (f : Str) : D → Option D
  | .ins C gs => if gs.lookup f = none then L.lookup C else none
  | _ => none
end
end DX
namespace DX
open PySem PySem.Spec L2 PyProof.Rows StX
abbrev TrB := List D → Mem → (D → Mem → Prop) → RX → Prop
/-- what stood at the beginning stands -/
def ghF (F0 : Hp) : Gh := ⟨fun F => Same F0 F, fun F F' e h => Same.trans h e⟩
/-- the def at f has the code cdv -/
def CodeAt (K : PySem.W.Frag) (f : Addr) (cdv : Value) : Prop := ∃ oc od osl fd, K.lookup f = some ⟨oc, od, .func fd, osl⟩ ∧ fd.code = cdv
def BodyX (pg : Program) (w : World) (K : PySem.W.Frag) (mg : Str → Option Value) (base : Heap) (gd : Bool) (k : Nat) (f : Addr) (qual : Str) (body : List Stmt) (scope : Scope) (N ps : List Str) (T : TrB) : Prop :=
  ∀ (cdv : Value), CodeAt K f cdv → ∀ (A : Around) (outer : List PySem.Env) (s : Shared) (H F0 : Hp) (E : XK) (ds : List D) (M : Mem) (P : D → Mem → Prop) (R : RX), (gd = true → A.guards = some []) → Room k (A.deeper (PyProof.Rows.envOfC qual scope s.heap.objs.size f cdv)) → T ds M P R →
      Lets (cxOf (L2.CX pg w) pg w K mg base N qual scope f cdv A outer s H E) (ghF F0) (fun C gs _ M' => R C gs M') →
      PassesOwn (model pg w) (cxOf (L2.CX pg w) pg w K mg base N qual scope f cdv A outer s H E).A (cxOf (L2.CX pg w) pg w K mg base N qual scope f cdv A outer s H E).env (cxOf (L2.CX pg w) pg w K mg base N qual scope f cdv A outer s H E).xe →
      Kx K F0 R E →
      GX (cxOf (L2.CX pg w) pg w K mg base N qual scope f cdv A outer s H E) (ghF F0) body (startD (N.length - ps.length) ds) M ⟨fun _ M' => P .non M', P, fun _ _ => False, fun _ _ => False⟩
section
variable {pg : Program} {w : World} {K : PySem.W.Frag} {mg : Str → Option Value} {base : Heap} {x qual : Str} {params : Arguments} {body : List Stmt} {scope : Scope} {kws : List (Str × V)} {f : Addr} {fd : FuncData} {N pn : List Str} {pv : Str} {k : Nat} {T : TrB} {gd : Bool}
theorem lets_body {F0 : Hp} {R : RX} {E : XK} {cdv : Value} {A : Around} {outer : List PySem.Env} {s : Shared} {H : Hp} (kx : Kx K F0 R E) :
    Lets (cxOf (L2.CX pg w) pg w K mg base N qual scope f cdv A outer s H E) (ghF F0) (fun C gs _ M' => R C gs M') :=
  ⟨fun cls d _ H => E cls d H, takes_of rfl rfl rfl rfl, fun cls d σ H' F ρ M C gs st x r => kx C gs M F H' cls d r st.gh st.ok x⟩
theorem body_runX {ps : List Str} (B : BodyX pg w K mg base gd k f qual body scope N ps T) (cdv : Value) (hcv : CodeAt K f cdv) {A : Around} {outer : List PySem.Env} {s2 : Shared} {H2 F : Hp} {M : Mem} {ds : List D} {vs : List V} {P : D → Mem → Prop} {R : RX} {Q : VK} {E : XK}
    (hg : gd = true → A.guards = some []) (hr : Room k (A.deeper (PyProof.Rows.envOfC qual scope s2.heap.objs.size f cdv))) (hl : vs.length = ps.length) (o : Ok K F M H2) (rd : Rps K F vs ds) (t : T ds M P R) (kt : Kt K F P Q) (kx : Kx K F R E) :
    ∃ t, PSs (cxOf (L2.CX pg w) pg w K mg base N qual scope f cdv A outer s2 H2 E) body t ∧ t { nx := fun _ H' => Q .non H', rt := Q } (L2.start N vs) H2 := by
  have hb := B cdv hcv A outer s2 H2 F E ds M P R hg hr t (lets_body kx) (passes_of rfl) kx
  refine ⟨_, hb, F, ⟨?_, o, Same.refl F⟩, ⟨fun F' σ' H' ρ' M' p e en o' => kt _ _ _ _ _ p e o' .non, kt, fun F' σ' H' ρ' M' p => p.elim, fun F' σ' H' ρ' M' p => p.elim⟩⟩
  unfold L2.start
  rw [hl]
  exact En.start _ rd
end
end DX
namespace DX
open PySem PySem.Spec L2 PyProof.Rows StX
section
variable {pg : Program} {w : World} {K : PySem.W.Frag} {mg : Str → Option Value} {base : Heap} {x qual : Str} {params : Arguments} {body : List Stmt} {scope : Scope} {kws : List (Str × V)} {f : Addr} {fd : FuncData} {N pn : List Str} {pv : Str} {k : Nat} {T : TrB} {gd : Bool}
/-- no defaults by place: values, keywords, keyword-only defaults -/
theorem fn_kwX (F : FunD K x qual params body scope [] kws f fd) (S : FnScope N pn scope) (B : BodyX pg w K mg base gd k f qual body scope N pn T) (np : Nat) (ks : List Str) (ms : List (Str × V)) (mds : List D) (ix : List Nat)
    (hms : ∀ q ∈ ms, q ∈ kws) (hmd : ∀ F, Rps K F (ms.map (·.2)) mds)
    (h : ∀ (kV : Value) (D : Addr) (doc pm : Value) (an : Option Addr) (cdv ct : Value) (us mv ws : List Value), (kws ≠ [] → kV = .ref D) → us.length = np → mv.length = ms.length → ws.length = ks.length →
      KwChainE D (fun t => t = pure (pn.zip (pick (us ++ (mv ++ ws)) ix))) ((ms.map (·.1)).zip mv) (bindArgs (PySem.W.fnOf x qual params body scope .none kV doc pm an cdv ct) ⟨us, ks.zip ws⟩))
    (hix : ∀ (us mv ws : List V), us.length = np → mv.length = ms.length → ws.length = ks.length → (pick (us ++ (mv ++ ws)) ix).length = pn.length) :
    FnX pg w K mg base gd (k + 1) f ks (fun ds zs M P R => ds.length = np ∧ zs.length = ks.length ∧ T (pick (ds ++ (mds ++ zs)) ix) M P R) := by
  obtain ⟨oc, od, dV, kV, doc, pm, an, cdv, ct, osl, rfl, lk, hcd, hD, hK⟩ := F.ex
  obtain rfl : dV = .none := by
    rcases hD with ⟨_, e⟩ | ⟨e, _⟩
    · exact e
    · exact absurd rfl e
  obtain ⟨D, hkV, hq⟩ : ∃ D : Addr, (kws ≠ [] → kV = .ref D) ∧ ∀ q ∈ kws, ∃ u, PySem.W.nsIn K D q.1 = some (some u) ∧ RelV q.2 u := by
    rcases hK with e | ⟨D, e, hq⟩
    · exact ⟨0, fun z => absurd e z, fun q hq => by rw [e] at hq; cases hq⟩
    · exact ⟨D, fun _ => e, hq⟩
  obtain ⟨mv, hml, rmv, hmk⟩ := kwd_vals (ms := ms) fun q hm => hq q (hms q hm)
  refine ⟨fun A outer s H F0 M ds zs P R us ws vs xs Q E hg hr e0 rv rx hw o rd rz t kt kx => ?_⟩
  obtain ⟨hd0, hzl, t⟩ := t
  have l1 : us.length = np := by rw [← rv.length, rd.length]; exact hd0
  have lm : mv.length = ms.length := hml
  have vl : (pick (vs ++ (ms.map (·.2) ++ xs)) ix).length = pn.length := hix _ _ _ (by rw [rv.length]; exact l1) (by rw [List.length_map]) (by rw [rx.length]; exact hw)
  have vr : Vals (pick (vs ++ (ms.map (·.2) ++ xs)) ix) (pick (us ++ (mv ++ ws)) ix) := pick_vals (rv.append (rmv.append rx)) ix
  refine run_bnd (CX := L2.CX pg w) (E := E) lk hcd S hr e0 (G := fun ys H2 => ys = pick (vs ++ (ms.map (·.2) ++ xs)) ix ∧ H2 = H) (fun A' Ex Q' hh => ?_) fun s2 H2 ys ⟨ey, eH⟩ hr' => ?_
  · refine KwChainE.run (K := K) (e0.mod.kin.keeps fun b o e => (e0.bs b o e).1) (fun t et => ?_) (fun q hq => hmk q hq) (h kV D doc pm an cdv ct us mv ws hkV l1 lm hw)
    subst et
    exact wpAny_pure (hh s H _ _ e0 Un.refl rfl (fun e s' z => z) vr vl ⟨rfl, rfl⟩)
  · subst ey eH
    exact body_runX B cdv ⟨_, _, _, _, lk, rfl⟩ hg hr' vl o (pick_rps (rd.append ((hmd _).append rz)) ix) t kt kx
/-- a star parameter -/
theorem fn_starX (F : FunD K x qual params body scope [] kws f fd) (S : FnScope N (pn ++ [pv]) scope) (B : BodyX pg w K mg base gd k f qual body scope N (pn ++ [pv]) T) (np : Nat) (ks : List Str) (ms : List (Str × V)) (mds : List D) (ix : List Nat)
    (hms : ∀ q ∈ ms, q ∈ kws) (hmd : ∀ F, Rps K F (ms.map (·.2)) mds) (tp : List D → D) (htp : tp = .tup ∨ tp = .stup) (r0 : Bool)
    (h : ∀ (kV : Value) (D : Addr) (doc pm : Value) (an : Option Addr) (cdv ct : Value) (us rest mv ws : List Value), (kws ≠ [] → kV = .ref D) → (r0 = true → rest = []) → us.length = np → mv.length = ms.length → ws.length = ks.length →
      KwChainE D (fun t => t = (newTuple rest >>= fun t => pure (pn.zip (pick (us ++ (mv ++ ws)) ix) ++ [(pv, t)]))) ((ms.map (·.1)).zip mv) (bindArgs (PySem.W.fnOf x qual params body scope .none kV doc pm an cdv ct) ⟨us ++ rest, ks.zip ws⟩))
    (hix : ∀ (us mv ws : List V), us.length = np → mv.length = ms.length → ws.length = ks.length → (pick (us ++ (mv ++ ws)) ix).length = pn.length) :
    FnX pg w K mg base gd (k + 1) f ks (fun ds zs M P R => ∃ d0 dr, ds = d0 ++ dr ∧ d0.length = np ∧ zs.length = ks.length ∧ dr.length ≤ 1000000 ∧ (r0 = true → dr = []) ∧ T (pick (d0 ++ (mds ++ zs)) ix ++ [tp dr]) M P R) := by
  obtain ⟨oc, od, dV, kV, doc, pm, an, cdv, ct, osl, rfl, lk, hcd, hD, hK⟩ := F.ex
  obtain rfl : dV = .none := by
    rcases hD with ⟨_, e⟩ | ⟨e, _⟩
    · exact e
    · exact absurd rfl e
  obtain ⟨D, hkV, hq⟩ : ∃ D : Addr, (kws ≠ [] → kV = .ref D) ∧ ∀ q ∈ kws, ∃ u, PySem.W.nsIn K D q.1 = some (some u) ∧ RelV q.2 u := by
    rcases hK with e | ⟨D, e, hq⟩
    · exact ⟨0, fun z => absurd e z, fun q hq => by rw [e] at hq; cases hq⟩
    · exact ⟨D, fun _ => e, hq⟩
  obtain ⟨mv, hml, rmv, hmk⟩ := kwd_vals (ms := ms) fun q hm => hq q (hms q hm)
  refine ⟨fun A outer s H F0 M ds zs P R us0 ws vs xs Q E hg hr e0 rv rx hw o rd rz t kt kx => ?_⟩
  obtain ⟨d0, dr, rfl, hd0, hzl, hdr, hd00, t⟩ := t
  obtain ⟨v1, v2, rfl, rd1, rd2⟩ := Rps.split rd
  obtain ⟨us, rest, rfl, r1, r2⟩ := vals_split rv
  have l1 : us.length = np := by rw [← r1.length, rd1.length]; exact hd0
  have hz : rest.length ≤ sizeLine := by rw [← r2.length, rd2.length, sizeLine_eq]; omega
  have hn : H s.heap.objs.size = Option.none := e0.hok.fresh (Nat.le_refl _)
  have lm : mv.length = ms.length := hml
  have vl : (pick (v1 ++ (ms.map (·.2) ++ xs)) ix).length = pn.length := hix _ _ _ (by rw [r1.length]; exact l1) (by rw [List.length_map]) (by rw [rx.length]; exact hw)
  have vr : Vals (pick (v1 ++ (ms.map (·.2) ++ xs)) ix) (pick (us ++ (mv ++ ws)) ix) := pick_vals (r1.append (rmv.append rx)) ix
  refine run_bnd (CX := L2.CX pg w) (E := E) lk hcd S hr e0 (G := fun ys H2 => ∃ p, H p = Option.none ∧ ys = pick (v1 ++ (ms.map (·.2) ++ xs)) ix ++ [V.ref p] ∧ H2 = upd H p (.frz { cls := .type "tuple", data := .seq rest.toArray } (.tup v2))) (fun A' Ex Q' hh => ?_) fun s2 H2 ys ⟨p, hp, ey, eH⟩ hr' => ?_
  · refine KwChainE.run (K := K) (e0.mod.kin.keeps fun b o e => (e0.bs b o e).1) (fun t et => ?_) (fun q hq => hmk q hq) (h kV D doc pm an cdv ct us rest mv ws hkV (fun z => List.eq_nil_of_length_eq_zero (by rw [← r2.length, rd2.length, hd00 z]; rfl)) l1 lm hw)
    subst et
    refine wpAny_bind (wpAny_newTuple (wpAny_pure ?_) hz)
    have new : ObjOk pg w (upd H s.heap.objs.size (.frz { cls := .type "tuple", data := .seq rest.toArray } (.tup v2))) (s.heap.push ({ cls := .type "tuple", data := .seq rest.toArray } : Obj)) s.heap.objs.size (.frz { cls := .type "tuple", data := .seq rest.toArray } (.tup v2)) := ⟨Heap.get?_push_size _ rfl, by rw [r2.length]; exact hz, rest, r2, ⟨_, Heap.get?_push_size _ rfl, rfl, _, rfl⟩⟩
    have un := un_laid (fs := frs outer) (s := s) (o := ({ cls := .type "tuple", data := .seq rest.toArray } : Obj)) (u := .frz { cls := .type "tuple", data := .seq rest.toArray } (.tup v2)) hn
    have z := hh _ _ (pick (v1 ++ (ms.map (·.2) ++ xs)) ix ++ [V.ref s.heap.objs.size]) (pick (us ++ (mv ++ ws)) ix ++ [Value.ref s.heap.objs.size]) (env0_laid e0 new) un rfl (fun e s' z => cxUp outer s H _ _ E e s' un (fun b o q => Heap.get?_push_of_some _ q) (by rfl) z) (vr.append (.cons rfl .nil))
      (by rw [List.length_append, List.length_append, vl] <;> rfl) ⟨_, hn, rfl, rfl⟩
    rw [List.zip_append (by rw [← vr.length, vl])] at z
    exact z
  · subst ey eH
    have k0 := o.fixSame (o := .frz { cls := .type "tuple", data := .seq rest.toArray } (.tup v2)) hp
    have rt : Rp K (upd F0 p (.frz { cls := .type "tuple", data := .seq rest.toArray } (.tup v2))) (.ref p) (tp dr) := by
      rcases htp with e | e <;> rw [e]
      · exact .tup (.inl (.inr ⟨_, upd_same⟩)) (rd2.mono k0)
      · exact .stup upd_same ⟨rfl, rfl⟩ (rd2.mono k0)
    refine body_runX B cdv ⟨_, _, _, _, lk, rfl⟩ hg hr' (by rw [List.length_append, List.length_append, vl] <;> rfl) (o.fix hp) ((pick_rps ((rd1.mono k0).append ((hmd _).append (rz.mono k0))) ix).append (.cons rt .nil)) t (kt.to k0) (kx.to k0)
end
end DX
namespace DX
open PySem PySem.Spec L2 PyProof.Rows StX
section
variable {X : Cx} {J : Gh} {e a b o : Expr} {es : List Expr} {kws : List Keyword} {ks : List Str} {ρ : DEnv} {M M1 M2 : Mem} {F F' H H' : Hp} {σ : L2.St} {K : PySem.W.Frag} {pos p apos : Pos} {x m f : Str} {P : D → Mem → Prop} {PA : List D → List D → Mem → Prop} {RR : Addr → List (Str × D) → DEnv → Mem → Prop}
theorem ev_a (h : AX X J (e :: es) ρ M fun ds M1 => KX X J kws ρ M1 fun zs M2 => zs.length = ks.length ∧ PA ds zs M2) (hall : (backToKw pos (keywordEach kws X.env)).all (·.1.isSome) = true := by rfl) (hks : (backToKw pos (keywordEach kws X.env)).filterMap (·.1) = ks := by rfl)
    (he : starEach (e :: es) X.env = (false, eval e X.env) :: starEach es X.env := by rfl) : EvA X J pos (e :: es) kws ks ρ M PA := by
  intro fv pins σ H F s Qa I st k
  refine PyProof.Rows.evalArgs_kw2 hall (thn ((pa_any (X := X) (es := e :: es)).run pos pins s σ H (fun vs H1 => ∃ F1 M1 ds, Same F F1 ∧ Ok X.K F1 M1 H1 ∧ Rps X.K F1 vs ds ∧ KX X J kws ρ M1 fun zs M2 => zs.length = ks.length ∧ PA ds zs M2) I
    (h.go st fun ds vs M1 F1 H1 q e1 o1 r1 => ⟨F1, M1, ds, e1, o1, r1, q⟩)) fun us s1 ⟨vs, H1, I1, r, F1, M1, ds, e1, o1, rd, q⟩ => ?_) he
  refine thn ((pk_any (X := X) (kws := kws)).run pos pins s1 σ H1 (fun xs H2 => ∃ F2 M2 zs, Same F1 F2 ∧ Ok X.K F2 M2 H2 ∧ Rps X.K F2 xs zs ∧ zs.length = ks.length ∧ PA ds zs M2) I1 (q.go (st.to e1 o1) fun zs xs M2 F2 H2 q2 e2 o2 r2 => ⟨F2, M2, zs, e2, o2, r2, q2.1, q2.2⟩)) fun ws s2 ⟨xs, H2, I2, rx, F2, M2, zs, e2, o2, rz, hl, t⟩ => ?_
  rw [hks]
  exact k us ws vs xs ds zs F2 M2 H2 s2 I2 (e1.trans e2) o2 r rx (rd.mono e2) rz hl t
theorem ev_0 (h : KX X J kws ρ M fun zs M2 => zs.length = ks.length ∧ PA [] zs M2) (hall : (backToKw pos (keywordEach kws X.env)).all (·.1.isSome) = true := by rfl) (hks : (backToKw pos (keywordEach kws X.env)).filterMap (·.1) = ks := by rfl) : EvA X J pos [] kws ks ρ M PA := by
  intro fv pins σ H F s Qa I st k
  refine PyProof.Rows.evalArgs_kw2_nil hall (thn ((pk_any (X := X) (kws := kws)).run pos pins s σ H (fun xs H2 => ∃ F2 M2 zs, Same F F2 ∧ Ok X.K F2 M2 H2 ∧ Rps X.K F2 xs zs ∧ zs.length = ks.length ∧ PA [] zs M2) I (h.go st fun zs xs M2 F2 H2 q2 e2 o2 r2 => ⟨F2, M2, zs, e2, o2, r2, q2.1, q2.2⟩)) fun ws s2 ⟨xs, H2, I2, rx, F2, M2, zs, e2, o2, rz, hl, t⟩ => ?_)
  rw [hks]
  exact k [] ws [] xs [] zs F2 M2 H2 s2 I2 e2 o2 .nil rx .nil rz hl t
/-- ( *a, *b) -/
theorem ev_s2 {p1 p2 : Pos} (h : AX X J [.Starred a p1, .Starred b p2] ρ M fun ds M1 => PA ds [] M1) (he : starEach [.Starred a p1, .Starred b p2] X.env = [(true, eval a X.env), (true, eval b X.env)] := by rfl) : EvA X J pos [.Starred a p1, .Starred b p2] [] [] ρ M PA := by
  intro fv pins σ H F s Qa I st k
  have hh := (pa_any (X := X) (es := [.Starred a p1, .Starred b p2])).run pos pins s σ H (fun vs H1 => ∃ F1 M1 ds, Same F F1 ∧ Ok X.K F1 M1 H1 ∧ Rps X.K F1 vs ds ∧ PA ds [] M1) I
    (h.go st fun ds vs M1 F1 H1 q e1 o1 r1 => ⟨F1, M1, ds, e1, o1, r1, q⟩)
  rw [he] at hh ⊢
  exact evalArgs_two (thn hh fun us s1 ⟨vs, H1, I1, r, F1, M1, ds, e1, o1, rd, q⟩ => k us [] vs [] ds [] F1 M1 H1 s1 I1 e1 o1 r .nil rd .nil rfl q)
/-- ( *a) -/
theorem ev_s1 {p1 : Pos} (h : EX X J a ρ M fun d M1 => ∃ ds, Sq M1 d ds ∧ PA ds [] M1) (he : starEach [.Starred a p1] X.env = [(true, eval a X.env)] := by rfl) : EvA X J pos [.Starred a p1] [] [] ρ M PA := by
  intro fv pins σ H F s Qa I st k
  have hh := (pe_any (X := X) (e := a)).run pins s σ H (fun v H1 => ∃ F1 M1 d ds, Same F F1 ∧ Ok X.K F1 M1 H1 ∧ Rp X.K F1 v d ∧ Sq M1 d ds ∧ PA ds [] M1) I
    (h.go st fun d v M1 F1 H1 q e1 o1 r1 => by
      obtain ⟨ds, sq, q⟩ := q
      exact ⟨F1, M1, d, ds, e1, o1, r1, sq, q⟩)
  rw [he]
  refine PySem.W.ks_lone (thn hh fun u s1 ⟨v, H1, I1, rv, F1, M1, d, ds, e1, o1, rd, sq, q⟩ => ?_)
  obtain ⟨q1, xs, rfl, hx, rx⟩ := sq.get o1 rd
  obtain rfl : u = Value.ref q1 := rv
  exact star_any I1 hx.symm fun us s2 I2 rv => k us [] xs [] ds [] F1 M1 H1 s2 I2 e1 o1 rv .nil rx .nil rfl q
end
end DX
namespace DX
open PySem PySem.Spec L2 PyProof.Rows StX
/-- what a context lets out, told where the names are known -/
def Rof (RR : Addr → List (Str × D) → DEnv → Mem → Prop) (ρ : DEnv) : RX := fun C gs M' => ∃ M2, Sub M2 M' ∧ RR C gs ρ M2
section
variable {X : Cx} {J : Gh} {e a b o : Expr} {es : List Expr} {kws : List Keyword} {ks : List Str} {ρ : DEnv} {M M1 M2 : Mem} {F F' H H' : Hp} {σ : L2.St} {K : PySem.W.Frag} {pos p apos : Pos} {x m f : Str} {P : D → Mem → Prop} {RR : Addr → List (Str × D) → DEnv → Mem → Prop}
theorem run_fnX {k : Nat} {gd : Bool} {g : Addr} {T : TrX} {pins : List (Addr × Obj)} {s : Shared} {Q : VK} {us ws : List Value} {vs xs : List V} {ds zs : List D} (G : FnX X.prog X.w X.K X.mg X.base gd k g ks T) (L : Lets X J RR) (hg : gd = true → X.A.guards = some []) (hr : Room k X.A)
    (I : L2.Inv X pins σ H s) (st : Sts X.K J F σ H ρ M) (r : Vals vs us) (rx : Vals xs ws) (hw : zs.length = ks.length) (rd : Rps X.K F vs ds) (rz : Rps X.K F xs zs) (t : T ds zs M P (Rof RR ρ)) (kt : Kt X.K F P Q) :
    wpAny (model X.prog X.w) X.A (call (.ref g) us (ks.zip ws)) (EP X pins σ Q) X.xe s := by
  obtain ⟨W, tk, hW⟩ := L.ex
  refine wpAny_call (codeAny_mono (G.go X.A X.stack s H F M ds zs P (Rof RR ρ) us ws vs xs Q (fun cls d H' => W cls d σ H') hg hr I.env0 r rx (by rw [← rx.length, rz.length]; exact hw) st.ok rd rz t kt (fun C gs M' F' H' cls d q e o x => ?_)) fun res s' end_ => ?_)
  · obtain ⟨M2, sb, q⟩ := q
    exact hW _ _ _ _ _ _ _ _ _ ⟨st.en.mono e, o.sub sb, J.mono _ _ e st.gh⟩ x q
  · match res, end_ with
    | .error _, end_ => exact tk _ _ (XE.of_call I (fun _ _ _ h => h) end_)
    | .ok (.ret _), end_ => exact I.after end_
    | .ok .next, end_ => exact end_.elim
    | .ok .brk, end_ => exact end_.elim
    | .ok .cont, end_ => exact end_.elim
theorem cwAny {Mo : Model} {A : Around} {E : Value → Shared → Prop} {s : Shared} {fv : Value} {first : List Value} {Q : Value → Shared → Prop} {Ph : Heap → Prop} {args : List (Bool × Sem Value)} {kw : List (Option Str × Sem Value)}
    (hk : ∀ h, Ph h → ∃ k, (k = Keeper.frame ∨ k = Keeper.machine ∨ k = Keeper.boundFrame) ∧ PySem.W.Looks Mo h (keeperOf fv) k)
    (h : wpAny Mo A (evalArgs fv true args kw) (fun a s1 => Ph s1.heap ∧ wpAny Mo A (call fv (first ++ a.pos) a.kw) Q E s1) E s) : wpAny Mo A (callWith pos fv first args kw) Q E s := by
  cases hst : (args.any (·.1) || kw.any (·.1.isNone)) with
  | false => exact PySem.W.callWith_of hst hk h
  | true => exact cwS hst hk h
/-- f(..) -/
theorem ex_callX {k : Nat} {gd : Bool} {g : Addr} {T : TrX} (G : FnX X.prog X.w X.K X.mg X.base gd k g ks T) (L : Lets X J RR) (hgd : gd = true → X.A.guards = some []) (hr : Room k X.A) (hm : X.mg x = some (.ref g)) (hk : PySem.W.keepIn X.K (.ref g) = true)
    (h : EvA X J pos es kws ks ρ M fun ds zs M1 => T ds zs M1 P (Rof RR ρ)) (hg : Gl X x := by rfl) (hdb : (x == ("__debug__" : Str)) = false := by decide) : EX X J (.Call (.Name x p) es kws pos) ρ M P := by
  refine ⟨fun pins s σ H Q I ⟨F, st, kt⟩ => ?_⟩
  refine wpAny_Call_Name_kw (ld_glob I hg hm ?_ hdb)
  refine cwAny (PySem.W.keeps_K hk) (h _ pins σ H F s _ I st fun us ws vs xs ds zs F2 M2 H2 s2 I2 e2 o2 r rx rd rz hl t => ⟨I2.kIn, ?_⟩)
  exact run_fnX G L hgd hr I2 (st.to e2 o2) r rx hl rd rz t (kt.to e2)
/-- what is made by C(..) -/
def TMkX (C : Addr) (T : TrX) (ds zs : List D) (M : Mem) (P : D → Mem → Prop) (R : RX) : Prop := ∀ a, M a = none → T (.adr a :: ds) zs (up M a (.ins C [])) (fun d M2 => d = .non ∧ ∃ gs M0, M0 a = none ∧ M2 = up M0 a (.ins C gs) ∧ P (.ins C gs) M0) R
theorem run_makeX {k : Nat} {C g : Addr} {T : TrX} {pins : List (Addr × Obj)} {s : Shared} {Q : VK} {us ws : List Value} {vs xs : List V} {ds zs : List D} (Mk0 : Mk X.K C g) (G : FnX X.prog X.w X.K X.mg X.base false k g ks T) (L : Lets X J RR) (hr : Room (k + 1) X.A)
    (I : L2.Inv X pins σ H s) (st : Sts X.K J F σ H ρ M) (r : Vals vs us) (rx : Vals xs ws) (hw : zs.length = ks.length) (rd : Rps X.K F vs ds) (rz : Rps X.K F xs zs) (t : TMkX C T ds zs M P (Rof RR ρ)) (kt : Kt X.K F P Q) : wpAny (model X.prog X.w) X.A (call (.ref C) us (ks.zip ws)) (EP X pins σ Q) X.xe s := by
  obtain ⟨W, tk, hW⟩ := L.ex
  have o := st.ok
  have h1 : H (s.heap.objs.size + 1) = none := I.hok.fresh (Nat.le_succ _)
  have h0 : H s.heap.objs.size = none := I.hok.fresh (Nat.le_refl _)
  have I2 := Inv.made (C := C) I
  have o1 := o.more (o := .own (s.heap.objs.size + 1)) h0
  have h2 : upd H s.heap.objs.size (.own (s.heap.objs.size + 1)) (s.heap.objs.size + 1) = none := by rw [upd_ne (Nat.succ_ne_self _)]; exact h1
  have o2 := o1.lay (o := .ins C s.heap.objs.size []) (d := .ins C []) h2 ⟨_, [], upd_same, .nil⟩
  have hM := (o.nn h1).2
  have r2 : Vals (V.ref (s.heap.objs.size + 1) :: vs) (Value.ref (s.heap.objs.size + 1) :: us) := .cons rfl r
  refine wpAny_call (make_map (f := g) I.kIn Mk0.makes Mk0.init (beq_iff_eq.mp Mk0.fn) (codeAny_mono (G.go _ X.stack _ _ F _ (_ :: ds) zs _ (Rof RR ρ) (Value.ref (s.heap.objs.size + 1) :: us) ws _ xs (fun v H2 => v = .non ∧ Q (.ref (s.heap.objs.size + 1)) H2) (fun cls d H' => W cls d σ H') (fun z => nomatch z) (hr.make C us _) (I2.env0.make C us _) r2 rx (by rw [← rx.length, rz.length]; exact hw) o2 (.cons (.adr _) rd) rz (t _ hM) ?_ ?_) fun r s' hq' => ?_))
  · rintro d v M' F' H' ⟨rfl, gs, M0, hn, rfl, q⟩ e' o' r'
    cases r'
    refine ⟨rfl, ?_⟩
    obtain ⟨_, dx, fs, h3, h4⟩ := o'.mt _ _ up_same
    obtain ⟨s1, o5⟩ := o'.freeze up_same h3
    rw [rm_up hn] at o5
    exact kt _ _ _ _ _ q (e'.trans s1) o5 (.ins upd_same (h4.mono s1))
  · rintro C gs M' F' H' cls d ⟨M2, sb, q⟩ e' o' x
    exact hW _ _ _ _ _ _ _ _ _ ⟨st.en.mono e', o'.sub sb, J.mono _ _ e' st.gh⟩ x q
  · cases r with
    | error e => exact tk _ _ (XE.of_call I2 (fun _ _ _ h => h) hq')
    | ok fl =>
      cases fl with
      | ret u =>
        obtain ⟨v, H', I3, rv, ev, q3⟩ := I2.after hq'
        subst ev
        exact ⟨rv, ⟨V.ref (s.heap.objs.size + 1), H', I3, rfl, q3⟩⟩
      | next => exact False.elim hq'
      | brk => exact False.elim hq'
      | cont => exact False.elim hq'
/-- C(..) -/
theorem ex_makeX {k : Nat} {C g : Addr} {T : TrX} (Mk0 : Mk X.K C g) (G : FnX X.prog X.w X.K X.mg X.base false k g ks T) (L : Lets X J RR) (hr : Room (k + 1) X.A) (hm : X.mg x = some (.ref C))
    (h : EvA X J pos es kws ks ρ M fun ds zs M1 => TMkX C T ds zs M1 P (Rof RR ρ)) (hg : Gl X x := by rfl) (hdb : (x == ("__debug__" : Str)) = false := by decide) : EX X J (.Call (.Name x p) es kws pos) ρ M P := by
  refine ⟨fun pins s σ H Q I ⟨F, st, kt⟩ => ?_⟩
  refine wpAny_Call_Name_kw (ld_glob I hg hm ?_ hdb)
  refine cwAny (PySem.W.keeps_K Mk0.kp) (h _ pins σ H F s _ I st fun us ws vs xs ds zs F2 M2 H2 s2 I2 e2 o2 r rx rd rz hl t => ⟨I2.kIn, ?_⟩)
  exact run_makeX Mk0 G L hr I2 (st.to e2 o2) r rx hl rd rz t (kt.to e2)
/-- o.m(..), m a method of o's class -/
theorem ex_methX {gd : Bool} {pl : Sem Bool} (L : Lets X J RR) (hgd : gd = true → X.A.guards = some [])
    (h : EX X J o ρ M fun d M1 => ∃ (C : Addr) (gs : List (Str × D)) (k : Nat) (g : Addr) (T : TrX), Is M1 d C gs ∧ gs.lookup m = none ∧ Cls X.K C ∧ Meth X.K C m g ∧ FnX X.prog X.w X.K X.mg X.base gd k g ks T ∧ Room k X.A ∧
      EvA X J pos es kws ks ρ M1 fun ds zs M2 => T (d :: ds) zs M2 P (Rof RR ρ))
    (ht : eval (.Call (.Attribute o m apos) es kws pos) X.env = (do let ov ← eval o X.env; standAt apos.atName; let (u, first) ← holding [ov] (getMethod ov m pl); callWith pos u first (backTo pos (starEach es X.env)) (backToKw pos (keywordEach kws X.env))) := by rfl) :
    EX X J (.Call (.Attribute o m apos) es kws pos) ρ M P := by
  refine ⟨fun pins s σ H Q I ⟨F, st, kt⟩ => ?_⟩
  refine PySem.W.methodCall_KW (pl := pl) (thn ((pe_any (X := X) (e := o)).run pins s σ H (fun v H1 => ∃ F1 M1 d, Same F F1 ∧ Ok X.K F1 M1 H1 ∧ Rp X.K F1 v d ∧ ∃ (C : Addr) (gs : List (Str × D)) (k : Nat) (g : Addr) (T : TrX), Is M1 d C gs ∧ gs.lookup m = none ∧ Cls X.K C ∧ Meth X.K C m g ∧ FnX X.prog X.w X.K X.mg X.base gd k g ks T ∧ Room k X.A ∧
      EvA X J pos es kws ks ρ M1 fun ds zs M2 => T (d :: ds) zs M2 P (Rof RR ρ)) I (h.go st fun d v M1 F1 H1 q e1 o1 r1 => ⟨F1, M1, d, e1, o1, r1, q⟩)) fun u s1 ⟨y, H1, I1, ry, F1, M1, d, e1, o1, rd0, C, gs, k, g, T, hi, hl0, hc, hm, G, hr, hE⟩ => ?_) ht
  obtain ⟨q, dx, fs, rfl, h1, h2⟩ := hi.get o1 rd0
  obtain rfl : u = Value.ref q := ry
  have hn : fs.lookup m = none := by
    rcases h2.look (f := m) with ⟨h3, _⟩ | ⟨w, d', h3, h4, h5⟩
    · exact h3
    · rw [h4] at hl0; cases hl0
  refine getmeth_ok I1 h1 hc hm hn ?_
  refine cwAny (first := [.ref q]) (PySem.W.keeps_K hm.kp) (hE _ pins σ H1 F1 s1 _ I1 (st.to e1 o1) fun us ws vs xs ds zs F2 M2 H2 s2 I2 e2 o2 r rx rd rz hl t => ⟨I2.kIn, ?_⟩)
  exact run_fnX (us := .ref q :: us) (vs := .ref q :: vs) G L hgd hr I2 ((st.to e1 o1).to e2 o2) (.cons rfl r) rx hl (.cons (rd0.mono e2) rd) rz t (kt.to (e1.trans e2))
end
end DX
namespace DX
open PySem PySem.Spec L2 PyProof.Rows StX
section
variable {prog : Program} {w : World} {A : Around} {E : Value → Shared → Prop} {s : Shared} {K : PySem.W.Frag} {x C L f : Addr} {h₀ : Heap} {m : Str → Option Value} {ox : Obj} {od : Option Obj} {b tb : Value}
end
def SpXR (K : PySem.W.Frag) (T : TrX) : Sp := fun vs H Q E => ∃ F M ds P R, Ok K F M H ∧ Rps K F vs ds ∧ T ds [] M P R ∧ Kt K F P Q ∧ Kx K F R E
theorem fnR_ofX {pg : Program} {w : World} {K : PySem.W.Frag} {mg : Str → Option Value} {base : Heap} {k : Nat} {g : Addr} {T : TrX} (G : FnX pg w K mg base false k g [] T) : FnR pg w K mg base (L2.CX pg w) k g (SpXR K T) := by
  intro A outer s H us vs Q E hr e0 r ⟨F, M, ds, P, R, o, rd, t, kt, kx⟩
  exact G.go A outer s H F M ds [] P R us [] vs [] Q E (fun z => nomatch z) hr e0 r .nil rfl o rd .nil t kt kx
theorem pass_no {X : Cx} : Passes (L2.CX X.prog X.w) X (fun _ _ _ => False) := fun pins σ H s e s' I c => takes_no e s' (XE.of_call (W := fun _ _ _ _ => False) I (fun _ _ _ h => h) c)
/-- who may be asked: the class, its names -/
def clsD (L : List (Addr × List Str)) : D → Option Addr
  | .ins C gs => if (C, gs.map (·.1)) ∈ L then some C else none
  | _ => none
section
variable {X : Cx} {J : Gh} {e a b o : Expr} {es : List Expr} {kws : List Keyword} {ks : List Str} {ρ : DEnv} {M M1 M2 : Mem} {F F' H H' : Hp} {σ : L2.St} {K : PySem.W.Frag} {pos p apos : Pos} {x m f : Str} {P : D → Mem → Prop} {RR : Addr → List (Str × D) → DEnv → Mem → Prop}
/-- x + y by the class's __add__ -/
theorem od_addX {k : Nat} {C g : Addr} {T : TrX} {x y : D} {gs hs : List (Str × D)} (G : FnX X.prog X.w X.K X.mg X.base false k g [] T) (hr : Room k X.A) (hsf : PySem.W.selfFirst X.K C = true) (hm : Meth X.K C "__add__" g) (hx : Is M x C gs) (hy : Is M y C hs)
    (t : T [x, y] [] M (fun d M2 => (∃ C' gs', d = .ins C' gs') ∧ P d M2) noX) : OD X (binaryOp .Add) x y M P :=
  ⟨fun v u H Q => ∃ F, Ok X.K F M H ∧ Rp X.K F v x ∧ Rp X.K F u y ∧ Kt X.K F P Q, fun pins s σ H v0 u0 v u Q I rv ru ⟨F, o, rx, ry, kt⟩ => by
    obtain ⟨a, dx, fs, rfl, h1, _⟩ := hx.get o rx
    obtain ⟨b, dy, fs', rfl, h2, _⟩ := hy.get o ry
    obtain rfl : v = Value.ref a := rv
    obtain rfl : u = Value.ref b := ru
    obtain ⟨ox, od, J0, _⟩ := insC_at (X := X) I (.inr ⟨dx, fs, h1⟩)
    obtain ⟨oy, od', J1, _⟩ := insC_at (X := X) I (.inr ⟨dy, fs', h2⟩)
    have hc : wpAny (model X.prog X.w) X.A (call (.ref g) [.ref a, .ref b]) (EP X pins σ fun v H' => (∃ a, v = .ref a) ∧ Q v H') X.xe s := wpAny_call (run_fnR (us := [.ref a, .ref b]) (vs := [V.ref a, V.ref b]) (fnR_ofX G) hr pass_no I (.cons rfl (.cons rfl .nil)) ⟨F, M, _, _, noX, o, .cons rx (.cons ry .nil), t, fun d v M' F' H' q e o' r => by
      obtain ⟨⟨C', gs', rfl⟩, q⟩ := q
      exact ⟨by cases r; exact ⟨_, rfl⟩, kt _ _ _ _ _ q e o' r⟩, Kx.no⟩)
    refine add_own I.kIn J0 J1 hsf hm.at_ hm.fn (wpAny_mono hc (fun v' s' h => ?_) fun _ _ z => z)
    obtain ⟨v, H', I', rv', ⟨a', rfl⟩, q⟩ := h
    obtain rfl : v' = Value.ref a' := rv'
    exact ⟨fun z => (nomatch z), V.ref a', H', I', rfl, q⟩, fun F H v u Q o rx ry kt => ⟨F, o, rx, ry, kt⟩⟩
/-- x == y by the class's __eq__ -/
theorem od_eqX {k : Nat} {C g : Addr} {T : TrX} {x y : D} {gs : List (Str × D)} (G : FnX X.prog X.w X.K X.mg X.base false k g [] T) (hr : Room k X.A) (hm : Meth X.K C "__eq__" g) (hx : Is M x C gs) (hy : Other X.K C M y)
    (t : T [x, y] [] M (fun d M2 => (∃ b, d = .bl b) ∧ P d M2) noX) : OD X (compareOp .Eq) x y M P :=
  ⟨fun v u H Q => ∃ F, Ok X.K F M H ∧ Rp X.K F v x ∧ Rp X.K F u y ∧ Kt X.K F P Q, fun pins s σ H v0 u0 v u Q I rv ru ⟨F, o, rx, ry, kt⟩ => by
    obtain ⟨tb, hl, hn⟩ := hy.ty I o ry ru
    obtain ⟨a, dx, fs, rfl, h1, _⟩ := hx.get o rx
    obtain rfl : v = Value.ref a := rv
    obtain ⟨ox, od, J0, _⟩ := insC_at (X := X) I (.inr ⟨dx, fs, h1⟩)
    have hc : wpAny (model X.prog X.w) X.A (call (.ref g) [.ref a, u]) (EP X pins σ fun v H' => (∃ a, v = .bl a) ∧ Q v H') X.xe s := wpAny_call (run_fnR (us := [.ref a, u]) (vs := [V.ref a, u0]) (fnR_ofX G) hr pass_no I (.cons rfl (.cons ru .nil)) ⟨F, M, _, _, noX, o, .cons rx (.cons ry .nil), t, fun d v M' F' H' q e o' r => by
      obtain ⟨⟨b', rfl⟩, q⟩ := q
      exact ⟨by cases r; exact ⟨_, rfl⟩, kt _ _ _ _ _ q e o' r⟩, Kx.no⟩)
    obtain ⟨m, hF⟩ := I.fr
    show wpAny (model X.prog X.w) X.A (richCompare .Eq (.ref a) u) (EP X pins σ Q) X.xe s
    refine PySem.W.cmp_K (op := .Eq) (tb := tb) hr.units0 hF I.ok.mod.kin J0 hl hn hm.at_ hm.fn (wpAny_mono hc (fun v' s' h => ?_) fun _ _ z => z)
    obtain ⟨v, H', I', rv', ⟨b', rfl⟩, q⟩ := h
    obtain rfl : v' = Value.bool b' := rv'
    exact ⟨V.bl b', H', I', rfl, q⟩, fun F H v u Q o rx ry kt => ⟨F, o, rx, ry, kt⟩⟩
end
end DX
namespace DX
open PySem PySem.Spec L2 PyProof.Rows StX
section
variable {X : Cx} {J : Gh} {e a b o : Expr} {es : List Expr} {kws : List Keyword} {ks : List Str} {ρ : DEnv} {M M1 M2 : Mem} {F F' H H' : Hp} {σ : L2.St} {K : PySem.W.Frag} {pos p apos : Pos} {x m f : Str} {P : D → Mem → Prop} {RR : Addr → List (Str × D) → DEnv → Mem → Prop}
/-- the method at g called with an instance and further values, somewhere within: nothing is let out -/
theorem run_inner {k : Nat} {g : Addr} {T : TrX} {A : Around} {pins : List (Addr × Obj)} {s : Shared} {Q : VK} {us : List Value} {vs : List V} {ds : List D} (G : FnX X.prog X.w X.K X.mg X.base false k g [] T) (hr : Room k A) (e0 : Env0 X.prog X.w X.K X.mg X.base A X.stack s H) (I : L2.Inv X pins σ H s) (r : Vals vs us) (o : Ok X.K F M H) (rd : Rps X.K F vs ds)
    (t : T ds [] M P noX) (kt : Kt X.K F P Q) {E' : Value → Shared → Prop} : wpAny (model X.prog X.w) A (call (.ref g) us) (EP X pins σ Q) E' s := by
  refine wpAny_call (codeAny_mono (fnR_ofX G A X.stack s H us vs Q (fun _ _ _ => False) hr e0 r ⟨F, M, ds, P, noX, o, rd, t, kt, Kx.no⟩) fun res s' end_ => ?_)
  match res, end_ with
  | .error e, end_ => exact (XE_no I end_).elim
  | .ok (.ret _), end_ => exact I.after end_
  | .ok .next, end_ => exact end_.elim
  | .ok .brk, end_ => exact end_.elim
  | .ok .cont, end_ => exact end_.elim
where
  XE_no {pins : List (Addr × Obj)} {s s' : Shared} {er : Value} (I : L2.Inv X pins σ H s) (h : L2.CX X.prog X.w X.stack H s (fun _ _ _ => False) er s') : False := by
    obtain ⟨_, _, _, _, _, _, _, _, _, _, _, _, _, z⟩ := h
/-- an instance called: the node -/
theorem cwO {Mo : Model} {A : Around} {E : Value → Shared → Prop} {s : Shared} {q : Addr} {Q : Value → Shared → Prop} {args : List (Bool × Sem Value)} {kw : List (Option Str × Sem Value)} (hst : (args.any (·.1) || kw.any (·.1.isNone)) = false)
    (h : wpAny Mo A (evalArgs (.ref q) true args kw) (fun z s1 => (∃ C ox od, PySem.W.InstAt s1.heap q ox C od ∧ ox.data = .plain) ∧ wpAny Mo A (call (.ref q) ([] ++ z.pos) z.kw) Q E s1) E s) : wpAny Mo A (callWith pos (.ref q) [] args kw) Q E s := by
  unfold callWith
  refine wpAny_bind (wpAny_holding (wpAny_mono h (fun z s1 g => wpAny_bind (wpAny_standAt ?_)) fun _ _ y => y))
  obtain ⟨⟨C, ox, od, J, hd⟩, g⟩ := g
  have kk := PySem.W.kco_keeper (M := Mo) J hd
  simp only [hst]
  refine wpAny_bind (kk.here ?_)
  have fin : ∀ {t : Sem Value}, wpAny Mo A t Q E s1 → wpAny Mo A (t >>= fun r => holding [r] point >>= fun _ => pure r) Q E s1 := by
    intro t ht
    exact wpAny_bind (wpAny_mono ht (fun r s2 hr => wpAny_bind (wpAny_holding (wpAny_point (wpAny_pure hr)))) fun _ _ y => y)
  exact fin (wpAny_operateT g)
/-- o(..), o an instance of C -/
theorem ex_insX {k : Nat} {C g : Addr} {T : TrX} (L : Lets X J RR) (c0 : CallO X.K C g) (G : FnX X.prog X.w X.K X.mg X.base false k g ks T) (hr : Room k X.A)
    (h : EX X J o ρ M fun d M1 => (∃ gs, Is M1 d C gs) ∧ EvA X J pos es kws ks ρ M1 fun ds zs M2 => ∃ gs, Is M2 d C gs ∧ T (d :: ds) zs M2 P (Rof RR ρ))
    (ht : eval (.Call o es kws pos) X.env = (do callWith pos (← eval o X.env) [] (backTo pos (starEach es X.env)) (backToKw pos (keywordEach kws X.env))) := by rfl)
    (hst : ((backTo pos (starEach es X.env)).any (·.1) || (backToKw pos (keywordEach kws X.env)).any (·.1.isNone)) = false := by rfl) : EX X J (.Call o es kws pos) ρ M P := by
  refine ⟨fun pins s σ H Q I ⟨F, st, kt⟩ => ?_⟩
  rw [ht]
  refine wpAny_bind (thn ((pe_any (X := X) (e := o)).run pins s σ H (fun v H1 => ∃ F1 M1 d, Same F F1 ∧ Ok X.K F1 M1 H1 ∧ Rp X.K F1 v d ∧ (∃ gs, Is M1 d C gs) ∧ EvA X J pos es kws ks ρ M1 fun ds zs M2 => ∃ gs, Is M2 d C gs ∧ T (d :: ds) zs M2 P (Rof RR ρ)) I (h.go st fun d v M1 F1 H1 q e1 o1 r1 => ⟨F1, M1, d, e1, o1, r1, q⟩)) fun u s1 ⟨y, H1, I1, ry, F1, M1, d, e1, o1, rd, ⟨gs0, hi0⟩, q⟩ => ?_)
  obtain ⟨q1, _, _, rfl, _, _⟩ := hi0.get o1 rd
  obtain rfl : u = Value.ref q1 := ry
  refine cwO hst (q _ pins σ H1 F1 s1 _ I1 (st.to e1 o1) fun us ws vs xs ds zs F2 M2 H2 s2 I2 e2 o2 r rx rds rz hl t => ?_)
  obtain ⟨gs, hi, t⟩ := t
  obtain ⟨a', dx, fs, ea, h1, h2⟩ := hi.get o2 (rd.mono e2)
  cases ea
  obtain ⟨ox, od, J0, hd⟩ := insC_at (X := X) I2 (.inr ⟨dx, fs, h1⟩)
  refine ⟨⟨C, ox, od, J0, hd⟩, ?_⟩
  obtain ⟨W, tk, hW⟩ := L.ex
  have st2 := (st.to e1 o1).to e2 o2
  refine wpAny_call (PySem.W.kco_code I2.kIn J0 hd c0.at_ c0.fn c0.fi (codeAny_mono (G.go X.A X.stack s2 H2 F2 M2 (d :: ds) zs P (Rof RR ρ) (.ref q1 :: us) ws (.ref q1 :: vs) xs Q (fun cls d H' => W cls d σ H') (fun z => nomatch z) hr I2.env0 (.cons rfl r) rx (by rw [← rx.length, rz.length]; exact hl) o2 (.cons (rd.mono e2) rds) rz t (kt.to (e1.trans e2)) (fun C' gs M' F' H' cls d q e o x => ?_)) fun res s' end_ => ?_))
  · obtain ⟨M3, sb, q⟩ := q
    exact hW _ _ _ _ _ _ _ _ _ ⟨st2.en.mono e, o.sub sb, J.mono _ _ e st2.gh⟩ x q
  · match res, end_ with
    | .error _, end_ => exact tk _ _ (XE.of_call I2 (fun _ _ _ h => h) end_)
    | .ok (.ret _), end_ => exact I2.after end_
    | .ok .next, end_ => exact end_.elim
    | .ok .brk, end_ => exact end_.elim
    | .ok .cont, end_ => exact end_.elim
/-- o.f, a property: the getter lets nothing out -/
theorem ex_propX {k : Nat} {C q g : Addr} {T : TrX} (c : Cls X.K C) (hp : PropOf X.K C f q g) (G : FnX X.prog X.w X.K X.mg X.base false k g [] T) (hr : Room (k + 1) X.A)
    (h : EX X J e ρ M fun d M1 => ∃ gs, Is M1 d C gs ∧ T [d] [] M1 P noX) (hab : attributeBase e f X.env (eval e X.env) = eval e X.env := by rfl) : EX X J (.Attribute e f pos) ρ M P := by
  refine ⟨fun pins s σ H Q I ⟨F, st, kt⟩ => ?_⟩
  refine attr_of hab (thn ((pe_any (X := X) (e := e)).run pins s σ H (fun v H1 => ∃ F1 M1 d, Same F F1 ∧ Ok X.K F1 M1 H1 ∧ Rp X.K F1 v d ∧ ∃ gs, Is M1 d C gs ∧ T [d] [] M1 P noX) I (h.go st fun d v M1 F1 H1 q e1 o1 r1 => ⟨F1, M1, d, e1, o1, r1, q⟩)) fun u s1 ⟨y, H1, I1, ry, F1, M1, d, e1, o1, rd, gs, hi, t⟩ => ?_)
  obtain ⟨q1, dx, fs, rfl, h1, h2⟩ := hi.get o1 rd
  obtain rfl : u = Value.ref q1 := ry
  obtain ⟨mA, O, _, _, _, _⟩ := ins_get I1.hok h1
  obtain ⟨od, J0, _⟩ := O.look
  obtain ⟨rest, hrec⟩ := hp.rec_
  have I2 := I1.tok (s1.toks + 1)
  have hc : (PySem.W.clsIn X.K C).isSome = true := by
    obtain ⟨cd, hc, _⟩ := PySem.W.any_some c.hd
    rw [hc]; rfl
  refine PySem.W.get_bind I1.kIn J0 (PySem.W.plainGet_of (c.get f)).1 (PySem.W.findObj_data hc hp.at_ hp.get hp.tak) (PySem.W.plainGet_of (c.get f)).2 (wpAny_call (PySem.W.prop_get (s := { s1 with toks := s1.toks + 1 }) I1.kIn hrec ?_))
  refine codeAny_mono (fnR_ofX G X.A.in1 X.stack { s1 with toks := s1.toks + 1 } H1 [.ref q1] [V.ref q1] Q (fun _ _ _ => False) hr.in1 I2.env0.in1 (.cons rfl .nil) ⟨F1, M1, [d], P, noX, o1, .cons rd .nil, t, kt.to e1, Kx.no⟩) fun res s' end_ => ?_
  match res, end_ with
  | .error er, end_ => exact (run_inner.XE_no I2 end_).elim
  | .ok (.ret u), end_ =>
    obtain ⟨v, H', I3, rv, q3⟩ := I2.after end_
    show wpAny _ _ (handedOut u) _ _ _
    rw [PySem.W.handedOut_of (handed_of rv)]
    exact wpAny_pure ⟨v, H', I3, rv, q3⟩
  | .ok .next, end_ => exact end_.elim
  | .ok .brk, end_ => exact end_.elim
  | .ok .cont, end_ => exact end_.elim
end
end DX
namespace DX
open PySem PySem.Spec L2 PyProof.Rows StX
open PySem.W PySem.Calls Builtin Builtin.ObjectAttr in
section
variable {prog : Program} {w : World} {A : Around} {E : Value → Shared → Prop} {R : Result → Shared → Prop} {hp : Heap} {g : Array GenState} {d : Drawn} {t : Nat} {os : OsState} {K : PySem.W.Frag} {name : Str} {tk : Tok} {v : Value} {x C dx : Addr} {fv : Array Value} {B : String} {bmB : List Value}
theorem taker_no (ha : PySem.W.findIn K (.ref C) name = some none) : PySem.W.takerIn K C name = some none := by
  unfold PySem.W.takerIn
  rw [ha]
  rfl
/-- the first field -/
theorem osaN (SF : StoreFacts B bmB "object.__setattr__" "object") (X : K.In hp) (hx : hp.get? x = some { cls := .ref C, data := .fields fv }) (ho : PySem.W.excOver K C bmB = true) (hh : PySem.W.hasDictIn K C = true) (ha : PySem.W.findIn K (.ref C) name = some none)
    (hq : ∀ h' tk' dx, (∀ b o, b ≠ x → hp.get? b = some o → h'.get? b = some o) → hp.objs.size ≤ dx → dx ≠ x → h'.get? x = some { cls := .ref C, dict := some dx, data := .fields fv } → h'.Ns1 dx (fun y => if y = name then some v else none) → R (.ok (.ret .none)) ⟨h', g, d, tk', os⟩) :
    codeAny (model prog w) A (.call (.builtin "object.__setattr__") ⟨[.ref x, .str name tk, v], []⟩) R ⟨hp, g, d, t, os⟩ := by
  have I : PySem.W.InstAt hp x { cls := .ref C, data := .fields fv } C none := ⟨hx, rfl, rfl, trivial⟩
  obtain ⟨cd, hcd, hd⟩ := PySem.W.any_some hh
  have far : x ≠ hp.objs.size := Nat.ne_of_lt (Heap.lt_size hx)
  have kcls : PySem.W.Looks (model prog w) hp (classData C) cd := PySem.W.looks_clsIn X hcd
  refine PySem.W.osa_openX (s := ⟨hp, g, d, t, os⟩) (r := none) SF X I ho (taker_no ha) fun b => ?_
  show wpAny _ _ (Builtin.ObjectAttr.storeInOwnDict (.ref x) (.ref C) (.str name tk) name v b) _ _ _
  obtain ⟨nm, bs, mro, ns, qn, hd0, sn, sb, ab, col, del⟩ := cd
  dsimp only at hd
  subst hd
  unfold Builtin.ObjectAttr.storeInOwnDict Builtin.ObjectAttr.ownDictForStores
  repeat (first | with_reducible refine PySem.HandSPX.store_in_new ?_ ?_ | with_reducible refine wpAny_loadPart_at hx ?_ | with_reducible refine kcls.at ?_ | wp_step)
  · exact ⟨_, #[], _, (Heap.get?_update_ne _ _ _ _ far.symm).trans (Heap.get?_push_at rfl rfl), rfl, fun e he => absurd he (by simp), fun _ => rfl⟩
  · intro h' tk' hn same
    have up : (hp.push { cls := .type "dict", data := .dict #[] }).get? x = some { cls := .ref C, data := .fields fv } := Heap.get?_push_of_some _ hx
    refine hq h' tk' hp.objs.size (fun b o hb e => ?_) (Nat.le_refl _) far.symm ?_ hn
    · exact (same.2 b (Nat.ne_of_lt (Heap.lt_size e))).trans ((Heap.get?_update_ne _ _ _ _ hb).trans (Heap.get?_push_of_some _ e))
    · exact (same.2 x far).trans (Heap.get?_update_self _ up rfl)
/-- a further field -/
theorem osaM {m0 : Str → Option Value} {nl : List Str} (SF : StoreFacts B bmB "object.__setattr__" "object") (X : K.In hp) (hx : hp.get? x = some { cls := .ref C, dict := some dx, data := .fields fv }) (hns : hp.Ns1 dx m0) (hw : Within m0 nl) (hz : nl.length ≤ 1000) (ho : PySem.W.excOver K C bmB = true) (hh : PySem.W.hasDictIn K C = true)
    (ha : PySem.W.findIn K (.ref C) name = some none) (hq : ∀ h' tk', (∀ b o, b ≠ dx → hp.get? b = some o → h'.get? b = some o) → h'.Ns1 dx (fun y => if y = name then some v else m0 y) → R (.ok (.ret .none)) ⟨h', g, d, tk', os⟩) :
    codeAny (model prog w) A (.call (.builtin "object.__setattr__") ⟨[.ref x, .str name tk, v], []⟩) R ⟨hp, g, d, t, os⟩ := by
  obtain ⟨oD, esD, epD, hoD, hdD, _⟩ := hns.count hw
  have I : PySem.W.InstAt hp x { cls := .ref C, dict := some dx, data := .fields fv } C (some oD) := ⟨hx, rfl, rfl, hoD⟩
  obtain ⟨cd, hcd, hd⟩ := PySem.W.any_some hh
  have kcls : PySem.W.Looks (model prog w) hp (classData C) cd := PySem.W.looks_clsIn X hcd
  refine PySem.W.osa_openX (s := ⟨hp, g, d, t, os⟩) (r := none) SF X I ho (taker_no ha) fun b => ?_
  show wpAny _ _ (Builtin.ObjectAttr.storeInOwnDict (.ref x) (.ref C) (.str name tk) name v b) _ _ _
  obtain ⟨nm, bs, mro, ns, qn, hd0, sn, sb, ab, col, del⟩ := cd
  dsimp only at hd
  subst hd
  unfold Builtin.ObjectAttr.storeInOwnDict Builtin.ObjectAttr.ownDictForStores
  repeat (first | with_reducible refine PySem.OEX.store_in_old hns hw hz ?_ | with_reducible refine wpAny_loadPart_at hx ?_ | with_reducible refine kcls.at ?_ | wp_step)
  intro h' tk' hn same
  exact hq h' tk' (fun b o hb e => (same.2 b hb).trans e) hn
end
end DX
namespace DX
open PySem PySem.Spec L2 PyProof.Rows StX
structure OexG (newId : String) (bmB : List Value) (K : PySem.W.Frag) (C : Addr) : Prop where
  cls : ∃ nm q N bs bm sn sub ab col dd k0 k1 k2 k3 k5, K.lookup C = some (excClassObj nm q C N bs bm true sn sub ab col dd k0 k1 k2 k3 k5 newId) ∧ PySem.W.excTail bmB bm = true
  sa : PySem.W.findIn K (.ref C) "__setattr__" = some (some (.builtin "object.__setattr__"))
  exC : PySem.W.subIn K (.ref C) (.type "BaseException") = some true
  tyC : PySem.W.typeIn K (.ref C) = some (.type "type")
  kC : PySem.W.keepIn K (.ref C) = true
  ov : PySem.W.excOver K C bmB = true
  hd : PySem.W.hasDictIn K C = true
/-- a built-in error class over which own ones stand -/
structure Bas (newId : String) (bmB : List Value) : Prop where
  ex : ∃ B initId, ExcBaseFacts B newId initId bmB ∧ StoreFacts B bmB "object.__setattr__" "object"
abbrev mroO : List Value := [.type "OverflowError", .type "ArithmeticError", .type "Exception", .type "BaseException", .type "object"]
theorem basV : Bas "ValueError.__new__" mroV := ⟨_, _, F.excBase_ValueError, F.store_ValueError⟩
theorem basL : Bas "LookupError.__new__" mroL := ⟨_, _, F.excBase_LookupError, F.store_LookupError⟩
section
variable {X : Cx} {pins : List (Addr × Obj)} {σ : L2.St} {H : Hp} {s : Shared} {a C dx : Addr} {f : Str} {y : V} {u : Value} {fs : List (Str × V)} {Q : Unit → Shared → Prop} {E : Value → Shared → Prop} {A : Around} {newId : String} {bmB : List Value}
theorem ostN (T : OexG newId bmB X.K C) (B : Bas newId bmB) (I : L2.Inv X pins σ H s) (e : H a = some (exo a C none)) (hno : PySem.W.findIn X.K (.ref C) f = some none) (ry : RelV y u)
    (h : ∀ dx s', H dx = none → dx ≠ a → L2.Inv X pins σ (upd (upd H dx (exd dx [(f, y)])) a (exo a C (some dx))) s' → Q () s') : wpAny (model X.prog X.w) A (setAttr (.ref a) f u) Q E s := by
  obtain ⟨_, _, _, SF⟩ := B.ex
  obtain ⟨tp, at_⟩ := exo_at I.hok e
  obtain ⟨hp, g, d, t, os⟩ := s
  refine PySem.W.set_plain I.kIn (od := none) ⟨at_, rfl, rfl, trivial⟩ T.sa ?_
  refine osaN SF I.kIn at_ T.ov T.hd hno fun h' tk' dx keep new ne now dict => ?_
  have nD : H dx = none := I.hok.fresh new
  have old : ∀ {b : Addr} {o : Obj}, hp.get? b = some o → b ≠ dx := fun z => Nat.ne_of_lt (Nat.lt_of_lt_of_le (Heap.lt_size z) new)
  have away : ∀ {b : Addr}, H b = none → b ≠ a := fun n z => by rw [z, e] at n; cases n
  have un : Un X.fs [] H (upd (upd H dx (exd dx [(f, y)])) a (exo a C (some dx))) hp h' := by
    refine ⟨fun b o z n _ _ => keep b o (away n) z, fun b o z n _ _ => ⟨o.slots, keep b o (away n) z⟩, fun b o z n _ => ?_, fun b o z _ => ?_, fun b xs z => ?_, fun b o v z => ?_, fun b ps z => ⟨#[], ?_⟩⟩
    · rw [upd_ne (away n), upd_ne (old z)]; exact n
    · rcases Decidable.em (b = a) with rfl | q
      · exact ⟨_, now⟩
      · exact ⟨o, keep b o q z⟩
    · rw [upd_ne (at_ne e z exo_tup), upd_ne (ne_of_none z nD)]; exact z
    · rw [upd_ne (at_ne e z exo_frz), upd_ne (ne_of_none z nD)]; exact z
    · rw [upd_ne (at_ne e z exo_tbl), upd_ne (ne_of_none z nD), z]; simp
  refine h dx _ nD ne (I.un (t' := tk') un fun b o z => ?_)
  rcases Decidable.em (b = a) with rfl | hb
  · rw [upd_same] at z; cases z
    exact exo_ok now
  · rw [upd_ne hb] at z
    rcases Decidable.em (b = dx) with rfl | hd
    · rw [upd_same] at z; cases z
      exact exd_ok dict (relO_put (fs := []) ry fun g => True.intro)
    · rw [upd_ne hd] at z
      refine (I.hok b o z).stay (fun c v hc q => keep c v ?_ q) (fun c hc => by rw [upd_ne (at_ne e hc exo_own), upd_ne (ne_of_none hc nD)]; exact hc) fun c xs hc => by rw [upd_ne (at_ne e hc exo_tup), upd_ne (ne_of_none hc nD)]; exact hc
      rcases hc with rfl | hc
      · exact hb
      · exact at_ne e hc exo_own
theorem ostM (T : OexG newId bmB X.K C) (B : Bas newId bmB) (I : L2.Inv X pins σ H s) (e : H a = some (exo a C (some dx))) (ed : H dx = some (exd dx fs)) (hl : fs.length ≤ 900) (hno : PySem.W.findIn X.K (.ref C) f = some none) (ry : RelV y u)
    (h : ∀ s', L2.Inv X pins σ (upd H dx (exd dx ((f, y) :: fs))) s' → Q () s') : wpAny (model X.prog X.w) A (setAttr (.ref a) f u) Q E s := by
  obtain ⟨_, _, _, SF⟩ := B.ex
  obtain ⟨tp, at_⟩ := exo_at I.hok e
  obtain ⟨mA, hns, rel⟩ := exd_at I.hok ed
  have wi := within_of rel
  obtain ⟨hp, g, d, t, os⟩ := s
  obtain ⟨oD, _, _, hoD, _, _⟩ := hns.count wi
  refine PySem.W.set_plain I.kIn (od := some oD) ⟨at_, rfl, rfl, hoD⟩ T.sa ?_
  refine osaM SF I.kIn at_ hns wi (by rw [List.length_map]; omega) T.ov T.hd hno fun h' tk' keep dict => ?_
  have there : ∃ o, h'.get? dx = some o := dict.imp fun o z => by
    obtain ⟨_, _, z, _⟩ := z
    exact z
  exact h _ (I.write (t' := tk') (x := dx) (e := dx) (o := exd dx ((f, y) :: fs)) (by rw [ed]; exact True.intro) (.inl rfl) keep there (exd_ok dict (relO_put ry rel)))
end
/-- self.f = e, self an error that is being made -/
def tOstG (newId : String) (bmB : List Value) (K : PySem.W.Frag) (f : Str) (to te : TE) : TS := fun D σ H => te σ H fun y H1 => to σ H1 fun x H2 => ∃ a C : Addr, x = .ref a ∧ OexG newId bmB K C ∧ Bas newId bmB ∧ PySem.W.findIn K (.ref C) f = some none ∧
  ((H2 a = some (exo a C none) ∧ ∀ dx, H2 dx = none → dx ≠ a → D.nx σ (upd (upd H2 dx (exd dx [(f, y)])) a (exo a C (some dx)))) ∨
    ∃ (dx : Addr) (fs : List (Str × V)), H2 a = some (exo a C (some dx)) ∧ H2 dx = some (exd dx fs) ∧ fs.length ≤ 900 ∧ D.nx σ (upd H2 dx (exd dx ((f, y) :: fs))))
section
variable {X : Cx} {o e : Expr} {es : List Expr} {to te : TE} {ta : TA} {f : Str} {p p' p1 p2 pos : Pos} {newId : String} {bmB : List Value}
theorem ps_ostG (ho : PE X o to) (he : PE X e te) (hs : swapsWith e (some (.Attribute o f p')) pos.line X.env = pure false := by rfl) : PS X (.Assign [.Attribute o f p'] e pos) (tOstG newId bmB X.K f to te) := by
  refine ⟨fun pins s σ H D I h => ?_⟩
  refine plainObj_wpAny_Assign_Attribute (thn (he.run pins s σ H _ I h) fun v s1 ⟨y, H1, I1, ry, q1⟩ => thn (ho.run pins s1 σ H1 _ I1 q1) fun u s2 ⟨x, H2, I2, rx, a, C, ex, T, B, hno, q⟩ => ?_) hs
  subst ex
  obtain rfl : u = Value.ref a := rx
  rcases q with ⟨ea, q⟩ | ⟨dx, fs, ea, ed, hl, q⟩
  · exact ostN T B I2 ea hno ry fun dx s' n ne J => ⟨σ, _, J, q dx n ne⟩
  · exact ostM T B I2 ea ed hl hno ry fun s' J => ⟨σ, _, J, q⟩
end
end DX
namespace DX
open PySem PySem.Spec L2 PyProof.Rows StX
def spI1 (C : Addr) (f : Str) : Sp := fun vs H Q _ => ∃ a y, vs = [.ref a, y] ∧ H a = some (exo a C none) ∧ ∀ dx, H dx = none → dx ≠ a → Q .non (upd (upd H dx (exd dx [(f, y)])) a (exo a C (some dx)))
def spI2 (C : Addr) (f1 f2 : Str) : Sp := fun vs H Q _ => ∃ a y z, vs = [.ref a, y, z] ∧ H a = some (exo a C none) ∧ ∀ dx, H dx = none → dx ≠ a → Q .non (upd (upd (upd H dx (exd dx [(f1, y)])) a (exo a C (some dx))) dx (exd dx [(f2, z), (f1, y)]))
section
variable {P : Program} {w : World} {K : PySem.W.Frag} {mg : Str → Option Value} {base : Heap} {x qual : Str} {params : Arguments} {body : List Stmt} {scope : Scope} {g C : Addr} {fd : FuncData} {newId : String} {bmB : List Value} {CX : CXT} {sf v1 v2 f1 f2 : Str}
theorem vis_of {N ps : List Str} (S : FnScope N ps scope) {n : Str} (h : n ∈ ps) : Vis scope n := (S.par n h).elim (fun z => .inl z) fun z => .inr (.inl z)
theorem init1 (F : FunD K x qual params body scope [] [] g fd) (S : FnScope [sf, v1] [sf, v1] scope) (hb : ∃ p1 p2 p3 p4, body = [.Assign [.Attribute (.Name sf p1) f1 p2] (.Name v1 p3) p4]) (T : OexG newId bmB K C) (B : Bas newId bmB) (hno : PySem.W.findIn K (.ref C) f1 = some none)
    (n1 : (sf == ("__debug__" : Str)) = false := by decide) (n2 : (v1 == ("__debug__" : Str)) = false := by decide) (n3 : (sf == ("__classdict__" : Str)) = false := by decide) (n4 : (v1 == ("__classdict__" : Str)) = false := by decide) :
    FnOk P w K mg base CX 1 g fd [sf, v1] (spI1 C f1) := by
  obtain ⟨p1, p2, p3, p4, rfl⟩ := hb
  refine F.ok S (fun vs H Q E h => ?_) fun cdv A outer s H vs Q E hr h => ?_
  · obtain ⟨a, y, rfl, _⟩ := h; rfl
  · obtain ⟨a, y, rfl, ha, q⟩ := h
    refine ⟨_, pss_one (ps_ostG (newId := newId) (bmB := bmB) (pe_var (i := 0) rfl (vis_of S (by simp)) n1 n3) (pe_var (i := 1) rfl (vis_of S (by simp)) n2 n4)), ?_⟩
    exact ⟨y, rfl, .ref a, rfl, a, C, rfl, T, B, hno, .inl ⟨ha, q⟩⟩
end
section
variable {X : Cx} {J : Gh} {e a b o : Expr} {es : List Expr} {ρ : DEnv} {M M1 M2 : Mem} {F F' H H' : Hp} {σ : L2.St} {K : PySem.W.Frag} {pos p rpos : Pos} {x f f1 f2 : Str} {B : Bd} {RR : Addr → List (Str × D) → DEnv → Mem → Prop} {newId : String} {bmB : List Value} {C g : Addr} {fd : FuncData} {ps : List Str}
/-- C(e, ..), an error that is made to be raised -/
theorem pmkG {CX : CXT} {k : Nat} {sp : Sp} {ta : TA} (T : OexG newId bmB X.K C) (Ba : Bas newId bmB) (iC : PySem.W.findIn X.K (.ref C) "__init__" = some (some (.ref g))) (tI : PySem.W.typeIn X.K (.ref g) = some (.type "function")) (G : FnOk X.prog X.w X.K X.mg X.base CX k g fd ps sp) (hr : Room (k + 1) X.A)
    (hb : Binds X.K fd ps []) (hx : Passes CX X (fun _ _ _ => False)) (hg : Gl X x) (hm : X.mg x = some (.ref C)) (ha : PA X (e :: es) ta) (hdb : (x == ("__debug__" : Str)) = false := by decide) (he : starEach (e :: es) X.env = (false, eval e X.env) :: starEach es X.env := by rfl)
    (hpl : (backTo pos (starEach es X.env)).any (·.1) = false := by rfl) : PMk X (.Call (.Name x p) (e :: es) [] pos) (tMkO C sp [] ta) := by
  intro pins s σ H Q I h
  obtain ⟨BN, initId, EB, _⟩ := Ba.ex
  obtain ⟨nm, q, N, bs, bm, sn, sub, ab, col, dd, k0, k1, k2, k3, k5, hC, tl⟩ := T.cls
  refine wpAny_Call_Name_kw (ld_glob I hg hm ?_ hdb)
  refine PySem.W.callWith_K (h₀ := X.base) I.ok.mod.kin T.kC (thn (ha.run pos pins s σ H _ I h) fun us s1 ⟨vs, H1, I1, r1, hz, q1⟩ => ⟨I1.kIn, ?_⟩) he hpl
  show wpAny _ _ (call (.ref C) us) _ _ _
  obtain ⟨hp, gg, dr, tk, os⟩ := s1
  have up : hp.objs.size ≤ hp.objs.size + 1 := Nat.le_succ _
  have hn : H1 (hp.objs.size + 1) = none := I1.hok.fresh up
  have want := q1 (hp.objs.size + 1) hn
  have keep : ∀ b o, hp.get? b = some o → ((hp.push (PySem.W.kdv_tup us)).push (PySem.HandSPX.excO C hp.objs.size)).get? b = some o := fun b o z => Heap.get?_push_of_some _ (Heap.get?_push_of_some _ z)
  have there : ((hp.push (PySem.W.kdv_tup us)).push (PySem.HandSPX.excO C hp.objs.size)).get? (hp.objs.size + 1) = some (PySem.HandSPX.excO C hp.objs.size) := by heap_get
  have I2 : L2.Inv X pins σ (upd H1 (hp.objs.size + 1) (exo (hp.objs.size + 1) C none)) ⟨(hp.push (PySem.W.kdv_tup us)).push (PySem.HandSPX.excO C hp.objs.size), gg, dr, tk, os⟩ :=
    I1.laid (t' := tk) (a := hp.objs.size + 1) (o := exo (hp.objs.size + 1) C none) keep up (exo_ok there)
  rw [List.append_nil] at want
  have r2 : Vals (V.ref (hp.objs.size + 1) :: vs) (Value.ref (hp.objs.size + 1) :: us) := .cons rfl r1
  have hl : (Value.ref (hp.objs.size + 1) :: us ++ []).length = ps.length := by
    rw [List.append_nil, ← r2.length]
    exact G.len _ _ _ _ want
  have hus : us.length ≤ sizeLine := by
    rw [← r1.length, sizeLine_eq]; omega
  have bd := hb _ (Value.ref (hp.objs.size + 1) :: us) I2.kIn hl
  rw [List.append_nil] at bd
  refine wpAny_call (PySem.HandSPX.call_own EB (fun Y => PySem.W.excTail_contains Y bm tl) (I1.kIn _ _ hC) (PySem.W.looks_findIn I1.kIn iC) (fun self => PySem.W.bind_fn I1.kIn self tI) hus
    (codeAny_mono (G.run _ X.stack _ _ ⟨Value.ref (hp.objs.size + 1) :: us, []⟩ _ _ _ (fun _ _ _ => False) (hr.make C us []) (I2.env0.make C us []) bd r2 want) fun res s' end_ => ?_))
  match res, end_ with
  | .error er, end_ => exact hx pins σ _ _ er s' I2 end_
  | .ok (.ret u), end_ =>
    obtain ⟨v, H2, os2, bare2, un2, hok2, rv, ev, d, fs, ea, ed, hd1, q2⟩ := end_
    subst ev
    obtain ⟨h2, g2, d2, t2, os'⟩ := s'
    exact ⟨rv, mk_end (raises_own T.exC T.tyC) I1 up keep un2 hok2 os2 bare2 ea ed hd1 q2⟩
  | .ok .next, end_ => exact end_.elim
  | .ok .brk, end_ => exact end_.elim
  | .ok .cont, end_ => exact end_.elim
theorem backG {H1 : Hp} {q dx : Addr} {u u2 u3 : HO} {fs : List (Str × V)} (hn : H1 q = none) : upd (del (upd (upd (upd H1 q u) dx u2) q u3) q) dx (.xd fs) = upd H1 dx (.xd fs) := by
  funext b
  by_cases h1 : b = dx
  · subst h1; rw [upd_same, upd_same]
  · rw [upd_ne h1, upd_ne h1]
    by_cases h2 : b = q
    · subst h2; rw [del_same, hn]
    · rw [del_ne h2, upd_ne h2, upd_ne h1, upd_ne h2]
/-- raise C(e), one field -/
theorem g1_raise1 {CX : CXT} {s1 v1 : Str} (L : Lets X J RR) (hc : X.calm = true) (T : OexG newId bmB X.K C) (Ba : Bas newId bmB) (iC : PySem.W.findIn X.K (.ref C) "__init__" = some (some (.ref g))) (tI : PySem.W.typeIn X.K (.ref g) = some (.type "function")) (G : FnOk X.prog X.w X.K X.mg X.base CX 1 g fd [s1, v1] (spI1 C f)) (hr : Room 2 X.A)
    (hb : Binds X.K fd [s1, v1] []) (hx : Passes CX X (fun _ _ _ => False)) (hm : X.mg x = some (.ref C)) (h : EX X J e ρ M fun d M1 => Rof RR ρ C [(f, d)] M1) (hg : Gl X x := by rfl) (hdb : (x == ("__debug__" : Str)) = false := by decide)
    (he : starEach [e] X.env = (false, eval e X.env) :: starEach [] X.env := by rfl) : G1 X J (.Raise (some (.Call (.Name x p) [e] [] pos)) none rpos) ρ M B := by
  obtain ⟨W, tk, hW⟩ := L.ex
  refine g1_of (ps_raise hc tk (pmkG (ta := tAe X [e]) T Ba iC tI G hr hb hx hg hm pa_any hdb he (by rfl))) fun F σ H E st k => ?_
  have hA : AX X J [e] ρ M (fun ds M1 => ∃ d, ds = [d] ∧ Rof RR ρ C [(f, d)] M1) := ax_cons (h.imp fun d M1 q => ax_nil ⟨d, rfl, q⟩) he
  refine hA.go st fun ds vs M1 F1 H1 q e1 o1 r1 => ?_
  obtain ⟨d, rfl, M2, sb, q⟩ := q
  cases r1 with
  | cons rd rn =>
    cases rn
    refine ⟨by simp, fun q1 hq => ⟨q1, _, rfl, upd_same, fun dx hd ne => ⟨rfl, dx, _, upd_same, by rw [upd_ne ne, upd_same], by rw [upd_ne ne] at hd; exact hd, ?_⟩⟩⟩
    rw [upd_ne ne] at hd
    rw [backG hq]
    exact hW _ _ _ _ _ _ _ _ _ ⟨(st.en.mono e1).mono (o1.fixSame hd), (o1.fix hd).sub sb, J.mono _ _ (e1.trans (o1.fixSame hd)) st.gh⟩ ⟨rfl, .inr ⟨dx, _, rfl, upd_same, .cons (rd.mono (o1.fixSame hd)) .nil⟩⟩ q
end
end DX
namespace DX
open PySem PySem.Spec L2 PyProof.Rows StX
section
variable {prog : Program} {w : World} {A : Around} {E : Value → Shared → Prop} {s : Shared} {K : PySem.W.Frag} {x C : Addr} {ox : Obj} {od : Option Obj}
end
section
variable {X : Cx} {J : Gh} {e a b o : Expr} {es : List Expr} {ρ : DEnv} {M M1 M2 : Mem} {F F' H H' : Hp} {σ : L2.St} {K : PySem.W.Frag} {pos p rpos : Pos} {x f : Str} {P : D → Mem → Prop} {C : Addr}
/-- what a caught error is: of the classes subs, by the classes L that may come -/
def isiE (L subs : List Addr) : D → Option Bool
  | .exn C _ => if C ∈ L then some (decide (C ∈ subs)) else none
  | d => if plain d = true then some false else none
end
end DX
namespace DX
open PySem PySem.Spec L2 PyProof.Rows StX
/-- what an except clause asks: of which classes -/
def ExT (X : Cx) (t : Expr) (cs : List Value) : Prop := ∀ (a : Addr) (pins : List (Addr × Obj)) (σ : L2.St) (H : Hp) (s : Shared) (e : Addr) (cls : Value) (b : Bool) (Q : Bool → Shared → Prop) (E : Value → Shared → Prop),
  L2.Inv { X with A := X.A.mark (some (.ref a)), calm := false, xe := fun _ _ => False } pins σ H s → PySem.W.Looks (model X.prog X.w) s.heap (typeOf (.ref e)) cls → PySem.W.exmAny X.K cls cs = some b →
  (∀ h', (∀ q o, s.heap.get? q = some o → h'.get? q = some o) → Q b { s with heap := h' }) →
  wpAny (model X.prog X.w) (X.A.mark (some (.ref a))) (eval t X.env) (fun c s1 => wpAny (model X.prog X.w) (X.A.mark (some (.ref a))) (excMatches (.ref e) c) Q E s1) E s
section
variable {X : Cx} {x1 x2 x3 : Str} {C1 C2 C3 : Addr} {p1 p2 p3 tpos : Pos} {kk : Nat}
end
/-- the suite's context: the error stands as a thing of ours -/
abbrev sui (X : Cx) (a : Addr) : Cx := { X with A := X.A.mark (some (.ref a)), calm := false, xe := fun _ _ => False }
section
variable {X : Cx} {J : Gh} {ρ : DEnv} {M : Mem} {F H : Hp} {σ : L2.St} {s : Shared} {pins : List (Addr × Obj)} {B : Bd} {RR : Addr → List (Str × D) → DEnv → Mem → Prop} {a C : Addr} {d : Option Addr}
end
end DX
namespace DX
open PySem PySem.Spec L2 PyProof.Rows StX
section
variable {X : Cx} {J : Gh} {ρ : DEnv} {M : Mem} {B : Bd} {RR : Addr → List (Str × D) → DEnv → Mem → Prop}
def Bd.cuts (B : Bd) (i : Nat) : Bd := ⟨fun ρ' M' => B.nx (cut ρ' i) M', B.rt, fun ρ' M' => B.bk (cut ρ' i) M', fun ρ' M' => B.ct (cut ρ' i) M'⟩
/-- what the body may let out -/
def RTry (X : Cx) (cs : List Value) (i : Nat) (suite : List Stmt) (B : Bd) (RR : Addr → List (Str × D) → DEnv → Mem → Prop) : Addr → List (Str × D) → DEnv → Mem → Prop :=
  fun C gs ρ' M' => ∃ b, PySem.W.exmAny X.K (.ref C) cs = some b ∧ (b = true → ∀ (a : Addr) (J2 : Gh), GX (sui X a) J2 suite (put ρ' i (.exn C gs)) M' (B.cuts i)) ∧ (b = false → RR C gs ρ' M')
end
end DX
namespace DX
open PySem PySem.Spec L2 PyProof.Rows StX
abbrev Er := Addr × List (Str × D)
def exC {A B : Type} (r : Except Er A) (ke : Er → Option B) (kv : A → Option B) : Option B := match r with
  | .error e => ke e
  | .ok v => kv v
def resX {A : Type} (r : Except Er A) (p : A → Prop) (q : Er → Prop) : Prop := match r with
  | .error e => q e
  | .ok v => p v
theorem exc_i {A B : Type} {r : Except Er A} {ke : Er → Option B} {kv : A → Option B} {o : B} {p : A → Prop} {q : Er → Prop} (hF : exC r ke kv = some o) (h1 : ∀ e, r = .error e → ke e = some o → q e) (h2 : ∀ v, r = .ok v → kv v = some o → p v) : resX r p q := by
  cases r with
  | error e => exact h1 e rfl hF
  | ok v => exact h2 v rfl hF
theorem isC_eq {C : Addr} {d : D} {gs : List (Str × D)} (h : isC C d = some gs) : d = .ins C gs := by
  unfold isC at h
  split at h
  · split at h
    · rename_i q; cases h; rw [q]
    · cases h
  · cases h
/-- an instance of the class C that has no field m of its own -/
def mthC (C : Addr) (m : Str) (d : D) : Option (List (Str × D)) := (isC C d).bind fun gs => if gs.lookup m = none then some gs else none
theorem mthC_eq {C : Addr} {m : Str} {d : D} {gs : List (Str × D)} (h : mthC C m d = some gs) : d = .ins C gs ∧ gs.lookup m = none := by
  unfold mthC at h
  obtain ⟨g, h1, h2⟩ := Option.bind_eq_some_iff.mp h
  split at h2
  · rename_i q; cases h2; exact ⟨isC_eq h1, q⟩
  · cases h2
def insA : D → Option Unit
  | .ins _ _ => some ()
  | _ => none
theorem insA_eq {d : D} (h : insA d = some ()) : ∃ C gs, d = .ins C gs := by
  cases d with
  | ins C gs => exact ⟨C, gs, rfl⟩
  | _ => cases h
def blD : D → Option Bool
  | .bl b => some b
  | _ => none
theorem blD_eq {d : D} {b : Bool} (h : blD d = some b) : d = .bl b := by
  cases d with
  | bl c => cases h; rfl
  | _ => cases h
def natD : D → Option Int
  | .int i => if 0 ≤ i ∧ i < 2 ^ 63 then some i else none
  | _ => none
def txtD : D → Option Str
  | .str y => some y
  | _ => none
/-- the other side of a comparison -/
def othD (L : List Addr) (d : D) : Option Unit := if plain d = true then some () else match d with
  | .ins C _ => if C ∈ L then some () else none
  | _ => none
theorem othD_eq {K : PySem.W.Frag} {C : Addr} {M : Mem} {L : List Addr} {d : D} (h : othD L d = some ()) (h1 : ∀ n ∈ ["NoneType", "bool", "int", "str", "tuple", "list", "dict"], PySem.W.subIn K (.type n) (.ref C) = some false) (h2 : ∀ C' ∈ L, PySem.W.notFirst K C (.ref C') = true) : Other K C M d := by
  unfold othD at h
  split at h
  · rename_i q; exact .inl ⟨q, h1⟩
  · split at h
    · rename_i C' gs _
      split at h
      · rename_i q; exact .inr ⟨C', gs, .frz, h2 _ q⟩
      · cases h
    · cases h
/-- isinstance(o, C), C an own class that is no error -/
def isiC (C : Addr) (d : D) : Option Bool := match d with
  | .ins C' _ => if C' = C then some true else none
  | d => if plain d = true then some false else none
section
variable {X : Cx} {M : Mem} {P : D → Mem → Prop}
theorem cd_isiC {d : D} {C : Addr} {t : Bool} (c : Cls X.K C) (ic : IsiC X.K C) (h : isiC C d = some t) (q : P (.bl t) M) : CD X (.builtin "isinstance") [d, .adr C] M P := by
  have pl : ∀ {d : D}, (if plain d = true then some false else none) = some t → CD X (.builtin "isinstance") [d, .adr C] M P := by
    intro d h
    split at h
    · rename_i z; cases h; exact cd_isiN ic z q
    · cases h
  cases d with
  | ins C' gs =>
    have h : (if C' = C then some true else none) = some t := h
    split at h
    · rename_i z; cases h; subst z; exact cd_isiO c ic .frz q
    · cases h
  | _ => exact pl h
end
/-- a field of a caught error of one of the classes L -/
def xflD (L : List Addr) (f : Str) : D → Option D
  | .exn C gs => if C ∈ L then gs.lookup f else none
  | _ => none
section
variable {X : Cx} {J : Gh} {e : Expr} {ρ : DEnv} {M : Mem} {pos : Pos} {f : Str} {P : D → Mem → Prop}
/-- e.f, a field of an instance of C -/
theorem ex_fldC {C : Addr} (c : Cls X.K C) (n : NoAttr X.K C f) (h : EX X J e ρ M fun d M1 => ∃ dx gs z, Iw M1 d dx ∧ isC C dx = some gs ∧ gs.lookup f = some z ∧ P z M1) (hb : attributeBase e f X.env (eval e X.env) = eval e X.env := by rfl) : EX X J (.Attribute e f pos) ρ M P :=
  ex_fld (h.imp fun d M1 q => by
    obtain ⟨dx, gs, z, w, h1, h2, q⟩ := q
    rw [isC_eq h1] at w
    exact ⟨C, gs, z, w.is, c, n, h2, q⟩) hb
/-- e.f, a constant of the class C -/
theorem ex_conC {C : Addr} {y : D} (c : Cls X.K C) (hc : ∃ v u, Con X.K C f v u ∧ ∀ F, Rp X.K F v y) (h : EX X J e ρ M fun d M1 => ∃ dx gs, Iw M1 d dx ∧ mthC C f dx = some gs ∧ P y M1) (hb : attributeBase e f X.env (eval e X.env) = eval e X.env := by rfl) : EX X J (.Attribute e f pos) ρ M P :=
  ex_con (h.imp fun d M1 q => by
    obtain ⟨dx, gs, w, h1, q⟩ := q
    obtain ⟨h2, h3⟩ := mthC_eq h1
    rw [h2] at w
    obtain ⟨v, u, k1, k2⟩ := hc
    exact ⟨C, gs, v, u, y, w.is, c, k1, h3, k2, q⟩) hb
/-- a class by its name -/
theorem ex_cls {C : Addr} {x : Str} (hm : X.mg x = some (.ref C)) (q : P (.adr C) M) (hg : Gl X x := by rfl) (hd : (x == ("__debug__" : Str)) = false := by decide) : EX X J (.Name x pos) ρ M P := ex_glob (v := .ref C) hg hm rfl (fun F => .adr C) q hd
end
structure ErrC (newId : String) (bmB : List Value) (K : PySem.W.Frag) (C : Str) : Prop where
  oex : OexG newId bmB K (He.ga K C)
  ini : PySem.W.findIn K (.ref (He.ga K C)) "__init__" = some (some (.ref (He.fAd K (C, some "__init__"))))
  fn : PySem.W.typeIn K (.ref (He.fAd K (C, some "__init__"))) = some (.type "function")
theorem oexB_ok {newId : String} {bmB : List Value} {K : PySem.W.Frag} {C : Addr} (h : oexB newId bmB K C = true) : OexG newId bmB K C := by
  obtain ⟨h1, h⟩ := He.ba h
  obtain ⟨h2, h⟩ := He.ba h
  obtain ⟨h3, h⟩ := He.ba h
  obtain ⟨h4, h⟩ := He.ba h
  obtain ⟨h5, h⟩ := He.ba h
  obtain ⟨h6, h7⟩ := He.ba h
  refine ⟨?_, He.eqO_ok h2, of_decide_eq_true h3, of_decide_eq_true h4, h5, h6, h7⟩
  unfold PySem.W.excInitIn at h1
  split at h1
  · rename_i dd cd sl ho
    split at h1
    · rename_i C' bm k0 k1 k2 k3 n k5 hm hs
      simp only [Bool.and_eq_true, beq_iff_eq, Bool.not_eq_true'] at h1
      obtain ⟨⟨⟨rfl, rfl⟩, hdel⟩, tl⟩ := h1
      obtain ⟨cd2, hc2, hd2⟩ := PySem.W.any_some h7
      unfold PySem.W.clsIn at hc2
      rw [ho] at hc2
      obtain rfl : cd = cd2 := Option.some.inj hc2
      obtain ⟨nm, bs, mro, ns, qn, hd, sn, sub, ab, col, del⟩ := cd
      dsimp only at hm hdel hd2
      subst hm hdel hd2
      have hsl : sl = #[k0, k1, k2, k3, some (.builtin n), k5] := by
        obtain ⟨l⟩ := sl
        dsimp only at hs
        rw [hs]
      subst hsl
      exact ⟨nm, qn, ns, bs, bm, sn, sub, ab, col, dd, k0, k1, k2, k3, k5, ho, tl⟩
    · cases h1
  · cases h1
theorem errB_ok {newId : String} {bmB : List Value} {K : PySem.W.Frag} {C : Str} (h : errB newId bmB K C = true) : ErrC newId bmB K C := by
  obtain ⟨h1, h⟩ := He.ba h
  obtain ⟨h2, h3⟩ := He.ba h
  exact ⟨oexB_ok h1, He.eqO_ok h2, of_decide_eq_true h3⟩
theorem allB_ok {K : PySem.W.Frag} {L : List Str} {p : Addr → Bool} {q : Addr → Prop} (h : allB K L p = true) (hp : ∀ C, p C = true → q C) : ∀ C ∈ L.map (Zk K), q C := fun C hC => by
  obtain ⟨x, hx, rfl⟩ := List.mem_map.mp hC
  exact hp _ (List.all_eq_true.mp h x hx)
def excB (K : PySem.W.Frag) (C : Addr) : Bool :=
  He.eqO (PySem.W.findIn K (.ref C) "__getattribute__") (some (some (.builtin "BaseException.__getattribute__"))) && (He.eqO (PySem.W.findIn K (.ref C) "__getattr__") (some none) && (decide (PySem.W.subIn K (.ref C) (.type "BaseException") = some true) && (PySem.W.hasDictIn K C &&
    (He.eqO (PySem.W.findIn K (.ref C) "__class__") (some (some (.builtin "object.__class__"))) && (He.eqO (PySem.W.specialIn K (.builtin "object.__class__") "__get__") (some (some (.builtin "getset_descriptor.__get__"))) &&
      (decide (PySem.W.takesIn K (.builtin "object.__class__") = some true) && decide (PySem.W.mroIn K C (.type "object") = some true)))))))
end DX
namespace DX
open PySem PySem.Spec L2 PyProof.Rows StX
theorem no_err {pg : Program} {w : World} {outer : List PySem.Env} {H : Hp} {s s' : Shared} {er : Value} (h : L2.CX pg w outer H s (fun _ _ _ => False) er s') : False := by
  obtain ⟨_, _, _, _, _, _, _, _, _, _, _, _, _, z⟩ := h
section
variable {X : Cx} {J : Gh} {e a b : Expr} {ρ : DEnv} {M : Mem} {pos p rpos : Pos} {f f1 f2 : Str} {B : Bd} {RR : Addr → List (Str × D) → DEnv → Mem → Prop} {newId : String} {bmB : List Value} {C : Str} {fd : FuncData} {qual : Str} {params : Arguments} {body : List Stmt} {scope : Scope} {s1 v1 v2 : Str}
/-- raise C(e) -/
theorem g1_rs1 (L : Lets X J RR) (hc : X.calm = true) (T : ErrC newId bmB X.K C) (Ba : Bas newId bmB) (F : FunD X.K "__init__" qual params body scope [] [] (He.fAd X.K (C, some "__init__")) fd) (S : FnScope [s1, v1] [s1, v1] scope)
    (hb : ∃ p1 p2 p3 p4, body = [.Assign [.Attribute (.Name s1 p1) f p2] (.Name v1 p3) p4]) (hno : PySem.W.findIn X.K (.ref (He.ga X.K C)) f = some none) (hr : Room 2 X.A) (hbi : L2.Binds X.K fd [s1, v1] []) (hm : X.mg C = some (.ref (He.ga X.K C)))
    (h : EX X J e ρ M fun d M1 => Rof RR ρ (He.ga X.K C) [(f, d)] M1) (hg : Gl X C := by rfl) (hdb : (C == ("__debug__" : Str)) = false := by decide)
    (he : starEach [e] X.env = (false, eval e X.env) :: starEach [] X.env := by rfl) (n1 : (s1 == ("__debug__" : Str)) = false := by decide) (n2 : (v1 == ("__debug__" : Str)) = false := by decide) (n3 : (s1 == ("__classdict__" : Str)) = false := by decide) (n4 : (v1 == ("__classdict__" : Str)) = false := by decide) :
    G1 X J (.Raise (some (.Call (.Name C p) [e] [] pos)) none rpos) ρ M B :=
  g1_raise1 (CX := L2.CX X.prog X.w) L hc T.oex Ba T.ini T.fn (init1 F S hb T.oex Ba hno n1 n2 n3 n4) hr hbi pass_no hm h hg hdb he
end
end DX
namespace DX
open PySem PySem.Spec L2 PyProof.Rows StX
theorem is_of {C : Addr} {d : D} {gs : List (Str × D)} {M : Mem} (h : isC C d = some gs) : Is M d C gs := by rw [isC_eq h]; exact .frz
theorem is_mt {C : Addr} {m : Str} {d : D} {gs : List (Str × D)} {M : Mem} (h : mthC C m d = some gs) : Is M d C gs := by rw [(mthC_eq h).1]; exact .frz
theorem retX {A : Type} {r : Except Er A} {v : A} {p : A → Prop} {q : Er → Prop} (h : Except.ok v = r) (k : resX r p q) : p v := by subst h; exact k
theorem errX {A : Type} {r : Except Er A} {e : Er} {p : A → Prop} {q : Er → Prop} (h : Except.error e = r) (k : resX r p q) : q e := by subst h; exact k
section
variable {X : Cx} {J : Gh} {e o : Expr} {ρ : DEnv} {M : Mem} {pos fp : Pos} {f : Str} {B : Bd}
theorem g1_setFldF (h : EX X J e ρ M fun y M1 => EX X J o ρ M1 fun d M2 => ∃ q C gs g, d = .adr q ∧ At M2 q (.ins C gs) g ∧ Cls X.K C ∧ NoAttr X.K C f ∧ gs.length < 1000 ∧ B.nx ρ (g (.ins C (putG f y gs))))
    (hs : swapsWith e (some (.Attribute o f fp)) pos.line X.env = pure false := by rfl) : G1 X J (.Assign [.Attribute o f fp] e pos) ρ M B :=
  g1_setFld (h.imp fun y M1 q => q.imp fun d M2 q => by
    obtain ⟨q, C, gs, g, h1, h2, h3, h4, h5, h6⟩ := q
    exact ⟨q, C, gs, h1, h2.get, h3, h4, h5, by rw [h2.set] at h6; exact h6⟩) hs
end
end DX
namespace DX
open PySem PySem.Spec L2 PyProof.Rows StX
section
variable {X : Cx} {J : Gh} {e a b o : Expr} {es : List Expr} {ρ : DEnv} {M M1 : Mem} {F F' H H' : Hp} {σ : L2.St} {K : PySem.W.Frag} {pos p : Pos} {f x : Str} {P : D → Mem → Prop}
def unl2 : D → Option (D × D)
  | .lst [a, b] => some (a, b)
  | _ => none
def unl3 : D → Option (D × D × D)
  | .lst [a, b, c] => some (a, b, c)
  | _ => none
def unl4 : D → Option (D × D × D × D)
  | .lst [a, b, c, d] => some (a, b, c, d)
  | _ => none
/-- repr of data, dicts among them -/
noncomputable def dReprR (d : D) : Option D := chk (shw d = true ∧ (pydR d).showable = true ∧ (pydR d).depth ≤ 60 ∧ (pydR d).shown.length ≤ 16000000) (.str (txtR d))
theorem cd_dReprR {d z : D} (hS : sysB X.K = true) (hg : X.A.guards = some []) (hu : X.A.units + 64 < cLine) (h : dReprR d = some z) (q : P z M) : CD X (.builtin "repr") [d] M P := by
  obtain ⟨⟨h1, h2, h3, h4⟩, rfl⟩ := chk_inv h
  exact cd_reprR hS hg hu ⟨h1, h2, h3, h4⟩ q
/-- what {..} shows -/
noncomputable def fmtD : D → Option Str
  | .str y => chk (y.length ≤ 1000000) y
  | .int i => chk (i.natAbs.log2 < 1920) (toString i)
  | _ => none
/-- the parts of an f-string -/
def JX (X : Cx) (J : Gh) (es : List Expr) (acc : Str) (ρ : DEnv) (M : Mem) (P : Str → Mem → Prop) : Prop :=
  ∀ F H σ Q, Sts X.K J F σ H ρ M → (∀ out M' F' H', P out M' → Same F F' → Ok X.K F' M' H' → Q out H') → tJs (es.map (tE X)) acc σ H Q
end
def cvalB (K : PySem.W.Frag) (C f : Str) (i : Int) : Bool := PySem.W.readsIn K (He.ga K C) (.type "type") && (He.eqO (PySem.W.specialIn K (.ref (He.ga K C)) "__getattribute__") (some (some (.builtin "type.__getattribute__"))) && match PySem.W.findCls K (.ref (He.ga K C)) (.type "type") f with
  | some (.val (.int j t)) => decide (j = i)
  | _ => false)
end DX
namespace DX
open PySem PySem.Spec L2 PyProof.Rows StX
noncomputable def dIsiT (ns : List String) (d : D) : Option Bool := chk (plain d = true) (ns.any fun m => isi m d)
section
variable {X : Cx} {M : Mem} {P : D → Mem → Prop}
end
def conSB (K : PySem.W.Frag) (C f x : Str) : Bool := match PySem.W.findIn K (.ref (He.ga K C)) f with
  | some (some (.str y t)) => decide (y = x) && He.eqO (PySem.W.specialIn K (.str y t) "__get__") (some none)
  | _ => false
def cvalSB (K : PySem.W.Frag) (C f x : Str) : Bool := PySem.W.readsIn K (He.ga K C) (.type "type") && (He.eqO (PySem.W.specialIn K (.ref (He.ga K C)) "__getattribute__") (some (some (.builtin "type.__getattribute__"))) && match PySem.W.findCls K (.ref (He.ga K C)) (.type "type") f with
  | some (.val (.str y t)) => decide (y = x)
  | _ => false)
end DX
namespace DX
open PySem PySem.Spec L2 PyProof.Rows StX LamX
theorem code_ref {K : PySem.W.Frag} {x : Str × Option Str} {cdv : Value} (h : CodeAt K (He.fAd K x) cdv) (hne : (ctA K x).1 ≠ (ctA K x).2) : cdv = .ref (ctA K x).1 := by
  obtain ⟨oc, od, osl, fd, lk, rfl⟩ := h
  unfold ctA at hne ⊢
  rw [lk] at hne ⊢
  cases hc : fd.code with
  | ref c =>
    simp only [hc] at hne ⊢
    cases h1 : K.lookup c with
    | none => simp only [h1] at hne; exact absurd rfl hne
    | some o =>
      obtain ⟨k1, k2, k3, k4⟩ := o
      simp only [h1] at hne ⊢
      cases k3 with
      | fields vs =>
        simp only at hne ⊢
        cases h2 : (vs[11]? : Option Value) with
        | none => simp only [h2] at hne; exact absurd rfl hne
        | some v =>
          simp only [h2] at hne ⊢
          cases v <;> first | rfl | exact absurd rfl hne
      | _ => exact absurd rfl hne
  | _ => simp only [hc] at hne; exact absurd rfl hne
theorem tab_ne {K : PySem.W.Frag} {x : Str × Option Str} {base : Heap} {mg : Str → Option Value} (h : TabB base mg (ctA K x).1 (ctA K x).2) : (ctA K x).1 ≠ (ctA K x).2 := by
  obtain ⟨_, _, _, _, _, _, _, _, _, _, _, _, _, _, _, _, _, _, n⟩ := h.code
  exact n
def TbM (K : PySem.W.Frag) (tl : TbL) (M : Mem) : Prop := ∀ x ∈ tl, M (ctA K x.1).2 = some (.tbl x.2)
theorem tbm_up {K : PySem.W.Frag} {tl : TbL} {M : Mem} {a : Addr} {d : D} (h : TbM K tl M) (n : M a = none) : TbM K tl (up M a d) := fun x hx => by
  have e := h x hx
  rw [up_ne (fun z => by rw [z, n] at e; cases e)]
  exact e
section
variable {K : PySem.W.Frag} {F H : Hp} {M : Mem}
/-- a table grows by a code object -/
theorem Ok.grow (k : Ok K F M H) {P c : Addr} {q : Str} {ps : Array Value} {p1 : Pos} (hM : M P = some (.tbl q)) (hP : H P = some (.tbl ps)) (hc : H c = none) :
    Same F (upd F c (CodeO c q)) ∧ Ok K (upd F c (CodeO c q)) M (upd (upd H P (.tbl (ps ++ #[rawInt p1.line, rawInt p1.col, .ref c]))) c (CodeO c q)) := by
  obtain ⟨nF, nM⟩ := k.nn hc
  have sm : Same F (upd F c (CodeO c q)) := same_new nF
  obtain ⟨fP, ps', hP', tr, ht⟩ := k.mt P _ hM
  rw [hP] at hP'; cases hP'
  have nPc : P ≠ c := ne_of_none hP hc
  refine ⟨sm, fun b u e => ?_, fun b d e => ?_⟩
  · by_cases hb : b = c
    · subst hb; rw [upd_same] at e ⊢; exact e
    · rw [upd_ne hb] at e ⊢
      rw [upd_ne (ne_of_none e fP)]
      exact k.ex b u e
  · have hb : b ≠ c := fun z => by rw [z, nM] at e; cases e
    obtain ⟨m1, m2⟩ := k.mt b d e
    refine ⟨by rw [upd_ne hb]; exact m1, ?_⟩
    by_cases hp : b = P
    · subst hp
      rw [hM] at e; cases e
      refine ⟨_, by rw [upd_ne hb, upd_same], ?_, fun pos cv z => ?_⟩
      · have el : (ps ++ #[rawInt p1.line, rawInt p1.col, Value.ref c]).toList = ps.toList ++ [rawInt p1.line, rawInt p1.col, .ref c] := by simp
        rw [el]; exact PySem.TriplesOk_snoc _ _ _ _ tr
      · have el : (ps ++ #[rawInt p1.line, rawInt p1.col, Value.ref c]).toList = ps.toList ++ [rawInt p1.line, rawInt p1.col, .ref c] := by simp
        rw [el] at z
        rcases among_app _ tr z with z | z
        · obtain ⟨c0, h1, h2⟩ := ht pos cv z
          exact ⟨c0, h1, sm _ _ h2⟩
        · exact ⟨c, z, upd_same⟩
    · exact m2.mono sm (by rw [upd_ne hb, upd_ne hp])
end
section
variable {X : Cx} {pins : List (Addr × Obj)} {σ : L2.St} {H F : Hp} {M : Mem} {s : Shared}
abbrev lamO (X : Cx) (params : Arguments) (body : Expr) (scope : Scope) (pm : Value) (c' : Addr) (ctv : Value) : Obj :=
  PySem.W.kla_obj "<lambda>" (X.env.qual ++ "<lambda>") params body scope (cloFrom X.env.cells scope.names []) pm c' ctv
/-- the lambda is made -/
theorem lam_made {c P : Addr} {params : Arguments} {body : Expr} {scope : Scope} {pos : Pos} {E : Value → Shared → Prop} {Q : Value → Shared → Prop} (I : L2.Inv X pins σ H s) (o : Ok X.K F M H) (TB : TabB X.base X.mg c P) (hcode : X.env.code = .ref c)
    (hM : M P = some (.tbl (X.env.qual ++ "<lambda>"))) (hdef : defaultsOf params X.env = ([], [])) (hfree : ∀ y ∈ scope.names, y.2 = .free → ∃ c, X.env.cells.lookup y.1 = some c)
    (h : ∀ (f c' : Addr) (pm ctv : Value) (H1 F1 : Hp) (s' : Shared), L2.Inv X pins σ H1 s' → Same F F1 → Ok X.K F1 M H1 → s'.heap.get? f = some (lamO X params body scope pm c' ctv) → H1 f = none → f ∉ frs X.stack → F1 c' = some (CodeO c' (X.env.qual ++ "<lambda>")) → Q (.ref f) s') :
    wpAny (model X.prog X.w) X.A (eval (.Lambda params body scope pos) X.env) Q E s := by
  obtain ⟨fP, ps, hP, tr, ht⟩ := o.mt P _ hM
  have here : s.heap.get? P = some { cls := .none, data := .fields ps } := I.hok P _ hP
  have bB : s.heap.BuiltinsAt X.mg P := TB.bm.keeps I.bk
  have far : ∀ f, s.heap.objs.size ≤ f → f ∉ frs X.stack := fun f hf z => (List.mem_cons.mp (I.stkSub _ z)).elim (fun e => by
    have := I.lt
    rw [← e] at this
    exact absurd (Nat.lt_of_lt_of_le this hf) (Nat.lt_irrefl _)) fun e => I.nofs hf e
  refine PySem.W.kla_eval hdef ?_
  cases hc : codeAmong pos ps.toList with
  | some cv =>
    obtain ⟨c', rfl, hco⟩ := ht pos cv hc
    refine PySem.W.kla_makeFunctionHit (mg := X.mg) (c := c) (P := P) (ps := ps) (closure_ok hfree) I.ok.glob (I.mod.glob.keeps I.bk) hcode (TB.code.keeps I.bk) here tr hc bB fun ctv h' tk hx hsz => ?_
    exact h _ c' _ ctv H F _ (I.kept (t' := tk) fun b ob e => Heap.get?_push_of_some _ (hx b ob e)) (Same.refl F) o (Heap.get?_push_size _ rfl) (I.hok.fresh hsz) (far _ hsz) hco
  | none =>
    refine PySem.W.kla_makeFunction (mg := X.mg) (c := c) (P := P) (ps := ps) (closure_ok hfree) I.ok.glob (I.mod.glob.keeps I.bk) hcode (TB.code.keeps I.bk) here tr hc TB.gP bB fun c' ctv h' tk hx hge hlt hrec htb => ?_
    obtain ⟨_, oc, vs, t, e2, hoc, hd, hv⟩ := hrec
    cases e2
    have nC : H c' = none := I.hok.fresh hge
    have hsz : s.heap.objs.size ≤ h'.objs.size := Nat.le_of_lt (Nat.lt_of_le_of_lt hge hlt)
    obtain ⟨sm, o1⟩ := o.grow (p1 := pos) hM hP nC
    refine h h'.objs.size c' _ ctv _ _ _ (inv_table (t' := tk) (more := #[rawInt pos.line, rawInt pos.col, .ref c']) I hP (fun b ob hb e => Heap.get?_push_of_some _ (hx b ob hb e)) (Heap.get?_push_of_some _ htb) hge ⟨oc, vs, t, Heap.get?_push_of_some _ hoc, hd, hv⟩) sm o1 (Heap.get?_push_size _ rfl) ?_ (far _ hsz) upd_same
    rw [upd_ne (Nat.ne_of_gt hlt), upd_ne (Nat.ne_of_gt (Nat.lt_of_lt_of_le (Heap.lt_size here) hsz))]
    exact I.hok.fresh hsz
/-- what the call of a name that holds the lambda does, in the def that got it -/
def LamAt (Z : Cx) (a : Str) (i : Nat) (f : Addr) (F0 : Hp) (M : Mem) (T : (D → Mem → Prop) → RX → Prop) : Prop :=
  ∀ (pn : List (Addr × Obj)) (xe : Value → Shared → Prop) (J : Gh) (ρ : DEnv) (P : D → Mem → Prop) (RR : Addr → List (Str × D) → DEnv → Mem → Prop) (p1 p2 : Pos), (∀ F, J.p F → Same F0 F) → Lets (Z.tr pn xe) J RR → look ρ i = some (.adr f) → T P (Rof RR ρ) → EX (Z.tr pn xe) J (.Call (.Name a p1) [] [] p2) ρ M P
end
/-- the body of a def that gets a lambda (its one parameter a) and calls it -/
def BodyL (pg : Program) (w : World) (K : PySem.W.Frag) (mg : Str → Option Value) (base : Heap) (gd : Bool) (k : Nat) (g : Addr) (qual : Str) (body : List Stmt) (scope : Scope) (N : List Str) (a : Str) (T' : ((D → Mem → Prop) → RX → Prop) → Mem → (D → Mem → Prop) → Prop) : Prop :=
  ∀ (cdv : Value) (A : Around) (outer : List PySem.Env) (s : Shared) (H F0 : Hp) (E : XK) (f : Addr) (M : Mem) (T : (D → Mem → Prop) → RX → Prop) (P : D → Mem → Prop), (gd = true → A.guards = some []) → Room k (A.deeper (envOfC qual scope s.heap.objs.size g cdv)) → T' T M P →
    LamAt (cxOf (L2.CX pg w) pg w K mg base N qual scope g cdv A outer s H E) a 0 f F0 M T →
    PassesOwn (model pg w) (cxOf (L2.CX pg w) pg w K mg base N qual scope g cdv A outer s H E).A (cxOf (L2.CX pg w) pg w K mg base N qual scope g cdv A outer s H E).env (cxOf (L2.CX pg w) pg w K mg base N qual scope g cdv A outer s H E).xe →
    GX (cxOf (L2.CX pg w) pg w K mg base N qual scope g cdv A outer s H E) (ghF F0) body (startD (N.length - 1) [.adr f]) M ⟨fun _ M' => P .non M', P, fun _ _ => False, fun _ _ => False⟩
section
variable {X : Cx} {J : Gh} {ρ : DEnv} {M : Mem} {P : D → Mem → Prop} {x a qg : Str} {g c Pt : Addr} {k kb : Nat} {gd : Bool} {pg : Arguments} {bg : List Stmt} {sg : Scope} {fd : FuncData} {Ng : List Str} {params : Arguments} {body : Expr} {scope : Scope} {p lpos pos : Pos}
  {T : (D → Mem → Prop) → RX → Prop} {T' : ((D → Mem → Prop) → RX → Prop) → Mem → (D → Mem → Prop) → Prop}
end
end DX
namespace DX
open PySem PySem.Spec L2 PyProof.Rows StX LamX
/-- the names of the lambdas, at their tables -/
def tbMem (K : PySem.W.Frag) (tl : TbL) : Mem := fun a => (tl.find? fun x => (ctA K x.1).2 == a).map fun x => .tbl x.2
theorem tbMem_ok {K : PySem.W.Frag} {tl : TbL} (h : tbOne K tl = true) : TbM K tl (tbMem K tl) := fun x hx => by
  have := List.all_eq_true.mp h x hx
  unfold tbMem
  cases e : tl.find? fun y => (ctA K y.1).2 == (ctA K x.1).2 with
  | none => rw [e] at this; cases this
  | some y => rw [e] at this; rw [Option.map_some, of_decide_eq_true this]
theorem tbMem_in {K : PySem.W.Frag} {tl : TbL} {a : Addr} {d : D} (h : tbMem K tl a = some d) : ∃ x ∈ tl, (ctA K x.1).2 = a ∧ d = .tbl x.2 := by
  unfold tbMem at h
  cases e : tl.find? fun y => (ctA K y.1).2 == a with
  | none => rw [e] at h; cases h
  | some y =>
    rw [e] at h; cases h
    have hy := List.find?_some e
    exact ⟨y, List.mem_of_find?_eq_some e, beq_iff_eq.mp hy, rfl⟩
theorem law_goT {pg : Program} {w : World} {K : PySem.W.Frag} {mg mb : Str → Option Value} {k : Nat} {fa a : Addr} {T : TrX} {s1 : Shared} {vs : List Value} {ns : List Int} {tn : TbN}
    (KX : K.In s1.heap) (gN : s1.heap.Ns mainGlobals mg) (bN : s1.heap.Ns builtinsNs mb) (bA : ∀ y : Str, y ≠ "__name__" → mb y = bootBuiltins y) (lim : s1.heap.NoLimit) (gens : s1.gens = #[])
    (bM : ∃ (bm : Addr) (ob : Obj), mg "__builtins__" = some (.ref bm) ∧ bm ≠ builtinsNs ∧ s1.heap.get? bm = some ob ∧ ob.cls = .type "module" ∧ ob.dict = some builtinsNs ∧ ob.data = .plain) (TK : TbK K tn s1.heap)
    (ha : s1.heap.get? a = some { cls := .type "list", data := .seq vs.toArray }) (hi : PyProof.Rows.IntsAre vs ns) (hl : ns.length ≤ sizeLine) (hr : Room k callerA)
    (G : ∀ base : Heap, K.In base → base.Ns mainGlobals mg → (∀ x ∈ tn, TabB base mg (ctA K x).1 (ctA K x).2) → FnX pg w K mg base true k fa [] T)
    (ht : ∀ H : Hp, SqL K H a (ns.map V.int) → (∀ x ∈ tn, H (ctA K x).2 = some (.tbl #[])) → ∃ F M ds, Ok K F M H ∧ Rps K F [.ref a] ds ∧ T ds [] M (fun d _ => d = .bl true) noX) :
    codeAny (model pg w) callerA (.call (.ref fa) ⟨[.ref a], []⟩) (fun r s' => r = .ok (.ret (.bool true)) ∧ OldK s1.heap s'.heap ∧ s'.os = s1.os ∧ PyProof.Rows.AllBare s'.gens) s1 := by
  have vals := vals_ints hi
  let isP : Addr → Prop := fun b => ∃ x ∈ tn, (ctA K x).2 = b
  have tabAt : ∀ {b}, isP b → s1.heap.get? b = some { cls := .none, data := .fields #[] } := fun ⟨x, hx, e⟩ => e ▸ (TK.ex x hx).2.1
  have tabK : ∀ {b}, isP b → K.lookup b = none := fun ⟨x, hx, e⟩ => e ▸ (TK.ex x hx).2.2
  have naP : ¬ isP a := fun z => by
    have q := tabAt z
    rw [ha] at q
    have q : Data.seq vs.toArray _ = Data.fields #[] := congrArg Obj.data (Option.some.inj q)
    cases q
  have main : ∀ H : Hp, (∀ b u, H b = some u → (b = a ∧ K.lookup a = none ∧ u = .frz { cls := .type "list", data := .seq vs.toArray } (.lst (ns.map V.int))) ∨ (isP b ∧ u = .tbl #[])) → (∀ b, isP b → H b = some (.tbl #[])) → SqL K H a (ns.map V.int) → L2.HOk pg w H s1.heap →
      codeAny (model pg w) callerA (.call (.ref fa) ⟨[.ref a], []⟩) (fun r s' => r = .ok (.ret (.bool true)) ∧ OldK s1.heap s'.heap ∧ s'.os = s1.os ∧ PyProof.Rows.AllBare s'.gens) s1 := by
    intro H only tabs seq hok
    have seen : ∀ {b : Addr} {ob : Obj}, s1.heap.get? b = some ob → (∀ l n, ob.data ≠ .seq l n) → ob.data ≠ .fields #[] → (hidT s1.heap H).get? b = some ob := by
      intro b ob e n1 n2
      refine hidT_get e ?_
      cases q : H b with
      | none => rfl
      | some u =>
        rcases only b u q with ⟨rfl, _, _⟩ | ⟨z, _⟩
        · rw [ha] at e; cases e
          exact absurd rfl (n1 _ _)
        · rw [tabAt z] at e; cases e
          exact absurd rfl n2
    have kept : ∀ {b : Addr} {m : Str → Option Value}, s1.heap.Ns b m → (hidT s1.heap H).Ns b m := by
      rintro b m ⟨ob, es, ep, h1, h2, h3⟩
      exact ⟨ob, es, ep, seen h1 (fun l n z => by rw [h2] at z; cases z) (fun z => by rw [h2] at z; cases z), h2, h3⟩
    have kin : K.In (hidT s1.heap H) := by
      intro b ob h1
      refine hidT_get (KX b ob h1) ?_
      cases q : H b with
      | none => rfl
      | some u =>
        rcases only b u q with ⟨rfl, h2, _⟩ | ⟨z, _⟩
        · rw [h2] at h1; cases h1
        · rw [tabK z] at h1; cases h1
    have tb : ∀ x ∈ tn, TabB (hidT s1.heap H) mg (ctA K x).1 (ctA K x).2 := fun x hx => by
      obtain ⟨C, hP, _⟩ := TK.ex x hx
      obtain ⟨oc, us, fl, tf, fg, tg, bf, tx, tt, c1, c2, c3, c4, c5⟩ := C
      refine ⟨⟨oc, us, fl, tf, fg, tg, bf, tx, tt, seen c1 (fun l n z => by rw [c3] at z; cases z) (fun z => by rw [c3] at z; cases z; simp at c4), c2, c3, c4, c5⟩, ?_, fun z => ?_⟩
      · obtain ⟨bm, ob, m1, m2, m3, m4, m5, m6⟩ := bM
        refine ⟨bm, ob, m1, m2, fun z => ?_, fun z => ?_, seen m3 (fun l n z => by rw [m6] at z; cases z) (fun z => by rw [m6] at z; cases z), m4, m5, m6⟩
        · obtain ⟨o2, es, ep, g1, g2, _⟩ := gN
          rw [z, g1] at m3; cases m3
          rw [g2] at m6; cases m6
        · rw [z, hP] at m3; cases m3
          cases m6
      · obtain ⟨o2, es, ep, g1, g2, _⟩ := gN
        rw [z, hP] at g1; cases g1
        cases g2
    have start_ : Env0 pg w K mg (hidT s1.heap H) callerA [] s1 H :=
      ⟨rfl, ⟨kin, kept gN, ⟨mb, kept bN, bA⟩, let ⟨mc, z1, z2⟩ := lim; ⟨mc, kept z1, z2⟩⟩, fun b ob z => of_hidT z, Nat.le_of_eq (hidT_size _ _), trivial, fun b z => (List.not_mem_nil z).elim, hok, .of_eq gens⟩
    obtain ⟨F, M, ds, o, rd, t⟩ := ht H seq fun x hx => tabs _ ⟨x, hx, rfl⟩
    refine codeAny_mono ((G _ kin (kept gN) tb).go callerA [] s1 H F M ds [] _ noX [.ref a] [] [.ref a] [] (fun v _ => v = .bl true) (fun _ _ _ => False) (fun _ => rfl) hr start_ (.cons rfl .nil) .nil rfl o rd .nil t (fun d v M' F' H' z1 _ _ z2 => by subst z1; cases z2; rfl) Kx.no) fun res s' end_ => ?_
    match res, end_ with
    | .error _, end_ => exact (no_err end_).elim
    | .ok .next, end_ => exact end_.elim
    | .ok .brk, end_ => exact end_.elim
    | .ok .cont, end_ => exact end_.elim
    | .ok (.ret u), ⟨v, H', h1, h2, h3, h4, h5, h6⟩ =>
      subst h6
      cases (show u = Value.bool true from h5)
      have now : ∀ b ob, s1.heap.get? b = some ob → s'.heap.get? b = some ob ∨ (isP b ∧ ∃ more : Array Value, s'.heap.get? b = some { cls := .none, data := .fields more }) := fun b ob z => by
        cases q : H b with
        | none => exact .inl (h3.keep b ob z q List.not_mem_nil List.not_mem_nil)
        | some u =>
          rcases only b u q with ⟨rfl, _, rfl⟩ | ⟨hp, rfl⟩
          · obtain ⟨e1, _⟩ := h4 b _ (h3.frzs b _ _ q)
            rw [ha] at z; cases z
            exact .inl e1
          · obtain ⟨more, e⟩ := h3.tbls b #[] q
            exact .inr ⟨hp, _, h4 b _ e⟩
      refine ⟨rfl, ⟨fun b ob z => ?_, fun b ob z => ?_⟩, h1, h2⟩
      · rcases now b ob z with e | ⟨⟨x, hx, rfl⟩, more, e⟩
        · exact .inl e
        · obtain ⟨C, hP, _⟩ := TK.ex x hx
          rw [hP] at z; cases z
          exact .inr (.inl ⟨(C.tab hP).isCodeTable, rfl, #[], more, rfl, by rw [Array.empty_append]; exact e⟩)
      · rcases now b ob z with e | ⟨_, more, e⟩
        · exact ⟨_, e⟩
        · exact ⟨_, e⟩
  classical
  cases q : K.lookup a with
  | some ob =>
    have e1 := KX a ob q
    rw [ha] at e1; cases e1
    have own : ∀ b u, (if isP b then some (HO.tbl #[]) else none) = some u → isP b ∧ u = .tbl #[] := fun b u z => by
      by_cases e : isP b
      · rw [if_pos e] at z; cases z; exact ⟨e, rfl⟩
      · rw [if_neg e] at z; cases z
    refine main (fun b => if isP b then some (.tbl #[]) else none) (fun b u z => .inr (own b u z)) (fun b z => if_pos z) (.inr ⟨_, vs.toArray, _, q, rfl, rfl, rfl, by simpa [hi.length] using hl, by simpa using vals⟩) fun b u z => ?_
    obtain ⟨h1, rfl⟩ := own b u z
    exact tabAt h1
  | none =>
    have own : ∀ b u, (if b = a then some (HO.frz { cls := .type "list", data := .seq vs.toArray } (.lst (ns.map V.int))) else if isP b then some (HO.tbl #[]) else none) = some u → (b = a ∧ u = .frz { cls := .type "list", data := .seq vs.toArray } (.lst (ns.map V.int))) ∨ (isP b ∧ u = .tbl #[]) := by
      intro b u z
      by_cases e : b = a
      · rw [if_pos e] at z; cases z; exact .inl ⟨e, rfl⟩
      · rw [if_neg e] at z
        by_cases e2 : isP b
        · rw [if_pos e2] at z; cases z; exact .inr ⟨e2, rfl⟩
        · rw [if_neg e2] at z; cases z
    refine main (fun b => if b = a then some (.frz { cls := .type "list", data := .seq vs.toArray } (.lst (ns.map V.int))) else if isP b then some (.tbl #[]) else none) (fun b u z => (own b u z).imp (fun z => ⟨z.1, q, z.2⟩) id) (fun b z => (if_neg (fun e : b = a => naP (by rw [e] at z; exact z))).trans (if_pos z)) (.inl (.inr ⟨_, if_pos rfl⟩)) fun b u z => ?_
    rcases own b u z with ⟨rfl, rfl⟩ | ⟨h1, rfl⟩
    · exact ⟨ha, by rw [List.length_map]; exact hl, vs, _, vals, ha⟩
    · exact tabAt h1
theorem walk_ofT {l : PySem.W.OpenLaw} {k : Nat} {q : Program} {loose : List Str} {XP : (Str → Option Value) → Heap → Prop} {YP : World → Heap → Prop} {d : DefRec} {tn : TbN} (hn : l.most = some 63) (hdf : d.params.defaults = []) (hr : Room k callerA)
    (G : ∀ (w : World) (mg : Str → Option Value) (fa : Addr) (h : Heap), YP w h → h.Ns mainGlobals mg → mg d.name = some (.ref fa) →
      ∃ (K : PySem.W.Frag) (T : TrX), K.In h ∧ TbK K tn h ∧
        (∀ (H : Hp) (a : Addr) (ns : List Int), ns.length ≤ 63 → SqL K H a (ns.map V.int) → (∀ x ∈ tn, H (ctA K x).2 = some (.tbl #[])) → ∃ F M ds, Ok K F M H ∧ Rps K F [.ref a] ds ∧ T ds [] M (fun d _ => d = .bl true) noX) ∧
        ∀ base : Heap, K.In base → base.Ns mainGlobals mg → (∀ x ∈ tn, TabB base mg (ctA K x).1 (ctA K x).2) → FnX l.prog w K mg base true k fa [] T) :
    PySem.W.WalkO q loose XP YP l.row.toRowW d [] (fun f vs => PySem.call f vs) :=
  Att.attach_call hn hdf fun w s0 s1 mg mb fa o pm cd doc a vs ns Gr Y ho hd hcd hmg hobj hints hlen hgens => by
    obtain ⟨K, T, KX, TK, ht, hF⟩ := G w mg fa _ Y Gr.T.g hmg
    exact law_goT KX Gr.T.g Gr.T.b Gr.T.builtins Gr.T.nolimit hgens Gr.T.bmain TK hobj hints (Nat.le_trans hlen (by decide)) hr hF fun H hS hP => ht H a ns hlen hS hP
theorem lookT_eq {n : Nat} {fa : List He.Fa} {fn : List He.DefD} {pr : List PrD} {ex : PySem.W.Frag → Bool} {tl : TbL} {g : Addr → Option Obj} {s : Shared} (h : ∀ a, g a = s.heap.get? a) : lookT fa fn pr ex tl n g = (hookT n fa fn pr ex tl).obs s := by
  have e : g = s.heap.get? := funext h
  subst e
  rfl
end DX
namespace DX
open PySem PySem.Spec L2 PyProof.Rows StX
noncomputable def dLower : D → Option D
  | .str z => chk (z.length ≤ 1000000) (.str (Txt.lower z))
  | _ => none
def unstD : D → D
  | .stup ds => .tup ds
  | d => d
def stupD : D → Option (List D)
  | .stup ds => some ds
  | _ => none
section
variable {X : Cx} {J : Gh} {e o : Expr} {ρ : DEnv} {M : Mem} {P : D → Mem → Prop} {pos apos cpos : Pos} {k : Nat} {K : PySem.W.Frag} {F : Hp}
end
end DX
namespace ZipL
open PySem PySem.Spec L2 PyProof.Rows
section
variable {prog : Program} {w : World} {A : Around} {R : Result → Shared → Prop} {z TI TO i1 i2 l1 l2 S : Addr} {xs ys : Array Value}
end
section
variable {prog : Program} {w : World} {A : Around} {R : Result → Shared → Prop} {E : Value → Shared → Prop} {s : Shared} {z TI TO i1 i2 l1 l2 S : Addr} {xs ys : Array Value}
theorem init (hh : A.in1.handled = none) (D : ZipApart z TI TO i1 i2 l1 l2) (O : Off z TI TO i1 i2 l1 l2 S) (hn : min xs.size ys.size ≤ sizeLine) (hz : IsZip s.heap z TI TO .none) (hst : ZSt z TI TO i1 i2 l1 l2 S xs ys 0 s.heap)
    (hS : s.heap.get? S = some { cls := .type "list", data := .seq #[] })
    (hR : ∀ h' ts' c', (∀ b o, b ≠ S → b ≠ z → b ≠ TO → b ≠ i1 → b ≠ i2 → s.heap.get? b = some o → h'.get? b = some o) → h'.get? S = some { cls := .type "list", dict := none, data := .seq (ts'.map Value.ref).toArray c', slots := #[] } →
      ts'.length = min xs.size ys.size → Acc S xs ys ts' h' → R (.ok (.ret .none)) { s with heap := h' }) :
    wpAny (model prog w) A.in1 (Builtin.«list.__init__» ⟨[.ref S, .ref z], []⟩)
      (fun fin s' => match fin with | .done f => R (.ok f) s' | .again c' => c'.quiet = true ∧ codeAny (model prog w) A c' R s') (fun e s' => R (.error e) s') s := by
  show wpAny _ A.in1 (do let old ← Builtin.List.listItems (.ref S); Builtin.List.listUpdate (.ref S) (fun _ => #[]); letGo old.toList.reverse; Builtin.List.listExtendWith (.ref S) (.ref z) .none) _ _ s
  refine wpAny_bind ?_
  unfold Builtin.List.listItems
  refine wpAny_bind (wpAny_seqItems hS rfl (wpAny_pure ?_))
  show wpAny _ A.in1 (updateSeq S (fun _ => #[]) >>= fun _ => letGo (#[] : Array Value).toList.reverse >>= fun _ => Builtin.List.listExtendWith (.ref S) (.ref z) .none) _ _ s
  refine wpAny_bind (wpAny_updateSeq hS rfl ?_)
  have hS₂ := Heap.get?_update_self (Obj.mapSeq (fun _ => (#[] : Array Value))) hS rfl
  have oth : ∀ b o, b ≠ S → s.heap.get? b = some o → (s.heap.update S (Obj.mapSeq (fun _ => (#[] : Array Value)))).get? b = some o :=
    fun b o hb e => (Heap.get?_update_other _ _ (Ne.symm hb)).trans e
  have hst' : ZSt z TI TO i1 i2 l1 l2 S xs ys 0 (s.heap.update S (Obj.mapSeq (fun _ => (#[] : Array Value)))) := by
    obtain ⟨a1, a2, a3, a4, a5, a6⟩ := hst
    refine ⟨oth _ _ (Nat.ne_of_lt O.TI) a1, a2.at fun o e => oth _ o (Nat.ne_of_lt O.i1) e, a3.at fun o e => oth _ o (Nat.ne_of_lt O.i2) e, a4.at fun o e => oth _ o (Nat.ne_of_lt O.l1) e, a5.at fun o e => oth _ o (Nat.ne_of_lt O.l2) e, ?_⟩
    rcases a6 with ⟨q1, a, b, q2⟩ | ⟨T, f, oT, q1, q2, q3, q4, q5, q6⟩
    · exact .inl ⟨oth _ _ (Nat.ne_of_lt O.z) q1, a, b, oth _ _ (Nat.ne_of_lt O.TO) q2⟩
    · exact .inr ⟨T, f, oT, oth _ _ (Nat.ne_of_lt O.z) q1, oth _ _ q6 q2, q3, q4, q5, q6⟩
  refine wpAny_bind (wpAny_letGo ?_)
  exact extend hh D O hn .none _ (oth _ _ (Nat.ne_of_lt O.z) hz) hst' hS₂ fun h' ts' c' kp e hl hA => hR h' ts' c' (fun b o b1 b2 b3 b4 b5 e => kp b o b1 b2 b3 b4 b5 (oth b o b1 e)) e hl hA
end
def zH : Hp → List (Addr × V × V) → Hp
  | H, [] => H
  | H, (T, x, y) :: r => zH (upd H T (.tup [x, y])) r
def FrL : Hp → List (Addr × V × V) → Prop
  | _, [] => True
  | H, (T, x, y) :: r => H T = none ∧ FrL (upd H T (.tup [x, y])) r
section
variable {X : Cx} {pins : List (Addr × Obj)} {σ : L2.St} {H H' : Hp} {s : Shared} {h' : Heap}
end
def tLZ (K : PySem.W.Frag) (ta : TA) : TE := fun σ H Q => ta σ H fun vs H1 => ∃ a b xs ys, vs = [.ref a, .ref b] ∧ SqL K H1 a xs ∧ SqL K H1 b ys ∧
  ∀ (l : List (Addr × V × V)) (S : Addr), l.map (·.2) = xs.zip ys → FrL H1 l → zH H1 l S = none → Q (.ref S) (upd (zH H1 l) S (.lst (l.map fun t => V.ref t.1)))
end ZipL
namespace DX
open PySem PySem.Spec L2 PyProof.Rows ZipL
section
variable {X : Cx} {J : Gh} {M : Mem} {F : Hp} {K : PySem.W.Frag} {ρ : DEnv} {a b : Expr} {p pos p' pos' : Pos} {P : D → Mem → Prop}
def dZipL : D → D → Option (List D)
  | .lst ds, .lst es => some (zipD ds es)
  | _, _ => none
end
end DX
namespace EnK
open PySem PySem.Spec L2 PyProof.Rows
section
variable {M : Model} {A : Around} {E : Value → Shared → Prop} {s : Shared} {env : Env}
end
/-- the tuple at a, its items in new pairs, counted from k -/
def IteK (K : PySem.W.Frag) (a : Addr) (k : Nat) : It :=
  ⟨fun i H => ∃ (xs : List V) (x : V), SqT K H a xs ∧ xs[i]? = some x, fun i H v H' => ∃ T x, v = .ref T ∧ H T = none ∧ H' = upd H T (.tup [.int (k + i : Nat), x]) ∧ ∀ xs, SqT K H a xs → xs[i]? = some x, fun i H => ∃ xs : List V, SqT K H a xs ∧ xs.length ≤ i⟩
def iEnumK (K : PySem.W.Frag) (ta tk : TA) : TI := fun σ H R => ta σ H fun vs H1 => tk σ H1 fun zs H2 => ∃ a xs, ∃ k : Nat, vs = [.ref a] ∧ zs = [.int (k : Int)] ∧ k < 1000000 ∧ SqT K H2 a xs ∧ R (IteK K a k) H2
end EnK
namespace DX
open PySem PySem.Spec L2 EnK
def dEnumK : D → D → Option (List D)
  | .tup ds, .int k => if 0 ≤ k ∧ k < 1000000 then some (enumD k.toNat ds) else none
  | _, _ => none
section
variable {X : Cx} {J : Gh} {M : Mem} {F : Hp} {K : PySem.W.Frag} {ρ : DEnv} {a b : Expr} {p pos kp : Pos}
end
end DX
namespace DX
open PySem PySem.Spec L2 PyProof.Rows
def isFl : D → Bool
  | .int _ => true
  | .str _ => true
  | _ => false
def isI (i : Int) : D → Bool
  | .int j => decide (j = i)
  | _ => false
def isSt (z : Str) : D → Bool
  | .str w => decide (w = z)
  | _ => false
def isBl : D → Bool
  | .bl _ => true
  | _ => false
def isB (b : Bool) : D → Bool
  | .bl c => c == b
  | _ => false
def dLidx : D → D → Option D
  | .lst ds, .bl b => if ds.all isBl = true then (ds.findIdx? (isB b)).map fun (j : Nat) => .int (j : Int) else none
  | .lst ds, .str z => if ds.all isFl = true then (ds.findIdx? (isSt z)).map fun (j : Nat) => .int (j : Int) else none
  | .lst ds, .int i => if ds.all isFl = true then (ds.findIdx? (isI i)).map fun (j : Nat) => .int (j : Int) else none
  | _, _ => none
theorem flat_all {K : PySem.W.Frag} {F : Hp} : ∀ {xs : List V} {ds : List D}, Rps K F xs ds → ds.all isFl = true → xs.all flatV = true
  | _, _, .nil, _ => rfl
  | _, _, .cons r rs, h => by
    rw [List.all_cons, Bool.and_eq_true] at h
    rw [List.all_cons, flat_all rs h.2, Bool.and_true]
    cases r <;> first | rfl | (cases h.1; done)
theorem flat_eq {K : PySem.W.Frag} {F : Hp} {v : V} {d : D} {i : Int} (r : Rp K F v d) (h : isFl d = true) : eqV v (.int i) = isI i d := by
  cases r <;> first | (cases h; done) | (simp [eqV, isI]; done) | (simp only [eqV, isI]; rfl)
theorem flat_eqS {K : PySem.W.Frag} {F : Hp} {v : V} {d : D} {z : Str} (r : Rp K F v d) (h : isFl d = true) : eqV v (.str z) = isSt z d := by
  cases r <;> first | (cases h; done) | (simp [eqV, isSt]; done) | (simp only [eqV, isSt]; rfl)
theorem bl_all {K : PySem.W.Frag} {F : Hp} : ∀ {xs : List V} {ds : List D}, Rps K F xs ds → ds.all isBl = true → xs.all flatV = true
  | _, _, .nil, _ => rfl
  | _, _, .cons r rs, h => by
    rw [List.all_cons, Bool.and_eq_true] at h
    rw [List.all_cons, bl_all rs h.2, Bool.and_true]
    cases r <;> first | rfl | (cases h.1; done)
theorem flat_eqB {K : PySem.W.Frag} {F : Hp} {v : V} {d : D} {b : Bool} (r : Rp K F v d) (h : isBl d = true) : eqV v (.bl b) = isB b d := by
  cases r <;> first | (cases h; done) | (simp [eqV, isB]; done) | (simp only [eqV, isB]; rfl)
section
variable {X : Cx} {J : Gh} {M : Mem} {ρ : DEnv} {o e : Expr} {apos cpos : Pos} {P : D → Mem → Prop}
theorem ex_lindexF (h : EX X J o ρ M fun d M1 => ∃ ds, d = .lst ds ∧ AX X J [e] ρ M1 fun ys M2 => ∃ y r, ys = [y] ∧ dLidx (.lst ds) y = some r ∧ P r M2)
    (hbase : attributeBase o "index" X.env (eval o X.env) = eval o X.env := by rfl)
    (few : ((backTo cpos (starEach [e] X.env)).all (fun x => !x.1) && (backToKw cpos (keywordEach [] X.env)).all (fun x => x.1.isSome) && decide ([e].length + ([] : List Keyword).length + (if ([] : List Keyword).isEmpty then 0 else 1) < 30)) = true := by rfl)
    (line : (apos.endLine == cpos.line) = true := by rfl) (hst : starEach [e] X.env = (false, eval e X.env) :: starEach [] X.env := by rfl) (hpl : (backTo cpos (starEach [] X.env)).any (·.1) = false := by rfl) :
    EX X J (.Call (.Attribute o "index" apos) [e] [] cpos) ρ M P :=
  ex_of (pe_bm PySem.F.plainAttrs_list PySem.F.slot_list_index PySem.F.type_list_index mt_index pe_any pa_any hbase few line hst hpl) fun F σ H Q st k => h.go st fun d v M1 F1 H1 q1 e1 o1 r1 => by
    obtain ⟨ds, rfl, q1⟩ := q1
    cases r1 with
    | lst h1 rs =>
      refine ⟨tyV_lst (o1.ex _ _ h1), q1.go (st.to e1 o1) fun ys vs M2 F2 H2 q3 e2 o2 r2 => ?_⟩
      obtain ⟨y, r, rfl, hr, q3⟩ := q3
      cases r2 with
      | cons r2 r3 =>
        cases r3
        unfold dLidx at hr
        split at hr
        · rename_i _ _ ds' b hd
          cases hd
          split at hr
          · rename_i hf
            obtain ⟨j, hj, rfl⟩ := Option.map_eq_some_iff.mp hr
            cases r2
            rw [List.findIdx?_eq_some_iff_getElem] at hj
            obtain ⟨hlt, hp, hno⟩ := hj
            have fl : ∀ (m : Nat) (hm : m < ds.length), isBl ds[m] = true := fun m hm => List.all_eq_true.mp hf _ (List.getElem_mem hm)
            obtain ⟨w, k1, k2⟩ := rs.get (List.getElem?_eq_getElem hlt)
            refine ⟨_, _, .bl b, j, w, rfl, rfl, SqL.of (o2.ex _ _ (e2 _ _ h1)), rfl, bl_all rs hf, k1, by rw [flat_eqB k2 (fl j hlt)]; exact hp, fun m z' hm hz => ?_, k _ _ _ _ _ q3 (e1.trans e2) o2 (.int _)⟩
            obtain ⟨w2, k3, k4⟩ := rs.get (List.getElem?_eq_getElem (show m < ds.length by omega))
            rw [k3] at hz
            cases hz
            rw [flat_eqB k4 (fl m (by omega))]
            exact Bool.eq_false_iff.mpr (hno m hm)
          · cases hr
        · rename_i _ _ ds' z hd
          cases hd
          split at hr
          · rename_i hf
            obtain ⟨j, hj, rfl⟩ := Option.map_eq_some_iff.mp hr
            cases r2
            rw [List.findIdx?_eq_some_iff_getElem] at hj
            obtain ⟨hlt, hp, hno⟩ := hj
            have fl : ∀ (m : Nat) (hm : m < ds.length), isFl ds[m] = true := fun m hm => List.all_eq_true.mp hf _ (List.getElem_mem hm)
            obtain ⟨w, k1, k2⟩ := rs.get (List.getElem?_eq_getElem hlt)
            refine ⟨_, _, .str z, j, w, rfl, rfl, SqL.of (o2.ex _ _ (e2 _ _ h1)), rfl, flat_all rs hf, k1, by rw [flat_eqS k2 (fl j hlt)]; exact hp, fun m z' hm hz => ?_, k _ _ _ _ _ q3 (e1.trans e2) o2 (.int _)⟩
            obtain ⟨w2, k3, k4⟩ := rs.get (List.getElem?_eq_getElem (show m < ds.length by omega))
            rw [k3] at hz
            cases hz
            rw [flat_eqS k4 (fl m (by omega))]
            exact Bool.eq_false_iff.mpr (hno m hm)
          · cases hr
        · rename_i _ _ ds' i hd
          cases hd
          split at hr
          · rename_i hf
            obtain ⟨j, hj, rfl⟩ := Option.map_eq_some_iff.mp hr
            cases r2
            rw [List.findIdx?_eq_some_iff_getElem] at hj
            obtain ⟨hlt, hp, hno⟩ := hj
            have fl : ∀ (m : Nat) (hm : m < ds.length), isFl ds[m] = true := fun m hm => List.all_eq_true.mp hf _ (List.getElem_mem hm)
            obtain ⟨w, k1, k2⟩ := rs.get (List.getElem?_eq_getElem hlt)
            refine ⟨_, _, .int i, j, w, rfl, rfl, SqL.of (o2.ex _ _ (e2 _ _ h1)), rfl, flat_all rs hf, k1, by rw [flat_eq k2 (fl j hlt)]; exact hp, fun m z' hm hz => ?_, k _ _ _ _ _ q3 (e1.trans e2) o2 (.int _)⟩
            obtain ⟨w2, k3, k4⟩ := rs.get (List.getElem?_eq_getElem (show m < ds.length by omega))
            rw [k3] at hz
            cases hz
            rw [flat_eq k4 (fl m (by omega))]
            exact Bool.eq_false_iff.mpr (hno m hm)
          · cases hr
        · cases hr
end
end DX
namespace DX
open PySem PySem.Spec L2 PyProof.Rows
section
variable {X : Cx} {J : Gh} {e o : Expr} {es : List Expr} {ρ ρ' : DEnv} {M M0 M1 : Mem} {F F' H H' : Hp} {σ : L2.St} {P : D → Mem → Prop} {K : PySem.W.Frag} {pos apos cpos : Pos}
def Mz : Mem := fun _ => none
theorem still_ok (k : Ok K F M H) : Ok K (stillF F H M) Mz H := ⟨fun a u h => by
  unfold stillF at h
  split at h
  · exact h
  · exact k.ex a u h, fun a d h => nomatch h⟩
theorem ThG.app {gs hs : List (Str × D)} (h : ThG M gs hs) : ∀ {g : List (Str × D)}, ThG M (g ++ gs) (g ++ hs)
  | [] => h
  | _ :: _ => .same (ThG.app h)
theorem still_back (k : Ok K F M H) {M' : Mem} (e : Same (stillF F H M) F') (k' : Ok K F' M' H') : Ok K F M H' := by
  refine ⟨((still_same k).trans e).trans k'.ex, fun a d hd => ?_⟩
  obtain ⟨m1, m2⟩ := k.mt a d hd
  obtain ⟨u, hu⟩ := m2.there
  have : H' a = some u := k'.ex _ _ (e _ _ (show stillF F H M a = some u by unfold stillF; rw [hd]; exact hu))
  exact ⟨m1, m2.mono (Same.refl F) (this.trans hu.symm)⟩
theorem tx_still {PB : Bool → Mem → Prop} (hs : StillE M ρ ρ') (h : TX X J e ρ' Mz fun t _ => PB t M) : TX X J e ρ M PB :=
  tx_of h fun F σ H Q st k => ⟨stillF F H M, ⟨hs.en st.ok st.en, still_ok st.ok, J.mono _ _ (still_same st.ok) st.gh⟩, fun b M' F' H' p e1 o1 => k b M F H' p (Same.refl F) (still_back st.ok e1 o1)⟩
def flatD : D → Bool
  | .int _ => true
  | .bl _ => true
  | .str _ => true
  | .non => true
  | _ => false
noncomputable def dLcnt : D → D → Option D
  | .lst ds, y => chk (goods ds ∧ good y ∧ dep y ≤ 50) (.int ((ds.countP fun z => eqD z y : Nat) : Int))
  | _, _ => none
end
end DX
namespace DX
open PySem PySem.Spec L2 PyProof.Rows StX LamX
/-- no instance changes here -/
def NoIns (M : Mem) : Prop := ∀ a C gs, M a ≠ some (.ins C gs)
mutual
/-- without lists and dicts -/
def lf : D → Bool
  | .non => true
  | .bl _ => true
  | .int _ => true
  | .str _ => true
  | .tup ds => lfs ds
  | .stup ds => lfs ds
  | .ins _ gs => lfk gs
  | _ => false
def lfs : List D → Bool
  | [] => true
  | d :: ds => lf d && lfs ds
def lfk : List (Str × D) → Bool
  | [] => true
  | (_, d) :: ds => lf d && lfk ds
end
structure Keeps (K : PySem.W.Frag) (F F2 : Hp) : Prop where
  t : ∀ a xs, SqT K F a xs → SqT K F2 a xs
  i : ∀ a C dx fs, F a = some (.ins C dx fs) → F2 a = some (.ins C dx fs)
  s : ∀ a o xs, F a = some (.frz o (.tup xs)) → F2 a = some (.frz o (.tup xs))
section
variable {K : PySem.W.Frag} {F F2 : Hp}
mutual
theorem rp_lf (h : Keeps K F F2) : ∀ (d : D) (v : V), lf d = true → Rp K F v d → Rp K F2 v d
  | .non, _, _, .non => .non
  | .bl b, _, _, .bl _ => .bl _
  | .int i, _, _, .int _ => .int _
  | .str x, _, _, .str _ => .str _
  | .tup ds, _, q, .tup h1 h2 => .tup (h.t _ _ h1) (rps_lf h ds _ (by rw [lf] at q; exact q) h2)
  | .stup ds, _, q, .stup h1 h2 h3 => .stup (h.s _ _ _ h1) h2 (rps_lf h ds _ (by rw [lf] at q; exact q) h3)
  | .stup [], _, _, .stupK h1 h2 => .stupK h1 h2
  | .ins C gs, _, q, .ins h1 h2 => .ins (h.i _ _ _ _ h1) (rfs_lf h gs _ (by rw [lf] at q; exact q) h2)
  | .lst _, _, q, _ => by simp [lf] at q
  | .dct _, _, q, _ => by simp [lf] at q
  | .adr _, _, q, _ => by simp [lf] at q
  | .ty _, _, q, _ => by simp [lf] at q
  | .scr _, _, q, _ => by simp [lf] at q
  | .exn _ _, _, q, _ => by simp [lf] at q
  | .tbl _, _, q, _ => by simp [lf] at q
  | .dtx _, _, q, _ => by simp [lf] at q
theorem rps_lf (h : Keeps K F F2) : ∀ (ds : List D) (vs : List V), lfs ds = true → Rps K F vs ds → Rps K F2 vs ds
  | [], _, _, .nil => .nil
  | d :: ds, _, q, .cons h1 h2 => by
    rw [lfs, Bool.and_eq_true] at q
    exact .cons (rp_lf h d _ q.1 h1) (rps_lf h ds _ q.2 h2)
theorem rfs_lf (h : Keeps K F F2) : ∀ (ds : List (Str × D)) (vs : List (Str × V)), lfk ds = true → Rfs K F vs ds → Rfs K F2 vs ds
  | [], _, _, .nil => .nil
  | (x, d) :: ds, _, q, .cons h1 h2 => by
    rw [lfk, Bool.and_eq_true] at q
    exact .cons (rp_lf h d _ q.1 h1) (rfs_lf h ds _ q.2 h2)
end
end
section
variable {X : Cx} {J : Gh} {e : Expr} {ρ ρ' : DEnv} {M : Mem} {F F' H H' : Hp} {P : D → Mem → Prop} {K : PySem.W.Frag}
/-- what was held still may change again -/
def freeF (F' : Hp) (M : Mem) : Hp := fun a => if (M a).isSome = true then none else F' a
theorem free_eq {a : Addr} (h : M a = none) : freeF F' M a = F' a := by unfold freeF; rw [h]; rfl
theorem still_kind (k : Ok K F M H) (e : Same (stillF F H M) F') {a : Addr} {d : D} (h : M a = some d) : ∃ u, F' a = some u ∧ H a = some u ∧ Mt K F H a d := by
  obtain ⟨_, m2⟩ := k.mt a d h
  obtain ⟨u, hu⟩ := m2.there
  exact ⟨u, e _ _ (show stillF F H M a = some u by unfold stillF; rw [h]; exact hu), hu, m2⟩
theorem free_same (k : Ok K F M H) (e : Same (stillF F H M) F') : Same F (freeF F' M) := fun a u h => by
  have : M a = none := by
    cases hm : M a with
    | none => rfl
    | some d => rw [(k.mt a d hm).1] at h; cases h
  rw [free_eq this]
  exact e _ _ (still_same k _ _ h)
theorem free_ok (k : Ok K F M H) (e : Same (stillF F H M) F') {M' : Mem} (k' : Ok K F' M' H') : Ok K (freeF F' M) M H' := by
  refine ⟨fun a u h => ?_, fun a d hd => ?_⟩
  · cases hm : M a with
    | none => rw [free_eq hm] at h; exact k'.ex _ _ h
    | some d => unfold freeF at h; rw [hm] at h; cases h
  · obtain ⟨u, h1, h2, h3⟩ := still_kind k e hd
    refine ⟨by unfold freeF; rw [hd]; rfl, h3.mono (free_same k e) ((k'.ex _ _ h1).trans h2.symm)⟩
end
end DX
namespace DX
open PySem PySem.Spec L2 PyProof.Rows StX LamX
/-- the instances that change here are of these classes -/
def InsIn (L : List Addr) (M : Mem) : Prop := ∀ a C gs, M a = some (.ins C gs) → C ∈ L
theorem insIn_up {L : List Addr} {M : Mem} {a : Addr} {l : List D} (h : InsIn L M) : InsIn L (up M a (.lst l)) := fun b C gs q => by
  unfold up at q
  split at q
  · cases q
  · exact h b C gs q
theorem insIn_ins {L : List Addr} {M : Mem} {a C : Addr} {gs : List (Str × D)} (hc : C ∈ L) (h : InsIn L M) : InsIn L (up M a (.ins C gs)) := fun b C' gs' q => by
  unfold up at q
  split at q
  · cases q; exact hc
  · exact h b C' gs' q
theorem insIn_no {L : List Addr} {M : Mem} (h : NoIns M) : InsIn L M := fun a C gs q => absurd q (h a C gs)
mutual
/-- without lists and dicts, and without instances of these classes -/
def lfN (L : List Addr) : D → Bool
  | .non => true
  | .bl _ => true
  | .int _ => true
  | .str _ => true
  | .tup ds => lfsN L ds
  | .stup ds => lfsN L ds
  | .ins C gs => decide (C ∉ L) && lfkN L gs
  | _ => false
def lfsN (L : List Addr) : List D → Bool
  | [] => true
  | d :: ds => lfN L d && lfsN L ds
def lfkN (L : List Addr) : List (Str × D) → Bool
  | [] => true
  | (_, d) :: ds => lfN L d && lfkN L ds
end
structure KeepsN (L : List Addr) (K : PySem.W.Frag) (F F2 : Hp) : Prop where
  t : ∀ a xs, SqT K F a xs → SqT K F2 a xs
  i : ∀ a C dx fs, C ∉ L → F a = some (.ins C dx fs) → F2 a = some (.ins C dx fs)
  s : ∀ a o xs, F a = some (.frz o (.tup xs)) → F2 a = some (.frz o (.tup xs))
section
variable {K : PySem.W.Frag} {F F2 : Hp} {L : List Addr}
mutual
theorem rp_lfN (h : KeepsN L K F F2) : ∀ (d : D) (v : V), lfN L d = true → Rp K F v d → Rp K F2 v d
  | .non, _, _, .non => .non
  | .bl b, _, _, .bl _ => .bl _
  | .int i, _, _, .int _ => .int _
  | .str x, _, _, .str _ => .str _
  | .tup ds, _, q, .tup h1 h2 => .tup (h.t _ _ h1) (rps_lfN h ds _ (by rw [lfN] at q; exact q) h2)
  | .stup ds, _, q, .stup h1 h2 h3 => .stup (h.s _ _ _ h1) h2 (rps_lfN h ds _ (by rw [lfN] at q; exact q) h3)
  | .stup [], _, _, .stupK h1 h2 => .stupK h1 h2
  | .ins C gs, _, q, .ins h1 h2 => by
    rw [lfN, Bool.and_eq_true] at q
    exact .ins (h.i _ _ _ _ (of_decide_eq_true q.1) h1) (rfs_lfN h gs _ q.2 h2)
  | .lst _, _, q, _ => by simp [lfN] at q
  | .dct _, _, q, _ => by simp [lfN] at q
  | .adr _, _, q, _ => by simp [lfN] at q
  | .ty _, _, q, _ => by simp [lfN] at q
  | .scr _, _, q, _ => by simp [lfN] at q
  | .exn _ _, _, q, _ => by simp [lfN] at q
  | .tbl _, _, q, _ => by simp [lfN] at q
  | .dtx _, _, q, _ => by simp [lfN] at q
theorem rps_lfN (h : KeepsN L K F F2) : ∀ (ds : List D) (vs : List V), lfsN L ds = true → Rps K F vs ds → Rps K F2 vs ds
  | [], _, _, .nil => .nil
  | d :: ds, _, q, .cons h1 h2 => by
    rw [lfsN, Bool.and_eq_true] at q
    exact .cons (rp_lfN h d _ q.1 h1) (rps_lfN h ds _ q.2 h2)
theorem rfs_lfN (h : KeepsN L K F F2) : ∀ (ds : List (Str × D)) (vs : List (Str × V)), lfkN L ds = true → Rfs K F vs ds → Rfs K F2 vs ds
  | [], _, _, .nil => .nil
  | (x, d) :: ds, _, q, .cons h1 h2 => by
    rw [lfkN, Bool.and_eq_true] at q
    exact .cons (rp_lfN h d _ q.1 h1) (rfs_lfN h ds _ q.2 h2)
end
end
section
variable {X : Cx} {J : Gh} {e o : Expr} {es : List Expr} {kws : List Keyword} {ks : List Str} {ρ ρ' : DEnv} {M : Mem} {F F' H H' : Hp} {P : D → Mem → Prop} {K : PySem.W.Frag} {L : List Addr} {pos fp p : Pos} {x f : Str} {σ : L2.St} {B : Bd} {RR : Addr → List (Str × D) → DEnv → Mem → Prop}
theorem free_keepsN (hn : InsIn L M) (k : Ok K F M H) (e : Same (stillF F H M) F') : KeepsN L K F' (freeF F' M) := by
  have no : ∀ a u, F' a = some u → (∀ d, Mt K F H a d → H a = some u → M a ≠ some d) → freeF F' M a = some u := fun a u h q => by
    cases hm : M a with
    | none => rw [free_eq hm]; exact h
    | some d =>
      obtain ⟨u2, h1, h2, h3⟩ := still_kind k e hm
      rw [h] at h1; cases h1
      exact absurd hm (q d h3 h2)
  have notT : ∀ {a : Addr} {xs : List V} {d : D}, Mt K F H a d → H a ≠ some (.tup xs) := fun {a xs d} m h => by
    cases d <;> first
      | exact m.elim
      | (obtain ⟨_, q, _⟩ := m; rw [h] at q; cases q; done)
      | (obtain ⟨_, _, q, _⟩ := m; rw [h] at q; cases q; done)
  have notF : ∀ {a : Addr} {o : Obj} {v : HO} {d : D}, Mt K F H a d → H a ≠ some (.frz o v) := fun {a o v d} m h => by
    cases d <;> first
      | exact m.elim
      | (obtain ⟨_, q, _⟩ := m; rw [h] at q; cases q; done)
      | (obtain ⟨_, _, q, _⟩ := m; rw [h] at q; cases q; done)
  refine ⟨fun a xs h => ?_, fun a C dx fs hC h => ?_, fun a o xs h => ?_⟩
  · rcases h with (h | ⟨o, h⟩) | h
    · exact .inl (.inl (no a _ h fun d m z => absurd z (notT m)))
    · exact .inl (.inr ⟨o, no a _ h fun d m z => absurd z (notF m)⟩)
    · exact .inr h
  · refine no a _ h fun d m z q => ?_
    cases d <;> first
      | exact m.elim
      | (obtain ⟨_, _, y, _⟩ := m; rw [z] at y; cases y; exact hC (hn _ _ _ q); done)
      | (obtain ⟨_, y, _⟩ := m; rw [z] at y; cases y; done)
      | (obtain ⟨_, _, y, _⟩ := m; rw [z] at y; cases y; done)
  · exact no a _ h fun d m z => absurd z (notF m)
theorem ex_stillL (hn : InsIn L M) (hs : StillE M ρ ρ') (h : EX X J e ρ' Mz fun d _ => lfN L d = true ∧ P d M) : EX X J e ρ M P :=
  ex_of h fun F σ H Q st k => ⟨stillF F H M, ⟨hs.en st.ok st.en, still_ok st.ok, J.mono _ _ (still_same st.ok) st.gh⟩, fun d v M' F' H' p e1 o1 r1 => k d v M _ H' p.2 (free_same st.ok e1) (free_ok st.ok e1 o1) (rp_lfN (free_keepsN hn st.ok e1) d v p.1 r1)⟩
def TMkM (C : Addr) (T : TrX) (ds zs : List D) (M : Mem) (P : D → Mem → Prop) (R : RX) : Prop := ∀ a, M a = none → T (.adr a :: ds) zs (up M a (.ins C [])) (fun d M2 => d = .non ∧ P (.adr a) M2) R
theorem run_makeM {k : Nat} {C g : Addr} {T : TrX} {pins : List (Addr × Obj)} {s : Shared} {Q : VK} {us ws : List Value} {vs xs : List V} {ds zs : List D} (Mk0 : Mk X.K C g) (G : FnX X.prog X.w X.K X.mg X.base false k g ks T) (L : Lets X J RR) (hr : Room (k + 1) X.A)
    (I : L2.Inv X pins σ H s) (st : Sts X.K J F σ H ρ M) (r : Vals vs us) (rx : Vals xs ws) (hw : zs.length = ks.length) (rd : Rps X.K F vs ds) (rz : Rps X.K F xs zs) (t : TMkM C T ds zs M P (Rof RR ρ)) (kt : Kt X.K F P Q) : wpAny (model X.prog X.w) X.A (call (.ref C) us (ks.zip ws)) (EP X pins σ Q) X.xe s := by
  obtain ⟨W, tk, hW⟩ := L.ex
  have o := st.ok
  have h1 : H (s.heap.objs.size + 1) = none := I.hok.fresh (Nat.le_succ _)
  have h0 : H s.heap.objs.size = none := I.hok.fresh (Nat.le_refl _)
  have I2 := Inv.made (C := C) I
  have o1 := o.more (o := .own (s.heap.objs.size + 1)) h0
  have h2 : upd H s.heap.objs.size (.own (s.heap.objs.size + 1)) (s.heap.objs.size + 1) = none := by rw [upd_ne (Nat.succ_ne_self _)]; exact h1
  have o2 := o1.lay (o := .ins C s.heap.objs.size []) (d := .ins C []) h2 ⟨_, [], upd_same, .nil⟩
  have hM := (o.nn h1).2
  have r2 : Vals (V.ref (s.heap.objs.size + 1) :: vs) (Value.ref (s.heap.objs.size + 1) :: us) := .cons rfl r
  refine wpAny_call (make_map (f := g) I.kIn Mk0.makes Mk0.init (beq_iff_eq.mp Mk0.fn) (codeAny_mono (G.go _ X.stack _ _ F _ (_ :: ds) zs _ (Rof RR ρ) (Value.ref (s.heap.objs.size + 1) :: us) ws _ xs (fun v H2 => v = .non ∧ Q (.ref (s.heap.objs.size + 1)) H2) (fun cls d H' => W cls d σ H') (fun z => nomatch z) (hr.make C us _) (I2.env0.make C us _) r2 rx (by rw [← rx.length, rz.length]; exact hw) o2 (.cons (.adr _) rd) rz (t _ hM) ?_ ?_) fun r s' hq' => ?_))
  · rintro d v M' F' H' ⟨rfl, q⟩ e' o' r'
    cases r'
    exact ⟨rfl, kt _ _ _ _ _ q e' o' (.adr _)⟩
  · rintro C gs M' F' H' cls d ⟨M2, sb, q⟩ e' o' x
    exact hW _ _ _ _ _ _ _ _ _ ⟨st.en.mono e', o'.sub sb, J.mono _ _ e' st.gh⟩ x q
  · cases r with
    | error e => exact tk _ _ (XE.of_call I2 (fun _ _ _ h => h) hq')
    | ok fl =>
      cases fl with
      | ret u =>
        obtain ⟨v, H', I3, rv, ev, q3⟩ := I2.after hq'
        subst ev
        exact ⟨rv, ⟨V.ref (s.heap.objs.size + 1), H', I3, rfl, q3⟩⟩
      | next => exact False.elim hq'
      | brk => exact False.elim hq'
      | cont => exact False.elim hq'
theorem ex_makeM {k : Nat} {C g : Addr} {T : TrX} (Mk0 : Mk X.K C g) (G : FnX X.prog X.w X.K X.mg X.base false k g ks T) (L : Lets X J RR) (hr : Room (k + 1) X.A) (hm : X.mg x = some (.ref C))
    (h : EvA X J pos es kws ks ρ M fun ds zs M1 => TMkM C T ds zs M1 P (Rof RR ρ)) (hg : Gl X x := by rfl) (hdb : (x == ("__debug__" : Str)) = false := by decide) : EX X J (.Call (.Name x p) es kws pos) ρ M P := by
  refine ⟨fun pins s σ H Q I ⟨F, st, kt⟩ => ?_⟩
  refine wpAny_Call_Name_kw (ld_glob I hg hm ?_ hdb)
  refine cwAny (PySem.W.keeps_K Mk0.kp) (h _ pins σ H F s _ I st fun us ws vs xs ds zs F2 M2 H2 s2 I2 e2 o2 r rx rd rz hl t => ⟨I2.kIn, ?_⟩)
  exact run_makeM Mk0 G L hr I2 (st.to e2 o2) r rx hl rd rz t (kt.to e2)
end
end DX
namespace DX
open PySem PySem.Spec L2 PyProof.Rows StX LamX
section
variable {K : PySem.W.Frag} {F F2 : Hp} {L : List Addr}
end
/-- what changes here holds no instance of these classes -/
def NoIc (L : List Addr) (M : Mem) : Prop := ∀ a d, M a = some d → (∃ ds, d = .lst ds ∧ noIs L ds = true) ∨ ∃ q, d = .tbl q
def Bare (M : Mem) : Prop := ∀ a d, M a = some d → ∃ q, d = .tbl q
theorem bare_no {M : Mem} (h : Bare M) : NoIns M := fun a C gs q => by
  obtain ⟨_, e⟩ := h _ _ q
  cases e
theorem bare_tb {K : PySem.W.Frag} {tl : TbL} : Bare (tbMem K tl) := fun a d q => by
  obtain ⟨x, _, _, e⟩ := tbMem_in q
  exact ⟨_, e⟩
section
variable {X : Cx} {J : Gh} {e : Expr} {ρ : DEnv} {M M0 : Mem} {P : D → Mem → Prop} {L : List Addr}
/-- M1 is M0 and what stands at p -/
def InsX (p : Addr) (M0 M1 : Mem) : Prop := ∀ a, a ≠ p → M1 a = M0 a
def rmF (F : Hp) (p : Addr) : Hp := fun a => if a = p then none else F a
end
section
variable {X : Cx} {M : Mem} {P : D → Mem → Prop}
end
theorem law_startTB {T : TrX} {K : PySem.W.Frag} {tl : TbL} {H : Hp} {a : Addr} {ns : List Int} (h1 : tbOne K tl = true) (hS : SqL K H a (ns.map V.int)) (hT : ∀ x ∈ tl, H (ctA K x.1).2 = some (.tbl #[])) (ht : ∀ M, TbM K tl M → Bare M → T [.scr ns] [] M (fun d _ => d = .bl true) noX) :
    ∃ F M ds, Ok K F M H ∧ Rps K F [.ref a] ds ∧ T ds [] M (fun d _ => d = .bl true) noX := by
  have nT : ∀ b, (∀ x ∈ tl, (ctA K x.1).2 ≠ b) → hid K tl H b = H b := fun b h => if_neg (fun z => by
    obtain ⟨x, hx, e⟩ := List.any_eq_true.mp z
    exact h x hx (beq_iff_eq.mp e))
  refine ⟨hid K tl H, tbMem K tl, [.scr ns], ⟨fun b u e => ?_, fun b d e => ?_⟩, .cons (.scr ?_) .nil, ht _ (tbMem_ok h1) bare_tb⟩
  · unfold hid at e
    split at e
    · cases e
    · exact e
  · obtain ⟨x, hx, rfl, rfl⟩ := tbMem_in e
    have hh : (tl.any fun y => (ctA K y.1).2 == (ctA K x.1).2) = true := List.any_eq_true.mpr ⟨x, hx, beq_iff_eq.mpr rfl⟩
    refine ⟨if_pos hh, #[], hT x hx, trivial, fun pos cv z => ?_⟩
    have z : codeAmong pos [] = some cv := z
    simp [codeAmong] at z
  · rcases hS with hS | hS
    · refine .inl ?_
      rcases hS with hS | ⟨o, hS⟩
      · exact .inl ((nT a fun x hx e => by rw [← e, hT x hx] at hS; cases hS).trans hS)
      · exact .inr ⟨o, (nT a fun x hx e => by rw [← e, hT x hx] at hS; cases hS).trans hS⟩
    · exact .inr hS
end DX
namespace DX
open PySem PySem.Spec L2 PyProof.Rows StX LamX
section
variable {X : Cx} {J : Gh} {ρ ρ' : DEnv} {M M0 : Mem} {P : D → Mem → Prop} {L : List Addr} {x : Str} {pos : Pos} {K : PySem.W.Frag} {F F2 : Hp} {σ : L2.St} {st : Stmt} {rest : List Stmt} {B : Bd}
/-- what comes behind -/
abbrev HoldNx (X : Cx) (J : Gh) (L : List Addr) (p C : Addr) (gs : List (Str × D)) (rest : List Stmt) (B : Bd) (ρ' : DEnv) (M' : Mem) : Prop := ∃ ρ2, NoE L ρ' ρ2 ∧ NoIc L M' ∧ ∃ M2, InsX p M' M2 ∧ M2 p = some (.ins C gs) ∧ GX X J rest ρ2 M2 B
end
section
variable {X : Cx} {M : Mem} {P : D → Mem → Prop} {x dx : D}
def lCut (d : D) (l u : Option Int) : Option (List D) := match d with
  | .lst ds => some (cutD ds l u)
  | _ => none
end
section
variable {X : Cx} {J : Gh} {e o : Expr} {es : List Expr} {kws : List Keyword} {ks : List Str} {ρ : DEnv} {M : Mem} {P : D → Mem → Prop} {pos : Pos} {RR : Addr → List (Str × D) → DEnv → Mem → Prop}
end
end DX
namespace DX
open PySem PySem.Spec L2 PyProof.Rows StX
open Sem (wp)
section
variable {prog : Program} {w : World} {A : Around} {E : Value → Shared → Prop} {s : Shared}
end
def gStar (X : Cx) (k : Nat) (t : TGs) : TG := fun v σ H Q => ∃ a xs, v = .ref a ∧ SqL X.K H a xs ∧ k ≤ xs.length ∧ ∀ q, H q = none → t (xs.take k ++ [.ref q]) σ (upd H q (.lst (xs.drop k))) Q
section
variable {X : Cx} {pos : Pos} {es : List Expr}
end
end DX
namespace DX
open PySem PySem.Spec L2 PyProof.Rows StX
noncomputable section
def dSplit : D → D → Option D
  | .str x, .str y => chk ((y.length == 0) = false ∧ x.length ≤ 1000000) (.lst ((Txt.split x y).map D.str))
  | _, _ => none
/-- int(x), of a text too -/
def dIntT : D → Option D
  | .str x => (PySem.intText? x).bind fun n => chk (x.length ≤ 640) (.int n)
  | d => dInt d
end
def stD1 : D → Option (D × D)
  | .lst (a :: r) => some (a, .lst r)
  | _ => none
def stD2 : D → Option (D × D × D)
  | .lst (a :: b :: r) => some (a, b, .lst r)
  | _ => none
/-- the first k, then the list of the rest -/
def stD (k : Nat) : D → Option (List D)
  | .lst ds => if k ≤ ds.length then some (ds.take k ++ [.lst (ds.drop k)]) else none
  | _ => none
section
variable {X : Cx} {J : Gh} {e o : Expr} {es : List Expr} {ρ : DEnv} {M : Mem} {P : D → Mem → Prop} {B : Bd} {pos apos cpos : Pos} {K : PySem.W.Frag} {F : Hp} {x dx dy z : D}
end
end DX
namespace DX
open PySem PySem.Spec L2 PyProof.Rows StX
def clsIs (C : Addr) : D → Bool
  | .ins C' _ => decide (C' = C)
  | _ => false
def isU (L : List Addr) : D → Option (List (Str × D))
  | .ins C gs => if C ∈ L then some gs else none
  | _ => none
/-- the other side of a comparison -/
def othU (L : List (Addr × Addr)) (x d : D) : Option Unit := if plain d = true then some () else match x, d with
  | .ins C _, .ins C' _ => if (C, C') ∈ L then some () else none
  | _, _ => none
def mthU (L : List Addr) (m : Str) (d : D) : Option (List (Str × D)) := (isU L d).bind fun gs => if gs.lookup m = none then some gs else none
/-- for each class of L the def that is meant -/
def UFn (pg : Program) (w : World) (K : PySem.W.Frag) (mg : Str → Option Value) (base : Heap) (gd : Bool) (ks : List Str) (k : Nat) (L : List Addr) (W : Addr → Addr → Prop) (TU : TrX) : Prop :=
  ∀ C ∈ L, ∃ (g : Addr) (T : TrX), W C g ∧ FnX pg w K mg base gd k g ks T ∧ ∀ gs ds zs M P R, TU (.ins C gs :: ds) zs M P R → T (.ins C gs :: ds) zs M P R
section
variable {X : Cx} {J : Gh} {e a b o : Expr} {es : List Expr} {kws : List Keyword} {ks : List Str} {ρ : DEnv} {M M1 M2 : Mem} {F F' H H' : Hp} {σ : L2.St} {K : PySem.W.Frag} {pos p apos : Pos} {x m f : Str} {P : D → Mem → Prop} {PA PA' : List D → List D → Mem → Prop} {RR : Addr → List (Str × D) → DEnv → Mem → Prop} {L : List Addr} {TU : TrX} {k : Nat}
/-- isinstance(o, C) for values of some own classes: what is told of each -/
def isiL (L : List (Addr × Bool)) (d : D) : Option Bool := match d with
  | .ins C' _ => L.lookup C'
  | d => if plain d = true then some false else none
end
end DX
namespace DX
open PySem PySem.Spec L2 PyProof.Rows StX
/-- what is asked of a specification -/
structure ColS (sp : Str) (f : Builtin.Float.FormatSpec) (W : Nat) : Prop where
  ne : (sp.length == 0) = false
  few : sp.length ≤ 10
  asc : ((sp.cps.toList.drop 1).any (· ≥ 128) || (sp.cps.getD 0 0 ≥ 128 && !([60, 62, 61, 94] : List Nat).contains (sp.cps.getD 1 0))) = false
  ps : ∀ name, Builtin.Float.parseFormatSpec sp.cps.toList name 62 = .ok f
  ty : f.type.getD (if (sp.cps.back? == some 0) = true then 0 else 100) = 100
  pr : f.precision = none
  nz : f.noNeg0 = false
  al : f.alt = false
  wi : f.width = some W
  sm : W ≤ 100
  gr : f.grouping = none
  sg : f.sign = none
  fi : f.fill = 32
  an : f.align = 62
/-- {x:>4} -/
noncomputable def fmtW (d : D) (sp : Str) : Option Str := match d with
  | .int i => chk (i.natAbs.log2 < 1920) (intSpecTextOf sp i)
  | _ => none
section
variable {X : Cx} {J : Gh} {e sp1 : Expr} {ρ : DEnv} {M : Mem} {P : D → Mem → Prop} {pos p2 : Pos} {sp : Str}
end
end DX
namespace DX
open PySem PySem.Spec L2
open PyProof.Rows hiding St
section
variable {X : Cx} {J : Gh} {e a b o : Expr} {es : List Expr} {ρ : DEnv} {M M1 : Mem} {F F' H H' : Hp} {σ : St} {K : PySem.W.Frag} {pos p apos : Pos} {x m f : Str} {P : D → Mem → Prop} {B : Bd}
/-- d[k] -/
def dGetK (kvs : List (Key × D)) (d : D) : Option D := (keyD d).bind fun k => valD kvs k
/-- k in d -/
def dInK (kvs : List (Key × D)) (d : D) : Option Bool := (keyD d).map fun k => (valD kvs k).isSome
/-- d[k] = v -/
noncomputable def dPutK (kvs : List (Key × D)) (d v : D) : Option (List (Key × D)) := (keyD d).bind fun k => chk (kvs.length < 1000000) (putD kvs k v)
end
def mapKO (f : D → Option (Key × D)) : List D → Option (List (Key × D))
  | [] => some []
  | d :: ds => (f d).bind fun p => (mapKO f ds).map fun r => p :: r
section
variable {X : Cx} {J : Gh} {ρ : DEnv} {M : Mem} {F F' H H' : Hp} {σ : St} {K : PySem.W.Frag} {pos p : Pos} {P : D → Mem → Prop}
variable {scope : Scope} {tg iter kx vx : Expr}
/-- {kx: vx for tg in iter}: the pairs one by one, nothing else changes -/
def DcW (X : Cx) (J : Gh) (scope : Scope) (vs : List Nat) (tg kx vx : Expr) (ρ : DEnv) (PE : List (Key × D) → Mem → Prop) (ds : List D) (M1 : Mem) : Prop := ∃ (f : D → Option (Key × D)) (ps : List (Key × D)), mapKO f ds = some ps ∧ ds.length ≤ 1000000 ∧
  (∀ d kv acc Dl, f d = some kv → M1 Dl = none → AsB X scope vs tg d (cuts ρ vs) fun ρ2 => EXb X J scope kx ρ2 (up M1 Dl (.dct acc)) fun y M3 => y = kD kv.1 ∧ M3 = up M1 Dl (.dct acc) ∧ EXb X J scope vx ρ2 (up M1 Dl (.dct acc)) fun z M4 => z = kv.2 ∧ M4 = up M1 Dl (.dct acc)) ∧ PE (mergeD [] ps) M1
variable {B : Bd}
end
end DX
namespace DX
open PySem PySem.Spec L2
open PyProof.Rows hiding St
section
variable {X : Cx} {J : Gh} {ρ : DEnv} {M M1 : Mem} {F F' H H' : Hp} {σ : St} {K : PySem.W.Frag} {P : D → Mem → Prop}
def dDictL (d : D) : Option (List (Key × D)) := (lstD d).bind fun l => (kvsD l).bind fun kv => some (mergeD [] kv)
end
end DX
namespace DX
open PySem PySem.Spec L2 PyProof.Rows StX
/-- a def that says super(): it has captured its class Dc in the cell cc -/
structure FunC (K : PySem.W.Frag) (x qual : Str) (params : Arguments) (body : List Stmt) (scope : Scope) (dvs : List V) (file : Str) (f c cc Dc : Addr) : Prop where
  ex : ∃ (oc : Value) (od : Option Addr) (dV kV doc pm : Value) (an : Option Addr) (ct : Value) (osl : Array (Option Value)),
    K.lookup f = some ⟨oc, od, .func (PySem.W.ksFn x qual params body scope dV kV doc pm an (.ref c) ct cc), osl⟩ ∧ PySem.W.codeIn K (.ref c) qual = true ∧ DflV K dV dvs
  kp : PySem.W.keepIn K (.ref f) = true
  cell : ∃ (cl : Value) (cld : Option Addr) (csl : Array (Option Value)), K.lookup cc = some ⟨cl, cld, .cell (some (.ref Dc)), csl⟩
  code : ∃ (cl : Value) (cld : Option Addr) (vs : Array Value) (csl : Array (Option Value)) (tf : Tok), K.lookup c = some ⟨cl, cld, .fields vs, csl⟩ ∧ vs[2]? = some (.str file tf)
  cls : ∃ cd, PySem.W.clsIn K Dc = some cd
/-- how super() finds the name in an instance of C -/
structure SupOf (K : PySem.W.Frag) (C Dc : Addr) (name : Str) (g : Addr) : Prop where
  at_ : PySem.W.ks_superIn K C Dc name = some (some (.ref g))
  ty : PySem.W.typeIn K (.ref g) = some (.type "function")
  fi : PySem.W.fnIn K g = true
  sub : PySem.W.mroIn K C (.ref Dc) = some true
  opq : PySem.W.nsIn K cStatics "thirdparty.any" = some none
/-- what the program says of super and of its own file -/
structure SupP (pg : Program) (file : Str) : Prop where
  file : ((pg.main.file : Str) == file) = true
  top : (pg.main.scope.names.lookup ("super" : Str)).isSome = false
def GXA (X : Cx) (J : Gh) (b0 : List Stmt) (st : List Stmt) (ρ : DEnv) (M : Mem) (B : Bd) : Prop :=
  ∀ (pins : List (Addr × Obj)) (s : Shared) (σ : L2.St) (H : Hp) (E : Ends), L2.Inv X pins σ H s → tSd X.K J ρ M B E σ H → PySem.wpAt (model X.prog X.w) X.A (.func b0 X.env) (execs st X.env) (SP X pins E) X.xe s
section
variable {X : Cx} {J : Gh} {e : Expr} {es : List Expr} {rest b0 : List Stmt} {ρ : DEnv} {M : Mem} {B : Bd} {p0 p1 apos pos spos : Pos} {RR : Addr → List (Str × D) → DEnv → Mem → Prop}
end
section
variable {pg : Program} {w : World} {K : PySem.W.Frag} {mg : Str → Option Value} {base : Heap} {x qual file : Str} {params : Arguments} {body : List Stmt} {scope : Scope} {f c cc Dc : Addr} {N pn : List Str} {k : Nat} {T : TrB}
abbrev nfS (x qual : Str) (params : Arguments) (body : List Stmt) (scope : Scope) (c cc : Addr) : NdefX.NF := ⟨x, qual, params, body, scope, [("__class__", cc)], c⟩
abbrev cxS (pg : Program) (w : World) (K : PySem.W.Frag) (mg : Str → Option Value) (base : Heap) (N : List Str) (x qual : Str) (params : Arguments) (body : List Stmt) (scope : Scope) (f c cc : Addr) (A : Around) (outer : List PySem.Env) (s : Shared) (H : Hp) (E : XK) : Cx :=
  NdefX.ncx (L2.CX pg w) pg w K mg base N (nfS x qual params body scope c cc) f A outer s H E
def BodyS (pg : Program) (w : World) (K : PySem.W.Frag) (mg : Str → Option Value) (base : Heap) (k : Nat) (x qual : Str) (params : Arguments) (body : List Stmt) (scope : Scope) (f c cc : Addr) (N ps : List Str) (T : TrB) : Prop :=
  ∀ (A : Around) (outer : List PySem.Env) (s : Shared) (H F0 : Hp) (E : XK) (ds : List D) (M : Mem) (P : D → Mem → Prop) (R : RX), Room k (A.deeper (NdefX.envF (nfS x qual params body scope c cc) f s.heap.objs.size)) → T ds M P R →
      Lets (cxS pg w K mg base N x qual params body scope f c cc A outer s H E) (ghF F0) (fun C gs _ M' => R C gs M') →
      PassesOwn (model pg w) (cxS pg w K mg base N x qual params body scope f c cc A outer s H E).A (cxS pg w K mg base N x qual params body scope f c cc A outer s H E).env (cxS pg w K mg base N x qual params body scope f c cc A outer s H E).xe →
      Kx K F0 R E →
      GXA (cxS pg w K mg base N x qual params body scope f c cc A outer s H E) (ghF F0) body body (startD (N.length - ps.length) ds) M ⟨fun _ M' => P .non M', P, fun _ _ => False, fun _ _ => False⟩
end
end DX
namespace DX
open PySem PySem.Spec L2 PyProof.Rows StX
/-- its code, the cell that it has captured, the class in the cell -/
def supA (K : PySem.W.Frag) (a : Addr) : Addr × Addr × Addr := match K.lookup a with
  | some ⟨_, _, .func fd, _⟩ => (match fd.code with
    | .ref c => (match fd.closure with
      | [(_, cc)] => (match K.lookup cc with
        | some ⟨_, _, .cell (some (.ref D)), _⟩ => (c, cc, D)
        | _ => (0, 0, 0))
      | _ => (0, 0, 0))
    | _ => (0, 0, 0))
  | _ => (0, 0, 0)
def fileB (file : Str) : Option Value → Bool
  | some (.str fl _) => decide (fl = file)
  | _ => false
def supB (K : PySem.W.Frag) (a : Addr) (q file : Str) (dvs : List V) : Bool :=
  PySem.W.keepIn K (.ref a) && ((match K.lookup a with
    | some ⟨_, _, .func fd, _⟩ => decide (fd.code = .ref (supA K a).1) && (PySem.W.codeIn K fd.code q && (decide (fd.closure = [(("__class__" : Str), (supA K a).2.1)]) && He.dflB K fd.defaults dvs))
    | _ => false) && ((match K.lookup (supA K a).2.1 with
      | some ⟨_, _, .cell (some v), _⟩ => decide (v = .ref (supA K a).2.2)
      | _ => false) && ((match K.lookup (supA K a).1 with
        | some ⟨_, _, .fields vs, _⟩ => fileB file vs[2]?
        | _ => false) && (PySem.W.clsIn K (supA K a).2.2).isSome)))
/-- how super() finds a name, looked at -/
def supO (K : PySem.W.Frag) (C Dc : Addr) (name : Str) (g : Addr) : Bool :=
  He.eqO (PySem.W.ks_superIn K C Dc name) (some (some (.ref g))) && (decide (PySem.W.typeIn K (.ref g) = some (.type "function")) && (PySem.W.fnIn K g && (decide (PySem.W.mroIn K C (.ref Dc) = some true) && He.eqO (PySem.W.nsIn K cStatics "thirdparty.any") (some none))))
/-- an empty tuple -/
def tup0B (K : PySem.W.Frag) (a : Addr) : Bool := match K.lookup a with
  | some ⟨.type c, none, .seq its _, _⟩ => decide (c = "tuple") && decide (its.toList = [])
  | _ => false
end DX
namespace DX
open PySem PySem.Spec L2 GenW
open PyProof.Rows hiding St
section
variable {M : Model} {A : Around} {R : GenEnd} {Y : Protocol} {n : Nat} {s₀ : Shared} {c : Code} {fs : List Frame} {s : Shared} {env : Env}
  {K : Flow → Sem PySem.Fin} {J : Value → Sem PySem.Fin} {gd : Bool → Bool} {lv : List Value → List Value}
end
section
variable {prog : Program} {w : World} {A : Around} {R : GenEnd} {Y : Protocol} {n : Nat} {s₀ : Shared} {fs : List Frame} {s : Shared} {env : Env}
abbrev noted (env : Env) (e : Value) : Sem PySem.Fin := (do noteFrame e env; theTreesLotGoes e : Sem Unit).wrap (fun _ => .raise e) .raise id id
end
section
variable {X : Cx}
def tGIf (tc : TT) (ta tb : TGn) : TGn := fun D ys σ H => tc σ H fun b H1 => if b = true then ta D ys σ H1 else tb D ys σ H1
def tGFor (wi : TI) (g : TG) (tb : TGn) : TGn := fun D ys σ H => wi σ H fun J H1 => ∃ W : Nat → Nat → List V → St → Hp → Prop, (∃ m, W 0 m ys σ H1) ∧ ∀ i m ys σ H, W i m ys σ H →
  (J.stop i H ∧ D.nx ys σ H) ∨ (J.go i H ∧ ∃ N : List V → St → Hp → Prop, (∀ ys' σ' H', N ys' σ' H' → ∃ m', m' < m ∧ W (i + 1) m' ys' σ' H') ∧ ∀ x H', J.yld i H x H' → g x σ H' fun σ2 H2 => tb { D with nx := N, ct := N, bk := D.nx } ys σ2 H2)
end
end DX
namespace DX
open PySem PySem.Spec L2 GenW
open PyProof.Rows hiding St
def GBd.thn (B : GBd) (nx : List D → DEnv → Mem → Prop) : GBd := { B with nx := nx }
section
variable {X : Cx} {J : Gh} {e a b c : Expr} {es : List Expr} {st : Stmt} {rest sts : List Stmt} {ys : List D} {ρ ρ' : DEnv} {M M0 M' : Mem} {F F' H H' : Hp} {σ : St} {B : GBd} {K : PySem.W.Frag} {pos p yp : Pos} {E : GEnds}
end
abbrev TrG := List D → Mem → (List D → Mem → Prop) → Prop
abbrev TrGX := List D → List D → Mem → (List D → Mem → Prop) → Prop
def noK : XK := fun _ _ _ => False
structure GFnX (pg : Program) (w : World) (K : PySem.W.Frag) (mg : Str → Option Value) (base : Heap) (k : Nat) (f : Addr) (ks : List Str) (T : TrGX) : Prop where
  go : ∀ (A : Around) (outer : List PySem.Env) (s : Shared) (H F : Hp) (M : Mem) (ds zs : List D) (cont : List D → Mem → Prop) (us ws : List Value) (vs xs : List V) (Q : List V → Hp → Prop), Room k A → Env0 pg w K mg base A outer s H → Vals vs us → Vals xs ws → ws.length = ks.length →
    Ok K F M H → Rps K F vs ds → Rps K F xs zs → T ds zs M cont → (∀ ys vys M' F' H', cont ys M' → Same F F' → Ok K F' M' H' → Rps K F' vys ys → Q vys H') →
    codeAny (model pg w) A (.call (.ref f) ⟨us, ks.zip ws⟩) (fun r s' => match r with | .ok (.ret u) => GMade pg w k outer H s [] Q noK u s' | _ => False) s
def GBodyX (pg : Program) (w : World) (K : PySem.W.Frag) (mg : Str → Option Value) (base : Heap) (k : Nat) (f : Addr) (qual : Str) (body : List Stmt) (scope : Scope) (N ps : List Str) (T : TrG) : Prop :=
  ∀ (cdv : Value), CodeAt K f cdv → ∀ (A : Around) (outer : List PySem.Env) (s : Shared) (H F0 : Hp) (pn : List (Addr × Obj)) (ds : List D) (M : Mem) (cont : List D → Mem → Prop), Room k (A.deeper (PyProof.Rows.envOfC qual scope s.heap.objs.size f cdv)) → T ds M cont →
    PassesOwn (model pg w) (gcxOf pg w K mg base N qual scope f cdv A outer s H noK pn).A (gcxOf pg w K mg base N qual scope f cdv A outer s H noK pn).env (gcxOf pg w K mg base N qual scope f cdv A outer s H noK pn).xe →
    GGX (gcxOf pg w K mg base N qual scope f cdv A outer s H noK pn) (ghF F0) body [] (startD (N.length - ps.length) ds) M ⟨fun ys _ M' => cont ys M', fun ys d M' => d = .non ∧ cont ys M', fun _ _ _ => False, fun _ _ _ => False⟩
section
variable {pg : Program} {w : World} {K : PySem.W.Frag} {mg : Str → Option Value} {base : Heap} {x qual : Str} {params : Arguments} {body : List Stmt} {scope : Scope} {kws : List (Str × V)} {f : Addr} {fd : FuncData} {N pn : List Str} {k : Nat} {T : TrG}
end
section
variable {X : Cx} {J : Gh} {es : List Expr} {kws : List Keyword} {ks : List Str} {ρ : DEnv} {M : Mem} {pos pos' p p1 : Pos} {x : Str} {P : D → Mem → Prop} {k : Nat} {f : Addr} {T : TrGX}
end
end DX
namespace TupF
open PySem PySem.Spec L2 PyProof.Rows DX
def tTupF (t : TA) : TE := fun σ H Q => t σ H fun xs H1 => xs.length ≤ sizeLine ∧ ∀ p (ob : Obj), H1 p = none → (ob.cls = .type "tuple" ∧ ob.dict = none) → Q (.ref p) (upd H1 p (.frz ob (.tup xs)))
end TupF
namespace DX
open PySem PySem.Spec L2 PyProof.Rows StX
section
variable {X : Cx} {J : Gh} {es : List Expr} {ρ : DEnv} {M : Mem} {P : D → Mem → Prop} {pos : Pos} {k : Nat} {x dx : D}
/-- tuple(x) for a list, or a tuple whose object is known -/
def sTup : D → Option (List D)
  | .lst ds => some ds
  | .stup ds => some ds
  | _ => none
@[simp] theorem sTup_l {l : List D} : sTup (.lst l) = some l := rfl
@[simp] theorem sTup_s {l : List D} : sTup (.stup l) = some l := rfl
@[simp] theorem unstD_s {l : List D} : unstD (.stup l) = .tup l := rfl
@[simp] theorem unstD_l {l : List D} : unstD (.lst l) = .lst l := rfl
@[simp] theorem unstD_t {l : List D} : unstD (.tup l) = .tup l := rfl
end
end DX
namespace DX
open PySem PySem.Spec L2 PyProof.Rows
noncomputable def cInG (a : D) : D → Option Bool
  | .lst ds => chk (good a ∧ good (.lst ds) ∧ dep a ≤ 50 ∧ dep (.lst ds) ≤ 50) (ds.any fun z => eqD z a)
  | _ => none
noncomputable def cNinG (a c : D) : Option Bool := (cInG a c).map (!·)
theorem un65 {k : Nat} {A : Around} (r : Room k A) : A.units + 65 < cLine := by have := r.un; omega
theorem any_pyds {d : PyData} : ∀ {ds : List D}, ((pyds ds).any fun z => PyData.eqv z d) = ds.any fun z => PyData.eqv (pyd z) d
  | [] => rfl
  | d2 :: ds => by rw [pyds, List.any_cons, List.any_cons, any_pyds]
section
variable {X : Cx} {M : Mem} {x y dx dy : D} {t : Bool} {P : D → Mem → Prop}
theorem od_cInG (hu : X.A.units + 65 < cLine) (vx : Vw M x dx) (vy : Vw M y dy) (h : cInG dx dy = some t) (p : P (.bl t) M) : OD X (compareOp .In) x y M P := by
  cases dy <;> try (cases h; done)
  rename_i ds
  obtain ⟨⟨g1, g2, d1, d2⟩, rfl⟩ := chk_inv h
  refine ⟨_, op_inD hu, fun F H v u Q o rx ry k => ?_⟩
  have h2 := vy.dp g2 o ry
  rw [pyd] at h2
  have s2 := shaped_good g2 d2
  rw [pyd] at s2
  refine ⟨_, _, vx.dp g1 o rx, h2, shaped_good g1 d1, s2, ?_⟩
  rw [any_pyds]
  exact k.here p o (.bl _)
end
end DX
namespace DX
open PySem PySem.Spec L2 PyProof.Rows StX
section
variable {prog : Program} {w : World} {A : Around} {E : Value → Shared → Prop} {s : Shared} {K : PySem.W.Frag} {x y C C' L f : Addr} {h₀ : Heap} {m : Str → Option Value} {ox oy : Obj} {od od' : Option Obj}
end
section
variable {X : Cx} {J : Gh} {M : Mem} {P : D → Mem → Prop}
/-- a text's index of a text -/
def dSidx : D → D → Option D
  | .str z, .str y => match Builtin.Str.occurrences z y 0 z.length 1 with
    | i :: _ => some (.int ((i : Nat) : Int))
    | [] => none
  | _, _ => none
end
end DX
namespace TupNe
open PySem PySem.SeqAt
open AutoSeq1 (wpAny_loadPart')
open MeetsSeq MeetsSeq2 MeetsSeq3 SeqRoads2
section
variable {prog : Program} {w : World} {A : Around} {R : Result → Shared → Prop}
end
section
variable {prog : Program} {w : World} {A : Around} {E : Value → Shared → Prop} {s : Shared}
end
end TupNe
namespace DX
open PySem PySem.Spec L2 PyProof.Rows StX
section
variable {X : Cx} {J : Gh} {M : Mem} {P : D → Mem → Prop} {pins : List (Addr × Obj)} {σ : L2.St} {F : Hp} {k : Nat} {C g : Addr} {T : TrX}
/-- behind some calls that make objects alone -/
def IvX (X : Cx) (pins : List (Addr × Obj)) (σ : L2.St) (F : Hp) (M : Mem) (s' : Shared) : Prop := ∃ H' F', L2.Inv X pins σ H' s' ∧ Same F F' ∧ Ok X.K F' M H'
/-- one by one the same, by f -/
def eqAllT (f : D → D → Option Unit) : List D → List D → Option Unit
  | [], [] => some ()
  | a :: as, b :: bs => (f a b).bind fun _ => eqAllT f as bs
  | _, _ => none
def itemsT : D → Option (List D)
  | .tup ds => some ds
  | _ => none
end
end DX
namespace DX
open PySem PySem.Spec
section
variable {prog : Program} {w : World} {M : Model} {A : Around} {E : Value → Shared → Prop} {R : Result → Shared → Prop} {h : Heap} {g : Array GenState} {d : Drawn} {t : Nat} {os : OsState} {kw : List (Str × Value)}
variable {nm q : Str} {C N : Addr} {bs bm bmB : List Value} {hdct : Bool} {sn : List Str} {sub : List Value} {ab : Bool} {col : Option Bool} {dd : Option Addr} {k0 k1 k2 k3 k5 : Option Value} {B newId initId : String}
end
open L2 PyProof.Rows StX
section
variable {X : Cx} {J : Gh} {e a b o : Expr} {es : List Expr} {kws : List Keyword} {ks : List Str} {ρ : DEnv} {M M1 M2 : Mem} {F F' H H1 H' : Hp} {σ : L2.St} {K : PySem.W.Frag} {pos p rpos : Pos} {x f f1 f2 : Str} {newId : String} {bmB : List Value} {C g : Addr} {fd : FuncData} {ps : List Str} {P : D → Mem → Prop} {pins : List (Addr × Obj)} {s : Shared}
/-- the arguments by place, by name, two by name the other way round -/
structure Sel (gs : {α : Type} → List α → List α → List α) : Prop where
  v : ∀ {vs : List V} {us : List Value} {xs : List V} {ws : List Value}, Vals vs us → Vals xs ws → Vals (gs vs xs) (gs us ws)
  r : ∀ {K : PySem.W.Frag} {F : Hp} {vs xs : List V} {ds zs : List D}, Rps K F vs ds → Rps K F xs zs → Rps K F (gs vs xs) (gs ds zs)
def selP {α : Type} (a b : List α) : List α := a
def selK {α : Type} (a b : List α) : List α := b
def selR {α : Type} (a b : List α) : List α := match b with
  | [x, y] => [y, x]
  | l => l
/-- an own error class without an own __init__ -/
structure ErrN (newId : String) (bmB : List Value) (K : PySem.W.Frag) (C : Str) : Prop where
  exc : PySem.W.excIn K (He.ga K C) bmB newId = true
  kC : PySem.W.keepIn K (.ref (He.ga K C)) = true
  exC : PySem.W.subIn K (.ref (He.ga K C)) (.type "BaseException") = some true
  tyC : PySem.W.typeIn K (.ref (He.ga K C)) = some (.type "type")
theorem errNB_ok {newId : String} {bmB : List Value} {K : PySem.W.Frag} {C : Str} (h : errNB newId bmB K C = true) : ErrN newId bmB K C := by
  obtain ⟨h1, h⟩ := He.ba h
  obtain ⟨h2, h⟩ := He.ba h
  obtain ⟨h3, h4⟩ := He.ba h
  exact ⟨h1, h2, of_decide_eq_true h3, of_decide_eq_true h4⟩
end
end DX
namespace DX
open PySem PySem.Spec L2
def revD (L : List (Addr × Addr)) (x y : D) : Bool := match x, y with
  | .ins C _, .ins C' _ => decide ((C, C') ∈ L)
  | _, _ => false
def eqUD (L : List Addr) (Lr Lo : List (Addr × Addr)) (f : D → D → Option D) (x y : D) : Option Bool :=
  if revD Lr x y = true then (isU L y).bind fun _ => (f y x).bind blD else (isU L x).bind fun _ => (othU Lo x y).bind fun _ => (f x y).bind blD
section
variable {X : Cx} {J : Gh} {M : Mem} {P : D → Mem → Prop}
end
end DX
namespace EnZ
open PySem PySem.Spec L2 PyProof.Rows
open PySem.W (kdx_alive)
abbrev ZipF (h : Heap) (z TI TO : Addr) (f0 : Value) (f : Bool) : Prop :=
  h.get? z = some { cls := .type "zip", dict := none, data := .fields #[f0, .bool f, .bool false, .ref TI, .ref TO], slots := #[] }
section
variable {prog : Program} {w : World} {A : Around} {E : Value → Shared → Prop} {s : Shared} {z TI TO i1 i2 : Addr} {fp1 fp2 : List Addr} {n1 n2 i : Nat} {P1 P2 : Nat → Value → Prop} {St1 St2 : Nat → Heap → Prop} {a1 a2 f0 : Value} {f : Bool}
def Free (h : Heap) (f0 : Value) : Prop := f0 = .none ∨ ∃ T : Addr, f0 = rawInt T ∧ h.get? T = none
end
open ZMix
/-- both walked side by side and counted -/
def ItE (t u : Bool) (K : PySem.W.Frag) (a b : Addr) : It :=
  ⟨fun i H => ∃ xs ys : List V, ∃ x y : V, SqK t K H a xs ∧ SqK u K H b ys ∧ xs[i]? = some x ∧ ys[i]? = some y ∧ xs.length = ys.length,
   fun i H v H' => ∃ n m : Addr, ∃ x y : V, v = .ref m ∧ H n = none ∧ m ≠ n ∧ H m = none ∧ H' = upd (upd H n (.tup [x, y])) m (.tup [.int (i : Nat), .ref n]) ∧ (∀ xs, SqK t K H a xs → xs[i]? = some x) ∧ (∀ ys, SqK u K H b ys → ys[i]? = some y),
   fun i H => ∃ xs ys : List V, SqK t K H a xs ∧ SqK u K H b ys ∧ i = xs.length ∧ xs.length = ys.length⟩
structure ApartE (e z TI TO i1 i2 a b : Addr) : Prop where
  ez : e ≠ z
  eTI : e ≠ TI
  eTO : e ≠ TO
  ei1 : e ≠ i1
  ei2 : e ≠ i2
  ea : e ≠ a
  eb : e ≠ b
def iEnZ (t u : Bool) (K : PySem.W.Frag) (ta : TA) : TI := fun σ H R => ta σ H fun vs H1 => ∃ a b : Addr, ∃ xs ys : List V, vs = [.ref a, .ref b] ∧ SqK t K H1 a xs ∧ SqK u K H1 b ys ∧ R (ItE t u K a b) H1
end EnZ
namespace DX
open PySem PySem.Spec L2 ZMix EnZ
variable {X : Cx} {J : Gh} {M : Mem} {F : Hp} {K : PySem.W.Frag} {ρ : DEnv} {a b : Expr} {p p' pos pos' : Pos}
noncomputable def dEnZ (v w : D) : Option (List D) := match v, w with
  | .tup a, .tup b => chk (a.length = b.length) (enumD 0 (zipD a b))
  | _, _ => none
end DX
namespace DX
open PySem PySem.Spec L2 PyProof.Rows
section
variable {X : Cx} {J : Gh} {ρ : DEnv} {M : Mem} {P : D → Mem → Prop} {x : Str} {pos pos2 pos3 : Pos}
end
end DX
namespace DX
open PySem PySem.Spec L2
def keyT : D → Option (List Int)
  | .tup ds => intsD ds
  | .stup ds => intsD ds
  | _ => none
def intV : D → Option Int
  | .int i => some i
  | _ => none
/-- d[k], k in d, d[k] = v (k not there), d.setdefault(k, v) -/
def dGetX (kvs : KXT) (d : D) : Option D := (keyT d).bind fun k => (atX kvs k).map D.int
def dInX (kvs : KXT) (d : D) : Option Bool := (keyT d).map fun k => (atX kvs k).isSome
noncomputable def dPutX (kvs : KXT) (d v : D) : Option KXT := (keyT d).bind fun k => (intV v).bind fun i => chk (kvs.length < 1000000 ∧ atX kvs k = none) (kvs ++ [(k, i)])
noncomputable def dSetX (kvs : KXT) (d v : D) : Option (D × KXT) := (keyT d).bind fun k => (intV v).bind fun i => chk (kvs.length < 1000000) (match atX kvs k with | some x => (.int x, kvs) | none => (.int i, kvs ++ [(k, i)]))
section
variable {K : PySem.W.Frag} {F F' H H' : Hp} {M : Mem}
theorem XR.keys {es : DTK.TE3} {kvs : KXT} (r : XR K F es kvs) : ∀ p ∈ es, SqT K F p.2.1 (p.1.map V.int) := by
  unfold XR at r
  induction r with
  | nil => intro p hp; cases hp
  | cons h t ih =>
    intro p hp
    rcases List.mem_cons.mp hp with rfl | hp
    · exact h.2.1
    · exact ih p hp
end
section
variable {X : Cx} {J : Gh} {e a b o : Expr} {es : List Expr} {ρ : DEnv} {M M1 : Mem} {F F' H H' : Hp} {σ : St} {K : PySem.W.Frag} {pos p apos cpos : Pos} {x m f : Str} {P : D → Mem → Prop} {B : Bd}
/-- {}, to hold tuples as keys -/
def tDNewX : TE := fun _ H Q => ∀ p, H p = none → Q (.ref p) (upd H p (DTK.DTX p []))
/-- d[k] -/
def tDGetX' (K : PySem.W.Frag) (td ty : TE) : TE := fun σ H Q => td σ H fun x H1 => ty σ H1 fun y H2 => ∃ (a b : Addr) (es : DTK.TE3) (ks : List Int) (v : V), x = .ref a ∧ y = .ref b ∧ H2 a = some (DTK.DTX a es) ∧ (∀ p ∈ es, SqT K H2 p.2.1 (p.1.map V.int)) ∧ SqT K H2 b (ks.map V.int) ∧ DTK.atV es ks = some v ∧ Q v H2
/-- d[k] = v, k not there -/
def sDPutX (K : PySem.W.Frag) (td ty tv : TE) : TS := fun D σ H => tv σ H fun v H1 => td σ H1 fun x H2 => ty σ H2 fun y H3 => ∃ (a b : Addr) (es : DTK.TE3) (ks : List Int), x = .ref a ∧ y = .ref b ∧ H3 a = some (DTK.DTX a es) ∧ (∀ p ∈ es, SqT K H3 p.2.1 (p.1.map V.int)) ∧ SqT K H3 b (ks.map V.int) ∧ es.length < sizeLine ∧ DTK.atV es ks = none ∧ D.nx σ (upd H3 a (DTK.DTX a (es ++ [(ks, b, v)])))
theorem XR.snoc {es : DTK.TE3} {kvs : KXT} {ks : List Int} {bb : Addr} {i : Int} (r : XR K F es kvs) (h : SqT K F bb (ks.map V.int)) : XR K F (es ++ [(ks, bb, V.int i)]) (kvs ++ [(ks, i)]) := Paired.snoc r ⟨rfl, h, rfl⟩
/-- d.setdefault(k, v) -/
def tDSetX (K : PySem.W.Frag) (td ty tx : TE) : TE := fun σ H Q => td σ H fun x H1 => ∃ (a : Addr) (es1 : DTK.TE3), x = .ref a ∧ H1 a = some (DTK.DTX a es1) ∧ (∀ p ∈ es1, SqT K H1 p.2.1 (p.1.map V.int)) ∧ ty σ H1 fun y H2 => tx σ H2 fun z H3 => ∃ (b : Addr) (es : DTK.TE3) (ks : List Int), y = .ref b ∧ H3 a = some (DTK.DTX a es) ∧ (∀ p ∈ es, SqT K H3 p.2.1 (p.1.map V.int)) ∧ SqT K H3 b (ks.map V.int) ∧ es.length < sizeLine ∧
  (∀ v, DTK.atV es ks = some v → Q v H3) ∧ (DTK.atV es ks = none → Q z (upd H3 a (DTK.DTX a (es ++ [(ks, b, z)]))))
end
end DX
namespace LstNe
open PySem PySem.SeqAt
open AutoSeq1 (wpAny_loadPart')
open MeetsSeq MeetsSeq2 MeetsSeq3 SeqRoads2
section
variable {prog : Program} {w : World} {A : Around} {R : Result → Shared → Prop}
end
section
variable {prog : Program} {w : World} {A : Around} {E : Value → Shared → Prop} {s : Shared}
end
end LstNe
namespace DX
open PySem PySem.Spec L2 PyProof.Rows StX
/-- two instances of one class of L, equal by f -/
noncomputable def eqOU (L : List Addr) (f : D → D → Option D) (a b : D) : Option Unit := match a, b with
  | .ins C gs, .ins C' hs => (chk (C = C' ∧ C ∈ L) ()).bind fun _ => (f (.ins C gs) (.ins C' hs)).bind fun v => match v with
    | .bl true => some ()
    | _ => none
  | _, _ => none
noncomputable def eqLf (L : List Addr) (f : D → D → Option D) (a b : D) : Option Unit := match a, b with
  | .tup as, .tup bs => (intsD as).bind fun x => (intsD bs).bind fun y => chk (x = y) ()
  | a, b => eqOU L f a b
noncomputable def eqL2 (L : List Addr) (f : D → D → Option D) (a b : D) : Option Unit := match a, b with
  | .lst as, .lst bs => eqAllT (eqLf L f) as bs
  | a, b => eqLf L f a b
noncomputable def neD (L : List Addr) (f : D → D → Option D) (a b : D) : Option Unit := match a, b with
  | .lst as, .lst bs => eqAllT (eqL2 L f) as bs
  | _, _ => none
section
variable {X : Cx} {J : Gh} {M : Mem} {P : D → Mem → Prop} {pins : List (Addr × Obj)} {σ : L2.St} {F : Hp} {k : Nat} {L : List Addr} {TU : TrX} {f : D → D → Option D}
abbrev UEq (X : Cx) (k : Nat) (L : List Addr) (TU : TrX) : Prop := UFn X.prog X.w X.K X.mg X.base false [] k L (fun C g => Meth X.K C "__eq__" g ∧ PySem.W.findIn X.K (.ref C) "__ne__" = some (some (.builtin "object.__ne__")) ∧ PySem.W.mroIn X.K C (.type "object") = some true) TU
noncomputable def neNT (L : List Addr) (f : D → D → Option D) (a b : D) : Option Bool := match neD L f a b with
  | some _ => some false
  | none => cNe a b
end
end DX
namespace EnL
open PySem PySem.Spec L2 PyProof.Rows
open EnK
/-- the list at a, its items in new pairs, counted from k -/
def IteKL (K : PySem.W.Frag) (a : Addr) (k : Nat) : It :=
  ⟨fun i H => ∃ (xs : List V) (x : V), SqL K H a xs ∧ xs[i]? = some x, fun i H v H' => ∃ T x, v = .ref T ∧ H T = none ∧ H' = upd H T (.tup [.int (k + i : Nat), x]) ∧ ∀ xs, SqL K H a xs → xs[i]? = some x, fun i H => ∃ xs : List V, SqL K H a xs ∧ xs.length ≤ i⟩
def iEnumKL (K : PySem.W.Frag) (ta tk : TA) : TI := fun σ H R => ta σ H fun vs H1 => tk σ H1 fun zs H2 => ∃ a xs, ∃ k : Nat, vs = [.ref a] ∧ zs = [.int (k : Int)] ∧ k < 1000000 ∧ SqL K H2 a xs ∧ R (IteKL K a k) H2
end EnL
namespace DX
open PySem PySem.Spec L2 EnL
def dEnumKA : D → D → Option (List D)
  | .tup ds, .int k => if 0 ≤ k ∧ k < 1000000 then some (enumD k.toNat ds) else none
  | .lst ds, .int k => if 0 ≤ k ∧ k < 1000000 then some (enumD k.toNat ds) else none
  | _, _ => none
section
variable {X : Cx} {J : Gh} {M : Mem} {F : Hp} {K : PySem.W.Frag} {ρ : DEnv} {a b : Expr} {p pos kp : Pos}
end
end DX
namespace DX
open PySem PySem.Spec L2
def whileC {S R : Type} (c : S → Option Bool) (f : S → Option (Ctl S R)) : Nat → S → Option (Ctl S R)
  | 0, _ => none
  | n + 1, s => (c s).bind fun t => if t = true then (f s).bind fun
    | .go s' => whileC c f n s'
    | .brk s' => some (.go s')
    | .ret r => some (.ret r) else some (.go s)
section
variable {S R : Type} {X : Cx} {J : Gh} {M : Mem} {B : Bd} {ρ : DEnv} {stm : List Stmt} {pos : Pos}
theorem whC {cF : S → Option Bool} {f : S → Option (Ctl S R)} {n : Nat} {s0 : S} {cc : Ctl S R} {c : Expr} (hp : PassesOwn (model X.prog X.w) X.A X.env X.xe) (hl : whileC cF f n s0 = some cc) (V : S → DEnv → Mem → Prop) (h0 : V s0 ρ M)
    (hs : ∀ s t ρ' M', cF s = some t → V s ρ' M' → TX X J c ρ' M' fun t' M1 => t' = t ∧ M1 = M')
    (hb : ∀ s b, f s = some b → (∀ r, b = .ret r → cc = .ret r) → ∀ ρ' M', V s ρ' M' → GX X J stm ρ' M' ⟨fun ρ M => ∃ s', b = .go s' ∧ V s' ρ M, B.rt, fun ρ M => ∃ s', b = .brk s' ∧ V s' ρ M, fun ρ M => ∃ s', b = .go s' ∧ V s' ρ M⟩)
    (hd : ∀ s', cc = .go s' → ∀ ρ' M', V s' ρ' M' → B.nx ρ' M') : G1 X J (.While c stm [] pos) ρ M B := by
  refine g1_while hp (fun m ρ' M' => ∃ s, whileC cF f m s = some cc ∧ V s ρ' M') n ⟨s0, hl, h0⟩ fun m ρ' M' ⟨s, h1, h2⟩ => ?_
  cases m with
  | zero => cases h1
  | succ m =>
    rw [whileC] at h1
    obtain ⟨t, h3, h4⟩ := Option.bind_eq_some_iff.mp h1
    refine (hs s t ρ' M' h3 h2).imp fun t' M1 q => ?_
    obtain ⟨rfl, rfl⟩ := q
    refine ⟨fun e => ?_, fun e => ?_⟩
    · subst e
      rw [if_pos rfl] at h4
      obtain ⟨b, h5, h6⟩ := Option.bind_eq_some_iff.mp h4
      refine (hb s b h5 (fun r e => by subst e; cases h6; rfl) ρ' _ h2).imp (fun _ _ z => ?_) (fun _ _ z => z) (fun _ _ z => ?_) (fun _ _ z => ?_)
      · obtain ⟨s', e, z⟩ := z; subst e; exact ⟨m, Nat.lt_succ_self _, s', h6, z⟩
      · obtain ⟨s', e, z⟩ := z; subst e; exact hd s' (Option.some.inj h6).symm _ _ z
      · obtain ⟨s', e, z⟩ := z; subst e; exact ⟨m, Nat.lt_succ_self _, s', h6, z⟩
    · subst e
      rw [if_neg (by decide)] at h4
      cases h4
      exact hd s rfl ρ' _ h2
end
end DX
namespace DX
open PySem PySem.Spec L2 PyProof.Rows StX
section
variable {X : Cx} {J : Gh} {ρ : DEnv} {M : Mem} {pos p rpos : Pos} {B : Bd} {RR : Addr → List (Str × D) → DEnv → Mem → Prop} {newId : String} {bmB : List Value}
theorem pmk0 {C : Str} (T : ErrN newId bmB X.K C) (Ba : Bas newId bmB) (hm : X.mg C = some (.ref (He.ga X.K C))) (hg : Gl X C) (hdb : (C == ("__debug__" : Str)) = false)
    (hall : (backToKw pos (keywordEach [] X.env)).all (·.1.isSome) = true) (hks : (backToKw pos (keywordEach [] X.env)).filterMap (·.1) = []) :
    PMk X (.Call (.Name C p) [] [] pos) (fun σ H Q => ∃ F0, Sts X.K J F0 σ H ρ M ∧ ∀ F2 H2, Same F0 F2 → Ok X.K F2 M H2 → Q (.ref (He.ga X.K C)) none H2) := by
  intro pins s σ H Q I ⟨F0, st, k⟩
  refine wpAny_Call_Name_kw (ld_glob I hg hm ?_ hdb)
  obtain ⟨_, _, EB, _⟩ := Ba.ex
  have ev : EvA X J pos [] [] [] ρ M (fun ds zs M1 => ds = [] ∧ M1 = M) := ev_0 (kx_nil ⟨rfl, rfl, rfl⟩) hall hks
  refine cwAny (PySem.W.keeps_K T.kC) (ev _ pins σ H F0 s _ I st fun us ws vs xs ds zs F2 M2 H2 s2 I2 e2 o2 r rx rd rz hl ⟨hd, q⟩ => ⟨I2.kIn, ?_⟩)
  subst hd q
  cases rd
  cases r
  obtain ⟨bm, N, nm, qn, bs, hdct, sn, sub, ab, col, dd, k0, k1, k2, k3, k5, mN, hC, hN, hni, TT⟩ := exc_obj I2.kIn T.exc
  exact wpAny_call_exc_subT EB TT hC hN hni (fun h' e hm => mk_of I2 hm (raises_own T.exC T.tyC) (k F2 H2 e2 o2) (I2.hok.gone hm.new)) (by show ([] : List Value).length ≤ sizeLine; rw [sizeLine_eq]; exact Nat.zero_le _)
theorem g1_rs0 {C : Str} (L : Lets X J RR) (hc : X.calm = true) (T : ErrN newId bmB X.K C) (Ba : Bas newId bmB) (hm : X.mg C = some (.ref (He.ga X.K C))) (h : Rof RR ρ (He.ga X.K C) [] M) (hg : Gl X C := by rfl) (hdb : (C == ("__debug__" : Str)) = false := by decide)
    (hall : (backToKw pos (keywordEach [] X.env)).all (·.1.isSome) = true := by rfl) (hks : (backToKw pos (keywordEach [] X.env)).filterMap (·.1) = [] := by rfl) :
    G1 X J (.Raise (some (.Call (.Name C p) [] [] pos)) none rpos) ρ M B := by
  obtain ⟨W, tk, hW⟩ := L.ex
  refine g1_of (ps_raise hc tk (pmk0 (J := J) (ρ := ρ) (M := M) T Ba hm hg hdb hall hks)) fun F σ H E st k => ?_
  obtain ⟨M2, sb, q⟩ := h
  exact ⟨F, st, fun F2 H2 e2 o2 => hW _ _ _ _ _ _ _ _ _ ⟨st.en.mono e2, o2.sub sb, J.mono _ _ e2 st.gh⟩ ⟨rfl, .inl ⟨rfl, rfl⟩⟩ q⟩
end
end DX
namespace DX
open PySem PySem.Spec L2
theorem own_get {g o : List (Str × D)} {f : Str} {d : D} (h : g.lookup f = none) (k : o.lookup f = some d) : (g ++ o).lookup f = some d := by
  rw [List.lookup_append, h, k]; rfl
theorem own_none {g o : List (Str × D)} {f : Str} (h : g.lookup f = none) (k : o.lookup f = none) : (g ++ o).lookup f = none := by
  rw [List.lookup_append, h, k]; rfl
theorem isC_own {C : Addr} {g : List (Str × D)} : isC C (.ins C g) = some g := by
  unfold isC
  simp
theorem retG {A : Type} {v r : A} {p : A → Prop} (e : v = r) (k : p r) : p v := by subst e; exact k
end DX
namespace DX
open PySem PySem.Spec L2
/-- one of two, by the place -/
def pick2 {A : Type} (i : D) (a b : Option A) : Option A := match i with
  | .int k => if k = 0 then a else if k = 1 then b else none
  | _ => none
end DX
namespace DX
open PySem PySem.Spec L2 PyProof.Rows
section
variable {X : Cx} {J : Gh} {o : Expr} {ρ : DEnv} {M : Mem} {P : D → Mem → Prop} {apos cpos : Pos}
theorem Rps.dropLast {K : PySem.W.Frag} {F : Hp} {v : List V} {d : List D} (h : Rps K F v d) : Rps K F v.dropLast d.dropLast := by
  have := h.eraseIdx (v.length - 1)
  rw [List.eraseIdx_length_sub_one, h.length, List.eraseIdx_length_sub_one] at this
  exact this
end
end DX
namespace DX
open PySem PySem.Spec L2 PyProof.Rows StX LamX
def lamS1B (sc scope : Scope) (N : List Str) (a : Str) : Bool :=
  (decide (scope.kind = .function) && (!scope.isCoroutine && !scope.isGenerator)) && (decide (scope.names.lookup a = some .local) && (!decide (a ∈ N) && scope.names.all fun y => (!decide (y.2 = .local) || decide (y.1 = a)) && (!decide (y.2 = .cell) && (!decide (y.2 = .free) || (decide (sc.names.lookup y.1 = some .cell) || decide (sc.names.lookup y.1 = some .free))))))
theorem lamS1_by {sc scope : Scope} {N : List Str} {a : Str} (h : lamS1B sc scope N a = true) : LamS1 sc scope N a := by
  unfold lamS1B at h
  simp only [Bool.and_eq_true, Bool.or_eq_true, Bool.not_eq_true', decide_eq_true_eq, decide_eq_false_iff_not, List.all_eq_true] at h
  obtain ⟨⟨h1, h2, h3⟩, h4, h5, h6⟩ := h
  refine ⟨h1, h2, h3, h4, fun y hy => ⟨fun e => ?_, (h6 y hy).2.1⟩, fun y hy e => ?_, h5⟩
  · rcases (h6 y hy).1 with z | z
    · exact absurd e z
    · exact z
  · rcases (h6 y hy).2.2 with z | z
    · exact absurd e z
    · exact z
/-- the lambda's body, entered at s from the frames outer; its parameter stands behind the maker's names -/
def lamCx1 (X : Cx) (A : Around) (outer : List PySem.Env) (s : Shared) (H : Hp) (E : XK) (scope : Scope) (f c' : Addr) (a : Str) : Cx := { lamCx X A outer s H E scope f c' with N := X.N ++ [a] }
theorem En.snoc {K : PySem.W.Frag} {F : Hp} {v : V} {d : D} (r : Rp K F v d) : ∀ {σ : L2.St} {ρ : DEnv}, En K F σ ρ → En K F (σ ++ [some v]) (ρ ++ [some d])
  | _, _, .nil => .cons (fun x q => ⟨v, rfl, by cases q; exact r⟩) .nil
  | _, _, .cons h t => .cons h (En.snoc r t)
section
variable {X : Cx} {pins : List (Addr × Obj)} {σ : L2.St} {H HZ F : Hp} {M : Mem} {s s1 : Shared}
theorem lam_start1 {A : Around} {outer : List PySem.Env} {E : XK} {scope : Scope} {f c' : Addr} {h₁ : Heap} {tk : Nat} {a : Str} {u : Value} {v : V} (I : L2.Inv X pins σ H s) (L : LamS1 X.env.scope scope X.N a) (e0 : Env0 X.prog X.w X.K X.mg X.base A outer s1 HZ) (hd : A.handled = none)
    (un : Un (frs X.stack) [] H HZ s.heap s1.heap) (hns : h₁.Ns s1.heap.objs.size fun y => ([(a, u)] : List (Str × Value)).reverse.lookup y) (rv : RelV v u) (kp : ∀ b o, s1.heap.get? b = some o → h₁.get? b = some o) :
    L2.Inv (lamCx1 X A outer s1 HZ E scope f c' a) [] (σ ++ [some v]) HZ { s1 with heap := h₁, toks := tk } := by
  have hfree := L.has I.ok
  have cm : ∀ {y c}, (cloFrom X.env.cells scope.names []).lookup y = some c → X.env.cells.lookup y = some c := fun {y c} e => by
    rcases cloFrom_mem (PySem.mem_of_lookup e) with hm | ⟨h1, h2⟩
    · cases hm
    · obtain ⟨c1, hc⟩ := hfree _ h1 rfl
      have hc : X.env.cells.lookup y = some c1 := hc
      have e2 : c = c1 := by rw [h2, hc] <;> rfl
      rw [e2]; exact hc
  have look : ∀ {y}, scope.names.lookup y = some .free → ∃ c, (cloFrom X.env.cells scope.names []).lookup y = some c := fun {y} hl => by
    have hy : (y, NameKind.free) ∈ scope.names := PySem.mem_of_lookup hl
    exact mem_lookup (cloFrom_has (cells := X.env.cells) (acc := []) hy)
  have cellK : ∀ {c : Addr} {v : Option Value}, H c = none → s.heap.IsCell c v → h₁.IsCell c v := fun {c v} n ⟨o, ho, hd⟩ => by
    obtain ⟨sl, q⟩ := un.any ho n (by simp)
    exact ⟨_, kp _ _ q, hd⟩
  have noA : ∀ b : Addr, b ∉ (lamCx1 X A outer s1 HZ E scope f c' a).ex := fun b z => absurd (show b ∈ ([] : List Addr) from z) (by simp)
  refine ⟨⟨e0.mod, L.kind, rfl, rfl, Nat.le_refl _, fun y z c e1 e2 => I.ok.inj y z c (cm e1) (cm e2), fun y hy => ?_, fun y c z _ => ?_, fun _ => hd, Around.frames_deeper e0.frames, .inr ⟨rfl, rfl⟩, fun b z => absurd z (noA b), e0.bs, e0.bsz, fun b _ _ => noA b, fun b z => absurd z (noA b), e0.funs, e0.frf⟩,
    rfl, e0.bare, Un.kept kp, ⟨_, hns, fun i y v' e1 e2 e3 => ?_⟩, fun y c e => ?_, e0.hok.fresh (Nat.le_refl _), fun y c e => ?_, fun q hq => absurd (show q ∈ ([] : List (Addr × Obj)) ++ [] from hq) (by simp), e0.hok.kept kp, ?_⟩
  · have hy : scope.names.lookup y = some .cell ∨ scope.names.lookup y = some .free := hy
    rcases hy with hy | hy
    · exact absurd rfl (L.own _ (PySem.mem_of_lookup hy)).2
    · exact look hy
  · have z : false = true := z
    cases z
  · have e1 : (X.N ++ [a])[i]? = some y := e1
    by_cases hi : i < X.N.length
    · have e1 : X.N[i]? = some y := by rw [← e1]; exact (List.getElem?_append_left hi).symm
      have e2 : σ[i]? = some (some v') := by rw [← e2]; exact (List.getElem?_append_left (by rw [I.len]; exact hi)).symm
      have ya : y ≠ a := fun z => L.new (by rw [← z]; exact List.mem_of_getElem? e1)
      have e3 : Vis scope y := e3
      rcases e3 with k | k | k
      · exact absurd ((L.own _ (PySem.mem_of_lookup k)).1 rfl) ya
      · exact absurd rfl (L.own _ (PySem.mem_of_lookup k)).2
      · obtain ⟨m, hn, hl⟩ := I.loc
        have hvis : Vis X.env.scope y := (L.free _ (PySem.mem_of_lookup k) rfl).elim (fun k => .inr (.inl k)) (fun k => .inr (.inr k))
        obtain ⟨w', r, q⟩ := hl i y v' e1 e2 hvis
        obtain ⟨c2, h2⟩ := look k
        refine ⟨w', r, .inr ⟨.inr k, c2, h2, ?_⟩⟩
        have c1 := cm h2
        rcases q with ⟨k', _⟩ | ⟨_, c3, e', z⟩
        · have k' : X.env.scope.names.lookup y = some .local := k'
          rcases L.free _ (PySem.mem_of_lookup k) rfl with k2 | k2 <;> rw [show X.env.scope.names.lookup y = _ from k2] at k' <;> cases k'
        · rw [c1] at e'; cases e'
          exact cellK (I.freeC y _ c1) z
    · have hl : X.N.length ≤ i := Nat.le_of_not_lt hi
      have e2 : (σ ++ [some v])[i]? = some (some v') := e2
      rw [List.getElem?_append_right hl] at e1
      rw [List.getElem?_append_right (by rw [I.len]; exact hl), I.len] at e2
      have h0 : i - X.N.length = 0 := by
        cases hk : i - X.N.length with
        | zero => rfl
        | succ n => rw [hk] at e1; simp at e1
      rw [h0] at e1 e2
      simp only [List.getElem?_cons_zero, Option.some.injEq] at e1 e2
      subst e1; subst e2
      exact ⟨u, rv, .inl ⟨L.par, by simp [List.lookup]⟩⟩
  · obtain ⟨w', z⟩ := I.cell y c (cm e)
    exact ⟨w', cellK (I.freeC y c (cm e)) z⟩
  · obtain ⟨v', o, ho, hd⟩ := I.cell y c (cm e)
    exact un.free c o ho (I.freeC y c (cm e)) (by simp)
  · show (σ ++ [some v]).length = (X.N ++ [a]).length
    rw [List.length_append, List.length_append, I.len]; rfl
end
section
variable {X : Cx} {pins : List (Addr × Obj)} {σ : L2.St} {H F : Hp} {M : Mem} {s : Shared}
theorem lets_lam1 {A : Around} {outer : List PySem.Env} {s1 : Shared} {HZ F0 : Hp} {scope : Scope} {f c' : Addr} {R : RX} {E : XK} {a : Str} (kx : Kx X.K F0 R E) : Lets (lamCx1 X A outer s1 HZ E scope f c' a) (ghF F0) (fun C gs _ M' => R C gs M') :=
  ⟨fun cls d _ H => E cls d H, takes_of rfl rfl rfl rfl, fun cls d σ H' F ρ M C gs st x r => kx C gs M F H' cls d r st.gh st.ok x⟩
/-- what the lambda's body does, wherever it is called -/
abbrev LBody (X : Cx) (gl : Bool) (kb : Nat) (scope : Scope) (a : Str) (body : Expr) (ρ : DEnv) (T : TL) : Prop :=
  ∀ (A : Around) (outer : List PySem.Env) (s : Shared) (H : Hp) (E : XK) (f c' : Addr) (J : Gh) (d : D) (N : Mem) (P : D → Mem → Prop) (R : RX), (gl = true → A.guards = some []) → Room kb (A.deeper (lamEnv X scope s.heap.objs.size f c')) → Lets (lamCx1 X A outer s H E scope f c' a) J (fun C gs _ M' => R C gs M') → T d N P R →
    EX (lamCx1 X A outer s H E scope f c' a) J body (ρ ++ [some d]) N P
theorem lam_callee {f c' : Addr} {pm ctv : Value} {params : Arguments} {body : Expr} {scope : Scope} {kb : Nat} {gl : Bool} {a : Str} {ρX : DEnv} {T : TL} (I : L2.Inv X pins σ H s) (en : En X.K F σ ρX) (L : LamS1 X.env.scope scope X.N a)
    (hf : s.heap.get? f = some (lamO X params body scope pm c' ctv)) (hfn : H f = none) (hfr : f ∉ frs X.stack) (hco : F c' = some (CodeO c' (X.env.qual ++ "<lambda>")))
    (hbind : ∀ (q : Str) (cl : List (Str × Addr)) (pm cv ctv u : Value), bindArgs (PySem.W.kla_fn "<lambda>" q params body scope cl pm cv ctv) ⟨[u], []⟩ = pure [(a, u)]) (hbody : LBody X gl kb scope a body ρX T) : Callee X.prog X.w X.K X.mg X.base gl kb f F T X.stack s H := by
  refine ⟨⟨_, _, _, _, hf⟩, hfn, hfr, fun A outer' s1 H1 F1 M d u v P R Q E hg hr e0 un rv sF o rd t kt kx => ?_⟩
  have at1 := un.keep f _ hf hfn hfr (fun z => nomatch (show f ∈ ([] : List Addr) from z))
  obtain ⟨⟨oc, vs, t', hoc, hdc, hvc⟩, _, _⟩ := e0.hok c' _ (o.ex _ _ (sF _ _ hco))
  refine PySem.W.kla_callFunE hr.depth at1 rfl L.co L.gen rfl ⟨c', oc, vs, t', rfl, hoc, hdc, hvc⟩ ?_
  have hb0 := hbind (X.env.qual ++ "<lambda>") (cloFrom X.env.cells scope.names []) pm (.ref c') ctv u
  rw [hb0]
  have lim : s1.heap.NoLimit := e0.mod.nolimit.keeps fun b o e => (e0.bs b o e).1
  refine wpAny_pure (wpAny_newFunctionEnv (fun y hy => (L.own y hy).2) (fun y hy => ?_) (fun h₁ hns hsb => ⟨lim.fresh _ hsb, ?_⟩) L.kind)
  · rw [List.mem_singleton] at hy; subst hy; exact L.par
  show codeAny _ _ (.expr body (lamEnv X scope s1.heap.objs.size f c')) _ _
  have J0 := lam_start1 (A := A) (outer := outer') (E := E) (f := f) (c' := c') (h₁ := h₁) (tk := s1.toks + ([(a, u)] : List (Str × Value)).length) I L e0 hr.hd un hns rv (fun b o e => hsb.extBut b o (Nat.ne_of_lt (Heap.lt_size e)) (Heap.get?_push_of_some _ e))
  have hb := hbody A outer' s1 H1 E f c' (ghF F1) d M P R hg (hr.deeper _) (lets_lam1 kx) t
  refine PySem.W.kla_codeExpr (wpAny_mono (hb.run [] _ _ H1 Q J0 ⟨F1, ⟨(en.mono sF).snoc rd, o, Same.refl F1⟩, kt⟩) (fun v s' hq => ?_) fun e s' hq => hq)
  obtain ⟨w', H', J', rv, q⟩ := hq
  exact ⟨w', H', J'.os, J'.bare, J'.base, J'.hok, rv, q⟩
end
section
variable {pg : Program} {w : World} {K : PySem.W.Frag} {mg : Str → Option Value} {base : Heap} {x qual : Str} {params : Arguments} {body : List Stmt} {scope : Scope} {kws : List (Str × V)} {f g : Addr} {fd : FuncData} {N ps : List Str} {k kb : Nat} {gd gl : Bool}
/-- the call of the name a, in the def that got the function -/
theorem ex_act1 {A : Around} {outer : List PySem.Env} {s : Shared} {H F0 : Hp} {E : XK} {cdv : Value} {pn : List (Addr × Obj)} {xe : Value → Shared → Prop} {J : Gh} {ρ : DEnv} {M : Mem} {P : D → Mem → Prop} {RR : Addr → List (Str × D) → DEnv → Mem → Prop} {T : TL} {e : Expr} {a : Str} {i : Nat} {p1 p2 : Pos}
    (C : Callee pg w K mg base gl kb f F0 T outer s H) (hJ : ∀ F, J.p F → Same F0 F) (LZ : Lets ((cxOf (L2.CX pg w) pg w K mg base N qual scope g cdv A outer s H E).tr pn xe) J RR) (hg : gl = true → A.guards = some []) (hr : Room (kb + 1) (A.deeper (envOfC qual scope s.heap.objs.size g cdv)))
    (hl : look ρ i = some (.adr f)) (h : EX ((cxOf (L2.CX pg w) pg w K mg base N qual scope g cdv A outer s H E).tr pn xe) J e ρ M fun d M1 => T d M1 P (Rof RR ρ))
    (hN : N[i]? = some a) (hv : Vis scope a) (hd : (a == ("__debug__" : Str)) = false) (hcd : (a == ("__classdict__" : Str)) = false)
    (he : starEach [e] ((cxOf (L2.CX pg w) pg w K mg base N qual scope g cdv A outer s H E).tr pn xe).env = (false, eval e ((cxOf (L2.CX pg w) pg w K mg base N qual scope g cdv A outer s H E).tr pn xe).env) :: starEach [] ((cxOf (L2.CX pg w) pg w K mg base N qual scope g cdv A outer s H E).tr pn xe).env := by rfl) :
    EX ((cxOf (L2.CX pg w) pg w K mg base N qual scope g cdv A outer s H E).tr pn xe) J (.Call (.Name a p1) [e] [] p2) ρ M P := by
  obtain ⟨W, tk, hW⟩ := LZ.ex
  refine ⟨fun pinsZ sZ σZ HZ Q IZ ⟨FZ, stZ, kt⟩ => ?_⟩
  obtain ⟨y, h1, h2⟩ := stZ.en.look hl
  cases h2
  refine wpAny_Call_Name_kw (thn ((pe_var (pos := p1) (i := i) hN hv hd hcd).run pinsZ sZ σZ HZ (fun v H1 => v = .ref f ∧ H1 = HZ) IZ ⟨.ref f, h1, rfl, rfl⟩) fun u s1 ⟨v, H1, I1, r1, q1⟩ => ?_)
  obtain ⟨rfl, rfl⟩ := q1
  obtain rfl : u = Value.ref f := r1
  obtain ⟨oc, od, fd, sl, hf⟩ := C.obj
  have at1 : s1.heap.get? f = some ⟨oc, od, .func fd, sl⟩ := I1.base.keep f _ hf C.hid C.far (fun z => nomatch (show f ∈ ([] : List Addr) from z))
  refine PySem.W.callWith_F (first := []) ⟨_, _, _, _, at1⟩ ?_ he
  rw [he]
  refine Calls.spliced_cons (thn ((pe_any (e := e)).run pinsZ s1 σZ H1 (fun v H2 => ∃ F2 M2 d, Same FZ F2 ∧ Ok K F2 M2 H2 ∧ Rp K F2 v d ∧ T d M2 P (Rof RR ρ)) I1 (h.go stZ fun d v M2 F2 H2 q e1 o1 r1 => ⟨F2, M2, d, e1, o1, r1, q⟩)) fun u s2 ⟨v, H2, I2, rv, F2, M2, d, e2, o2, rd, t⟩ => ?_)
  refine Calls.spliced_nil ⟨⟨oc, od, fd, sl, I2.base.keep f _ hf C.hid C.far (fun z => nomatch (show f ∈ ([] : List Addr) from z))⟩, ?_⟩
  have un : Un (frs outer) [] H H2 s.heap s2.heap := I2.base
  have kx : Kx K F2 (Rof RR ρ) (fun cls d H' => W cls d σZ H') := fun C gs M' F' H' cls d q e o x => by
    obtain ⟨M3, sb, q⟩ := q
    exact hW _ _ _ _ _ _ _ _ _ ⟨stZ.en.mono (e2.trans e), o.sub sb, J.mono _ _ (e2.trans e) stZ.gh⟩ x q
  refine wpAny_call (codeAny_mono (C.go _ _ s2 H2 F2 M2 d u v P (Rof RR ρ) Q (fun cls d H' => W cls d σZ H') hg hr I2.env0 un rv ((hJ _ stZ.gh).trans e2) o2 rd t (kt.to e2) kx) fun r s' hq => ?_)
  match r, hq with
  | .error _, hq => exact tk _ _ (XE.of_call I2 (fun _ _ _ h => h) hq)
  | .ok (.ret _), hq => exact I2.after hq
  | .ok .next, hq => exact hq.elim
  | .ok .brk, hq => exact hq.elim
  | .ok .cont, hq => exact hq.elim
end
end DX
namespace DX
open PySem PySem.Spec L2 PyProof.Rows StX LamX
abbrev TrC := Addr → TL → TrB
abbrev TrCX := Addr → TL → TrX
section
variable {pg : Program} {w : World} {K : PySem.W.Frag} {mg : Str → Option Value} {base : Heap} {x qual : Str} {params : Arguments} {body : List Stmt} {scope : Scope} {kws : List (Str × V)} {f : Addr} {fd : FuncData} {N ps : List Str} {k kb : Nat} {gd : Bool}
def BodyC (pg : Program) (w : World) (K : PySem.W.Frag) (mg : Str → Option Value) (base : Heap) (gd : Bool) (kb k : Nat) (f : Addr) (qual : Str) (body : List Stmt) (scope : Scope) (N ps : List Str) (T : TrC) : Prop :=
  ∀ (cdv : Value), CodeAt K f cdv → ∀ (A : Around) (outer : List PySem.Env) (s : Shared) (H F0 : Hp) (E : XK) (ds : List D) (M : Mem) (P : D → Mem → Prop) (R : RX) (cf : Addr) (TT : TL), (gd = true → A.guards = some []) → Room k (A.deeper (PyProof.Rows.envOfC qual scope s.heap.objs.size f cdv)) → Callee pg w K mg base gd kb cf F0 TT outer s H → T cf TT ds M P R →
      Lets (cxOf (L2.CX pg w) pg w K mg base N qual scope f cdv A outer s H E) (ghF F0) (fun C gs _ M' => R C gs M') →
      PassesOwn (model pg w) (cxOf (L2.CX pg w) pg w K mg base N qual scope f cdv A outer s H E).A (cxOf (L2.CX pg w) pg w K mg base N qual scope f cdv A outer s H E).env (cxOf (L2.CX pg w) pg w K mg base N qual scope f cdv A outer s H E).xe →
      Kx K F0 R E →
      GX (cxOf (L2.CX pg w) pg w K mg base N qual scope f cdv A outer s H E) (ghF F0) body (startD (N.length - ps.length) ds) M ⟨fun _ M' => P .non M', P, fun _ _ => False, fun _ _ => False⟩
structure FnC (pg : Program) (w : World) (K : PySem.W.Frag) (mg : Str → Option Value) (base : Heap) (gd : Bool) (kb k : Nat) (f : Addr) (ks : List Str) (T : TrCX) : Prop where
  go : ∀ (A : Around) (outer : List PySem.Env) (s : Shared) (H F : Hp) (M : Mem) (ds zs : List D) (P : D → Mem → Prop) (R : RX) (us ws : List Value) (vs xs : List V) (Q : VK) (E : XK) (cf : Addr) (TT : TL), (gd = true → A.guards = some []) → Room k A → Env0 pg w K mg base A outer s H →
    Vals vs us → Vals xs ws → ws.length = ks.length → Ok K F M H → Rps K F vs ds → Rps K F xs zs → Callee pg w K mg base gd kb cf F TT outer s H → T cf TT ds zs M P R → Kt K F P Q → Kx K F R E → codeAny (model pg w) A (.call (.ref f) ⟨us, ks.zip ws⟩) (CR (L2.CX pg w) outer pg w H s Q E) s
theorem body_runC {T : TrC} (B : BodyC pg w K mg base gd kb k f qual body scope N ps T) (cdv : Value) (hcv : CodeAt K f cdv) {A : Around} {outer : List PySem.Env} {s2 : Shared} {H2 F : Hp} {M : Mem} {ds : List D} {vs : List V} {P : D → Mem → Prop} {R : RX} {Q : VK} {E : XK} {cf : Addr} {TT : TL}
    (hg : gd = true → A.guards = some []) (hr : Room k (A.deeper (PyProof.Rows.envOfC qual scope s2.heap.objs.size f cdv))) (hl : vs.length = ps.length) (o : Ok K F M H2) (rd : Rps K F vs ds) (C : Callee pg w K mg base gd kb cf F TT outer s2 H2) (t : T cf TT ds M P R) (kt : Kt K F P Q) (kx : Kx K F R E) :
    ∃ t, PSs (cxOf (L2.CX pg w) pg w K mg base N qual scope f cdv A outer s2 H2 E) body t ∧ t { nx := fun _ H' => Q .non H', rt := Q } (L2.start N vs) H2 := by
  have hb := B cdv hcv A outer s2 H2 F E ds M P R cf TT hg hr C t (lets_body kx) (passes_of rfl) kx
  refine ⟨_, hb, F, ⟨?_, o, Same.refl F⟩, ⟨fun F' σ' H' ρ' M' p e en o' => kt _ _ _ _ _ p e o' .non, kt, fun F' σ' H' ρ' M' p => p.elim, fun F' σ' H' ρ' M' p => p.elim⟩⟩
  unfold L2.start
  rw [hl]; exact En.start _ rd
/-- as run_bnd; what the binding leaves is told -/
theorem run_bndU {CX : CXT} {dV kV doc pm cdv ct oc : Value} {an od : Option Addr} {osl : Array (Option Value)} {A : Around} {outer : List PySem.Env} {s : Shared} {H : Hp} {args : Args} {Q : VK} {E : XK} {G : List V → Hp → Prop}
    (lk : K.lookup f = some ⟨oc, od, .func (PySem.W.fnOf x qual params body scope dV kV doc pm an cdv ct), osl⟩) (hcd : PySem.W.codeIn K cdv qual = true) (S : FnScope N ps scope) (hr : Room (k + 1) A) (e0 : Env0 pg w K mg base A outer s H)
    (hb : Bnd CX pg w K mg base (PySem.W.fnOf x qual params body scope dV kV doc pm an cdv ct) args ps A outer s H E G)
    (hbody : ∀ (s2 : Shared) (H2 : Hp) (vs : List V), G vs H2 → Un (frs outer) [] H H2 s.heap s2.heap → Room k (A.deeper (envOfC qual scope s2.heap.objs.size f cdv)) →
      ∃ t, PSs (cxOf CX pg w K mg base N qual scope f cdv A outer s2 H2 E) body t ∧ t { nx := fun _ H' => Q .non H', rt := Q } (L2.start N vs) H2) :
    codeAny (model pg w) A (.call (.ref f) args) (CR CX outer pg w H s Q E) s := by
  have KX : K.In s.heap := e0.mod.kin.keeps fun b o e => (e0.bs b o e).1
  refine codeAny_call_function hr.depth (KX _ _ lk) rfl S.co S.gen rfl (PySem.W.codeRec_of KX hcd) (hb _ _ _ fun s2 H2 vs us e2 un ho hx r hl g => ?_)
  have lim : s2.heap.NoLimit := e0.mod.nolimit.keeps fun b o e => (e2.bs b o e).1
  refine wpAny_newFunctionEnv_cells (s := s2) S.kind (fun y hy => (S.par y.1 (List.of_mem_zip hy).1).elim .inl fun q => .inr ⟨q, PySem.W.cellsFrom_some _ _ _ (.inl q)⟩) fun env he s1 z => ?_
  subst he
  refine ⟨lim.keeps z.toInCall.keep, codeAny_func ?_⟩
  obtain ⟨t, ht, hq⟩ := hbody s2 H2 vs g un (hr.deeper _)
  have I : L2.Inv (cxOf CX pg w K mg base N qual scope f cdv A outer s2 H2 E) [] (L2.start N vs) H2 s1 := inv_start S hr.hd e2 hl r z
  have fin : ∀ {σ' : L2.St} {H' : Hp} {v' : V} {u' : Value} {s' : Shared}, L2.Inv (cxOf CX pg w K mg base N qual scope f cdv A outer s2 H2 E) [] σ' H' s' → RelV v' u' → Q v' H' → CE outer pg w H s Q u' s' := fun {σ' H' v' u' s'} J rv' q => ⟨v', H', J.os.trans ho, J.bare, un.trans J.base, J.hok, rv', q⟩
  refine wpAny_mono (ht.run [] s1 _ _ _ I hq) (fun fl s' hs => ?_) fun e s' hs => wpAny_mono hs (fun _ s'' z => hx e s'' z) fun e' s'' z => hx e' s'' z
  match fl, hs with
  | .ret u', ⟨v', σ', H', J, rv', q⟩ => exact fin J rv' q
  | .next, ⟨σ', H', J, q⟩ => exact fin (v' := V.non) (u' := Value.none) J rfl q
  | .brk, ⟨_, _, _, q⟩ => exact q.elim
  | .cont, ⟨_, _, _, q⟩ => exact q.elim
/-- values by place, keywords, keyword-only defaults -/
theorem fn_kwC {T : TrC} {pn : List Str} (F : FunD K x qual params body scope [] kws f fd) (S : FnScope N pn scope) (B : BodyC pg w K mg base gd kb k f qual body scope N pn T) (np : Nat) (ks : List Str) (ms : List (Str × V)) (mds : List D) (ix : List Nat)
    (hms : ∀ q ∈ ms, q ∈ kws) (hmd : ∀ F, Rps K F (ms.map (·.2)) mds)
    (h : ∀ (kV : Value) (D : Addr) (doc pm : Value) (an : Option Addr) (cdv ct : Value) (us mv ws : List Value), (kws ≠ [] → kV = .ref D) → us.length = np → mv.length = ms.length → ws.length = ks.length →
      KwChainE D (fun t => t = pure (pn.zip (pick (us ++ (mv ++ ws)) ix))) ((ms.map (·.1)).zip mv) (bindArgs (PySem.W.fnOf x qual params body scope .none kV doc pm an cdv ct) ⟨us, ks.zip ws⟩))
    (hix : ∀ (us mv ws : List V), us.length = np → mv.length = ms.length → ws.length = ks.length → (pick (us ++ (mv ++ ws)) ix).length = pn.length) :
    FnC pg w K mg base gd kb (k + 1) f ks (fun cf TT ds zs M P R => ds.length = np ∧ zs.length = ks.length ∧ T cf TT (pick (ds ++ (mds ++ zs)) ix) M P R) := by
  obtain ⟨oc, od, dV, kV, doc, pm, an, cdv, ct, osl, rfl, lk, hcd, hD, hK⟩ := F.ex
  obtain rfl : dV = .none := hD.elim (fun z => z.2) fun z => absurd rfl z.1
  obtain ⟨D, hkV, hq⟩ : ∃ D : Addr, (kws ≠ [] → kV = .ref D) ∧ ∀ q ∈ kws, ∃ u, PySem.W.nsIn K D q.1 = some (some u) ∧ RelV q.2 u := by
    rcases hK with e | ⟨D, e, hq⟩
    · exact ⟨0, fun z => absurd e z, fun q hq => by rw [e] at hq; cases hq⟩
    · exact ⟨D, fun _ => e, hq⟩
  obtain ⟨mv, hml, rmv, hmk⟩ := kwd_vals (ms := ms) fun q hm => hq q (hms q hm)
  refine ⟨fun A outer s H F0 M ds zs P R us ws vs xs Q E cf TT hg hr e0 rv rx hw o rd rz C t kt kx => ?_⟩
  obtain ⟨hd0, hzl, t⟩ := t
  have l1 : us.length = np := by rw [← rv.length, rd.length]; exact hd0
  have vl : (pick (vs ++ (ms.map (·.2) ++ xs)) ix).length = pn.length := hix _ _ _ (by rw [rv.length]; exact l1) (by rw [List.length_map]) (by rw [rx.length]; exact hw)
  have vr : Vals (pick (vs ++ (ms.map (·.2) ++ xs)) ix) (pick (us ++ (mv ++ ws)) ix) := pick_vals (rv.append (rmv.append rx)) ix
  refine run_bndU (CX := L2.CX pg w) (E := E) lk hcd S hr e0 (G := fun ys H2 => ys = pick (vs ++ (ms.map (·.2) ++ xs)) ix ∧ H2 = H) (fun A' Ex Q' hh => ?_) fun s2 H2 ys ⟨ey, eH⟩ un hr' => ?_
  · refine KwChainE.run (K := K) (e0.mod.kin.keeps fun b o e => (e0.bs b o e).1) (fun t et => ?_) (fun q hq => hmk q hq) (h kV D doc pm an cdv ct us mv ws hkV l1 hml hw)
    subst et
    exact wpAny_pure (hh s H _ _ e0 Un.refl rfl (fun e s' z => z) vr vl ⟨rfl, rfl⟩)
  · subst ey eH
    exact body_runC B cdv ⟨_, _, _, _, lk, rfl⟩ hg hr' vl o (pick_rps (rd.append ((hmd _).append rz)) ix) (C.to un (Same.refl F0)) t kt kx
end
section
variable {X : Cx} {J : Gh} {e : Expr} {kws : List Keyword} {ks : List Str} {ρ : DEnv} {M M1 M2 : Mem} {F F' H H' : Hp} {σ : L2.St} {pos p lpos : Pos} {x a : Str} {P : D → Mem → Prop} {RR : Addr → List (Str × D) → DEnv → Mem → Prop} {gd : Bool} {k kb : Nat} {g c Pt : Addr} {T : TrCX} {TT : TL} {params : Arguments} {body : Expr} {scope : Scope}
theorem run_fnC {cf : Addr} {pins : List (Addr × Obj)} {s : Shared} {Q : VK} {us ws : List Value} {vs xs : List V} {ds zs : List D} (G : FnC X.prog X.w X.K X.mg X.base gd kb k g ks T) (L : Lets X J RR) (hg : gd = true → X.A.guards = some []) (hr : Room k X.A)
    (I : L2.Inv X pins σ H s) (st : Sts X.K J F σ H ρ M) (r : Vals vs us) (rx : Vals xs ws) (hw : zs.length = ks.length) (rd : Rps X.K F vs ds) (rz : Rps X.K F xs zs) (C : Callee X.prog X.w X.K X.mg X.base gd kb cf F TT X.stack s H) (t : T cf TT ds zs M P (Rof RR ρ)) (kt : Kt X.K F P Q) :
    wpAny (model X.prog X.w) X.A (call (.ref g) us (ks.zip ws)) (EP X pins σ Q) X.xe s := by
  obtain ⟨W, tk, hW⟩ := L.ex
  refine wpAny_call (codeAny_mono (G.go X.A X.stack s H F M ds zs P (Rof RR ρ) us ws vs xs Q (fun cls d H' => W cls d σ H') cf TT hg hr I.env0 r rx (by rw [← rx.length, rz.length]; exact hw) st.ok rd rz C t kt (fun C gs M' F' H' cls d ⟨M2, sb, q⟩ e o x => hW _ _ _ _ _ _ _ _ _ ⟨st.en.mono e, o.sub sb, J.mono _ _ e st.gh⟩ x q)) fun res s' end_ => ?_)
  match res, end_ with
  | .error _, end_ => exact tk _ _ (XE.of_call I (fun _ _ _ h => h) end_)
  | .ok (.ret _), end_ => exact I.after end_
  | .ok .next, end_ => exact end_.elim
  | .ok .brk, end_ => exact end_.elim
  | .ok .cont, end_ => exact end_.elim
theorem pin_lam {f c' : Addr} {pm ctv : Value} {pins : List (Addr × Obj)} {s : Shared} (I : L2.Inv X pins σ H s) (hf : s.heap.get? f = some (lamO X params body scope pm c' ctv)) (hfn : H f = none) (hfr : f ∉ frs X.stack) : L2.Inv X ((f, lamO X params body scope pm c' ctv) :: pins) σ H s :=
  I.pins_of fun p hp => by
    rcases List.mem_cons.mp hp with e | e
    · subst e
      refine ⟨hf, hfn, fun z => ?_, fun z => hfr (by rcases I.ok.stk with e | ⟨e, _⟩ <;> rw [e]; exact z; obtain ⟨y, h1, h2⟩ := List.mem_filterMap.mp z; exact List.mem_filterMap.mpr ⟨y, .tail _ h1, h2⟩), fun v z => by cases z⟩
      have h1 := I.loc
      obtain ⟨m, ⟨ob, es, ep, ho, r⟩, _⟩ := h1
      have z : f = X.env.locals := z
      rw [← z, hf] at ho; cases ho; exact absurd r.1 (by intro y; cases y)
    · exact I.pin p (List.mem_append_right _ e)
theorem unpin {q : Addr × Obj} {pins : List (Addr × Obj)} {s : Shared} (I : L2.Inv X (q :: pins) σ H s) : L2.Inv X pins σ H s := I.pins_of fun p hp => I.pin p (List.mem_append_right _ (List.mem_cons_of_mem _ hp))
/-- x(e, lambda a: body, k = ..) -/
theorem ex_callCA (G : FnC X.prog X.w X.K X.mg X.base gd kb k g ks T) (Lt : Lets X J RR) (hgd : gd = true → X.A.guards = some []) (hr : Room k X.A) (hm : X.mg x = some (.ref g)) (hk : PySem.W.keepIn X.K (.ref g) = true)
    (TB : TabB X.base X.mg c Pt) (hcode : X.env.code = .ref c) (TT : TL)
    (h : EX X J e ρ M fun d M1 => M1 Pt = some (.tbl (X.env.qual ++ "<lambda>")) ∧ KX X J kws ρ M1 fun zs M2 => zs.length = ks.length ∧ ∀ cf, T cf TT [d, .adr cf] zs M2 P (Rof RR ρ))
    (hbody : LBody X gd kb scope a body ρ TT) (L : LamS1 X.env.scope scope X.N a := by exact lamS1_by rfl) (hdef : defaultsOf params X.env = ([], []) := by rfl)
    (hbind : ∀ (q : Str) (cl : List (Str × Addr)) (pm cv ctv u : Value), bindArgs (PySem.W.kla_fn "<lambda>" q params body scope cl pm cv ctv) ⟨[u], []⟩ = pure [(a, u)] := by intro _ _ _ _ _ _; rfl)
    (hall : (backToKw pos (keywordEach kws X.env)).all (·.1.isSome) = true := by rfl) (hks : (backToKw pos (keywordEach kws X.env)).filterMap (·.1) = ks := by rfl)
    (hg : Gl X x := by rfl) (hdb : (x == ("__debug__" : Str)) = false := by decide)
    (he : starEach [e, .Lambda params body scope lpos] X.env = (false, eval e X.env) :: starEach [.Lambda params body scope lpos] X.env := by rfl) :
    EX X J (.Call (.Name x p) [e, .Lambda params body scope lpos] kws pos) ρ M P := by
  refine ⟨fun pins s σ H Q I ⟨F, st, kt⟩ => ?_⟩
  refine wpAny_Call_Name_kw (ld_glob I hg hm (cwAny (PySem.W.keeps_K hk) (PyProof.Rows.evalArgs_kw2 hall ?_ he)) hdb)
  rw [he]
  refine Calls.spliced_cons (thn ((pe_any (e := e)).run pins s σ H (fun v H1 => ∃ F1 M1 d, Same F F1 ∧ Ok X.K F1 M1 H1 ∧ Rp X.K F1 v d ∧ M1 Pt = some (.tbl (X.env.qual ++ "<lambda>")) ∧ KX X J kws ρ M1 fun zs M2 => zs.length = ks.length ∧ ∀ cf, T cf TT [d, .adr cf] zs M2 P (Rof RR ρ)) I
    (h.go st fun d v M1 F1 H1 q e1 o1 r1 => ⟨F1, M1, d, e1, o1, r1, q⟩)) fun u s1 ⟨v, H1, I1, rv, F1, M1, d, e1, o1, rd, hT, hK⟩ => ?_)
  refine Calls.spliced_cons (lam_made I1 o1 TB hcode hT hdef (L.has I.ok) fun f c' pm ctv H2 F2 s2 I2 sm o2 hf hfn hfr hco => Calls.spliced_nil ?_)
  have sF2 : Same F F2 := e1.trans sm
  refine thn ((pk_any (X := X) (kws := kws)).run pos _ s2 σ H2 (fun xs H3 => ∃ F3 M3 zs, Same F2 F3 ∧ Ok X.K F3 M3 H3 ∧ Rps X.K F3 xs zs ∧ zs.length = ks.length ∧ ∀ cf, T cf TT [d, .adr cf] zs M3 P (Rof RR ρ)) (pin_lam I2 hf hfn hfr)
    (hK.go (st.to sF2 o2) fun zs xs M3 F3 H3 q3 e3 o3 r3 => ⟨F3, M3, zs, e3, o3, r3, q3.1, q3.2⟩)) fun ws s3 ⟨xs, H3, I3, rx, F3, M3, zs, e3, o3, rz, hl, t⟩ => ?_
  rw [hks]
  have sF3 : Same F F3 := sF2.trans e3
  have pf := I3.pin _ (List.mem_append_right _ (.head _))
  have C := lam_callee (gl := gd) (kb := kb) (T := TT) I3 (st.en.mono sF3) L pf.1 pf.2.1 hfr (e3 _ _ hco) hbind hbody
  exact ⟨I3.kIn, run_fnC G Lt hgd hr (unpin I3) (st.to sF3 o3) (.cons rv (.cons (show L2.RelV (V.ref f) (Value.ref f) from rfl) .nil)) rx hl (.cons (rd.mono (sm.trans e3)) (.cons (.adr f) .nil)) rz C (t f) (kt.to sF3)⟩
end
end DX
namespace DX
open PySem PySem.Spec L2
/-- more stands above, the same for all contents -/
inductive Ov {S : Type} : (S → Mem) → (S → Mem) → Prop
  | refl {W : S → Mem} : Ov W W
  | up {W W1 : S → Mem} {a : Addr} {d : D} : Ov W W1 → (∀ z, W1 z a = none) → Ov W (fun z => up (W1 z) a d)
/-- f: what the lambda gives, and leaves in the list at p -/
def TLst (f : D → List D → Option (D × List D)) (p : Addr) : TL := fun d N P R => ∃ (W : D → Mem) (s : List D) (r : D × List D), (∀ z, At (W z) p z W) ∧ N = W (.lst s) ∧ f d s = some r ∧ P r.1 (W (.lst r.2))
theorem ov_lst {WD : D → Mem} {p : Addr} {W W1 : List D → Mem} (o : Ov W W1) (h0 : ∀ z, At (WD z) p z WD) (e : ∀ l, W l = WD (.lst l)) : ∃ W2 : D → Mem, (∀ l, W1 l = W2 (.lst l)) ∧ ∀ z, At (W2 z) p z W2 := by
  induction o with
  | refl => exact ⟨WD, e, h0⟩
  | @up W1 a d o hn ih =>
    obtain ⟨W2, e2, h2⟩ := ih
    have n0 : W2 (.lst []) a = none := by rw [← e2]; exact hn []
    have n1 : ∀ y, W2 y a = none := fun y => fresh1 h2 n0 y
    exact ⟨fun z => up (W2 z) a d, fun l => by show up (W1 l) a d = up (W2 (.lst l)) a d; rw [e2], fun z => at1 ((h2 z).ne (n1 z)) (h2 z)⟩
theorem tlst_of {WD : D → Mem} {p : Addr} {W W1 : List D → Mem} {f : D → List D → Option (D × List D)} {d : D} {s : List D} {r : D × List D} {P : D → Mem → Prop} {R : RX} (h0 : ∀ z, At (WD z) p z WD) (e : ∀ l, W l = WD (.lst l)) (o : Ov W W1) (h : f d s = some r) (k : P r.1 (W1 r.2)) : TLst f p d (W1 s) P R := by
  obtain ⟨W2, e2, h2⟩ := ov_lst o h0 e
  exact ⟨W2, s, r, h2, e2 s, h, by rw [← e2]; exact k⟩
end DX
namespace DX
open PySem PySem.Spec L2 GenW StX
open PyProof.Rows hiding St
section
variable {X : Cx} {J : Gh} {o e : Expr} {es : List Expr} {kws : List Keyword} {ks : List Str} {ρ ρ' : DEnv} {M : Mem} {pos pos' p apos : Pos} {m : Str} {P : D → Mem → Prop} {k : Nat} {L : List Addr}
end
end DX
namespace DX
/-- what a name holds, perhaps: o is known of it -/
def OptIs (o j : Option D) : Prop := ∀ v, o = some v → j = some v
end DX
namespace DX
open PySem PySem.Spec L2 SX
section
variable {i j : Int} {a b : Str} {l m : List D} {x y : D} {p q : Bool}
@[simp] theorem chk_true {α : Type} {x : α} : chk True x = some x := chk_pos trivial
@[simp] theorem dAdd_ii : dAdd (.int i) (.int j) = some (.int (i + j)) := rfl
@[simp] theorem dAdd_ll : dAdd (.lst l) (.lst m) = chk (l.length + m.length ≤ 1000000) (.lst (l ++ m)) := rfl
@[simp] theorem dAdd_tt : dAdd (.tup l) (.tup m) = chk (l.length + m.length ≤ 1000000) (.tup (l ++ m)) := rfl
@[simp] theorem dAdd_ss : dAdd (.str a) (.str b) = chk (a.length + b.length ≤ 1000000) (.str (a ++ b)) := rfl
@[simp] theorem lAdd_ll : lAdd (.lst l) (.lst m) = chk (l.length + m.length ≤ 1000000) (l ++ m) := rfl
@[simp] theorem dSub_ii : dSub (.int i) (.int j) = some (.int (i - j)) := rfl
@[simp] theorem dMul_ii : dMul (.int i) (.int j) = chk (CMul i j) (.int (i * j)) := rfl
@[simp] theorem dMul_li : dMul (.lst l) (.int j) = chk ((-(2 ^ 62) ≤ j ∧ j < 2 ^ 62) ∧ l.length * j.toNat ≤ 1000000) (.lst (List.replicate j.toNat l).flatten) := rfl
@[simp] theorem lMul_li : lMul (.lst l) (.int j) = chk ((-(2 ^ 62) ≤ j ∧ j < 2 ^ 62) ∧ l.length * j.toNat ≤ 1000000) (List.replicate j.toNat l).flatten := rfl
@[simp] theorem dFdiv_ii : dFdiv (.int i) (.int j) = chk (CDiv i j) (.int (i / j)) := rfl
@[simp] theorem dMod_ii : dMod (.int i) (.int j) = chk (0 < j) (.int (i % j)) := rfl
@[simp] theorem dPow_ii : dPow (.int i) (.int j) = chk (CPow i j) (.int (i ^ j.toNat)) := rfl
@[simp] theorem dShl_ii : dShl (.int i) (.int j) = chk (CPow i j) (.int (i * 2 ^ j.toNat)) := rfl
@[simp] theorem dShr_ii : dShr (.int i) (.int j) = chk (0 ≤ j) (.int (i / 2 ^ j.toNat)) := rfl
@[simp] theorem dBand_ii : dBand (.int i) (.int j) = some (.int (Builtin.bitAnd i j)) := rfl
@[simp] theorem dBor_ii : dBor (.int i) (.int j) = some (.int (Builtin.bitOr i j)) := rfl
@[simp] theorem dBxor_ii : dBxor (.int i) (.int j) = some (.int (Builtin.bitXor i j)) := rfl
@[simp] theorem dNeg_i : dNeg (.int i) = some (.int (-i)) := rfl
@[simp] theorem dInv_i : dInv (.int i) = some (.int (Builtin.bitNot i)) := rfl
@[simp] theorem cLt_ii : cLt (.int i) (.int j) = some (decide (i < j)) := rfl
@[simp] theorem cLe_ii : cLe (.int i) (.int j) = some (decide (i ≤ j)) := rfl
@[simp] theorem cGt_ii : cGt (.int i) (.int j) = some (decide (j < i)) := rfl
@[simp] theorem cGe_ii : cGe (.int i) (.int j) = some (decide (j ≤ i)) := rfl
@[simp] theorem cEq_ii : cEq (.int i) (.int j) = some (decide (i = j)) := rfl
@[simp] theorem cEq_bb : cEq (.bl p) (.bl q) = some (decide (p = q)) := rfl
@[simp] theorem cEq_ss : cEq (.str a) (.str b) = some (decide (a = b)) := rfl
@[simp] theorem cEq_si : cEq (.str a) (.int j) = some false := rfl
@[simp] theorem cEq_is : cEq (.int j) (.str a) = some false := rfl
@[simp] theorem cEq_bs : cEq (.bl p) (.str a) = some false := rfl
@[simp] theorem cEq_sb : cEq (.str a) (.bl p) = some false := rfl
@[simp] theorem cEq_nn : cEq .non .non = some true := rfl
@[simp] theorem cEq_ni : cEq .non (.int j) = some false := rfl
@[simp] theorem cEq_in : cEq (.int j) .non = some false := rfl
@[simp] theorem cEq_ns : cEq .non (.str a) = some false := rfl
@[simp] theorem cEq_sn : cEq (.str a) .non = some false := rfl
@[simp] theorem cNe_of {x y : D} : cNe x y = (cEq x y).map (!·) := rfl
@[simp] theorem cNin_of {x y : D} : cNin x y = (cIn x y).map (!·) := rfl
@[simp] theorem cIsnt_of {x y : D} : cIsnt x y = (cIs x y).map (!·) := rfl
@[simp] theorem cIs_bb : cIs (.bl p) (.bl q) = some (decide (p = q)) := rfl
@[simp] theorem cIs_nn : cIs .non .non = some true := rfl
@[simp] theorem cIs_tn : cIs (.tup l) .non = some false := rfl
@[simp] theorem cIs_ln : cIs (.lst l) .non = some false := rfl
@[simp] theorem cIs_in : cIs (.int i) .non = some false := rfl
@[simp] theorem cIs_sn : cIs (.str a) .non = some false := rfl
@[simp] theorem dTru_b : dTru (.bl p) = some p := rfl
@[simp] theorem dTru_i : dTru (.int i) = some (i != 0) := rfl
@[simp] theorem dTru_l : dTru (.lst l) = some (!l.isEmpty) := rfl
@[simp] theorem dTru_t : dTru (.tup l) = some (!l.isEmpty) := rfl
@[simp] theorem dTru_n : dTru .non = some false := rfl
@[simp] theorem dIx_li : dIx (.lst l) (.int i) = atI l i := rfl
@[simp] theorem dIx_ti : dIx (.tup l) (.int i) = atI l i := rfl
@[simp] theorem dIx_si : dIx (.str a) (.int i) = (atI a.cps.toList i).bind fun n => chk (a.length ≤ 1000000) (.str ⟨#[n]⟩) := rfl
@[simp] theorem dEnd_i : dEnd (.int i) = some i := rfl
@[simp] theorem dCut_l {u v : Option Int} : dCut (.lst l) u v = some (.lst (cutD l u v)) := rfl
@[simp] theorem dCut_t {u v : Option Int} : dCut (.tup l) u v = some (.tup (cutD l u v)) := rfl
@[simp] theorem dCut_s {u v : Option Int} : dCut (.str a) u v = chk (a.cps.toList.length ≤ 1000000) (.str (S (cutA a.cps.toList u v))) := rfl
@[simp] theorem dLen_l : dLen (.lst l) = some (.int (l.length : Int)) := rfl
@[simp] theorem dLen_t : dLen (.tup l) = some (.int (l.length : Int)) := rfl
@[simp] theorem dLen_s : dLen (.str a) = chk (a.length ≤ 1000000) (.int (a.length : Int)) := rfl
@[simp] theorem dAbs_i : dAbs (.int i) = some (.int (if i < 0 then -i else i)) := rfl
@[simp] theorem dInt_i : dInt (.int i) = some (.int i) := rfl
@[simp] theorem dInt_b : dInt (.bl p) = some (.int (if p = true then 1 else 0)) := rfl
@[simp] theorem lList_l : lList (.lst l) = some l := rfl
@[simp] theorem lList_t : lList (.tup l) = some l := rfl
@[simp] theorem lListM_l : lListM (.lst l) = some l := rfl
@[simp] theorem lListM_t : lListM (.tup l) = some l := rfl
@[simp] theorem dIter_l : dIter (.lst l) = some l := rfl
@[simp] theorem dIter_t : dIter (.tup l) = some l := rfl
@[simp] theorem dIter_s : dIter (.str a) = some (signs a) := rfl
@[simp] theorem items_l : itemsD (.lst l) = some l := rfl
@[simp] theorem items_t : itemsD (.tup l) = some l := rfl
@[simp] theorem dEnum_l : dEnum (.lst l) = some (enumD 0 l) := rfl
@[simp] theorem dEnum_t : dEnum (.tup l) = some (enumD 0 l) := rfl
@[simp] theorem dZip_l : dZip (.lst l) (.lst m) = some (zipD l m) := rfl
@[simp] theorem dZip_tl : dZip (.tup l) (.lst m) = some (zipD l m) := rfl
@[simp] theorem dZip_lt : dZip (.lst l) (.tup m) = some (zipD l m) := rfl
@[simp] theorem dZip_t : dZip (.tup l) (.tup m) = some (zipD l m) := rfl
@[simp] theorem dRange_1 : dRange [.int j] = chk (-1000000 ≤ j ∧ j ≤ 1000000) (rngD 0 j.toNat) := rfl
@[simp] theorem dRange_2 : dRange [.int i, .int j] = chk ((0 ≤ i ∧ i ≤ 1000000) ∧ -1000000 ≤ j ∧ j ≤ 1000000) (rngD i (j - i).toNat) := rfl
@[simp] theorem dRange_3 : dRange [.int i, .int j, .int (-1)] = chk ((-1000000 ≤ i ∧ i ≤ 1000000) ∧ -1000000 ≤ j ∧ j ≤ 1000000) (rngC i (-1) (i - j).toNat) := by simp only [dRange, if_pos]
@[simp] theorem lSet_i {v : D} : lSet l (.int i) v = (ixN l.length i).map fun m => l.set m v := rfl
@[simp] theorem un1_t : un1 (.tup [x]) = some x := rfl
@[simp] theorem un2_t : un2 (.tup [x, y]) = some (x, y) := rfl
@[simp] theorem un3_t {z : D} : un3 (.tup [x, y, z]) = some (x, y, z) := rfl
@[simp] theorem un4_t {z w : D} : un4 (.tup [x, y, z, w]) = some (x, y, z, w) := rfl
@[simp] theorem iOp_ii {f : Int → Int → Int} : iOp f (.int i) (.int j) = some (.int (f i j)) := rfl
@[simp] theorem strD_s : strD (.str a) = some a := rfl
@[simp] theorem lstD_l : lstD (.lst l) = some l := rfl
@[simp] theorem dctD_d {k : List (Key × D)} : dctD (.dct k) = some k := rfl
@[simp] theorem keyD_i : keyD (.int i) = some (.inl i) := rfl
@[simp] theorem keyD_s : keyD (.str a) = some (.inr a) := rfl
@[simp] theorem dMax2_ii : dMax2 (.int i) (.int j) = some (.int (if j > i then j else i)) := rfl
@[simp] theorem dMin2_ii : dMin2 (.int i) (.int j) = some (.int (if j < i then j else i)) := rfl
@[simp] theorem foldO_nil {S : Type} {f : S → D → Option S} {s : S} : foldO f s [] = some s := rfl
@[simp] theorem foldO_cons {S : Type} {f : S → D → Option S} {s : S} {x : D} {xs : List D} : foldO f s (x :: xs) = (f s x).bind fun s' => foldO f s' xs := rfl
@[simp] theorem mapO_nil {f : D → Option D} : mapO f [] = some [] := rfl
@[simp] theorem mapO_cons {f : D → Option D} {x : D} {xs : List D} : mapO f (x :: xs) = (f x).bind fun y => (mapO f xs).map fun ys => y :: ys := rfl
@[simp] theorem loopC_nil {S R : Type} {f : S → D → Option (Ctl S R)} {s : S} : loopC f s [] = some (.go s) := rfl
@[simp] theorem ctl_g {S R T : Type} {s : S} {f : S → Option T} {g : R → Option T} : ctl (.go s) f g = f s := rfl
@[simp] theorem ctl_r {S R T : Type} {s : R} {f : S → Option T} {g : R → Option T} : ctl (.ret s) f g = g s := rfl
@[simp] theorem dAll_b {bs : List Bool} : dAll (.lst (bs.map D.bl)) = some (.bl (bs.all id)) := by unfold dAll; simp [blsD_map]
@[simp] theorem dAny_b {bs : List Bool} : dAny (.lst (bs.map D.bl)) = some (.bl (bs.any id)) := by unfold dAny; simp [blsD_map]
@[simp] theorem dSum_i {ns : List Int} : dSum (.lst (ns.map D.int)) = some (.int ns.sum) := by unfold dSum; simp [intsD_map]
theorem cIn_ints {ns : List Int} : cIn (.int i) (.lst (ns.map D.int)) = some (decide (i ∈ ns)) := by
  unfold cIn
  simp [flD, flDs_ints, inV_ints]
end
section
variable {α β : Type} {f : D → Option D} {xs : List D}
theorem mapO_of {l : List α} {e : α → D} {g : α → D} (h : ∀ a ∈ l, f (e a) = some (g a)) : mapO f (l.map e) = some (l.map g) := by
  induction l with
  | nil => rfl
  | cons a l ih =>
    rw [List.map_cons, mapO_cons, h a List.mem_cons_self, Option.bind_some, ih fun b hb => h b (List.mem_cons_of_mem _ hb)]
    rfl
theorem filtO_of {f : D → Option (Option D)} {l : List α} {e g : α → D} {t : α → Bool} (h : ∀ a ∈ l, f (e a) = some (if t a = true then some (g a) else none)) : filtO f (l.map e) = some ((l.filter t).map g) := by
  induction l with
  | nil => rfl
  | cons a l ih =>
    rw [List.map_cons, filtO, h a List.mem_cons_self, Option.bind_some, ih fun b hb => h b (List.mem_cons_of_mem _ hb), List.filter_cons]
    cases t a <;> rfl
/-- a search: the first that gives something -/
theorem loopC_first {R : Type} {f : Unit → D → Option (Ctl Unit R)} {l : List α} {e : α → D} {g : α → Option R} (h : ∀ a ∈ l, f () (e a) = some (match g a with | some r => .ret r | none => .go ())) : loopC f () (l.map e) = some (match l.findSome? g with | some r => .ret r | none => .go ()) := by
  induction l with
  | nil => rfl
  | cons a l ih =>
    rw [List.map_cons, loopC, h a List.mem_cons_self, Option.bind_some, List.findSome?_cons]
    cases g a with
    | some r => rfl
    | none => exact ih fun b hb => h b (List.mem_cons_of_mem _ hb)
theorem Gives.mk {y : α} {Q : α → Prop} (h : Q y) : Gives (some y) Q := ⟨y, rfl, h⟩
theorem gives_mapS {S : Type} {f : S → D → Option (D × S)} {xs : List D} {s : S} (I : Nat → List D → S → Prop) (h0 : I 0 [] s) (h : ∀ i x acc s, xs[i]? = some x → I i acc s → Gives (f s x) fun q => I (i + 1) (acc ++ [q.1]) q.2) : Gives (mapS f s xs) fun q => I xs.length q.1 q.2 := by
  have main : ∀ (xs : List D) (s : S) (k : Nat) (acc : List D), I k acc s → (∀ i x acc s, xs[i]? = some x → I (k + i) acc s → Gives (f s x) fun q => I (k + i + 1) (acc ++ [q.1]) q.2) → Gives (mapS f s xs) fun q => I (k + xs.length) (acc ++ q.1) q.2 := by
    intro xs
    induction xs with
    | nil => intro s k acc h0 _; exact ⟨_, rfl, by simpa using h0⟩
    | cons x xs ih =>
      intro s k acc h0 h
      obtain ⟨q, e1, h1⟩ := h 0 x acc s rfl h0
      obtain ⟨q2, e2, h2⟩ := ih q.2 (k + 1) (acc ++ [q.1]) h1 fun i y acc2 s2 hy hI => by
        have := h (i + 1) y acc2 s2 (by simpa using hy) (by rw [show k + (i + 1) = k + 1 + i by omega]; exact hI)
        rw [show k + (i + 1) + 1 = k + 1 + i + 1 by omega] at this
        exact this
      refine ⟨(q.1 :: q2.1, q2.2), by rw [mapS, e1, Option.bind_some, e2]; rfl, ?_⟩
      rw [List.length_cons, show k + (xs.length + 1) = k + 1 + xs.length by omega]
      simpa using h2
  obtain ⟨q, e, h1⟩ := main xs s 0 [] h0 fun i x acc s hx hI => by
    rw [Nat.zero_add] at hI ⊢
    exact h i x acc s hx hI
  exact ⟨q, e, by simpa using h1⟩
end
end DX
namespace My
open PySem PySem.Spec L2 DX SX
noncomputable section
def F_Ltap (x0 : D) : Option (List D) :=
  (dEnd (D.int 63)).bind fun i1 => (dCut x0 none (some i1)).bind fun v2 => (lList v2).bind fun l3 => some [(D.lst l3), (D.int 0), (D.int 0)]
def F_Lnext (x0 : List D) (x1 : D) : Option (D × List D) :=
  (dIx (D.lst x0) (D.int 2)).bind fun v2 => (cGt v2 (D.int 0)).bind fun t3 => if t3 = true then (dIx (D.lst x0) (D.int 2)).bind fun v4 => (dMod v4 x1).bind fun v5 => (dIx (D.lst x0) (D.int 2)).bind fun v6 => (dFdiv v6 x1).bind fun v7 => (lSet x0 (D.int 2) v7).bind fun l8 => some (v5, l8) else (dIx (D.lst x0) (D.int 1)).bind fun v9 => (dAdd v9 (D.int 1)).bind fun v10 => (lSet x0 (D.int 1) v10).bind fun l11 => (dMul (D.int 33071) v9).bind fun v12 => (dAdd v12 (D.int 419)).bind fun v13 => ((dIx (D.lst l11) (D.int 0)).bind fun v16 => (cNe v16 (D.lst [])).bind fun t17 => if t17 = true then (dIx (D.lst l11) (D.int 0)).bind fun v18 => (dIx (D.lst l11) (D.int 0)).bind fun v19 => (dLen v19).bind fun v20 => (dMod v9 v20).bind fun v21 => (dIx v18 v21).bind fun v22 => some v22 else some v13).bind fun (r15 : D) => ((dIx (D.lst l11) (D.int 0)).bind fun v25 => (dLen v25).bind fun v26 => (cLt v9 v26).bind fun t27 => if t27 = true then (dAbs r15).bind fun v28 => (dPow (D.int 10) (D.int 18)).bind fun v29 => (cGe v28 v29).bind fun t30 => some t30 else some false).bind fun t31 => if t31 = true then (dAbs r15).bind fun v32 => (dMul (D.int 2) v32).bind fun v33 => (cLt r15 (D.int 0)).bind fun t34 => (dInt (D.bl t34)).bind fun v35 => (dAdd v33 v35).bind fun v36 => (dFdiv v36 x1).bind fun v37 => (lSet l11 (D.int 2) v37).bind fun l38 => (dMod v36 x1).bind fun v39 => some (v39, l38) else (dMod r15 (D.int 2147483579)).bind fun v40 => (dMul (D.int 45127) v9).bind fun v41 => (dAdd v40 v41).bind fun v42 => (dAdd v42 (D.int 67)).bind fun v43 => (dPow v43 (D.int 5)).bind fun v44 => (dMod v44 (D.int 2147483647)).bind fun v45 => (dMul (D.int 2) v9).bind fun v46 => (dAdd v46 (D.int 71)).bind fun v47 => (dMul v45 v47).bind fun v48 => (dMul (D.int 90017) v9).bind fun v49 => (dMul v49 v9).bind fun v50 => (dAdd v48 v50).bind fun v51 => (dAdd v51 (D.int 3)).bind fun v52 => (dPow v52 (D.int 3)).bind fun v53 => (dMod v53 (D.int 2147483587)).bind fun v54 => (dFdiv v54 (D.int 32)).bind fun v55 => (dMod v55 x1).bind fun v56 => some (v56, l11)
def F_output_positions (x0 : D) (x1 : D) : Option (D) :=
  (dInt x1).bind fun v1 => (dAdd x0 (D.int 1)).bind fun v2 => (dRange [v1, v2]).bind fun l3 => some (D.tup l3)
def F_halvings (x0 : D) : Option (D) :=
  (whileO (fun (s1 : D) => (dShl (D.int 1) s1).bind fun v3 => (cLt v3 x0).bind fun t4 => some t4) (fun (s1 : D) => (iOp (· + ·) s1 (D.int 1)).bind fun v5 => some v5) 100000 (D.int 0)).bind fun (r2 : D) => some r2
def F_most_trials (x0 : D) (x1 : D) : Option (D) :=
  (F_output_positions x0 x1).bind fun v1 => (dLen v1).bind fun v2 => (F_halvings v2).bind fun v3 => ((dAdd v2 (D.int 1)).bind fun v4 => some ((D.int 2), v4)).bind fun v5 => (dRange [v5.1, v5.2]).bind fun l6 => (chk (l6.length ≤ 1000000) ()).bind fun _ => (mapO (fun x8 => (F_halvings x8).bind fun v13 => some v13) l6).bind fun y9 => (dSum (D.lst y9)).bind fun v14 => (dAdd v3 v14).bind fun v15 => some v15
def F_Lhidden (x0 : List D) (x1 : D) (x2 : D) : Option (D × List D) :=
  (dAdd x1 (D.int 1)).bind fun v1 => (dRange [x2, v1]).bind fun l2 => (F_Lnext x0 (D.int 4)).bind fun v4 => (cEq v4.1 (D.int 0)).bind fun t6 => if t6 = true then ((dLen (D.lst l2)).bind fun v8 => (F_Lnext v4.2 v8).bind fun v9 => (dEnd v9.1).bind fun i10 => (dCut (D.lst l2) (some i10) none).bind fun v11 => some (v11, v9.2)).bind fun v12 => (dRev v12.1).bind fun v7 => (lList v7).bind fun l13 => some ((D.tup l13), v12.2) else (dLen (D.lst l2)).bind fun v14 => (F_Lnext v4.2 v14).bind fun v15 => (dAdd (D.int 1) v15.1).bind fun v16 => (dLen (D.lst l2)).bind fun v17 => (dSub v4.1 (D.int 1)).bind fun v18 => (dIx (D.lst [(D.int 1), v16, v17]) v18).bind fun v19 => (dRange [v19]).bind fun l20 => (chk (l20.length ≤ 1000000) ()).bind fun _ => (mapS (fun s21 x22 => (dLen (D.lst s21.1)).bind fun v27 => (F_Lnext s21.2 v27).bind fun v28 => (lPopAt s21.1 v28.1).bind fun v29 => some (v29.1, v29.2, v28.2)) (l2, v15.2) l20).bind fun y23 => ((cIn (D.int 0) (D.lst y23.1)).bind fun t30 => if t30 = true then (lstD (D.lst y23.1)).bind fun s31 => (dLidx (D.lst s31) (D.int 0)).bind fun v32 => (dAdd v32 (D.int 1)).bind fun v33 => (dEnd v33).bind fun i34 => (dCut (D.lst y23.1) none (some i34)).bind fun v35 => some v35 else some (D.lst y23.1)).bind fun v37 => (lList v37).bind fun l38 => some ((D.tup l38), y23.2.2)
def F_is_between (x0 : D) (x1 : D) (x2 : D) : Option (D) :=
  ((dIsi "int" x0).bind fun t2 => (dTru (D.bl t2)).bind fun t3 => if t3 = true then (dIsi "bool" x0).bind fun t5 => (dTru (D.bl t5)).bind fun t6 => (dTru (D.bl (!t6))).bind fun t7 => if t7 = true then (cLe x1 x0).bind fun t9 => if t9 = true then (cLe x0 x2).bind fun t10 => some (D.bl t10) else some (D.bl false) else some (D.bl (!t6)) else some (D.bl t2)).bind fun v11 => some v11
def F_first_ones (x0 : D) : Option (D) :=
  (dIter x0).bind fun l2 => (loopC (fun (s3 : List D) x5 => ((cNe (D.lst s3) (D.lst [])).bind fun t10 => if t10 = true then (dIx (D.lst s3) (D.int (-1))).bind fun v11 => (cEq v11 (D.int 0)).bind fun t12 => some t12 else some false).bind fun t13 => if t13 = true then some (.brk s3) else ((cNin x5 (D.lst s3)).bind fun t16 => if t16 = true then (chk (s3.length < 1000000) ()).bind fun _ => some (s3 ++ [x5]) else some s3).bind fun (r15 : List D) => some (.go r15)) [] l2).bind fun c6 => ctl c6 (fun (r4 : List D) => (lList (D.lst r4)).bind fun l18 => some (D.tup l18)) (fun v => some v)
def F_Order___init__ (Z : Str → Addr) (x1 : D) : Option (Except Er (List (Str × D))) :=
  (dEnum x1).bind fun l1 => (loopC (fun (s2 : Unit) x4 => (un2 x4).bind fun p7 => (mthC (Z "Order") "GREATEST" (D.ins (Z "Order") ([] : List (Str × D)))).bind fun g9 => (F_is_between p7.2 (D.int 0) (D.int 24)).bind fun v10 => (dTru v10).bind fun t11 => if (!t11) = true then some (.ret (.error (Z "InvalidPosition", [("index", p7.1)]))) else some (.go ())) () l1).bind fun c5 => ctl c5 (fun (r3 : Unit) => (F_first_ones x1).bind fun v12 => (chk (([] : List (Str × D)).length < 1000) ()).bind fun _ => some (.ok (putG "entries" v12 ([] : List (Str × D))))) (fun v => some v)
def F_Order___add__ (Z : Str → Addr) (x0 : D) (x1 : D) : Option (D) :=
  (isC (Z "Order") x0).bind fun g1 => ((g1 : List (Str × D)).lookup ("entries" : Str)).bind fun z2 => (itemsD z2).bind fun l3 => (isC (Z "Order") x1).bind fun g4 => ((g4 : List (Str × D)).lookup ("entries" : Str)).bind fun z5 => (itemsD z5).bind fun l6 => (chk (((l3 ++ (l6 ++ []))).length ≤ 1000000) ()).bind fun _ => (F_Order___init__ Z (D.tup (l3 ++ (l6 ++ [])))).bind fun r11 => exC r11 (fun e10 => none) (fun v8 => some (D.ins (Z "Order") v8))
def F_need_size (Z : Str → Addr) (x0 : D) (x1 : D) : Option (Except Er D) :=
  (dInt x1).bind fun v2 => (dAdd (D.int 1) v2).bind fun v3 => (F_is_between x0 v3 (D.int 24)).bind fun v4 => (dTru v4).bind fun t5 => if (!t5) = true then some (.error (Z "InvalidSize", [("value", x0)])) else some (.ok D.non)
def F_candidates_behind (x0 : D) (x1 : D) (x2 : D) : Option (D) :=
  ((cNe x2 (D.tup [])).bind fun t3 => if t3 = true then (dIx x2 (D.int (-1))).bind fun v4 => (cEq v4 (D.int 0)).bind fun t5 => some t5 else some false).bind fun t6 => if t6 = true then some (D.tup []) else ((F_output_positions x0 x1).bind fun v7 => some v7).bind fun v8 => (dIter v8).bind fun l9 => (chk (l9.length ≤ 1000000) ()).bind fun _ => (filtO (fun x11 => (cNin x11 x2).bind fun t16 => if t16 = true then some (some x11) else some none) l9).bind fun y12 => (lList (D.lst y12)).bind fun l18 => ((cEq x2 (D.tup [])).bind fun t19 => if t19 = true then some (D.tup l18) else (itemsD (D.tup l18)).bind fun l20 => (chk (((l20 ++ ((D.str "end") :: []))).length ≤ 1000000) ()).bind fun _ => some (D.tup (l20 ++ ((D.str "end") :: [])))).bind fun v23 => some v23
def F_Finder___init__ (Z : Str → Addr) (x1 : D) (x2 : D) : Option (Except Er (List (Str × D) × List D × List D)) :=
  (F_need_size Z x1 x2).bind fun r3 => exC r3 (fun e2 => some (.error e2)) (fun v1 => (chk (([] : List (Str × D)).length < 1000) ()).bind fun _ => (chk ((putG "bits" x1 ([] : List (Str × D))).length < 1000) ()).bind fun _ => (F_candidates_behind x1 x2 (D.tup [])).bind fun v7 => some (.ok ((putG "for_ring" x2 (putG "bits" x1 ([] : List (Str × D)))), [], [(D.tup [(D.tup []), v7])])))
def F_Finder_candidates (Z : Str → Addr) (x0 : D) : Option (D) :=
  (isC (Z "Finder") x0).bind fun g1 => ((g1 : List (Str × D)).lookup ("stages" : Str)).bind fun z2 => (dIx z2 (D.int (-1))).bind fun v3 => (dIx v3 (D.int 1)).bind fun v4 => some v4
def F_Finder_is_finished (Z : Str → Addr) (x0 : D) : Option (D) :=
  (isC (Z "Finder") x0).bind fun g1 => (F_Finder_candidates Z x0).bind fun v2 => (cEq v2 (D.tup [])).bind fun t3 => some (D.bl t3)
def F_settled_stage (x0 : D) (x1 : D) (x2 : D) (x3 : D) : Option (D) :=
  (whileC (fun (s1 : D × D) => (dLen s1.2).bind fun v5 => (cEq v5 (D.int 1)).bind fun t6 => some t6) (fun (s1 : D × D) => (dIx s1.2 (D.int 0)).bind fun v8 => (cEq v8 (D.str "end")).bind fun t9 => if t9 = true then some (.ret (D.tup [s1.1, (D.tup [])])) else (itemsD s1.1).bind fun l10 => (dIx s1.2 (D.int 0)).bind fun v11 => (chk (((l10 ++ (v11 :: []))).length ≤ 1000000) ()).bind fun _ => (F_candidates_behind x0 x1 (D.tup (l10 ++ (v11 :: [])))).bind fun v13 => some (.go ((D.tup (l10 ++ (v11 :: []))), v13))) 100000 (x2, x3)).bind fun c3 => ctl c3 (fun (r2 : D × D) => some (D.tup [r2.1, r2.2])) (fun v => some v)
def F_Finder_tell (Z : Str → Addr) (x0 : List (Str × D)) (x1 : D) (y1 : List D) (y2 : List D) : Option (D × List (Str × D) × List D × List D) :=
  (isC (Z "Finder") (D.ins (Z "Finder") (x0 ++ [(("carries_told" : Str), D.lst y1), (("stages" : Str), D.lst y2)]))).bind fun g2 => (F_Finder_is_finished Z (D.ins (Z "Finder") (x0 ++ [(("carries_told" : Str), D.lst y1), (("stages" : Str), D.lst y2)]))).bind fun v3 => (dTru v3).bind fun t4 => if t4 = true then none else (F_is_between x1 (D.int 0) (D.int 1)).bind fun v6 => (dTru v6).bind fun t7 => if (!t7) = true then none else (isC (Z "Finder") (D.ins (Z "Finder") (x0 ++ [(("carries_told" : Str), D.lst y1), (("stages" : Str), D.lst y2)]))).bind fun g8 => ((g8 : List (Str × D)).lookup ("stages" : Str)).bind fun z9 => (dIx z9 (D.int (-1))).bind fun v10 => (chk (lfN [Z "Finder"] v10 = true) ()).bind fun _ => (un2 v10).bind fun p11 => (dLen p11.2).bind fun v12 => (dFdiv v12 (D.int 2)).bind fun v13 => ((cEq x1 (D.int 1)).bind fun t14 => if t14 = true then (dEnd v13).bind fun i15 => (dCut p11.2 none (some i15)).bind fun v16 => some v16 else (dEnd v13).bind fun i17 => (dCut p11.2 (some i17) none).bind fun v18 => some v18).bind fun v20 => (chk ((x0 : List (Str × D)).lookup ("stages" : Str) = none) ()).bind fun _ => (isC (Z "Finder") (D.ins (Z "Finder") (x0 ++ [(("carries_told" : Str), D.lst y1), (("stages" : Str), D.lst y2)]))).bind fun g22 => ((g22 : List (Str × D)).lookup ("bits" : Str)).bind fun z23 => (isC (Z "Finder") (D.ins (Z "Finder") (x0 ++ [(("carries_told" : Str), D.lst y1), (("stages" : Str), D.lst y2)]))).bind fun g24 => ((g24 : List (Str × D)).lookup ("for_ring" : Str)).bind fun z25 => (F_settled_stage z23 z25 p11.1 v20).bind fun v26 => (chk (lfN [Z "Finder"] v26 = true) ()).bind fun _ => (chk (y2.length < 1000000) ()).bind fun _ => (chk ((x0 : List (Str × D)).lookup ("carries_told" : Str) = none) ()).bind fun _ => (chk (y1.length < 1000000) ()).bind fun _ => some (D.non, x0, (y1 ++ [x1]), (y2 ++ [v26]))
def F_trial_with (x0 : D) (x1 : D) (x2 : List D) : Option (D) :=
  (kvsD x2).bind fun k1 => (strD (D.str "")).bind fun s2 => (dRange [x0, (D.int 0), (D.int (-1))]).bind fun l3 => (chk (l3.length ≤ 1000000) ()).bind fun _ => (mapO (fun x5 => (dctD (D.dct (mergeD [] k1))).bind fun k10 => (keyD x5).bind fun k11 => some ((valD k10 k11).getD (D.str "P"))) l3).bind fun y6 => (dJoinS s2 (D.lst y6)).bind fun v12 => (dAdd v12 x1).bind fun v13 => some v13
def F_next_trial (x0 : D) (x1 : D) (x2 : D) : Option (D) :=
  (dLen x2).bind fun v1 => (dFdiv v1 (D.int 2)).bind fun v2 => ((dTru x1).bind fun t3 => if t3 = true then some (D.str "P") else some (D.str "K")).bind fun v5 => (dEnum x2).bind fun l7 => (foldO (fun (s8 : D × List D) x10 => (un2 x10).bind fun p13 => ((cLt p13.1 v2).bind fun t14 => if t14 = true then some (D.str "G") else some (D.str "K")).bind fun v16 => ((cEq p13.2 (D.int 0)).bind fun t19 => if t19 = true then some (v16, s8.2) else (cNe p13.2 (D.str "end")).bind fun t21 => if t21 = true then (chk (s8.2.length < 1000000) ()).bind fun _ => some (s8.1, (s8.2 ++ [(D.tup [p13.2, v16])])) else some (s8.1, s8.2)).bind fun (r18 : D × List D) => some (r18.1, r18.2)) (v5, []) l7).bind fun (r9 : D × List D) => (itemsD (D.lst r9.2)).bind fun l23 => (chk (((l23 ++ [])).length ≤ 1000000) ()).bind fun _ => (F_trial_with x0 r9.1 (l23 ++ [])).bind fun v25 => some v25
def F_Finder_trial (Z : Str → Addr) (x0 : D) : Option (D) :=
  ((isC (Z "Finder") x0).bind fun g1 => (F_Finder_is_finished Z x0).bind fun v2 => (dTru v2).bind fun t3 => if t3 = true then some D.non else (isC (Z "Finder") x0).bind fun g4 => ((g4 : List (Str × D)).lookup ("bits" : Str)).bind fun z5 => (isC (Z "Finder") x0).bind fun g6 => ((g6 : List (Str × D)).lookup ("for_ring" : Str)).bind fun z7 => (isC (Z "Finder") x0).bind fun g8 => (F_Finder_candidates Z x0).bind fun v9 => (F_next_trial z5 z7 v9).bind fun v10 => some v10).bind fun v12 => some v12
def F_Finder_known (Z : Str → Addr) (x0 : D) : Option (D) :=
  (isC (Z "Finder") x0).bind fun g1 => ((g1 : List (Str × D)).lookup ("stages" : Str)).bind fun z2 => (dIx z2 (D.int (-1))).bind fun v3 => (un2 v3).bind fun p4 => (itemsD p4.1).bind fun l5 => (chk ((l5).length ≤ 1000000) ()).bind fun _ => (F_Order___init__ Z (D.tup l5)).bind fun r10 => exC r10 (fun e9 => none) (fun v7 => some (D.ins (Z "Order") v7))
def F_Finder_order (Z : Str → Addr) (x0 : D) : Option (Except Er D) :=
  (isC (Z "Finder") x0).bind fun g2 => (F_Finder_is_finished Z x0).bind fun v3 => (dTru v3).bind fun t4 => if (!t4) = true then some (.error (Z "NotFinished", [])) else (isC (Z "Finder") x0).bind fun g5 => (F_Finder_known Z x0).bind fun v6 => some (.ok v6)
def F_found_order (Z : Str → Addr) {S : Type} (x0 : D) (x1 : D → S → Option (D × S)) (x2 : D) (s0 : S) : Option (D × S) :=
  (F_Finder___init__ Z x0 x2).bind fun r4 => exC r4 (fun e3 => none) (fun v1 => (whileO (fun (s7 : S × List (Str × D) × List D × List D) => (isC (Z "Finder") (D.ins (Z "Finder") (s7.2.1 ++ [(("carries_told" : Str), D.lst s7.2.2.1), (("stages" : Str), D.lst s7.2.2.2)]))).bind fun g9 => (F_Finder_is_finished Z (D.ins (Z "Finder") (s7.2.1 ++ [(("carries_told" : Str), D.lst s7.2.2.1), (("stages" : Str), D.lst s7.2.2.2)]))).bind fun v10 => (dTru v10).bind fun t11 => some (!t11)) (fun (s7 : S × List (Str × D) × List D × List D) => (chk ((s7.2.1 : List (Str × D)).lookup ("tell" : Str) = none) ()).bind fun _ => (isC (Z "Finder") (D.ins (Z "Finder") (s7.2.1 ++ [(("carries_told" : Str), D.lst s7.2.2.1), (("stages" : Str), D.lst s7.2.2.2)]))).bind fun g13 => (F_Finder_trial Z (D.ins (Z "Finder") (s7.2.1 ++ [(("carries_told" : Str), D.lst s7.2.2.1), (("stages" : Str), D.lst s7.2.2.2)]))).bind fun v14 => (chk (lfN [Z "Finder"] v14 = true) ()).bind fun _ => (x1 v14 s7.1).bind fun v15 => (F_Finder_tell Z s7.2.1 v15.1 s7.2.2.1 s7.2.2.2).bind fun v16 => some (v15.2, v16.2.1, v16.2.2.1, v16.2.2.2)) 100000 (s0, v1.1, v1.2.1, v1.2.2)).bind fun (r8 : S × List (Str × D) × List D × List D) => (mthC (Z "Finder") "order" (D.ins (Z "Finder") (r8.2.1 ++ [(("carries_told" : Str), D.lst r8.2.2.1), (("stages" : Str), D.lst r8.2.2.2)]))).bind fun g18 => (F_Finder_order Z (D.ins (Z "Finder") (r8.2.1 ++ [(("carries_told" : Str), D.lst r8.2.2.1), (("stages" : Str), D.lst r8.2.2.2)]))).bind fun r21 => exC r21 (fun e20 => none) (fun v19 => (chk (lfN [Z "Finder"] v19 = true) ()).bind fun _ => some (v19, r8.1)))
def F_state_at (x0 : D) (x1 : D) : Option (D) :=
  (dLen x0).bind fun v1 => (dSub v1 (D.int 1)).bind fun v2 => (dSub v2 x1).bind fun v3 => (dIx x0 v3).bind fun v4 => some v4
def F_first_state (x0 : D) (x1 : D) : Option (D) :=
  (dIter x1).bind fun l1 => (loopC (fun (s2 : Unit) x4 => (F_state_at x0 x4).bind fun v8 => (cNe v8 (D.str "P")).bind fun t9 => if t9 = true then (F_state_at x0 x4).bind fun v10 => some (.ret v10) else some (.go ())) () l1).bind fun c5 => ctl c5 (fun (r3 : Unit) => some (D.str "P")) (fun v => some v)
def F_Order___call__ (Z : Str → Addr) (x0 : D) (x1 : D) : Option (D) :=
  (isC (Z "Order") x0).bind fun g1 => ((g1 : List (Str × D)).lookup ("entries" : Str)).bind fun z2 => (F_first_state x1 z2).bind fun v3 => some v3
def F_Lnoted (Z : Str → Addr) (x0 : List D) (x1 : D) (x2 : D) : Option (D × List D) :=
  (chk (x0.length < 1000000) ()).bind fun _ => (isC (Z "Order") x1).bind fun g2 => (F_Order___call__ Z x1 x2).bind fun v3 => (cEq v3 (D.str "G")).bind fun t4 => (dInt (D.bl t4)).bind fun v5 => some (v5, (x0 ++ [x2]))
def F_Order___eq__ (Z : Str → Addr) (x0 : D) (x1 : D) : Option (D) :=
  ((isiC (Z "Order") x1).bind fun t2 => (dTru (D.bl t2)).bind fun t3 => if t3 = true then (isC (Z "Order") x0).bind fun g4 => ((g4 : List (Str × D)).lookup ("entries" : Str)).bind fun z5 => (isC (Z "Order") x1).bind fun g6 => ((g6 : List (Str × D)).lookup ("entries" : Str)).bind fun z7 => (cEq z5 z7).bind fun t8 => some (D.bl t8) else some (D.bl t2)).bind fun v9 => some v9
def F_Order_positions (Z : Str → Addr) (x0 : D) : Option (D) :=
  (isC (Z "Order") x0).bind fun g1 => ((g1 : List (Str × D)).lookup ("entries" : Str)).bind fun z2 => some z2
def F_Ltrials (Z : Str → Addr) (x0 : D) (x1 : D) (x2 : D) : Option (D) :=
  (dIx x2 (D.int 0)).bind fun v2 => (F_Order___init__ Z (D.tup [v2])).bind fun r6 => exC r6 (fun e5 => none) (fun v3 => ((dEnd (D.int 1)).bind fun i7 => (dCut x2 (some i7) none).bind fun v8 => some v8).bind fun v9 => (dIter v9).bind fun l10 => (foldO (fun (s11 : D) x13 => (F_Order___init__ Z (D.tup [x13])).bind fun r19 => exC r19 (fun e18 => none) (fun v16 => (isC (Z "Order") s11).bind fun g20 => (isC (Z "Order") (D.ins (Z "Order") v16)).bind fun g21 => (F_Order___add__ Z s11 (D.ins (Z "Order") v16)).bind fun v22 => (insA v22).bind fun i23 => some v22)) (D.ins (Z "Order") v3) l10).bind fun (r12 : D) => ((cEq x1 (D.int 1)).bind fun t26 => if t26 = true then (F_found_order Z x0 (fun (d_l1 : D) (s_l1 : List D) => (F_Lnoted Z s_l1 r12 d_l1).bind fun v27 => some (v27.1, v27.2)) (D.bl true) []).bind fun r29 => some (r29.1, r29.2) else (F_found_order Z x0 (fun (d_l2 : D) (s_l2 : List D) => (F_Lnoted Z s_l2 r12 d_l2).bind fun v30 => some (v30.1, v30.2)) (D.bl false) []).bind fun r32 => some (r32.1, r32.2)).bind fun (r25 : D × List D) => (((isC (Z "Order") r25.1).bind fun g34 => (othD ((["Order"] : List PySem.Str).map Z) r12).bind fun o35 => (F_Order___eq__ Z r25.1 r12).bind fun v36 => (blD v36).bind fun t37 => if t37 = true then (isC (Z "Order") r25.1).bind fun g38 => (F_Order_positions Z r25.1).bind fun v39 => (cEq v39 x2).bind fun t40 => some t40 else some false).bind fun t41 => if t41 = true then some (D.lst r25.2) else some D.non).bind fun v43 => some v43)
def F_Lsum (x0 : D) (x1 : D) : Option (D) :=
  ((dAdd x0 (D.int 1)).bind fun v1 => (dSub v1 x1).bind fun v2 => (dAdd x0 (D.int 2)).bind fun v3 => (dSub v3 x1).bind fun v4 => (dRange [(D.int 2), v4]).bind fun l5 => (dAdd (D.lst [v2]) (D.lst l5)).bind fun v6 => some v6).bind fun v7 => (dIter v7).bind fun l8 => (foldO (fun (s9 : D) x11 => (whileO (fun (s14 : D × D) => (cLt s14.1 x11).bind fun t16 => some t16) (fun (s14 : D × D) => (dMul (D.int 2) s14.1).bind fun v17 => (dAdd s14.2 (D.int 1)).bind fun v18 => some (v17, v18)) 100000 ((D.int 1), s9)).bind fun (r15 : D × D) => some r15.2) (D.int 0) l8).bind fun (r10 : D) => some r10
def F_Lall (x0 : D) (x1 : D) : Option (D) :=
  ((dAdd x0 (D.int 1)).bind fun v1 => some (x1, v1)).bind fun v2 => (dRange [v2.1, v2.2]).bind fun l3 => (chk (l3.length ≤ 1000000) ()).bind fun _ => (mapO (fun x5 => some (D.tup [x5])) l3).bind fun y6 => (whileO (fun (s10 : D × D) => (cNe s10.2 (D.lst [])).bind fun t12 => some t12) (fun (s10 : D × D) => (dAdd s10.1 s10.2).bind fun v13 => (dIter s10.2).bind fun l14 => (foldO (fun (s15 : D) x17 => ((dAdd x0 (D.int 1)).bind fun v20 => some (x1, v20)).bind fun v21 => (dRange [v21.1, v21.2]).bind fun l22 => (chk (l22.length ≤ 1000000) ()).bind fun _ => (filtO (fun x24 => (cNin x24 x17).bind fun t29 => if t29 = true then some (some x24) else some none) l22).bind fun y25 => (dIter (D.lst y25)).bind fun l31 => (chk (l31.length ≤ 1000000) ()).bind fun _ => (filtO (fun x33 => (dIx x17 (D.int (-1))).bind fun v38 => (cNe v38 (D.int 0)).bind fun t39 => if t39 = true then (dAdd x17 (D.tup [x33])).bind fun v40 => some (some v40) else some none) l31).bind fun y34 => (dAdd s15 (D.lst y34)).bind fun v42 => some v42) (D.lst []) l14).bind fun (r16 : D) => some (v13, r16)) 100000 ((D.lst []), (D.lst y6))).bind fun (r11 : D × D) => some r11.1
def F_Lsmall_right (Z : Str → Addr) (x0 : D) (x1 : D) : Option (D) :=
  ((F_Lall x0 x1).bind fun v1 => some v1).bind fun v2 => (dIter v2).bind fun l3 => (chk (l3.length ≤ 1000000) ()).bind fun _ => (mapO (fun x5 => (F_Ltrials Z x0 x1 x5).bind fun v10 => some v10) l3).bind fun y6 => (cInG D.non (D.lst y6)).bind fun t12 => if t12 = true then some (D.bl false) else (dIter (D.lst y6)).bind fun l13 => (chk (l13.length ≤ 1000000) ()).bind fun _ => (mapO (fun x15 => (dLen x15).bind fun v20 => some v20) l13).bind fun y16 => (dMax (D.lst y16)).bind fun v21 => (cEq x1 (D.int 1)).bind fun t22 => (F_most_trials x0 (D.bl t22)).bind fun v23 => (cEq v21 v23).bind fun t24 => some (D.bl t24)
def F_law (Z : Str → Addr) (x0 : D) : Option (D) :=
  (F_Ltap x0).bind fun v1 => (dRange [(D.int 4)]).bind fun l3 => (loopC (fun (s4 : List D) x6 => (F_Lnext s4 (D.int 2)).bind fun v9 => (dAdd (D.int 1) v9.1).bind fun v10 => (dAdd (D.int 1) v9.1).bind fun v11 => (dSub (D.int 24) v9.1).bind fun v12 => (F_Lnext v9.2 v12).bind fun v13 => (dAdd v11 v13.1).bind fun v14 => (F_Lnext v13.2 (D.int 5)).bind fun v15 => (dIx (D.lst [v10, (D.int 2), (D.int 3), (D.int 24), v14]) v15.1).bind fun v16 => (cEq v9.1 (D.int 1)).bind fun t17 => (F_most_trials v16 (D.bl t17)).bind fun v18 => ((dReprR v18).bind fun v21 => (F_Lsum v16 v9.1).bind fun v22 => (dReprR v22).bind fun v23 => (cNe v21 v23).bind fun t24 => if t24 = true then some true else (cEq v9.1 (D.int 1)).bind fun t25 => (F_most_trials v16 (D.bl t25)).bind fun v26 => (dReprR v26).bind fun v27 => (dReprR v18).bind fun v28 => (cNe v27 v28).bind fun t29 => some t29).bind fun t30 => if t30 = true then some (.ret (D.bl false)) else ((dSub v9.1 (D.int 1)).bind fun v33 => (dRange [v16, v33, (D.int (-1))]).bind fun l34 => (F_Ltrials Z v16 v9.1 (D.tup l34)).bind fun v35 => (dTru v35).bind fun t36 => if t36 = true then some v35 else some (D.lst [])).bind fun v37 => (dLen v37).bind fun v38 => (cNe v38 v18).bind fun t39 => if t39 = true then some (.ret (D.bl false)) else (F_Lhidden v15.2 v16 v9.1).bind fun v40 => (F_Ltrials Z v16 v9.1 v40.1).bind fun v41 => ((cIs v41 D.non).bind fun t44 => if t44 = true then some true else (dLen v41).bind fun v45 => (cGt v45 v18).bind fun t46 => some t46).bind fun t47 => if t47 = true then some (.ret (D.bl false)) else some (.go v40.2)) v1 l3).bind fun c7 => ctl c7 (fun (r5 : List D) => (F_Lnext r5 (D.int 2)).bind fun v48 => (dAdd (D.int 1) v48.1).bind fun v49 => (dSub (D.int 3) v48.1).bind fun v50 => (F_Lnext v48.2 v50).bind fun v51 => (dAdd v49 v51.1).bind fun v52 => ((F_Lsmall_right Z v52 v48.1).bind fun v54 => (dTru v54).bind fun t55 => if t55 = true then (F_most_trials (D.int 2) (D.bl false)).bind fun v57 => (cEq v57 (D.int 5)).bind fun t58 => (dTru (D.bl t58)).bind fun t59 => if t59 = true then (F_most_trials (D.int 24) (D.bl false)).bind fun v60 => (cEq v60 (D.int 99)).bind fun t61 => some (D.bl t61) else some (D.bl t58) else some v54).bind fun v62 => some v62) (fun v => some v)
end
end My
namespace My
open PySem PySem.Spec L2 DX SX PyProof.Rows StX LamX
theorem ob_eq (s : PySem.W.SharedT) : ob s = hk.obs s.abs := DX.lookT_eq (HandSHeadRun.getT_eq s)
end My
namespace My
open PySem PySem.Spec L2 DX SX
def penL (s : Hs) : List D := [.lst (s.cells.map D.int), .int s.at_, .int s.gr]
theorem ixN_of {n : Nat} {i : Int} (h0 : 0 ≤ i) (h1 : i < n) : ixN n i = some i.toNat := by unfold ixN; rw [if_pos h0, if_pos h1]
theorem atI_of_get {α : Type} {l : List α} {i : Int} {x : α} (h0 : 0 ≤ i) (h : l[i.toNat]? = some x) : atI l i = some x := by
  have : i.toNat < l.length := by
    by_cases q : i.toNat < l.length
    · exact q
    · rw [List.getElem?_eq_none (by omega)] at h; cases h
  unfold atI
  rw [ixN_of h0 (by omega)]
  exact h
theorem nilB_ints {ns : List Int} : cEq (.lst (ns.map D.int)) (.lst []) = some ns.isEmpty := by
  have : sc (.lst (ns.map D.int)) (.lst []) = false := rfl
  unfold cEq
  rw [this]
  simp only [Bool.false_eq_true, if_false]
  rw [show nilB (.lst (ns.map D.int)) (.lst []) = true from intsB_map ns]
  cases ns <;> rfl
theorem cmul_small {i j : Int} (h : -(2 ^ 63) ≤ i ∧ i ≤ 2 ^ 63) : CMul i j := .inl ⟨by omega, by omega⟩
theorem cmul_smallr {i j : Int} (h : -(2 ^ 63) ≤ j ∧ j ≤ 2 ^ 63) : CMul i j := .inr ⟨by omega, by omega⟩
theorem fin_take {m b : Int} (hb : 0 < b) : 0 ≤ m % b ∧ m % b < b := ⟨Int.emod_nonneg _ (by omega), Int.emod_lt_of_pos _ hb⟩
theorem pen_set2 {c : D} {a g v : D} : lSet [c, a, g] (.int 2) v = some [c, a, v] := rfl
theorem pen_at0 {c a g : D} : dIx (.lst [c, a, g]) (.int 0) = some c := rfl
theorem pen_at1 {c a g : D} : dIx (.lst [c, a, g]) (.int 1) = some a := rfl
theorem pen_at2 {c a g : D} : dIx (.lst [c, a, g]) (.int 2) = some g := rfl
theorem cp_mixN {x a : Int} (h : 0 ≤ a ∧ a ≤ 1000000) : CPow (x % 2147483647 * (2 * a + 71) + 90017 * a * a + 3) 3 := by
  have h1 : 0 ≤ x % 2147483647 := Int.emod_nonneg _ (by decide)
  have h2 : x % 2147483647 < 2147483647 := Int.emod_lt_of_pos _ (by decide)
  have h3 : 0 ≤ x % 2147483647 * (2 * a + 71) := Int.mul_nonneg h1 (by omega)
  have h4 : x % 2147483647 * (2 * a + 71) ≤ 2147483647 * 2000071 := Int.mul_le_mul (by omega) (by omega) (by omega) (by omega)
  have h7 : 0 ≤ 90017 * a * a := Int.mul_nonneg (by omega) h.1
  have h8 : 90017 * a * a ≤ 90017000000 * 1000000 := Int.mul_le_mul (by omega) (by omega) (by omega) (by omega)
  exact ⟨by omega, by omega, by omega⟩
theorem next_ok {s : Hs} {n b : Int} (h : HOk s n) (hn : n ≤ 1000000) (hb : 0 < b ∧ b < 1000000000) : Gives (F_Lnext (penL s) (.int b)) fun q => ∃ k s', q = (.int k, penL s') ∧ 0 ≤ k ∧ k < b ∧ HOk s' (n + 1) := by
  obtain ⟨a0, an, g0⟩ := h
  have hcd : CDiv s.gr b := ⟨hb.1, by omega⟩
  unfold F_Lnext penL
  rw [pen_at2]
  simp only [Option.bind_some, cGt_ii]
  by_cases hg : (0 : Int) < s.gr
  · rw [if_pos (decide_eq_true hg)]
    simp only [dMod_ii, dFdiv_ii, pen_set2, Option.bind_some, chk_pos hb.1, chk_pos hcd]
    exact .mk ⟨_, ⟨s.cells, s.at_, s.gr / b⟩, rfl, (fin_take hb.1).1, (fin_take hb.1).2, ⟨a0, by show s.at_ ≤ n + 1; omega, Int.ediv_nonneg g0 (by omega)⟩⟩
  rw [if_neg (by simpa using hg)]
  rw [pen_at1]
  simp only [Option.bind_some, dAdd_ii]
  rw [show lSet [D.lst (s.cells.map D.int), .int s.at_, .int s.gr] (.int 1) (.int (s.at_ + 1)) = some [D.lst (s.cells.map D.int), .int (s.at_ + 1), .int s.gr] from rfl]
  have hc1 : CMul 33071 s.at_ := cmul_small (by omega)
  simp only [Option.bind_some, dMul_ii, chk_pos hc1, dAdd_ii, pen_at0, cNe_of, nilB_ints, Option.map_some, dLen_l, List.length_map]
  refine .bind (Gives.imp (Q := fun r => ∃ q : Int, r = D.int q) ?_ fun r hr => ?_)
  · by_cases he : s.cells.isEmpty = true
    · rw [he]; exact .mk ⟨_, rfl⟩
    · have he : s.cells.isEmpty = false := by simpa using he
      have hl : (0 : Int) < (s.cells.length : Int) := by
        cases hcs : s.cells with
        | nil => rw [hcs] at he; cases he
        | cons a l => simp only [List.length_cons]; omega
      rw [he, if_pos (by rfl)]
      simp only [dMod_ii, chk_pos hl, Option.bind_some, dIx_li]
      have e1 := fin_take (m := s.at_) hl
      rw [atI_of_get (x := .int (s.cells.getD (s.at_ % (s.cells.length : Int)).toNat 0)) e1.1 (by rw [List.getElem?_map, List.getD_eq_getElem?_getD, List.getElem?_eq_getElem (by omega)]; rfl)]
      exact .mk ⟨_, rfl⟩
  obtain ⟨q, rfl⟩ := hr
  refine .bind (Gives.imp (Q := fun t => t = true → (10 : Int) ^ (18 : Int).toNat ≤ (if q < 0 then -q else q)) ?_ fun t ht => ?_)
  · simp only [cLt_ii, Option.bind_some]
    split
    · simp only [dAbs_i, dPow_ii, Option.bind_some]
      rw [chk_pos (show CPow 10 18 from ⟨by decide, by decide, by decide⟩)]
      exact .mk fun z => of_decide_eq_true z
    · exact .mk fun z => nomatch z
  cases t with
  | true =>
    rw [if_pos rfl]
    have hcd : ∀ i, CDiv i b := fun i => ⟨hb.1, by omega⟩
    simp only [dAbs_i, dMul_ii, Option.bind_some]
    rw [chk_pos (show CMul 2 _ from cmul_small (by decide))]
    simp only [Option.bind_some, cLt_ii, dInt_b, dAdd_ii, dFdiv_ii, dMod_ii, chk_pos (hcd _), chk_pos hb.1, pen_set2]
    have big : (0 : Int) ≤ 2 * (if q < 0 then -q else q) + (if decide (q < 0) = true then 1 else 0) := by
      split <;> split <;> omega
    exact .mk ⟨_, ⟨s.cells, s.at_ + 1, _⟩, rfl, (fin_take hb.1).1, (fin_take hb.1).2, ⟨by show 0 ≤ s.at_ + 1; omega, by show s.at_ + 1 ≤ n + 1; omega, Int.ediv_nonneg big (by omega)⟩⟩
  | false =>
    rw [if_neg (by decide)]
    have p1 : CPow (q % 2147483579 + 45127 * s.at_ + 67) 5 := by
      have := fin_take (m := q) (b := 2147483579) (by decide)
      exact ⟨by omega, by omega, by omega⟩
    have p3 : ∀ z : Int, CMul (z % 2147483647) (2 * s.at_ + 71) := fun z => by
      have := fin_take (m := z) (b := 2147483647) (by decide)
      exact cmul_small (by omega)
    simp only [dMod_ii, dMul_ii, dAdd_ii, dPow_ii, dFdiv_ii, Option.bind_some, chk_pos (show (0 : Int) < 2147483579 by decide), chk_pos (show (0 : Int) < 2147483647 by decide), chk_pos (show (0 : Int) < 2147483587 by decide), chk_pos (show CMul 45127 s.at_ from cmul_small (by omega)),
      chk_pos (show CMul 2 s.at_ from cmul_small (by omega)), chk_pos (show CMul 90017 s.at_ from cmul_small (by omega)), chk_pos (show CMul (90017 * s.at_) s.at_ from cmul_smallr (by omega)), chk_pos p1, chk_pos (p3 _), chk_pos (cp_mixN (x := _) (a := s.at_) ⟨a0, by omega⟩), chk_pos (show CDiv _ 32 from ⟨by decide, by decide⟩), chk_pos hb.1]
    exact .mk ⟨_, ⟨s.cells, s.at_ + 1, s.gr⟩, rfl, (fin_take hb.1).1, (fin_take hb.1).2, ⟨by show 0 ≤ s.at_ + 1; omega, by show s.at_ + 1 ≤ n + 1; omega, g0⟩⟩
theorem tap_ok (ns : List Int) : F_Ltap (.scr ns) = some (penL ⟨ns.take 63, 0, 0⟩) := rfl
theorem tap_hok (ns : List Int) : HOk ⟨ns.take 63, 0, 0⟩ 0 := ⟨Int.le_refl 0, Int.le_refl 0, Int.le_refl 0⟩
theorem atI_str {l : List Nat} {i : Int} (h : 0 ≤ i ∧ i < (l.length : Int)) : atI (S l).cps.toList i = some (l.getD i.toNat 0) := by
  rw [tl_S]
  exact atI_of_get h.1 (by rw [List.getD_eq_getElem?_getD, List.getElem?_eq_getElem (by omega)]; rfl)
theorem dIx_S {l : List Nat} {i : Int} (h : 0 ≤ i ∧ i < (l.length : Int)) (hl : l.length ≤ 1000000) : dIx (.str (S l)) (.int i) = some (.str (S [l.getD i.toNat 0])) := by
  rw [dIx_si, atI_str h, Option.bind_some, S_len, chk_pos hl]
theorem state_at_ok {l : List Nat} {p : Int} (h : 0 ≤ p ∧ p < (l.length : Int)) (hl : l.length ≤ 1000000) : F_state_at (.str (S l)) (.int p) = some (.str (S [stp l p])) := by
  unfold F_state_at
  simp only [dLen_s, S_len, chk_pos hl, Option.bind_some, dSub_ii]
  rw [dIx_S (by omega) hl, show ((l.length : Int) - 1 - p).toNat = l.length - 1 - p.toNat by omega]
  rfl
theorem S1_eq {c d : Nat} : (S [c] = S [d]) ↔ c = d := by
  constructor
  · intro h
    have := congrArg (fun z : Str => z.cps.toList) h
    simpa using this
  · rintro rfl; rfl
theorem cEq_S1 {c d : Nat} : cEq (.str (S [c])) (.str (S [d])) = some (decide (c = d)) := by
  rw [cEq_ss]; congr 1; exact decide_eq_decide.mpr S1_eq
theorem first_find {l : List Nat} : ∀ {ps : List Int}, firstS l ps = ((ps.findSome? fun p => if stp l p ≠ 80 then some (stp l p) else none).getD 80)
  | [] => rfl
  | p :: ps => by
    rw [List.findSome?_cons, firstS]
    by_cases h : stp l p = 80
    · rw [if_pos h, if_neg (by simpa using h)]
      exact first_find
    · rw [if_neg h, if_pos h]; rfl
theorem first_state_ok {l : List Nat} {ps : List Int} (h : ∀ p ∈ ps, 0 ≤ p ∧ p < (l.length : Int)) (hl : l.length ≤ 1000000) : F_first_state (.str (S l)) (.tup (ps.map D.int)) = some (.str (S [firstS l ps])) := by
  unfold F_first_state
  rw [dIter_t, Option.bind_some, loopC_first (g := fun p => if stp l p ≠ 80 then some (D.str (S [stp l p])) else none) fun p hp => ?_]
  · rw [Option.bind_some, first_find]
    have e : ∀ ps : List Int, (ps.findSome? fun p => if stp l p ≠ 80 then some (D.str (S [stp l p])) else none) = (ps.findSome? fun p => if stp l p ≠ 80 then some (stp l p) else none).map fun c => D.str (S [c]) := by
      intro ps
      induction ps with
      | nil => rfl
      | cons p ps ih =>
        rw [List.findSome?_cons, List.findSome?_cons]
        by_cases h : stp l p = 80
        · rw [if_neg (by simpa using h), if_neg (by simpa using h)]; exact ih
        · rw [if_pos h, if_pos h]; rfl
    rw [e]
    cases (ps.findSome? fun p => if stp l p ≠ 80 then some (stp l p) else none) with
    | none => rw [lit_P]; rfl
    | some c => rfl
  · rw [state_at_ok (h p hp) hl, Option.bind_some, cNe_of, lit_P, cEq_S1]
    simp only [Option.map_some, Option.bind_some]
    by_cases q : stp l p = 80
    · simp [q]
    · simp [q]
theorem goods_map {α : Type} {f : α → D} : ∀ {l : List α}, (∀ a ∈ l, good (f a)) → goods (l.map f)
  | [], _ => trivial
  | a :: l, h => ⟨h a List.mem_cons_self, goods_map fun b hb => h b (List.mem_cons_of_mem _ hb)⟩
theorem deps_map {α : Type} {f : α → D} {k : Nat} : ∀ {l : List α}, (∀ a ∈ l, dep (f a) ≤ k) → deps (l.map f) ≤ k
  | [], _ => Nat.zero_le _
  | a :: l, h => by
    rw [List.map_cons, deps]
    exact Nat.max_le.mpr ⟨h a List.mem_cons_self, deps_map fun b hb => h b (List.mem_cons_of_mem _ hb)⟩
theorem cEq_good {a b : D} (hs : sc a b = false) (hn : nilB a b = false) (ha : good a) (hb : good b) (da : dep a ≤ 50) (db : dep b ≤ 50) : cEq a b = some (eqD a b) := by
  unfold cEq
  rw [hs, hn]
  simp only [Bool.false_eq_true, if_false]
  rw [chk_pos ⟨ha, hb, da, db⟩]
theorem eqD_nil {ds : List D} : eqD (.lst ds) (.lst []) = ds.isEmpty := by
  cases ds with
  | nil => simp [eqD, pyd, pyds, PyData.eqv, PyData.eqvAll]
  | cons d ds => simp [eqD, pyd, pyds, PyData.eqv, PyData.eqvAll]
/-- a loop that is never left -/
theorem gives_loop {S R : Type} {f : S → D → Option (Ctl S R)} {xs : List D} {s : S} (I : Nat → S → Prop) (h0 : I 0 s) (h : ∀ i x s, xs[i]? = some x → I i s → Gives (f s x) fun c => ∃ s', c = .go s' ∧ I (i + 1) s') : Gives (loopC f s xs) fun c => ∃ s', c = .go s' ∧ I xs.length s' := by
  induction xs generalizing s I with
  | nil => exact ⟨.go s, rfl, s, rfl, h0⟩
  | cons x xs ih =>
    rw [loopC]
    refine .bind ((h 0 x s rfl h0).imp fun c hc => ?_)
    obtain ⟨s', rfl, h1⟩ := hc
    exact ih (fun i => I (i + 1)) h1 fun i y s2 hy => h (i + 1) y s2 (by simpa using hy)
theorem dJoin_sgl {L : List Nat} (h : L.length ≤ 1000000) : dJoinS "" (.lst (sgl L)) = some (.str (S L)) := by
  unfold dJoinS
  rw [items_l, Option.bind_some, chk_pos ⟨sgl_all L, by rw [sgl_size]; have : ("" : Str).length = 0 := rfl; rw [this]; omega⟩, join_sgl]
theorem S_cat {a b : List Nat} : S a ++ S b = S (a ++ b) := by
  show Str.mk _ = Str.mk _
  congr 1
  simp
theorem btw_int {p a b : Int} : F_is_between (.int p) (.int a) (.int b) = some (.bl (decide (a ≤ p ∧ p ≤ b))) := by
  unfold F_is_between
  rw [show dIsi "int" (.int p) = some true from chk_pos rfl, show dIsi "bool" (.int p) = some false from chk_pos rfl]
  simp only [Option.bind_some, dTru_b, if_true, Bool.not_false, cLe_ii]
  by_cases h : a ≤ p
  · rw [if_pos (decide_eq_true h)]
    simp [h]
  · rw [if_neg (by simpa using h)]
    simp [h]
theorem reprR_good {d : D} (h : good d) (hw : wt d ≤ 16000000) (hd : dep d ≤ 50) : dReprR d = some (.str (txtR d)) := by
  have e := (good_R h).1
  refine chk_pos ⟨(good_R h).2, by rw [e]; exact good_show h, ?_, ?_⟩
  · rw [e]; have := dep_py h; omega
  · rw [e]; have := wt_py h; omega
/-- a list against the empty one, whatever stands in it -/
theorem cEq_nilq {ds : List D} : cEq (.lst ds) (.lst []) = some ds.isEmpty := by
  have hs : sc (.lst ds) (.lst []) = false := rfl
  unfold cEq
  rw [hs]
  simp only [Bool.false_eq_true, if_false]
  split
  · rfl
  · split
    · rename_i t e
      obtain ⟨_, e⟩ := chk_inv e
      rw [← e, eqD_nil]
    · rename_i h
      cases ds with
      | nil => exact absurd rfl (by assumption : ¬ nilB (.lst []) (.lst []) = true)
      | cons d ds => rfl
structure RB (d : D) (k w : Nat) : Prop where
  sh : shw d = true
  ok : (pydR d).showable = true
  dp : (pydR d).depth ≤ k
  sz : (pydR d).shown.length ≤ w
structure RBs (ds : List D) (k w : Nat) : Prop where
  sh : shws ds = true
  ok : PyData.showableAll (pydRs ds) = true
  dp : PyData.depthAll (pydRs ds) ≤ k
  sz : ((PyData.shownAll (pydRs ds)).map (·.length)).sum + 2 * (PyData.shownAll (pydRs ds)).length ≤ w
theorem RB.mono {d : D} {k w k' w' : Nat} (h : RB d k w) (hk : k ≤ k') (hw : w ≤ w') : RB d k' w' := ⟨h.sh, h.ok, Nat.le_trans h.dp hk, Nat.le_trans h.sz hw⟩
theorem e200 : (2 : Int) ^ 200 = 1606938044258990275541962092341162602522202993782792835301376 := by decide +kernel
def TX (n : Nat) (z : Str) : Prop := z.length ≤ n ∧ PyData.strOk z = true
theorem TX.mono {a b : Nat} {z : Str} (h : TX a z) (k : a ≤ b) : TX b z := ⟨Nat.le_trans h.1 k, h.2⟩
/-- lists of texts, by their whole size -/
def TS (s : Nat) (zs : List Str) : Prop := (zs.map fun z => z.length + 1).sum ≤ s ∧ ∀ z ∈ zs, PyData.strOk z = true
theorem TS.mono {a b : Nat} {zs : List Str} (h : TS a zs) (k : a ≤ b) : TS b zs := ⟨Nat.le_trans h.1 k, h.2⟩
theorem TS.app {a b : Nat} {x y : List Str} (hx : TS a x) (hy : TS b y) : TS (a + b) (x ++ y) := ⟨by rw [List.map_append, List.sum_append]; have := hx.1; have := hy.1; omega, fun z hz => (List.mem_append.mp hz).elim (hx.2 z) (hy.2 z)⟩
theorem TS.one {n : Nat} {z : Str} (h : TX n z) : TS (n + 1) [z] := ⟨by simp; exact h.1, fun y hy => by rw [List.mem_singleton] at hy; subst hy; exact h.2⟩
theorem sum_ge_len : ∀ {zs : List Str}, zs.length ≤ (zs.map fun z => z.length + 1).sum
  | [] => Nat.zero_le _
  | z :: zs => by rw [List.map_cons, List.sum_cons, List.length_cons]; have := sum_ge_len (zs := zs); omega
theorem TS.len {a : Nat} {x : List Str} (hx : TS a x) : x.length ≤ a := Nat.le_trans sum_ge_len hx.1
theorem mem_sum : ∀ {zs : List Str} {z : Str}, z ∈ zs → z.length + 1 ≤ (zs.map fun z => z.length + 1).sum
  | y :: zs, z, h => by
    rw [List.map_cons, List.sum_cons]
    rcases List.mem_cons.mp h with rfl | h
    · omega
    · have := mem_sum h; omega
theorem TS.at {a : Nat} {x : List Str} (hx : TS a x) {z : Str} (hz : z ∈ x) : TX a z := ⟨by have := mem_sum hz; have := hx.1; omega, hx.2 z hz⟩
theorem sum_sublist {f : Str → Nat} : ∀ {a b : List Str}, a.Sublist b → (a.map f).sum ≤ (b.map f).sum
  | _, _, .slnil => Nat.le_refl _
  | _, _, .cons x h => by rw [List.map_cons, List.sum_cons]; have := sum_sublist (f := f) h; omega
  | _, _, .cons₂ x h => by rw [List.map_cons, List.map_cons, List.sum_cons, List.sum_cons]; have := sum_sublist (f := f) h; omega
theorem TS.sub {a : Nat} {x y : List Str} (hx : TS a x) (h : y.Sublist x) : TS a y := ⟨Nat.le_trans (sum_sublist h) hx.1, fun z hz => hx.2 z (h.subset hz)⟩
/-- a small number's text -/
def sI (i : Int) : Str := (toString i : Str)
def stepF (acc : List Int) (p : Int) : List Int := if p ∉ acc ∧ (0 : Int) ∉ acc then acc ++ [p] else acc
def firsts (ps : List Int) : List Int := ps.foldl stepF []
def EntOk (l : List Int) : Prop := l.Nodup ∧ (0 : Int) ∉ l.dropLast
theorem ent_nil : EntOk [] := ⟨List.nodup_nil, by simp⟩
theorem ent_step {acc : List Int} {p : Int} (h : EntOk acc) : EntOk (stepF acc p) := by
  unfold stepF
  split
  · rename_i q
    refine ⟨?_, ?_⟩
    · rw [List.nodup_append]
      exact ⟨h.1, by simp, fun a ha b hb => by rw [List.mem_singleton] at hb; subst hb; rintro rfl; exact q.1 ha⟩
    · rw [List.dropLast_concat]; exact q.2
  · exact h
theorem ent_zero {acc : List Int} {p : Int} (h : EntOk (acc ++ [p])) : (0 : Int) ∈ acc ++ [p] ↔ p = 0 := by
  have h2 := h.2
  rw [List.dropLast_concat] at h2
  constructor
  · intro z
    rcases List.mem_append.mp z with z | z
    · exact absurd z h2
    · rw [List.mem_singleton] at z; exact z.symm
  · rintro rfl; simp
theorem fold_id : ∀ {l acc : List Int}, EntOk (acc ++ l) → l.foldl stepF acc = acc ++ l
  | [], acc, _ => by simp
  | p :: l, acc, h => by
    have e : acc ++ p :: l = (acc ++ [p]) ++ l := by simp
    have h1 : p ∉ acc := by
      have := h.1
      rw [List.nodup_append] at this
      intro z
      exact this.2.2 p z p List.mem_cons_self rfl
    have h0 : (0 : Int) ∉ acc := by
      intro z
      refine h.2 ?_
      rw [List.dropLast_append_of_ne_nil (by simp)]
      exact List.mem_append_left _ z
    rw [List.foldl_cons]
    unfold stepF
    rw [if_pos ⟨h1, h0⟩]
    rw [e] at h ⊢
    exact fold_id h
theorem firsts_id {l : List Int} (h : EntOk l) : firsts l = l := by
  have := fold_id (l := l) (acc := []) (by simpa using h)
  simpa [firsts] using this
theorem firsts_snoc {l : List Int} {p : Int} : firsts (l ++ [p]) = stepF (firsts l) p := by simp [firsts]
theorem fold_stop : ∀ {l acc : List Int}, (0 : Int) ∈ acc → l.foldl stepF acc = acc
  | [], _, _ => rfl
  | p :: l, acc, h => by
    rw [List.foldl_cons, show stepF acc p = acc from if_neg fun z => z.2 h]
    exact fold_stop h
theorem atI_last {l : List Int} {p : Int} : atI ((l ++ [p]).map D.int) (-1) = some (.int p) := by
  unfold atI ixN
  rw [if_neg (by omega), List.length_map, List.length_append, List.length_singleton]
  rw [if_pos (by omega), Option.bind_some, List.map_append, show (-1 + ((l.length + 1 : Nat) : Int)).toNat = l.length by omega]
  simp
theorem first_ones_ok {ps : List Int} (hl : ps.length ≤ 1000000) : F_first_ones (.tup (ps.map D.int)) = some (.tup ((firsts ps).map D.int)) := by
  have main : ∀ (ps acc : List Int), EntOk acc → acc.length + ps.length ≤ 1000000 →
      loopC (R := D) (fun (s3 : List D) x5 => ((cNe (D.lst s3) (D.lst [])).bind fun t10 => if t10 = true then (dIx (D.lst s3) (D.int (-1))).bind fun v11 => (cEq v11 (D.int 0)).bind fun t12 => some t12 else some false).bind fun t13 => if t13 = true then some (.brk s3) else ((cNin x5 (D.lst s3)).bind fun t16 => if t16 = true then (chk (s3.length < 1000000) ()).bind fun _ => some (s3 ++ [x5]) else some s3).bind fun (r15 : List D) => some (.go r15)) (acc.map D.int) (ps.map D.int) = some (.go ((ps.foldl stepF acc).map D.int)) := by
    intro ps
    induction ps with
    | nil => intro acc _ _; rfl
    | cons p ps ih =>
      intro acc he hz
      have test : ((cNe (D.lst (acc.map D.int)) (D.lst [])).bind fun t10 => if t10 = true then (dIx (D.lst (acc.map D.int)) (D.int (-1))).bind fun v11 => (cEq v11 (D.int 0)).bind fun t12 => some t12 else some false) = some (decide ((0 : Int) ∈ acc)) := by
        rw [cNe_of, nilB_ints]
        rcases List.eq_nil_or_concat acc with rfl | ⟨a, q, rfl⟩
        · rfl
        · rw [List.concat_eq_append] at he ⊢
          have : (a ++ [q]).isEmpty = false := by simp
          rw [this]
          simp only [Option.map_some, Option.bind_some, Bool.not_false, if_true, dIx_li, atI_last, cEq_ii]
          congr 1
          exact decide_eq_decide.mpr (ent_zero he).symm
      rw [List.map_cons, loopC, test, Option.bind_some, List.foldl_cons]
      by_cases h0 : (0 : Int) ∈ acc
      · rw [if_pos (decide_eq_true h0), Option.bind_some, show stepF acc p = acc from if_neg fun z => z.2 h0, fold_stop h0]
      · rw [if_neg (by simpa using h0), cNin_of, cIn_ints, Option.map_some, Option.bind_some]
        rw [List.length_cons] at hz
        by_cases hp : p ∈ acc
        · rw [decide_eq_true hp, show stepF acc p = acc from if_neg fun z => z.1 hp]
          simp only [Bool.not_true, Bool.false_eq_true, if_false, Option.bind_some]
          exact ih acc he (by omega)
        · rw [decide_eq_false hp, show stepF acc p = acc ++ [p] from if_pos ⟨hp, h0⟩]
          simp only [Bool.not_false, if_true, List.length_map]
          rw [chk_pos (by omega)]
          simp only [Option.bind_some]
          have e := ent_step (p := p) he
          rw [show stepF acc p = acc ++ [p] from if_pos ⟨hp, h0⟩] at e
          have := ih (acc ++ [p]) e (by rw [List.length_append, List.length_singleton]; omega)
          rw [List.map_append] at this
          exact this
  unfold F_first_ones
  rw [dIter_t, Option.bind_some]
  have := main ps [] ent_nil (by simpa using hl)
  rw [List.map_nil] at this
  rw [this, Option.bind_some]
  rfl
/-- the order of some positions -/
def ordD (C : Addr) (l : List Int) : D := .ins C [(("entries" : Str), D.tup (l.map D.int))]
theorem between_ok {p a b : Int} : F_is_between (.int p) (.int a) (.int b) = some (.bl (decide (a ≤ p ∧ p ≤ b))) := by
  unfold F_is_between
  rw [show dIsi "int" (.int p) = some true from chk_pos rfl, show dIsi "bool" (.int p) = some false from chk_pos rfl]
  simp only [Option.bind_some, dTru_b, if_true, Bool.not_false, cLe_ii]
  by_cases h : a ≤ p
  · rw [if_pos (decide_eq_true h)]
    simp [h]
  · rw [if_neg (by simpa using h)]
    simp [h]
theorem isC_ord {C : Addr} {l : List Int} : isC C (ordD C l) = some [(("entries" : Str), D.tup (l.map D.int))] := by
  unfold isC ordD
  simp
theorem lk_ord {l : List Int} : ([(("entries" : Str), D.tup (l.map D.int))] : List (Str × D)).lookup ("entries" : Str) = some (.tup (l.map D.int)) := rfl
theorem initX_ok {Z : Str → Addr} {ps : List Int} (hp : ∀ p ∈ ps, 0 ≤ p ∧ p ≤ 24) (hl : ps.length ≤ 1000000) : F_Order___init__ Z (.tup (ps.map D.int)) = some (.ok [(("entries" : Str), D.tup ((firsts ps).map D.int))]) := by
  have hc : mthC (Z "Order") "GREATEST" (D.ins (Z "Order") ([] : List (Str × D))) = some [] := by
    unfold mthC isC
    simp
  unfold F_Order___init__
  rw [dEnum_t, Option.bind_some]
  generalize hf : (fun (s2 : Unit) x4 => _ : Unit → D → Option (Ctl Unit (Except Er (List (Str × D))))) = f
  have step : ∀ (p : Int) (i : Nat), 0 ≤ p ∧ p ≤ 24 → f () (.tup [.int i, .int p]) = some (.go ()) := by
    intro p i h
    rw [← hf]
    simp only [un2_t, Option.bind_some, hc, between_ok, dTru_b, decide_eq_true h]
    rfl
  clear hf
  have main : ∀ (ps : List Int) (i : Nat), (∀ p ∈ ps, 0 ≤ p ∧ p ≤ 24) → loopC f () (enumD i (ps.map D.int)) = some (.go ()) := by
    intro ps
    induction ps with
    | nil => intro i _; rfl
    | cons p ps ih =>
      intro i h
      rw [List.map_cons, enumD, loopC, step p i (h p List.mem_cons_self)]
      exact ih (i + 1) fun q hq => h q (List.mem_cons_of_mem _ hq)
  rw [main ps 0 hp, Option.bind_some, ctl_g, first_ones_ok hl, Option.bind_some, chk_pos (show ([] : List (Str × D)).length < 1000 by decide)]
  rfl
theorem addX_ok {Z : Str → Addr} {a b : List Int} (ha : ∀ p ∈ a, 0 ≤ p ∧ p ≤ 24) (hb : ∀ p ∈ b, 0 ≤ p ∧ p ≤ 24) (hl : a.length + b.length ≤ 1000000) : F_Order___add__ Z (ordD (Z "Order") a) (ordD (Z "Order") b) = some (ordD (Z "Order") (firsts (a ++ b))) := by
  unfold F_Order___add__
  rw [isC_ord, Option.bind_some, lk_ord, Option.bind_some, items_t, Option.bind_some, isC_ord, Option.bind_some, lk_ord, Option.bind_some, items_t, Option.bind_some]
  rw [List.append_nil, chk_pos (by simp only [List.length_append, List.length_map]; omega), Option.bind_some, ← List.map_append, initX_ok (fun p hp => (List.mem_append.mp hp).elim (ha p) (hb p)) (by rw [List.length_append]; exact hl)]
  rfl
theorem nd_len : ∀ (k : Nat) (l : List Int), l.Nodup → (∀ p ∈ l, 0 ≤ p ∧ p < (k : Int)) → l.length ≤ k
  | 0, l, _, h => by
    cases l with
    | nil => exact Nat.le_refl _
    | cons a l => have := h a List.mem_cons_self; omega
  | k + 1, l, hn, h => by
    by_cases hk : (k : Int) ∈ l
    · have h1 := nd_len k (l.erase (k : Int)) (hn.erase _) fun p hp => by
        have hp := (List.Nodup.mem_erase_iff hn).mp hp
        have := h p hp.2
        have := hp.1
        omega
      rw [List.length_erase_of_mem hk] at h1
      omega
    · have h1 := nd_len k l hn fun p hp => by
        have := h p hp
        have : p ≠ (k : Int) := fun e => hk (e ▸ hp)
        omega
      omega
theorem eqD_niltG {ds : List D} : eqD (.tup ds) (.tup []) = ds.isEmpty := by
  cases ds with
  | nil => simp [eqD, pyd, pyds, PyData.eqv, PyData.eqvAll]
  | cons d ds => simp [eqD, pyd, pyds, PyData.eqv, PyData.eqvAll]
theorem cEq_tnilG {ds : List D} : cEq (.tup ds) (.tup []) = some ds.isEmpty := by
  have hs : sc (.tup ds) (.tup []) = false := rfl
  have hn : nilB (.tup ds) (.tup []) = false := rfl
  cases ds with
  | nil => exact cEq_good rfl rfl trivial trivial (by simp [dep, deps]) (by simp [dep, deps])
  | cons d ds =>
    unfold cEq
    rw [hs, hn]
    simp only [Bool.false_eq_true, if_false]
    split
    · rename_i t e
      obtain ⟨_, e⟩ := chk_inv e
      rw [← e, eqD_niltG]
    · rfl
theorem atI_lastG {l : List D} {x : D} : atI (l ++ [x]) (-1) = some x := by
  unfold atI ixN
  rw [if_neg (by decide), if_pos (by simp; omega)]
  simp
  rw [show (-1 + ((l.length : Int) + 1)).toNat = l.length by omega]
  simp
/-- pairs of positions and letters; the letter at a position, later ones first -/
def kvsOf (pl : List (Int × Nat)) : List (Key × D) := pl.map fun q => (.inl q.1, .str (S [q.2]))
def plookF (pl : List (Int × Nat)) (p : Int) (c : Nat) : Nat := pl.foldl (fun c q => if q.1 = p then q.2 else c) c
def plook (pl : List (Int × Nat)) (p : Int) : Nat := plookF pl p 80
def tw (pl : List (Int × Nat)) (n : Nat) : List Nat := (List.range n).map fun i : Nat => plook pl ((i : Int) + 1)
theorem tw_len {pl : List (Int × Nat)} {n : Nat} : (tw pl n).length = n := by simp [tw]
theorem valD_put {kvs : List (Key × D)} {k k' : Key} {v : D} : valD (putD kvs k v) k' = if k = k' then some v else valD kvs k' := by
  have over : ∀ kvs : List (Key × D), valD (kvs.map fun kv => if kv.1 = k then (kv.1, v) else kv) k' = if k = k' then (valD kvs k').map (fun _ => v) else valD kvs k' := by
    intro kvs
    induction kvs with
    | nil => simp [valD]
    | cons q kvs ih =>
      unfold valD at ih ⊢
      rw [List.map_cons, List.find?_cons, List.find?_cons]
      by_cases h : q.1 = k
      · rw [if_pos h]
        by_cases g : q.1 = k'
        · have : k = k' := by rw [← h]; exact g
          simp [g, this]
        · have : ¬ k = k' := fun z => g (by rw [h]; exact z)
          simp only [this, if_false] at ih ⊢
          simp only [decide_eq_false g]
          exact ih
      · rw [if_neg h]
        by_cases g : q.1 = k'
        · have : ¬ k = k' := fun z => h (by rw [z]; exact g)
          simp [g, this]
        · simp only [decide_eq_false g]
          exact ih
  unfold putD
  by_cases h : (kvs.any fun kv => decide (kv.1 = k)) = true
  · rw [if_pos h, over]
    by_cases g : k = k'
    · rw [if_pos g, if_pos g]
      rw [List.any_eq_true] at h
      obtain ⟨q, hq, hk⟩ := h
      have hk : q.1 = k := of_decide_eq_true hk
      cases e : valD kvs k' with
      | some z => rfl
      | none =>
        unfold valD at e
        rw [Option.map_eq_none_iff, List.find?_eq_none] at e
        exact absurd (e q hq) (by simp [hk, g])
    · rw [if_neg g, if_neg g]
  · rw [if_neg h]
    unfold valD
    rw [List.find?_append]
    by_cases g : k = k'
    · rw [if_pos g]
      have : List.find? (fun kv => decide (kv.1 = k')) kvs = none := by
        rw [List.find?_eq_none]
        intro q hq hk
        exact h (List.any_eq_true.mpr ⟨q, hq, by rw [g]; exact hk⟩)
      rw [this]
      simp [g]
    · rw [if_neg g]
      have : List.find? (fun kv => decide (kv.1 = k')) [(k, v)] = none := by simp [g]
      rw [this, Option.or_none]
theorem get_merge {p : Int} : ∀ (pl : List (Int × Nat)) (kvs : List (Key × D)) (c : Nat), (valD kvs (.inl p)).getD (.str (S [80])) = .str (S [c]) → (valD (mergeD kvs (kvsOf pl)) (.inl p)).getD (.str (S [80])) = .str (S [plookF pl p c])
  | [], _, _, h => h
  | q :: pl, kvs, c, h => by
    have := get_merge pl (putD kvs (.inl q.1) (.str (S [q.2]))) (if q.1 = p then q.2 else c) (by
      rw [valD_put]
      by_cases e : q.1 = p
      · rw [if_pos (by rw [e]), if_pos e]; rfl
      · rw [if_neg (fun z => e (Sum.inl.inj z)), if_neg e]; exact h)
    exact this
theorem get_plook (pl : List (Int × Nat)) (p : Int) : (valD (mergeD [] (kvsOf pl)) (.inl p)).getD (.str (S [80])) = .str (S [plook pl p]) := get_merge pl [] 80 rfl
theorem map_rev {n : Nat} {f : Int → Nat} {m : Int} (h : m = (n : Int)) : (List.range n).map (fun i : Nat => f (m + (i : Int) * (-1))) = ((List.range n).map fun i : Nat => f ((i : Int) + 1)).reverse := by
  apply List.ext_getElem
  · simp
  · intro i h1 h2
    rw [List.getElem_map, List.getElem_reverse, List.getElem_map, List.getElem_range, List.getElem_range]
    simp only [List.length_map, List.length_range] at h1 h2 ⊢
    congr 1
    omega
theorem kvs_back (pl : List (Int × Nat)) : kvsD (prsD (kvsOf pl)) = some (kvsOf pl) := by
  induction pl with
  | nil => rfl
  | cons q pl ih =>
    show kvsD (.tup [.int q.1, .str (S [q.2])] :: prsD (kvsOf pl)) = _
    rw [kvsD, ih]; rfl
/-- the positions from n down to 1, then position 0 -/
def twS (pl : List (Int × Nat)) (n : Int) (c0 : Nat) : List Nat := (c0 :: tw pl n.toNat).reverse
theorem trial_with_ok {n : Int} {c0 : Nat} {pl : List (Int × Nat)} (hn : 0 ≤ n ∧ n ≤ 1000) : F_trial_with (.int n) (.str (S [c0])) (prsD (kvsOf pl)) = some (.str (S (twS pl n c0))) := by
  unfold F_trial_with
  rw [kvs_back]
  simp only [Option.bind_some, strD_s, dRange_3]
  rw [chk_pos (by omega), Option.bind_some, chk_pos (by rw [rngC_len]; omega), Option.bind_some]
  unfold rngC
  rw [mapO_of (g := fun i : Nat => D.str (S [plook pl (n + (i : Int) * (-1))])) fun i hi => ?_]
  · rw [Option.bind_some, show (List.range (n - 0).toNat).map (fun i : Nat => D.str (S [plook pl (n + (i : Int) * (-1))])) = sgl (tw pl n.toNat).reverse from ?_, dJoin_sgl (by rw [List.length_reverse, tw_len]; omega), Option.bind_some, dAdd_ss, S_len, S_len, chk_pos (by rw [List.length_reverse, tw_len, List.length_singleton]; omega)]
    · rw [Option.bind_some]
      unfold twS
      rw [List.reverse_cons, S_cat]
    · unfold sgl tw
      rw [show (n - 0).toNat = n.toNat by omega, ← map_rev (n := n.toNat) (f := plook pl) (m := n) (by omega), List.map_map]
      rfl
  · simp only [dctD_d, keyD_i, Option.bind_some]
    rw [lit_P, get_plook]
theorem cIn_flatF {a c : D} {ds : List D} {v : V} {vs : List V} (h1 : flD a = some v) (h2 : itemsD c = some ds) (h3 : flDs ds = some vs) : cIn a c = some (inV v vs) := by
  unfold cIn
  split
  · cases h2
  · rw [h1, Option.bind_some, h2, Option.bind_some, h3, Option.bind_some]
theorem cIn_tintsF {z : Int} {ns : List Int} : cIn (.int z) (.tup (ns.map D.int)) = some (decide (z ∈ ns)) := by
  rw [cIn_flatF (v := .int z) rfl rfl (flDs_ints ns), inV_ints]
def lowB (r : Bool) : Int := if r = true then 1 else 0
def candD : Option Int → D
  | some p => .int p
  | none => .str "end"
def leftP (n lo : Int) (E : List Int) : List Int := (upto lo (n + 1)).filter fun p => decide (p ∉ E)
/-- the candidates behind the entries E -/
def optC (n lo : Int) (E : List Int) : List (Option Int) := if E.getLast? = some 0 then [] else (leftP n lo E).map some ++ (if E.isEmpty = true then [] else [none])
theorem map_cand {l : List Int} : (l.map some).map candD = l.map D.int := by rw [List.map_map]; rfl
theorem last_int {E : List Int} (h : E ≠ []) : ∃ q, E.getLast? = some q ∧ atI (E.map D.int) (-1) = some (.int q) := by
  refine ⟨E.getLast h, List.getLast?_eq_some_getLast h, ?_⟩
  have e := List.dropLast_concat_getLast h
  have := atI_lastG (l := E.dropLast.map D.int) (x := .int (E.getLast h))
  rw [show E.dropLast.map D.int ++ [.int (E.getLast h)] = E.map D.int from by have q := congrArg (List.map D.int) e; rw [List.map_append] at q; exact q] at this
  exact this
theorem left_few {n lo : Int} {E : List Int} (h : 0 ≤ lo ∧ n ≤ 24) : (leftP n lo E).length ≤ 25 := by
  refine Nat.le_trans (List.length_filter_le _ _) ?_
  unfold upto
  rw [List.length_map, List.length_range]
  omega
section
variable {n : Int} {r : Bool}
theorem lowB_b : 0 ≤ lowB r ∧ lowB r ≤ 1 := by cases r <;> decide
theorem cands_ok {E : List Int} (hn : 1 ≤ n ∧ n ≤ 24) : F_candidates_behind (.int n) (.bl r) (.tup (E.map D.int)) = some (.tup ((optC n (lowB r) E).map candD)) := by
  have hb := lowB_b (r := r)
  have hf := left_few (n := n) (lo := lowB r) (E := E) ⟨hb.1, hn.2⟩
  unfold F_candidates_behind F_output_positions
  rw [cNe_of, cEq_tnilG, Option.map_some, Option.bind_some, List.isEmpty_map]
  have key : (if (!E.isEmpty) = true then (dIx (.tup (E.map D.int)) (D.int (-1))).bind fun v4 => (cEq v4 (D.int 0)).bind fun t5 => some t5 else some false) = some (decide (E.getLast? = some 0)) := by
    cases E with
    | nil => rfl
    | cons a E =>
      obtain ⟨q, e1, e2⟩ := last_int (E := a :: E) (by simp)
      rw [if_pos (show (!(a :: E).isEmpty) = true from rfl), dIx_ti, e2, Option.bind_some, cEq_ii, Option.bind_some, e1]
      congr 1
      exact decide_eq_decide.mpr ⟨fun h => by rw [h], fun h => Option.some.inj h⟩
  rw [key, Option.bind_some]
  unfold optC
  by_cases h : E.getLast? = some 0
  · rw [if_pos (decide_eq_true h), if_pos h]; rfl
  · rw [if_neg (by simpa using h), if_neg h, dInt_b, Option.bind_some, dAdd_ii, Option.bind_some, show (if r = true then (1 : Int) else 0) = lowB r from rfl, dRange_2, chk_pos (by omega), Option.bind_some, rngD_upto, Option.bind_some, Option.bind_some, dIter_t, Option.bind_some, chk_pos (by rw [List.length_map]; unfold upto; rw [List.length_map, List.length_range]; omega), Option.bind_some,
      filtO_of (g := D.int) (t := fun p => decide (p ∉ E)) (fun p _ => by
        rw [cNin_of, cIn_tintsF, Option.map_some, Option.bind_some]
        by_cases q : p ∈ E
        · rw [decide_eq_true q, if_neg (by decide), if_neg (by simpa using q)]
        · rw [decide_eq_false q, if_pos (by decide), if_pos (decide_eq_true q)]), Option.bind_some, lList_l, Option.bind_some, Option.bind_some]
    show ((if E.isEmpty = true then some (D.tup ((leftP n (lowB r) E).map D.int)) else (itemsD (D.tup ((leftP n (lowB r) E).map D.int))).bind fun l20 => (chk ((l20 ++ (D.str "end" :: [])).length ≤ 1000000) ()).bind fun _ => some (D.tup (l20 ++ (D.str "end" :: [])))).bind fun v23 => some v23) = _
    cases E with
    | nil =>
      rw [if_pos (show ([] : List Int).isEmpty = true from rfl), Option.bind_some, List.map_append, map_cand, if_pos (show ([] : List Int).isEmpty = true from rfl), List.map_nil, List.append_nil]
    | cons a E =>
      rw [if_neg (show ¬ (a :: E).isEmpty = true from Bool.false_ne_true), items_t, Option.bind_some, chk_pos (by rw [List.length_append, List.length_map]; simp; omega), Option.bind_some, Option.bind_some, List.map_append, map_cand]
      rfl
end
/-- entries and candidates once single candidates are taken -/
def settle (n lo : Int) : Nat → List Int → List (Option Int) → List Int × List (Option Int)
  | 0, E, C => (E, C)
  | k + 1, E, C => match C with
    | [none] => (E, [])
    | [some p] => settle n lo k (E ++ [p]) (optC n lo (E ++ [p]))
    | C => (E, C)
structure EOkF (n lo : Int) (E : List Int) : Prop where
  nd : E.Nodup
  rg : ∀ p ∈ E, lo ≤ p ∧ p ≤ n
theorem opt_in {n lo : Int} {E : List Int} {p : Int} (h : some p ∈ optC n lo E) : p ∉ E ∧ lo ≤ p ∧ p ≤ n := by
  unfold optC at h
  split at h
  · exact absurd h List.not_mem_nil
  · rcases List.mem_append.mp h with h | h
    · obtain ⟨q, hq, e⟩ := List.mem_map.mp h
      cases e
      obtain ⟨h1, h2⟩ := List.mem_filter.mp hq
      have := upto_mem h1
      exact ⟨by simpa using h2, by omega, by omega⟩
    · split at h
      · exact absurd h List.not_mem_nil
      · simp at h
theorem EOkF.snoc {n lo : Int} {E : List Int} {p : Int} (h : EOkF n lo E) (hp : p ∉ E ∧ lo ≤ p ∧ p ≤ n) : EOkF n lo (E ++ [p]) := ⟨by
  rw [List.nodup_append]
  exact ⟨h.nd, List.nodup_cons.mpr ⟨List.not_mem_nil, .nil⟩, fun a ha b hb => by rw [List.mem_singleton.mp hb]; intro e; exact hp.1 (e ▸ ha)⟩, fun q hq => by
  rcases List.mem_append.mp hq with hq | hq
  · exact h.rg q hq
  · rw [List.mem_singleton.mp hq]; exact hp.2⟩
theorem EOkF.few {n lo : Int} {E : List Int} (h : EOkF n lo E) (hl : 0 ≤ lo) (hn : n ≤ 24) : E.length ≤ 25 := nd_len 25 E h.nd fun p hp => by
  have := h.rg p hp
  omega
theorem settle_two {n lo : Int} {k : Nat} {E : List Int} {a b : Option Int} {C : List (Option Int)} : settle n lo k E (a :: b :: C) = (E, a :: b :: C) := by
  cases k <;> cases a <;> rfl
theorem while_settle {n lo : Int} {cF : D × D → Option Bool} {body : D × D → Option (Ctl (D × D) D)} {mk : List D → D} (hl : 0 ≤ lo) (hn : n ≤ 24)
    (hc : ∀ (E : List Int) (C : List (Option Int)), cF (mk (E.map D.int), mk (C.map candD)) = some (decide (C.length = 1)))
    (hb0 : ∀ E : List Int, body (mk (E.map D.int), mk ([none].map candD)) = some (.ret (.tup [mk (E.map D.int), mk []])))
    (hb1 : ∀ (E : List Int) (p : Int), E.length ≤ 25 → body (mk (E.map D.int), mk ([some p].map candD)) = some (.go (mk ((E ++ [p]).map D.int), mk ((optC n lo (E ++ [p])).map candD)))) :
    ∀ (k j : Nat) (E : List Int) (C : List (Option Int)), EOkF n lo E → (∀ p, C = [some p] → p ∉ E ∧ lo ≤ p ∧ p ≤ n) → 27 ≤ k + E.length →
      (whileC cF body (k + 1 + j) (mk (E.map D.int), mk (C.map candD))).bind (fun c => ctl c (fun r => some (D.tup [r.1, r.2])) fun v => some v) = some (D.tup [mk ((settle n lo k E C).1.map D.int), mk ((settle n lo k E C).2.map candD)]) ∧ (settle n lo k E C).2.length ≠ 1
  | 0, j, E, C, hE, hC, hk => by
    have := hE.few hl hn
    omega
  | k + 1, j, E, C, hE, hC, hk => by
    have hf := hE.few hl hn
    have stop : C.length ≠ 1 → (whileC cF body (k + 1 + 1 + j) (mk (E.map D.int), mk (C.map candD))).bind (fun c => ctl c (fun r => some (D.tup [r.1, r.2])) fun v => some v) = some (D.tup [mk (E.map D.int), mk (C.map candD)]) := fun q => by
      rw [show k + 1 + 1 + j = (k + 1 + j) + 1 by omega, whileC, hc, Option.bind_some, if_neg (by simpa using q), Option.bind_some, ctl_g]
    match C, hC, stop with
    | [], _, stop => exact ⟨stop (by simp), by show ([] : List (Option Int)).length ≠ 1; simp⟩
    | [none], _, _ =>
      refine ⟨?_, by show ([] : List (Option Int)).length ≠ 1; simp⟩
      rw [show k + 1 + 1 + j = (k + 1 + j) + 1 by omega, whileC, hc, Option.bind_some, if_pos (by simp), hb0, Option.bind_some]
      rfl
    | [some p], hC, _ =>
      have hp := hC p rfl
      have ih := while_settle hl hn hc hb0 hb1 k j (E ++ [p]) (optC n lo (E ++ [p])) (hE.snoc hp) (fun q e => opt_in (by rw [e]; exact List.mem_singleton_self _)) (by rw [List.length_append, List.length_singleton]; omega)
      refine ⟨?_, ih.2⟩
      rw [show k + 1 + 1 + j = (k + 1 + j) + 1 by omega, whileC, hc, Option.bind_some, if_pos (by simp), hb1 E p hf, Option.bind_some]
      exact ih.1
    | a :: b :: C, _, stop =>
      rw [settle_two]
      exact ⟨stop (by simp), by simp⟩
def settleR (n lo : Int) (E : List Int) (C : List (Option Int)) : List Int × List (Option Int) := settle n lo 27 E C
section
variable {n : Int} {r : Bool}
theorem settled_ok {E : List Int} {C : List (Option Int)} (hn : 1 ≤ n ∧ n ≤ 24) (hE : EOkF n (lowB r) E) (hC : ∀ p, C = [some p] → p ∉ E ∧ lowB r ≤ p ∧ p ≤ n) :
    F_settled_stage (.int n) (.bl r) (.tup (E.map D.int)) (.tup (C.map candD)) = some (.tup [.tup ((settleR n (lowB r) E C).1.map D.int), .tup ((settleR n (lowB r) E C).2.map candD)]) := by
  refine (while_settle (mk := D.tup) lowB_b.1 hn.2 (fun E C => ?_) (fun E => ?_) (fun E p hf => ?_) 27 99972 E C hE hC (by omega)).1
  · rw [dLen_t, Option.bind_some, cEq_ii, Option.bind_some, List.length_map]
    congr 1
    exact decide_eq_decide.mpr (by omega)
  · rfl
  · have i0 : dIx (.tup ([some p].map candD)) (D.int 0) = some (.int p) := rfl
    rw [i0, Option.bind_some, cEq_is, Option.bind_some, if_neg (by decide), items_t, Option.bind_some, Option.bind_some, chk_pos (by rw [List.length_append, List.length_map]; simp; omega), Option.bind_some, show E.map D.int ++ (D.int p :: []) = (E ++ [p]).map D.int from by rw [List.map_append]; rfl, cands_ok hn, Option.bind_some]
end
/-- the letters, each candidate's set -/
def setC (h : Nat) : Nat → List (Option Int) → List Nat → List Nat
  | _, [], L => L
  | k, none :: C, L => setC h (k + 1) C L
  | k, some p :: C, L => setC h (k + 1) C (L.set p.toNat (if k < h then 71 else 75))
theorem setC_len {h : Nat} : ∀ {C : List (Option Int)} {k : Nat} {L : List Nat}, (setC h k C L).length = L.length
  | [], _, _ => rfl
  | none :: C, k, L => setC_len (C := C)
  | some p :: C, k, L => by rw [setC, setC_len (C := C), List.length_set]
def lets0 (r : Bool) (n : Int) : List Nat := (if r = true then 80 else 75) :: List.replicate n.toNat 80
theorem plook_snoc {pl : List (Int × Nat)} {p q : Int} {c : Nat} : plook (pl ++ [(p, c)]) q = if p = q then c else plook pl q := by
  unfold plook plookF
  rw [List.foldl_append]
  rfl
theorem tw_set {pl : List (Int × Nat)} {p : Int} {c n : Nat} (h : 1 ≤ p ∧ p ≤ (n : Int)) : (tw pl n).set (p.toNat - 1) c = tw (pl ++ [(p, c)]) n := by
  refine List.ext_getElem? fun i => ?_
  rw [List.getElem?_set, tw_len]
  unfold tw
  rw [List.getElem?_map, List.getElem?_map]
  by_cases hi : i < n
  · rw [List.getElem?_range hi, Option.map_some, Option.map_some, plook_snoc]
    by_cases e : p.toNat - 1 = i
    · rw [if_pos e, if_pos (by omega), if_pos (by omega)]
    · rw [if_neg e, if_neg (by omega)]
  · rw [List.getElem?_eq_none (by simp; omega), if_neg (by omega)]
    rfl
theorem trial_fold {n : Int} {h : Nat} (hh : h ≤ 1000) (hn : 1 ≤ n) : ∀ (C : List (Option Int)) (k : Nat) (z : Nat) (pl : List (Int × Nat)), (∀ p, some p ∈ C → 0 ≤ p ∧ p ≤ n) → pl.length + C.length ≤ 1000 →
    ∃ z' pl', foldO (fun (s8 : D × List D) x10 => (un2 x10).bind fun p13 => ((cLt p13.1 (.int (h : Int))).bind fun t14 => if t14 = true then some (D.str "G") else some (D.str "K")).bind fun v16 => ((cEq p13.2 (D.int 0)).bind fun t19 => if t19 = true then some (v16, s8.2) else (cNe p13.2 (D.str "end")).bind fun t21 => if t21 = true then (chk (s8.2.length < 1000000) ()).bind fun _ => some (s8.1, (s8.2 ++ [(D.tup [p13.2, v16])])) else some (s8.1, s8.2)).bind fun (r18 : D × List D) => some (r18.1, r18.2)) (.str (S [z]), prsD (kvsOf pl)) (enumD k (C.map candD)) = some (.str (S [z']), prsD (kvsOf pl')) ∧ setC h k C (z :: tw pl n.toNat) = z' :: tw pl' n.toNat ∧ pl'.length ≤ 1000
  | [], k, z, pl, _, hl => ⟨z, pl, rfl, rfl, by simp at hl; exact hl⟩
  | none :: C, k, z, pl, hC, hl => by
    obtain ⟨z', pl', h1, h2, h3⟩ := trial_fold hh hn C (k + 1) z pl (fun p hp => hC p (List.mem_cons_of_mem _ hp)) (by rw [List.length_cons] at hl; omega)
    refine ⟨z', pl', ?_, h2, h3⟩
    have et : ((cLt (.int (k : Int)) (.int (h : Int))).bind fun t14 => if t14 = true then some (D.str "G") else some (D.str "K")) = some (.str (S [if k < h then 71 else 75])) := by
      rw [cLt_ii, Option.bind_some]
      by_cases q : k < h
      · rw [if_pos (by simp; omega), if_pos q]; rfl
      · rw [if_neg (by simp; omega), if_neg q]; rfl
    rw [List.map_cons, show enumD k (candD none :: C.map candD) = .tup [.int (k : Int), .str "end"] :: enumD (k + 1) (C.map candD) from rfl, foldO_cons, un2_t, Option.bind_some]
    dsimp only
    rw [et, Option.bind_some, cEq_si, Option.bind_some, if_neg (by decide), cNe_of, cEq_ss, decide_eq_true rfl, Option.map_some, Option.bind_some, if_neg (by decide), Option.bind_some, Option.bind_some]
    exact h1
  | some p :: C, k, z, pl, hC, hl => by
    have hp := hC p List.mem_cons_self
    rw [List.length_cons] at hl
    have et : ((cLt (.int (k : Int)) (.int (h : Int))).bind fun t14 => if t14 = true then some (D.str "G") else some (D.str "K")) = some (.str (S [if k < h then 71 else 75])) := by
      rw [cLt_ii, Option.bind_some]
      by_cases q : k < h
      · rw [if_pos (by simp; omega), if_pos q]; rfl
      · rw [if_neg (by simp; omega), if_neg q]; rfl
    rw [List.map_cons, show enumD k (candD (some p) :: C.map candD) = .tup [.int (k : Int), .int p] :: enumD (k + 1) (C.map candD) from rfl, foldO_cons, un2_t, Option.bind_some]
    dsimp only
    rw [et, Option.bind_some, cEq_ii, Option.bind_some]
    by_cases q : p = 0
    · subst q
      obtain ⟨z', pl', h1, h2, h3⟩ := trial_fold hh hn C (k + 1) (if k < h then 71 else 75) pl (fun p hp => hC p (List.mem_cons_of_mem _ hp)) (by omega)
      rw [if_pos (by decide), Option.bind_some, Option.bind_some]
      exact ⟨z', pl', h1, h2, h3⟩
    · obtain ⟨z', pl', h1, h2, h3⟩ := trial_fold hh hn C (k + 1) z (pl ++ [(p, if k < h then 71 else 75)]) (fun p hp => hC p (List.mem_cons_of_mem _ hp)) (by rw [List.length_append, List.length_singleton]; omega)
      have ek : prsD (kvsOf pl) ++ [D.tup [.int p, .str (S [if k < h then 71 else 75])]] = prsD (kvsOf (pl ++ [(p, if k < h then 71 else 75)])) := by
        unfold prsD kvsOf
        rw [List.map_append, List.map_append]
        rfl
      have el : (prsD (kvsOf pl)).length = pl.length := by unfold prsD kvsOf; rw [List.length_map, List.length_map]
      rw [if_neg (by simpa using q), cNe_of, cEq_is, Option.map_some, Option.bind_some, if_pos (show (!false) = true from rfl), el, chk_pos (by omega), Option.bind_some, Option.bind_some, Option.bind_some, ek]
      refine ⟨z', pl', h1, ?_, h3⟩
      rw [setC, ← h2]
      congr 1
      obtain ⟨m, hm⟩ : ∃ m, p.toNat = m + 1 := ⟨p.toNat - 1, by omega⟩
      rw [hm, List.set_cons_succ, ← tw_set (by omega), hm]
      rfl
theorem next_trial_ok {n : Int} {r : Bool} {C : List (Option Int)} (hn : 1 ≤ n ∧ n ≤ 24) (hC : ∀ p, some p ∈ C → 0 ≤ p ∧ p ≤ n) (h0 : C.length ≤ 1000) :
    F_next_trial (.int n) (.bl r) (.tup (C.map candD)) = some (.str (S (setC (C.length / 2) 0 C (lets0 r n)).reverse)) := by
  unfold F_next_trial
  rw [dLen_t, Option.bind_some, List.length_map, dFdiv_ii, chk_pos ⟨by decide, by omega⟩, Option.bind_some, dTru_b, Option.bind_some]
  have ez : (if r = true then some (D.str "P") else some (D.str "K")) = some (D.str (S [if r = true then 80 else 75])) := by cases r <;> rfl
  have e0 : lets0 r n = (if r = true then 80 else 75) :: tw [] n.toNat := by
    unfold lets0 tw
    refine congrArg _ (List.ext_getElem (by simp) fun i h1 h2 => ?_)
    rw [List.getElem_replicate, List.getElem_map]
    rfl
  obtain ⟨z', pl', h1, h2, h3⟩ := trial_fold (n := n) (h := C.length / 2) (by omega) hn.1 C 0 (if r = true then 80 else 75) [] hC (by simp; exact h0)
  rw [ez, Option.bind_some, dEnum_t, Option.bind_some, show ((C.length : Int) / 2) = ((C.length / 2 : Nat) : Int) by omega, show foldO _ (D.str (S [if r = true then 80 else 75]), ([] : List D)) (enumD 0 (C.map candD)) = some (.str (S [z']), prsD (kvsOf pl')) from h1, Option.bind_some, items_l, Option.bind_some, chk_pos (by rw [List.append_nil]; unfold prsD kvsOf; rw [List.length_map, List.length_map]; omega), Option.bind_some, List.append_nil, trial_with_ok (by omega), Option.bind_some, e0, h2]
  rfl
def finG (n : Int) (r : Bool) : List (Str × D) := putG "for_ring" (.bl r) (putG "bits" (.int n) [])
def stgD (E : List Int) (C : List (Option Int)) : D := .tup [.tup (E.map D.int), .tup (C.map candD)]
def modD (E : List Int) (C : List (Option Int)) : D := .tup [.lst (E.map D.int), .lst (C.map candD)]
def finD (Z : Str → Addr) (n : Int) (r : Bool) (T ST : List D) : D := .ins (Z "Finder") (finG n r ++ [(("carries_told" : Str), D.lst T), (("stages" : Str), D.lst ST)])
section
variable {Z : Str → Addr} {n : Int} {r : Bool} {T pre : List D} {E : List Int} {C : List (Option Int)}
theorem isC_fin {ST : List D} : isC (Z "Finder") (finD Z n r T ST) = some (finG n r ++ [(("carries_told" : Str), D.lst T), (("stages" : Str), D.lst ST)]) := isC_own
theorem fin_bits {ST : List D} : (finG n r ++ [(("carries_told" : Str), D.lst T), (("stages" : Str), D.lst ST)]).lookup ("bits" : Str) = some (.int n) := rfl
theorem fin_ring {ST : List D} : (finG n r ++ [(("carries_told" : Str), D.lst T), (("stages" : Str), D.lst ST)]).lookup ("for_ring" : Str) = some (.bl r) := rfl
theorem fin_stages {ST : List D} : (finG n r ++ [(("carries_told" : Str), D.lst T), (("stages" : Str), D.lst ST)]).lookup ("stages" : Str) = some (.lst ST) := rfl
theorem last_stg : dIx (.lst (pre ++ [stgD E C])) (D.int (-1)) = some (stgD E C) := by rw [dIx_li]; exact atI_lastG
theorem stg1 : dIx (stgD E C) (D.int 1) = some (.tup (C.map candD)) := rfl
theorem fcands_ok : F_Finder_candidates Z (finD Z n r T (pre ++ [stgD E C])) = some (.tup (C.map candD)) := by
  unfold F_Finder_candidates
  rw [isC_fin, Option.bind_some, fin_stages, Option.bind_some, last_stg, Option.bind_some, stg1, Option.bind_some]
theorem ffin_ok : F_Finder_is_finished Z (finD Z n r T (pre ++ [stgD E C])) = some (.bl C.isEmpty) := by
  unfold F_Finder_is_finished
  rw [isC_fin, Option.bind_some, fcands_ok, Option.bind_some, cEq_tnilG, Option.bind_some, List.isEmpty_map]
def trialOf (n : Int) (r : Bool) (C : List (Option Int)) : D := if C.isEmpty = true then .non else .str (S (setC (C.length / 2) 0 C (lets0 r n)).reverse)
theorem ftrial_ok (hn : 1 ≤ n ∧ n ≤ 24) (hC : ∀ p, some p ∈ C → 0 ≤ p ∧ p ≤ n) (h0 : C.length ≤ 1000) : F_Finder_trial Z (finD Z n r T (pre ++ [stgD E C])) = some (trialOf n r C) := by
  unfold F_Finder_trial trialOf
  rw [isC_fin, Option.bind_some, ffin_ok, Option.bind_some, dTru_b, Option.bind_some]
  cases h : C.isEmpty with
  | true => rw [if_pos rfl, if_pos rfl, Option.bind_some]
  | false => rw [if_neg (by decide), if_neg (by decide), Option.bind_some, fin_bits, Option.bind_some, Option.bind_some, fin_ring, Option.bind_some, Option.bind_some, fcands_ok, Option.bind_some, next_trial_ok hn hC h0, Option.bind_some, Option.bind_some]
theorem fknown_ok (hE : EntOk E) (hr : ∀ p ∈ E, 0 ≤ p ∧ p ≤ 24) (hl : E.length ≤ 25) : F_Finder_known Z (finD Z n r T (pre ++ [stgD E C])) = some (ordD (Z "Order") E) := by
  unfold F_Finder_known
  rw [isC_fin, Option.bind_some, fin_stages, Option.bind_some, last_stg, Option.bind_some, show un2 (stgD E C) = some (.tup (E.map D.int), .tup (C.map candD)) from rfl, Option.bind_some]
  dsimp only
  rw [items_t, Option.bind_some, chk_pos (by rw [List.length_map]; omega), Option.bind_some, initX_ok hr (by omega), Option.bind_some]
  dsimp only [exC]
  rw [firsts_id hE]
  rfl
def nameT (n m : Int) : Str := ("Finder(" : Str) ++ sI n ++ (" bits, " : Str) ++ sI m ++ (" answers)" : Str)
end
def oddsL : List D := [D.non, (D.bl true), (D.bl false), (D.int 2), (D.int (-1)), (D.str "1"), (D.tup [(D.int 1)]), (D.lst [(D.int 0)]), (D.dct []), .int (10 ^ 59)]
def carOpen (x : D) : D := .lst [.tup [.str "carry", x], .tup [.str "open"]]
theorem mthC_own {C : Addr} {g : List (Str × D)} {m : Str} (h : g.lookup m = none) : mthC C m (.ins C g) = some g := by
  unfold mthC
  rw [isC_own, Option.bind_some, if_pos h]
section
variable {Z : Str → Addr} {n : Int} {r : Bool} {T pre : List D} {E : List Int} {C : List (Option Int)}
theorem forder_ok (h : C.isEmpty = true) (hE : EntOk E) (hr : ∀ p ∈ E, 0 ≤ p ∧ p ≤ 24) (hl : E.length ≤ 25) : F_Finder_order Z (finD Z n r T (pre ++ [stgD E C])) = some (.ok (ordD (Z "Order") E)) := by
  unfold F_Finder_order
  rw [isC_fin, Option.bind_some, ffin_ok, Option.bind_some, dTru_b, Option.bind_some, if_neg (by rw [h]; decide), Option.bind_some, fknown_ok hE hr hl, Option.bind_some]
end
def nextH (H E : List Int) : Option Int := H[E.length]?
structure InvH (n lo : Int) (H E : List Int) (C : List (Option Int)) : Prop where
  eok : EOkF n lo E
  cin : ∀ p, some p ∈ C → p ∉ E ∧ lo ≤ p ∧ p ≤ n
  pre : E <+: H
  nd : C.Nodup
  nxt : C ≠ [] → nextH H E ∈ C
  zer : C ≠ [] → (0 : Int) ∉ E
  lst : none ∉ C.dropLast
  fin : C = [] → E = H
structure HidOk (n lo : Int) (H : List Int) : Prop where
  ent : EntOk H
  rg : ∀ p ∈ H, lo ≤ p ∧ p ≤ n
  ne : H ≠ []
theorem pre_eq {H E : List Int} (h : E <+: H) (hl : H.length ≤ E.length) : E = H := by
  obtain ⟨t, rfl⟩ := h
  rw [List.length_append] at hl
  have : t = [] := List.length_eq_zero_iff.mp (by omega)
  rw [this, List.append_nil]
theorem nextH_some {H E : List Int} {p : Int} (h : E <+: H) (e : nextH H E = some p) : E ++ [p] <+: H ∧ p ∈ H := by
  obtain ⟨t, rfl⟩ := h
  unfold nextH at e
  rw [List.getElem?_append_right (Nat.le_refl _), Nat.sub_self] at e
  cases t with
  | nil => simp at e
  | cons a t =>
    have e : a = p := by simpa using e
    subst e
    exact ⟨⟨t, by rw [List.append_assoc]; rfl⟩, List.mem_append_right _ List.mem_cons_self⟩
theorem nextH_none {H E : List Int} (h : E <+: H) (e : nextH H E = none) : E = H := pre_eq h (List.getElem?_eq_none_iff.mp e)
theorem upto_memF {a b k : Int} (h : a ≤ k ∧ k < b) : k ∈ upto a b := List.mem_map.mpr ⟨(k - a).toNat, List.mem_range.mpr (by omega), by omega⟩
theorem upto_nd {a b : Int} : (upto a b).Nodup := by
  unfold upto
  rw [List.Nodup, List.pairwise_map]
  exact List.nodup_range.imp fun h q => h (by omega)
theorem opt_inv {n lo : Int} {H E : List Int} (hH : HidOk n lo H) (hE : EOkF n lo E) (hp : E <+: H) : InvH n lo H E (optC n lo E) := by
  have hz : E.getLast? = some 0 → E = H := fun h => by
    by_cases q : H.length ≤ E.length
    · exact pre_eq hp q
    · obtain ⟨t, rfl⟩ := hp
      rw [List.length_append] at q
      have ht : t ≠ [] := fun z => by rw [z] at q; simp at q
      refine absurd ?_ hH.ent.2
      rw [List.dropLast_append_of_ne_nil ht]
      exact List.mem_append_left _ (List.mem_of_getLast? h)
  refine ⟨hE, fun p h => opt_in h, hp, ?_, fun h => ?_, fun h => ?_, ?_, fun h => ?_⟩
  · unfold optC
    split
    · exact List.nodup_nil
    · rw [List.nodup_append]
      refine ⟨List.Pairwise.map some (fun a b h q => h (Option.some.inj q)) (List.Pairwise.filter _ upto_nd), by split <;> simp, fun a ha b hb => ?_⟩
      obtain ⟨q, _, rfl⟩ := List.mem_map.mp ha
      split at hb
      · exact absurd hb List.not_mem_nil
      · rw [List.mem_singleton.mp hb]; simp
  · unfold optC at h ⊢
    by_cases q : E.getLast? = some 0
    · rw [if_pos q] at h; exact absurd rfl h
    · rw [if_neg q]
      cases e : nextH H E with
      | some p =>
        obtain ⟨h1, h2⟩ := nextH_some hp e
        have hr := hH.rg p h2
        have hnd : (E ++ [p]).Nodup := h1.sublist.nodup hH.ent.1
        have hpE : p ∉ E := fun z => (List.nodup_append.mp hnd).2.2 p z p (List.mem_singleton_self _) rfl
        exact List.mem_append_left _ (List.mem_map.mpr ⟨p, List.mem_filter.mpr ⟨upto_memF (by omega), by simpa using hpE⟩, rfl⟩)
      | none =>
        have hE2 := nextH_none hp e
        refine List.mem_append_right _ ?_
        rw [if_neg (by rw [hE2]; simpa using hH.ne)]
        exact List.mem_singleton_self _
  · intro h0
    have hl : E.getLast? ≠ some 0 := fun q => h (by unfold optC; rw [if_pos q])
    have hd : (0 : Int) ∉ E.dropLast := by
      obtain ⟨t, rfl⟩ := hp
      intro q
      refine hH.ent.2 ?_
      by_cases ht : t = []
      · rw [ht, List.append_nil]; exact q
      · rw [List.dropLast_append_of_ne_nil ht]; exact List.mem_append_left _ ((List.dropLast_sublist _).mem q)
    have hne : E ≠ [] := fun z => by rw [z] at h0; exact absurd h0 List.not_mem_nil
    rw [← List.dropLast_concat_getLast hne] at h0
    rcases List.mem_append.mp h0 with q | q
    · exact hd q
    · exact hl (by rw [List.getLast?_eq_some_getLast hne, ← List.mem_singleton.mp q])
  · unfold optC
    split
    · simp
    · split
      · rw [List.append_nil]
        intro q
        obtain ⟨a, _, e⟩ := List.mem_map.mp ((List.dropLast_sublist _).mem q)
        cases e
      · rw [List.dropLast_concat]
        intro q
        obtain ⟨a, _, e⟩ := List.mem_map.mp q
        cases e
  · unfold optC at h
    split at h
    · rename_i q; exact hz q
    · obtain ⟨h1, h2⟩ := List.append_eq_nil_iff.mp h
      split at h2
      · rename_i q
        have hE0 : E = [] := List.isEmpty_iff.mp q
        subst hE0
        cases H with
        | nil => rfl
        | cons a H =>
          have hr := hH.rg a List.mem_cons_self
          have : some a ∈ (leftP n lo []).map some := List.mem_map.mpr ⟨a, List.mem_filter.mpr ⟨upto_memF (by omega), by simp⟩, rfl⟩
          rw [h1] at this
          exact absurd this List.not_mem_nil
      · simp at h2
theorem settle_inv {n lo : Int} {H : List Int} (hH : HidOk n lo H) : ∀ (k : Nat) (E : List Int) (C : List (Option Int)), InvH n lo H E C → InvH n lo H (settle n lo k E C).1 (settle n lo k E C).2
  | 0, E, C, h => h
  | k + 1, E, C, h => by
    match C, h with
    | [], h => exact h
    | [none], h =>
      have e : nextH H E = none := List.mem_singleton.mp (h.nxt (by simp))
      exact ⟨h.eok, fun p q => absurd q List.not_mem_nil, h.pre, List.nodup_nil, fun q => absurd rfl q, fun q => absurd rfl q, fun q => absurd q List.not_mem_nil, fun _ => nextH_none h.pre e⟩
    | [some p], h =>
      have e : nextH H E = some p := List.mem_singleton.mp (h.nxt (by simp))
      exact settle_inv hH k (E ++ [p]) (optC n lo (E ++ [p])) (opt_inv hH (h.eok.snoc (h.cin p List.mem_cons_self)) (nextH_some h.pre e).1)
    | a :: b :: C, h =>
      rw [settle_two]
      exact h
theorem setC_at {h : Nat} {p : Int} (hp : 0 ≤ p) : ∀ {C : List (Option Int)} {k : Nat} {L : List Nat}, C.Nodup → (∀ q, some q ∈ C → 0 ≤ q ∧ q < (L.length : Int)) →
    (setC h k C L).getD p.toNat 0 = if some p ∈ C.take (h - k) then 71 else if some p ∈ C then 75 else L.getD p.toNat 0
  | [], k, L, _, _ => by simp [setC]
  | none :: C, k, L, hn, hC => by
    have ih := setC_at (h := h) hp (C := C) (k := k + 1) (L := L) (List.nodup_cons.mp hn).2 fun q hq => hC q (List.mem_cons_of_mem _ hq)
    rw [setC, ih]
    have e : (some p ∈ (none :: C : List (Option Int)).take (h - k)) = (some p ∈ C.take (h - (k + 1))) := by
      cases q : h - k with
      | zero => rw [show h - (k + 1) = 0 by omega]; simp
      | succ m => rw [show h - (k + 1) = m by omega]; simp
    simp only [e, List.mem_cons, reduceCtorEq, false_or]
  | some q :: C, k, L, hn, hC => by
    obtain ⟨hq1, hq2⟩ := List.nodup_cons.mp hn
    have hq := hC q List.mem_cons_self
    have ih := setC_at (h := h) hp (C := C) (k := k + 1) (L := L.set q.toNat (if k < h then 71 else 75)) hq2 fun q hq => by rw [List.length_set]; exact hC q (List.mem_cons_of_mem _ hq)
    rw [setC, ih]
    by_cases e : q = p
    · subst e
      have n1 : ¬ some q ∈ C.take (h - (k + 1)) := fun z => hq1 (List.mem_of_mem_take z)
      rw [if_neg n1, if_neg hq1, List.getD_eq_getElem?_getD, List.getElem?_set, if_pos rfl, if_pos (by omega), Option.getD_some]
      by_cases z : k < h
      · rw [if_pos z, if_pos]
        obtain ⟨m, hm⟩ : ∃ m, h - k = m + 1 := ⟨h - k - 1, by omega⟩
        rw [hm]
        simp
      · rw [if_neg z, if_neg (by rw [show h - k = 0 by omega]; simp), if_pos List.mem_cons_self]
    · have e1 : (some p ∈ (some q :: C : List (Option Int)).take (h - k)) = (some p ∈ C.take (h - (k + 1))) := by
        cases z : h - k with
        | zero => rw [show h - (k + 1) = 0 by omega]; simp
        | succ m => rw [show h - (k + 1) = m by omega]; simp [Ne.symm e]
      have e2 : (some p ∈ (some q :: C : List (Option Int))) = (some p ∈ C) := by simp [Ne.symm e]
      have e3 : (L.set q.toNat (if k < h then 71 else 75)).getD p.toNat 0 = L.getD p.toNat 0 := by
        rw [List.getD_eq_getElem?_getD, List.getElem?_set, if_neg (by omega), List.getD_eq_getElem?_getD]
      simp only [e1, e2, e3]
theorem cut_takeF {l : List D} {k : Nat} : cutD l none (some (k : Int)) = l.take k := by
  unfold cutD HT.sIx
  simp only [List.drop_zero]
  rw [if_neg (by omega), Int.toNat_natCast, Nat.sub_zero]
  by_cases h : k ≤ l.length
  · rw [Nat.min_eq_left h]
  · rw [Nat.min_eq_right (by omega), List.take_of_length_le (by omega), List.take_of_length_le (by omega)]
theorem cut_dropF {l : List D} {k : Nat} : cutD l (some (k : Int)) none = l.drop k := by
  unfold cutD HT.sIx
  by_cases h : k ≤ l.length
  · simp [show ¬ ((k : Int) < 0) by omega, h]
    rw [List.take_of_length_le (by simp)]
  · simp [show ¬ ((k : Int) < 0) by omega, show l.length ≤ k by omega]
def lookC (L : List Nat) : List Int → Nat
  | [] => 80
  | p :: H => if L.getD p.toNat 0 = 80 then lookC L H else L.getD p.toNat 0
section
variable {n : Int} {r : Bool} {H E : List Int} {C : List (Option Int)}
theorem lets0_at {p : Int} (h : 1 ≤ p ∧ p ≤ n) : (lets0 r n).getD p.toNat 0 = 80 := by
  obtain ⟨m, hm⟩ : ∃ m, p.toNat = m + 1 := ⟨p.toNat - 1, by omega⟩
  unfold lets0
  rw [hm, List.getD_cons_succ, List.getD_eq_getElem?_getD, List.getElem?_replicate, if_pos (by omega)]
  rfl
def goesG (H E : List Int) (C : List (Option Int)) : Bool := decide (nextH H E ∈ C.take (C.length / 2))
theorem take_drop {x : Option Int} {C : List (Option Int)} (hne : C ≠ []) (h : x ∈ C.take (C.length / 2)) : x ∈ C.dropLast := by
  have : 0 < C.length := List.length_pos_iff.mpr hne
  rw [List.dropLast_eq_take, show C.take (C.length / 2) = (C.take (C.length - 1)).take (C.length / 2) from by rw [List.take_take, Nat.min_eq_left (by omega)]] at *
  exact List.mem_of_mem_take h
theorem answer_ok (hn : 1 ≤ n ∧ n ≤ 24) (hH : HidOk n (lowB r) H) (h : InvH n (lowB r) H E C) (hne : C ≠ []) : decide (lookC (setC (C.length / 2) 0 C (lets0 r n)) H = 71) = goesG H E C := by
  have hb := lowB_b (r := r)
  have hl : ((lets0 r n).length : Int) = n + 1 := by unfold lets0; rw [List.length_cons, List.length_replicate]; omega
  have hat : ∀ {p : Int}, 0 ≤ p → (setC (C.length / 2) 0 C (lets0 r n)).getD p.toNat 0 = if some p ∈ C.take (C.length / 2) then 71 else if some p ∈ C then 75 else (lets0 r n).getD p.toNat 0 := fun hp => by
    have := setC_at (h := C.length / 2) hp (C := C) (k := 0) (L := lets0 r n) h.nd fun q hq => by have := h.cin q hq; omega
    rwa [Nat.sub_zero] at this
  have skip : ∀ (E' t : List Int), (∀ e ∈ E', e ∈ E) → lookC (setC (C.length / 2) 0 C (lets0 r n)) (E' ++ t) = lookC (setC (C.length / 2) 0 C (lets0 r n)) t := by
    intro E' t
    induction E' with
    | nil => intro _; rfl
    | cons e E' ih =>
      intro hE
      have he := hE e List.mem_cons_self
      have hr := h.eok.rg e he
      have n1 : ¬ some e ∈ C := fun q => (h.cin e q).1 he
      have e0 : e ≠ 0 := fun q => h.zer hne (q ▸ he)
      have : (setC (C.length / 2) 0 C (lets0 r n)).getD e.toNat 0 = 80 := by
        rw [hat (by omega), if_neg (fun q => n1 (List.mem_of_mem_take q)), if_neg n1, lets0_at (by omega)]
      rw [List.cons_append, lookC, if_pos this]
      exact ih fun x hx => hE x (List.mem_cons_of_mem _ hx)
  have hp := h.pre
  obtain ⟨t, ht⟩ := hp
  have hx := h.nxt hne
  unfold goesG
  rw [← ht, skip E t fun e he => he]
  have en : nextH (E ++ t) E = t[0]? := by
    unfold nextH
    rw [List.getElem?_append_right (Nat.le_refl _), Nat.sub_self]
  rw [← ht, en] at hx
  rw [en]
  cases t with
  | nil =>
    have : ¬ none ∈ C.take (C.length / 2) := fun q => h.lst (take_drop hne q)
    exact decide_eq_decide.mpr ⟨fun q => absurd q (show ¬ (80 : Nat) = 71 by decide), fun q => absurd q this⟩
  | cons p t =>
    have hr := hH.rg p (by rw [← ht]; exact List.mem_append_right _ List.mem_cons_self)
    have hx : some p ∈ C := hx
    show decide (lookC _ (p :: t) = 71) = decide (some p ∈ C.take (C.length / 2))
    rw [lookC, hat (by omega)]
    by_cases q : some p ∈ C.take (C.length / 2)
    · rw [if_pos q, if_neg (by decide), decide_eq_true q]; rfl
    · rw [if_neg q, if_pos hx, if_neg (by decide), decide_eq_false q]; rfl
def halfC (a : Bool) (C : List (Option Int)) : List (Option Int) := if a = true then C.take (C.length / 2) else C.drop (C.length / 2)
theorem half_inv {lo : Int} (h : InvH n lo H E C) (hne : C ≠ []) : InvH n lo H E (halfC (goesG H E C) C) := by
  have hx := h.nxt hne
  have hm : nextH H E ∈ halfC (goesG H E C) C := by
    unfold halfC goesG
    by_cases q : nextH H E ∈ C.take (C.length / 2)
    · rw [if_pos (decide_eq_true q)]; exact q
    · rw [if_neg (by simpa using q)]
      rw [← List.take_append_drop (C.length / 2) C] at hx
      exact (List.mem_append.mp hx).resolve_left q
  have hs : (halfC (goesG H E C) C).Sublist C := by
    unfold halfC
    split
    · exact List.take_sublist _ _
    · exact List.drop_sublist _ _
  refine ⟨h.eok, fun p q => h.cin p (hs.mem q), h.pre, hs.nodup h.nd, fun _ => hm, fun _ => h.zer hne, fun q => h.lst ?_, fun q => absurd hm (by rw [q]; exact List.not_mem_nil)⟩
  unfold halfC at q
  split at q
  · exact take_drop hne ((List.dropLast_sublist _).mem q)
  · have e : C.drop (C.length / 2) ≠ [] := fun z => by rw [z] at q; simp at q
    conv => rw [← List.take_append_drop (C.length / 2) C]
    rw [List.dropLast_append_of_ne_nil e]
    exact List.mem_append_right _ q
theorem single_of {lo : Int} (h : InvH n lo H E C) : ∀ p, C = [some p] → p ∉ E ∧ lo ≤ p ∧ p ≤ n := fun p e => h.cin p (by rw [e]; exact List.mem_singleton_self _)
theorem dir_half {a : Bool} {mk : List D → D} (hmk : ∀ l u v, dCut (mk l) u v = some (mk (cutD l u v))) {h : Nat} (hh : h = C.length / 2) :
    ((cEq (.int (if a = true then 1 else 0)) (D.int 1)).bind fun t4 => if t4 = true then (dEnd (.int (h : Int))).bind fun i5 => (dCut (mk (C.map candD)) none (some i5)).bind fun v6 => some v6 else (dEnd (.int (h : Int))).bind fun i7 => (dCut (mk (C.map candD)) (some i7) none).bind fun v8 => some v8) = some (mk ((halfC a C).map candD)) := by
  subst hh
  unfold halfC
  cases a with
  | true => rw [if_pos rfl, cEq_ii, Option.bind_some, if_pos (by decide), dEnd_i, Option.bind_some, hmk, Option.bind_some, cut_takeF, ← List.map_take, if_pos rfl]
  | false => rw [if_neg (by decide), cEq_ii, Option.bind_some, if_neg (by decide), dEnd_i, Option.bind_some, hmk, Option.bind_some, cut_dropF, ← List.map_drop, if_neg (by decide)]
theorem lfs_E {L : List Addr} : ∀ {E : List Int}, lfsN L (E.map D.int) = true
  | [] => rfl
  | e :: E => by show (lfN L (.int e) && lfsN L (E.map D.int)) = true; rw [lfs_E]; rfl
theorem lfs_C {L : List Addr} : ∀ {C : List (Option Int)}, lfsN L (C.map candD) = true
  | [] => rfl
  | none :: C => by show (lfN L (.str "end") && lfsN L (C.map candD)) = true; rw [lfs_C]; rfl
  | some p :: C => by show (lfN L (.int p) && lfsN L (C.map candD)) = true; rw [lfs_C]; rfl
theorem lf_stg {L : List Addr} {E : List Int} {C : List (Option Int)} : lfN L (stgD E C) = true := by
  show (lfsN L (E.map D.int) && (lfsN L (C.map candD) && true)) = true
  rw [lfs_E, lfs_C]
  rfl
theorem tell_ok {Z : Str → Addr} {T pre : List D} {a : Bool} (hn : 1 ≤ n ∧ n ≤ 24) (h : InvH n (lowB r) H E (halfC a C)) (hne : C ≠ []) (hT : T.length < 1000) (hp : pre.length < 1000) :
    F_Finder_tell Z (finG n r) (.int (if a = true then 1 else 0)) T (pre ++ [stgD E C]) = some (.non, finG n r, T ++ [.int (if a = true then 1 else 0)], (pre ++ [stgD E C]) ++ [stgD (settleR n (lowB r) E (halfC a C)).1 (settleR n (lowB r) E (halfC a C)).2]) := by
  have hc : C.isEmpty = false := by cases C with | nil => exact absurd rfl hne | cons a C => rfl
  have ef : D.ins (Z "Finder") (finG n r ++ [(("carries_told" : Str), D.lst T), (("stages" : Str), D.lst (pre ++ [stgD E C]))]) = finD Z n r T (pre ++ [stgD E C]) := rfl
  have eb : F_is_between (.int (if a = true then 1 else 0)) (.int 0) (.int 1) = some (.bl true) := by rw [btw_int]; cases a <;> rfl
  unfold F_Finder_tell
  simp only [ef]
  rw [isC_fin, Option.bind_some, ffin_ok, Option.bind_some, dTru_b, Option.bind_some, if_neg (by rw [hc]; decide), eb, Option.bind_some, dTru_b, Option.bind_some, if_neg (by decide), Option.bind_some, fin_stages, Option.bind_some, last_stg, Option.bind_some, chk_pos lf_stg, Option.bind_some, show un2 (stgD E C) = some (.tup (E.map D.int), .tup (C.map candD)) from rfl, Option.bind_some]
  dsimp only
  rw [dLen_t, Option.bind_some, List.length_map, dFdiv_ii, chk_pos ⟨by decide, by omega⟩, Option.bind_some, show ((C.length : Int) / 2) = ((C.length / 2 : Nat) : Int) by omega, dir_half (mk := D.tup) (fun l u v => rfl) rfl, Option.bind_some, chk_pos (show (finG n r).lookup ("stages" : Str) = none from rfl), Option.bind_some, Option.bind_some, fin_bits, Option.bind_some, Option.bind_some, fin_ring, Option.bind_some, show F_settled_stage (.int n) (.bl r) (.tup (E.map D.int)) (.tup ((halfC a C).map candD)) = some (stgD (settleR n (lowB r) E (halfC a C)).1 (settleR n (lowB r) E (halfC a C)).2) from settled_ok hn h.eok (single_of h), Option.bind_some, chk_pos lf_stg, Option.bind_some, chk_pos (by rw [List.length_append, List.length_singleton]; omega), Option.bind_some, chk_pos (show (finG n r).lookup ("carries_told" : Str) = none from rfl), Option.bind_some, chk_pos (by omega), Option.bind_some]
end
theorem erase_map : ∀ (R : List Int) (k : Nat), (R.map D.int).eraseIdx k = (R.eraseIdx k).map D.int
  | [], _ => rfl
  | a :: R, 0 => rfl
  | a :: R, k + 1 => by
    show D.int a :: (R.map D.int).eraseIdx k = D.int a :: (R.eraseIdx k).map D.int
    rw [erase_map R k]
theorem perm_erase : ∀ {R : List Int} {k : Nat} {v : Int}, R[k]? = some v → (v :: R.eraseIdx k).Perm R
  | [], _, _, h => by simp at h
  | a :: R, 0, v, h => by
    have e : a = v := by simpa using h
    subst e
    exact List.Perm.refl _
  | a :: R, k + 1, v, h => by
    have h : R[k]? = some v := by simpa using h
    exact (List.Perm.swap a v (R.eraseIdx k)).trans ((perm_erase h).cons a)
section
variable {n : Int} {r : Bool}
theorem upto_at {a b : Int} {i : Nat} {p : Int} (h : (upto a b)[i]? = some p) : p = a + (i : Int) := by
  unfold upto at h
  rw [List.getElem?_map] at h
  obtain ⟨j, h1, rfl⟩ := Option.map_eq_some_iff.mp h
  have hi := (List.getElem?_eq_some_iff.mp h1).1
  rw [List.length_range] at hi
  rw [List.getElem?_range hi] at h1
  cases h1
  rfl
theorem upto_lenF {a b : Int} : (upto a b).length = (b - a).toNat := by unfold upto; simp
theorem hid_down (hn : 1 + lowB r ≤ n ∧ n ≤ 24) {k : Nat} (hk : k < (upto (lowB r) (n + 1)).length) : HidOk n (lowB r) ((upto (lowB r) (n + 1)).drop k).reverse := by
  have hb := lowB_b (r := r)
  refine ⟨⟨by rw [List.Nodup, List.pairwise_reverse]; exact ((List.drop_sublist _ _).nodup upto_nd).imp fun h => Ne.symm h, ?_⟩, fun p hp => ?_, fun h => ?_⟩
  · rw [List.dropLast_reverse]
    intro q
    have q := List.mem_reverse.mp q
    rw [List.tail_drop] at q
    obtain ⟨i, hi⟩ := List.getElem?_of_mem q
    rw [List.getElem?_drop] at hi
    have := upto_at hi
    omega
  · have := upto_mem ((List.drop_sublist _ _).mem (List.mem_reverse.mp hp))
    omega
  · have := congrArg List.length h
    rw [List.length_reverse, List.length_drop] at this
    simp at this
    omega
theorem cut0 {P : List Int} (hn : P.Nodup) {i : Nat} (hi : P[i]? = some 0) : EntOk (P.take (i + 1)) := by
  refine ⟨(List.take_sublist _ _).nodup hn, fun q => ?_⟩
  have hl := (List.getElem?_eq_some_iff.mp hi).1
  rw [List.dropLast_eq_take, List.length_take, List.take_take, show min (min (i + 1) P.length - 1) (i + 1) = i by omega] at q
  obtain ⟨j, hj⟩ := List.getElem?_of_mem q
  have hj2 : j < i := by
    have := (List.getElem?_eq_some_iff.mp hj).1
    rw [List.length_take] at this
    omega
  rw [List.getElem?_take_of_lt hj2] at hj
  have h1 := (List.getElem?_eq_some_iff.mp hj)
  have h2 := (List.getElem?_eq_some_iff.mp hi)
  obtain ⟨l1, e1⟩ := h1
  obtain ⟨l2, e2⟩ := h2
  exact (List.pairwise_iff_getElem.mp hn) j i l1 l2 hj2 (e1.trans e2.symm)
theorem find0 : ∀ {P : List Int}, (0 : Int) ∈ P → ∃ i, (P.map D.int).findIdx? (isI 0) = some i ∧ P[i]? = some 0
  | [], h => absurd h List.not_mem_nil
  | p :: P, h => by
    by_cases e : p = 0
    · subst e
      exact ⟨0, rfl, rfl⟩
    · obtain ⟨i, h1, h2⟩ := find0 (List.mem_of_ne_of_mem (Ne.symm e) h)
      refine ⟨i + 1, ?_, h2⟩
      rw [List.map_cons, List.findIdx?_cons]
      have : isI 0 (.int p) = false := by show decide (p = 0) = false; exact decide_eq_false e
      rw [this, h1]
      rfl
theorem fl_all : ∀ {P : List Int}, (P.map D.int).all isFl = true
  | [] => rfl
  | p :: P => by rw [List.map_cons, List.all_cons, fl_all]; rfl
theorem hidden_ok {s : Hs} {m : Int} (hs : HOk s m) (hm : m ≤ 900000) (hn : 1 + lowB r ≤ n ∧ n ≤ 24) :
    Gives (F_Lhidden (penL s) (.int n) (.int (lowB r))) fun q => ∃ H s', q = (.tup (H.map D.int), penL s') ∧ HidOk n (lowB r) H ∧ HOk s' (m + 40) := by
  have hb := lowB_b (r := r)
  have hl := upto_lenF (a := lowB r) (b := n + 1)
  unfold F_Lhidden
  rw [dAdd_ii, Option.bind_some, dRange_2, chk_pos (by omega), Option.bind_some, rngD_upto]
  refine .bind ((next_ok hs (by omega) (by decide)).imp fun q hq => ?_)
  obtain ⟨w, s1, rfl, w0, w1, h1⟩ := hq
  dsimp only
  rw [cEq_ii, Option.bind_some]
  by_cases hw : w = 0
  · subst hw
    rw [if_pos (by decide), dLen_l, Option.bind_some, List.length_map]
    refine .bind (.bind ((next_ok h1 (by omega) (by omega)).imp fun q hq => ?_))
    obtain ⟨k, s2, rfl, k0, k1, h2⟩ := hq
    dsimp only
    rw [dEnd_i, Option.bind_some, dCut_l, Option.bind_some, show k = ((k.toNat : Nat) : Int) by omega, cut_dropF, ← List.map_drop]
    refine .mk ?_
    dsimp only
    rw [show ∀ l : List D, dRev (.lst l) = some (.lst l.reverse) from fun _ => rfl, Option.bind_some, lList_l, Option.bind_some, ← List.map_reverse]
    exact .mk ⟨_, s2, rfl, hid_down hn (by omega), h2.mono (by omega)⟩
  · rw [if_neg (by simpa using hw), dLen_l, Option.bind_some, List.length_map]
    refine .bind ((next_ok h1 (by omega) (by omega)).imp fun q hq => ?_)
    obtain ⟨j, s2, rfl, j0, j1, h2⟩ := hq
    dsimp only
    obtain ⟨c, ec, c0, c1⟩ : ∃ c : Int, dIx (D.lst [(D.int 1), .int (1 + j), .int ((upto (lowB r) (n + 1)).length : Int)]) (.int (w - 1)) = some (.int c) ∧ 1 ≤ c ∧ c ≤ ((upto (lowB r) (n + 1)).length : Int) := by
      have : w = 1 ∨ w = 2 ∨ w = 3 := by omega
      rcases this with rfl | rfl | rfl
      · exact ⟨1, rfl, by omega, by omega⟩
      · exact ⟨1 + j, rfl, by omega, by omega⟩
      · exact ⟨_, rfl, by omega, by omega⟩
    rw [dAdd_ii, Option.bind_some, Option.bind_some, dSub_ii, Option.bind_some, ec, Option.bind_some, dRange_1, chk_pos (by omega), Option.bind_some, rngD_len, chk_pos (by omega), Option.bind_some]
    refine .bind ((gives_mapS (fun i acc (st : List D × List D) => ∃ (P R : List Int) (s' : Hs), acc = P.map D.int ∧ st = (R.map D.int, penL s') ∧ P.length = i ∧ R.length + i = (upto (lowB r) (n + 1)).length ∧ (P ++ R).Perm (upto (lowB r) (n + 1)) ∧ (i ≤ 30 → HOk s' (m + 2 + (i : Int)))) ⟨[], _, s2, rfl, rfl, rfl, rfl, List.Perm.refl _, fun _ => by simpa using h2.mono (by omega)⟩ fun i x acc st hx hI => ?_).imp fun q hq => ?_)
    · obtain ⟨P, R, s3, rfl, rfl, hP, hR, hp, h3⟩ := hI
      have hi : i < c.toNat := by
        have := (List.getElem?_eq_some_iff.mp hx).1
        rwa [rngD_len] at this
      dsimp only
      rw [dLen_l, Option.bind_some, List.length_map]
      refine .bind ((next_ok (h3 (by omega)) (by omega) (by omega)).imp fun q hq => ?_)
      obtain ⟨k, s4, rfl, k0, k1, h4⟩ := hq
      dsimp only
      obtain ⟨v, hv⟩ : ∃ v, R[k.toNat]? = some v := ⟨_, List.getElem?_eq_getElem (by omega)⟩
      have ep : lPopAt (R.map D.int) (.int k) = some (.int v, (R.eraseIdx k.toNat).map D.int) := by
        show ((chk (-(2 ^ 62) ≤ k ∧ k < 2 ^ 62) ()).bind fun _ => (ixN (R.map D.int).length k).bind fun m => ((R.map D.int)[m]?).map fun v => (v, (R.map D.int).eraseIdx m)) = _
        rw [chk_pos (by omega), Option.bind_some, List.length_map, ixN_of k0 k1, Option.bind_some, List.getElem?_map, hv]
        rw [Option.map_some, Option.map_some, erase_map]
      rw [ep, Option.bind_some]
      refine .mk ⟨P ++ [v], R.eraseIdx k.toNat, s4, by rw [List.map_append]; rfl, rfl, by rw [List.length_append, hP]; rfl, by rw [List.length_eraseIdx_of_lt (by omega)]; omega, ?_, fun _ => h4.mono (by omega)⟩
      refine List.Perm.trans ?_ hp
      rw [List.append_assoc]
      refine List.Perm.append_left P ?_
      exact perm_erase hv
    · obtain ⟨P, R, s3, e1, e2, hP, hR, hp, h3⟩ := hq
      obtain ⟨q1, q2⟩ := q
      dsimp only at e1 e2 ⊢
      subst e1 e2
      rw [rngD_len] at hP h3
      have hnd : P.Nodup := (List.nodup_append.mp (hp.nodup_iff.mpr upto_nd)).1
      have hrg : ∀ p ∈ P, lowB r ≤ p ∧ p ≤ n := fun p hp2 => by
        have := upto_mem (hp.mem_iff.mp (List.mem_append_left R hp2))
        omega
      have hne : P ≠ [] := fun z => by rw [z] at hP; simp at hP; omega
      rw [cIn_ints, Option.bind_some]
      by_cases h0 : (0 : Int) ∈ P
      · obtain ⟨i, f1, f2⟩ := find0 h0
        have ed : dLidx (.lst (P.map D.int)) (.int 0) = some (.int (i : Int)) := by
          show (if (P.map D.int).all isFl = true then ((P.map D.int).findIdx? (isI 0)).map fun (j : Nat) => D.int (j : Int) else none) = _
          rw [if_pos fl_all, f1]
          rfl
        rw [decide_eq_true h0, if_pos rfl, show lstD (.lst (P.map D.int)) = some (P.map D.int) from rfl, Option.bind_some, ed, Option.bind_some, dAdd_ii, Option.bind_some, dEnd_i, Option.bind_some, dCut_l, Option.bind_some, Option.bind_some, show ((i : Int) + 1) = ((i + 1 : Nat) : Int) by omega, cut_takeF, ← List.map_take, lList_l, Option.bind_some]
        refine .mk ⟨_, s3, rfl, ⟨cut0 hnd f2, fun p q => hrg p ((List.take_sublist _ _).mem q), fun z => ?_⟩, (h3 (by omega)).mono (by omega)⟩
        have e := (List.getElem?_eq_some_iff.mp f2).1
        have l : (P.take (i + 1)).length = i + 1 := by rw [List.length_take]; omega
        rw [z] at l
        simp at l
      · rw [decide_eq_false h0, if_neg (by decide), Option.bind_some, lList_l, Option.bind_some]
        exact .mk ⟨P, s3, rfl, ⟨⟨hnd, fun q => h0 ((List.dropLast_sublist _).mem q)⟩, hrg, hne⟩, (h3 (by omega)).mono (by omega)⟩
end
theorem whileO_gives {S : Type} {cF : S → Option Bool} {f : S → Option S} (I : Nat → S → Prop) (Q : S → Prop) (h : ∀ k s, I k s → (cF s = some false ∧ Q s) ∨ (cF s = some true ∧ Gives (f s) fun s' => ∃ k', k' < k ∧ I k' s')) : ∀ (fuel k : Nat) (s : S), I k s → k < fuel → Gives (whileO cF f fuel s) Q
  | 0, k, s, _, hk => absurd hk (Nat.not_lt_zero _)
  | fuel + 1, k, s, hI, hk => by
    rw [whileO]
    rcases h k s hI with ⟨e, q⟩ | ⟨e, g⟩
    · rw [e, Option.bind_some, if_neg (by decide)]
      exact .mk q
    · rw [e, Option.bind_some, if_pos rfl]
      refine .bind (g.imp fun s' hc => ?_)
      obtain ⟨k', hk', hI'⟩ := hc
      exact whileO_gives I Q h fuel k' s' hI' (by omega)
def wC (m : Nat) : Nat := if m ≤ 1 then 0 else if m ≤ 2 then 1 else if m ≤ 4 then 2 else if m ≤ 8 then 3 else if m ≤ 16 then 4 else 5
theorem wC_half : ∀ m, m < 27 → 2 ≤ m → wC (m / 2) < wC m ∧ wC (m - m / 2) < wC m := by decide
theorem wC_5 {m : Nat} : wC m ≤ 5 := by unfold wC; repeat' split
                                        all_goals omega
def sumW : Nat → Nat
  | 0 => 0
  | m + 1 => sumW m + wC (m + 1)
def nPos (n lo : Int) : Nat := (n + 1 - lo).toNat
def phi (n lo : Int) (E : List Int) (C : List (Option Int)) : Nat := wC C.length + sumW (nPos n lo - E.length)
def mostN (n lo : Int) : Nat := wC (nPos n lo) + sumW (nPos n lo)
theorem sumW_110 : ∀ m, m < 26 → wC m + sumW m ≤ 110 := by decide
theorem left_len {n lo : Int} {E : List Int} (h : EOkF n lo E) : (leftP n lo E).length + E.length = nPos n lo := by
  have hp : ((upto lo (n + 1)).filter fun p => decide (p ∈ E)).Perm E := by
    refine (List.perm_ext_iff_of_nodup (upto_nd.filter _) h.nd).mpr fun p => ?_
    rw [List.mem_filter]
    constructor
    · intro q; exact of_decide_eq_true q.2
    · intro q
      have := h.rg p q
      exact ⟨upto_memF (by omega), decide_eq_true q⟩
  have e := List.length_eq_countP_add_countP (l := upto lo (n + 1)) (fun p => decide (p ∈ E))
  rw [upto_lenF, List.countP_eq_length_filter, hp.length_eq, List.countP_eq_length_filter] at e
  have e2 : (upto lo (n + 1)).filter (fun a => !decide (a ∈ E)) = leftP n lo E := by
    unfold leftP
    congr 1
    funext a
    by_cases q : a ∈ E <;> simp [q]
  have e3 : (upto lo (n + 1)).filter (fun a => decide ¬decide (a ∈ E) = true) = leftP n lo E := by
    unfold leftP
    congr 1
    funext a
    by_cases q : a ∈ E <;> simp [q]
  unfold nPos
  first | (rw [e2] at e; omega) | (rw [e3] at e; omega)
theorem opt_few {n lo : Int} {E : List Int} (h : 0 ≤ lo ∧ n ≤ 24) : (optC n lo E).length ≤ 26 := by
  have := left_few (n := n) (lo := lo) (E := E) h
  unfold optC
  split
  · simp
  · rw [List.length_append, List.length_map]
    split <;> simp <;> omega
theorem opt_phi {n lo : Int} {E : List Int} (h : EOkF n lo E) (hne : E ≠ []) : phi n lo E (optC n lo E) ≤ sumW (nPos n lo - E.length + 1) := by
  have hl := left_len h
  have h1 : 1 ≤ E.length := List.length_pos_iff.mpr hne
  unfold phi
  have hc : (optC n lo E).length = 0 ∨ (optC n lo E).length = nPos n lo - E.length + 1 := by
    unfold optC
    split
    · exact .inl rfl
    · right
      rw [List.length_append, List.length_map, if_neg (by cases E with | nil => exact absurd rfl hne | cons => simp)]
      rw [List.length_singleton]; omega
  rcases hc with hc | hc
  · rw [hc, sumW]
    have : wC 0 = 0 := rfl
    omega
  · rw [hc, sumW]; omega
theorem settle_phi {n lo : Int} {H : List Int} (hb : 0 ≤ lo ∧ n ≤ 24) (hH : HidOk n lo H) : ∀ (k : Nat) (E : List Int) (C : List (Option Int)), InvH n lo H E C → C.length ≤ 26 → phi n lo (settle n lo k E C).1 (settle n lo k E C).2 ≤ phi n lo E C ∧ (settle n lo k E C).2.length ≤ 26
  | 0, E, C, h, hc => ⟨Nat.le_refl _, hc⟩
  | k + 1, E, C, h, hc => by
    match C, h, hc with
    | [], h, hc => exact ⟨Nat.le_refl _, hc⟩
    | [none], h, hc => exact ⟨Nat.le_refl _, Nat.zero_le _⟩
    | [some p], h, hc =>
      have e : nextH H E = some p := List.mem_singleton.mp (h.nxt (by simp))
      have h2 := opt_inv hH (h.eok.snoc (h.cin p List.mem_cons_self)) (nextH_some h.pre e).1
      have hl := left_len h2.eok
      rw [List.length_append, List.length_singleton] at hl
      obtain ⟨i1, i2⟩ := settle_phi hb hH k (E ++ [p]) (optC n lo (E ++ [p])) h2 (opt_few hb)
      have hp := opt_phi h2.eok (by simp)
      rw [List.length_append, List.length_singleton, show nPos n lo - (E.length + 1) + 1 = nPos n lo - E.length by omega] at hp
      refine ⟨Nat.le_trans i1 (Nat.le_trans hp ?_), i2⟩
      unfold phi
      exact Nat.le_add_left _ _
    | a :: b :: C, h, hc =>
      rw [settle_two]
      exact ⟨Nat.le_refl _, hc⟩
theorem half_phi {n lo : Int} {E : List Int} {C : List (Option Int)} {a : Bool} (h : 2 ≤ C.length ∧ C.length ≤ 26) : phi n lo E (halfC a C) < phi n lo E C ∧ (halfC a C).length ≤ 26 := by
  obtain ⟨h1, h2⟩ := wC_half C.length (by omega) h.1
  unfold phi halfC
  cases a with
  | true =>
    rw [if_pos rfl, List.length_take, Nat.min_eq_left (by omega)]
    exact ⟨by omega, by omega⟩
  | false =>
    rw [if_neg (by decide), List.length_drop]
    exact ⟨by omega, by omega⟩
/-- the trials that are asked about a hidden order -/
def askedF (n : Int) (r : Bool) (H : List Int) : Nat → List Int → List (Option Int) → List D
  | 0, _, _ => []
  | k + 1, E, C => if C.isEmpty = true then [] else trialOf n r C :: askedF n r H k (settleR n (lowB r) E (halfC (goesG H E C) C)).1 (settleR n (lowB r) E (halfC (goesG H E C) C)).2
section
variable {Z : Str → Addr} {n : Int} {r : Bool} {H : List Int}
theorem init_okF (hn : 1 + lowB r ≤ n ∧ n ≤ 24) : F_Finder___init__ Z (.int n) (.bl r) = some (.ok (finG n r, [], [stgD [] (optC n (lowB r) [])])) := by
  have hb := lowB_b (r := r)
  have hc := cands_ok (n := n) (r := r) (E := []) (by omega)
  unfold F_Finder___init__ F_need_size
  rw [dInt_b, Option.bind_some, dAdd_ii, Option.bind_some, btw_int, show (if r = true then (1 : Int) else 0) = lowB r from rfl, decide_eq_true hn, Option.bind_some, dTru_b, Option.bind_some, if_neg (by decide), Option.bind_some]
  dsimp only [exC]
  rw [chk_pos (by decide), Option.bind_some, chk_pos (show (putG "bits" (D.int n) ([] : List (Str × D))).length < 1000 from le_b rfl), Option.bind_some, show (D.tup []) = .tup (([] : List Int).map D.int) from rfl, hc, Option.bind_some]
  rfl
theorem opt0_len (hn : 1 + lowB r ≤ n ∧ n ≤ 24) : (optC n (lowB r) []).length = nPos n (lowB r) ∧ 2 ≤ nPos n (lowB r) ∧ nPos n (lowB r) ≤ 25 := by
  have hb := lowB_b (r := r)
  refine ⟨?_, by unfold nPos; omega, by unfold nPos; omega⟩
  unfold optC nPos
  rw [if_neg (by simp), if_pos (show ([] : List Int).isEmpty = true from rfl), List.append_nil, List.length_map]
  unfold leftP
  rw [List.filter_eq_self.mpr (fun p _ => by simp), upto_lenF]
theorem invs (hH : HidOk n (lowB r) H) (hn : n ≤ 24) {E : List Int} {C : List (Option Int)} (h : InvH n (lowB r) H E C) : EntOk E ∧ (∀ p ∈ E, 0 ≤ p ∧ p ≤ 24) ∧ E.length ≤ 25 ∧ ∀ p, some p ∈ C → 0 ≤ p ∧ p ≤ n := by
  have hb := lowB_b (r := r)
  refine ⟨⟨h.eok.nd, ?_⟩, fun p hp => by have := h.eok.rg p hp; omega, h.eok.few hb.1 hn, fun p hp => by have := h.cin p hp; omega⟩
  obtain ⟨t, ht⟩ := h.pre
  intro q
  refine hH.ent.2 ?_
  rw [← ht]
  by_cases e : t = []
  · rw [e, List.append_nil]; exact q
  · rw [List.dropLast_append_of_ne_nil e]; exact List.mem_append_left _ ((List.dropLast_sublist _).mem q)
theorem settled_one {E : List Int} {C : List (Option Int)} (hn : 1 ≤ n ∧ n ≤ 24) (h : InvH n (lowB r) H E C) : (settleR n (lowB r) E C).2.length ≠ 1 := by
  have hS : F_settled_stage (.int n) (.bl r) (.tup (E.map D.int)) (.tup (C.map candD)) = some (.tup [.tup ((settleR n (lowB r) E C).1.map D.int), .tup ((settleR n (lowB r) E C).2.map candD)]) ∧ (settleR n (lowB r) E C).2.length ≠ 1 := by
    refine while_settle (mk := D.tup) lowB_b.1 hn.2 (fun E C => ?_) (fun E => ?_) (fun E p hf => ?_) 27 99972 E C h.eok (single_of h) (by omega)
    · rw [dLen_t, Option.bind_some, cEq_ii, Option.bind_some, List.length_map]
      congr 1
      exact decide_eq_decide.mpr (by omega)
    · rfl
    · have i0 : dIx (.tup ([some p].map candD)) (D.int 0) = some (.int p) := rfl
      rw [i0, Option.bind_some, cEq_is, Option.bind_some, if_neg (by decide), items_t, Option.bind_some, Option.bind_some, chk_pos (by rw [List.length_append, List.length_map]; simp; omega), Option.bind_some, show E.map D.int ++ (D.int p :: []) = (E ++ [p]).map D.int from by rw [List.map_append]; rfl, cands_ok hn, Option.bind_some]
  exact hS.2
theorem lf_ordF (hz : Hz Z) {l : List Int} : lfN [Z "Finder"] (ordD (Z "Order") l) = true := by
  have h : Z "Order" ∉ [Z "Finder"] := by
    unfold Hz HzL at hz
    intro q
    rw [List.mem_singleton] at q
    simp [q] at hz
  show (decide (Z "Order" ∉ [Z "Finder"]) && ((lfsN [Z "Finder"] (l.map D.int)) && true)) = true
  rw [decide_eq_true h, lfs_E]
  rfl
theorem found_ok (hz : Hz Z) {S : Type} {ask : D → S → Option (D × S)} {s0 : S} (J : List D → S → Prop) (hn : 1 + lowB r ≤ n ∧ n ≤ 24) (hH : HidOk n (lowB r) H) (h0 : J [] s0)
    (hask : ∀ (E : List Int) (C : List (Option Int)) (A : List D) (s : S), InvH n (lowB r) H E C → C ≠ [] → C.length ≤ 26 → A.length < 110 → J A s → ∃ s', ask (trialOf n r C) s = some (.int (if goesG H E C = true then 1 else 0), s') ∧ J (A ++ [trialOf n r C]) s') :
    Gives (F_found_order Z (.int n) ask (.bl r) s0) fun q => ∃ s', q = (ordD (Z "Order") H, s') ∧ J (askedF n r H 110 [] (optC n (lowB r) [])) s' ∧ (askedF n r H 110 [] (optC n (lowB r) [])).length ≤ mostN n (lowB r) := by
  have hb := lowB_b (r := r)
  have hn1 : 1 ≤ n ∧ n ≤ 24 := by omega
  obtain ⟨o1, o2, o3⟩ := opt0_len (n := n) (r := r) hn
  have hI0 : InvH n (lowB r) H [] (optC n (lowB r) []) := opt_inv hH ⟨List.nodup_nil, fun p hp => absurd hp List.not_mem_nil⟩ List.nil_prefix
  have hphi : phi n (lowB r) [] (optC n (lowB r) []) = mostN n (lowB r) := by unfold phi mostN; rw [o1]; rfl
  have h110 : mostN n (lowB r) ≤ 110 := sumW_110 _ (by omega)
  unfold F_found_order
  rw [init_okF hn, Option.bind_some]
  dsimp only [exC]
  refine .bind ((whileO_gives (fun k st => ∃ (E : List Int) (C : List (Option Int)) (T pre A : List D) (s : S), st = (s, finG n r, T, pre ++ [stgD E C]) ∧ InvH n (lowB r) H E C ∧ C.length ≤ 26 ∧ C.length ≠ 1 ∧ pre.length = A.length ∧ T.length = A.length ∧ A.length + k = 110 ∧ phi n (lowB r) E C ≤ k ∧ A.length + phi n (lowB r) E C ≤ mostN n (lowB r) ∧ A ++ askedF n r H k E C = askedF n r H 110 [] (optC n (lowB r) []) ∧ J A s)
    (fun st => ∃ (T pre : List D) (s : S), st = (s, finG n r, T, pre ++ [stgD H []]) ∧ InvH n (lowB r) H H [] ∧ J (askedF n r H 110 [] (optC n (lowB r) [])) s ∧ (askedF n r H 110 [] (optC n (lowB r) [])).length ≤ mostN n (lowB r)) (fun k st hI => ?_) 100000 110 _ ⟨[], _, [], [], [], s0, rfl, hI0, opt_few ⟨hb.1, hn.2⟩, by omega, rfl, rfl, rfl, by omega, by rw [hphi]; exact Nat.le_of_eq (Nat.zero_add _), rfl, h0⟩ (by decide)).imp fun st hst => ?_)
  · obtain ⟨E, C, T, pre, A, s, rfl, hI, hc26, hc1, hpA, hTA, hAk, hphk, hpm, hA, hJ⟩ := hI
    obtain ⟨r1, r2, r3, r4⟩ := invs hH hn.2 hI
    dsimp only
    have ic : isC (Z "Finder") (D.ins (Z "Finder") (finG n r ++ [(("carries_told" : Str), D.lst T), (("stages" : Str), D.lst (pre ++ [stgD E C]))])) = some (finG n r ++ [(("carries_told" : Str), D.lst T), (("stages" : Str), D.lst (pre ++ [stgD E C]))]) := isC_fin
    have fi : F_Finder_is_finished Z (D.ins (Z "Finder") (finG n r ++ [(("carries_told" : Str), D.lst T), (("stages" : Str), D.lst (pre ++ [stgD E C]))])) = some (.bl C.isEmpty) := ffin_ok
    rw [ic, Option.bind_some, fi, Option.bind_some, dTru_b, Option.bind_some]
    cases C with
    | nil =>
      have hEH := hI.fin rfl
      subst hEH
      refine .inl ⟨rfl, T, pre, s, rfl, hI, ?_⟩
      have ea : A = askedF n r E 110 [] (optC n (lowB r) []) := by
        rw [← hA]
        cases k with
        | zero => rw [askedF, List.append_nil]
        | succ k => rw [askedF, if_pos (show ([] : List (Option Int)).isEmpty = true from rfl), List.append_nil]
      rw [← ea]
      exact ⟨hJ, by omega⟩
    | cons c0 C0 =>
      refine .inr ⟨rfl, ?_⟩
      have hne : (c0 :: C0) ≠ [] := by simp
      have hlen : 2 ≤ (c0 :: C0).length := by rw [List.length_cons] at hc1 ⊢; omega
      have hce : (c0 :: C0).isEmpty = false := rfl
      generalize hC : c0 :: C0 = C at *
      obtain ⟨hm1, hm2⟩ := half_phi (n := n) (lo := lowB r) (E := E) (C := C) (a := goesG H E C) ⟨hlen, hc26⟩
      obtain ⟨k, rfl⟩ : ∃ k', k = k' + 1 := ⟨k - 1, by omega⟩
      have hI2 := half_inv hI hne
      have sI := settle_inv hH 27 E _ hI2
      have sM := settle_phi ⟨hb.1, hn.2⟩ hH 27 E _ hI2 hm2
      have s1c := settled_one (r := r) hn1 hI2
      obtain ⟨s', ha, hJ'⟩ := hask E C A s hI hne hc26 (by omega) hJ
      have ft : F_Finder_trial Z (D.ins (Z "Finder") (finG n r ++ [(("carries_told" : Str), D.lst T), (("stages" : Str), D.lst (pre ++ [stgD E C]))])) = some (trialOf n r C) := ftrial_ok hn1 r4 (by omega)
      have tl := tell_ok (Z := Z) (T := T) (pre := pre) hn1 hI2 hne (by omega) (by omega)
      have lf : lfN [Z "Finder"] (trialOf n r C) = true := by unfold trialOf; rw [if_neg (by rw [hce]; decide)]; rfl
      have hA' : askedF n r H (k + 1) E C = trialOf n r C :: askedF n r H k (settleR n (lowB r) E (halfC (goesG H E C) C)).1 (settleR n (lowB r) E (halfC (goesG H E C) C)).2 := by rw [askedF, if_neg (by rw [hce]; decide)]
      rw [chk_pos (show (finG n r).lookup ("tell" : Str) = none from rfl), Option.bind_some, Option.bind_some, ft, Option.bind_some, chk_pos lf, Option.bind_some, ha, Option.bind_some, tl, Option.bind_some]
      refine .mk ⟨k, Nat.lt_succ_self k, _, _, T ++ [.int (if goesG H E C = true then 1 else 0)], pre ++ [stgD E C], A ++ [trialOf n r C], s', rfl, sI, sM.2, s1c, by rw [List.length_append, List.length_append, hpA]; rfl, by rw [List.length_append, List.length_append, hTA]; rfl, ?_, ?_, ?_, ?_, hJ'⟩
      · rw [List.length_append, List.length_singleton]; omega
      · have := Nat.lt_of_le_of_lt sM.1 hm1
        unfold settleR at *
        omega
      · rw [List.length_append, List.length_singleton]
        have := Nat.lt_of_le_of_lt sM.1 hm1
        omega
      · rw [List.append_assoc, List.singleton_append]
        rw [hA'] at hA
        exact hA
  · obtain ⟨T, pre, s, rfl, hI, hJ, hm⟩ := hst
    obtain ⟨r1, r2, r3, r4⟩ := invs hH hn.2 hI
    dsimp only
    have mc : mthC (Z "Finder") "order" (D.ins (Z "Finder") (finG n r ++ [(("carries_told" : Str), D.lst T), (("stages" : Str), D.lst (pre ++ [stgD H []]))])) = some (finG n r ++ [(("carries_told" : Str), D.lst T), (("stages" : Str), D.lst (pre ++ [stgD H []]))]) := mthC_own rfl
    have fo : F_Finder_order Z (D.ins (Z "Finder") (finG n r ++ [(("carries_told" : Str), D.lst T), (("stages" : Str), D.lst (pre ++ [stgD H []]))])) = some (.ok (ordD (Z "Order") H)) := forder_ok rfl r1 r2 r3
    rw [mc, Option.bind_some, fo, Option.bind_some]
    dsimp only [exC]
    rw [chk_pos (lf_ordF hz), Option.bind_some]
    exact .mk ⟨s, rfl, hJ, hm⟩
end
theorem good_intsF {l : List Int} (h : ∀ p ∈ l, 0 ≤ p ∧ p ≤ 1000) : good (.tup (l.map D.int)) := goods_map fun a ha => by
  have := h a ha
  exact ⟨by omega, by omega⟩
theorem eqv_intsF : ∀ a b : List Int, PyData.eqvAll (pyds (a.map D.int)) (pyds (b.map D.int)) = decide (a = b)
  | [], [] => by simp [pyds, PyData.eqvAll]
  | [], b :: bs => by simp [pyds, PyData.eqvAll]
  | a :: as, [] => by simp [pyds, PyData.eqvAll]
  | a :: as, b :: bs => by
    simp only [List.map_cons, pyds, PyData.eqvAll, pyd, PyData.eqv, eqv_intsF as bs, List.cons.injEq, Bool.decide_and]
    rfl
theorem cEq_ints2F {a b : List Int} (ha : ∀ p ∈ a, 0 ≤ p ∧ p ≤ 1000) (hb : ∀ p ∈ b, 0 ≤ p ∧ p ≤ 1000) : cEq (.tup (a.map D.int)) (.tup (b.map D.int)) = some (decide (a = b)) := by
  have d : ∀ l : List Int, dep (.tup (l.map D.int)) ≤ 50 := fun l => by
    rw [dep]
    have := deps_map (f := D.int) (l := l) (k := 0) fun a _ => by simp [dep]
    omega
  rw [cEq_good rfl rfl (good_intsF ha) (good_intsF hb) (d a) (d b), show eqD (.tup (a.map D.int)) (.tup (b.map D.int)) = decide (a = b) from by unfold eqD; rw [pyd, pyd, PyData.eqv, eqv_intsF]]
theorem eqordF {Z : Str → Addr} {a b : List Int} (ha : ∀ p ∈ a, 0 ≤ p ∧ p ≤ 24) (hb : ∀ p ∈ b, 0 ≤ p ∧ p ≤ 24) : F_Order___eq__ Z (ordD (Z "Order") a) (ordD (Z "Order") b) = some (.bl (decide (a = b))) := by
  unfold F_Order___eq__
  rw [show isiC (Z "Order") (ordD (Z "Order") b) = some true from by unfold isiC ordD; simp]
  simp only [Option.bind_some, dTru_b, if_true, isC_ord, lk_ord]
  rw [cEq_ints2F (fun p hp => by have := ha p hp; omega) fun p hp => by have := hb p hp; omega]
  rfl
theorem oth_ordF {Z : Str → Addr} {l : List Int} : othD ((["Order"] : List PySem.Str).map Z) (ordD (Z "Order") l) = some () := by unfold othD ordD; simp [DX.plain]
theorem look_first {L : List Nat} : ∀ {H : List Int}, (∀ p ∈ H, 0 ≤ p ∧ p < (L.length : Int)) → firstS L.reverse H = lookC L H
  | [], _ => rfl
  | p :: H, h => by
    have hp := h p List.mem_cons_self
    have e : stp L.reverse p = L.getD p.toNat 0 := by
      unfold stp
      rw [List.length_reverse, List.getD_eq_getElem?_getD, List.getElem?_reverse (by omega), List.getD_eq_getElem?_getD]
      congr 2
      omega
    rw [firstS, lookC, e, look_first fun q hq => h q (List.mem_cons_of_mem _ hq)]
section
variable {Z : Str → Addr} {n : Int} {r : Bool} {H : List Int}
theorem ordcallF (hH : HidOk n (lowB r) H) (hn : 1 ≤ n ∧ n ≤ 24) {E : List Int} {C : List (Option Int)} (h : InvH n (lowB r) H E C) (hne : C ≠ []) : ∃ c, F_Order___call__ Z (ordD (Z "Order") H) (trialOf n r C) = some (.str (S [c])) ∧ decide (c = 71) = goesG H E C := by
  have hb := lowB_b (r := r)
  have he : C.isEmpty = false := by cases C with | nil => exact absurd rfl hne | cons => rfl
  have hsl : ((setC (C.length / 2) 0 C (lets0 r n)).length : Int) = n + 1 := by rw [setC_len]; unfold lets0; rw [List.length_cons, List.length_replicate]; omega
  have hr : ∀ p ∈ H, 0 ≤ p ∧ p < ((setC (C.length / 2) 0 C (lets0 r n)).length : Int) := fun p hp => by have := hH.rg p hp; omega
  refine ⟨lookC (setC (C.length / 2) 0 C (lets0 r n)) H, ?_, answer_ok hn hH h hne⟩
  unfold F_Order___call__ trialOf
  rw [if_neg (by rw [he]; decide), isC_ord, Option.bind_some, lk_ord, Option.bind_some, first_state_ok (fun p hp => by rw [List.length_reverse]; exact hr p hp) (by rw [List.length_reverse]; omega), look_first hr]
  rfl
theorem noted_ok (hH : HidOk n (lowB r) H) (hn : 1 ≤ n ∧ n ≤ 24) {E : List Int} {C : List (Option Int)} (h : InvH n (lowB r) H E C) (hne : C ≠ []) {A : List D} (hA : A.length < 110) :
    F_Lnoted Z A (ordD (Z "Order") H) (trialOf n r C) = some (.int (if goesG H E C = true then 1 else 0), A ++ [trialOf n r C]) := by
  obtain ⟨c, e1, e2⟩ := ordcallF (Z := Z) hH hn h hne
  unfold F_Lnoted
  rw [chk_pos (by omega), Option.bind_some, isC_ord, Option.bind_some, e1, Option.bind_some, lit_G, cEq_S1, e2, Option.bind_some, dInt_b, Option.bind_some]
theorem exC_kF {α β : Type} {v : α} {f : Er → Option β} {g : α → Option β} : exC (.ok v) f g = g v := rfl
theorem ordfold : ∀ (ps acc : List Int), EntOk acc → (∀ p ∈ acc, 0 ≤ p ∧ p ≤ 24) → (∀ p ∈ ps, 0 ≤ p ∧ p ≤ 24) → acc.length + ps.length ≤ 1000 →
    foldO (fun (s6 : D) x8 => (F_Order___init__ Z (D.tup [x8])).bind fun r14 => exC r14 (fun e13 => none) (fun v11 => (isC (Z "Order") s6).bind fun g15 => (isC (Z "Order") (D.ins (Z "Order") v11)).bind fun g16 => (F_Order___add__ Z s6 (D.ins (Z "Order") v11)).bind fun v17 => (insA v17).bind fun i18 => some v17)) (ordD (Z "Order") acc) (ps.map D.int) = some (ordD (Z "Order") (ps.foldl stepF acc)) := by
  intro ps
  induction ps with
  | nil => intro acc _ _ _ _; rfl
  | cons p ps ih =>
    intro acc he ha hp hz
    rw [List.length_cons] at hz
    rw [List.map_cons, foldO_cons, List.foldl_cons]
    have h1 : ∀ q ∈ [p], 0 ≤ q ∧ q ≤ 24 := fun q hq => by rw [List.mem_singleton] at hq; subst hq; exact hp q List.mem_cons_self
    have e1 : firsts [p] = [p] := firsts_id ⟨by simp, by simp⟩
    have hs : (stepF acc p).length ≤ acc.length + 1 := by unfold stepF; split <;> simp
    have hm : ∀ q ∈ stepF acc p, 0 ≤ q ∧ q ≤ 24 := fun q hq => by
      unfold stepF at hq
      split at hq
      · rcases List.mem_append.mp hq with hq | hq
        · exact ha q hq
        · exact h1 q hq
      · exact ha q hq
    refine Option.bind_eq_some_iff.mpr ⟨ordD (Z "Order") (stepF acc p), ?_, ih _ (ent_step he) hm (fun q hq => hp q (List.mem_cons_of_mem _ hq)) (by omega)⟩
    have i1 := initX_ok (Z := Z) h1 (by simp)
    rw [List.map_cons, List.map_nil, e1] at i1
    rw [i1, Option.bind_some, exC_kF, isC_ord, Option.bind_some]
    rw [show D.ins (Z "Order") [(("entries" : Str), D.tup ([p].map D.int))] = ordD (Z "Order") [p] from rfl, isC_ord, Option.bind_some, addX_ok ha h1 (by simp; omega), Option.bind_some, firsts_snoc, firsts_id he]
    rfl
def seenF (n : Int) (r : Bool) (H : List Int) : List D := askedF n r H 110 [] (optC n (lowB r) [])
theorem trials_ok54 (hz : Hz Z) (hn : 1 + lowB r ≤ n ∧ n ≤ 24) (hH : HidOk n (lowB r) H) : F_Ltrials Z (.int n) (.int (lowB r)) (.tup (H.map D.int)) = some (.lst (seenF n r H)) ∧ (seenF n r H).length ≤ mostN n (lowB r) := by
  have hb := lowB_b (r := r)
  have hr24 : ∀ p ∈ H, 0 ≤ p ∧ p ≤ 24 := fun p hp => by have := hH.rg p hp; omega
  have hlen : H.length ≤ 25 := nd_len 25 H hH.ent.1 fun p hp => by have := hr24 p hp; omega
  suffices hs : Gives (F_Ltrials Z (.int n) (.int (lowB r)) (.tup (H.map D.int))) fun v => v = .lst (seenF n r H) ∧ (seenF n r H).length ≤ mostN n (lowB r) by
    obtain ⟨v, e, rfl, q⟩ := hs
    exact ⟨e, q⟩
  obtain ⟨h0, t, rfl⟩ : ∃ h0 t, H = h0 :: t := by
    cases H with
    | nil => exact absurd rfl hH.ne
    | cons a t => exact ⟨a, t, rfl⟩
  have hh : ∀ q ∈ [h0], 0 ≤ q ∧ q ≤ 24 := fun q hq => by rw [List.mem_singleton] at hq; subst hq; exact hr24 q List.mem_cons_self
  have e1 : firsts [h0] = [h0] := firsts_id ⟨by simp, by simp⟩
  have i1 := initX_ok (Z := Z) hh (by simp)
  rw [List.map_cons, List.map_nil, e1] at i1
  have hf : t.foldl stepF [h0] = h0 :: t := by
    have : firsts (h0 :: t) = t.foldl stepF (firsts [h0]) := rfl
    rw [e1, firsts_id hH.ent] at this
    exact this.symm
  have fo := ordfold (Z := Z) t [h0] ⟨by simp, by simp⟩ hh (fun p hp => hr24 p (List.mem_cons_of_mem _ hp)) (by rw [List.length_cons] at hlen; simp; omega)
  rw [hf] at fo
  unfold F_Ltrials
  rw [dIx_ti, show atI ((h0 :: t).map D.int) 0 = some (.int h0) from atI_of_get (by decide) rfl, Option.bind_some, i1, Option.bind_some, exC_kF, dEnd_i, Option.bind_some, dCut_t, Option.bind_some, Option.bind_some, show (some 1 : Option Int) = some ((1 : Nat) : Int) from rfl, cut_dropF, show ((h0 :: t).map D.int).drop 1 = t.map D.int from rfl, dIter_t, Option.bind_some,
    show D.ins (Z "Order") [(("entries" : Str), D.tup ([h0].map D.int))] = ordD (Z "Order") [h0] from rfl, fo, Option.bind_some, cEq_ii, Option.bind_some]
  have go : ∀ {R : Type} {f : D × List D → Option R} {Q : R → Prop}, ((seenF n r (h0 :: t)).length ≤ mostN n (lowB r) → Gives (f (ordD (Z "Order") (h0 :: t), seenF n r (h0 :: t))) Q) → Gives ((F_found_order Z (.int n) (fun (d_l1 : D) (s_l1 : List D) => (F_Lnoted Z s_l1 (ordD (Z "Order") (h0 :: t)) d_l1).bind fun v27 => some (v27.1, v27.2)) (.bl r) []).bind f) Q := by
    intro R f Q hQ
    refine .bind ((found_ok hz (fun A s => s = A) hn hH rfl fun E C A s hI hne hc hA hs => ?_).imp fun q hq => ?_)
    · subst hs
      exact ⟨_, by rw [noted_ok hH ⟨by omega, hn.2⟩ hI hne hA]; rfl, rfl⟩
    · obtain ⟨s', rfl, rfl, hm⟩ := hq
      exact hQ hm
  have fin : ∀ {x : D}, x = .lst (seenF n r (h0 :: t)) → (seenF n r (h0 :: t)).length ≤ mostN n (lowB r) → Gives ((((isC (Z "Order") (ordD (Z "Order") (h0 :: t))).bind fun g34 => (othD ((["Order"] : List PySem.Str).map Z) (ordD (Z "Order") (h0 :: t))).bind fun o35 => (F_Order___eq__ Z (ordD (Z "Order") (h0 :: t)) (ordD (Z "Order") (h0 :: t))).bind fun v36 => (blD v36).bind fun t37 => if t37 = true then (isC (Z "Order") (ordD (Z "Order") (h0 :: t))).bind fun g38 => (F_Order_positions Z (ordD (Z "Order") (h0 :: t))).bind fun v39 => (cEq v39 (.tup ((h0 :: t).map D.int))).bind fun t40 => some t40 else some false).bind fun t41 => if t41 = true then some x else some D.non).bind fun v43 => some v43) fun v => v = .lst (seenF n r (h0 :: t)) ∧ (seenF n r (h0 :: t)).length ≤ mostN n (lowB r) := by
    intro x hx hm
    have po : F_Order_positions Z (ordD (Z "Order") (h0 :: t)) = some (.tup ((h0 :: t).map D.int)) := by
      unfold F_Order_positions
      rw [isC_ord, Option.bind_some, lk_ord]
      rfl
    rw [isC_ord, Option.bind_some, oth_ordF, Option.bind_some, eqordF hr24 hr24, Option.bind_some, show ∀ b : Bool, blD (.bl b) = some b from fun _ => rfl, Option.bind_some, if_pos (by simp), Option.bind_some, po, Option.bind_some, cEq_ints2F (fun p hp => by have := hr24 p hp; omega) (fun p hp => by have := hr24 p hp; omega), Option.bind_some, Option.bind_some, if_pos (by simp), Option.bind_some]
    exact .mk ⟨hx, hm⟩
  cases r with
  | true =>
    rw [if_pos (by decide), Option.bind_assoc]
    exact go fun hm => fin rfl hm
  | false =>
    rw [if_neg (by decide), Option.bind_assoc]
    exact go fun hm => fin rfl hm
end
theorem whileO_to {S : Type} {cF : S → Option Bool} {f : S → Option S} {g : Nat → S} {m : Nat} (ht : ∀ k, k < m → cF (g k) = some true) (hs : ∀ k, k < m → f (g k) = some (g (k + 1))) (he : cF (g m) = some false) : ∀ (j fuel : Nat), j ≤ m → whileO cF f (fuel + 1 + j) (g (m - j)) = some (g m)
  | 0, fuel, _ => by
    rw [Nat.sub_zero, Nat.add_zero, whileO, he, Option.bind_some, if_neg (by decide)]
  | j + 1, fuel, h => by
    rw [show fuel + 1 + (j + 1) = (fuel + 1 + j) + 1 by omega, whileO, ht _ (by omega), Option.bind_some, if_pos rfl, hs _ (by omega), Option.bind_some, show m - (j + 1) + 1 = m - j by omega]
    exact whileO_to ht hs he j fuel (by omega)
theorem whileO_all {S : Type} {cF : S → Option Bool} {f : S → Option S} {g : Nat → S} {m : Nat} (hm : m ≤ 99) (ht : ∀ k, k < m → cF (g k) = some true) (hs : ∀ k, k < m → f (g k) = some (g (k + 1))) (he : cF (g m) = some false) : whileO cF f 100000 (g 0) = some (g m) := by
  have := whileO_to ht hs he m (99999 - m) (Nat.le_refl m)
  rwa [Nat.sub_self, show 99999 - m + 1 + m = 100000 by omega] at this
theorem wC_pow : ∀ m, m < 27 → 1 ≤ m → ¬ 2 ^ wC m < m ∧ ∀ k, k < wC m → 2 ^ k < m := by decide
theorem halv_ok {m : Nat} (h : 1 ≤ m ∧ m ≤ 26) : F_halvings (.int (m : Int)) = some (.int (wC m : Int)) := by
  obtain ⟨h1, h2⟩ := wC_pow m (by omega) h.1
  have h5 := wC_5 (m := m)
  have pw : ∀ k : Nat, k ≤ 5 → dShl (.int 1) (.int (k : Int)) = some (.int (2 ^ k : Nat)) := fun k hk => by
    rw [dShl_ii, chk_pos (show CPow 1 (k : Int) from ⟨by omega, by omega, by decide⟩), Int.one_mul, Int.toNat_natCast]
    norm_cast
  unfold F_halvings
  rw [show (D.int 0) = (fun k : Nat => D.int (k : Int)) 0 from rfl, whileO_all (g := fun k : Nat => D.int (k : Int)) (m := wC m) (by omega) (fun k hk => ?_) (fun k hk => ?_) ?_, Option.bind_some]
  · rw [pw _ h5, Option.bind_some, cLt_ii, Option.bind_some, decide_eq_false (by omega)]
  · rw [pw k (by omega), Option.bind_some, cLt_ii, Option.bind_some, decide_eq_true (by have := h2 k hk; omega)]
  · rw [iOp_ii, Option.bind_some]
    rfl
theorem sum_upto : ∀ f : Nat, f < 26 → ((upto 2 ((f : Int) + 1)).map fun p => ((wC p.toNat : Nat) : Int)).sum = (sumW f : Int) := by decide +kernel
theorem upto_rg {a b p : Int} (h : p ∈ upto a b) : a ≤ p ∧ p < b := by
  obtain ⟨i, hi, rfl⟩ := List.mem_map.mp h
  have := List.mem_range.mp hi
  omega
section
variable {Z : Str → Addr} {n : Int} {r : Bool}
theorem most_ok (hn : 1 + lowB r ≤ n ∧ n ≤ 24) : F_most_trials (.int n) (.bl r) = some (.int (mostN n (lowB r) : Int)) := by
  have hb := lowB_b (r := r)
  have hf : 2 ≤ nPos n (lowB r) ∧ nPos n (lowB r) ≤ 25 := by unfold nPos; omega
  have op : F_output_positions (.int n) (.bl r) = some (.tup ((upto (lowB r) (n + 1)).map D.int)) := by
    unfold F_output_positions
    rw [dInt_b, Option.bind_some, dAdd_ii, Option.bind_some, show (if r = true then (1 : Int) else 0) = lowB r from rfl, dRange_2, chk_pos (by omega), Option.bind_some, rngD_upto]
  have hl : (((upto (lowB r) (n + 1)).map D.int).length : Int) = (nPos n (lowB r) : Int) := by rw [List.length_map, upto_lenF]; rfl
  unfold F_most_trials
  rw [op, Option.bind_some, dLen_t, Option.bind_some, hl, halv_ok (by omega), Option.bind_some, dAdd_ii, Option.bind_some, Option.bind_some, dRange_2, chk_pos (by omega), Option.bind_some, rngD_upto, chk_pos (by rw [List.length_map, upto_lenF]; omega), Option.bind_some,
    mapO_of (g := fun p : Int => D.int ((wC p.toNat : Nat) : Int)) (fun p hp => ?_), Option.bind_some, show (upto 2 ((nPos n (lowB r) : Int) + 1)).map (fun p : Int => D.int ((wC p.toNat : Nat) : Int)) = ((upto 2 ((nPos n (lowB r) : Int) + 1)).map fun p => ((wC p.toNat : Nat) : Int)).map D.int from by rw [List.map_map]; rfl, dSum_i, Option.bind_some, sum_upto _ (by omega), dAdd_ii, Option.bind_some]
  · unfold mostN
    congr 2
  · have := upto_rg hp
    have e : p = ((p.toNat : Nat) : Int) := by omega
    rw [e, halv_ok (by omega), Option.bind_some, Int.toNat_natCast]
theorem sum_inner {m : Nat} (h : 1 ≤ m ∧ m ≤ 26) {g : Int} : (whileO (fun (s14 : D × D) => (cLt s14.1 (.int (m : Int))).bind fun t16 => some t16) (fun (s14 : D × D) => (dMul (D.int 2) s14.1).bind fun v17 => (dAdd s14.2 (D.int 1)).bind fun v18 => some (v17, v18)) 100000 ((D.int 1), .int g)).bind (fun (r15 : D × D) => some r15.2) = some (.int (g + (wC m : Int))) := by
  obtain ⟨h1, h2⟩ := wC_pow m (by omega) h.1
  have h5 := wC_5 (m := m)
  have p6 : ∀ k, k ≤ 5 → (2 : Nat) ^ k ≤ 32 := fun k hk => Nat.pow_le_pow_right (by decide) hk
  have key := whileO_all (cF := fun (s14 : D × D) => (cLt s14.1 (.int (m : Int))).bind fun t16 => some t16) (f := fun (s14 : D × D) => (dMul (D.int 2) s14.1).bind fun v17 => (dAdd s14.2 (D.int 1)).bind fun v18 => some (v17, v18)) (g := fun k : Nat => ((D.int ((2 ^ k : Nat) : Int), D.int (g + (k : Int))) : D × D)) (m := wC m) (by omega) (fun k hk => ?_) (fun k hk => ?_) ?_
  · have key : whileO (fun (s14 : D × D) => (cLt s14.1 (.int (m : Int))).bind fun t16 => some t16) (fun (s14 : D × D) => (dMul (D.int 2) s14.1).bind fun v17 => (dAdd s14.2 (D.int 1)).bind fun v18 => some (v17, v18)) 100000 ((D.int 1), .int g) = some (D.int ((2 ^ wC m : Nat) : Int), D.int (g + (wC m : Int))) := by
      have e0 : ((D.int 1, D.int g) : D × D) = (D.int ((2 ^ 0 : Nat) : Int), D.int (g + ((0 : Nat) : Int))) := by simp
      rw [e0]; exact key
    rw [key, Option.bind_some]
  · dsimp only
    rw [cLt_ii, Option.bind_some, decide_eq_true (by have := h2 k hk; omega)]
  · dsimp only
    have := p6 k (by omega)
    rw [dMul_ii, chk_pos (show CMul 2 ((2 ^ k : Nat) : Int) from .inl ⟨by decide, by decide⟩), Option.bind_some, dAdd_ii, Option.bind_some]
    congr 3
    · rw [Nat.pow_succ]; omega
    · omega
  · dsimp only
    rw [cLt_ii, Option.bind_some, decide_eq_false (by omega)]
theorem sum_ok54 (hn : 1 + lowB r ≤ n ∧ n ≤ 24) : F_Lsum (.int n) (.int (lowB r)) = some (.int (mostN n (lowB r) : Int)) := by
  have hb := lowB_b (r := r)
  have hf : 2 ≤ nPos n (lowB r) ∧ nPos n (lowB r) ≤ 25 := by unfold nPos; omega
  have ef : n + 1 - lowB r = (nPos n (lowB r) : Int) := by unfold nPos; omega
  have fold : ∀ (ms : List Int) (g : Int), (∀ p ∈ ms, 1 ≤ p ∧ p ≤ 26) → foldO (fun (s9 : D) x11 => (whileO (fun (s14 : D × D) => (cLt s14.1 x11).bind fun t16 => some t16) (fun (s14 : D × D) => (dMul (D.int 2) s14.1).bind fun v17 => (dAdd s14.2 (D.int 1)).bind fun v18 => some (v17, v18)) 100000 ((D.int 1), s9)).bind fun (r15 : D × D) => some r15.2) (.int g) (ms.map D.int) = some (.int (g + (ms.map fun p => ((wC p.toNat : Nat) : Int)).sum)) := by
    intro ms
    induction ms with
    | nil => intro g _; simp
    | cons p ms ih =>
      intro g h
      have hp := h p List.mem_cons_self
      have e : p = ((p.toNat : Nat) : Int) := by omega
      rw [List.map_cons, foldO_cons]
      have si := sum_inner (m := p.toNat) (g := g) (by omega)
      rw [← e] at si
      rw [si, Option.bind_some, ih _ fun q hq => h q (List.mem_cons_of_mem _ hq), List.map_cons, List.sum_cons]
      congr 2
      omega
  unfold F_Lsum
  rw [dAdd_ii, Option.bind_some, dSub_ii, Option.bind_some, dAdd_ii, Option.bind_some, dSub_ii, Option.bind_some, ef, show n + 2 - lowB r = (nPos n (lowB r) : Int) + 1 by omega, dRange_2, chk_pos (by omega), Option.bind_some, rngD_upto, dAdd_ll, chk_pos (by rw [List.length_map, upto_lenF]; simp; omega), Option.bind_some, Option.bind_some, dIter_l, Option.bind_some,
    show ([D.int (nPos n (lowB r) : Int)] ++ (upto 2 ((nPos n (lowB r) : Int) + 1)).map D.int) = ((nPos n (lowB r) : Int) :: upto 2 ((nPos n (lowB r) : Int) + 1)).map D.int from rfl, fold _ _ (fun p hp => ?_), Option.bind_some, List.map_cons, List.sum_cons, sum_upto _ (by omega)]
  · unfold mostN
    congr 2
    rw [Int.toNat_natCast]
    omega
  · rcases List.mem_cons.mp hp with rfl | hp
    · omega
    · have := upto_rg hp; omega
end
/-- the number of trials alone -/
def cntF (lo n : Int) (H : List Int) : Nat → List Int → List (Option Int) → Nat
  | 0, _, _ => 0
  | k + 1, E, C => if C.isEmpty = true then 0 else cntF lo n H k (settle n lo 27 E (halfC (goesG H E C) C)).1 (settle n lo 27 E (halfC (goesG H E C) C)).2 + 1
theorem asked_cnt {n : Int} {r : Bool} {H : List Int} : ∀ (k : Nat) (E : List Int) (C : List (Option Int)), (askedF n r H k E C).length = cntF (lowB r) n H k E C
  | 0, E, C => rfl
  | k + 1, E, C => by
    rw [askedF, cntF]
    split
    · rfl
    · rw [List.length_cons, asked_cnt k]; rfl
def downN (n lo : Int) : List Int := (upto lo (n + 1)).reverse
theorem cnt_down0 : ∀ k : Nat, k < 24 → cntF 0 ((k : Int) + 1) (downN ((k : Int) + 1) 0) 110 [] (optC ((k : Int) + 1) 0 []) = mostN ((k : Int) + 1) 0 := by decide +kernel
theorem cnt_down1 : ∀ k : Nat, k < 23 → cntF 1 ((k : Int) + 2) (downN ((k : Int) + 2) 1) 110 [] (optC ((k : Int) + 2) 1 []) = mostN ((k : Int) + 2) 1 := by decide +kernel
theorem seen_down {n : Int} {r : Bool} (hn : 1 + lowB r ≤ n ∧ n ≤ 24) : (seenF n r (downN n (lowB r))).length = mostN n (lowB r) := by
  unfold seenF
  rw [asked_cnt]
  cases r with
  | false =>
    have hn : 1 + 0 ≤ n ∧ n ≤ 24 := hn
    have := cnt_down0 (n.toNat - 1) (by omega)
    rwa [show (((n.toNat - 1 : Nat) : Int) + 1) = n by omega] at this
  | true =>
    have hn : 1 + 1 ≤ n ∧ n ≤ 24 := hn
    have := cnt_down1 (n.toNat - 2) (by omega)
    rwa [show (((n.toNat - 2 : Nat) : Int) + 2) = n by omega] at this
theorem setC_80 {h : Nat} : ∀ {C : List (Option Int)} {k : Nat} {L : List Nat}, (∀ c ∈ L, c ≤ 80) → ∀ c ∈ setC h k C L, c ≤ 80 := by
  intro C
  induction C with
  | nil => intro k L hL; exact hL
  | cons a C ih =>
    intro k L hL
    cases a with
    | none => exact ih (k := k + 1) hL
    | some p =>
      refine ih (k := k + 1) fun c hc => ?_
      rcases List.mem_or_eq_of_mem_set hc with q | q
      · exact hL c q
      · rw [q]; split <;> decide
theorem lets0_80 {r : Bool} {n : Int} : ∀ c ∈ lets0 r n, c ≤ 80 := fun c hc => by
  unfold lets0 at hc
  rcases List.mem_cons.mp hc with q | q
  · rw [q]; split <;> decide
  · rw [(List.mem_replicate.mp q).2]; decide
theorem good_trial {n : Int} {r : Bool} {C : List (Option Int)} : good (trialOf n r C) ∧ dep (trialOf n r C) ≤ 5 := by
  unfold trialOf
  split
  · exact ⟨trivial, by simp [dep]⟩
  · refine ⟨tx_ok fun c hc => ?_, by simp [dep]⟩
    have := setC_80 lets0_80 c (List.mem_reverse.mp hc)
    omega
theorem asked_all {P : D → Prop} {n : Int} {r : Bool} {H : List Int} (hP : ∀ C, P (trialOf n r C)) : ∀ (k : Nat) (E : List Int) (C : List (Option Int)), ∀ d ∈ askedF n r H k E C, P d
  | 0, E, C, d, hd => absurd hd List.not_mem_nil
  | k + 1, E, C, d, hd => by
    rw [askedF] at hd
    split at hd
    · exact absurd hd List.not_mem_nil
    · rcases List.mem_cons.mp hd with rfl | hd
      · exact hP C
      · exact asked_all hP k _ _ d hd
theorem goods_all : ∀ {l : List D}, (∀ d ∈ l, good d) → goods l
  | [], _ => trivial
  | d :: l, h => ⟨h d List.mem_cons_self, goods_all fun x hx => h x (List.mem_cons_of_mem _ hx)⟩
theorem deps_all {k : Nat} : ∀ {l : List D}, (∀ d ∈ l, dep d ≤ k) → deps l ≤ k
  | [], _ => Nat.zero_le _
  | d :: l, h => by
    rw [deps]
    exact Nat.max_le.mpr ⟨h d List.mem_cons_self, deps_all fun x hx => h x (List.mem_cons_of_mem _ hx)⟩
def childs (n lo : Int) (H : List Int) : List (List Int) := if H.getLast? = some 0 then [] else (leftP n lo H).map fun p => H ++ [p]
def lvl (n lo : Int) : Nat → List (List Int) × List (List Int)
  | 0 => ([], (upto lo (n + 1)).map fun p => [p])
  | k + 1 => ((lvl n lo k).1 ++ (lvl n lo k).2, (lvl n lo k).2.flatMap (childs n lo))
def lvlB (n lo : Int) (f : Nat) : Bool :=
  ((List.range (f + 1)).all fun k => ((lvl n lo k).1 ++ (lvl n lo k).2).all (fun H => decide (H ≠ [] ∧ H.length ≤ 10)) && decide ((lvl n lo k).1.length ≤ 1000 ∧ (lvl n lo k).2.length ≤ 1000)) && (((List.range f).all fun k => !(lvl n lo k).2.isEmpty) && ((lvl n lo f).2.isEmpty && ((lvl n lo f).1.all (fun H => decide (H.Nodup ∧ (0 : Int) ∉ H.dropLast ∧ (∀ p ∈ H, lo ≤ p ∧ p ≤ n) ∧ H ≠ [])) && decide (downN n lo ∈ (lvl n lo f).1))))
theorem lvl_few : ∀ r : Bool, ∀ k : Nat, k < 3 → lowB r ≤ (k : Int) → lvlB ((k : Int) + 1) (lowB r) (nPos ((k : Int) + 1) (lowB r)) = true := by decide +kernel
structure Few (n lo : Int) (f : Nat) : Prop where
  ne : ∀ k, k ≤ f → ∀ H, H ∈ (lvl n lo k).1 ∨ H ∈ (lvl n lo k).2 → H ≠ [] ∧ H.length ≤ 10
  lens : ∀ k, k ≤ f → (lvl n lo k).1.length ≤ 1000 ∧ (lvl n lo k).2.length ≤ 1000
  on : ∀ k, k < f → (lvl n lo k).2.isEmpty = false
  off : (lvl n lo f).2.isEmpty = true
  hid : ∀ H ∈ (lvl n lo f).1, HidOk n lo H
  down : downN n lo ∈ (lvl n lo f).1
theorem few_ok {n : Int} {r : Bool} (h : 1 + lowB r ≤ n ∧ n ≤ 3) : Few n (lowB r) (nPos n (lowB r)) := by
  have hb := lowB_b (r := r)
  have e := lvl_few r (n.toNat - 1) (by omega) (by omega)
  rw [show (((n.toNat - 1 : Nat) : Int) + 1) = n by omega] at e
  unfold lvlB at e
  simp only [Bool.and_eq_true, List.all_eq_true, List.mem_range, decide_eq_true_eq, Bool.not_eq_true', List.mem_append] at e
  obtain ⟨e1, e2, e3, e4, e5⟩ := e
  exact ⟨fun k hk H hH => (e1 k (by omega)).1 H hH, fun k hk => (e1 k (by omega)).2, fun k hk => e2 k hk, e3, fun H hH => by
    obtain ⟨a, b, c, d⟩ := e4 H hH
    exact ⟨⟨a, b⟩, c, d⟩, e5⟩
def tupH (H : List Int) : D := .tup (H.map D.int)
section
variable {Z : Str → Addr} {n : Int} {r : Bool}
theorem all_ok54 (hn : 1 + lowB r ≤ n ∧ n ≤ 3) : F_Lall (.int n) (.int (lowB r)) = some (.lst ((lvl n (lowB r) (nPos n (lowB r))).1.map tupH)) := by
  have hb := lowB_b (r := r)
  have F := few_ok hn
  have hf : nPos n (lowB r) ≤ 4 := by unfold nPos; omega
  have ul : (upto (lowB r) (n + 1)).length ≤ 4 := by rw [upto_lenF]; omega
  have fold : ∀ (L acc : List (List Int)), (∀ H ∈ L, H ≠ [] ∧ H.length ≤ 10) → acc.length + L.length * 4 ≤ 100000 → foldO (fun (s15 : D) x17 => ((dAdd (.int n) (D.int 1)).bind fun v20 => some (D.int (lowB r), v20)).bind fun v21 => (dRange [v21.1, v21.2]).bind fun l22 => (chk (l22.length ≤ 1000000) ()).bind fun _ => (filtO (fun x24 => (cNin x24 x17).bind fun t29 => if t29 = true then some (some x24) else some none) l22).bind fun y25 => (dIter (D.lst y25)).bind fun l31 => (chk (l31.length ≤ 1000000) ()).bind fun _ => (filtO (fun x33 => (dIx x17 (D.int (-1))).bind fun v38 => (cNe v38 (D.int 0)).bind fun t39 => if t39 = true then (dAdd x17 (D.tup [x33])).bind fun v40 => some (some v40) else some none) l31).bind fun y34 => (dAdd s15 (D.lst y34)).bind fun v42 => some v42) (.lst (acc.map tupH)) (L.map tupH) = some (.lst ((acc ++ L.flatMap (childs n (lowB r))).map tupH)) := by
    intro L
    induction L with
    | nil => intro acc _ _; simp
    | cons H L ih =>
      intro acc hL hl
      obtain ⟨h1, h2⟩ := hL H List.mem_cons_self
      rw [List.length_cons] at hl
      have hc : (childs n (lowB r) H).length ≤ 4 := by
        unfold childs
        split
        · simp
        · rw [List.length_map]
          exact Nat.le_trans (List.length_filter_le _ _) ul
      have ll : (leftP n (lowB r) H).length ≤ 4 := Nat.le_trans (List.length_filter_le _ _) ul
      obtain ⟨q, e1, e2⟩ := last_int h1
      have f1 := filtO_of (l := upto (lowB r) (n + 1)) (e := D.int) (g := D.int) (t := fun p => decide (p ∉ H)) (f := fun x24 => (cNin x24 (tupH H)).bind fun t29 => if t29 = true then some (some x24) else some none) (fun p _ => by
        unfold tupH
        rw [cNin_of, cIn_tintsF, Option.map_some, Option.bind_some]
        by_cases q : p ∈ H
        · rw [decide_eq_true q, if_neg (by decide), if_neg (by simpa using q)]
        · rw [decide_eq_false q, if_pos (by decide), if_pos (decide_eq_true q)])
      have f2 := filtO_of (l := leftP n (lowB r) H) (e := D.int) (g := fun p => tupH (H ++ [p])) (t := fun p => decide (q ≠ 0)) (f := fun x33 => (dIx (tupH H) (D.int (-1))).bind fun v38 => (cNe v38 (D.int 0)).bind fun t39 => if t39 = true then (dAdd (tupH H) (D.tup [x33])).bind fun v40 => some (some v40) else some none) (fun p _ => by
        unfold tupH
        rw [dIx_ti, e2, Option.bind_some, cNe_of, cEq_ii, Option.map_some, Option.bind_some]
        by_cases q0 : q = 0
        · rw [decide_eq_true q0, if_neg (by decide), if_neg (by simpa using q0)]
        · rw [decide_eq_false q0, if_pos (by decide), if_pos (decide_eq_true q0), dAdd_tt, chk_pos (by rw [List.length_map]; simp; omega), Option.bind_some, List.map_append]
          rfl)
      have ec : ((leftP n (lowB r) H).filter fun _ => decide (q ≠ 0)).map (fun p => tupH (H ++ [p])) = (childs n (lowB r) H).map tupH := by
        unfold childs
        rw [e1]
        by_cases q0 : q = 0
        · subst q0; simp
        · rw [if_neg (by simpa using q0), List.filter_eq_self.mpr (fun p _ => by simpa using q0), List.map_map]
          rfl
      rw [ec] at f2
      rw [List.map_cons, foldO_cons]
      refine Option.bind_eq_some_iff.mpr ⟨.lst ((acc ++ childs n (lowB r) H).map tupH), ?_, ?_⟩
      · rw [dAdd_ii, Option.bind_some, Option.bind_some, dRange_2, chk_pos (by omega), Option.bind_some, rngD_upto, chk_pos (by rw [List.length_map]; omega), Option.bind_some, f1, Option.bind_some, dIter_l, Option.bind_some, show (upto (lowB r) (n + 1)).filter (fun p => decide (p ∉ H)) = leftP n (lowB r) H from rfl, chk_pos (by rw [List.length_map]; omega), Option.bind_some, f2, Option.bind_some, dAdd_ll, chk_pos (by rw [List.length_map, List.length_map]; omega), Option.bind_some, List.map_append]
      · rw [ih _ (fun K hK => hL K (List.mem_cons_of_mem _ hK)) (by rw [List.length_append]; omega), List.flatMap_cons, List.append_assoc]
  have nilq : ∀ L : List (List Int), cNe (.lst (L.map tupH)) (D.lst []) = some (!L.isEmpty) := fun L => by
    rw [cNe_of, cEq_nilq, Option.map_some, List.isEmpty_map]
  unfold F_Lall
  refine Option.bind_eq_some_iff.mpr ⟨(D.int (lowB r), D.int (n + 1)), by rw [dAdd_ii]; rfl, ?_⟩
  dsimp only
  rw [dRange_2, chk_pos (by omega), Option.bind_some, rngD_upto, chk_pos (by rw [List.length_map]; omega), Option.bind_some, mapO_of (f := fun x5 => some (D.tup [x5])) (e := D.int) (g := fun p => tupH [p]) (fun p _ => rfl), Option.bind_some]
  have key := whileO_all (g := fun k : Nat => ((D.lst ((lvl n (lowB r) k).1.map tupH), D.lst ((lvl n (lowB r) k).2.map tupH)) : D × D)) (m := nPos n (lowB r)) (by omega)
    (cF := fun (s10 : D × D) => (cNe s10.2 (D.lst [])).bind fun t12 => some t12)
    (f := fun (s10 : D × D) => (dAdd s10.1 s10.2).bind fun v13 => (dIter s10.2).bind fun l14 => (foldO (fun (s15 : D) x17 => ((dAdd (.int n) (D.int 1)).bind fun v20 => some (D.int (lowB r), v20)).bind fun v21 => (dRange [v21.1, v21.2]).bind fun l22 => (chk (l22.length ≤ 1000000) ()).bind fun _ => (filtO (fun x24 => (cNin x24 x17).bind fun t29 => if t29 = true then some (some x24) else some none) l22).bind fun y25 => (dIter (D.lst y25)).bind fun l31 => (chk (l31.length ≤ 1000000) ()).bind fun _ => (filtO (fun x33 => (dIx x17 (D.int (-1))).bind fun v38 => (cNe v38 (D.int 0)).bind fun t39 => if t39 = true then (dAdd x17 (D.tup [x33])).bind fun v40 => some (some v40) else some none) l31).bind fun y34 => (dAdd s15 (D.lst y34)).bind fun v42 => some v42) (D.lst []) l14).bind fun (r16 : D) => some (v13, r16))
    (fun k hk => by
      dsimp only
      rw [nilq, Option.bind_some, F.on k hk]; rfl) (fun k hk => by
      dsimp only
      have l1 := F.lens k (by omega)
      have fo := fold (lvl n (lowB r) k).2 [] (fun H hH => F.ne k (by omega) H (.inr hH)) (by simp; omega)
      rw [dAdd_ll, chk_pos (by rw [List.length_map, List.length_map]; omega), Option.bind_some, dIter_l, Option.bind_some, show (D.lst []) = .lst (([] : List (List Int)).map tupH) from rfl, fo, Option.bind_some, List.nil_append, lvl, List.map_append]) (by
      dsimp only
      rw [nilq, Option.bind_some, F.off]; rfl)
  have key : whileO (fun (s10 : D × D) => (cNe s10.2 (D.lst [])).bind fun t12 => some t12) (fun (s10 : D × D) => (dAdd s10.1 s10.2).bind fun v13 => (dIter s10.2).bind fun l14 => (foldO (fun (s15 : D) x17 => ((dAdd (.int n) (D.int 1)).bind fun v20 => some (D.int (lowB r), v20)).bind fun v21 => (dRange [v21.1, v21.2]).bind fun l22 => (chk (l22.length ≤ 1000000) ()).bind fun _ => (filtO (fun x24 => (cNin x24 x17).bind fun t29 => if t29 = true then some (some x24) else some none) l22).bind fun y25 => (dIter (D.lst y25)).bind fun l31 => (chk (l31.length ≤ 1000000) ()).bind fun _ => (filtO (fun x33 => (dIx x17 (D.int (-1))).bind fun v38 => (cNe v38 (D.int 0)).bind fun t39 => if t39 = true then (dAdd x17 (D.tup [x33])).bind fun v40 => some (some v40) else some none) l31).bind fun y34 => (dAdd s15 (D.lst y34)).bind fun v42 => some v42) (D.lst []) l14).bind fun (r16 : D) => some (v13, r16)) 100000 ((D.lst []), (D.lst ((upto (lowB r) (n + 1)).map fun p => tupH [p]))) = some (D.lst ((lvl n (lowB r) (nPos n (lowB r))).1.map tupH), D.lst ((lvl n (lowB r) (nPos n (lowB r))).2.map tupH)) := by
    have e0 : ((D.lst [], D.lst ((upto (lowB r) (n + 1)).map fun p => tupH [p])) : D × D) = (D.lst ((lvl n (lowB r) 0).1.map tupH), D.lst ((lvl n (lowB r) 0).2.map tupH)) := by
      rw [lvl, List.map_map]; rfl
    rw [e0]; exact key
  rw [key, Option.bind_some]
theorem maxI_is {l : List Int} {m : Int} (h : ∀ x ∈ l, x ≤ m) (hm : m ∈ l) : maxI l = m := by
  have fold : ∀ (l : List Int) (a : Int), a ≤ l.foldl max a ∧ (∀ x ∈ l, x ≤ l.foldl max a) ∧ (l.foldl max a = a ∨ l.foldl max a ∈ l) := by
    intro l
    induction l with
    | nil => intro a; exact ⟨Int.le_refl _, fun x hx => absurd hx List.not_mem_nil, .inl rfl⟩
    | cons b l ih =>
      intro a
      obtain ⟨i1, i2, i3⟩ := ih (max a b)
      rw [List.foldl_cons]
      refine ⟨by omega, fun x hx => ?_, ?_⟩
      · rcases List.mem_cons.mp hx with rfl | hx
        · omega
        · exact i2 x hx
      · rcases i3 with e | e
        · rw [e]
          by_cases q : a ≤ b
          · right; rw [show max a b = b by omega]; exact List.mem_cons_self
          · left; omega
        · right; exact List.mem_cons_of_mem _ e
  cases l with
  | nil => exact absurd hm List.not_mem_nil
  | cons a l =>
    obtain ⟨i1, i2, i3⟩ := fold l a
    show l.foldl max a = m
    have h1 : m ≤ l.foldl max a := by
      rcases List.mem_cons.mp hm with rfl | hm
      · exact i1
      · exact i2 m hm
    have h2 : l.foldl max a ≤ m := by
      rcases i3 with e | e
      · rw [e]; exact h a List.mem_cons_self
      · exact h _ (List.mem_cons_of_mem _ e)
    omega
theorem intsD_mapF : ∀ {l : List Int}, intsD (l.map D.int) = some l
  | [] => rfl
  | a :: l => by rw [List.map_cons, intsD, intsD_mapF]; rfl
theorem small_ok54 (hz : Hz Z) (hn : 1 + lowB r ≤ n ∧ n ≤ 3) : F_Lsmall_right Z (.int n) (.int (lowB r)) = some (.bl true) := by
  have hb := lowB_b (r := r)
  have F := few_ok hn
  have hn2 : 1 + lowB r ≤ n ∧ n ≤ 24 := by omega
  have l1 := (F.lens _ (Nat.le_refl _)).1
  generalize hL : (lvl n (lowB r) (nPos n (lowB r))).1 = L at *
  have hid : ∀ H ∈ L, HidOk n (lowB r) H := fun H hH => F.hid H (by rw [hL]; exact hH)
  have hdn : downN n (lowB r) ∈ L := by rw [← hL]; exact F.down
  have m1 := mapO_of (l := L) (e := tupH) (g := fun H => D.lst (seenF n r H)) (f := fun x5 => (F_Ltrials Z (.int n) (.int (lowB r)) x5).bind fun v10 => some v10) (fun H hH => by
    show (F_Ltrials Z (.int n) (.int (lowB r)) (.tup (H.map D.int))).bind _ = _
    rw [(trials_ok54 hz hn2 (hid H hH)).1, Option.bind_some])
  have gS : ∀ H, good (.lst (seenF n r H)) ∧ dep (.lst (seenF n r H)) ≤ 6 := fun H => ⟨goods_all (asked_all (fun C => good_trial.1) _ _ _), by
    rw [dep]
    have := deps_all (k := 5) (l := seenF n r H) (asked_all (fun C => good_trial.2) _ _ _)
    omega⟩
  have c1 : cInG D.non (.lst (L.map fun H => D.lst (seenF n r H))) = some false := by
    show chk _ _ = _
    rw [chk_pos ⟨trivial, goods_map fun H _ => (gS H).1, by simp [dep], by
      rw [dep]
      have := deps_map (k := 6) (l := L) (f := fun H => D.lst (seenF n r H)) fun H _ => (gS H).2
      omega⟩]
    congr 1
    rw [List.any_map, List.any_eq_false]
    intro H _
    simp [eqD, pyd, PyData.eqv]
  have m2 := mapO_of (l := L) (e := fun H => D.lst (seenF n r H)) (g := fun H => D.int ((seenF n r H).length : Int)) (f := fun x15 => (dLen x15).bind fun v20 => some v20) (fun H _ => by
    rw [dLen_l, Option.bind_some])
  have mx : dMax (.lst (L.map fun H => D.int ((seenF n r H).length : Int))) = some (.int (mostN n (lowB r) : Int)) := by
    rw [show (L.map fun H => D.int ((seenF n r H).length : Int)) = (L.map fun H => ((seenF n r H).length : Int)).map D.int from by rw [List.map_map]; rfl]
    unfold dMax
    rw [lstD_l, Option.bind_some, intsD_mapF, Option.bind_some, chk_pos (by rw [List.length_map]; exact List.length_pos_of_mem hdn)]
    congr 2
    refine maxI_is (fun x hx => ?_) ?_
    · obtain ⟨H, hH, rfl⟩ := List.mem_map.mp hx
      have := (trials_ok54 (Z := Z) hz hn2 (hid H hH)).2
      omega
    · exact List.mem_map.mpr ⟨_, hdn, by rw [seen_down hn2]⟩
  unfold F_Lsmall_right
  rw [all_ok54 hn, Option.bind_some, Option.bind_some, hL, dIter_l, Option.bind_some, chk_pos (by rw [List.length_map]; omega), Option.bind_some, m1, Option.bind_some, c1, Option.bind_some, if_neg (by decide), dIter_l, Option.bind_some, chk_pos (by rw [List.length_map]; omega), Option.bind_some, m2, Option.bind_some, mx, Option.bind_some, cEq_ii, Option.bind_some, show decide (lowB r = 1) = r from by cases r <;> rfl, most_ok hn2, Option.bind_some, cEq_ii, Option.bind_some, decide_eq_true rfl]
end
theorem upto_consF {a b : Int} (h : a < b) : upto a b = a :: upto (a + 1) b := by
  unfold upto
  rw [show (b - a).toNat = (b - (a + 1)).toNat + 1 by omega, List.range_succ_eq_map, List.map_cons, List.map_map]
  congr 1
  · simp
  · apply List.map_congr_left
    intro i _
    simp only [Function.comp]
    omega
theorem upto_nilF {a b : Int} (h : b ≤ a) : upto a b = [] := by unfold upto; rw [show (b - a).toNat = 0 by omega]; rfl
theorem down_snocF : ∀ (k : Nat) {a b : Int}, (a - b).toNat = k → b < a → down a b = down a (b + 1) ++ [b + 1]
  | 0, a, b, h, l => by omega
  | k + 1, a, b, h, l => by
    by_cases q : b + 1 = a
    · rw [down_cons l, down_nil (by omega), down_nil (by omega), q]; rfl
    · rw [down_cons l, down_cons (a := a) (b := b + 1) (by omega), down_snocF k (by omega) (by omega)]; rfl
theorem upto_revF : ∀ (k : Nat) {a b : Int}, (b - a).toNat = k → (upto a b).reverse = down (b - 1) (a - 1)
  | 0, a, b, h => by rw [upto_nilF (by omega), down_nil (by omega)]; rfl
  | k + 1, a, b, h => by
    rw [upto_consF (by omega), List.reverse_cons, upto_revF k (by omega), down_snocF (k + 1) (a := b - 1) (b := a - 1) (by omega) (by omega)]
    rw [show a + 1 - 1 = a by omega, show a - 1 + 1 = a by omega]
theorem law_true (Z : Str → Addr) (hz : Hz Z) (ns : List Int) : F_law Z (.scr ns) = some (.bl true) := by
  suffices h : Gives (F_law Z (.scr ns)) fun v => v = .bl true by
    obtain ⟨v, e, rfl⟩ := h
    exact e
  have low : ∀ {lo : Int}, 0 ≤ lo → lo < 2 → ∃ r : Bool, lo = lowB r := fun {lo} h1 h2 => by
    have : lo = 0 ∨ lo = 1 := by omega
    rcases this with rfl | rfl
    · exact ⟨false, rfl⟩
    · exact ⟨true, rfl⟩
  have lowr : ∀ r : Bool, decide (lowB r = 1) = r := fun r => by cases r <;> rfl
  unfold F_law
  rw [tap_ok, Option.bind_some, dRange_1, chk_pos (by decide), Option.bind_some]
  refine .bind ((gives_loop (fun i s => i ≤ 4 → ∃ s' : Hs, s = penL s' ∧ HOk s' (1000 * (i : Int))) (fun _ => ⟨_, rfl, (tap_hok ns).mono (by omega)⟩) fun i x s hx hI => ?_).imp fun c hc => ?_)
  · have hi : i < 4 := by
      have := (List.getElem?_eq_some_iff.mp hx).1
      rwa [rngD_len] at this
    obtain ⟨s1, rfl, h1⟩ := hI (by omega)
    refine .bind ((next_ok h1 (by omega) (by decide)).imp fun q hq => ?_)
    obtain ⟨lo, s2, rfl, l0, l1, h2⟩ := hq
    dsimp only
    obtain ⟨r, rfl⟩ := low l0 l1
    have hb := lowB_b (r := r)
    rw [dAdd_ii, Option.bind_some, Option.bind_some, dSub_ii, Option.bind_some]
    refine .bind ((next_ok h2 (by omega) (by omega)).imp fun q hq => ?_)
    obtain ⟨d, s3, rfl, d0, d1, h3⟩ := hq
    dsimp only
    rw [dAdd_ii, Option.bind_some]
    refine .bind ((next_ok h3 (by omega) (by decide)).imp fun q hq => ?_)
    obtain ⟨w, s4, rfl, w0, w1, h4⟩ := hq
    dsimp only
    obtain ⟨n, en, hn⟩ : ∃ n : Int, dIx (D.lst [.int (1 + lowB r), (D.int 2), (D.int 3), (D.int 24), .int (1 + lowB r + d)]) (.int w) = some (.int n) ∧ 1 + lowB r ≤ n ∧ n ≤ 24 := by
      have : w = 0 ∨ w = 1 ∨ w = 2 ∨ w = 3 ∨ w = 4 := by omega
      rcases this with rfl | rfl | rfl | rfl | rfl
      · exact ⟨_, rfl, by omega, by omega⟩
      · exact ⟨_, rfl, by omega, by omega⟩
      · exact ⟨_, rfl, by omega, by omega⟩
      · exact ⟨_, rfl, by omega, by omega⟩
      · exact ⟨_, rfl, by omega, by omega⟩
    have hm := sumW_110 (nPos n (lowB r)) (by unfold nPos; omega)
    have hm : mostN n (lowB r) ≤ 110 := hm
    obtain ⟨z, ez⟩ : ∃ z, dReprR (.int (mostN n (lowB r) : Int)) = some (.str z) := by
      have e200 : (2 : Int) ^ 200 = 1606938044258990275541962092341162602522202993782792835301376 := by decide +kernel
      exact ⟨_, reprR_good (show good (.int (mostN n (lowB r) : Int)) from ⟨by rw [e200]; omega, by rw [e200]; omega⟩) (by simp [wt]) (by simp [dep])⟩
    have e1 : n - (lowB r - 1) = n + 1 - lowB r := by omega
    have dn : rngC n (-1) (n - (lowB r - 1)).toNat = (downN n (lowB r)).map D.int := by
      unfold downN
      rw [rngC_down]
      congr 1
      have := upto_revF _ (a := lowB r) (b := n + 1) rfl
      rw [this, show n + 1 - 1 = n by omega]
    have hdn : HidOk n (lowB r) (downN n (lowB r)) := by
      have := hid_down (r := r) hn (k := 0) (by rw [upto_lenF]; omega)
      rwa [List.drop_zero] at this
    obtain ⟨t1, t2⟩ := trials_ok54 hz hn hdn
    rw [en, Option.bind_some, cEq_ii, Option.bind_some, lowr, most_ok hn, Option.bind_some, ez, Option.bind_some, sum_ok54 hn, Option.bind_some, ez, Option.bind_some, cNe_of, cEq_ss, decide_eq_true rfl, Option.map_some, Option.bind_some, if_neg (by decide), Option.bind_some, most_ok hn, Option.bind_some, ez, Option.bind_some, Option.bind_some, cNe_of, cEq_ss, decide_eq_true rfl, Option.map_some, Option.bind_some, Option.bind_some, if_neg (by decide),
      dSub_ii, Option.bind_some, dRange_3, chk_pos (by omega), Option.bind_some, dn, t1, Option.bind_some, dTru_l, Option.bind_some]
    have fin : ∀ {v : D}, v = .lst (seenF n r (downN n (lowB r))) → Gives ((dLen v).bind fun v38 => (cNe v38 (.int (mostN n (lowB r) : Int))).bind fun t39 => if t39 = true then some (Ctl.ret (D.bl false)) else (F_Lhidden (penL s4) (.int n) (.int (lowB r))).bind fun v40 => (F_Ltrials Z (.int n) (.int (lowB r)) v40.1).bind fun v41 => ((cIs v41 D.non).bind fun t44 => if t44 = true then some true else (dLen v41).bind fun v45 => (cGt v45 (.int (mostN n (lowB r) : Int))).bind fun t46 => some t46).bind fun t47 => if t47 = true then some (.ret (D.bl false)) else some (.go v40.2)) fun c => ∃ s', c = .go s' ∧ (i + 1 ≤ 4 → ∃ s'' : Hs, s' = penL s'' ∧ HOk s'' (1000 * ((i + 1 : Nat) : Int))) := by
      intro v hv
      subst hv
      rw [dLen_l, Option.bind_some, seen_down hn, cNe_of, cEq_ii, decide_eq_true rfl, Option.map_some, Option.bind_some, if_neg (by decide)]
      refine .bind ((hidden_ok h4 (by omega) hn).imp fun q hq => ?_)
      obtain ⟨H, s5, rfl, hH, h5⟩ := hq
      dsimp only
      obtain ⟨u1, u2⟩ := trials_ok54 (Z := Z) hz hn hH
      rw [u1, Option.bind_some, cIs_ln, Option.bind_some, if_neg (by decide), dLen_l, Option.bind_some, cGt_ii, decide_eq_false (by omega), Option.bind_some, Option.bind_some, if_neg (by decide)]
      exact .mk ⟨_, rfl, fun _ => ⟨s5, rfl, h5.mono (by omega)⟩⟩
    by_cases q : (seenF n r (downN n (lowB r))).isEmpty = true
    · have e0 : seenF n r (downN n (lowB r)) = [] := List.isEmpty_iff.mp q
      rw [q, if_neg (by decide), Option.bind_some]
      exact fin (by rw [e0])
    · rw [Bool.not_eq_true] at q
      rw [q, if_pos (by decide), Option.bind_some]
      exact fin rfl
  · obtain ⟨s', rfl, hc⟩ := hc
    rw [rngD_len] at hc
    obtain ⟨s1, rfl, h1⟩ := hc (by decide)
    rw [ctl_g]
    refine .bind ((next_ok h1 (by omega) (by decide)).imp fun q hq => ?_)
    obtain ⟨lo, s2, rfl, l0, l1, h2⟩ := hq
    dsimp only
    obtain ⟨r, rfl⟩ := low l0 l1
    have hb := lowB_b (r := r)
    rw [dAdd_ii, Option.bind_some, dSub_ii, Option.bind_some]
    refine .bind ((next_ok h2 (by omega) (by omega)).imp fun q hq => ?_)
    obtain ⟨d, s3, rfl, d0, d1, h3⟩ := hq
    dsimp only
    have m2 := most_ok (n := 2) (r := false) (by decide)
    have m24 := most_ok (n := 24) (r := false) (by decide)
    rw [show mostN 2 (lowB false) = 5 from by decide] at m2
    rw [show mostN 24 (lowB false) = 99 from by decide +kernel] at m24
    rw [dAdd_ii, Option.bind_some, small_ok54 hz (n := 1 + lowB r + d) (by omega), Option.bind_some, dTru_b, Option.bind_some, if_pos rfl, m2, Option.bind_some, cEq_ii, Option.bind_some, dTru_b, Option.bind_some, if_pos (by decide), m24, Option.bind_some, cEq_ii, Option.bind_some, Option.bind_some]
    exact .mk rfl
end My
namespace My
open PySem PySem.Spec L2 DX SX PyProof.Rows StX LamX
theorem sc_Ltap : FnScope ["_law_script"] ["_law_script"] (defScope s_Ltap) := ⟨rfl, rfl, rfl, by decide +kernel, rfl, by decide +kernel, by decide +kernel⟩
theorem sc_Lnext : FnScope ["_law_tap_here", "_law_many", "_law_digit", "_law_turn", "_law_cell", "_law_great", "_law_mixed"] ["_law_tap_here", "_law_many"] (defScope s_Lnext) := ⟨rfl, rfl, rfl, by decide +kernel, rfl, by decide +kernel, by decide +kernel⟩
theorem sc_output_positions : FnScope ["n", "ring"] ["n", "ring"] (defScope s_output_positions) := ⟨rfl, rfl, rfl, by decide +kernel, rfl, by decide +kernel, by decide +kernel⟩
theorem sc_halvings : FnScope ["many", "found"] ["many"] (defScope s_halvings) := ⟨rfl, rfl, rfl, by decide +kernel, rfl, by decide +kernel, by decide +kernel⟩
theorem sc_most_trials : FnScope ["n", "ring", "first", "many"] ["n", "ring"] (defScope s_most_trials) := ⟨rfl, rfl, rfl, by decide +kernel, rfl, by decide +kernel, by decide +kernel⟩
theorem sc_Lhidden : FnScope ["_law_tap_here", "_law_bits", "_law_low", "_law_left", "_law_way", "_law_many", "_law_found", "_law_k"] ["_law_tap_here", "_law_bits", "_law_low"] (defScope s_Lhidden) := ⟨rfl, rfl, rfl, by decide +kernel, rfl, by decide +kernel, by decide +kernel⟩
theorem sc_is_between : FnScope ["value", "least", "most"] ["value", "least", "most"] (defScope s_is_between) := ⟨rfl, rfl, rfl, by decide +kernel, rfl, by decide +kernel, by decide +kernel⟩
theorem sc_first_ones : FnScope ["positions", "found", "position"] ["positions"] (defScope s_first_ones) := ⟨rfl, rfl, rfl, by decide +kernel, rfl, by decide +kernel, by decide +kernel⟩
theorem sc_Order___init__ : FnScope ["self", "positions", "index", "position"] ["self", "positions"] (defScope s_Order___init__) := ⟨rfl, rfl, rfl, by decide +kernel, rfl, by decide +kernel, by decide +kernel⟩
theorem sc_Order___add__ : FnScope ["self", "other"] ["self", "other"] (defScope s_Order___add__) := ⟨rfl, rfl, rfl, by decide +kernel, rfl, by decide +kernel, by decide +kernel⟩
theorem sc_need_size : FnScope ["n", "ring"] ["n", "ring"] (defScope s_need_size) := ⟨rfl, rfl, rfl, by decide +kernel, rfl, by decide +kernel, by decide +kernel⟩
theorem sc_candidates_behind : FnScope ["n", "ring", "entries", "left", "position"] ["n", "ring", "entries"] (defScope s_candidates_behind) := ⟨rfl, rfl, rfl, by decide +kernel, rfl, by decide +kernel, by decide +kernel⟩
theorem sc_Finder___init__ : FnScope ["self", "n", "ring"] ["self", "n", "ring"] (defScope s_Finder___init__) := ⟨rfl, rfl, rfl, by decide +kernel, rfl, by decide +kernel, by decide +kernel⟩
theorem sc_Finder_candidates : FnScope ["self"] ["self"] (defScope s_Finder_candidates) := ⟨rfl, rfl, rfl, by decide +kernel, rfl, by decide +kernel, by decide +kernel⟩
theorem sc_Finder_is_finished : FnScope ["self"] ["self"] (defScope s_Finder_is_finished) := ⟨rfl, rfl, rfl, by decide +kernel, rfl, by decide +kernel, by decide +kernel⟩
theorem sc_settled_stage : FnScope ["n", "ring", "entries", "candidates"] ["n", "ring", "entries", "candidates"] (defScope s_settled_stage) := ⟨rfl, rfl, rfl, by decide +kernel, rfl, by decide +kernel, by decide +kernel⟩
theorem sc_Finder_tell : FnScope ["self", "carry", "entries", "candidates", "half", "left"] ["self", "carry"] (defScope s_Finder_tell) := ⟨rfl, rfl, rfl, by decide +kernel, rfl, by decide +kernel, by decide +kernel⟩
theorem sc_trial_with : FnScope ["n", "zero", "placed", "given", "position"] ["n", "zero", "placed"] (defScope s_trial_with) := ⟨rfl, rfl, rfl, by decide +kernel, rfl, by decide +kernel, by decide +kernel⟩
theorem sc_next_trial : FnScope ["n", "ring", "candidates", "half", "zero", "placed", "index", "candidate", "state"] ["n", "ring", "candidates"] (defScope s_next_trial) := ⟨rfl, rfl, rfl, by decide +kernel, rfl, by decide +kernel, by decide +kernel⟩
theorem sc_Finder_trial : FnScope ["self"] ["self"] (defScope s_Finder_trial) := ⟨rfl, rfl, rfl, by decide +kernel, rfl, by decide +kernel, by decide +kernel⟩
theorem sc_Finder_known : FnScope ["self", "entries", "candidates"] ["self"] (defScope s_Finder_known) := ⟨rfl, rfl, rfl, by decide +kernel, rfl, by decide +kernel, by decide +kernel⟩
theorem sc_Finder_order : FnScope ["self"] ["self"] (defScope s_Finder_order) := ⟨rfl, rfl, rfl, by decide +kernel, rfl, by decide +kernel, by decide +kernel⟩
theorem sc_found_order : FnScope ["n", "ask", "ring", "finder"] ["n", "ask", "ring"] (defScope s_found_order) := ⟨rfl, rfl, rfl, by decide +kernel, rfl, by decide +kernel, by decide +kernel⟩
theorem sc_state_at : FnScope ["trial", "position"] ["trial", "position"] (defScope s_state_at) := ⟨rfl, rfl, rfl, by decide +kernel, rfl, by decide +kernel, by decide +kernel⟩
theorem sc_first_state : FnScope ["trial", "positions", "position"] ["trial", "positions"] (defScope s_first_state) := ⟨rfl, rfl, rfl, by decide +kernel, rfl, by decide +kernel, by decide +kernel⟩
theorem sc_Order___call__ : FnScope ["self", "trial"] ["self", "trial"] (defScope s_Order___call__) := ⟨rfl, rfl, rfl, by decide +kernel, rfl, by decide +kernel, by decide +kernel⟩
theorem sc_Lnoted : FnScope ["_law_seen", "_law_order_so", "_law_test"] ["_law_seen", "_law_order_so", "_law_test"] (defScope s_Lnoted) := ⟨rfl, rfl, rfl, by decide +kernel, rfl, by decide +kernel, by decide +kernel⟩
theorem sc_Order___eq__ : FnScope ["self", "other"] ["self", "other"] (defScope s_Order___eq__) := ⟨rfl, rfl, rfl, by decide +kernel, rfl, by decide +kernel, by decide +kernel⟩
theorem sc_Order_positions : FnScope ["self"] ["self"] (defScope s_Order_positions) := ⟨rfl, rfl, rfl, by decide +kernel, rfl, by decide +kernel, by decide +kernel⟩
theorem sc_Ltrials : FnScope ["_law_bits", "_law_low", "_law_entries", "_law_seen", "_law_order_so", "_law_entry", "_law_found"] ["_law_bits", "_law_low", "_law_entries"] (defScope s_Ltrials) := ⟨rfl, rfl, rfl, by decide +kernel, rfl, by decide +kernel, by decide +kernel⟩
theorem sc_Lsum : FnScope ["_law_bits", "_law_low", "_law_found", "_law_many", "_law_worth"] ["_law_bits", "_law_low"] (defScope s_Lsum) := ⟨rfl, rfl, rfl, by decide +kernel, rfl, by decide +kernel, by decide +kernel⟩
theorem sc_Lall : FnScope ["_law_bits", "_law_low", "_law_found", "_law_level", "_law_longer", "_law_entries", "_law_left", "_law_position"] ["_law_bits", "_law_low"] (defScope s_Lall) := ⟨rfl, rfl, rfl, by decide +kernel, rfl, by decide +kernel, by decide +kernel⟩
theorem sc_Lsmall_right : FnScope ["_law_bits", "_law_low", "_law_rows", "_law_entries", "_law_row"] ["_law_bits", "_law_low"] (defScope s_Lsmall_right) := ⟨rfl, rfl, rfl, by decide +kernel, rfl, by decide +kernel, by decide +kernel⟩
theorem sc_law : FnScope ["_law_script", "_law_tap_here", "_law_turn", "_law_low", "_law_bits", "_law_most", "_law_hidden_here", "_law_seen"] ["_law_script"] (defScope s_law) := ⟨rfl, rfl, rfl, by decide +kernel, rfl, by decide +kernel, by decide +kernel⟩
theorem sc_InvalidPosition___init__ : FnScope ["self", "index"] ["self", "index"] (defScope s_InvalidPosition___init__) := ⟨rfl, rfl, rfl, by decide +kernel, rfl, by decide +kernel, by decide +kernel⟩
theorem sc_InvalidSize___init__ : FnScope ["self", "value"] ["self", "value"] (defScope s_InvalidSize___init__) := ⟨rfl, rfl, rfl, by decide +kernel, rfl, by decide +kernel, by decide +kernel⟩
structure Txt0 (K : PySem.W.Frag) (mg : Str → Option Value) : Prop where
  d_Ltap : ∃ fd, FunD K "_law_tap" "_law_tap" (defArgs s_Ltap) (defBody s_Ltap) (defScope s_Ltap) [] [] (He.fAd K ("_law_tap", none)) fd
  m_Ltap : mg "_law_tap" = some (.ref (He.fAd K ("_law_tap", none)))
  d_Lnext : ∃ fd, FunD K "_law_next" "_law_next" (defArgs s_Lnext) (defBody s_Lnext) (defScope s_Lnext) [] [] (He.fAd K ("_law_next", none)) fd
  m_Lnext : mg "_law_next" = some (.ref (He.fAd K ("_law_next", none)))
  d_output_positions : ∃ fd, FunD K "output_positions" "output_positions" (defArgs s_output_positions) (defBody s_output_positions) (defScope s_output_positions) [] [] (He.fAd K ("output_positions", none)) fd
  m_output_positions : mg "output_positions" = some (.ref (He.fAd K ("output_positions", none)))
  d_halvings : ∃ fd, FunD K "halvings" "halvings" (defArgs s_halvings) (defBody s_halvings) (defScope s_halvings) [] [] (He.fAd K ("halvings", none)) fd
  m_halvings : mg "halvings" = some (.ref (He.fAd K ("halvings", none)))
  d_most_trials : ∃ fd, FunD K "most_trials" "most_trials" (defArgs s_most_trials) (defBody s_most_trials) (defScope s_most_trials) [] [("ring", .bl false)] (He.fAd K ("most_trials", none)) fd
  m_most_trials : mg "most_trials" = some (.ref (He.fAd K ("most_trials", none)))
  d_Lhidden : ∃ fd, FunD K "_law_hidden" "_law_hidden" (defArgs s_Lhidden) (defBody s_Lhidden) (defScope s_Lhidden) [] [] (He.fAd K ("_law_hidden", none)) fd
  m_Lhidden : mg "_law_hidden" = some (.ref (He.fAd K ("_law_hidden", none)))
  d_is_between : ∃ fd, FunD K "is_between" "is_between" (defArgs s_is_between) (defBody s_is_between) (defScope s_is_between) [] [] (He.fAd K ("is_between", none)) fd
  m_is_between : mg "is_between" = some (.ref (He.fAd K ("is_between", none)))
  d_first_ones : ∃ fd, FunD K "first_ones" "first_ones" (defArgs s_first_ones) (defBody s_first_ones) (defScope s_first_ones) [] [] (He.fAd K ("first_ones", none)) fd
  m_first_ones : mg "first_ones" = some (.ref (He.fAd K ("first_ones", none)))
  d_Order___init__ : ∃ fd, FunD K "__init__" "Order.__init__" (defArgs s_Order___init__) (defBody s_Order___init__) (defScope s_Order___init__) [] [] (He.fAd K ("Order", some "__init__")) fd
  d_Order___add__ : ∃ fd, FunD K "__add__" "Order.__add__" (defArgs s_Order___add__) (defBody s_Order___add__) (defScope s_Order___add__) [] [] (He.fAd K ("Order", some "__add__")) fd
  d_need_size : ∃ fd, FunD K "need_size" "need_size" (defArgs s_need_size) (defBody s_need_size) (defScope s_need_size) [] [] (He.fAd K ("need_size", none)) fd
  m_need_size : mg "need_size" = some (.ref (He.fAd K ("need_size", none)))
  d_candidates_behind : ∃ fd, FunD K "candidates_behind" "candidates_behind" (defArgs s_candidates_behind) (defBody s_candidates_behind) (defScope s_candidates_behind) [] [] (He.fAd K ("candidates_behind", none)) fd
  m_candidates_behind : mg "candidates_behind" = some (.ref (He.fAd K ("candidates_behind", none)))
  d_Finder___init__ : ∃ fd, FunD K "__init__" "Finder.__init__" (defArgs s_Finder___init__) (defBody s_Finder___init__) (defScope s_Finder___init__) [] [("ring", .bl false)] (He.fAd K ("Finder", some "__init__")) fd
  d_Finder_candidates : ∃ fd, FunD K "candidates" "Finder.candidates" (defArgs s_Finder_candidates) (defBody s_Finder_candidates) (defScope s_Finder_candidates) [] [] (prAd K "Finder" "candidates").2 fd
  d_Finder_is_finished : ∃ fd, FunD K "is_finished" "Finder.is_finished" (defArgs s_Finder_is_finished) (defBody s_Finder_is_finished) (defScope s_Finder_is_finished) [] [] (prAd K "Finder" "is_finished").2 fd
  d_settled_stage : ∃ fd, FunD K "settled_stage" "settled_stage" (defArgs s_settled_stage) (defBody s_settled_stage) (defScope s_settled_stage) [] [] (He.fAd K ("settled_stage", none)) fd
  m_settled_stage : mg "settled_stage" = some (.ref (He.fAd K ("settled_stage", none)))
  d_Finder_tell : ∃ fd, FunD K "tell" "Finder.tell" (defArgs s_Finder_tell) (defBody s_Finder_tell) (defScope s_Finder_tell) [] [] (He.fAd K ("Finder", some "tell")) fd
  d_trial_with : ∃ fd, FunD K "trial_with" "trial_with" (defArgs s_trial_with) (defBody s_trial_with) (defScope s_trial_with) [] [("zero", .str "K")] (He.fAd K ("trial_with", none)) fd
  m_trial_with : mg "trial_with" = some (.ref (He.fAd K ("trial_with", none)))
  d_next_trial : ∃ fd, FunD K "next_trial" "next_trial" (defArgs s_next_trial) (defBody s_next_trial) (defScope s_next_trial) [] [] (He.fAd K ("next_trial", none)) fd
  m_next_trial : mg "next_trial" = some (.ref (He.fAd K ("next_trial", none)))
  d_Finder_trial : ∃ fd, FunD K "trial" "Finder.trial" (defArgs s_Finder_trial) (defBody s_Finder_trial) (defScope s_Finder_trial) [] [] (prAd K "Finder" "trial").2 fd
  d_Finder_known : ∃ fd, FunD K "known" "Finder.known" (defArgs s_Finder_known) (defBody s_Finder_known) (defScope s_Finder_known) [] [] (prAd K "Finder" "known").2 fd
  d_Finder_order : ∃ fd, FunD K "order" "Finder.order" (defArgs s_Finder_order) (defBody s_Finder_order) (defScope s_Finder_order) [] [] (He.fAd K ("Finder", some "order")) fd
  d_found_order : ∃ fd, FunD K "found_order" "found_order" (defArgs s_found_order) (defBody s_found_order) (defScope s_found_order) [] [("ring", .bl false)] (He.fAd K ("found_order", none)) fd
  m_found_order : mg "found_order" = some (.ref (He.fAd K ("found_order", none)))
  d_state_at : ∃ fd, FunD K "state_at" "state_at" (defArgs s_state_at) (defBody s_state_at) (defScope s_state_at) [] [] (He.fAd K ("state_at", none)) fd
  m_state_at : mg "state_at" = some (.ref (He.fAd K ("state_at", none)))
  d_first_state : ∃ fd, FunD K "first_state" "first_state" (defArgs s_first_state) (defBody s_first_state) (defScope s_first_state) [] [] (He.fAd K ("first_state", none)) fd
  m_first_state : mg "first_state" = some (.ref (He.fAd K ("first_state", none)))
  d_Order___call__ : ∃ fd, FunD K "__call__" "Order.__call__" (defArgs s_Order___call__) (defBody s_Order___call__) (defScope s_Order___call__) [] [] (He.fAd K ("Order", some "__call__")) fd
  d_Lnoted : ∃ fd, FunD K "_law_noted" "_law_noted" (defArgs s_Lnoted) (defBody s_Lnoted) (defScope s_Lnoted) [] [] (He.fAd K ("_law_noted", none)) fd
  m_Lnoted : mg "_law_noted" = some (.ref (He.fAd K ("_law_noted", none)))
  d_Order___eq__ : ∃ fd, FunD K "__eq__" "Order.__eq__" (defArgs s_Order___eq__) (defBody s_Order___eq__) (defScope s_Order___eq__) [] [] (He.fAd K ("Order", some "__eq__")) fd
  d_Order_positions : ∃ fd, FunD K "positions" "Order.positions" (defArgs s_Order_positions) (defBody s_Order_positions) (defScope s_Order_positions) [] [] (prAd K "Order" "positions").2 fd
  d_Ltrials : ∃ fd, FunD K "_law_trials" "_law_trials" (defArgs s_Ltrials) (defBody s_Ltrials) (defScope s_Ltrials) [] [] (He.fAd K ("_law_trials", none)) fd
  m_Ltrials : mg "_law_trials" = some (.ref (He.fAd K ("_law_trials", none)))
  d_Lsum : ∃ fd, FunD K "_law_sum" "_law_sum" (defArgs s_Lsum) (defBody s_Lsum) (defScope s_Lsum) [] [] (He.fAd K ("_law_sum", none)) fd
  m_Lsum : mg "_law_sum" = some (.ref (He.fAd K ("_law_sum", none)))
  d_Lall : ∃ fd, FunD K "_law_all" "_law_all" (defArgs s_Lall) (defBody s_Lall) (defScope s_Lall) [] [] (He.fAd K ("_law_all", none)) fd
  m_Lall : mg "_law_all" = some (.ref (He.fAd K ("_law_all", none)))
  d_Lsmall_right : ∃ fd, FunD K "_law_small_right" "_law_small_right" (defArgs s_Lsmall_right) (defBody s_Lsmall_right) (defScope s_Lsmall_right) [] [] (He.fAd K ("_law_small_right", none)) fd
  m_Lsmall_right : mg "_law_small_right" = some (.ref (He.fAd K ("_law_small_right", none)))
  d_law : ∃ fd, FunD K "law" "law" (defArgs s_law) (defBody s_law) (defScope s_law) [] [] (He.fAd K ("law", none)) fd
  m_law : mg "law" = some (.ref (He.fAd K ("law", none)))
  d_InvalidPosition___init__ : ∃ fd, FunD K "__init__" "InvalidPosition.__init__" (defArgs s_InvalidPosition___init__) (defBody s_InvalidPosition___init__) (defScope s_InvalidPosition___init__) [] [] (He.fAd K ("InvalidPosition", some "__init__")) fd
  d_InvalidSize___init__ : ∃ fd, FunD K "__init__" "InvalidSize.__init__" (defArgs s_InvalidSize___init__) (defBody s_InvalidSize___init__) (defScope s_InvalidSize___init__) [] [] (He.fAd K ("InvalidSize", some "__init__")) fd
  co_Order_GREATEST : ∃ u, Con K (He.ga K "Order") "GREATEST" (.int 24) u
  er_InvalidPosition : ErrC "ValueError.__new__" mroV K "InvalidPosition"
  nf_InvalidPosition_index : PySem.W.findIn K (.ref (He.ga K "InvalidPosition")) "index" = some none
  g_InvalidPosition : mg "InvalidPosition" = some (.ref (He.ga K "InvalidPosition"))
  cls_Order : Cls K (He.ga K "Order")
  no_Order_entries : NoAttr K (He.ga K "Order") "entries"
  mk_Order : Mk K (He.ga K "Order") (He.fAd K ("Order", some "__init__"))
  g_Order : mg "Order" = some (.ref (He.ga K "Order"))
  er_InvalidSize : ErrC "ValueError.__new__" mroV K "InvalidSize"
  nf_InvalidSize_value : PySem.W.findIn K (.ref (He.ga K "InvalidSize")) "value" = some none
  g_InvalidSize : mg "InvalidSize" = some (.ref (He.ga K "InvalidSize"))
  cls_Finder : Cls K (He.ga K "Finder")
  no_Finder_stages : NoAttr K (He.ga K "Finder") "stages"
  no_Finder_carries_told : NoAttr K (He.ga K "Finder") "carries_told"
  no_Finder_for_ring : NoAttr K (He.ga K "Finder") "for_ring"
  no_Finder_bits : NoAttr K (He.ga K "Finder") "bits"
  pr_Finder_candidates : PropOf K (He.ga K "Finder") "candidates" (prAd K "Finder" "candidates").1 (prAd K "Finder" "candidates").2
  pr_Finder_is_finished : PropOf K (He.ga K "Finder") "is_finished" (prAd K "Finder" "is_finished").1 (prAd K "Finder" "is_finished").2
  en_NotFinished : ErrN "LookupError.__new__" mroL K "NotFinished"
  g_NotFinished : mg "NotFinished" = some (.ref (He.ga K "NotFinished"))
  pr_Finder_known : PropOf K (He.ga K "Finder") "known" (prAd K "Finder" "known").1 (prAd K "Finder" "known").2
  mk_Finder : Mk K (He.ga K "Finder") (He.fAd K ("Finder", some "__init__"))
  g_Finder : mg "Finder" = some (.ref (He.ga K "Finder"))
  me_Finder_tell : Meth K (He.ga K "Finder") "tell" (He.fAd K ("Finder", some "tell"))
  pr_Finder_trial : PropOf K (He.ga K "Finder") "trial" (prAd K "Finder" "trial").1 (prAd K "Finder" "trial").2
  me_Finder_order : Meth K (He.ga K "Finder") "order" (He.fAd K ("Finder", some "order"))
  call_Order : StX.CallO K (He.ga K "Order") (He.fAd K ("Order", some "__call__"))
  isi_Order : IsiC K (He.ga K "Order")
  me_Order___add__ : Meth K (He.ga K "Order") "__add__" (He.fAd K ("Order", some "__add__"))
  sf_Order : PySem.W.selfFirst K (He.ga K "Order") = true
  me_Order___eq__ : Meth K (He.ga K "Order") "__eq__" (He.fAd K ("Order", some "__eq__"))
  ot1_Order : ∀ n ∈ (["NoneType", "bool", "int", "str", "tuple", "list", "dict"] : List String), PySem.W.subIn K (.type n) (.ref (He.ga K "Order")) = some false
  ot2_Order : ∀ C ∈ (["Order"] : List PySem.Str).map (Zk K), PySem.W.notFirst K (He.ga K "Order") (.ref C) = true
  pr_Order_positions : PropOf K (He.ga K "Order") "positions" (prAd K "Order" "positions").1 (prAd K "Order" "positions").2
  hz : Hz (Zk K)
  b_abs : mg "abs" = none
  b_bool : mg "bool" = none
  b_dict : mg "dict" = none
  b_enumerate : mg "enumerate" = none
  b_int : mg "int" = none
  b_isinstance : mg "isinstance" = none
  b_len : mg "len" = none
  b_list : mg "list" = none
  b_max : mg "max" = none
  b_range : mg "range" = none
  b_repr : mg "repr" = none
  b_sum : mg "sum" = none
  b_tuple : mg "tuple" = none
  g_END : ∃ t, mg "END" = some (.str "end" t)
  g_GENERATE : ∃ t, mg "GENERATE" = some (.str "G" t)
  g_KILL : ∃ t, mg "KILL" = some (.str "K" t)
  g_MOST_BITS : ∃ t, mg "MOST_BITS" = some (.int 24 t)
  g_PASS : ∃ t, mg "PASS" = some (.str "P" t)
  sys : sysB K = true
structure Txt (K : PySem.W.Frag) (mg : Str → Option Value) (base : Heap) : Prop extends Txt0 K mg where
  tb : ∀ x ∈ tl, LamX.TabB base mg (ctA K x.1).1 (ctA K x.1).2
def tr_Ltap (K : PySem.W.Frag) : TrB := fun ds M P R => ∃ x0 : D, ∃ r : List D, ds = [x0] ∧ F_Ltap x0 = some r ∧ (∀ q, M q = none → P (.adr q) (up M q (.lst r)))
set_option maxHeartbeats 0 in
theorem ok_Ltap {pg : Program} {w : World} {K : PySem.W.Frag} {mg : Str → Option Value} {base : Heap} (T : Txt K mg base) : BodyX pg w K mg base false 2 (He.fAd K ("_law_tap", none)) "_law_tap" (defBody s_Ltap) (defScope s_Ltap) ["_law_script"] ["_law_script"] (tr_Ltap K) := fun cdv hcv A outer s H F0 E ds M P R hgd0 hr t hL hpo kx => by
  obtain ⟨x0, r, rfl, hF, hk⟩ := t
  unfold F_Ltap at hF
  exact gx_seq (g1_ret (ex_less (ex_lstM (ax_cons (ex_ty T.b_list bb_list (ax_cons (ex_slice (ex_var 0 rfl (ox_none (ox_d (ex_int (bi hF fun i1 hi1 hF => ⟨_, _, .id, hi1, bi hF fun v2 hv2 hF => sd_dCut .id hv2 (ax_nil (bi hF fun l3 hl3 hF => cd_lList rfl .id hl3 (ax_cons (ex_int (ax_cons (ex_int (ax_nil (⟨le_b rfl, fun a4 ha4 => have fb_a4 := ha4; ⟨_, (sub_keep sub_refl), (by have e := so hF; cases e; exact hk a4 fb_a4)⟩⟩))))))))⟩))))))))))))
theorem fx_Ltap_1 {pg : Program} {w : World} {K : PySem.W.Frag} {mg : Str → Option Value} {base : Heap} (T : Txt K mg base) : FnX pg w K mg base false 3 (He.fAd K ("_law_tap", none)) ([] : List PySem.Str) (fun ds zs M P R => ds.length = 1 ∧ zs.length = ([] : List PySem.Str).length ∧ tr_Ltap K (pick (ds ++ ([] ++ zs)) [0]) M P R) :=
  fn_kwX T.d_Ltap.choose_spec sc_Ltap (ok_Ltap T) 1 ([] : List PySem.Str) [] [] [0] (by simp) (fun _ => .nil) (fun kV D doc pm an cdv ct us mv ws e h1 h2 h3 => match us, mv, ws, h1, h2, h3 with | [_], [], [], _, _, _ => rfl) (fun us mv ws h1 h2 h3 => match us, mv, ws, h1, h2, h3 with | [_], [], [], _, _, _ => rfl)
def tr_Lnext (K : PySem.W.Frag) : TrB := fun ds M P R => ∃ (p_0 : Addr) (x0 : List D), ∃ x1 : D, ∃ r : D × List D, ∃ W : D → Mem, ds = [.adr p_0, x1] ∧ M = W (.lst x0) ∧ (∀ z0, At (W z0) p_0 z0 (fun z => W z)) ∧ F_Lnext x0 x1 = some r ∧ P r.1 (W (.lst r.2))
set_option maxHeartbeats 0 in
theorem ok_Lnext {pg : Program} {w : World} {K : PySem.W.Frag} {mg : Str → Option Value} {base : Heap} (T : Txt K mg base) : BodyX pg w K mg base false 2 (He.fAd K ("_law_next", none)) "_law_next" (defBody s_Lnext) (defScope s_Lnext) ["_law_tap_here", "_law_many", "_law_digit", "_law_turn", "_law_cell", "_law_great", "_law_mixed"] ["_law_tap_here", "_law_many"] (tr_Lnext K) := fun cdv hcv A outer s H F0 E ds M P R hgd0 hr t hL hpo kx => by
  obtain ⟨p_0, x0, x1, r, W, rfl, rfl, hW0, hF, hk⟩ := t
  unfold F_Lnext at hF
  refine gx_seq (g1_if (tx_cmp (ex_ix (ex_var 0 rfl (ex_int (bi hF fun v2 hv2 hF => id_dIx (.ad (hW0 _).get rfl) .id hv2 (ex_int (bi hF fun t3 ht3 hF => od_cGt .id .id ht3 (⟨_, rfl, ⟨fun q1 => ?_, fun q1 => ?_⟩⟩)))))))))
  · have hF := iT q1 hF
    refine gx_seq (g1_asg (ex_bin (ex_ix (ex_var 0 rfl (ex_int (bi hF fun v4 hv4 hF => id_dIx (.ad (hW0 _).get rfl) .id hv4 (ex_var 1 rfl (bi hF fun v5 hv5 hF => od_dMod .id .id hv5 (as_name 2 (?_) sc_Lnext.nd)))))))))
    refine gx_seq (g1_setIxF (ex_bin (ex_ix (ex_var 0 rfl (ex_int (bi hF fun v6 hv6 hF => id_dIx (.ad (hW0 _).get rfl) .id hv6 (ex_var 1 rfl (bi hF fun v7 hv7 hF => od_dFdiv .id .id hv7 (ex_var 0 rfl (ex_int (bi hF fun l8 hl8 hF => ⟨_, _, _, l8, rfl, (hW0 _), hl8, ?_⟩)))))))))))
    exact gx_seq (g1_ret (ex_less (ex_var 2 rfl (⟨_, sub_refl, ret1 (W := W) (so hF) hk⟩))))
  · have hF := iF q1 hF
    refine gx_nil ?_
    show GX _ _ _ _ _ _
    refine gx_seq (g1_asg (ex_ix (ex_var 0 rfl (ex_int (bi hF fun v9 hv9 hF => id_dIx (.ad (hW0 _).get rfl) .id hv9 (as_name 3 (?_) sc_Lnext.nd))))))
    refine gx_seq (g1_setIxF (ex_bin (ex_var 3 rfl (ex_int (bi hF fun v10 hv10 hF => od_dAdd .id .id hv10 (ex_var 0 rfl (ex_int (bi hF fun l11 hl11 hF => ⟨_, _, _, l11, rfl, (hW0 _), hl11, ?_⟩))))))))
    refine gx_seq (g1_asg (ex_bin (ex_bin (ex_int (ex_var 3 rfl (bi hF fun v12 hv12 hF => od_dMul .id .id hv12 (ex_int (bi hF fun v13 hv13 hF => od_dAdd .id .id hv13 (as_name 4 (?_) sc_Lnext.nd)))))))))
    refine gx_seq (bi hF fun r15 hF hRr15 => g1_mid (fun ρ' M' => ∃ j0 : Option D, ∃ j1 : Option D, ∃ j2 : Option D, ρ' = [some (.adr p_0), some x1, j0, some v9, some r15, j1, j2] ∧ M' = (W (.lst l11))) (g1_if (tx_cmp (ex_ix (ex_var 0 rfl (ex_int (bi hF fun v16 hv16 hF => id_dIx (.ad (hW0 _).get rfl) .id hv16 (ex_lst (ax_nil (⟨le_b rfl, bi hF fun t17 ht17 hF => od_cNe hr.units .id .id ht17 (⟨_, rfl, ⟨fun q14 => ?_, fun q14 => ?_⟩⟩)⟩))))))))) ?_)
    · have hF := iT q14 hF
      refine gx_seq (g1_asg (ex_ix (ex_ix (ex_var 0 rfl (ex_int (bi hF fun v18 hv18 hF => id_dIx (.ad (hW0 _).get rfl) .id hv18 (ex_bin (ex_var 3 rfl (ex_blt T.b_len bb_len (ax_cons (ex_ix (ex_var 0 rfl (ex_int (bi hF fun v19 hv19 hF => id_dIx (.ad (hW0 _).get rfl) .id hv19 (ax_nil (bi hF fun v20 hv20 hF => cd_dLen .id hv20 (bi hF fun v21 hv21 hF => od_dMod .id .id hv21 (bi hF fun v22 hv22 hF => id_dIx .id .id hv22 (as_name 4 (?_) sc_Lnext.nd)))))))))))))))))))
      cases hF
      exact gx_nil ⟨_, _, _, rfl, rfl⟩
    · have hF := iF q14 hF
      cases hF
      exact gx_nil ⟨_, _, _, rfl, rfl⟩
    · rintro _ _ ⟨_, _, _, rfl, rfl⟩
      have hF := hRr15
      try dsimp only at hF
      show GX _ _ _ _ _ _
      refine gx_seq (g1_if (bi hF fun t31 ht31 hF => tx_fix t31 (W (.lst l11)) (have hF := ht31; tx_pw (wx_and (tx_cmp (ex_var 3 rfl (ex_blt T.b_len bb_len (ax_cons (ex_ix (ex_var 0 rfl (ex_int (bi hF fun v25 hv25 hF => id_dIx (.ad (hW0 _).get rfl) .id hv25 (ax_nil (bi hF fun v26 hv26 hF => cd_dLen .id hv26 (bi hF fun t27 ht27 hF => od_cLt .id .id ht27 (⟨_, rfl, ⟨fun q24 => have hF := iT q24 hF; wx_and1 (tx_cmp (ex_blt T.b_abs bb_abs (ax_cons (ex_var 4 rfl (ax_nil (bi hF fun v28 hv28 hF => cd_dAbs .id hv28 (ex_bin (ex_int (ex_int (bi hF fun v29 hv29 hF => od_dPow .id .id hv29 (bi hF fun t30 ht30 hF => od_cGe .id .id ht30 (⟨_, rfl, ⟨so hF, rfl⟩⟩)))))))))))), fun q24 => ⟨so (iF q24 hF), rfl⟩⟩⟩)))))))))))))) (⟨fun q23 => ?_, fun q23 => ?_⟩)))
      · have hF := iT q23 hF
        refine gx_seq (g1_asg (ex_bin (ex_bin (ex_int (ex_blt T.b_abs bb_abs (ax_cons (ex_var 4 rfl (ax_nil (bi hF fun v32 hv32 hF => cd_dAbs .id hv32 (bi hF fun v33 hv33 hF => od_dMul .id .id hv33 (ex_ty T.b_int bb_int (ax_cons (ex_cmp (ex_var 4 rfl (ex_int (bi hF fun t34 ht34 hF => od_cLt .id .id ht34 (ax_nil (bi hF fun v35 hv35 hF => cd_dInt .id hv35 (bi hF fun v36 hv36 hF => od_dAdd .id .id hv36 (as_name 5 (?_) sc_Lnext.nd))))))))))))))))))))
        refine gx_seq (g1_setIxF (ex_bin (ex_var 5 rfl (ex_var 1 rfl (bi hF fun v37 hv37 hF => od_dFdiv .id .id hv37 (ex_var 0 rfl (ex_int (bi hF fun l38 hl38 hF => ⟨_, _, _, l38, rfl, (hW0 _), hl38, ?_⟩))))))))
        exact gx_seq (g1_ret (ex_less (ex_bin (ex_var 5 rfl (ex_var 1 rfl (bi hF fun v39 hv39 hF => od_dMod .id .id hv39 (⟨_, sub_refl, ret1 (W := W) (so hF) hk⟩)))))))
      · have hF := iF q23 hF
        refine gx_nil ?_
        show GX _ _ _ _ _ _
        refine gx_seq (g1_asg (ex_bin (ex_bin (ex_bin (ex_bin (ex_bin (ex_var 4 rfl (ex_int (bi hF fun v40 hv40 hF => od_dMod .id .id hv40 (ex_bin (ex_int (ex_var 3 rfl (bi hF fun v41 hv41 hF => od_dMul .id .id hv41 (bi hF fun v42 hv42 hF => od_dAdd .id .id hv42 (ex_int (bi hF fun v43 hv43 hF => od_dAdd .id .id hv43 (ex_int (bi hF fun v44 hv44 hF => od_dPow .id .id hv44 (ex_int (bi hF fun v45 hv45 hF => od_dMod .id .id hv45 (as_name 6 (?_) sc_Lnext.nd)))))))))))))))))))))
        refine gx_seq (g1_asg (ex_bin (ex_bin (ex_bin (ex_bin (ex_bin (ex_var 6 rfl (ex_bin (ex_bin (ex_int (ex_var 3 rfl (bi hF fun v46 hv46 hF => od_dMul .id .id hv46 (ex_int (bi hF fun v47 hv47 hF => od_dAdd .id .id hv47 (bi hF fun v48 hv48 hF => od_dMul .id .id hv48 (ex_bin (ex_bin (ex_int (ex_var 3 rfl (bi hF fun v49 hv49 hF => od_dMul .id .id hv49 (ex_var 3 rfl (bi hF fun v50 hv50 hF => od_dMul .id .id hv50 (bi hF fun v51 hv51 hF => od_dAdd .id .id hv51 (ex_int (bi hF fun v52 hv52 hF => od_dAdd .id .id hv52 (ex_int (bi hF fun v53 hv53 hF => od_dPow .id .id hv53 (ex_int (bi hF fun v54 hv54 hF => od_dMod .id .id hv54 (as_name 6 (?_) sc_Lnext.nd))))))))))))))))))))))))))))))
        exact gx_seq (g1_ret (ex_less (ex_bin (ex_bin (ex_var 6 rfl (ex_int (bi hF fun v55 hv55 hF => od_dFdiv .id .id hv55 (ex_var 1 rfl (bi hF fun v56 hv56 hF => od_dMod .id .id hv56 (⟨_, sub_refl, ret1 (W := W) (so hF) hk⟩))))))))))
theorem fx_Lnext_2 {pg : Program} {w : World} {K : PySem.W.Frag} {mg : Str → Option Value} {base : Heap} (T : Txt K mg base) : FnX pg w K mg base false 3 (He.fAd K ("_law_next", none)) ([] : List PySem.Str) (fun ds zs M P R => ds.length = 2 ∧ zs.length = ([] : List PySem.Str).length ∧ tr_Lnext K (pick (ds ++ ([] ++ zs)) [0, 1]) M P R) :=
  fn_kwX T.d_Lnext.choose_spec sc_Lnext (ok_Lnext T) 2 ([] : List PySem.Str) [] [] [0, 1] (by simp) (fun _ => .nil) (fun kV D doc pm an cdv ct us mv ws e h1 h2 h3 => match us, mv, ws, h1, h2, h3 with | [_, _], [], [], _, _, _ => rfl) (fun us mv ws h1 h2 h3 => match us, mv, ws, h1, h2, h3 with | [_, _], [], [], _, _, _ => rfl)
def tr_output_positions (K : PySem.W.Frag) : TrB := fun ds M P R => ∃ x0 : D, ∃ x1 : D, ∃ r : D, ds = [x0, x1] ∧ F_output_positions x0 x1 = some r ∧ P r M
set_option maxHeartbeats 0 in
theorem ok_output_positions {pg : Program} {w : World} {K : PySem.W.Frag} {mg : Str → Option Value} {base : Heap} (T : Txt K mg base) : BodyX pg w K mg base false 2 (He.fAd K ("output_positions", none)) "output_positions" (defBody s_output_positions) (defScope s_output_positions) ["n", "ring"] ["n", "ring"] (tr_output_positions K) := fun cdv hcv A outer s H F0 E ds M P R hgd0 hr t hL hpo kx => by
  obtain ⟨x0, x1, r, rfl, hF, hk⟩ := t
  unfold F_output_positions at hF
  exact gx_seq (g1_ret (ex_less (ex_tupRF rfl T.b_tuple T.b_range (ax_cons (ex_ty T.b_int bb_int (ax_cons (ex_var 1 rfl (ax_nil (bi hF fun v1 hv1 hF => cd_dInt .id hv1 (ax_cons (ex_bin (ex_var 0 rfl (ex_int (bi hF fun v2 hv2 hF => od_dAdd .id .id hv2 (ax_nil (bi hF fun l3 hl3 hF => ⟨l3, hl3, (by intro i j c e; first | (cases e; rfl) | (cases e; done)), ⟨_, sub_refl, ret0 (so hF) hk⟩⟩))))))))))))))))
theorem fx_output_positions_2 {pg : Program} {w : World} {K : PySem.W.Frag} {mg : Str → Option Value} {base : Heap} (T : Txt K mg base) : FnX pg w K mg base false 3 (He.fAd K ("output_positions", none)) ([] : List PySem.Str) (fun ds zs M P R => ds.length = 2 ∧ zs.length = ([] : List PySem.Str).length ∧ tr_output_positions K (pick (ds ++ ([] ++ zs)) [0, 1]) M P R) :=
  fn_kwX T.d_output_positions.choose_spec sc_output_positions (ok_output_positions T) 2 ([] : List PySem.Str) [] [] [0, 1] (by simp) (fun _ => .nil) (fun kV D doc pm an cdv ct us mv ws e h1 h2 h3 => match us, mv, ws, h1, h2, h3 with | [_, _], [], [], _, _, _ => rfl) (fun us mv ws h1 h2 h3 => match us, mv, ws, h1, h2, h3 with | [_, _], [], [], _, _, _ => rfl)
def tr_halvings (K : PySem.W.Frag) : TrB := fun ds M P R => ∃ x0 : D, ∃ r : D, ds = [x0] ∧ F_halvings x0 = some r ∧ P r M
set_option maxHeartbeats 0 in
theorem ok_halvings {pg : Program} {w : World} {K : PySem.W.Frag} {mg : Str → Option Value} {base : Heap} (T : Txt K mg base) : BodyX pg w K mg base false 2 (He.fAd K ("halvings", none)) "halvings" (defBody s_halvings) (defScope s_halvings) ["many", "found"] ["many"] (tr_halvings K) := fun cdv hcv A outer s H F0 E ds M P R hgd0 hr t hL hpo kx => by
  obtain ⟨x0, r, rfl, hF, hk⟩ := t
  unfold F_halvings at hF
  refine gx_seq (g1_asg (ex_int (as_name 1 (?_) sc_halvings.nd)))
  refine gx_seq (bi hF fun r2 hlr2 hF => whF hpo hlr2 (fun s1 ρ' M' => ρ' = [some x0, some s1] ∧ M' = M) ⟨rfl, rfl⟩ ?_ ?_ ?_)
  · rintro s1 _ _ M hF ⟨rfl, rfl⟩
    try dsimp only at hF
    exact (have hF := hF; tx_cmp (ex_bin (ex_int (ex_var 1 rfl (bi hF fun v3 hv3 hF => od_dShl .id .id hv3 (ex_var 0 rfl (bi hF fun t4 ht4 hF => od_cLt .id .id ht4 (⟨_, rfl, ⟨so hF, rfl⟩⟩))))))))
  · rintro s1 _ _ M hF ⟨rfl, rfl⟩
    try dsimp only at hF
    refine gx_seq (g1_augF ip_add 1 rfl (ex_int (bi hF fun v5 hv5 hF => ⟨_, hv5, ?_⟩)) sc_halvings.nd)
    cases hF
    exact gx_nil ⟨rfl, rfl⟩
  · rintro _ M ⟨rfl, rfl⟩
    try dsimp only at hF
    show GX _ _ _ _ _ _
    exact gx_seq (g1_ret (ex_less (ex_var 1 rfl (⟨_, sub_refl, ret0 (so hF) hk⟩))))
theorem fx_halvings_1 {pg : Program} {w : World} {K : PySem.W.Frag} {mg : Str → Option Value} {base : Heap} (T : Txt K mg base) : FnX pg w K mg base false 3 (He.fAd K ("halvings", none)) ([] : List PySem.Str) (fun ds zs M P R => ds.length = 1 ∧ zs.length = ([] : List PySem.Str).length ∧ tr_halvings K (pick (ds ++ ([] ++ zs)) [0]) M P R) :=
  fn_kwX T.d_halvings.choose_spec sc_halvings (ok_halvings T) 1 ([] : List PySem.Str) [] [] [0] (by simp) (fun _ => .nil) (fun kV D doc pm an cdv ct us mv ws e h1 h2 h3 => match us, mv, ws, h1, h2, h3 with | [_], [], [], _, _, _ => rfl) (fun us mv ws h1 h2 h3 => match us, mv, ws, h1, h2, h3 with | [_], [], [], _, _, _ => rfl)
def tr_most_trials (K : PySem.W.Frag) : TrB := fun ds M P R => ∃ x0 : D, ∃ x1 : D, ∃ r : D, ds = [x0, x1] ∧ F_most_trials x0 x1 = some r ∧ P r M
set_option maxHeartbeats 0 in
theorem ok_most_trials {pg : Program} {w : World} {K : PySem.W.Frag} {mg : Str → Option Value} {base : Heap} (T : Txt K mg base) : BodyX pg w K mg base false 4 (He.fAd K ("most_trials", none)) "most_trials" (defBody s_most_trials) (defScope s_most_trials) ["n", "ring", "first", "many"] ["n", "ring"] (tr_most_trials K) := fun cdv hcv A outer s H F0 E ds M P R hgd0 hr t hL hpo kx => by
  obtain ⟨x0, x1, r, rfl, hF, hk⟩ := t
  unfold F_most_trials at hF
  refine gx_seq (g1_asg (ex_blt T.b_len bb_len (ax_cons (ex_callX (fx_output_positions_2 T) Lets.no (fun h => nomatch h) (hr.mono (by decide)) T.m_output_positions T.d_output_positions.choose_spec.kp (ev_a (ax_cons (ex_var 0 rfl (ax_cons (ex_var 1 rfl (ax_nil (kx_nil (bi hF fun v1 hv1 hF => ⟨rfl, ⟨rfl, rfl, ⟨_, _, v1, rfl, hv1, ax_nil (bi hF fun v2 hv2 hF => cd_dLen .id hv2 (as_name 2 (?_) sc_most_trials.nd))⟩⟩⟩))))))))))))
  exact gx_seq (g1_ret (ex_less (ex_bin (ex_callX (fx_halvings_1 T) Lets.no (fun h => nomatch h) (hr.mono (by decide)) T.m_halvings T.d_halvings.choose_spec.kp (ev_a (ax_cons (ex_var 2 rfl (ax_nil (kx_nil (bi hF fun v3 hv3 hF => ⟨rfl, ⟨rfl, rfl, ⟨_, v3, rfl, hv3, ex_blt T.b_sum bb_sum (ax_cons (ex_lc (own := [("many", 3)]) (hN := sc_most_trials.nd) rfl (bi hF fun v5 hv5 hF => bi hF fun l6 hl6 hF => ix_range2U (M2 := M) T.b_range ((have hF := hv5; ax_cons (ex_int (ax_cons (ex_bin (ex_var 2 rfl (ex_int (bi hF fun v4 hv4 hF => od_dAdd .id .id hv4 (ax_nil ((by cases hF; exact ⟨rfl, rfl⟩))))))))))) hl6 (bi hF fun _ hz11 hF => bi hF fun y9 hy9 hF => lcF hy9 (chk_inv hz11).1 (fun x8 _ acc d10 hF hd10 => have fb_d10 := hd10; asb_name 3 (fun _ _ _ _ _ => ex_callX (fx_halvings_1 T) Lets.no (fun h => nomatch h) (hr.mono (by decide)) T.m_halvings T.d_halvings.choose_spec.kp (ev_a (ax_cons (ex_var 3 rfl (ax_nil (kx_nil (bi hF fun v13 hv13 hF => ⟨rfl, ⟨rfl, rfl, ⟨_, v13, rfl, hv13, ⟨so hF, rfl⟩⟩⟩⟩))))))) (hN := sc_most_trials.nd)) (ax_nil (bi hF fun v14 hv14 hF => cd_dSum rfl .id hv14 (bi hF fun v15 hv15 hF => od_dAdd .id .id hv15 (⟨_, sub_refl, ret0 (so hF) hk⟩))))))))⟩⟩⟩))))))))))
theorem fx_most_trials_0_ring_n {pg : Program} {w : World} {K : PySem.W.Frag} {mg : Str → Option Value} {base : Heap} (T : Txt K mg base) : FnX pg w K mg base false 5 (He.fAd K ("most_trials", none)) (["ring", "n"] : List PySem.Str) (fun ds zs M P R => ds.length = 0 ∧ zs.length = (["ring", "n"] : List PySem.Str).length ∧ tr_most_trials K (pick (ds ++ ([] ++ zs)) [1, 0]) M P R) :=
  fn_kwX T.d_most_trials.choose_spec sc_most_trials (ok_most_trials T) 0 (["ring", "n"] : List PySem.Str) [] [] [1, 0] (by simp) (fun _ => .nil) (fun kV D doc pm an cdv ct us mv ws e h1 h2 h3 => match us, mv, ws, h1, h2, h3 with | [], [], [_, _], _, _, _ => rfl) (fun us mv ws h1 h2 h3 => match us, mv, ws, h1, h2, h3 with | [], [], [_, _], _, _, _ => rfl)
theorem fx_most_trials_1 {pg : Program} {w : World} {K : PySem.W.Frag} {mg : Str → Option Value} {base : Heap} (T : Txt K mg base) : FnX pg w K mg base false 5 (He.fAd K ("most_trials", none)) ([] : List PySem.Str) (fun ds zs M P R => ds.length = 1 ∧ zs.length = ([] : List PySem.Str).length ∧ tr_most_trials K (pick (ds ++ ([D.bl false] ++ zs)) [0, 1]) M P R) :=
  fn_kwX T.d_most_trials.choose_spec sc_most_trials (ok_most_trials T) 1 ([] : List PySem.Str) [("ring", .bl false)] [D.bl false] [0, 1] (by simp) (fun _ => .cons (.bl _) (.nil)) (fun kV D doc pm an cdv ct us mv ws e h1 h2 h3 => by have e2 := e (by simp); subst e2; exact match us, mv, ws, h1, h2, h3 with | [_], [_], [], _, _, _ => ⟨_, _, _, _, _, _, rfl, rfl, rfl⟩) (fun us mv ws h1 h2 h3 => match us, mv, ws, h1, h2, h3 with | [_], [_], [], _, _, _ => rfl)
theorem fx_most_trials_1_ring {pg : Program} {w : World} {K : PySem.W.Frag} {mg : Str → Option Value} {base : Heap} (T : Txt K mg base) : FnX pg w K mg base false 5 (He.fAd K ("most_trials", none)) (["ring"] : List PySem.Str) (fun ds zs M P R => ds.length = 1 ∧ zs.length = (["ring"] : List PySem.Str).length ∧ tr_most_trials K (pick (ds ++ ([] ++ zs)) [0, 1]) M P R) :=
  fn_kwX T.d_most_trials.choose_spec sc_most_trials (ok_most_trials T) 1 (["ring"] : List PySem.Str) [] [] [0, 1] (by simp) (fun _ => .nil) (fun kV D doc pm an cdv ct us mv ws e h1 h2 h3 => match us, mv, ws, h1, h2, h3 with | [_], [], [_], _, _, _ => rfl) (fun us mv ws h1 h2 h3 => match us, mv, ws, h1, h2, h3 with | [_], [], [_], _, _, _ => rfl)
def tr_Lhidden (K : PySem.W.Frag) : TrB := fun ds M P R => ∃ (p_0 : Addr) (x0 : List D), ∃ x1 : D, ∃ x2 : D, ∃ r : D × List D, ∃ W : D → Mem, ds = [.adr p_0, x1, x2] ∧ M = W (.lst x0) ∧ (∀ z0, At (W z0) p_0 z0 (fun z => W z)) ∧ F_Lhidden x0 x1 x2 = some r ∧ P r.1 (W (.lst r.2))
set_option maxHeartbeats 0 in
theorem ok_Lhidden {pg : Program} {w : World} {K : PySem.W.Frag} {mg : Str → Option Value} {base : Heap} (T : Txt K mg base) : BodyX pg w K mg base false 4 (He.fAd K ("_law_hidden", none)) "_law_hidden" (defBody s_Lhidden) (defScope s_Lhidden) ["_law_tap_here", "_law_bits", "_law_low", "_law_left", "_law_way", "_law_many", "_law_found", "_law_k"] ["_law_tap_here", "_law_bits", "_law_low"] (tr_Lhidden K) := fun cdv hcv A outer s H F0 E ds M P R hgd0 hr t hL hpo kx => by
  obtain ⟨p_0, x0, x1, x2, r, W, rfl, rfl, hW0, hF, hk⟩ := t
  unfold F_Lhidden at hF
  refine gx_seq (g1_asg (ex_lstRMF rfl T.b_list T.b_range (ax_cons (ex_var 2 rfl (ax_cons (ex_bin (ex_var 1 rfl (ex_int (bi hF fun v1 hv1 hF => od_dAdd .id .id hv1 (ax_nil (bi hF fun l2 hl2 hF => ⟨l2, hl2, (by intro i j c e; first | (cases e; rfl) | (cases e; done)), fun a3 ha3 => have ne_p_0_a3 := At.ne (hW0 _) ha3; have fb_a3 := fresh1 hW0 ha3; as_name 3 (?_) sc_Lhidden.nd⟩)))))))))))
  refine gx_seq (g1_asg (ex_callX (fx_Lnext_2 T) Lets.no (fun h => nomatch h) (hr.mono (by decide)) T.m_Lnext T.d_Lnext.choose_spec.kp (ev_a (ax_cons (ex_var 0 rfl (ax_cons (ex_int (ax_nil (kx_nil (bi hF fun v4 hv4 hF => ⟨rfl, ⟨rfl, rfl, ⟨p_0, x0, _, v4, (fun w0 => (up (W w0) a3 (.lst l2))), rfl, rfl, fun _ => (at1 ne_p_0_a3 (hW0 _)), hv4, as_name 4 (?_) sc_Lhidden.nd⟩⟩⟩))))))))))
  refine gx_seq (g1_if (tx_cmp (ex_var 4 rfl (ex_int (bi hF fun t6 ht6 hF => od_cEq hr.units .id .id ht6 (⟨_, rfl, ⟨fun q5 => ?_, fun q5 => ?_⟩⟩))))))
  · have hF := iT q5 hF
    exact gx_seq (g1_ret (ex_less (ex_ty T.b_tuple bb_tuple (ax_cons (bi hF fun v12 hv12 hF => bi hF fun v7 hv7 hF => ex_revF (v := v12.1) (M2 := (up (W (.lst v12.2)) a3 (.lst l2))) .id (have hF := hv12; ex_slice (ex_var 3 rfl (ox_d (ex_callX (fx_Lnext_2 T) Lets.no (fun h => nomatch h) (hr.mono (by decide)) T.m_Lnext T.d_Lnext.choose_spec.kp (ev_a (ax_cons (ex_var 0 rfl (ax_cons (ex_blt T.b_len bb_len (ax_cons (ex_var 3 rfl (ax_nil (bi hF fun v8 hv8 hF => cd_dLen (.ad at0.get rfl) hv8 (ax_nil (kx_nil (bi hF fun v9 hv9 hF => ⟨rfl, ⟨rfl, rfl, ⟨p_0, v4.2, _, v9, (fun w0 => (up (W w0) a3 (.lst l2))), rfl, rfl, fun _ => (at1 ne_p_0_a3 (hW0 _)), hv9, bi hF fun i10 hi10 hF => ⟨_, _, .id, hi10, ox_none (bi hF fun v11 hv11 hF => sd_dCut (.ad at0.get rfl) hv11 ((by cases hF; exact ⟨rfl, rfl⟩)))⟩⟩⟩⟩)))))))))))))))) hv7 (ax_nil (bi hF fun l13 hl13 hF => cd_lTuple rfl .id hl13 (⟨_, (sub_drop sub_refl (fb_a3 _)), ret1 (W := W) (so hF) hk⟩))))))))
  · have hF := iF q5 hF
    refine gx_nil ?_
    show GX _ _ _ _ _ _
    refine gx_seq (g1_asg (ex_ix (ex_lst (ax_cons (ex_int (ax_cons (ex_bin (ex_int (ex_callX (fx_Lnext_2 T) Lets.no (fun h => nomatch h) (hr.mono (by decide)) T.m_Lnext T.d_Lnext.choose_spec.kp (ev_a (ax_cons (ex_var 0 rfl (ax_cons (ex_blt T.b_len bb_len (ax_cons (ex_var 3 rfl (ax_nil (bi hF fun v14 hv14 hF => cd_dLen (.ad at0.get rfl) hv14 (ax_nil (kx_nil (bi hF fun v15 hv15 hF => ⟨rfl, ⟨rfl, rfl, ⟨p_0, v4.2, _, v15, (fun w0 => (up (W w0) a3 (.lst l2))), rfl, rfl, fun _ => (at1 ne_p_0_a3 (hW0 _)), hv15, bi hF fun v16 hv16 hF => od_dAdd .id .id hv16 (ax_cons (ex_blt T.b_len bb_len (ax_cons (ex_var 3 rfl (ax_nil (bi hF fun v17 hv17 hF => cd_dLen (.ad at0.get rfl) hv17 (ax_nil (⟨le_b rfl, ex_bin (ex_var 4 rfl (ex_int (bi hF fun v18 hv18 hF => od_dSub .id .id hv18 (bi hF fun v19 hv19 hF => id_dIx .id .id hv19 (as_name 5 (?_) sc_Lhidden.nd)))))⟩))))))))⟩⟩⟩)))))))))))))))))))))
    refine gx_seq (g1_lc (own := [("_law_k", 7)]) (hN := sc_Lhidden.nd) 6 rfl (bi hF fun l20 hl20 hF => ix_range1U (M2 := (up (W (.lst v15.2)) a3 (.lst l2))) T.b_range (ax_cons (ex_var 5 rfl (ax_nil (⟨rfl, rfl⟩)))) hl20 (bi hF fun _ hz25 hF => bi hF fun y23 hy23 hF => mapSF hy23 (chk_inv hz25).1 (fun s21 => (up (W (.lst s21.2)) a3 (.lst s21.1))) rfl (fun x22 s21 _ acc d24 hF hd24 => have ne_a3_d24 := (up_none hd24).1; have ne_p_0_d24 := At.ne (hW0 _) (up_none hd24).2; have fb_d24 := fresh1 hW0 (up_none hd24).2; asb_name 7 (fun _ _ _ _ _ => ex_popF (ex_var 3 rfl (⟨_, _, rfl, (at1 ne_a3_d24 at0).get, ex_callX (fx_Lnext_2 T) Lets.no (fun h => nomatch h) (hr.mono (by decide)) T.m_Lnext T.d_Lnext.choose_spec.kp (ev_a (ax_cons (ex_var 0 rfl (ax_cons (ex_blt T.b_len bb_len (ax_cons (ex_var 3 rfl (ax_nil (bi hF fun v27 hv27 hF => cd_dLen (.ad (at1 ne_a3_d24 at0).get rfl) hv27 (ax_nil (kx_nil (bi hF fun v28 hv28 hF => ⟨rfl, ⟨rfl, rfl, ⟨p_0, s21.2, _, v28, (fun w0 => (up (up (W w0) a3 (.lst s21.1)) d24 (.lst acc))), rfl, rfl, fun _ => (at1 ne_p_0_d24 (at1 ne_p_0_a3 (hW0 _))), hv28, bi hF fun v29 hv29 hF => ⟨_, _, v29, (at1 ne_a3_d24 at0), hv29, (by cases hF; exact ⟨rfl, (nn ne_a3_d24 (fb_d24 _)), rfl⟩)⟩⟩⟩⟩))))))))))))⟩))) (hN := sc_Lhidden.nd)) (?_))))
    exact gx_seq (g1_ret (ex_less (ex_ty T.b_tuple bb_tuple (ax_cons (bi hF fun v37 hv37 hF => ex_fix v37 (up (W (.lst y23.2.2)) a3 (.lst y23.2.1)) (have hF := hv37; ex_if (tx_cmp (ex_int (ex_var 6 rfl (bi hF fun t30 ht30 hF => od_cIn .id .id ht30 (⟨_, rfl, ⟨fun q36 => have hF := iT q36 hF; ex_slice (ex_var 6 rfl (ox_none (ox_d (ex_bin (ex_lindexF (ex_var 6 rfl (bi hF fun s31 hs31 hF => ⟨s31, lstD_eq hs31, ax_cons (ex_int (ax_nil (bi hF fun v32 hv32 hF => ⟨_, v32, rfl, hv32, ex_int (bi hF fun v33 hv33 hF => od_dAdd .id .id hv33 (bi hF fun i34 hi34 hF => ⟨_, _, .id, hi34, bi hF fun v35 hv35 hF => sd_dCut .id hv35 (⟨so hF, rfl⟩)⟩))⟩)))⟩))))))), fun q36 => have hF := iF q36 hF; ex_var 6 rfl (⟨so hF, rfl⟩)⟩⟩)))))) (ax_nil (bi hF fun l38 hl38 hF => cd_lTuple rfl .id hl38 (⟨_, (sub_drop sub_refl (fb_a3 _)), ret1 (W := W) (so hF) hk⟩))))))))
theorem fx_Lhidden_3 {pg : Program} {w : World} {K : PySem.W.Frag} {mg : Str → Option Value} {base : Heap} (T : Txt K mg base) : FnX pg w K mg base false 5 (He.fAd K ("_law_hidden", none)) ([] : List PySem.Str) (fun ds zs M P R => ds.length = 3 ∧ zs.length = ([] : List PySem.Str).length ∧ tr_Lhidden K (pick (ds ++ ([] ++ zs)) [0, 1, 2]) M P R) :=
  fn_kwX T.d_Lhidden.choose_spec sc_Lhidden (ok_Lhidden T) 3 ([] : List PySem.Str) [] [] [0, 1, 2] (by simp) (fun _ => .nil) (fun kV D doc pm an cdv ct us mv ws e h1 h2 h3 => match us, mv, ws, h1, h2, h3 with | [_, _, _], [], [], _, _, _ => rfl) (fun us mv ws h1 h2 h3 => match us, mv, ws, h1, h2, h3 with | [_, _, _], [], [], _, _, _ => rfl)
def tr_is_between (K : PySem.W.Frag) : TrB := fun ds M P R => ∃ x0 : D, ∃ x1 : D, ∃ x2 : D, ∃ r : D, ds = [x0, x1, x2] ∧ F_is_between x0 x1 x2 = some r ∧ P r M
set_option maxHeartbeats 0 in
theorem ok_is_between {pg : Program} {w : World} {K : PySem.W.Frag} {mg : Str → Option Value} {base : Heap} (T : Txt K mg base) : BodyX pg w K mg base false 2 (He.fAd K ("is_between", none)) "is_between" (defBody s_is_between) (defScope s_is_between) ["value", "least", "most"] ["value", "least", "most"] (tr_is_between K) := fun cdv hcv A outer s H F0 E ds M P R hgd0 hr t hL hpo kx => by
  obtain ⟨x0, x1, x2, r, rfl, hF, hk⟩ := t
  unfold F_is_between at hF
  exact gx_seq (g1_ret (ex_less (bi hF fun v11 hv11 hF => ex_fix v11 M (have hF := hv11; ex_andT (ex_blt T.b_isinstance bb_isi (ax_cons (ex_var 0 rfl (ax_cons (ex_tyn T.b_int bb_int (ax_nil (bi hF fun t2 ht2 hF => cd_dIsi (by decide) .id rfl ht2 (bi hF fun t3 ht3 hF => ⟨_, _, .id, ht3, fun q1 => have hF := iT q1 hF; ex_andT (ex_notT (ex_blt T.b_isinstance bb_isi (ax_cons (ex_var 0 rfl (ax_cons (ex_tyn T.b_bool bb_bool (ax_nil (bi hF fun t5 ht5 hF => cd_dIsi (by decide) .id rfl ht5 (bi hF fun t6 ht6 hF => ⟨_, _, .id, ht6, bi hF fun t7 ht7 hF => ⟨_, _, .id, ht7, fun q4 => have hF := iT q4 hF; ex_one (ex_chain (ex_var 1 rfl (ex_var 0 rfl (bi hF fun t9 ht9 hF => od_cLe .id .id ht9 ⟨_, rfl, fun q8 => have hF := iT q8 hF; ex_var 2 rfl (bi hF fun t10 ht10 hF => od_cLe .id .id ht10 ⟨so hF, rfl⟩), fun q8 => ⟨so (iF q8 hF), rfl⟩⟩)))), fun q4 => ⟨so (iF q4 hF), rfl⟩⟩⟩))))))))), fun q1 => ⟨so (iF q1 hF), rfl⟩⟩))))))))) (⟨_, sub_refl, ret0 (so hF) hk⟩))))
theorem fx_is_between_3 {pg : Program} {w : World} {K : PySem.W.Frag} {mg : Str → Option Value} {base : Heap} (T : Txt K mg base) : FnX pg w K mg base false 3 (He.fAd K ("is_between", none)) ([] : List PySem.Str) (fun ds zs M P R => ds.length = 3 ∧ zs.length = ([] : List PySem.Str).length ∧ tr_is_between K (pick (ds ++ ([] ++ zs)) [0, 1, 2]) M P R) :=
  fn_kwX T.d_is_between.choose_spec sc_is_between (ok_is_between T) 3 ([] : List PySem.Str) [] [] [0, 1, 2] (by simp) (fun _ => .nil) (fun kV D doc pm an cdv ct us mv ws e h1 h2 h3 => match us, mv, ws, h1, h2, h3 with | [_, _, _], [], [], _, _, _ => rfl) (fun us mv ws h1 h2 h3 => match us, mv, ws, h1, h2, h3 with | [_, _, _], [], [], _, _, _ => rfl)
def tr_first_ones (K : PySem.W.Frag) : TrB := fun ds M P R => ∃ x0 : D, ∃ r : D, ds = [x0] ∧ F_first_ones x0 = some r ∧ P r M
set_option maxHeartbeats 0 in
theorem ok_first_ones {pg : Program} {w : World} {K : PySem.W.Frag} {mg : Str → Option Value} {base : Heap} (T : Txt K mg base) : BodyX pg w K mg base false 2 (He.fAd K ("first_ones", none)) "first_ones" (defBody s_first_ones) (defScope s_first_ones) ["positions", "found", "position"] ["positions"] (tr_first_ones K) := fun cdv hcv A outer s H F0 E ds M P R hgd0 hr t hL hpo kx => by
  obtain ⟨x0, r, rfl, hF, hk⟩ := t
  unfold F_first_ones at hF
  refine gx_seq (g1_asg (ex_lstM (ax_nil (⟨le_b rfl, fun a1 ha1 => have fb_a1 := ha1; as_name 1 (?_) sc_first_ones.nd⟩))))
  refine gx_seq (g1_for hpo rfl (bi hF fun l2 hl2 hF => ix_seqU (M2 := (up M a1 (.lst []))) (ex_var 0 rfl (⟨rfl, rfl⟩)) hl2 (bi hF fun c6 hlc6 hOc6 => forC hlc6 (fun s3 ρ' M' => ∃ j0 : Option D, ρ' = [some x0, some (.adr a1), j0] ∧ M' = (up M a1 (.lst s3))) ⟨_, rfl, rfl⟩ ?_ ?_)))
  · rintro x5 s3 b7 hF hbb7 _ _ ⟨_, rfl, rfl⟩
    try dsimp only at hF
    refine as_name 2 (?_) sc_first_ones.nd
    refine gx_seq (g1_if (bi hF fun t13 ht13 hF => tx_fix t13 (up M a1 (.lst s3)) (have hF := ht13; tx_pw (wx_and (tx_cmp (ex_var 1 rfl (ex_lst (ax_nil (⟨le_b rfl, bi hF fun t10 ht10 hF => od_cNe hr.units (.ad at0.get rfl) .id ht10 (⟨_, rfl, ⟨fun q9 => have hF := iT q9 hF; wx_and1 (tx_cmp (ex_ix (ex_var 1 rfl (ex_dNeg (ex_int ⟨_, _, .id, rfl, bi hF fun v11 hv11 hF => id_dIx (.ad at0.get rfl) .id hv11 (ex_int (bi hF fun t12 ht12 hF => od_cEq hr.units .id .id ht12 (⟨_, rfl, ⟨so hF, rfl⟩⟩)))⟩))))), fun q9 => ⟨so (iF q9 hF), rfl⟩⟩⟩)⟩))))))) (⟨fun q8 => ?_, fun q8 => ?_⟩)))
    · have hF := iT q8 hF
      exact gx_seq (g1_break ⟨_, (so hF).symm, ⟨_, rfl, rfl⟩⟩)
    · have hF := iF q8 hF
      refine gx_nil ?_
      show GX _ _ _ _ _ _
      refine gx_seq (bi hF fun r15 hF hRr15 => g1_mid (fun ρ' M' => ρ' = [some x0, some (.adr a1), some x5] ∧ M' = (up M a1 (.lst r15))) (g1_if (tx_cmp (ex_var 2 rfl (ex_var 1 rfl (bi hF fun t16 ht16 hF => od_cNin .id (.ad at0.get rfl) ht16 (⟨_, rfl, ⟨fun q14 => ?_, fun q14 => ?_⟩⟩)))))) ?_)
      · have hF := iT q14 hF
        refine gx_seq (g1_expr (ex_append (ex_var 1 rfl (⟨_, _, rfl, at0.get, ax_cons (ex_var 2 rfl (ax_nil (bi hF fun _ h17 hF => ⟨_, _, _, rfl, at0, (chk_inv h17).1, ?_⟩)))⟩))))
        cases hF
        exact gx_nil ⟨rfl, rfl⟩
      · have hF := iF q14 hF
        cases hF
        exact gx_nil ⟨rfl, rfl⟩
      · rintro _ _ ⟨rfl, rfl⟩
        have hF := hRr15
        try dsimp only at hF
        show GX _ _ _ _ _ _
        exact gx_nil ⟨_, (so hF).symm, ⟨_, rfl, rfl⟩⟩
  · rintro r4 hg _ _ ⟨_, rfl, rfl⟩
    have hF := ctl_go hOc6 hg
    try dsimp only at hF
    show GX _ _ _ _ _ _
    exact gx_seq (g1_ret (ex_less (ex_ty T.b_tuple bb_tuple (ax_cons (ex_var 1 rfl (ax_nil (bi hF fun l18 hl18 hF => cd_lTuple rfl (.ad at0.get rfl) hl18 (⟨_, (sub_drop sub_refl fb_a1), ret0 (so hF) hk⟩))))))))
theorem fx_first_ones_1 {pg : Program} {w : World} {K : PySem.W.Frag} {mg : Str → Option Value} {base : Heap} (T : Txt K mg base) : FnX pg w K mg base false 3 (He.fAd K ("first_ones", none)) ([] : List PySem.Str) (fun ds zs M P R => ds.length = 1 ∧ zs.length = ([] : List PySem.Str).length ∧ tr_first_ones K (pick (ds ++ ([] ++ zs)) [0]) M P R) :=
  fn_kwX T.d_first_ones.choose_spec sc_first_ones (ok_first_ones T) 1 ([] : List PySem.Str) [] [] [0] (by simp) (fun _ => .nil) (fun kV D doc pm an cdv ct us mv ws e h1 h2 h3 => match us, mv, ws, h1, h2, h3 with | [_], [], [], _, _, _ => rfl) (fun us mv ws h1 h2 h3 => match us, mv, ws, h1, h2, h3 with | [_], [], [], _, _, _ => rfl)
def tr_Order___init__ (K : PySem.W.Frag) : TrB := fun ds M P R => ∃ (p : Addr) (M1 : Mem), ∃ x1 : D, ∃ r : Except Er (List (Str × D)), M1 p = none ∧ M = up M1 p (.ins (Zk K "Order") []) ∧ ds = [.adr p, x1] ∧ F_Order___init__ (Zk K) x1 = some r ∧ resX r (fun r => P .non (up M1 p (.ins (Zk K "Order") r))) (fun e => R e.1 e.2 M1)
set_option maxHeartbeats 0 in
theorem ok_Order___init__ {pg : Program} {w : World} {K : PySem.W.Frag} {mg : Str → Option Value} {base : Heap} (T : Txt K mg base) : BodyX pg w K mg base false 4 (He.fAd K ("Order", some "__init__")) "Order.__init__" (defBody s_Order___init__) (defScope s_Order___init__) ["self", "positions", "index", "position"] ["self", "positions"] (tr_Order___init__ K) := fun cdv hcv A outer s H F0 E ds M P R hgd0 hr t hL hpo kx => by
  obtain ⟨p_0, M1, x1, r, fb_p_0, rfl, rfl, hF, hk⟩ := t
  unfold F_Order___init__ at hF
  refine gx_seq (g1_for hpo rfl (bi hF fun l1 hl1 hF => ix_enumU (M2 := (up M1 p_0 (.ins (Zk K "Order") ([] : List (Str × D))))) T.b_enumerate (ax_cons (ex_var 1 rfl (ax_nil (⟨rfl, rfl⟩)))) hl1 (bi hF fun c5 hlc5 hOc5 => forC hlc5 (fun s2 ρ' M' => ∃ j0 : Option D, ∃ j1 : Option D, ρ' = [some (.adr p_0), some x1, j0, j1] ∧ M' = (up M1 p_0 (.ins (Zk K "Order") ([] : List (Str × D))))) ⟨_, _, rfl, rfl⟩ ?_ ?_)))
  · rintro x4 s2 b6 hF hbb6 _ _ ⟨_, _, rfl, rfl⟩
    try dsimp only at hF
    refine bi hF fun p7 hp7 hF => as_eq (un2_eq hp7) (as_tup rfl rfl (asd_cons (as_name 2 (asd_cons (as_name 3 (asd_nil (?_)) sc_Order___init__.nd)) sc_Order___init__.nd)))
    refine gx_seq (g1_if (tx_not (tx_tru (ex_callX (fx_is_between_3 T) Lets.no (fun h => nomatch h) (hr.mono (by decide)) T.m_is_between T.d_is_between.choose_spec.kp (ev_a (ax_cons (ex_var 3 rfl (ax_cons (ex_int (ax_cons (ex_conC (y := (D.int 24)) T.cls_Order ⟨_, _, T.co_Order_GREATEST.choose_spec, fun _ => .int _⟩ (ex_var 0 rfl (bi hF fun g9 hg9 hF => ⟨_, g9, (.ad at0.get), hg9, ax_nil (kx_nil (bi hF fun v10 hv10 hF => ⟨rfl, ⟨rfl, rfl, ⟨_, _, _, v10, rfl, hv10, bi hF fun t11 ht11 hF => ⟨_, _, .id, ht11, ⟨fun q8 => ?_, fun q8 => ?_⟩⟩⟩⟩⟩))⟩)))))))))))))
    · have hF := iT q8 hF
      exact gx_seq (g1_rs1 hL rfl T.er_InvalidPosition basV T.d_InvalidPosition___init__.choose_spec sc_InvalidPosition___init__ ⟨_, _, _, _, rfl⟩ T.nf_InvalidPosition_index (hr.mono (by decide)) (T.d_InvalidPosition___init__.choose_spec.bindsN fun _ _ _ _ _ _ us hl => match us, hl with | [_, _], _ => rfl) T.g_InvalidPosition (ex_var 2 rfl (⟨_, (sub_drop sub_refl fb_p_0), errX (q := fun e => R e.1 e.2 M1) (so (ctl_retS hOc5 (hbb6 _ (so hF).symm))) hk⟩)))
    · have hF := iF q8 hF
      refine gx_nil ?_
      show GX _ _ _ _ _ _
      exact gx_nil ⟨_, (so hF).symm, ⟨_, _, rfl, rfl⟩⟩
  · rintro r3 hg _ _ ⟨_, _, rfl, rfl⟩
    have hF := ctl_go hOc5 hg
    try dsimp only at hF
    show GX _ _ _ _ _ _
    refine gx_seq (g1_setFldF (ex_callX (fx_first_ones_1 T) Lets.no (fun h => nomatch h) (hr.mono (by decide)) T.m_first_ones T.d_first_ones.choose_spec.kp (ev_a (ax_cons (ex_var 1 rfl (ax_nil (kx_nil (bi hF fun v12 hv12 hF => ⟨rfl, ⟨rfl, rfl, ⟨_, v12, rfl, hv12, bi hF fun _ h13 hF => ex_var 0 rfl (⟨_, _, _, _, rfl, at0, T.cls_Order, T.no_Order_entries, (chk_inv h13).1, ?_⟩)⟩⟩⟩))))))))
    exact gx_nil (retX (p := fun r => P .non (up M1 p_0 (.ins (Zk K "Order") r))) (so hF) hk)
theorem fx_Order___init___1 {pg : Program} {w : World} {K : PySem.W.Frag} {mg : Str → Option Value} {base : Heap} (T : Txt K mg base) : FnX pg w K mg base false 5 (He.fAd K ("Order", some "__init__")) ([] : List PySem.Str) (fun ds zs M P R => ∃ d0 dr, ds = d0 ++ dr ∧ d0.length = 1 ∧ zs.length = ([] : List PySem.Str).length ∧ dr.length ≤ 1000000 ∧ (false = true → dr = []) ∧ tr_Order___init__ K (pick (d0 ++ ([] ++ zs)) [0] ++ [D.tup dr]) M P R) :=
  fn_starX (pn := ["self"]) (pv := "positions") T.d_Order___init__.choose_spec sc_Order___init__ (ok_Order___init__ T) 1 ([] : List PySem.Str) [] [] [0] (by simp) (fun _ => .nil) D.tup (.inl rfl) false (fun kV D doc pm an cdv ct us rest mv ws e er h1 h2 h3 => match us, rest, mv, ws, h1, h2, h3 with | [_], [], [], [], _, _, _ => rfl | [_], _ :: _, [], [], _, _, _ => rfl) (fun us mv ws h1 h2 h3 => match us, mv, ws, h1, h2, h3 with | [_], [], [], _, _, _ => rfl)
def tr_Order___add__ (K : PySem.W.Frag) : TrB := fun ds M P R => ∃ x0 : D, ∃ x1 : D, ∃ r : D, ds = [x0, x1] ∧ F_Order___add__ (Zk K) x0 x1 = some r ∧ P r M
set_option maxHeartbeats 0 in
theorem ok_Order___add__ {pg : Program} {w : World} {K : PySem.W.Frag} {mg : Str → Option Value} {base : Heap} (T : Txt K mg base) : BodyX pg w K mg base false 6 (He.fAd K ("Order", some "__add__")) "Order.__add__" (defBody s_Order___add__) (defScope s_Order___add__) ["self", "other"] ["self", "other"] (tr_Order___add__ K) := fun cdv hcv A outer s H F0 E ds M P R hgd0 hr t hL hpo kx => by
  obtain ⟨x0, x1, r, rfl, hF, hk⟩ := t
  unfold F_Order___add__ at hF
  exact gx_seq (g1_ret (ex_less (ex_makeX T.mk_Order (fx_Order___init___1 T) Lets.no (hr.mono (by decide)) T.g_Order (ev_s2 (ax_star (ex_fldC T.cls_Order T.no_Order_entries (ex_var 0 rfl (bi hF fun g1 hg1 hF => bi hF fun z2 hz2 hF => ⟨_, g1, z2, .id, hg1, hz2, bi hF fun l3 hl3 hF => ⟨_, sqOf .id hl3, ax_star (ex_fldC T.cls_Order T.no_Order_entries (ex_var 1 rfl (bi hF fun g4 hg4 hF => bi hF fun z5 hz5 hF => ⟨_, g4, z5, .id, hg4, hz5, bi hF fun l6 hl6 hF => ⟨_, sqOf .id hl6, ax_nil (bi hF fun _ h7 hF => bi hF fun r11 hr11 hF => fun a9 ha9 => ⟨[_], (l3 ++ (l6 ++ [])), rfl, rfl, rfl, (chk_inv h7).1, (fun h => nomatch h), ⟨a9, _, _, r11, ha9, rfl, rfl, hr11, exc_i hF (fun e10 hee10 hF => nomatch hF) (fun v8 hv8 hF => ⟨rfl, _, _, ha9, rfl, ⟨_, sub_refl, ret0 (so hF) hk⟩⟩)⟩⟩)⟩⟩)))⟩⟩))))))))
theorem fx_Order___add___2 {pg : Program} {w : World} {K : PySem.W.Frag} {mg : Str → Option Value} {base : Heap} (T : Txt K mg base) : FnX pg w K mg base false 7 (He.fAd K ("Order", some "__add__")) ([] : List PySem.Str) (fun ds zs M P R => ds.length = 2 ∧ zs.length = ([] : List PySem.Str).length ∧ tr_Order___add__ K (pick (ds ++ ([] ++ zs)) [0, 1]) M P R) :=
  fn_kwX T.d_Order___add__.choose_spec sc_Order___add__ (ok_Order___add__ T) 2 ([] : List PySem.Str) [] [] [0, 1] (by simp) (fun _ => .nil) (fun kV D doc pm an cdv ct us mv ws e h1 h2 h3 => match us, mv, ws, h1, h2, h3 with | [_, _], [], [], _, _, _ => rfl) (fun us mv ws h1 h2 h3 => match us, mv, ws, h1, h2, h3 with | [_, _], [], [], _, _, _ => rfl)
def tr_need_size (K : PySem.W.Frag) : TrB := fun ds M P R => ∃ x0 : D, ∃ x1 : D, ∃ r : Except Er D, ds = [x0, x1] ∧ F_need_size (Zk K) x0 x1 = some r ∧ resX r (fun v => P v M) (fun e => R e.1 e.2 M)
set_option maxHeartbeats 0 in
theorem ok_need_size {pg : Program} {w : World} {K : PySem.W.Frag} {mg : Str → Option Value} {base : Heap} (T : Txt K mg base) : BodyX pg w K mg base false 4 (He.fAd K ("need_size", none)) "need_size" (defBody s_need_size) (defScope s_need_size) ["n", "ring"] ["n", "ring"] (tr_need_size K) := fun cdv hcv A outer s H F0 E ds M P R hgd0 hr t hL hpo kx => by
  obtain ⟨x0, x1, r, rfl, hF, hk⟩ := t
  unfold F_need_size at hF
  refine gx_seq (g1_if (tx_not (tx_tru (ex_callX (fx_is_between_3 T) Lets.no (fun h => nomatch h) (hr.mono (by decide)) T.m_is_between T.d_is_between.choose_spec.kp (ev_a (ax_cons (ex_var 0 rfl (ax_cons (ex_bin (ex_int (ex_ty T.b_int bb_int (ax_cons (ex_var 1 rfl (ax_nil (bi hF fun v2 hv2 hF => cd_dInt .id hv2 (bi hF fun v3 hv3 hF => od_dAdd .id .id hv3 (ax_cons (ex_gint T.g_MOST_BITS (ax_nil (kx_nil (bi hF fun v4 hv4 hF => ⟨rfl, ⟨rfl, rfl, ⟨_, _, _, v4, rfl, hv4, bi hF fun t5 ht5 hF => ⟨_, _, .id, ht5, ⟨fun q1 => ?_, fun q1 => ?_⟩⟩⟩⟩⟩)))))))))))))))))))))
  · have hF := iT q1 hF
    exact gx_seq (g1_rs1 hL rfl T.er_InvalidSize basV T.d_InvalidSize___init__.choose_spec sc_InvalidSize___init__ ⟨_, _, _, _, rfl⟩ T.nf_InvalidSize_value (hr.mono (by decide)) (T.d_InvalidSize___init__.choose_spec.bindsN fun _ _ _ _ _ _ us hl => match us, hl with | [_, _], _ => rfl) T.g_InvalidSize (ex_var 0 rfl (⟨_, sub_refl, errX (q := fun e => R e.1 e.2 M) (so hF) hk⟩)))
  · have hF := iF q1 hF
    refine gx_nil ?_
    show GX _ _ _ _ _ _
    exact gx_nil (retX (p := fun v => P v M) (so hF) hk)
theorem fx_need_size_2 {pg : Program} {w : World} {K : PySem.W.Frag} {mg : Str → Option Value} {base : Heap} (T : Txt K mg base) : FnX pg w K mg base false 5 (He.fAd K ("need_size", none)) ([] : List PySem.Str) (fun ds zs M P R => ds.length = 2 ∧ zs.length = ([] : List PySem.Str).length ∧ tr_need_size K (pick (ds ++ ([] ++ zs)) [0, 1]) M P R) :=
  fn_kwX T.d_need_size.choose_spec sc_need_size (ok_need_size T) 2 ([] : List PySem.Str) [] [] [0, 1] (by simp) (fun _ => .nil) (fun kV D doc pm an cdv ct us mv ws e h1 h2 h3 => match us, mv, ws, h1, h2, h3 with | [_, _], [], [], _, _, _ => rfl) (fun us mv ws h1 h2 h3 => match us, mv, ws, h1, h2, h3 with | [_, _], [], [], _, _, _ => rfl)
def tr_candidates_behind (K : PySem.W.Frag) : TrB := fun ds M P R => ∃ x0 : D, ∃ x1 : D, ∃ x2 : D, ∃ r : D, ds = [x0, x1, x2] ∧ F_candidates_behind x0 x1 x2 = some r ∧ P r M
set_option maxHeartbeats 0 in
theorem ok_candidates_behind {pg : Program} {w : World} {K : PySem.W.Frag} {mg : Str → Option Value} {base : Heap} (T : Txt K mg base) : BodyX pg w K mg base false 4 (He.fAd K ("candidates_behind", none)) "candidates_behind" (defBody s_candidates_behind) (defScope s_candidates_behind) ["n", "ring", "entries", "left", "position"] ["n", "ring", "entries"] (tr_candidates_behind K) := fun cdv hcv A outer s H F0 E ds M P R hgd0 hr t hL hpo kx => by
  obtain ⟨x0, x1, x2, r, rfl, hF, hk⟩ := t
  unfold F_candidates_behind at hF
  refine gx_seq (g1_if (bi hF fun t6 ht6 hF => tx_fix t6 M (have hF := ht6; tx_pw (wx_and (tx_cmp (ex_var 2 rfl (ex_tup (ax_nil (⟨le_b rfl, bi hF fun t3 ht3 hF => od_cNe hr.units .id .id ht3 (⟨_, rfl, ⟨fun q2 => have hF := iT q2 hF; wx_and1 (tx_cmp (ex_ix (ex_var 2 rfl (ex_dNeg (ex_int ⟨_, _, .id, rfl, bi hF fun v4 hv4 hF => id_dIx .id .id hv4 (ex_int (bi hF fun t5 ht5 hF => od_cEq hr.units .id .id ht5 (⟨_, rfl, ⟨so hF, rfl⟩⟩)))⟩))))), fun q2 => ⟨so (iF q2 hF), rfl⟩⟩⟩)⟩))))))) (⟨fun q1 => ?_, fun q1 => ?_⟩)))
  · have hF := iT q1 hF
    exact gx_seq (g1_ret (ex_less (ex_tup (ax_nil (⟨le_b rfl, ⟨_, sub_refl, ret0 (so hF) hk⟩⟩)))))
  · have hF := iF q1 hF
    refine gx_nil ?_
    show GX _ _ _ _ _ _
    refine gx_seq (g1_asg (ex_ty T.b_tuple bb_tuple (ax_cons (ex_lc (own := [("position", 4)]) (hN := sc_candidates_behind.nd) rfl (bi hF fun v8 hv8 hF => bi hF fun l9 hl9 hF => ix_seqU (M2 := M) ((have hF := hv8; ex_callX (fx_output_positions_2 T) Lets.no (fun h => nomatch h) (hr.mono (by decide)) T.m_output_positions T.d_output_positions.choose_spec.kp (ev_a (ax_cons (ex_var 0 rfl (ax_cons (ex_var 1 rfl (ax_nil (kx_nil (bi hF fun v7 hv7 hF => ⟨rfl, ⟨rfl, rfl, ⟨_, _, v7, rfl, hv7, ⟨so hF, rfl⟩⟩⟩⟩)))))))))) hl9 (bi hF fun _ hz14 hF => bi hF fun y12 hy12 hF => filtF hy12 (chk_inv hz14).1 (fun x11 _ acc d13 hF hd13 => have fb_d13 := hd13; asb_name 4 (txb_one fun _ _ _ _ _ => tx_cmp (ex_var 4 rfl (ex_var 2 rfl (bi hF fun t16 ht16 hF => od_cNin .id .id ht16 (⟨_, rfl, ⟨fun q17 => have hF := iT q17 hF; fun _ _ _ _ _ => ex_var 4 rfl (⟨(so hF).symm, rfl⟩), fun q17 => ⟨(so (iF q17 hF)).symm, rfl⟩⟩⟩))))) (hN := sc_candidates_behind.nd)) (ax_nil (bi hF fun l18 hl18 hF => cd_lTuple rfl .id hl18 (as_name 3 (?_) sc_candidates_behind.nd)))))))))
    exact gx_seq (g1_ret (ex_less (bi hF fun v23 hv23 hF => ex_fix v23 M (have hF := hv23; ex_if (tx_cmp (ex_var 2 rfl (ex_tup (ax_nil (⟨le_b rfl, bi hF fun t19 ht19 hF => od_cEq hr.units .id .id ht19 (⟨_, rfl, ⟨fun q22 => have hF := iT q22 hF; ex_var 3 rfl (⟨so hF, rfl⟩), fun q22 => have hF := iF q22 hF; ex_tup (ax_star (ex_var 3 rfl (bi hF fun l20 hl20 hF => ⟨_, sqOf .id hl20, ax_cons (ex_gstr T.g_END (ax_nil (bi hF fun _ hv21 hF => ⟨(chk_inv hv21).1, ⟨so hF, rfl⟩⟩)))⟩)))⟩⟩)⟩)))))) (⟨_, sub_refl, ret0 (so hF) hk⟩))))
theorem fx_candidates_behind_3 {pg : Program} {w : World} {K : PySem.W.Frag} {mg : Str → Option Value} {base : Heap} (T : Txt K mg base) : FnX pg w K mg base false 5 (He.fAd K ("candidates_behind", none)) ([] : List PySem.Str) (fun ds zs M P R => ds.length = 3 ∧ zs.length = ([] : List PySem.Str).length ∧ tr_candidates_behind K (pick (ds ++ ([] ++ zs)) [0, 1, 2]) M P R) :=
  fn_kwX T.d_candidates_behind.choose_spec sc_candidates_behind (ok_candidates_behind T) 3 ([] : List PySem.Str) [] [] [0, 1, 2] (by simp) (fun _ => .nil) (fun kV D doc pm an cdv ct us mv ws e h1 h2 h3 => match us, mv, ws, h1, h2, h3 with | [_, _, _], [], [], _, _, _ => rfl) (fun us mv ws h1 h2 h3 => match us, mv, ws, h1, h2, h3 with | [_, _, _], [], [], _, _, _ => rfl)
def tr_Finder___init__ (K : PySem.W.Frag) : TrB := fun ds M P R => ∃ (p : Addr) (M1 : Mem), ∃ x1 : D, ∃ x2 : D, ∃ r : Except Er (List (Str × D) × List D × List D), M1 p = none ∧ M = up M1 p (.ins (Zk K "Finder") []) ∧ ds = [.adr p, x1, x2] ∧ F_Finder___init__ (Zk K) x1 x2 = some r ∧ resX r (fun r => ∀ q0 q1 : Addr, M1 q0 = none → p ≠ q0 → M1 q1 = none → p ≠ q1 → q0 ≠ q1 → P .non (up (up (up M1 p (.ins (Zk K "Finder") (r.1 ++ [(("carries_told" : Str), D.adr q0), (("stages" : Str), D.adr q1)]))) q0 (.lst r.2.1)) q1 (.lst r.2.2))) (fun e => R e.1 e.2 M1)
set_option maxHeartbeats 0 in
theorem ok_Finder___init__ {pg : Program} {w : World} {K : PySem.W.Frag} {mg : Str → Option Value} {base : Heap} (T : Txt K mg base) : BodyX pg w K mg base false 6 (He.fAd K ("Finder", some "__init__")) "Finder.__init__" (defBody s_Finder___init__) (defScope s_Finder___init__) ["self", "n", "ring"] ["self", "n", "ring"] (tr_Finder___init__ K) := fun cdv hcv A outer s H F0 E ds M P R hgd0 hr t hL hpo kx => by
  obtain ⟨p_0, M1, x1, x2, r, fb_p_0, rfl, rfl, hF, hk⟩ := t
  unfold F_Finder___init__ at hF
  refine gx_seq (g1_expr (ex_callX (fx_need_size_2 T) hL (fun h => nomatch h) (hr.mono (by decide)) T.m_need_size T.d_need_size.choose_spec.kp (ev_a (ax_cons (ex_var 1 rfl (ax_cons (ex_var 2 rfl (ax_nil (kx_nil (bi hF fun r3 hr3 hF => ⟨rfl, ⟨rfl, rfl, ⟨_, _, r3, rfl, hr3, exc_i hF (fun e2 hee2 hF => ⟨_, (sub_drop sub_refl fb_p_0), errX (q := fun e => R e.1 e.2 M1) (so hF) hk⟩) (fun v1 hv1 hF => ?_)⟩⟩⟩))))))))))
  refine gx_seq (g1_setFldF (ex_var 1 rfl (bi hF fun _ h4 hF => ex_var 0 rfl (⟨_, _, _, _, rfl, at0, T.cls_Finder, T.no_Finder_bits, (chk_inv h4).1, ?_⟩))))
  refine gx_seq (g1_setFldF (ex_var 2 rfl (bi hF fun _ h5 hF => ex_var 0 rfl (⟨_, _, _, _, rfl, at0, T.cls_Finder, T.no_Finder_for_ring, (chk_inv h5).1, ?_⟩))))
  refine gx_seq (g1_setFldF (ex_lstM (ax_nil (⟨le_b rfl, fun a6 ha6 => have ne_p_0_a6 := (up_none ha6).1; have fb_a6 := (up_none ha6).2; ex_var 0 rfl (⟨_, _, _, _, rfl, (at1 ne_p_0_a6 at0), T.cls_Finder, T.no_Finder_carries_told, le_b rfl, ?_⟩)⟩))))
  refine gx_seq (g1_setFldF (ex_lstM (ax_cons (ex_tup (ax_cons (ex_tup (ax_nil (⟨le_b rfl, ax_cons (ex_callX (fx_candidates_behind_3 T) Lets.no (fun h => nomatch h) (hr.mono (by decide)) T.m_candidates_behind T.d_candidates_behind.choose_spec.kp (ev_a (ax_cons (ex_var 1 rfl (ax_cons (ex_var 2 rfl (ax_cons (ex_tup (ax_nil (⟨le_b rfl, ax_nil (kx_nil (bi hF fun v7 hv7 hF => ⟨rfl, ⟨rfl, rfl, ⟨_, _, _, v7, rfl, hv7, ax_nil (⟨le_b rfl, ax_nil (⟨le_b rfl, fun a8 ha8 => have ne_a6_a8 := (up_none ha8).1; have ne_p_0_a8 := (up_none (up_none ha8).2).1; have fb_a8 := (up_none (up_none ha8).2).2; ex_var 0 rfl (⟨_, _, _, _, rfl, (at1 ne_p_0_a8 (at1 ne_p_0_a6 at0)), T.cls_Finder, T.no_Finder_stages, le_b rfl, ?_⟩)⟩)⟩)⟩⟩⟩))⟩))))))))))⟩))))))))
  exact gx_nil ((retX (p := fun (r : List (Str × D) × List D × List D) => ∀ q0 q1 : Addr, M1 q0 = none → p_0 ≠ q0 → M1 q1 = none → p_0 ≠ q1 → q0 ≠ q1 → P .non (up (up (up M1 p_0 (.ins (Zk K "Finder") (r.1 ++ [(("carries_told" : Str), D.adr q0), (("stages" : Str), D.adr q1)]))) q0 (.lst r.2.1)) q1 (.lst r.2.2))) (so hF) hk) a6 a8 fb_a6 ne_p_0_a6  fb_a8 ne_p_0_a8 ne_a6_a8)
theorem fx_Finder___init___2_ring {pg : Program} {w : World} {K : PySem.W.Frag} {mg : Str → Option Value} {base : Heap} (T : Txt K mg base) : FnX pg w K mg base false 7 (He.fAd K ("Finder", some "__init__")) (["ring"] : List PySem.Str) (fun ds zs M P R => ds.length = 2 ∧ zs.length = (["ring"] : List PySem.Str).length ∧ tr_Finder___init__ K (pick (ds ++ ([] ++ zs)) [0, 1, 2]) M P R) :=
  fn_kwX T.d_Finder___init__.choose_spec sc_Finder___init__ (ok_Finder___init__ T) 2 (["ring"] : List PySem.Str) [] [] [0, 1, 2] (by simp) (fun _ => .nil) (fun kV D doc pm an cdv ct us mv ws e h1 h2 h3 => match us, mv, ws, h1, h2, h3 with | [_, _], [], [_], _, _, _ => rfl) (fun us mv ws h1 h2 h3 => match us, mv, ws, h1, h2, h3 with | [_, _], [], [_], _, _, _ => rfl)
def tr_Finder_candidates (K : PySem.W.Frag) : TrB := fun ds M P R => ∃ x0 : D, ∃ r : D, ds = [x0] ∧ F_Finder_candidates (Zk K) x0 = some r ∧ P r M
set_option maxHeartbeats 0 in
theorem ok_Finder_candidates {pg : Program} {w : World} {K : PySem.W.Frag} {mg : Str → Option Value} {base : Heap} (T : Txt K mg base) : BodyX pg w K mg base false 2 (prAd K "Finder" "candidates").2 "Finder.candidates" (defBody s_Finder_candidates) (defScope s_Finder_candidates) ["self"] ["self"] (tr_Finder_candidates K) := fun cdv hcv A outer s H F0 E ds M P R hgd0 hr t hL hpo kx => by
  obtain ⟨x0, r, rfl, hF, hk⟩ := t
  unfold F_Finder_candidates at hF
  exact gx_seq (g1_ret (ex_less (ex_ix (ex_ix (ex_fldC T.cls_Finder T.no_Finder_stages (ex_var 0 rfl (bi hF fun g1 hg1 hF => bi hF fun z2 hz2 hF => ⟨_, g1, z2, .id, hg1, hz2, ex_dNeg (ex_int ⟨_, _, .id, rfl, bi hF fun v3 hv3 hF => id_dIx .id .id hv3 (ex_int (bi hF fun v4 hv4 hF => id_dIx .id .id hv4 (⟨_, sub_refl, ret0 (so hF) hk⟩)))⟩)⟩)))))))
theorem fx_Finder_candidates_1 {pg : Program} {w : World} {K : PySem.W.Frag} {mg : Str → Option Value} {base : Heap} (T : Txt K mg base) : FnX pg w K mg base false 3 (prAd K "Finder" "candidates").2 ([] : List PySem.Str) (fun ds zs M P R => ds.length = 1 ∧ zs.length = ([] : List PySem.Str).length ∧ tr_Finder_candidates K (pick (ds ++ ([] ++ zs)) [0]) M P R) :=
  fn_kwX T.d_Finder_candidates.choose_spec sc_Finder_candidates (ok_Finder_candidates T) 1 ([] : List PySem.Str) [] [] [0] (by simp) (fun _ => .nil) (fun kV D doc pm an cdv ct us mv ws e h1 h2 h3 => match us, mv, ws, h1, h2, h3 with | [_], [], [], _, _, _ => rfl) (fun us mv ws h1 h2 h3 => match us, mv, ws, h1, h2, h3 with | [_], [], [], _, _, _ => rfl)
def tr_Finder_is_finished (K : PySem.W.Frag) : TrB := fun ds M P R => ∃ x0 : D, ∃ r : D, ds = [x0] ∧ F_Finder_is_finished (Zk K) x0 = some r ∧ P r M
set_option maxHeartbeats 0 in
theorem ok_Finder_is_finished {pg : Program} {w : World} {K : PySem.W.Frag} {mg : Str → Option Value} {base : Heap} (T : Txt K mg base) : BodyX pg w K mg base false 4 (prAd K "Finder" "is_finished").2 "Finder.is_finished" (defBody s_Finder_is_finished) (defScope s_Finder_is_finished) ["self"] ["self"] (tr_Finder_is_finished K) := fun cdv hcv A outer s H F0 E ds M P R hgd0 hr t hL hpo kx => by
  obtain ⟨x0, r, rfl, hF, hk⟩ := t
  unfold F_Finder_is_finished at hF
  exact gx_seq (g1_ret (ex_less (ex_cmp (ex_propX T.cls_Finder T.pr_Finder_candidates (fx_Finder_candidates_1 T) (hr.mono (by decide)) (ex_var 0 rfl (bi hF fun g1 hg1 hF => bi hF fun v2 hv2 hF => ⟨g1, is_of hg1, rfl, rfl, _, v2, rfl, hv2, ex_tup (ax_nil (⟨le_b rfl, bi hF fun t3 ht3 hF => od_cEq hr.units .id .id ht3 (⟨_, sub_refl, ret0 (so hF) hk⟩)⟩))⟩))))))
theorem fx_Finder_is_finished_1 {pg : Program} {w : World} {K : PySem.W.Frag} {mg : Str → Option Value} {base : Heap} (T : Txt K mg base) : FnX pg w K mg base false 5 (prAd K "Finder" "is_finished").2 ([] : List PySem.Str) (fun ds zs M P R => ds.length = 1 ∧ zs.length = ([] : List PySem.Str).length ∧ tr_Finder_is_finished K (pick (ds ++ ([] ++ zs)) [0]) M P R) :=
  fn_kwX T.d_Finder_is_finished.choose_spec sc_Finder_is_finished (ok_Finder_is_finished T) 1 ([] : List PySem.Str) [] [] [0] (by simp) (fun _ => .nil) (fun kV D doc pm an cdv ct us mv ws e h1 h2 h3 => match us, mv, ws, h1, h2, h3 with | [_], [], [], _, _, _ => rfl) (fun us mv ws h1 h2 h3 => match us, mv, ws, h1, h2, h3 with | [_], [], [], _, _, _ => rfl)
def tr_settled_stage (K : PySem.W.Frag) : TrB := fun ds M P R => ∃ x0 : D, ∃ x1 : D, ∃ x2 : D, ∃ x3 : D, ∃ r : D, ds = [x0, x1, x2, x3] ∧ F_settled_stage x0 x1 x2 x3 = some r ∧ P r M
set_option maxHeartbeats 0 in
theorem ok_settled_stage {pg : Program} {w : World} {K : PySem.W.Frag} {mg : Str → Option Value} {base : Heap} (T : Txt K mg base) : BodyX pg w K mg base false 6 (He.fAd K ("settled_stage", none)) "settled_stage" (defBody s_settled_stage) (defScope s_settled_stage) ["n", "ring", "entries", "candidates"] ["n", "ring", "entries", "candidates"] (tr_settled_stage K) := fun cdv hcv A outer s H F0 E ds M P R hgd0 hr t hL hpo kx => by
  obtain ⟨x0, x1, x2, x3, r, rfl, hF, hk⟩ := t
  unfold F_settled_stage at hF
  refine gx_seq (bi hF fun c3 hlc3 hOc3 => whC hpo hlc3 (fun s1 ρ' M' => ∃ s1_0 : D, ∃ s1_1 : D, s1 = (s1_0, s1_1) ∧ ρ' = [some x0, some x1, some s1_0, some s1_1] ∧ M' = M) ⟨_, _, rfl, rfl, rfl⟩ ?_ ?_ ?_)
  · rintro s1 _ _ M hF ⟨s1_0, s1_1, rfl, rfl, rfl⟩
    try dsimp only at hF
    exact (have hF := hF; tx_cmp (ex_blt T.b_len bb_len (ax_cons (ex_var 3 rfl (ax_nil (bi hF fun v5 hv5 hF => cd_dLen .id hv5 (ex_int (bi hF fun t6 ht6 hF => od_cEq hr.units .id .id ht6 (⟨_, rfl, ⟨so hF, rfl⟩⟩)))))))))
  · rintro s1 b4 hF hbb4 _ M ⟨s1_0, s1_1, rfl, rfl, rfl⟩
    try dsimp only at hF
    refine gx_seq (g1_if (tx_cmp (ex_ix (ex_var 3 rfl (ex_int (bi hF fun v8 hv8 hF => id_dIx .id .id hv8 (ex_gstr T.g_END (bi hF fun t9 ht9 hF => od_cEq hr.units .id .id ht9 (⟨_, rfl, ⟨fun q7 => ?_, fun q7 => ?_⟩⟩)))))))))
    · have hF := iT q7 hF
      exact gx_seq (g1_ret (ex_less (ex_tup (ax_cons (ex_var 2 rfl (ax_cons (ex_tup (ax_nil (⟨le_b rfl, ax_nil (⟨le_b rfl, ⟨_, sub_refl, ret0 (so (ctl_retS hOc3 (hbb4 _ (so hF).symm))) hk⟩⟩)⟩)))))))))
    · have hF := iF q7 hF
      refine gx_nil ?_
      show GX _ _ _ _ _ _
      refine gx_seq (g1_asg (ex_tup (ax_star (ex_var 2 rfl (bi hF fun l10 hl10 hF => ⟨_, sqOf .id hl10, ax_cons (ex_ix (ex_var 3 rfl (ex_int (bi hF fun v11 hv11 hF => id_dIx .id .id hv11 (ax_nil (bi hF fun _ hv12 hF => ⟨(chk_inv hv12).1, as_name 2 (?_) sc_settled_stage.nd⟩))))))⟩)))))
      refine gx_seq (g1_asg (ex_callX (fx_candidates_behind_3 T) Lets.no (fun h => nomatch h) (hr.mono (by decide)) T.m_candidates_behind T.d_candidates_behind.choose_spec.kp (ev_a (ax_cons (ex_var 0 rfl (ax_cons (ex_var 1 rfl (ax_cons (ex_var 2 rfl (ax_nil (kx_nil (bi hF fun v13 hv13 hF => ⟨rfl, ⟨rfl, rfl, ⟨_, _, _, v13, rfl, hv13, as_name 3 (?_) sc_settled_stage.nd⟩⟩⟩))))))))))))
      exact gx_nil ⟨_, (so hF).symm, ⟨_, _, rfl, rfl, rfl⟩⟩
  · rintro r2 hg _ M ⟨r2_0, r2_1, rfl, rfl, rfl⟩
    have hF := ctl_go hOc3 hg
    try dsimp only at hF
    show GX _ _ _ _ _ _
    exact gx_seq (g1_ret (ex_less (ex_tup (ax_cons (ex_var 2 rfl (ax_cons (ex_var 3 rfl (ax_nil (⟨le_b rfl, ⟨_, sub_refl, ret0 (so hF) hk⟩⟩)))))))))
theorem fx_settled_stage_4 {pg : Program} {w : World} {K : PySem.W.Frag} {mg : Str → Option Value} {base : Heap} (T : Txt K mg base) : FnX pg w K mg base false 7 (He.fAd K ("settled_stage", none)) ([] : List PySem.Str) (fun ds zs M P R => ds.length = 4 ∧ zs.length = ([] : List PySem.Str).length ∧ tr_settled_stage K (pick (ds ++ ([] ++ zs)) [0, 1, 2, 3]) M P R) :=
  fn_kwX T.d_settled_stage.choose_spec sc_settled_stage (ok_settled_stage T) 4 ([] : List PySem.Str) [] [] [0, 1, 2, 3] (by simp) (fun _ => .nil) (fun kV D doc pm an cdv ct us mv ws e h1 h2 h3 => match us, mv, ws, h1, h2, h3 with | [_, _, _, _], [], [], _, _, _ => rfl) (fun us mv ws h1 h2 h3 => match us, mv, ws, h1, h2, h3 with | [_, _, _, _], [], [], _, _, _ => rfl)
def tr_Finder_tell (K : PySem.W.Frag) : TrB := fun ds M P R => ∃ (p_0 : Addr) (x0 : List (Str × D)), ∃ x1 : D, ∃ (p_1 : Addr) (y1 : List D), ∃ (p_2 : Addr) (y2 : List D), ∃ r : D × List (Str × D) × List D × List D, ∃ W : D → D → D → Mem, ds = [.adr p_0, x1] ∧ M = W (.ins (Zk K "Finder") (x0 ++ [(("carries_told" : Str), D.adr p_1), (("stages" : Str), D.adr p_2)])) (.lst y1) (.lst y2) ∧ (∀ z0 z1 z2, At (W z0 z1 z2) p_0 z0 (fun z => W z z1 z2)) ∧ (∀ z0 z1 z2, At (W z0 z1 z2) p_1 z1 (fun z => W z0 z z2)) ∧ (∀ z0 z1 z2, At (W z0 z1 z2) p_2 z2 (fun z => W z0 z1 z)) ∧ (∀ z0 z1 z2, InsIn [Zk K "Finder"] (W (.ins (Zk K "Finder") z0) (.lst z1) (.lst z2))) ∧ F_Finder_tell (Zk K) x0 x1 y1 y2 = some r ∧ P r.1 (W (.ins (Zk K "Finder") (r.2.1 ++ [(("carries_told" : Str), D.adr p_1), (("stages" : Str), D.adr p_2)])) (.lst r.2.2.1) (.lst r.2.2.2))
set_option maxHeartbeats 0 in
theorem ok_Finder_tell {pg : Program} {w : World} {K : PySem.W.Frag} {mg : Str → Option Value} {base : Heap} (T : Txt K mg base) : BodyX pg w K mg base false 8 (He.fAd K ("Finder", some "tell")) "Finder.tell" (defBody s_Finder_tell) (defScope s_Finder_tell) ["self", "carry", "entries", "candidates", "half", "left"] ["self", "carry"] (tr_Finder_tell K) := fun cdv hcv A outer s H F0 E ds M P R hgd0 hr t hL hpo kx => by
  obtain ⟨p_0, x0, x1, p_1, y1, p_2, y2, r, W, rfl, rfl, hW0, hW1, hW2, hNI, hF, hk⟩ := t
  unfold F_Finder_tell at hF
  refine gx_seq (g1_if (tx_still (.own (hW0 _ _ _).get (ThG.app (.ad (hW1 _ _ _).get rfl (.ad (hW2 _ _ _).get rfl .nil))) (.same (.same (.same (.same (.same .nil)))))) (tx_tru (ex_propX T.cls_Finder T.pr_Finder_is_finished (fx_Finder_is_finished_1 T) (hr.mono (by decide)) (ex_var 0 rfl (bi hF fun g2 hg2 hF => bi hF fun v3 hv3 hF => ⟨g2, is_of hg2, rfl, rfl, _, v3, rfl, hv3, bi hF fun t4 ht4 hF => ⟨_, _, .id, ht4, ⟨fun q1 => ?_, fun q1 => ?_⟩⟩⟩))))))
  · have hF := iT q1 hF
    cases hF
  · have hF := iF q1 hF
    refine gx_nil ?_
    show GX _ _ _ _ _ _
    refine gx_seq (g1_if (tx_not (tx_tru (ex_callX (fx_is_between_3 T) Lets.no (fun h => nomatch h) (hr.mono (by decide)) T.m_is_between T.d_is_between.choose_spec.kp (ev_a (ax_cons (ex_var 1 rfl (ax_cons (ex_int (ax_cons (ex_int (ax_nil (kx_nil (bi hF fun v6 hv6 hF => ⟨rfl, ⟨rfl, rfl, ⟨_, _, _, v6, rfl, hv6, bi hF fun t7 ht7 hF => ⟨_, _, .id, ht7, ⟨fun q5 => ?_, fun q5 => ?_⟩⟩⟩⟩⟩))))))))))))))
    · have hF := iT q5 hF
      cases hF
    · have hF := iF q5 hF
      refine gx_nil ?_
      show GX _ _ _ _ _ _
      refine gx_seq (g1_asg (ex_stillL (hNI _ _ _) (.own (hW0 _ _ _).get (ThG.app (.ad (hW1 _ _ _).get rfl (.ad (hW2 _ _ _).get rfl .nil))) (.same (.same (.same (.same (.same .nil)))))) (ex_ix (ex_fldC T.cls_Finder T.no_Finder_stages (ex_var 0 rfl (bi hF fun g8 hg8 hF => bi hF fun z9 hz9 hF => ⟨_, g8, z9, .id, hg8, hz9, ex_dNeg (ex_int ⟨_, _, .id, rfl, bi hF fun v10 hv10 hF => id_dIx .id .id hv10 (bi hF fun _ h31 hF => ⟨(chk_inv h31).1, bi hF fun p11 hp11 hF => as_eq (un2_eq hp11) (as_tup rfl rfl (asd_cons (as_name 2 (asd_cons (as_name 3 (asd_nil (?_)) sc_Finder_tell.nd)) sc_Finder_tell.nd)))⟩)⟩)⟩))))))
      refine gx_seq (g1_asg (ex_bin (ex_blt T.b_len bb_len (ax_cons (ex_var 3 rfl (ax_nil (bi hF fun v12 hv12 hF => cd_dLen .id hv12 (ex_int (bi hF fun v13 hv13 hF => od_dFdiv .id .id hv13 (as_name 4 (?_) sc_Finder_tell.nd))))))))))
      refine gx_seq (g1_asg (bi hF fun v20 hv20 hF => ex_fix v20 (W (.ins (Zk K "Finder") (x0 ++ [(("carries_told" : Str), D.adr p_1), (("stages" : Str), D.adr p_2)])) (.lst y1) (.lst y2)) (have hF := hv20; ex_if (tx_cmp (ex_var 1 rfl (ex_int (bi hF fun t14 ht14 hF => od_cEq hr.units .id .id ht14 (⟨_, rfl, ⟨fun q19 => have hF := iT q19 hF; ex_slice (ex_var 3 rfl (ox_none (ox_d (ex_var 4 rfl (bi hF fun i15 hi15 hF => ⟨_, _, .id, hi15, bi hF fun v16 hv16 hF => sd_dCut .id hv16 (⟨so hF, rfl⟩)⟩))))), fun q19 => have hF := iF q19 hF; ex_slice (ex_var 3 rfl (ox_d (ex_var 4 rfl (bi hF fun i17 hi17 hF => ⟨_, _, .id, hi17, ox_none (bi hF fun v18 hv18 hF => sd_dCut .id hv18 (⟨so hF, rfl⟩))⟩))))⟩⟩)))))) (as_name 5 (?_) sc_Finder_tell.nd)))
      refine gx_seq (g1_expr (bi hF fun _ h21 hF => ex_append (ex_fldC T.cls_Finder T.no_Finder_stages (ex_var 0 rfl (⟨_, _, _, .ad (hW0 _ _ _).get, isC_own, own_get (chk_inv h21).1 rfl, (⟨_, _, rfl, (hW2 _ _ _).get, ax_cons (ex_stillL (hNI _ _ _) (.own (hW0 _ _ _).get (ThG.app (.ad (hW1 _ _ _).get rfl (.ad (hW2 _ _ _).get rfl .nil))) (.same (.same (.same (.same (.same .nil)))))) (ex_callX (fx_settled_stage_4 T) Lets.no (fun h => nomatch h) (hr.mono (by decide)) T.m_settled_stage T.d_settled_stage.choose_spec.kp (ev_a (ax_cons (ex_fldC T.cls_Finder T.no_Finder_bits (ex_var 0 rfl (bi hF fun g22 hg22 hF => bi hF fun z23 hz23 hF => ⟨_, g22, z23, .id, hg22, hz23, ax_cons (ex_fldC T.cls_Finder T.no_Finder_for_ring (ex_var 0 rfl (bi hF fun g24 hg24 hF => bi hF fun z25 hz25 hF => ⟨_, g24, z25, .id, hg24, hz25, ax_cons (ex_var 2 rfl (ax_cons (ex_var 5 rfl (ax_nil (kx_nil (bi hF fun v26 hv26 hF => ⟨rfl, ⟨rfl, rfl, ⟨_, _, _, _, v26, rfl, hv26, bi hF fun _ h30 hF => ⟨(chk_inv h30).1, ax_nil (bi hF fun _ h27 hF => ⟨_, _, _, rfl, (hW2 _ _ _), (chk_inv h27).1, ?_⟩)⟩⟩⟩⟩))))))⟩)))⟩)))))))⟩)⟩)))))
      refine gx_seq (g1_expr (bi hF fun _ h28 hF => ex_append (ex_fldC T.cls_Finder T.no_Finder_carries_told (ex_var 0 rfl (⟨_, _, _, .ad (hW0 _ _ _).get, isC_own, own_get (chk_inv h28).1 rfl, (⟨_, _, rfl, (hW1 _ _ _).get, ax_cons (ex_var 1 rfl (ax_nil (bi hF fun _ h29 hF => ⟨_, _, _, rfl, (hW1 _ _ _), (chk_inv h29).1, ?_⟩)))⟩)⟩)))))
      exact gx_nil (retG (A := D × List (Str × D) × List D × List D) (p := fun r => P r.1 (W (.ins (Zk K "Finder") (r.2.1 ++ [(("carries_told" : Str), D.adr p_1), (("stages" : Str), D.adr p_2)])) (.lst r.2.2.1) (.lst r.2.2.2))) (so hF) hk)
theorem fx_Finder_tell_2 {pg : Program} {w : World} {K : PySem.W.Frag} {mg : Str → Option Value} {base : Heap} (T : Txt K mg base) : FnX pg w K mg base false 9 (He.fAd K ("Finder", some "tell")) ([] : List PySem.Str) (fun ds zs M P R => ds.length = 2 ∧ zs.length = ([] : List PySem.Str).length ∧ tr_Finder_tell K (pick (ds ++ ([] ++ zs)) [0, 1]) M P R) :=
  fn_kwX T.d_Finder_tell.choose_spec sc_Finder_tell (ok_Finder_tell T) 2 ([] : List PySem.Str) [] [] [0, 1] (by simp) (fun _ => .nil) (fun kV D doc pm an cdv ct us mv ws e h1 h2 h3 => match us, mv, ws, h1, h2, h3 with | [_, _], [], [], _, _, _ => rfl) (fun us mv ws h1 h2 h3 => match us, mv, ws, h1, h2, h3 with | [_, _], [], [], _, _, _ => rfl)
def tr_trial_with (K : PySem.W.Frag) : TrB := fun ds M P R => ∃ x0 : D, ∃ x1 : D, ∃ x2 : List D, ∃ r : D, ds = [x0, x1, .stup x2] ∧ F_trial_with x0 x1 x2 = some r ∧ P r M
set_option maxHeartbeats 0 in
theorem ok_trial_with {pg : Program} {w : World} {K : PySem.W.Frag} {mg : Str → Option Value} {base : Heap} (T : Txt K mg base) : BodyX pg w K mg base false 2 (He.fAd K ("trial_with", none)) "trial_with" (defBody s_trial_with) (defScope s_trial_with) ["n", "zero", "placed", "given", "position"] ["n", "zero", "placed"] (tr_trial_with K) := fun cdv hcv A outer s H F0 E ds M P R hgd0 hr t hL hpo kx => by
  obtain ⟨x0, x1, x2, r, rfl, hF, hk⟩ := t
  unfold F_trial_with at hF
  refine gx_seq (g1_asg (ex_ty T.b_dict bb_dict (ax_cons (ex_var 2 rfl (ax_nil (bi hF fun k1 hk1 hF => cd_dictK hk1 (as_name 3 (?_) sc_trial_with.nd)))))))
  exact gx_seq (g1_ret (ex_less (ex_bin (ex_joinF (ex_str (bi hF fun s2 hs2 hF => ⟨s2, strD_eq hs2, ex_lc (own := [("position", 4)]) (hN := sc_trial_with.nd) rfl (bi hF fun l3 hl3 hF => ix_range3U (M2 := M) T.b_range (ax_cons (ex_var 0 rfl (ax_cons (ex_int (ax_cons (ex_dNeg (ex_int ⟨_, _, .id, rfl, ax_nil (⟨rfl, rfl⟩)⟩))))))) hl3 (bi hF fun _ hz8 hF => bi hF fun y6 hy6 hF => lcF hy6 (chk_inv hz8).1 (fun x5 _ acc d7 hF hd7 => have fb_d7 := hd7; asb_name 4 (fun _ _ _ _ _ => ex_dget2 hr.units (ex_var 3 rfl (bi hF fun k10 hk10 hF => ⟨k10, dctD_eq hk10, ex_var 4 rfl (bi hF fun k11 hk11 hF => ⟨k11, keyD_eq hk11, ex_gstr T.g_PASS (⟨so hF, rfl⟩)⟩)⟩))) (hN := sc_trial_with.nd)) (bi hF fun v12 hv12 hF => ⟨_, v12, .id, hv12, ex_var 1 rfl (bi hF fun v13 hv13 hF => od_dAdd .id .id hv13 (⟨_, sub_refl, ret0 (so hF) hk⟩))⟩)))⟩))))))
theorem fx_trial_with_1_zero {pg : Program} {w : World} {K : PySem.W.Frag} {mg : Str → Option Value} {base : Heap} (T : Txt K mg base) : FnX pg w K mg base false 3 (He.fAd K ("trial_with", none)) (["zero"] : List PySem.Str) (fun ds zs M P R => ∃ d0 dr, ds = d0 ++ dr ∧ d0.length = 1 ∧ zs.length = (["zero"] : List PySem.Str).length ∧ dr.length ≤ 1000000 ∧ (false = true → dr = []) ∧ tr_trial_with K (pick (d0 ++ ([] ++ zs)) [0, 1] ++ [D.stup dr]) M P R) :=
  fn_starX (pn := ["n", "zero"]) (pv := "placed") T.d_trial_with.choose_spec sc_trial_with (ok_trial_with T) 1 (["zero"] : List PySem.Str) [] [] [0, 1] (by simp) (fun _ => .nil) D.stup (.inr rfl) false (fun kV D doc pm an cdv ct us rest mv ws e er h1 h2 h3 => match us, rest, mv, ws, h1, h2, h3 with | [_], [], [], [_], _, _, _ => rfl | [_], _ :: _, [], [_], _, _, _ => rfl) (fun us mv ws h1 h2 h3 => match us, mv, ws, h1, h2, h3 with | [_], [], [_], _, _, _ => rfl)
def tr_next_trial (K : PySem.W.Frag) : TrB := fun ds M P R => ∃ x0 : D, ∃ x1 : D, ∃ x2 : D, ∃ r : D, ds = [x0, x1, x2] ∧ F_next_trial x0 x1 x2 = some r ∧ P r M
set_option maxHeartbeats 0 in
theorem ok_next_trial {pg : Program} {w : World} {K : PySem.W.Frag} {mg : Str → Option Value} {base : Heap} (T : Txt K mg base) : BodyX pg w K mg base false 4 (He.fAd K ("next_trial", none)) "next_trial" (defBody s_next_trial) (defScope s_next_trial) ["n", "ring", "candidates", "half", "zero", "placed", "index", "candidate", "state"] ["n", "ring", "candidates"] (tr_next_trial K) := fun cdv hcv A outer s H F0 E ds M P R hgd0 hr t hL hpo kx => by
  obtain ⟨x0, x1, x2, r, rfl, hF, hk⟩ := t
  unfold F_next_trial at hF
  refine gx_seq (g1_asg (ex_bin (ex_blt T.b_len bb_len (ax_cons (ex_var 2 rfl (ax_nil (bi hF fun v1 hv1 hF => cd_dLen .id hv1 (ex_int (bi hF fun v2 hv2 hF => od_dFdiv .id .id hv2 (as_name 3 (?_) sc_next_trial.nd))))))))))
  refine gx_seq (g1_asg (bi hF fun v5 hv5 hF => ex_fix v5 M (have hF := hv5; ex_if (tx_tru (ex_var 1 rfl (bi hF fun t3 ht3 hF => ⟨_, _, .id, ht3, ⟨fun q4 => have hF := iT q4 hF; ex_gstr T.g_PASS (⟨so hF, rfl⟩), fun q4 => have hF := iF q4 hF; ex_gstr T.g_KILL (⟨so hF, rfl⟩)⟩⟩)))) (as_name 4 (?_) sc_next_trial.nd)))
  refine gx_seq (g1_asg (ex_lstM (ax_nil (⟨le_b rfl, fun a6 ha6 => have fb_a6 := ha6; as_name 5 (?_) sc_next_trial.nd⟩))))
  refine gx_seq (g1_for hpo rfl (bi hF fun l7 hl7 hF => ix_enumU (M2 := (up M a6 (.lst []))) T.b_enumerate (ax_cons (ex_var 2 rfl (ax_nil (⟨rfl, rfl⟩)))) hl7 (bi hF fun r9 hlr9 hF => forF hlr9 (fun s8 ρ' M' => ∃ s8_0 : D, ∃ s8_1 : List D, ∃ j0 : Option D, ∃ j1 : Option D, ∃ j2 : Option D, s8 = (s8_0, s8_1) ∧ ρ' = [some x0, some x1, some x2, some v2, some s8_0, some (.adr a6), j0, j1, j2] ∧ M' = (up M a6 (.lst s8_1))) ⟨_, _, _, _, _, rfl, rfl, rfl⟩ ?_ ?_)))
  · rintro x10 s8 _ hF _ _ ⟨s8_0, s8_1, _, _, _, rfl, rfl, rfl⟩
    try dsimp only at hF
    refine bi hF fun p13 hp13 hF => as_eq (un2_eq hp13) (as_tup rfl rfl (asd_cons (as_name 6 (asd_cons (as_name 7 (asd_nil (?_)) sc_next_trial.nd)) sc_next_trial.nd)))
    refine gx_seq (g1_asg (bi hF fun v16 hv16 hF => ex_fix v16 (up M a6 (.lst s8_1)) (have hF := hv16; ex_if (tx_cmp (ex_var 6 rfl (ex_var 3 rfl (bi hF fun t14 ht14 hF => od_cLt .id .id ht14 (⟨_, rfl, ⟨fun q15 => have hF := iT q15 hF; ex_gstr T.g_GENERATE (⟨so hF, rfl⟩), fun q15 => have hF := iF q15 hF; ex_gstr T.g_KILL (⟨so hF, rfl⟩)⟩⟩)))))) (as_name 8 (?_) sc_next_trial.nd)))
    refine gx_seq (bi hF fun r18 hF hRr18 => g1_mid (fun ρ' M' => ∃ r18_0 : D, ∃ r18_1 : List D, r18 = (r18_0, r18_1) ∧ ρ' = [some x0, some x1, some x2, some v2, some r18_0, some (.adr a6), some p13.1, some p13.2, some v16] ∧ M' = (up M a6 (.lst r18_1))) (g1_if (tx_cmp (ex_var 7 rfl (ex_int (bi hF fun t19 ht19 hF => od_cEq hr.units .id .id ht19 (⟨_, rfl, ⟨fun q17 => ?_, fun q17 => ?_⟩⟩)))))) ?_)
    · have hF := iT q17 hF
      refine gx_seq (g1_asg (ex_var 8 rfl (as_name 4 (?_) sc_next_trial.nd)))
      exact gx_nil ⟨_, _, (so hF).symm, rfl, rfl⟩
    · have hF := iF q17 hF
      refine gx_seq (g1_if (tx_cmp (ex_var 7 rfl (ex_gstr T.g_END (bi hF fun t21 ht21 hF => od_cNe hr.units .id .id ht21 (⟨_, rfl, ⟨fun q20 => ?_, fun q20 => ?_⟩⟩))))))
      · have hF := iT q20 hF
        refine gx_seq (g1_expr (ex_append (ex_var 5 rfl (⟨_, _, rfl, at0.get, ax_cons (ex_tup (ax_cons (ex_var 7 rfl (ax_cons (ex_var 8 rfl (ax_nil (⟨le_b rfl, ax_nil (bi hF fun _ h22 hF => ⟨_, _, _, rfl, at0, (chk_inv h22).1, ?_⟩)⟩)))))))⟩))))
        refine gx_nil ?_
        show GX _ _ _ _ _ _
        exact gx_nil ⟨_, _, (so hF).symm, rfl, rfl⟩
      · have hF := iF q20 hF
        refine gx_nil ?_
        show GX _ _ _ _ _ _
        exact gx_nil ⟨_, _, (so hF).symm, rfl, rfl⟩
    · rintro _ _ ⟨r18_0, r18_1, rfl, rfl, rfl⟩
      have hF := hRr18
      try dsimp only at hF
      show GX _ _ _ _ _ _
      exact gx_nil ⟨_, _, _, _, _, (so hF).symm, rfl, rfl⟩
  · rintro _ _ ⟨r9_0, r9_1, _, _, _, rfl, rfl, rfl⟩
    try dsimp only at hF
    show GX _ _ _ _ _ _
    refine gx_frzA 5 rfl at0.get (subx_here fb_a6) ?_
    show GX _ _ _ _ _ _
    exact gx_seq (g1_ret (ex_less (ex_callX (fx_trial_with_1_zero T) Lets.no (fun h => nomatch h) (hr.mono (by decide)) T.m_trial_with T.d_trial_with.choose_spec.kp (ev_a (ax_cons (ex_var 0 rfl (ax_star (ex_var 5 rfl (bi hF fun l23 hl23 hF => ⟨_, sqOf .id hl23, ax_nil (kx_cons (ex_var 4 rfl (kx_nil (bi hF fun _ h24 hF => bi hF fun v25 hv25 hF => ⟨rfl, ⟨[_], (l23 ++ []), rfl, rfl, rfl, (chk_inv h24).1, (fun h => nomatch h), ⟨_, _, _, v25, rfl, hv25, ⟨_, sub_refl, ret0 (so hF) hk⟩⟩⟩⟩))))⟩)))))))))
theorem fx_next_trial_3 {pg : Program} {w : World} {K : PySem.W.Frag} {mg : Str → Option Value} {base : Heap} (T : Txt K mg base) : FnX pg w K mg base false 5 (He.fAd K ("next_trial", none)) ([] : List PySem.Str) (fun ds zs M P R => ds.length = 3 ∧ zs.length = ([] : List PySem.Str).length ∧ tr_next_trial K (pick (ds ++ ([] ++ zs)) [0, 1, 2]) M P R) :=
  fn_kwX T.d_next_trial.choose_spec sc_next_trial (ok_next_trial T) 3 ([] : List PySem.Str) [] [] [0, 1, 2] (by simp) (fun _ => .nil) (fun kV D doc pm an cdv ct us mv ws e h1 h2 h3 => match us, mv, ws, h1, h2, h3 with | [_, _, _], [], [], _, _, _ => rfl) (fun us mv ws h1 h2 h3 => match us, mv, ws, h1, h2, h3 with | [_, _, _], [], [], _, _, _ => rfl)
def tr_Finder_trial (K : PySem.W.Frag) : TrB := fun ds M P R => ∃ x0 : D, ∃ r : D, ds = [x0] ∧ F_Finder_trial (Zk K) x0 = some r ∧ P r M
set_option maxHeartbeats 0 in
theorem ok_Finder_trial {pg : Program} {w : World} {K : PySem.W.Frag} {mg : Str → Option Value} {base : Heap} (T : Txt K mg base) : BodyX pg w K mg base false 6 (prAd K "Finder" "trial").2 "Finder.trial" (defBody s_Finder_trial) (defScope s_Finder_trial) ["self"] ["self"] (tr_Finder_trial K) := fun cdv hcv A outer s H F0 E ds M P R hgd0 hr t hL hpo kx => by
  obtain ⟨x0, r, rfl, hF, hk⟩ := t
  unfold F_Finder_trial at hF
  exact gx_seq (g1_ret (ex_less (bi hF fun v12 hv12 hF => ex_fix v12 M (have hF := hv12; ex_if (tx_tru (ex_propX T.cls_Finder T.pr_Finder_is_finished (fx_Finder_is_finished_1 T) (hr.mono (by decide)) (ex_var 0 rfl (bi hF fun g1 hg1 hF => bi hF fun v2 hv2 hF => ⟨g1, is_of hg1, rfl, rfl, _, v2, rfl, hv2, bi hF fun t3 ht3 hF => ⟨_, _, .id, ht3, ⟨fun q11 => have hF := iT q11 hF; ex_non (⟨so hF, rfl⟩), fun q11 => have hF := iF q11 hF; ex_callX (fx_next_trial_3 T) Lets.no (fun h => nomatch h) (hr.mono (by decide)) T.m_next_trial T.d_next_trial.choose_spec.kp (ev_a (ax_cons (ex_fldC T.cls_Finder T.no_Finder_bits (ex_var 0 rfl (bi hF fun g4 hg4 hF => bi hF fun z5 hz5 hF => ⟨_, g4, z5, .id, hg4, hz5, ax_cons (ex_fldC T.cls_Finder T.no_Finder_for_ring (ex_var 0 rfl (bi hF fun g6 hg6 hF => bi hF fun z7 hz7 hF => ⟨_, g6, z7, .id, hg6, hz7, ax_cons (ex_propX T.cls_Finder T.pr_Finder_candidates (fx_Finder_candidates_1 T) (hr.mono (by decide)) (ex_var 0 rfl (bi hF fun g8 hg8 hF => bi hF fun v9 hv9 hF => ⟨g8, is_of hg8, rfl, rfl, _, v9, rfl, hv9, ax_nil (kx_nil (bi hF fun v10 hv10 hF => ⟨rfl, ⟨rfl, rfl, ⟨_, _, _, v10, rfl, hv10, ⟨so hF, rfl⟩⟩⟩⟩))⟩)))⟩)))⟩)))))⟩⟩⟩))))) (⟨_, sub_refl, ret0 (so hF) hk⟩))))
theorem fx_Finder_trial_1 {pg : Program} {w : World} {K : PySem.W.Frag} {mg : Str → Option Value} {base : Heap} (T : Txt K mg base) : FnX pg w K mg base false 7 (prAd K "Finder" "trial").2 ([] : List PySem.Str) (fun ds zs M P R => ds.length = 1 ∧ zs.length = ([] : List PySem.Str).length ∧ tr_Finder_trial K (pick (ds ++ ([] ++ zs)) [0]) M P R) :=
  fn_kwX T.d_Finder_trial.choose_spec sc_Finder_trial (ok_Finder_trial T) 1 ([] : List PySem.Str) [] [] [0] (by simp) (fun _ => .nil) (fun kV D doc pm an cdv ct us mv ws e h1 h2 h3 => match us, mv, ws, h1, h2, h3 with | [_], [], [], _, _, _ => rfl) (fun us mv ws h1 h2 h3 => match us, mv, ws, h1, h2, h3 with | [_], [], [], _, _, _ => rfl)
def tr_Finder_known (K : PySem.W.Frag) : TrB := fun ds M P R => ∃ x0 : D, ∃ r : D, ds = [x0] ∧ F_Finder_known (Zk K) x0 = some r ∧ P r M
set_option maxHeartbeats 0 in
theorem ok_Finder_known {pg : Program} {w : World} {K : PySem.W.Frag} {mg : Str → Option Value} {base : Heap} (T : Txt K mg base) : BodyX pg w K mg base false 6 (prAd K "Finder" "known").2 "Finder.known" (defBody s_Finder_known) (defScope s_Finder_known) ["self", "entries", "candidates"] ["self"] (tr_Finder_known K) := fun cdv hcv A outer s H F0 E ds M P R hgd0 hr t hL hpo kx => by
  obtain ⟨x0, r, rfl, hF, hk⟩ := t
  unfold F_Finder_known at hF
  refine gx_seq (g1_asg (ex_ix (ex_fldC T.cls_Finder T.no_Finder_stages (ex_var 0 rfl (bi hF fun g1 hg1 hF => bi hF fun z2 hz2 hF => ⟨_, g1, z2, .id, hg1, hz2, ex_dNeg (ex_int ⟨_, _, .id, rfl, bi hF fun v3 hv3 hF => id_dIx .id .id hv3 (bi hF fun p4 hp4 hF => as_eq (un2_eq hp4) (as_tup rfl rfl (asd_cons (as_name 1 (asd_cons (as_name 2 (asd_nil (?_)) sc_Finder_known.nd)) sc_Finder_known.nd))))⟩)⟩)))))
  exact gx_seq (g1_ret (ex_less (ex_makeX T.mk_Order (fx_Order___init___1 T) Lets.no (hr.mono (by decide)) T.g_Order (ev_s1 (ex_var 1 rfl (bi hF fun l5 hl5 hF => ⟨_, sqOf .id hl5, bi hF fun _ h6 hF => bi hF fun r10 hr10 hF => fun a8 ha8 => ⟨[_], l5, rfl, rfl, rfl, (chk_inv h6).1, (fun h => nomatch h), ⟨a8, _, _, r10, ha8, rfl, rfl, hr10, exc_i hF (fun e9 hee9 hF => nomatch hF) (fun v7 hv7 hF => ⟨rfl, _, _, ha8, rfl, ⟨_, sub_refl, ret0 (so hF) hk⟩⟩)⟩⟩⟩))))))
theorem fx_Finder_known_1 {pg : Program} {w : World} {K : PySem.W.Frag} {mg : Str → Option Value} {base : Heap} (T : Txt K mg base) : FnX pg w K mg base false 7 (prAd K "Finder" "known").2 ([] : List PySem.Str) (fun ds zs M P R => ds.length = 1 ∧ zs.length = ([] : List PySem.Str).length ∧ tr_Finder_known K (pick (ds ++ ([] ++ zs)) [0]) M P R) :=
  fn_kwX T.d_Finder_known.choose_spec sc_Finder_known (ok_Finder_known T) 1 ([] : List PySem.Str) [] [] [0] (by simp) (fun _ => .nil) (fun kV D doc pm an cdv ct us mv ws e h1 h2 h3 => match us, mv, ws, h1, h2, h3 with | [_], [], [], _, _, _ => rfl) (fun us mv ws h1 h2 h3 => match us, mv, ws, h1, h2, h3 with | [_], [], [], _, _, _ => rfl)
def tr_Finder_order (K : PySem.W.Frag) : TrB := fun ds M P R => ∃ x0 : D, ∃ r : Except Er D, ds = [x0] ∧ F_Finder_order (Zk K) x0 = some r ∧ resX r (fun v => P v M) (fun e => R e.1 e.2 M)
set_option maxHeartbeats 0 in
theorem ok_Finder_order {pg : Program} {w : World} {K : PySem.W.Frag} {mg : Str → Option Value} {base : Heap} (T : Txt K mg base) : BodyX pg w K mg base false 8 (He.fAd K ("Finder", some "order")) "Finder.order" (defBody s_Finder_order) (defScope s_Finder_order) ["self"] ["self"] (tr_Finder_order K) := fun cdv hcv A outer s H F0 E ds M P R hgd0 hr t hL hpo kx => by
  obtain ⟨x0, r, rfl, hF, hk⟩ := t
  unfold F_Finder_order at hF
  refine gx_seq (g1_if (tx_not (tx_tru (ex_propX T.cls_Finder T.pr_Finder_is_finished (fx_Finder_is_finished_1 T) (hr.mono (by decide)) (ex_var 0 rfl (bi hF fun g2 hg2 hF => bi hF fun v3 hv3 hF => ⟨g2, is_of hg2, rfl, rfl, _, v3, rfl, hv3, bi hF fun t4 ht4 hF => ⟨_, _, .id, ht4, ⟨fun q1 => ?_, fun q1 => ?_⟩⟩⟩))))))
  · have hF := iT q1 hF
    exact gx_seq (g1_rs0 hL rfl T.en_NotFinished basL T.g_NotFinished ⟨_, sub_refl, errX (q := fun e => R e.1 e.2 M) (so hF) hk⟩)
  · have hF := iF q1 hF
    refine gx_nil ?_
    show GX _ _ _ _ _ _
    exact gx_seq (g1_ret (ex_less (ex_propX T.cls_Finder T.pr_Finder_known (fx_Finder_known_1 T) (hr.mono (by decide)) (ex_var 0 rfl (bi hF fun g5 hg5 hF => bi hF fun v6 hv6 hF => ⟨g5, is_of hg5, rfl, rfl, _, v6, rfl, hv6, ⟨_, sub_refl, retX (p := fun v => P v M) (so hF) hk⟩⟩)))))
theorem fx_Finder_order_1 {pg : Program} {w : World} {K : PySem.W.Frag} {mg : Str → Option Value} {base : Heap} (T : Txt K mg base) : FnX pg w K mg base false 9 (He.fAd K ("Finder", some "order")) ([] : List PySem.Str) (fun ds zs M P R => ds.length = 1 ∧ zs.length = ([] : List PySem.Str).length ∧ tr_Finder_order K (pick (ds ++ ([] ++ zs)) [0]) M P R) :=
  fn_kwX T.d_Finder_order.choose_spec sc_Finder_order (ok_Finder_order T) 1 ([] : List PySem.Str) [] [] [0] (by simp) (fun _ => .nil) (fun kV D doc pm an cdv ct us mv ws e h1 h2 h3 => match us, mv, ws, h1, h2, h3 with | [_], [], [], _, _, _ => rfl) (fun us mv ws h1 h2 h3 => match us, mv, ws, h1, h2, h3 with | [_], [], [], _, _, _ => rfl)
def tr_found_order (K : PySem.W.Frag) : TrC := fun cf TT ds M P R => ∃ S : Type, ∃ x0 : D, ∃ x1 : D → S → Option (D × S), ∃ x2 : D, ∃ (s0 : S) (r : D × S) (W : S → Mem), ds = [x0, .adr cf, x2] ∧ M = W s0 ∧ (∀ z z1 q, W z q = none → W z1 q = none) ∧ (∀ W1 : S → Mem, Ov W W1 → ∀ d z v (P1 : D → Mem → Prop) (R1 : RX), x1 d z = some v → P1 v.1 (W1 v.2) → TT d (W1 z) P1 R1) ∧ (∀ z, InsIn [Zk K "Finder"] (W z)) ∧ F_found_order (Zk K) x0 x1 x2 s0 = some r ∧ P r.1 (W r.2)
set_option maxHeartbeats 0 in
theorem ok_found_order {pg : Program} {w : World} {K : PySem.W.Frag} {mg : Str → Option Value} {base : Heap} (T : Txt K mg base) : BodyC pg w K mg base false 10 12 (He.fAd K ("found_order", none)) "found_order" (defBody s_found_order) (defScope s_found_order) ["n", "ask", "ring", "finder"] ["n", "ask", "ring"] (tr_found_order K) := fun cdv hcv A outer s H F0 E ds M P R cf TT hgd0 hr hC t hL hpo kx => by
  obtain ⟨S, x0, x1, x2, s0, r, W, rfl, rfl, hWf, hTr, hNI, hF, hk⟩ := t
  unfold F_found_order at hF
  refine gx_seq (g1_asg (ex_makeM T.mk_Finder (fx_Finder___init___2_ring T) Lets.no (hr.mono (by decide)) T.g_Finder (ev_a (ax_cons (ex_var 0 rfl (ax_nil (kx_cons (ex_var 2 rfl (kx_nil (bi hF fun r4 hr4 hF => ⟨rfl, fun a2 ha2 => have fb_a2 := fun z_ => hWf _ z_ _ ha2; ⟨rfl, rfl, ⟨a2, _, _, _, r4, ha2, rfl, rfl, hr4, exc_i hF (fun e3 hee3 hF => nomatch hF) (fun v1 hv1 hF => fun a5 a6 ha5 ne_a2_a5  ha6 ne_a2_a6 ne_a5_a6 => have fb_a5 := fun z_ => hWf _ z_ _ ha5; have fb_a6 := fun z_ => hWf _ z_ _ ha6; ⟨rfl, as_name 3 (?_) sc_found_order.nd⟩)⟩⟩⟩))))))))))
  refine gx_seq (bi hF fun r8 hlr8 hF => whF hpo hlr8 (fun s7 ρ' M' => ∃ s7_0 : S, ∃ s7_1 : List (Str × D), ∃ s7_2 : List D, ∃ s7_3 : List D, s7 = (s7_0, s7_1, s7_2, s7_3) ∧ ρ' = [some x0, some (.adr cf), some x2, some (.adr a2)] ∧ M' = (up (up (up (W ( s7_0)) a2 (.ins (Zk K "Finder") (s7_1 ++ [(("carries_told" : Str), D.adr a5), (("stages" : Str), D.adr a6)]))) a5 (.lst s7_2)) a6 (.lst s7_3))) ⟨_, _, _, _, rfl, rfl, rfl⟩ ?_ ?_ ?_)
  · rintro s7 _ _ _ hF ⟨s7_0, s7_1, s7_2, s7_3, rfl, rfl, rfl⟩
    try dsimp only at hF
    exact (have hF := hF; tx_still (.same (.same (.same (.own (at1 ne_a2_a6 (at1 ne_a2_a5 at0)).get (ThG.app (.ad (at1 ne_a5_a6 at0).get rfl (.ad at0.get rfl .nil))) .nil)))) (tx_not (tx_tru (ex_propX T.cls_Finder T.pr_Finder_is_finished (fx_Finder_is_finished_1 T) (hr.mono (by decide)) (ex_var 3 rfl (bi hF fun g9 hg9 hF => bi hF fun v10 hv10 hF => ⟨g9, is_of hg9, rfl, rfl, _, v10, rfl, hv10, bi hF fun t11 ht11 hF => ⟨_, _, .id, ht11, ⟨so hF, rfl⟩⟩⟩))))))
  · rintro s7 _ _ _ hF ⟨s7_0, s7_1, s7_2, s7_3, rfl, rfl, rfl⟩
    try dsimp only at hF
    refine gx_seq (g1_expr (ex_methX (gd := false) Lets.no (fun h => nomatch h) (ex_var 3 rfl (bi hF fun _ h12 hF => ⟨_, _, _, _, _, .adr (at1 ne_a2_a6 (at1 ne_a2_a5 at0)).get, (own_none (chk_inv h12).1 rfl), T.cls_Finder, T.me_Finder_tell, (fx_Finder_tell_2 T), (hr.mono (by decide)), ev_a (ax_cons (ex_act1 (E := E) hC (fun _ q => q) Lets.no (fun h => nomatch h) (hr.mono (by decide)) rfl (ex_stillL (insIn_up (insIn_up (insIn_ins (.head _) (hNI _)))) (.same (.same (.same (.own (at1 ne_a2_a6 (at1 ne_a2_a5 at0)).get (ThG.app (.ad (at1 ne_a5_a6 at0).get rfl (.ad at0.get rfl .nil))) .nil)))) (ex_propX T.cls_Finder T.pr_Finder_trial (fx_Finder_trial_1 T) (hr.mono (by decide)) (ex_var 3 rfl (bi hF fun g13 hg13 hF => bi hF fun v14 hv14 hF => ⟨g13, is_of hg13, rfl, rfl, _, v14, rfl, hv14, bi hF fun _ h17 hF => ⟨(chk_inv h17).1, bi hF fun v15 hv15 hF => hTr (fun z_ => (up (up (up (W ( z_)) a2 (.ins (Zk K "Finder") (s7_1 ++ [(("carries_told" : Str), D.adr a5), (("stages" : Str), D.adr a6)]))) a5 (.lst s7_2)) a6 (.lst s7_3))) (.up (.up (.up .refl (fun _ => (fb_a2 _))) (fun _ => (nn ne_a2_a5 (fb_a5 _)))) (fun _ => (nn ne_a5_a6 (nn ne_a2_a6 (fb_a6 _))))) _ _ _ _ _ hv15 (ax_nil (kx_nil (bi hF fun v16 hv16 hF => ⟨rfl, ⟨rfl, rfl, ⟨a2, s7_1, _, a5, s7_2, a6, s7_3, v16, (fun w0 w1 w2 => (up (up (up (W ( v15.2)) a2 w0) a5 w1) a6 w2)), rfl, rfl, fun _ _ _ => (at1 ne_a2_a6 (at1 ne_a2_a5 at0)), fun _ _ _ => (at1 ne_a5_a6 at0), fun _ _ _ => at0, (fun _ _ _ => (insIn_up (insIn_up (insIn_ins (.head _) (hNI _))))), hv16, ?_⟩⟩⟩)))⟩⟩)))) (i := 1) rfl (by first | exact .inl rfl | exact .inr (.inl rfl)) (by decide) (by decide)))⟩))))
    exact gx_nil ⟨_, _, _, _, (so hF).symm, rfl, rfl⟩
  · rintro _ _ ⟨r8_0, r8_1, r8_2, r8_3, rfl, rfl, rfl⟩
    try dsimp only at hF
    show GX _ _ _ _ _ _
    exact gx_seq (g1_ret (ex_less (ex_stillL (insIn_up (insIn_up (insIn_ins (.head _) (hNI _)))) (.same (.same (.same (.own (at1 ne_a2_a6 (at1 ne_a2_a5 at0)).get (ThG.app (.ad (at1 ne_a5_a6 at0).get rfl (.ad at0.get rfl .nil))) .nil)))) (ex_methX (gd := false) Lets.no (fun h => nomatch h) (ex_var 3 rfl (bi hF fun g18 hg18 hF => ⟨_, _, _, _, _, is_mt hg18, (mthC_eq hg18).2, T.cls_Finder, T.me_Finder_order, (fx_Finder_order_1 T), (hr.mono (by decide)), ev_0 (kx_nil (bi hF fun r21 hr21 hF => ⟨rfl, ⟨rfl, rfl, ⟨_, r21, rfl, hr21, exc_i hF (fun e20 hee20 hF => nomatch hF) (fun v19 hv19 hF => bi hF fun _ h22 hF => ⟨(chk_inv h22).1, ⟨_, (sub_drop (sub_drop (sub_drop sub_refl (fb_a2 _)) (nn ne_a2_a5 (fb_a5 _))) (nn ne_a5_a6 (nn ne_a2_a6 (fb_a6 _)))), retG (A := D × S) (p := fun r => P r.1 (W r.2)) (so hF) hk⟩⟩)⟩⟩⟩))⟩))))))
theorem fx_found_order_2 {pg : Program} {w : World} {K : PySem.W.Frag} {mg : Str → Option Value} {base : Heap} (T : Txt K mg base) : FnC pg w K mg base false 10 13 (He.fAd K ("found_order", none)) ([] : List PySem.Str) (fun cf TT ds zs M P R => ds.length = 2 ∧ zs.length = ([] : List PySem.Str).length ∧ tr_found_order K cf TT (pick (ds ++ ([D.bl false] ++ zs)) [0, 1, 2]) M P R) :=
  fn_kwC T.d_found_order.choose_spec sc_found_order (ok_found_order T) 2 ([] : List PySem.Str) [("ring", .bl false)] [D.bl false] [0, 1, 2] (by simp) (fun _ => .cons (.bl _) (.nil)) (fun kV D doc pm an cdv ct us mv ws e h1 h2 h3 => by have e2 := e (by simp); subst e2; exact match us, mv, ws, h1, h2, h3 with | [_, _], [_], [], _, _, _ => ⟨_, _, _, _, _, _, rfl, rfl, rfl⟩) (fun us mv ws h1 h2 h3 => match us, mv, ws, h1, h2, h3 with | [_, _], [_], [], _, _, _ => rfl)
theorem fx_found_order_2_ring {pg : Program} {w : World} {K : PySem.W.Frag} {mg : Str → Option Value} {base : Heap} (T : Txt K mg base) : FnC pg w K mg base false 10 13 (He.fAd K ("found_order", none)) (["ring"] : List PySem.Str) (fun cf TT ds zs M P R => ds.length = 2 ∧ zs.length = (["ring"] : List PySem.Str).length ∧ tr_found_order K cf TT (pick (ds ++ ([] ++ zs)) [0, 1, 2]) M P R) :=
  fn_kwC T.d_found_order.choose_spec sc_found_order (ok_found_order T) 2 (["ring"] : List PySem.Str) [] [] [0, 1, 2] (by simp) (fun _ => .nil) (fun kV D doc pm an cdv ct us mv ws e h1 h2 h3 => match us, mv, ws, h1, h2, h3 with | [_, _], [], [_], _, _, _ => rfl) (fun us mv ws h1 h2 h3 => match us, mv, ws, h1, h2, h3 with | [_, _], [], [_], _, _, _ => rfl)
def tr_state_at (K : PySem.W.Frag) : TrB := fun ds M P R => ∃ x0 : D, ∃ x1 : D, ∃ r : D, ds = [x0, x1] ∧ F_state_at x0 x1 = some r ∧ P r M
set_option maxHeartbeats 0 in
theorem ok_state_at {pg : Program} {w : World} {K : PySem.W.Frag} {mg : Str → Option Value} {base : Heap} (T : Txt K mg base) : BodyX pg w K mg base false 2 (He.fAd K ("state_at", none)) "state_at" (defBody s_state_at) (defScope s_state_at) ["trial", "position"] ["trial", "position"] (tr_state_at K) := fun cdv hcv A outer s H F0 E ds M P R hgd0 hr t hL hpo kx => by
  obtain ⟨x0, x1, r, rfl, hF, hk⟩ := t
  unfold F_state_at at hF
  exact gx_seq (g1_ret (ex_less (ex_ix (ex_var 0 rfl (ex_bin (ex_bin (ex_blt T.b_len bb_len (ax_cons (ex_var 0 rfl (ax_nil (bi hF fun v1 hv1 hF => cd_dLen .id hv1 (ex_int (bi hF fun v2 hv2 hF => od_dSub .id .id hv2 (ex_var 1 rfl (bi hF fun v3 hv3 hF => od_dSub .id .id hv3 (bi hF fun v4 hv4 hF => id_dIx .id .id hv4 (⟨_, sub_refl, ret0 (so hF) hk⟩)))))))))))))))))
theorem fx_state_at_2 {pg : Program} {w : World} {K : PySem.W.Frag} {mg : Str → Option Value} {base : Heap} (T : Txt K mg base) : FnX pg w K mg base false 3 (He.fAd K ("state_at", none)) ([] : List PySem.Str) (fun ds zs M P R => ds.length = 2 ∧ zs.length = ([] : List PySem.Str).length ∧ tr_state_at K (pick (ds ++ ([] ++ zs)) [0, 1]) M P R) :=
  fn_kwX T.d_state_at.choose_spec sc_state_at (ok_state_at T) 2 ([] : List PySem.Str) [] [] [0, 1] (by simp) (fun _ => .nil) (fun kV D doc pm an cdv ct us mv ws e h1 h2 h3 => match us, mv, ws, h1, h2, h3 with | [_, _], [], [], _, _, _ => rfl) (fun us mv ws h1 h2 h3 => match us, mv, ws, h1, h2, h3 with | [_, _], [], [], _, _, _ => rfl)
def tr_first_state (K : PySem.W.Frag) : TrB := fun ds M P R => ∃ x0 : D, ∃ x1 : D, ∃ r : D, ds = [x0, x1] ∧ F_first_state x0 x1 = some r ∧ P r M
set_option maxHeartbeats 0 in
theorem ok_first_state {pg : Program} {w : World} {K : PySem.W.Frag} {mg : Str → Option Value} {base : Heap} (T : Txt K mg base) : BodyX pg w K mg base false 4 (He.fAd K ("first_state", none)) "first_state" (defBody s_first_state) (defScope s_first_state) ["trial", "positions", "position"] ["trial", "positions"] (tr_first_state K) := fun cdv hcv A outer s H F0 E ds M P R hgd0 hr t hL hpo kx => by
  obtain ⟨x0, x1, r, rfl, hF, hk⟩ := t
  unfold F_first_state at hF
  refine gx_seq (g1_for hpo rfl (bi hF fun l1 hl1 hF => ix_seqU (M2 := M) (ex_var 1 rfl (⟨rfl, rfl⟩)) hl1 (bi hF fun c5 hlc5 hOc5 => forC hlc5 (fun s2 ρ' M' => ∃ j0 : Option D, ρ' = [some x0, some x1, j0] ∧ M' = M) ⟨_, rfl, rfl⟩ ?_ ?_)))
  · rintro x4 s2 b6 hF hbb6 _ M ⟨_, rfl, rfl⟩
    try dsimp only at hF
    refine as_name 2 (?_) sc_first_state.nd
    refine gx_seq (g1_if (tx_cmp (ex_callX (fx_state_at_2 T) Lets.no (fun h => nomatch h) (hr.mono (by decide)) T.m_state_at T.d_state_at.choose_spec.kp (ev_a (ax_cons (ex_var 0 rfl (ax_cons (ex_var 2 rfl (ax_nil (kx_nil (bi hF fun v8 hv8 hF => ⟨rfl, ⟨rfl, rfl, ⟨_, _, v8, rfl, hv8, ex_gstr T.g_PASS (bi hF fun t9 ht9 hF => od_cNe hr.units .id .id ht9 (⟨_, rfl, ⟨fun q7 => ?_, fun q7 => ?_⟩⟩))⟩⟩⟩)))))))))))
    · have hF := iT q7 hF
      exact gx_seq (g1_ret (ex_less (ex_callX (fx_state_at_2 T) Lets.no (fun h => nomatch h) (hr.mono (by decide)) T.m_state_at T.d_state_at.choose_spec.kp (ev_a (ax_cons (ex_var 0 rfl (ax_cons (ex_var 2 rfl (ax_nil (kx_nil (bi hF fun v10 hv10 hF => ⟨rfl, ⟨rfl, rfl, ⟨_, _, v10, rfl, hv10, ⟨_, sub_refl, ret0 (so (ctl_retS hOc5 (hbb6 _ (so hF).symm))) hk⟩⟩⟩⟩)))))))))))
    · have hF := iF q7 hF
      refine gx_nil ?_
      show GX _ _ _ _ _ _
      exact gx_nil ⟨_, (so hF).symm, ⟨_, rfl, rfl⟩⟩
  · rintro r3 hg _ M ⟨_, rfl, rfl⟩
    have hF := ctl_go hOc5 hg
    try dsimp only at hF
    show GX _ _ _ _ _ _
    exact gx_seq (g1_ret (ex_less (ex_gstr T.g_PASS (⟨_, sub_refl, ret0 (so hF) hk⟩))))
theorem fx_first_state_2 {pg : Program} {w : World} {K : PySem.W.Frag} {mg : Str → Option Value} {base : Heap} (T : Txt K mg base) : FnX pg w K mg base false 5 (He.fAd K ("first_state", none)) ([] : List PySem.Str) (fun ds zs M P R => ds.length = 2 ∧ zs.length = ([] : List PySem.Str).length ∧ tr_first_state K (pick (ds ++ ([] ++ zs)) [0, 1]) M P R) :=
  fn_kwX T.d_first_state.choose_spec sc_first_state (ok_first_state T) 2 ([] : List PySem.Str) [] [] [0, 1] (by simp) (fun _ => .nil) (fun kV D doc pm an cdv ct us mv ws e h1 h2 h3 => match us, mv, ws, h1, h2, h3 with | [_, _], [], [], _, _, _ => rfl) (fun us mv ws h1 h2 h3 => match us, mv, ws, h1, h2, h3 with | [_, _], [], [], _, _, _ => rfl)
def tr_Order___call__ (K : PySem.W.Frag) : TrB := fun ds M P R => ∃ x0 : D, ∃ x1 : D, ∃ r : D, ds = [x0, x1] ∧ F_Order___call__ (Zk K) x0 x1 = some r ∧ P r M
set_option maxHeartbeats 0 in
theorem ok_Order___call__ {pg : Program} {w : World} {K : PySem.W.Frag} {mg : Str → Option Value} {base : Heap} (T : Txt K mg base) : BodyX pg w K mg base false 6 (He.fAd K ("Order", some "__call__")) "Order.__call__" (defBody s_Order___call__) (defScope s_Order___call__) ["self", "trial"] ["self", "trial"] (tr_Order___call__ K) := fun cdv hcv A outer s H F0 E ds M P R hgd0 hr t hL hpo kx => by
  obtain ⟨x0, x1, r, rfl, hF, hk⟩ := t
  unfold F_Order___call__ at hF
  exact gx_seq (g1_ret (ex_less (ex_callX (fx_first_state_2 T) Lets.no (fun h => nomatch h) (hr.mono (by decide)) T.m_first_state T.d_first_state.choose_spec.kp (ev_a (ax_cons (ex_var 1 rfl (ax_cons (ex_fldC T.cls_Order T.no_Order_entries (ex_var 0 rfl (bi hF fun g1 hg1 hF => bi hF fun z2 hz2 hF => ⟨_, g1, z2, .id, hg1, hz2, ax_nil (kx_nil (bi hF fun v3 hv3 hF => ⟨rfl, ⟨rfl, rfl, ⟨_, _, v3, rfl, hv3, ⟨_, sub_refl, ret0 (so hF) hk⟩⟩⟩⟩))⟩))))))))))
theorem fx_Order___call___2 {pg : Program} {w : World} {K : PySem.W.Frag} {mg : Str → Option Value} {base : Heap} (T : Txt K mg base) : FnX pg w K mg base false 7 (He.fAd K ("Order", some "__call__")) ([] : List PySem.Str) (fun ds zs M P R => ds.length = 2 ∧ zs.length = ([] : List PySem.Str).length ∧ tr_Order___call__ K (pick (ds ++ ([] ++ zs)) [0, 1]) M P R) :=
  fn_kwX T.d_Order___call__.choose_spec sc_Order___call__ (ok_Order___call__ T) 2 ([] : List PySem.Str) [] [] [0, 1] (by simp) (fun _ => .nil) (fun kV D doc pm an cdv ct us mv ws e h1 h2 h3 => match us, mv, ws, h1, h2, h3 with | [_, _], [], [], _, _, _ => rfl) (fun us mv ws h1 h2 h3 => match us, mv, ws, h1, h2, h3 with | [_, _], [], [], _, _, _ => rfl)
def tr_Lnoted (K : PySem.W.Frag) : TrB := fun ds M P R => ∃ (p_0 : Addr) (x0 : List D), ∃ x1 : D, ∃ x2 : D, ∃ r : D × List D, ∃ W : D → Mem, ds = [.adr p_0, x1, x2] ∧ M = W (.lst x0) ∧ (∀ z0, At (W z0) p_0 z0 (fun z => W z)) ∧ F_Lnoted (Zk K) x0 x1 x2 = some r ∧ P r.1 (W (.lst r.2))
set_option maxHeartbeats 0 in
theorem ok_Lnoted {pg : Program} {w : World} {K : PySem.W.Frag} {mg : Str → Option Value} {base : Heap} (T : Txt K mg base) : BodyX pg w K mg base false 8 (He.fAd K ("_law_noted", none)) "_law_noted" (defBody s_Lnoted) (defScope s_Lnoted) ["_law_seen", "_law_order_so", "_law_test"] ["_law_seen", "_law_order_so", "_law_test"] (tr_Lnoted K) := fun cdv hcv A outer s H F0 E ds M P R hgd0 hr t hL hpo kx => by
  obtain ⟨p_0, x0, x1, x2, r, W, rfl, rfl, hW0, hF, hk⟩ := t
  unfold F_Lnoted at hF
  refine gx_seq (g1_expr (ex_append (ex_var 0 rfl (⟨_, _, rfl, (hW0 _).get, ax_cons (ex_var 2 rfl (ax_nil (bi hF fun _ h1 hF => ⟨_, _, _, rfl, (hW0 _), (chk_inv h1).1, ?_⟩)))⟩))))
  exact gx_seq (g1_ret (ex_less (ex_ty T.b_int bb_int (ax_cons (ex_cmp (ex_insX Lets.no T.call_Order (fx_Order___call___2 T) (hr.mono (by decide)) (ex_var 1 rfl (bi hF fun g2 hg2 hF => ⟨⟨_, is_of hg2⟩, ev_a (ax_cons (ex_var 2 rfl (ax_nil (kx_nil (bi hF fun v3 hv3 hF => ⟨rfl, ⟨_, is_of hg2, ⟨rfl, rfl, ⟨_, _, v3, rfl, hv3, ex_str (bi hF fun t4 ht4 hF => od_cEq hr.units .id .id ht4 (ax_nil (bi hF fun v5 hv5 hF => cd_dInt .id hv5 (⟨_, sub_refl, ret1 (W := W) (so hF) hk⟩))))⟩⟩⟩⟩)))))⟩))))))))
theorem fx_Lnoted_3 {pg : Program} {w : World} {K : PySem.W.Frag} {mg : Str → Option Value} {base : Heap} (T : Txt K mg base) : FnX pg w K mg base false 9 (He.fAd K ("_law_noted", none)) ([] : List PySem.Str) (fun ds zs M P R => ds.length = 3 ∧ zs.length = ([] : List PySem.Str).length ∧ tr_Lnoted K (pick (ds ++ ([] ++ zs)) [0, 1, 2]) M P R) :=
  fn_kwX T.d_Lnoted.choose_spec sc_Lnoted (ok_Lnoted T) 3 ([] : List PySem.Str) [] [] [0, 1, 2] (by simp) (fun _ => .nil) (fun kV D doc pm an cdv ct us mv ws e h1 h2 h3 => match us, mv, ws, h1, h2, h3 with | [_, _, _], [], [], _, _, _ => rfl) (fun us mv ws h1 h2 h3 => match us, mv, ws, h1, h2, h3 with | [_, _, _], [], [], _, _, _ => rfl)
def tr_Order___eq__ (K : PySem.W.Frag) : TrB := fun ds M P R => ∃ x0 : D, ∃ x1 : D, ∃ r : D, ds = [x0, x1] ∧ F_Order___eq__ (Zk K) x0 x1 = some r ∧ P r M
set_option maxHeartbeats 0 in
theorem ok_Order___eq__ {pg : Program} {w : World} {K : PySem.W.Frag} {mg : Str → Option Value} {base : Heap} (T : Txt K mg base) : BodyX pg w K mg base false 2 (He.fAd K ("Order", some "__eq__")) "Order.__eq__" (defBody s_Order___eq__) (defScope s_Order___eq__) ["self", "other"] ["self", "other"] (tr_Order___eq__ K) := fun cdv hcv A outer s H F0 E ds M P R hgd0 hr t hL hpo kx => by
  obtain ⟨x0, x1, r, rfl, hF, hk⟩ := t
  unfold F_Order___eq__ at hF
  exact gx_seq (g1_ret (ex_less (bi hF fun v9 hv9 hF => ex_fix v9 M (have hF := hv9; ex_andT (ex_blt T.b_isinstance bb_isi (ax_cons (ex_var 1 rfl (ax_cons (ex_cls T.g_Order (ax_nil (bi hF fun t2 ht2 hF => cd_isiC T.cls_Order T.isi_Order ht2 (bi hF fun t3 ht3 hF => ⟨_, _, .id, ht3, fun q1 => have hF := iT q1 hF; ex_one (ex_cmp (ex_fldC T.cls_Order T.no_Order_entries (ex_var 0 rfl (bi hF fun g4 hg4 hF => bi hF fun z5 hz5 hF => ⟨_, g4, z5, .id, hg4, hz5, ex_fldC T.cls_Order T.no_Order_entries (ex_var 1 rfl (bi hF fun g6 hg6 hF => bi hF fun z7 hz7 hF => ⟨_, g6, z7, .id, hg6, hz7, bi hF fun t8 ht8 hF => od_cEq hr.units .id .id ht8 (⟨so hF, rfl⟩)⟩))⟩)))), fun q1 => ⟨so (iF q1 hF), rfl⟩⟩))))))))) (⟨_, sub_refl, ret0 (so hF) hk⟩))))
theorem fx_Order___eq___2 {pg : Program} {w : World} {K : PySem.W.Frag} {mg : Str → Option Value} {base : Heap} (T : Txt K mg base) : FnX pg w K mg base false 3 (He.fAd K ("Order", some "__eq__")) ([] : List PySem.Str) (fun ds zs M P R => ds.length = 2 ∧ zs.length = ([] : List PySem.Str).length ∧ tr_Order___eq__ K (pick (ds ++ ([] ++ zs)) [0, 1]) M P R) :=
  fn_kwX T.d_Order___eq__.choose_spec sc_Order___eq__ (ok_Order___eq__ T) 2 ([] : List PySem.Str) [] [] [0, 1] (by simp) (fun _ => .nil) (fun kV D doc pm an cdv ct us mv ws e h1 h2 h3 => match us, mv, ws, h1, h2, h3 with | [_, _], [], [], _, _, _ => rfl) (fun us mv ws h1 h2 h3 => match us, mv, ws, h1, h2, h3 with | [_, _], [], [], _, _, _ => rfl)
def tr_Order_positions (K : PySem.W.Frag) : TrB := fun ds M P R => ∃ x0 : D, ∃ r : D, ds = [x0] ∧ F_Order_positions (Zk K) x0 = some r ∧ P r M
set_option maxHeartbeats 0 in
theorem ok_Order_positions {pg : Program} {w : World} {K : PySem.W.Frag} {mg : Str → Option Value} {base : Heap} (T : Txt K mg base) : BodyX pg w K mg base false 2 (prAd K "Order" "positions").2 "Order.positions" (defBody s_Order_positions) (defScope s_Order_positions) ["self"] ["self"] (tr_Order_positions K) := fun cdv hcv A outer s H F0 E ds M P R hgd0 hr t hL hpo kx => by
  obtain ⟨x0, r, rfl, hF, hk⟩ := t
  unfold F_Order_positions at hF
  exact gx_seq (g1_ret (ex_less (ex_fldC T.cls_Order T.no_Order_entries (ex_var 0 rfl (bi hF fun g1 hg1 hF => bi hF fun z2 hz2 hF => ⟨_, g1, z2, .id, hg1, hz2, ⟨_, sub_refl, ret0 (so hF) hk⟩⟩)))))
theorem fx_Order_positions_1 {pg : Program} {w : World} {K : PySem.W.Frag} {mg : Str → Option Value} {base : Heap} (T : Txt K mg base) : FnX pg w K mg base false 3 (prAd K "Order" "positions").2 ([] : List PySem.Str) (fun ds zs M P R => ds.length = 1 ∧ zs.length = ([] : List PySem.Str).length ∧ tr_Order_positions K (pick (ds ++ ([] ++ zs)) [0]) M P R) :=
  fn_kwX T.d_Order_positions.choose_spec sc_Order_positions (ok_Order_positions T) 1 ([] : List PySem.Str) [] [] [0] (by simp) (fun _ => .nil) (fun kV D doc pm an cdv ct us mv ws e h1 h2 h3 => match us, mv, ws, h1, h2, h3 with | [_], [], [], _, _, _ => rfl) (fun us mv ws h1 h2 h3 => match us, mv, ws, h1, h2, h3 with | [_], [], [], _, _, _ => rfl)
def tr_Ltrials (K : PySem.W.Frag) : TrB := fun ds M P R => ∃ x0 : D, ∃ x1 : D, ∃ x2 : D, ∃ r : D, ds = [x0, x1, x2] ∧ TbM K tl M ∧ InsIn [Zk K "Finder"] M ∧ F_Ltrials (Zk K) x0 x1 x2 = some r ∧ P r M
set_option maxHeartbeats 0 in
theorem ok_Ltrials {pg : Program} {w : World} {K : PySem.W.Frag} {mg : Str → Option Value} {base : Heap} (T : Txt K mg base) : BodyX pg w K mg base false 14 (He.fAd K ("_law_trials", none)) "_law_trials" (defBody s_Ltrials) (defScope s_Ltrials) ["_law_bits", "_law_low", "_law_entries", "_law_seen", "_law_order_so", "_law_entry", "_law_found"] ["_law_bits", "_law_low", "_law_entries"] (tr_Ltrials K) := fun cdv hcv A outer s H F0 E ds M P R hgd0 hr t hL hpo kx => by
  obtain ⟨x0, x1, x2, r, rfl, hTM, hNI, hF, hk⟩ := t
  unfold F_Ltrials at hF
  refine gx_seq (g1_asg (ex_lstM (ax_nil (⟨le_b rfl, fun a1 ha1 => have fb_a1 := ha1; as_name 3 (?_) sc_Ltrials.nd⟩))))
  refine gx_seq (g1_asg (ex_makeX T.mk_Order (fx_Order___init___1 T) Lets.no (hr.mono (by decide)) T.g_Order (ev_a (ax_cons (ex_ix (ex_var 2 rfl (ex_int (bi hF fun v2 hv2 hF => id_dIx .id .id hv2 (ax_nil (kx_nil (bi hF fun r6 hr6 hF => ⟨rfl, fun a4 ha4 => ⟨[_], [_], rfl, rfl, rfl, le_b rfl, (fun h => nomatch h), ⟨a4, _, _, r6, ha4, rfl, rfl, hr6, exc_i hF (fun e5 hee5 hF => nomatch hF) (fun v3 hv3 hF => ⟨rfl, _, _, ha4, rfl, as_name 4 (?_) sc_Ltrials.nd⟩)⟩⟩⟩)))))))))))
  refine gx_seq (g1_for hpo rfl (bi hF fun v9 hv9 hF => bi hF fun l10 hl10 hF => ix_seqU (M2 := (up M a1 (.lst []))) ((have hF := hv9; ex_slice (ex_var 2 rfl (ox_d (ex_int (bi hF fun i7 hi7 hF => ⟨_, _, .id, hi7, ox_none (bi hF fun v8 hv8 hF => sd_dCut .id hv8 (⟨so hF, rfl⟩))⟩)))))) hl10 (bi hF fun r12 hlr12 hF => forF hlr12 (fun s11 ρ' M' => ∃ j0 : Option D, ∃ j1 : Option D, ρ' = [some x0, some x1, some x2, some (.adr a1), some s11, j0, j1] ∧ M' = (up M a1 (.lst []))) ⟨_, _, rfl, rfl⟩ ?_ ?_)))
  · rintro x13 s11 _ hF _ _ ⟨_, _, rfl, rfl⟩
    try dsimp only at hF
    refine as_name 5 (?_) sc_Ltrials.nd
    refine gx_seq (g1_asg (ex_bin (ex_var 4 rfl (ex_makeX T.mk_Order (fx_Order___init___1 T) Lets.no (hr.mono (by decide)) T.g_Order (ev_a (ax_cons (ex_var 5 rfl (ax_nil (kx_nil (bi hF fun r19 hr19 hF => ⟨rfl, fun a17 ha17 => ⟨[_], [_], rfl, rfl, rfl, le_b rfl, (fun h => nomatch h), ⟨a17, _, _, r19, ha17, rfl, rfl, hr19, exc_i hF (fun e18 hee18 hF => nomatch hF) (fun v16 hv16 hF => ⟨rfl, _, _, ha17, rfl, bi hF fun g20 hg20 hF => bi hF fun g21 hg21 hF => bi hF fun v22 hv22 hF => bi hF fun i23 hi23 hF => od_addX (fx_Order___add___2 T) (hr.mono (by decide)) T.sf_Order T.me_Order___add__ (is_of hg20) (is_of hg21) ⟨rfl, rfl, _, _, v22, rfl, hv22, ⟨insA_eq hi23, as_name 4 (?_) sc_Ltrials.nd⟩⟩⟩)⟩⟩⟩))))))))))
    cases hF
    exact gx_nil ⟨_, _, rfl, rfl⟩
  · rintro _ _ ⟨_, _, rfl, rfl⟩
    try dsimp only at hF
    show GX _ _ _ _ _ _
    refine gx_seq (bi hF fun r25 hF hRr25 => g1_mid (fun ρ' M' => ∃ r25_0 : D, ∃ r25_1 : List D, ∃ j0 : Option D, r25 = (r25_0, r25_1) ∧ ρ' = [some x0, some x1, some x2, some (.adr a1), some r12, j0, some r25_0] ∧ M' = (up M a1 (.lst r25_1))) (g1_if (tx_cmp (ex_var 1 rfl (ex_int (bi hF fun t26 ht26 hF => od_cEq hr.units .id .id ht26 (⟨_, rfl, ⟨fun q24 => ?_, fun q24 => ?_⟩⟩)))))) ?_)
    · have hF := iT q24 hF
      refine gx_seq (g1_asg (ex_callCA (fx_found_order_2_ring T) Lets.no (fun h => nomatch h) (hr.mono (by decide)) T.m_found_order T.d_found_order.choose_spec.kp (T.tb _ (.head _)) (code_ref hcv (tab_ne (T.tb _ (.head _)))) (TLst (fun (d_l1 : D) (s_l1 : List D) => (F_Lnoted (Zk K) s_l1 r12 d_l1).bind fun v28 => some (v28.1, v28.2)) a1) (ex_var 0 rfl (⟨((tbm_up hTM fb_a1) _ (.head _)), kx_cons (ex_bl (kx_nil (bi hF fun r29 hr29 hF => ⟨rfl, fun cf_ => ⟨rfl, rfl, ⟨List D, _, _, _, _, r29, fun l_ => (fun w0 => (up M a1 w0)) (.lst l_), rfl, rfl, fun _ _ _ h_ => fresh1 (W := (fun w0 => (up M a1 w0))) (fun _ => at0) h_ _, fun _ o_ _ _ _ _ _ hv_ hp_ => tlst_of (WD := (fun w0 => (up M a1 w0))) (fun _ => at0) (fun _ => rfl) o_ hv_ hp_, (fun _ => (insIn_up hNI)), hr29, as_name 6 (?_) sc_Ltrials.nd⟩⟩⟩)))⟩)) (fun A_ o_ s_ H_ E_ f_ c_ J_ d_l1 N_ P R_ hg_ hr hLl_ hk0 => by obtain ⟨W, s_l1, r_l1, hW0, rfl, hF, hk⟩ := hk0; exact ex_less (ex_callX (fx_Lnoted_3 T) Lets.no (fun h => nomatch h) (hr.mono (by decide)) T.m_Lnoted T.d_Lnoted.choose_spec.kp (ev_a (ax_cons (ex_var 3 rfl (ax_cons (ex_var 4 rfl (ax_cons (ex_var 7 rfl (ax_nil (kx_nil (bi hF fun v28 hv28 hF => ⟨rfl, ⟨rfl, rfl, ⟨a1, s_l1, _, _, v28, (fun w0 => (W w0)), rfl, rfl, fun _ => (hW0 _), hv28, ⟨_, sub_refl, ret1 (W := W) (so hF) hk⟩⟩⟩⟩))))))))))))))
      exact gx_nil ⟨_, _, _, (so hF).symm, rfl, rfl⟩
    · have hF := iF q24 hF
      refine gx_seq (g1_asg (ex_callCA (fx_found_order_2 T) Lets.no (fun h => nomatch h) (hr.mono (by decide)) T.m_found_order T.d_found_order.choose_spec.kp (T.tb _ (.head _)) (code_ref hcv (tab_ne (T.tb _ (.head _)))) (TLst (fun (d_l2 : D) (s_l2 : List D) => (F_Lnoted (Zk K) s_l2 r12 d_l2).bind fun v31 => some (v31.1, v31.2)) a1) (ex_var 0 rfl (⟨((tbm_up hTM fb_a1) _ (.head _)), kx_nil (bi hF fun r32 hr32 hF => ⟨rfl, fun cf_ => ⟨rfl, rfl, ⟨List D, _, _, _, _, r32, fun l_ => (fun w0 => (up M a1 w0)) (.lst l_), rfl, rfl, fun _ _ _ h_ => fresh1 (W := (fun w0 => (up M a1 w0))) (fun _ => at0) h_ _, fun _ o_ _ _ _ _ _ hv_ hp_ => tlst_of (WD := (fun w0 => (up M a1 w0))) (fun _ => at0) (fun _ => rfl) o_ hv_ hp_, (fun _ => (insIn_up hNI)), hr32, as_name 6 (?_) sc_Ltrials.nd⟩⟩⟩)⟩)) (fun A_ o_ s_ H_ E_ f_ c_ J_ d_l2 N_ P R_ hg_ hr hLl_ hk0 => by obtain ⟨W, s_l2, r_l2, hW0, rfl, hF, hk⟩ := hk0; exact ex_less (ex_callX (fx_Lnoted_3 T) Lets.no (fun h => nomatch h) (hr.mono (by decide)) T.m_Lnoted T.d_Lnoted.choose_spec.kp (ev_a (ax_cons (ex_var 3 rfl (ax_cons (ex_var 4 rfl (ax_cons (ex_var 7 rfl (ax_nil (kx_nil (bi hF fun v31 hv31 hF => ⟨rfl, ⟨rfl, rfl, ⟨a1, s_l2, _, _, v31, (fun w0 => (W w0)), rfl, rfl, fun _ => (hW0 _), hv31, ⟨_, sub_refl, ret1 (W := W) (so hF) hk⟩⟩⟩⟩))))))))))))))
      exact gx_nil ⟨_, _, _, (so hF).symm, rfl, rfl⟩
    · rintro _ _ ⟨r25_0, r25_1, _, rfl, rfl, rfl⟩
      have hF := hRr25
      try dsimp only at hF
      show GX _ _ _ _ _ _
      refine gx_frzA 3 rfl at0.get (subx_here fb_a1) ?_
      show GX _ _ _ _ _ _
      exact gx_seq (g1_ret (ex_less (bi hF fun v43 hv43 hF => ex_fix v43 M (have hF := hv43; ex_if (bi hF fun t41 ht41 hF => tx_fix t41 M (have hF := ht41; tx_pw (wx_and (tx_cmp (ex_var 6 rfl (ex_var 4 rfl (bi hF fun g34 hg34 hF => bi hF fun o35 ho35 hF => bi hF fun v36 hv36 hF => bi hF fun t37 ht37 hF => od_eqX (fx_Order___eq___2 T) (hr.mono (by decide)) T.me_Order___eq__ (is_of hg34) (othD_eq ho35 T.ot1_Order T.ot2_Order) ⟨rfl, rfl, _, _, .bl t37, rfl, hv36.trans (congrArg some (blD_eq ht37)), ⟨⟨t37, rfl⟩, ⟨_, rfl, ⟨fun q33 => have hF := iT q33 hF; wx_and1 (tx_cmp (ex_propX T.cls_Order T.pr_Order_positions (fx_Order_positions_1 T) (hr.mono (by decide)) (ex_var 6 rfl (bi hF fun g38 hg38 hF => bi hF fun v39 hv39 hF => ⟨g38, is_of hg38, rfl, rfl, _, v39, rfl, hv39, ex_var 2 rfl (bi hF fun t40 ht40 hF => od_cEq hr.units .id .id ht40 (⟨_, rfl, ⟨so hF, rfl⟩⟩))⟩)))), fun q33 => ⟨so (iF q33 hF), rfl⟩⟩⟩⟩⟩)))))) (⟨fun q42 => have hF := iT q42 hF; ex_var 3 rfl (⟨so hF, rfl⟩), fun q42 => have hF := iF q42 hF; ex_non (⟨so hF, rfl⟩)⟩))) (⟨_, sub_refl, ret0 (so hF) hk⟩))))
theorem fx_Ltrials_3 {pg : Program} {w : World} {K : PySem.W.Frag} {mg : Str → Option Value} {base : Heap} (T : Txt K mg base) : FnX pg w K mg base false 15 (He.fAd K ("_law_trials", none)) ([] : List PySem.Str) (fun ds zs M P R => ds.length = 3 ∧ zs.length = ([] : List PySem.Str).length ∧ tr_Ltrials K (pick (ds ++ ([] ++ zs)) [0, 1, 2]) M P R) :=
  fn_kwX T.d_Ltrials.choose_spec sc_Ltrials (ok_Ltrials T) 3 ([] : List PySem.Str) [] [] [0, 1, 2] (by simp) (fun _ => .nil) (fun kV D doc pm an cdv ct us mv ws e h1 h2 h3 => match us, mv, ws, h1, h2, h3 with | [_, _, _], [], [], _, _, _ => rfl) (fun us mv ws h1 h2 h3 => match us, mv, ws, h1, h2, h3 with | [_, _, _], [], [], _, _, _ => rfl)
def tr_Lsum (K : PySem.W.Frag) : TrB := fun ds M P R => ∃ x0 : D, ∃ x1 : D, ∃ r : D, ds = [x0, x1] ∧ F_Lsum x0 x1 = some r ∧ P r M
set_option maxHeartbeats 0 in
theorem ok_Lsum {pg : Program} {w : World} {K : PySem.W.Frag} {mg : Str → Option Value} {base : Heap} (T : Txt K mg base) : BodyX pg w K mg base false 2 (He.fAd K ("_law_sum", none)) "_law_sum" (defBody s_Lsum) (defScope s_Lsum) ["_law_bits", "_law_low", "_law_found", "_law_many", "_law_worth"] ["_law_bits", "_law_low"] (tr_Lsum K) := fun cdv hcv A outer s H F0 E ds M P R hgd0 hr t hL hpo kx => by
  obtain ⟨x0, x1, r, rfl, hF, hk⟩ := t
  unfold F_Lsum at hF
  refine gx_seq (g1_asg (ex_int (as_name 2 (?_) sc_Lsum.nd)))
  refine gx_seq (g1_for hpo rfl (bi hF fun v7 hv7 hF => bi hF fun l8 hl8 hF => ix_seqU (M2 := M) ((have hF := hv7; ex_bin (ex_lst (ax_cons (ex_bin (ex_bin (ex_var 0 rfl (ex_int (bi hF fun v1 hv1 hF => od_dAdd .id .id hv1 (ex_var 1 rfl (bi hF fun v2 hv2 hF => od_dSub .id .id hv2 (ax_nil (⟨le_b rfl, ex_lstRF rfl T.b_list T.b_range (ax_cons (ex_int (ax_cons (ex_bin (ex_bin (ex_var 0 rfl (ex_int (bi hF fun v3 hv3 hF => od_dAdd .id .id hv3 (ex_var 1 rfl (bi hF fun v4 hv4 hF => od_dSub .id .id hv4 (ax_nil (bi hF fun l5 hl5 hF => ⟨l5, hl5, (by intro i j c e; first | (cases e; rfl) | (cases e; done)), bi hF fun v6 hv6 hF => od_dAdd .id .id hv6 (⟨so hF, rfl⟩)⟩))))))))))))⟩))))))))))))) hl8 (bi hF fun r10 hlr10 hF => forF hlr10 (fun s9 ρ' M' => ∃ j0 : Option D, ∃ j1 : Option D, ρ' = [some x0, some x1, some s9, j0, j1] ∧ M' = M) ⟨_, _, rfl, rfl⟩ ?_ ?_)))
  · rintro x11 s9 _ hF _ M ⟨_, _, rfl, rfl⟩
    try dsimp only at hF
    refine as_name 3 (?_) sc_Lsum.nd
    refine gx_seq (g1_asg (ex_int (as_name 4 (?_) sc_Lsum.nd)))
    refine gx_seq (bi hF fun r15 hlr15 hF => whF hpo hlr15 (fun s14 ρ' M' => ∃ s14_0 : D, ∃ s14_1 : D, s14 = (s14_0, s14_1) ∧ ρ' = [some x0, some x1, some s14_1, some x11, some s14_0] ∧ M' = M) ⟨_, _, rfl, rfl, rfl⟩ ?_ ?_ ?_)
    · rintro s14 _ _ M hF ⟨s14_0, s14_1, rfl, rfl, rfl⟩
      try dsimp only at hF
      exact (have hF := hF; tx_cmp (ex_var 4 rfl (ex_var 3 rfl (bi hF fun t16 ht16 hF => od_cLt .id .id ht16 (⟨_, rfl, ⟨so hF, rfl⟩⟩)))))
    · rintro s14 _ _ M hF ⟨s14_0, s14_1, rfl, rfl, rfl⟩
      try dsimp only at hF
      refine gx_seq (g1_asg (ex_bin (ex_int (ex_var 4 rfl (bi hF fun v17 hv17 hF => od_dMul .id .id hv17 (as_name 4 (?_) sc_Lsum.nd))))))
      refine gx_seq (g1_asg (ex_bin (ex_var 2 rfl (ex_int (bi hF fun v18 hv18 hF => od_dAdd .id .id hv18 (as_name 2 (?_) sc_Lsum.nd))))))
      exact gx_nil ⟨_, _, (so hF).symm, rfl, rfl⟩
    · rintro _ M ⟨r15_0, r15_1, rfl, rfl, rfl⟩
      try dsimp only at hF
      show GX _ _ _ _ _ _
      cases hF
      exact gx_nil ⟨_, _, rfl, rfl⟩
  · rintro _ M ⟨_, _, rfl, rfl⟩
    try dsimp only at hF
    show GX _ _ _ _ _ _
    exact gx_seq (g1_ret (ex_less (ex_var 2 rfl (⟨_, sub_refl, ret0 (so hF) hk⟩))))
theorem fx_Lsum_2 {pg : Program} {w : World} {K : PySem.W.Frag} {mg : Str → Option Value} {base : Heap} (T : Txt K mg base) : FnX pg w K mg base false 3 (He.fAd K ("_law_sum", none)) ([] : List PySem.Str) (fun ds zs M P R => ds.length = 2 ∧ zs.length = ([] : List PySem.Str).length ∧ tr_Lsum K (pick (ds ++ ([] ++ zs)) [0, 1]) M P R) :=
  fn_kwX T.d_Lsum.choose_spec sc_Lsum (ok_Lsum T) 2 ([] : List PySem.Str) [] [] [0, 1] (by simp) (fun _ => .nil) (fun kV D doc pm an cdv ct us mv ws e h1 h2 h3 => match us, mv, ws, h1, h2, h3 with | [_, _], [], [], _, _, _ => rfl) (fun us mv ws h1 h2 h3 => match us, mv, ws, h1, h2, h3 with | [_, _], [], [], _, _, _ => rfl)
def tr_Lall (K : PySem.W.Frag) : TrB := fun ds M P R => ∃ x0 : D, ∃ x1 : D, ∃ r : D, ds = [x0, x1] ∧ F_Lall x0 x1 = some r ∧ P r M
set_option maxHeartbeats 0 in
theorem ok_Lall {pg : Program} {w : World} {K : PySem.W.Frag} {mg : Str → Option Value} {base : Heap} (T : Txt K mg base) : BodyX pg w K mg base false 2 (He.fAd K ("_law_all", none)) "_law_all" (defBody s_Lall) (defScope s_Lall) ["_law_bits", "_law_low", "_law_found", "_law_level", "_law_longer", "_law_entries", "_law_left", "_law_position"] ["_law_bits", "_law_low"] (tr_Lall K) := fun cdv hcv A outer s H F0 E ds M P R hgd0 hr t hL hpo kx => by
  obtain ⟨x0, x1, r, rfl, hF, hk⟩ := t
  unfold F_Lall at hF
  refine gx_seq (g1_par 2 3 rfl (by decide) (ax_cons (ex_lst (ax_nil (⟨le_b rfl, ax_cons (ex_lc (own := [("_law_position", 7)]) (hN := sc_Lall.nd) rfl (bi hF fun v2 hv2 hF => bi hF fun l3 hl3 hF => ix_range2U (M2 := M) T.b_range ((have hF := hv2; ax_cons (ex_var 1 rfl (ax_cons (ex_bin (ex_var 0 rfl (ex_int (bi hF fun v1 hv1 hF => od_dAdd .id .id hv1 (ax_nil ((by cases hF; exact ⟨rfl, rfl⟩))))))))))) hl3 (bi hF fun _ hz8 hF => bi hF fun y6 hy6 hF => lcF hy6 (chk_inv hz8).1 (fun x5 _ acc d7 hF hd7 => have fb_d7 := hd7; asb_name 7 (fun _ _ _ _ _ => ex_tup (ax_cons (ex_var 7 rfl (ax_nil (⟨le_b rfl, ⟨so hF, rfl⟩⟩))))) (hN := sc_Lall.nd)) (ax_nil (⟨_, _, rfl, ?_⟩)))))⟩)))) sc_Lall.nd)
  refine gx_seq (bi hF fun r11 hlr11 hF => whF hpo hlr11 (fun s10 ρ' M' => ∃ s10_0 : D, ∃ s10_1 : D, ∃ j0 : Option D, ∃ j1 : Option D, ∃ j2 : Option D, ∃ j3 : Option D, s10 = (s10_0, s10_1) ∧ ρ' = [some x0, some x1, some s10_0, some s10_1, j0, j1, j2, j3] ∧ M' = M) ⟨_, _, _, _, _, _, rfl, rfl, rfl⟩ ?_ ?_ ?_)
  · rintro s10 _ _ M hF ⟨s10_0, s10_1, _, _, _, _, rfl, rfl, rfl⟩
    try dsimp only at hF
    exact (have hF := hF; tx_cmp (ex_var 3 rfl (ex_lst (ax_nil (⟨le_b rfl, bi hF fun t12 ht12 hF => od_cNe hr.units .id .id ht12 (⟨_, rfl, ⟨so hF, rfl⟩⟩)⟩)))))
  · rintro s10 _ _ M hF ⟨s10_0, s10_1, _, _, _, _, rfl, rfl, rfl⟩
    try dsimp only at hF
    refine gx_seq (g1_asg (ex_bin (ex_var 2 rfl (ex_var 3 rfl (bi hF fun v13 hv13 hF => od_dAdd .id .id hv13 (as_name 2 (?_) sc_Lall.nd))))))
    refine gx_seq (g1_asg (ex_lst (ax_nil (⟨le_b rfl, as_name 4 (?_) sc_Lall.nd⟩))))
    refine gx_seq (g1_for hpo rfl (bi hF fun l14 hl14 hF => ix_seqU (M2 := M) (ex_var 3 rfl (⟨rfl, rfl⟩)) hl14 (bi hF fun r16 hlr16 hF => forF hlr16 (fun s15 ρ' M' => ∃ j0 : Option D, ∃ j1 : Option D, ∃ j2 : Option D, ρ' = [some x0, some x1, some v13, some s10_1, some s15, j0, j1, j2] ∧ M' = M) ⟨_, _, _, rfl, rfl⟩ ?_ ?_)))
    · rintro x17 s15 _ hF _ M ⟨_, _, _, rfl, rfl⟩
      try dsimp only at hF
      refine as_name 5 (?_) sc_Lall.nd
      refine gx_seq (g1_lc (own := [("_law_position", 7)]) (hN := sc_Lall.nd) 6 rfl (bi hF fun v21 hv21 hF => bi hF fun l22 hl22 hF => ix_range2U (M2 := M) T.b_range ((have hF := hv21; ax_cons (ex_var 1 rfl (ax_cons (ex_bin (ex_var 0 rfl (ex_int (bi hF fun v20 hv20 hF => od_dAdd .id .id hv20 (ax_nil ((by cases hF; exact ⟨rfl, rfl⟩))))))))))) hl22 (bi hF fun _ hz27 hF => bi hF fun y25 hy25 hF => filtF hy25 (chk_inv hz27).1 (fun x24 _ acc d26 hF hd26 => have fb_d26 := hd26; asb_name 7 (txb_one fun _ _ _ _ _ => tx_cmp (ex_var 7 rfl (ex_var 5 rfl (bi hF fun t29 ht29 hF => od_cNin .id .id ht29 (⟨_, rfl, ⟨fun q30 => have hF := iT q30 hF; fun _ _ _ _ _ => ex_var 7 rfl (⟨(so hF).symm, rfl⟩), fun q30 => ⟨(so (iF q30 hF)).symm, rfl⟩⟩⟩))))) (hN := sc_Lall.nd)) (?_))))
      refine gx_seq (g1_asg (ex_bin (ex_var 4 rfl (ex_lc (own := [("_law_position", 7)]) (hN := sc_Lall.nd) rfl (bi hF fun l31 hl31 hF => ix_seqU (M2 := M) (ex_var 6 rfl (⟨rfl, rfl⟩)) hl31 (bi hF fun _ hz36 hF => bi hF fun y34 hy34 hF => filtF hy34 (chk_inv hz36).1 (fun x33 _ acc d35 hF hd35 => have fb_d35 := hd35; asb_name 7 (txb_one fun _ _ _ _ _ => tx_cmp (ex_ix (ex_var 5 rfl (ex_dNeg (ex_int ⟨_, _, .id, rfl, bi hF fun v38 hv38 hF => id_dIx .id .id hv38 (ex_int (bi hF fun t39 ht39 hF => od_cNe hr.units .id .id ht39 (⟨_, rfl, ⟨fun q41 => have hF := iT q41 hF; fun _ _ _ _ _ => ex_bin (ex_var 5 rfl (ex_tup (ax_cons (ex_var 7 rfl (ax_nil (⟨le_b rfl, bi hF fun v40 hv40 hF => od_dAdd .id .id hv40 (⟨(so hF).symm, rfl⟩)⟩)))))), fun q41 => ⟨(so (iF q41 hF)).symm, rfl⟩⟩⟩)))⟩))))) (hN := sc_Lall.nd)) (bi hF fun v42 hv42 hF => od_dAdd .id .id hv42 (as_name 4 (?_) sc_Lall.nd))))))))
      cases hF
      exact gx_nil ⟨_, _, _, rfl, rfl⟩
    · rintro _ M ⟨_, _, _, rfl, rfl⟩
      try dsimp only at hF
      show GX _ _ _ _ _ _
      refine gx_seq (g1_asg (ex_var 4 rfl (as_name 3 (?_) sc_Lall.nd)))
      exact gx_nil ⟨_, _, _, _, _, _, (so hF).symm, rfl, rfl⟩
  · rintro _ M ⟨r11_0, r11_1, _, _, _, _, rfl, rfl, rfl⟩
    try dsimp only at hF
    show GX _ _ _ _ _ _
    exact gx_seq (g1_ret (ex_less (ex_var 2 rfl (⟨_, sub_refl, ret0 (so hF) hk⟩))))
theorem fx_Lall_2 {pg : Program} {w : World} {K : PySem.W.Frag} {mg : Str → Option Value} {base : Heap} (T : Txt K mg base) : FnX pg w K mg base false 3 (He.fAd K ("_law_all", none)) ([] : List PySem.Str) (fun ds zs M P R => ds.length = 2 ∧ zs.length = ([] : List PySem.Str).length ∧ tr_Lall K (pick (ds ++ ([] ++ zs)) [0, 1]) M P R) :=
  fn_kwX T.d_Lall.choose_spec sc_Lall (ok_Lall T) 2 ([] : List PySem.Str) [] [] [0, 1] (by simp) (fun _ => .nil) (fun kV D doc pm an cdv ct us mv ws e h1 h2 h3 => match us, mv, ws, h1, h2, h3 with | [_, _], [], [], _, _, _ => rfl) (fun us mv ws h1 h2 h3 => match us, mv, ws, h1, h2, h3 with | [_, _], [], [], _, _, _ => rfl)
def tr_Lsmall_right (K : PySem.W.Frag) : TrB := fun ds M P R => ∃ x0 : D, ∃ x1 : D, ∃ r : D, ds = [x0, x1] ∧ TbM K tl M ∧ InsIn [Zk K "Finder"] M ∧ F_Lsmall_right (Zk K) x0 x1 = some r ∧ P r M
set_option maxHeartbeats 0 in
theorem ok_Lsmall_right {pg : Program} {w : World} {K : PySem.W.Frag} {mg : Str → Option Value} {base : Heap} (T : Txt K mg base) : BodyX pg w K mg base false 16 (He.fAd K ("_law_small_right", none)) "_law_small_right" (defBody s_Lsmall_right) (defScope s_Lsmall_right) ["_law_bits", "_law_low", "_law_rows", "_law_entries", "_law_row"] ["_law_bits", "_law_low"] (tr_Lsmall_right K) := fun cdv hcv A outer s H F0 E ds M P R hgd0 hr t hL hpo kx => by
  obtain ⟨x0, x1, r, rfl, hTM, hNI, hF, hk⟩ := t
  unfold F_Lsmall_right at hF
  refine gx_seq (g1_lc (own := [("_law_entries", 3)]) (hN := sc_Lsmall_right.nd) 2 rfl (bi hF fun v2 hv2 hF => bi hF fun l3 hl3 hF => ix_seqU (M2 := M) ((have hF := hv2; ex_callX (fx_Lall_2 T) Lets.no (fun h => nomatch h) (hr.mono (by decide)) T.m_Lall T.d_Lall.choose_spec.kp (ev_a (ax_cons (ex_var 0 rfl (ax_cons (ex_var 1 rfl (ax_nil (kx_nil (bi hF fun v1 hv1 hF => ⟨rfl, ⟨rfl, rfl, ⟨_, _, v1, rfl, hv1, ⟨so hF, rfl⟩⟩⟩⟩)))))))))) hl3 (bi hF fun _ hz8 hF => bi hF fun y6 hy6 hF => lcF hy6 (chk_inv hz8).1 (fun x5 _ acc d7 hF hd7 => have fb_d7 := hd7; asb_name 3 (fun _ _ _ _ _ => ex_callX (fx_Ltrials_3 T) Lets.no (fun h => nomatch h) (hr.mono (by decide)) T.m_Ltrials T.d_Ltrials.choose_spec.kp (ev_a (ax_cons (ex_var 0 rfl (ax_cons (ex_var 1 rfl (ax_cons (ex_var 3 rfl (ax_nil (kx_nil (bi hF fun v10 hv10 hF => ⟨rfl, ⟨rfl, rfl, ⟨_, _, _, v10, rfl, (tbm_up hTM fb_d7), (insIn_up hNI), hv10, ⟨so hF, rfl⟩⟩⟩⟩))))))))))) (hN := sc_Lsmall_right.nd)) (?_))))
  refine gx_seq (g1_if (tx_cmp (ex_non (ex_var 2 rfl (bi hF fun t12 ht12 hF => od_cInG (un65 hr) .id .id ht12 (⟨_, rfl, ⟨fun q11 => ?_, fun q11 => ?_⟩⟩))))))
  · have hF := iT q11 hF
    exact gx_seq (g1_ret (ex_less (ex_bl (⟨_, sub_refl, ret0 (so hF) hk⟩))))
  · have hF := iF q11 hF
    refine gx_nil ?_
    show GX _ _ _ _ _ _
    exact gx_seq (g1_ret (ex_less (ex_cmp (ex_blt T.b_max bb_max (ax_cons (ex_lc (own := [("_law_row", 4)]) (hN := sc_Lsmall_right.nd) rfl (bi hF fun l13 hl13 hF => ix_seqU (M2 := M) (ex_var 2 rfl (⟨rfl, rfl⟩)) hl13 (bi hF fun _ hz18 hF => bi hF fun y16 hy16 hF => lcF hy16 (chk_inv hz18).1 (fun x15 _ acc d17 hF hd17 => have fb_d17 := hd17; asb_name 4 (fun _ _ _ _ _ => ex_blt T.b_len bb_len (ax_cons (ex_var 4 rfl (ax_nil (bi hF fun v20 hv20 hF => cd_dLen .id hv20 (⟨so hF, rfl⟩)))))) (hN := sc_Lsmall_right.nd)) (ax_nil (bi hF fun v21 hv21 hF => cd_dMax rfl .id hv21 (ex_callX (fx_most_trials_1_ring T) Lets.no (fun h => nomatch h) (hr.mono (by decide)) T.m_most_trials T.d_most_trials.choose_spec.kp (ev_a (ax_cons (ex_var 0 rfl (ax_nil (kx_cons (ex_cmp (ex_var 1 rfl (ex_int (bi hF fun t22 ht22 hF => od_cEq hr.units .id .id ht22 (kx_nil (bi hF fun v23 hv23 hF => ⟨rfl, ⟨rfl, rfl, ⟨_, _, v23, rfl, hv23, bi hF fun t24 ht24 hF => od_cEq hr.units .id .id ht24 (⟨_, sub_refl, ret0 (so hF) hk⟩)⟩⟩⟩))))))))))))))))))))))
theorem fx_Lsmall_right_2 {pg : Program} {w : World} {K : PySem.W.Frag} {mg : Str → Option Value} {base : Heap} (T : Txt K mg base) : FnX pg w K mg base false 17 (He.fAd K ("_law_small_right", none)) ([] : List PySem.Str) (fun ds zs M P R => ds.length = 2 ∧ zs.length = ([] : List PySem.Str).length ∧ tr_Lsmall_right K (pick (ds ++ ([] ++ zs)) [0, 1]) M P R) :=
  fn_kwX T.d_Lsmall_right.choose_spec sc_Lsmall_right (ok_Lsmall_right T) 2 ([] : List PySem.Str) [] [] [0, 1] (by simp) (fun _ => .nil) (fun kV D doc pm an cdv ct us mv ws e h1 h2 h3 => match us, mv, ws, h1, h2, h3 with | [_, _], [], [], _, _, _ => rfl) (fun us mv ws h1 h2 h3 => match us, mv, ws, h1, h2, h3 with | [_, _], [], [], _, _, _ => rfl)
def tr_law (K : PySem.W.Frag) : TrB := fun ds M P R => ∃ ns, ds = [.scr ns] ∧ TbM K tl M ∧ Bare M ∧ F_law (Zk K) (.scr ns) = some (.bl true) ∧ ∀ M', P (.bl true) M'
set_option maxHeartbeats 0 in
theorem ok_law {pg : Program} {w : World} {K : PySem.W.Frag} {mg : Str → Option Value} {base : Heap} (T : Txt K mg base) : BodyX pg w K mg base true 18 (He.fAd K ("law", none)) "law" (defBody s_law) (defScope s_law) ["_law_script", "_law_tap_here", "_law_turn", "_law_low", "_law_bits", "_law_most", "_law_hidden_here", "_law_seen"] ["_law_script"] (tr_law K) := fun cdv hcv A outer s H F0 E ds M P R hgd0 hr t hL hpo kx => by
  have hgd := hgd0 rfl
  obtain ⟨ns, rfl, hTM, hB, hF, hk0⟩ := t
  have hNI : InsIn [Zk K "Finder"] M := insIn_no (bare_no hB)
  obtain ⟨x0, ex0⟩ : ∃ x0, x0 = D.scr ns := ⟨_, rfl⟩
  obtain ⟨r, er⟩ : ∃ r, r = D.bl true := ⟨_, rfl⟩
  rw [← ex0, ← er] at hF
  rw [← ex0]
  have hk : P r M := by rw [er]; exact hk0 M
  clear hk0
  unfold F_law at hF
  refine gx_seq (g1_asg (ex_callX (fx_Ltap_1 T) Lets.no (fun h => nomatch h) (hr.mono (by decide)) T.m_Ltap T.d_Ltap.choose_spec.kp (ev_a (ax_cons (ex_var 0 rfl (ax_nil (kx_nil (bi hF fun v1 hv1 hF => ⟨rfl, ⟨rfl, rfl, ⟨_, v1, rfl, hv1, fun a2 ha2 => have fb_a2 := ha2; as_name 1 (?_) sc_law.nd⟩⟩⟩))))))))
  refine gx_seq (g1_for hpo rfl (bi hF fun l3 hl3 hF => ix_range1U (M2 := (up M a2 (.lst v1))) T.b_range (ax_cons (ex_int (ax_nil (⟨rfl, rfl⟩)))) hl3 (bi hF fun c7 hlc7 hOc7 => forC hlc7 (fun s4 ρ' M' => ∃ j0 : Option D, ∃ j1 : Option D, ∃ j2 : Option D, ∃ j3 : Option D, ∃ j4 : Option D, ∃ j5 : Option D, ρ' = [some x0, some (.adr a2), j0, j1, j2, j3, j4, j5] ∧ M' = (up M a2 (.lst s4))) ⟨_, _, _, _, _, _, rfl, rfl⟩ ?_ ?_)))
  · rintro x6 s4 b8 hF hbb8 _ _ ⟨_, _, _, _, _, _, rfl, rfl⟩
    try dsimp only at hF
    refine as_name 2 (?_) sc_law.nd
    refine gx_seq (g1_asg (ex_callX (fx_Lnext_2 T) Lets.no (fun h => nomatch h) (hr.mono (by decide)) T.m_Lnext T.d_Lnext.choose_spec.kp (ev_a (ax_cons (ex_var 1 rfl (ax_cons (ex_int (ax_nil (kx_nil (bi hF fun v9 hv9 hF => ⟨rfl, ⟨rfl, rfl, ⟨a2, s4, _, v9, (fun w0 => (up M a2 w0)), rfl, rfl, fun _ => at0, hv9, as_name 3 (?_) sc_law.nd⟩⟩⟩))))))))))
    refine gx_seq (g1_asg (ex_ix (ex_lst (ax_cons (ex_bin (ex_int (ex_var 3 rfl (bi hF fun v10 hv10 hF => od_dAdd .id .id hv10 (ax_cons (ex_int (ax_cons (ex_int (ax_cons (ex_int (ax_cons (ex_bin (ex_bin (ex_int (ex_var 3 rfl (bi hF fun v11 hv11 hF => od_dAdd .id .id hv11 (ex_callX (fx_Lnext_2 T) Lets.no (fun h => nomatch h) (hr.mono (by decide)) T.m_Lnext T.d_Lnext.choose_spec.kp (ev_a (ax_cons (ex_var 1 rfl (ax_cons (ex_bin (ex_int (ex_var 3 rfl (bi hF fun v12 hv12 hF => od_dSub .id .id hv12 (ax_nil (kx_nil (bi hF fun v13 hv13 hF => ⟨rfl, ⟨rfl, rfl, ⟨a2, v9.2, _, v13, (fun w0 => (up M a2 w0)), rfl, rfl, fun _ => at0, hv13, bi hF fun v14 hv14 hF => od_dAdd .id .id hv14 (ax_nil (⟨le_b rfl, ex_callX (fx_Lnext_2 T) Lets.no (fun h => nomatch h) (hr.mono (by decide)) T.m_Lnext T.d_Lnext.choose_spec.kp (ev_a (ax_cons (ex_var 1 rfl (ax_cons (ex_int (ax_nil (kx_nil (bi hF fun v15 hv15 hF => ⟨rfl, ⟨rfl, rfl, ⟨a2, v13.2, _, v15, (fun w0 => (up M a2 w0)), rfl, rfl, fun _ => at0, hv15, bi hF fun v16 hv16 hF => id_dIx .id .id hv16 (as_name 4 (?_) sc_law.nd)⟩⟩⟩))))))))⟩))⟩⟩⟩))))))))))))))))))))))))))))))))
    refine gx_seq (g1_asg (ex_callX (fx_most_trials_1_ring T) Lets.no (fun h => nomatch h) (hr.mono (by decide)) T.m_most_trials T.d_most_trials.choose_spec.kp (ev_a (ax_cons (ex_var 4 rfl (ax_nil (kx_cons (ex_cmp (ex_var 3 rfl (ex_int (bi hF fun t17 ht17 hF => od_cEq hr.units .id .id ht17 (kx_nil (bi hF fun v18 hv18 hF => ⟨rfl, ⟨rfl, rfl, ⟨_, _, v18, rfl, hv18, as_name 5 (?_) sc_law.nd⟩⟩⟩)))))))))))))
    refine gx_seq (g1_if (bi hF fun t30 ht30 hF => tx_fix t30 (up M a2 (.lst v15.2)) (have hF := ht30; tx_pw (wx_or (tx_cmp (ex_blt T.b_repr bb_repr (ax_cons (ex_var 5 rfl (ax_nil (bi hF fun v21 hv21 hF => cd_dReprR T.sys hgd hr.units hv21 (ex_blt T.b_repr bb_repr (ax_cons (ex_callX (fx_Lsum_2 T) Lets.no (fun h => nomatch h) (hr.mono (by decide)) T.m_Lsum T.d_Lsum.choose_spec.kp (ev_a (ax_cons (ex_var 4 rfl (ax_cons (ex_var 3 rfl (ax_nil (kx_nil (bi hF fun v22 hv22 hF => ⟨rfl, ⟨rfl, rfl, ⟨_, _, v22, rfl, hv22, ax_nil (bi hF fun v23 hv23 hF => cd_dReprR T.sys hgd hr.units hv23 (bi hF fun t24 ht24 hF => od_cNe hr.units .id .id ht24 (⟨_, rfl, ⟨fun q20 => have hF := iF q20 hF; wx_or1 (tx_cmp (ex_blt T.b_repr bb_repr (ax_cons (ex_callX (fx_most_trials_0_ring_n T) Lets.no (fun h => nomatch h) (hr.mono (by decide)) T.m_most_trials T.d_most_trials.choose_spec.kp (ev_0 (kx_cons (ex_cmp (ex_var 3 rfl (ex_int (bi hF fun t25 ht25 hF => od_cEq hr.units .id .id ht25 (kx_cons (ex_var 4 rfl (kx_nil (bi hF fun v26 hv26 hF => ⟨rfl, ⟨rfl, rfl, ⟨_, _, v26, rfl, hv26, ax_nil (bi hF fun v27 hv27 hF => cd_dReprR T.sys hgd hr.units hv27 (ex_blt T.b_repr bb_repr (ax_cons (ex_var 5 rfl (ax_nil (bi hF fun v28 hv28 hF => cd_dReprR T.sys hgd hr.units hv28 (bi hF fun t29 ht29 hF => od_cNe hr.units .id .id ht29 (⟨_, rfl, ⟨so hF, rfl⟩⟩))))))))⟩⟩⟩)))))))))))))), fun q20 => ⟨so (iT q20 hF), rfl⟩⟩⟩)))⟩⟩⟩))))))))))))))))))) (⟨fun q19 => ?_, fun q19 => ?_⟩)))
    · have hF := iT q19 hF
      exact gx_seq (g1_ret (ex_less (ex_bl (⟨_, (sub_drop sub_refl fb_a2), ret0 (so (ctl_retS hOc7 (hbb8 _ (so hF).symm))) hk⟩))))
    · have hF := iF q19 hF
      refine gx_nil ?_
      show GX _ _ _ _ _ _
      refine gx_seq (g1_if (tx_cmp (ex_blt T.b_len bb_len (ax_cons (bi hF fun v37 hv37 hF => ex_fix v37 (up M a2 (.lst v15.2)) (have hF := hv37; ex_orT (ex_callX (fx_Ltrials_3 T) Lets.no (fun h => nomatch h) (hr.mono (by decide)) T.m_Ltrials T.d_Ltrials.choose_spec.kp (ev_a (ax_cons (ex_var 4 rfl (ax_cons (ex_var 3 rfl (ax_cons (ex_tupRF rfl T.b_tuple T.b_range (ax_cons (ex_var 4 rfl (ax_cons (ex_bin (ex_var 3 rfl (ex_int (bi hF fun v33 hv33 hF => od_dSub .id .id hv33 (ax_cons (ex_dNeg (ex_int ⟨_, _, .id, rfl, ax_nil (bi hF fun l34 hl34 hF => ⟨l34, hl34, (by intro i j c e; first | (cases e; rfl) | (cases e; done)), ax_nil (kx_nil (bi hF fun v35 hv35 hF => ⟨rfl, ⟨rfl, rfl, ⟨_, _, _, v35, rfl, (tbm_up hTM fb_a2), (insIn_up hNI), hv35, bi hF fun t36 ht36 hF => ⟨_, _, .id, ht36, fun q32 => have hF := iF q32 hF; ex_one (ex_lst (ax_nil (⟨le_b rfl, ⟨so hF, rfl⟩⟩))), fun q32 => ⟨so (iT q32 hF), rfl⟩⟩⟩⟩⟩))⟩)⟩))))))))))))))))))) (ax_nil (bi hF fun v38 hv38 hF => cd_dLen .id hv38 (ex_var 5 rfl (bi hF fun t39 ht39 hF => od_cNe hr.units .id .id ht39 (⟨_, rfl, ⟨fun q31 => ?_, fun q31 => ?_⟩⟩))))))))))
      · have hF := iT q31 hF
        exact gx_seq (g1_ret (ex_less (ex_bl (⟨_, (sub_drop sub_refl fb_a2), ret0 (so (ctl_retS hOc7 (hbb8 _ (so hF).symm))) hk⟩))))
      · have hF := iF q31 hF
        refine gx_nil ?_
        show GX _ _ _ _ _ _
        refine gx_seq (g1_asg (ex_callX (fx_Lhidden_3 T) Lets.no (fun h => nomatch h) (hr.mono (by decide)) T.m_Lhidden T.d_Lhidden.choose_spec.kp (ev_a (ax_cons (ex_var 1 rfl (ax_cons (ex_var 4 rfl (ax_cons (ex_var 3 rfl (ax_nil (kx_nil (bi hF fun v40 hv40 hF => ⟨rfl, ⟨rfl, rfl, ⟨a2, v15.2, _, _, v40, (fun w0 => (up M a2 w0)), rfl, rfl, fun _ => at0, hv40, as_name 6 (?_) sc_law.nd⟩⟩⟩))))))))))))
        refine gx_seq (g1_asg (ex_callX (fx_Ltrials_3 T) Lets.no (fun h => nomatch h) (hr.mono (by decide)) T.m_Ltrials T.d_Ltrials.choose_spec.kp (ev_a (ax_cons (ex_var 4 rfl (ax_cons (ex_var 3 rfl (ax_cons (ex_var 6 rfl (ax_nil (kx_nil (bi hF fun v41 hv41 hF => ⟨rfl, ⟨rfl, rfl, ⟨_, _, _, v41, rfl, (tbm_up hTM fb_a2), (insIn_up hNI), hv41, as_name 7 (?_) sc_law.nd⟩⟩⟩))))))))))))
        refine gx_seq (g1_if (bi hF fun t47 ht47 hF => tx_fix t47 (up M a2 (.lst v40.2)) (have hF := ht47; tx_pw (wx_or (tx_cmp (ex_var 7 rfl (ex_non (bi hF fun t44 ht44 hF => od_cIs .id .id ht44 (⟨_, rfl, ⟨fun q43 => have hF := iF q43 hF; wx_or1 (tx_cmp (ex_blt T.b_len bb_len (ax_cons (ex_var 7 rfl (ax_nil (bi hF fun v45 hv45 hF => cd_dLen .id hv45 (ex_var 5 rfl (bi hF fun t46 ht46 hF => od_cGt .id .id ht46 (⟨_, rfl, ⟨so hF, rfl⟩⟩))))))))), fun q43 => ⟨so (iT q43 hF), rfl⟩⟩⟩))))))) (⟨fun q42 => ?_, fun q42 => ?_⟩)))
        · have hF := iT q42 hF
          exact gx_seq (g1_ret (ex_less (ex_bl (⟨_, (sub_drop sub_refl fb_a2), ret0 (so (ctl_retS hOc7 (hbb8 _ (so hF).symm))) hk⟩))))
        · have hF := iF q42 hF
          refine gx_nil ?_
          show GX _ _ _ _ _ _
          exact gx_nil ⟨_, (so hF).symm, ⟨_, _, _, _, _, _, rfl, rfl⟩⟩
  · rintro r5 hg _ _ ⟨_, _, _, _, _, _, rfl, rfl⟩
    have hF := ctl_go hOc7 hg
    try dsimp only at hF
    show GX _ _ _ _ _ _
    refine gx_seq (g1_asg (ex_callX (fx_Lnext_2 T) Lets.no (fun h => nomatch h) (hr.mono (by decide)) T.m_Lnext T.d_Lnext.choose_spec.kp (ev_a (ax_cons (ex_var 1 rfl (ax_cons (ex_int (ax_nil (kx_nil (bi hF fun v48 hv48 hF => ⟨rfl, ⟨rfl, rfl, ⟨a2, r5, _, v48, (fun w0 => (up M a2 w0)), rfl, rfl, fun _ => at0, hv48, as_name 3 (?_) sc_law.nd⟩⟩⟩))))))))))
    refine gx_seq (g1_asg (ex_bin (ex_bin (ex_int (ex_var 3 rfl (bi hF fun v49 hv49 hF => od_dAdd .id .id hv49 (ex_callX (fx_Lnext_2 T) Lets.no (fun h => nomatch h) (hr.mono (by decide)) T.m_Lnext T.d_Lnext.choose_spec.kp (ev_a (ax_cons (ex_var 1 rfl (ax_cons (ex_bin (ex_int (ex_var 3 rfl (bi hF fun v50 hv50 hF => od_dSub .id .id hv50 (ax_nil (kx_nil (bi hF fun v51 hv51 hF => ⟨rfl, ⟨rfl, rfl, ⟨a2, v48.2, _, v51, (fun w0 => (up M a2 w0)), rfl, rfl, fun _ => at0, hv51, bi hF fun v52 hv52 hF => od_dAdd .id .id hv52 (as_name 4 (?_) sc_law.nd)⟩⟩⟩))))))))))))))))))
    exact gx_seq (g1_ret (ex_less (bi hF fun v62 hv62 hF => ex_fix v62 (up M a2 (.lst v51.2)) (have hF := hv62; ex_andT (ex_callX (fx_Lsmall_right_2 T) Lets.no (fun h => nomatch h) (hr.mono (by decide)) T.m_Lsmall_right T.d_Lsmall_right.choose_spec.kp (ev_a (ax_cons (ex_var 4 rfl (ax_cons (ex_var 3 rfl (ax_nil (kx_nil (bi hF fun v54 hv54 hF => ⟨rfl, ⟨rfl, rfl, ⟨_, _, v54, rfl, (tbm_up hTM fb_a2), (insIn_up hNI), hv54, bi hF fun t55 ht55 hF => ⟨_, _, .id, ht55, fun q53 => have hF := iT q53 hF; ex_andT (ex_cmp (ex_callX (fx_most_trials_1 T) Lets.no (fun h => nomatch h) (hr.mono (by decide)) T.m_most_trials T.d_most_trials.choose_spec.kp (ev_a (ax_cons (ex_int (ax_nil (kx_nil (bi hF fun v57 hv57 hF => ⟨rfl, ⟨rfl, rfl, ⟨_, _, v57, rfl, hv57, ex_int (bi hF fun t58 ht58 hF => od_cEq hr.units .id .id ht58 (bi hF fun t59 ht59 hF => ⟨_, _, .id, ht59, fun q56 => have hF := iT q56 hF; ex_one (ex_cmp (ex_callX (fx_most_trials_1 T) Lets.no (fun h => nomatch h) (hr.mono (by decide)) T.m_most_trials T.d_most_trials.choose_spec.kp (ev_a (ax_cons (ex_int (ax_nil (kx_nil (bi hF fun v60 hv60 hF => ⟨rfl, ⟨rfl, rfl, ⟨_, _, v60, rfl, hv60, ex_int (bi hF fun t61 ht61 hF => od_cEq hr.units .id .id ht61 (⟨so hF, rfl⟩))⟩⟩⟩)))))))), fun q56 => ⟨so (iF q56 hF), rfl⟩⟩))⟩⟩⟩)))))))), fun q53 => ⟨so (iF q53 hF), rfl⟩⟩⟩⟩⟩)))))))))) (⟨_, (sub_drop sub_refl fb_a2), ret0 (so hF) hk⟩))))
theorem fx_law_1 {pg : Program} {w : World} {K : PySem.W.Frag} {mg : Str → Option Value} {base : Heap} (T : Txt K mg base) : FnX pg w K mg base true 19 (He.fAd K ("law", none)) ([] : List PySem.Str) (fun ds zs M P R => ds.length = 1 ∧ zs.length = ([] : List PySem.Str).length ∧ tr_law K (pick (ds ++ ([] ++ zs)) [0]) M P R) :=
  fn_kwX T.d_law.choose_spec sc_law (ok_law T) 1 ([] : List PySem.Str) [] [] [0] (by simp) (fun _ => .nil) (fun kV D doc pm an cdv ct us mv ws e h1 h2 h3 => match us, mv, ws, h1, h2, h3 with | [_], [], [], _, _, _ => rfl) (fun us mv ws h1 h2 h3 => match us, mv, ws, h1, h2, h3 with | [_], [], [], _, _, _ => rfl)
theorem law_start {K : PySem.W.Frag} {H : Hp} {a : Addr} {ns : List Int} (hz : Hz (Zk K)) (hl : ns.length ≤ 63) (h1 : tbOne K tl = true) (hS : SqL K H a (ns.map V.int)) (hT : ∀ x ∈ tl, H (ctA K x.1).2 = some (.tbl #[])) : ∃ F M ds, Ok K F M H ∧ Rps K F [.ref a] ds ∧ ∃ ns, ds = [.scr ns] ∧ TbM K tl M ∧ Bare M ∧ F_law (Zk K) (.scr ns) = some (.bl true) ∧ ∀ M', (fun (d : D) (_ : Mem) => d = .bl true) (.bl true) M' :=
  DX.law_startTB (T := fun ds zs M P R => ∃ ns, ds = [.scr ns] ∧ TbM K tl M ∧ Bare M ∧ F_law (Zk K) (.scr ns) = some (.bl true) ∧ ∀ M', P (.bl true) M') h1 hS hT fun M tm ni => ⟨ns, rfl, tm, ni, law_true (Zk K) hz ns, fun _ => rfl⟩
theorem txt {K : PySem.W.Frag} {h : Heap} {mg : Str → Option Value} (X : K.In h) (G : h.Ns mainGlobals mg) (c : He.SaysD fa fn K) (xq : exq K = true) (cc : DX.SaysP fa fn pr exq K) : Txt0 K mg :=
  ⟨c.def_ 0 (d := dd_Ltap) rfl,
    He.glo_ok X G (c.fact 0 (f := .glo "_law_tap") rfl),
    c.def_ 1 (d := dd_Lnext) rfl,
    He.glo_ok X G (c.fact 1 (f := .glo "_law_next") rfl),
    c.def_ 2 (d := dd_output_positions) rfl,
    He.glo_ok X G (c.fact 2 (f := .glo "output_positions") rfl),
    c.def_ 3 (d := dd_halvings) rfl,
    He.glo_ok X G (c.fact 3 (f := .glo "halvings") rfl),
    c.def_ 4 (d := dd_most_trials) rfl,
    He.glo_ok X G (c.fact 4 (f := .glo "most_trials") rfl),
    c.def_ 5 (d := dd_Lhidden) rfl,
    He.glo_ok X G (c.fact 5 (f := .glo "_law_hidden") rfl),
    c.def_ 6 (d := dd_is_between) rfl,
    He.glo_ok X G (c.fact 6 (f := .glo "is_between") rfl),
    c.def_ 7 (d := dd_first_ones) rfl,
    He.glo_ok X G (c.fact 7 (f := .glo "first_ones") rfl),
    c.def_ 8 (d := dd_Order___init__) rfl,
    c.def_ 9 (d := dd_Order___add__) rfl,
    c.def_ 10 (d := dd_need_size) rfl,
    He.glo_ok X G (c.fact 8 (f := .glo "need_size") rfl),
    c.def_ 11 (d := dd_candidates_behind) rfl,
    He.glo_ok X G (c.fact 9 (f := .glo "candidates_behind") rfl),
    c.def_ 12 (d := dd_Finder___init__) rfl,
    (cc.pr_ 0 (d := dp_Finder_candidates) rfl).2,
    (cc.pr_ 1 (d := dp_Finder_is_finished) rfl).2,
    c.def_ 13 (d := dd_settled_stage) rfl,
    He.glo_ok X G (c.fact 10 (f := .glo "settled_stage") rfl),
    c.def_ 14 (d := dd_Finder_tell) rfl,
    c.def_ 15 (d := dd_trial_with) rfl,
    He.glo_ok X G (c.fact 11 (f := .glo "trial_with") rfl),
    c.def_ 16 (d := dd_next_trial) rfl,
    He.glo_ok X G (c.fact 12 (f := .glo "next_trial") rfl),
    (cc.pr_ 2 (d := dp_Finder_trial) rfl).2,
    (cc.pr_ 3 (d := dp_Finder_known) rfl).2,
    c.def_ 17 (d := dd_Finder_order) rfl,
    c.def_ 18 (d := dd_found_order) rfl,
    He.glo_ok X G (c.fact 13 (f := .glo "found_order") rfl),
    c.def_ 19 (d := dd_state_at) rfl,
    He.glo_ok X G (c.fact 14 (f := .glo "state_at") rfl),
    c.def_ 20 (d := dd_first_state) rfl,
    He.glo_ok X G (c.fact 15 (f := .glo "first_state") rfl),
    c.def_ 21 (d := dd_Order___call__) rfl,
    c.def_ 22 (d := dd_Lnoted) rfl,
    He.glo_ok X G (c.fact 16 (f := .glo "_law_noted") rfl),
    c.def_ 23 (d := dd_Order___eq__) rfl,
    (cc.pr_ 4 (d := dp_Order_positions) rfl).2,
    c.def_ 24 (d := dd_Ltrials) rfl,
    He.glo_ok X G (c.fact 17 (f := .glo "_law_trials") rfl),
    c.def_ 25 (d := dd_Lsum) rfl,
    He.glo_ok X G (c.fact 18 (f := .glo "_law_sum") rfl),
    c.def_ 26 (d := dd_Lall) rfl,
    He.glo_ok X G (c.fact 19 (f := .glo "_law_all") rfl),
    c.def_ 27 (d := dd_Lsmall_right) rfl,
    He.glo_ok X G (c.fact 20 (f := .glo "_law_small_right") rfl),
    c.def_ 28 (d := dd_law) rfl,
    He.glo_ok X G (c.fact 21 (f := .glo "law") rfl),
    c.def_ 29 (d := dd_InvalidPosition___init__) rfl,
    c.def_ 30 (d := dd_InvalidSize___init__) rfl,
    DX.conB_ok ((Bool.and_eq_true_iff.mp (Bool.and_eq_true_iff.mp (Bool.and_eq_true_iff.mp (Bool.and_eq_true_iff.mp (Bool.and_eq_true_iff.mp (Bool.and_eq_true_iff.mp (Bool.and_eq_true_iff.mp (Bool.and_eq_true_iff.mp (Bool.and_eq_true_iff.mp (Bool.and_eq_true_iff.mp (Bool.and_eq_true_iff.mp (Bool.and_eq_true_iff.mp xq).1).1).1).1).1).1).1).1).1).1).1).1) (by decide),
    errB_ok ((Bool.and_eq_true_iff.mp (Bool.and_eq_true_iff.mp (Bool.and_eq_true_iff.mp (Bool.and_eq_true_iff.mp (Bool.and_eq_true_iff.mp (Bool.and_eq_true_iff.mp (Bool.and_eq_true_iff.mp (Bool.and_eq_true_iff.mp (Bool.and_eq_true_iff.mp (Bool.and_eq_true_iff.mp (Bool.and_eq_true_iff.mp (Bool.and_eq_true_iff.mp xq).1).1).1).1).1).1).1).1).1).1).1).2),
    He.eqO_ok ((Bool.and_eq_true_iff.mp (Bool.and_eq_true_iff.mp (Bool.and_eq_true_iff.mp (Bool.and_eq_true_iff.mp (Bool.and_eq_true_iff.mp (Bool.and_eq_true_iff.mp (Bool.and_eq_true_iff.mp (Bool.and_eq_true_iff.mp (Bool.and_eq_true_iff.mp (Bool.and_eq_true_iff.mp (Bool.and_eq_true_iff.mp xq).1).1).1).1).1).1).1).1).1).1).2),
    He.glo_ok X G (c.fact 22 (f := .glo "InvalidPosition") rfl),
    He.cls_ok (c.fact 23 (f := .cls "Order") rfl),
    He.noat_ok (c.fact 24 (f := .noat "Order" "entries") rfl),
    He.mkr_ok (c.fact 25 (f := .mkr "Order") rfl),
    He.glo_ok X G (c.fact 26 (f := .glo "Order") rfl),
    errB_ok ((Bool.and_eq_true_iff.mp (Bool.and_eq_true_iff.mp (Bool.and_eq_true_iff.mp (Bool.and_eq_true_iff.mp (Bool.and_eq_true_iff.mp (Bool.and_eq_true_iff.mp (Bool.and_eq_true_iff.mp (Bool.and_eq_true_iff.mp (Bool.and_eq_true_iff.mp (Bool.and_eq_true_iff.mp xq).1).1).1).1).1).1).1).1).1).2),
    He.eqO_ok ((Bool.and_eq_true_iff.mp (Bool.and_eq_true_iff.mp (Bool.and_eq_true_iff.mp (Bool.and_eq_true_iff.mp (Bool.and_eq_true_iff.mp (Bool.and_eq_true_iff.mp (Bool.and_eq_true_iff.mp (Bool.and_eq_true_iff.mp (Bool.and_eq_true_iff.mp xq).1).1).1).1).1).1).1).1).2),
    He.glo_ok X G (c.fact 27 (f := .glo "InvalidSize") rfl),
    He.cls_ok (c.fact 28 (f := .cls "Finder") rfl),
    He.noat_ok (c.fact 29 (f := .noat "Finder" "stages") rfl),
    He.noat_ok (c.fact 30 (f := .noat "Finder" "carries_told") rfl),
    He.noat_ok (c.fact 31 (f := .noat "Finder" "for_ring") rfl),
    He.noat_ok (c.fact 32 (f := .noat "Finder" "bits") rfl),
    (cc.pr_ 0 (d := dp_Finder_candidates) rfl).1,
    (cc.pr_ 1 (d := dp_Finder_is_finished) rfl).1,
    errNB_ok ((Bool.and_eq_true_iff.mp (Bool.and_eq_true_iff.mp (Bool.and_eq_true_iff.mp (Bool.and_eq_true_iff.mp (Bool.and_eq_true_iff.mp (Bool.and_eq_true_iff.mp (Bool.and_eq_true_iff.mp (Bool.and_eq_true_iff.mp xq).1).1).1).1).1).1).1).2),
    He.glo_ok X G (c.fact 33 (f := .glo "NotFinished") rfl),
    (cc.pr_ 3 (d := dp_Finder_known) rfl).1,
    He.mkr_ok (c.fact 34 (f := .mkr "Finder") rfl),
    He.glo_ok X G (c.fact 35 (f := .glo "Finder") rfl),
    He.meth_ok (c.fact 36 (f := .meth "Finder" "tell") rfl),
    (cc.pr_ 2 (d := dp_Finder_trial) rfl).1,
    He.meth_ok (c.fact 37 (f := .meth "Finder" "order") rfl),
    DX.callB_ok ((Bool.and_eq_true_iff.mp (Bool.and_eq_true_iff.mp (Bool.and_eq_true_iff.mp (Bool.and_eq_true_iff.mp (Bool.and_eq_true_iff.mp (Bool.and_eq_true_iff.mp (Bool.and_eq_true_iff.mp xq).1).1).1).1).1).1).2),
    DX.isiB_ok ((Bool.and_eq_true_iff.mp (Bool.and_eq_true_iff.mp (Bool.and_eq_true_iff.mp (Bool.and_eq_true_iff.mp (Bool.and_eq_true_iff.mp (Bool.and_eq_true_iff.mp xq).1).1).1).1).1).2),
    He.meth_ok (c.fact 38 (f := .meth "Order" "__add__") rfl),
    ((Bool.and_eq_true_iff.mp (Bool.and_eq_true_iff.mp (Bool.and_eq_true_iff.mp (Bool.and_eq_true_iff.mp (Bool.and_eq_true_iff.mp xq).1).1).1).1).2),
    He.meth_ok (c.fact 39 (f := .meth "Order" "__eq__") rfl),
    fun n hn => of_decide_eq_true (List.all_eq_true.mp ((Bool.and_eq_true_iff.mp (Bool.and_eq_true_iff.mp (Bool.and_eq_true_iff.mp (Bool.and_eq_true_iff.mp xq).1).1).1).2) n hn),
    allB_ok ((Bool.and_eq_true_iff.mp (Bool.and_eq_true_iff.mp (Bool.and_eq_true_iff.mp xq).1).1).2) fun _ h => h,
    (cc.pr_ 4 (d := dp_Order_positions) rfl).1,
    of_decide_eq_true ((Bool.and_eq_true_iff.mp (Bool.and_eq_true_iff.mp xq).1).2),
    He.free_ok X G (c.fact 40 (f := .free "abs") rfl),
    He.free_ok X G (c.fact 41 (f := .free "bool") rfl),
    He.free_ok X G (c.fact 42 (f := .free "dict") rfl),
    He.free_ok X G (c.fact 43 (f := .free "enumerate") rfl),
    He.free_ok X G (c.fact 44 (f := .free "int") rfl),
    He.free_ok X G (c.fact 45 (f := .free "isinstance") rfl),
    He.free_ok X G (c.fact 46 (f := .free "len") rfl),
    He.free_ok X G (c.fact 47 (f := .free "list") rfl),
    He.free_ok X G (c.fact 48 (f := .free "max") rfl),
    He.free_ok X G (c.fact 49 (f := .free "range") rfl),
    He.free_ok X G (c.fact 50 (f := .free "repr") rfl),
    He.free_ok X G (c.fact 51 (f := .free "sum") rfl),
    He.free_ok X G (c.fact 52 (f := .free "tuple") rfl),
    He.str_ok X G (c.fact 53 (f := .str "END" "end") rfl),
    He.str_ok X G (c.fact 54 (f := .str "GENERATE" "G") rfl),
    He.str_ok X G (c.fact 55 (f := .str "KILL" "K") rfl),
    He.int_ok X G (c.fact 56 (f := .int "MOST_BITS" 24) rfl),
    He.str_ok X G (c.fact 57 (f := .str "PASS" "P") rfl),
    (Bool.and_eq_true_iff.mp xq).2⟩
end My
open PySem PySem.W PySem.Calls PyProof.Rows
set_option maxRecDepth 100000 in
set_option maxHeartbeats 0 in
theorem PySem.Challenge.cw_carryprobe_k54_whole_how_many_trials_are_holds : PySem.Challenge.rw_carryprobe_k54_whole_how_many_trials_are.Holds := by
  w_on; o_law
  refine HandSHeadRun.head_any (r := OpenLaw.row PySem.Challenge.rw_carryprobe_k54_whole_how_many_trials_are) (q := view (OpenLaw.row PySem.Challenge.rw_carryprobe_k54_whole_how_many_trials_are).prog [44]) (H := My.hk) (ob := My.ob) (M := 12000) (loose := My.loose) (d := HandSHeadRun.topDef (OpenLaw.row PySem.Challenge.rw_carryprobe_k54_whole_how_many_trials_are).prog 44) (kwd := []) My.ob_eq
    (by kernel_rfl) (fun s => by kernel_rfl) My.run (by kernel_rfl) (by kernel_rfl) (by kernel_rfl) (by rfl) (by first | assumption | decide +kernel) (by decide +kernel) ⟨rfl, rfl, rfl, rfl, rfl, by decide +kernel⟩ ?hw ?hc
  case hw => w_witness2
  case hc =>
    refine DX.walk_ofT (tn := My.tl.map (·.1)) (l := PySem.Challenge.rw_carryprobe_k54_whole_how_many_trials_are) (k := 19) rfl (by kernel_rfl) ⟨rfl, by decide, by decide⟩ ?G
    intro w mg fa h Y G hmg0
    obtain ⟨K, KX, cc, TK, h1⟩ := Y
    have hmg : mg ("law" : PySem.Str) = some (.ref fa) := by
      have e : (HandSHeadRun.topDef (OpenLaw.row PySem.Challenge.rw_carryprobe_k54_whole_how_many_trials_are).prog 44).name = ("law" : PySem.Str) := by kernel_rfl
      rw [← e]
      exact hmg0
    have T := My.txt KX G cc.says cc.exx cc
    have e := hmg.symm.trans T.m_law
    cases e
    exact ⟨K, _, KX, TK, fun H a ns hl hS hP => (by
      obtain ⟨F, M, ds, o, rd, ns, e, tm, ni, q, k⟩ := My.law_start T.hz hl h1 hS fun x hx => hP _ (List.mem_map_of_mem hx)
      subst e
      exact ⟨F, M, _, o, rd, rfl, rfl, ns, rfl, tm, ni, q, fun _ => rfl⟩), fun base _ _ hTB => My.fx_law_1 ⟨T, fun x hx => hTB _ (List.mem_map_of_mem hx)⟩⟩

