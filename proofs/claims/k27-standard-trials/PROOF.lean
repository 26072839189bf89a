import PyProof.Rows.All
import Wide.All
import OpenK.AllK
import Wide.FinOn
import HandS.ForMost
import HandS.Walk
import HandS.Flow
import HandS.Defaults
import HandS.Dict
import HandS.DictTup
import PyProof.DictMoreH
import HandS.Lambda
import HandS.TupAny
import HandS.TupMul
import HandS.Zip
import HandS.Deep
import PyProof.ReprRoads
import PyProof.ReprLen
import HandS.WideBits
import HandS.IsInst
import HandS.Iter
import HandS.Style
import HandS.Conv
import HandS.Text
import HandS.Codes
import HandS.List
import HandS.HeadHook1
import HandS.HeadHook2
import HandS.Star
import HandS.Replace
import HandS.StrMore
import KE.KDictPairs
import PyProof.ListStr
import PyProof.StrBlock2
import PyProof.Rows.StrMul
import PyProof.Rows.StrCase
import HandS.Property
import HandS.ClsMeth
import KE.KIndexOf
import KE.GoesEnum
import PyProof.TupleOfStr
import HandS.TupLe
import KE.KRevSl
import HandS.FStr
import PyProof.NeKinds
import KE.GoesZip
import HandS.SetFor
import HandS.Exc
import HandS.ExcInit
import PyProof.InstNe
import PyProof.InstEq
import KE.KExcInit
import PyProof.ExcBaseAll.LookupError
import PyProof.ExcBaseAll.OverflowError
import HandS.ExcIs
import HandS.ExcField
import KE.KTryMore
import HandS.NoneIn
import HandS.EndTab
import KE.KNestM
import KE.KDictZip
import KE.KTurns
import PyProof.ListNew
import KE.GoesEnumKw
import KE.DataFind
import OpenK.KMore
import PyProof.CollectIter
import PyProof.Walks
import KE.KUnpack
import KE.KxField
import HandS.DictComp
import HandS.Nested
import KE.KSuper
import HandS.GenList
import HandS.OwnEq
import PyProof.AutoSeq1
import HandS.RaiseOp
import PyProof.GenQ
import KE.KStateDown
import Lean
import HandS.Head0
import HandS.Head1
import HandS.Head2
import HandS.HeadEnd
import PySem.Challenge.RW_carryprobe_k27_standard_trials
set_option Elab.async false
set_option linter.all false
set_option maxRecDepth 100000
set_option autoImplicit false
set_option maxHeartbeats 4000000
namespace DTK
end DTK
namespace DX
end DX
namespace ZipL
end ZipL
namespace EnZ
end EnZ
namespace GF
end GF
namespace My
end My
namespace EnT
end EnT
namespace RevT
end RevT
namespace ZMix
end ZMix
namespace EnK
end EnK
namespace TupF
end TupF
namespace TupNe
end TupNe
namespace LstNe
end LstNe
namespace EnL
end EnL
section
namespace DTK
open PySem PySem.Spec L2 PyProof.Rows
abbrev TE3 := List (List Int × Addr × V)
def tH (ks : List Int) : Int := reduceHash (Builtin.Tuple.tupleHashOf (ks.map hashInt))
def entI (x : List Int × Addr × Value) : DictEntry := ⟨tH x.1, .ref x.2.1, x.2.2⟩
/-- the entries as they stand in the heap -/
def EntR (kvs : TE3) (xs : List (List Int × Addr × Value)) : Prop := Paired (fun (p : List Int × Addr × V) (q : List Int × Addr × Value) => p.1 = q.1 ∧ p.2.1 = q.2.1 ∧ RelV p.2.2 q.2.2) kvs xs
def DTX (a : Addr) (kvs : TE3) : HO := .ext fun h => kvs.length ≤ sizeLine ∧ (a == sysModules) = false ∧ ∃ xs, EntR kvs xs ∧
  ∃ o es ep, h.get? a = some o ∧ o.ExactDict ∧ o.data = .dict es ep ∧ es.toList = xs.map entI ∧ (xs.map (·.1)).Nodup
def atV (kvs : TE3) (k : List Int) : Option V := (kvs.find? fun p => decide (p.1 = k)).map (·.2.2)
end DTK
namespace DX
open PySem PySem.Spec L2

inductive D where
  | non | bl (b : Bool) | int (i : Int) | str (x : Str) | adr (a : Addr) | ty (n : String)
  | tup (ds : List D) | lst (ds : List D) | scr (ns : List Int)
  | ins (C : Addr) (fs : List (Str × D))
  | dct (kvs : List (Key × D))
  | stup (ds : List D)
  | exn (C : Addr) (fs : List (Str × D))
  | tbl (q : Str)
  | dtx (kvs : List (List Int × Int))

/-- at a: an error of the class at C that was caught, its dict at d -/
def exH (a C : Addr) (d : Option Addr) : HO := .ext fun h => ∃ (oe : Obj) (vs : Array Value), h.get? a = some oe ∧ oe.cls = .ref C ∧ oe.dict = d ∧ oe.data = .fields vs

mutual
inductive Rp (K : PySem.W.Frag) (F : Hp) : V → D → Prop
  | non : Rp K F .non .non
  | bl (b : Bool) : Rp K F (.bl b) (.bl b)
  | int (i : Int) : Rp K F (.int i) (.int i)
  | str (x : Str) : Rp K F (.str x) (.str x)
  | adr (a : Addr) : Rp K F (.ref a) (.adr a)
  | ty (n : String) : Rp K F (.ty n) (.ty n)
  | tup {a : Addr} {xs : List V} {ds : List D} : SqT K F a xs → Rps K F xs ds → Rp K F (.ref a) (.tup ds)
  | lst {a : Addr} {xs : List V} {ds : List D} : F a = some (.lst xs) → Rps K F xs ds → Rp K F (.ref a) (.lst ds)
  | scr {a : Addr} {ns : List Int} : SqL K F a (ns.map V.int) → Rp K F (.ref a) (.scr ns)
  | ins {a C dx : Addr} {fs : List (Str × V)} {gs : List (Str × D)} : F a = some (.ins C dx fs) → Rfs K F fs gs → Rp K F (.ref a) (.ins C gs)
  | dct {a : Addr} {kvs : List (Key × V)} {ds : List (Key × D)} : F a = some (.dK kvs) → Rks K F kvs ds → Rp K F (.ref a) (.dct ds)
  | stup {a : Addr} {o : Obj} {xs : List V} {ds : List D} : F a = some (.frz o (.tup xs)) → (o.cls = .type "tuple" ∧ o.dict = none) → Rps K F xs ds → Rp K F (.ref a) (.stup ds)
  | stupK {a : Addr} {o : Obj} : K.lookup a = some o → (o.cls = .type "tuple" ∧ o.dict = none ∧ ∃ n, o.data = .seq #[] n) → Rp K F (.ref a) (.stup [])
  | exn {a C : Addr} {d : Option Addr} {fs : List (Str × V)} {gs : List (Str × D)} : F a = some (exH a C d) → ((d = none ∧ fs = []) ∨ ∃ dd, d = some dd ∧ F dd = some (.xd fs)) → Rfs K F fs gs → Rp K F (.ref a) (.exn C gs)
inductive Rps (K : PySem.W.Frag) (F : Hp) : List V → List D → Prop
  | nil : Rps K F [] []
  | cons {v : V} {d : D} {vs : List V} {ds : List D} : Rp K F v d → Rps K F vs ds → Rps K F (v :: vs) (d :: ds)
inductive Rfs (K : PySem.W.Frag) (F : Hp) : List (Str × V) → List (Str × D) → Prop
  | nil : Rfs K F [] []
  | cons {x : Str} {v : V} {d : D} {vs : List (Str × V)} {ds : List (Str × D)} : Rp K F v d → Rfs K F vs ds → Rfs K F ((x, v) :: vs) ((x, d) :: ds)
inductive Rks (K : PySem.W.Frag) (F : Hp) : List (Key × V) → List (Key × D) → Prop
  | nil : Rks K F [] []
  | cons {x : Key} {v : V} {d : D} {vs : List (Key × V)} {ds : List (Key × D)} : Rp K F v d → Rks K F vs ds → Rks K F ((x, v) :: vs) ((x, d) :: ds)
end

section
variable {K : PySem.W.Frag} {F F' H H' : Hp}
theorem same_rd {a : Addr} {u : HO} (e : Same H H') (h : Rd H a u) : Rd H' a u := by
  rcases h with h | ⟨o, h⟩
  · exact .inl (e _ _ h)
  · exact .inr ⟨o, e _ _ h⟩
theorem same_l {a : Addr} {xs : List V} (e : Same H H') (h : SqL K H a xs) : SqL K H' a xs := by
  rcases h with h | h
  · exact .inl (same_rd e h)
  · exact .inr h
theorem same_t {a : Addr} {xs : List V} (e : Same H H') (h : SqT K H a xs) : SqT K H' a xs := by
  rcases h with h | h
  · exact .inl (same_rd e h)
  · exact .inr h
mutual
theorem Rp.mono (e : Same F F') : ∀ {v : V} {d : D}, Rp K F v d → Rp K F' v d
  | _, _, .non => .non
  | _, _, .bl b => .bl b
  | _, _, .int i => .int i
  | _, _, .str x => .str x
  | _, _, .adr a => .adr a
  | _, _, .ty n => .ty n
  | _, _, .tup h r => .tup (same_t e h) (Rps.mono e r)
  | _, _, .lst h r => .lst (e _ _ h) (Rps.mono e r)
  | _, _, .scr h => .scr (same_l e h)
  | _, _, .ins h r => .ins (e _ _ h) (Rfs.mono e r)
  | _, _, .dct h r => .dct (e _ _ h) (Rks.mono e r)
  | _, _, .stup h c r => .stup (e _ _ h) c (Rps.mono e r)
  | _, _, .stupK h c => .stupK h c
  | _, _, .exn h c r => .exn (e _ _ h) (c.imp id fun ⟨dd, h1, h2⟩ => ⟨dd, h1, e _ _ h2⟩) (Rfs.mono e r)
theorem Rps.mono (e : Same F F') : ∀ {v : List V} {d : List D}, Rps K F v d → Rps K F' v d
  | _, _, .nil => .nil
  | _, _, .cons h r => .cons (Rp.mono e h) (Rps.mono e r)
theorem Rfs.mono (e : Same F F') : ∀ {v : List (Str × V)} {d : List (Str × D)}, Rfs K F v d → Rfs K F' v d
  | _, _, .nil => .nil
  | _, _, .cons h r => .cons (Rp.mono e h) (Rfs.mono e r)
theorem Rks.mono (e : Same F F') : ∀ {v : List (Key × V)} {d : List (Key × D)}, Rks K F v d → Rks K F' v d
  | _, _, .nil => .nil
  | _, _, .cons h r => .cons (Rp.mono e h) (Rks.mono e r)
end
theorem Rps.length : ∀ {v : List V} {d : List D}, Rps K F v d → v.length = d.length
  | _, _, .nil => rfl
  | _, _, .cons _ r => congrArg Nat.succ (Rps.length r)
theorem Rps.append : ∀ {v w : List V} {d e : List D}, Rps K F v d → Rps K F w e → Rps K F (v ++ w) (d ++ e)
  | _, _, _, _, .nil, s => s
  | _, _, _, _, .cons h r, s => .cons h (Rps.append r s)
theorem Rps.get : ∀ {v : List V} {d : List D} {i : Nat} {x : D}, Rps K F v d → d[i]? = some x → ∃ y, v[i]? = some y ∧ Rp K F y x
  | _, _, i, _, .nil, e => by simp at e
  | _, _, 0, _, .cons h _, e => by simp at e; subst e; exact ⟨_, rfl, h⟩
  | _, _, i + 1, x, .cons _ r, e => by
    obtain ⟨y, h1, h2⟩ := Rps.get (i := i) (x := x) r (by simpa using e)
    exact ⟨y, by simpa using h1, h2⟩
theorem Rps.set : ∀ {v : List V} {d : List D} {y : V} {x : D} (i : Nat), Rps K F v d → Rp K F y x → Rps K F (v.set i y) (d.set i x)
  | _, _, _, _, _, .nil, _ => .nil
  | _, _, _, _, 0, .cons _ r, h => .cons h r
  | _, _, _, _, i + 1, .cons h' r, h => .cons h' (Rps.set i r h)
theorem Rps.drop : ∀ {v : List V} {d : List D} (i : Nat), Rps K F v d → Rps K F (v.drop i) (d.drop i)
  | _, _, 0, r => r
  | _, _, _ + 1, .nil => .nil
  | _, _, i + 1, .cons _ r => Rps.drop i r
theorem Rps.take : ∀ {v : List V} {d : List D} (i : Nat), Rps K F v d → Rps K F (v.take i) (d.take i)
  | _, _, 0, _ => .nil
  | _, _, _ + 1, .nil => .nil
  | _, _, i + 1, .cons h r => .cons h (Rps.take i r)
theorem Rps.rep {v : List V} {d : List D} (r : Rps K F v d) : ∀ n : Nat, Rps K F (List.replicate n v).flatten (List.replicate n d).flatten
  | 0 => .nil
  | n + 1 => by
    rw [List.replicate_succ, List.replicate_succ, List.flatten_cons, List.flatten_cons]
    exact r.append (Rps.rep r n)
end

abbrev DEnv := List (Option D)
def look : DEnv → Nat → Option D
  | [], _ => none
  | d :: _, 0 => d
  | _ :: r, n + 1 => look r n
def put : DEnv → Nat → D → DEnv
  | [], _, _ => []
  | _ :: r, 0, d => some d :: r
  | x :: r, n + 1, d => x :: put r n d
inductive En (K : PySem.W.Frag) (F : Hp) : St → DEnv → Prop
  | nil : En K F [] []
  | cons {v : Option V} {d : Option D} {σ : St} {ρ : DEnv} : (∀ x, d = some x → ∃ y, v = some y ∧ Rp K F y x) → En K F σ ρ → En K F (v :: σ) (d :: ρ)
section
variable {K : PySem.W.Frag} {F F' H H' : Hp}
theorem En.mono (e : Same F F') : ∀ {σ : St} {ρ : DEnv}, En K F σ ρ → En K F' σ ρ
  | _, _, .nil => .nil
  | _, _, .cons h r => .cons (fun x q => let ⟨y, a, b⟩ := h x q; ⟨y, a, b.mono e⟩) (En.mono e r)
theorem En.look : ∀ {σ : St} {ρ : DEnv} {i : Nat} {d : D}, En K F σ ρ → DX.look ρ i = some d → ∃ y, σ[i]? = some (some y) ∧ Rp K F y d
  | _, _, i, _, .nil, e => by simp [DX.look] at e
  | _, _, 0, d, .cons h r, e => by
    obtain ⟨y, a, b⟩ := h d e
    exact ⟨y, by rw [a]; rfl, b⟩
  | _, _, i + 1, d, .cons h r, e => by
    obtain ⟨y, a, b⟩ := En.look (i := i) r e
    exact ⟨y, by simpa using a, b⟩
theorem En.put : ∀ {σ : St} {ρ : DEnv} {y : V} {d : D} (i : Nat), En K F σ ρ → Rp K F y d → En K F (σ.set i (some y)) (DX.put ρ i d)
  | _, _, _, _, _, .nil, _ => .nil
  | _, _, y, d, 0, .cons _ r, h => .cons (fun x q => ⟨y, rfl, by cases q; exact h⟩) r
  | _, _, _, _, i + 1, .cons h' r, h => .cons h' (En.put i r h)
def startD (n : Nat) (ds : List D) : DEnv := ds.map some ++ List.replicate n none
theorem En.rep : ∀ n : Nat, En K F (List.replicate n none) (List.replicate n none)
  | 0 => .nil
  | n + 1 => .cons (fun x q => by cases q) (En.rep n)
theorem En.start : ∀ {vs : List V} {ds : List D} (n : Nat), Rps K F vs ds → En K F (vs.map some ++ List.replicate n none) (startD n ds)
  | _, _, n, .nil => En.rep n
  | _, _, n, .cons h r => .cons (fun x q => ⟨_, rfl, by cases q; exact h⟩) (En.start n r)
end

abbrev Mem := Addr → Option D
def up (M : Mem) (a : Addr) (d : D) : Mem := fun b => if b = a then some d else M b
def rm (M : Mem) (a : Addr) : Mem := fun b => if b = a then none else M b
theorem up_same {M : Mem} {a : Addr} {d : D} : up M a d a = some d := if_pos rfl
theorem up_ne {M : Mem} {a b : Addr} {d : D} (h : b ≠ a) : up M a d b = M b := if_neg h
def Mt (K : PySem.W.Frag) (F H : Hp) (a : Addr) : D → Prop
  | .lst ds => ∃ xs, H a = some (.lst xs) ∧ Rps K F xs ds
  | .ins C gs => ∃ dx fs, H a = some (.ins C dx fs) ∧ Rfs K F fs gs
  | .dct ds => ∃ kvs, H a = some (.dK kvs) ∧ Rks K F kvs ds
  | .dtx kvs => ∃ es : DTK.TE3, H a = some (DTK.DTX a es) ∧ Paired (fun (p : List Int × Addr × V) (q : List Int × Int) => p.1 = q.1 ∧ SqT K F p.2.1 (p.1.map V.int) ∧ p.2.2 = V.int q.2) es kvs
  | .tbl q => ∃ ps : Array Value, H a = some (.tbl ps) ∧ TriplesOk ps.toList ∧ ∀ (pos : Pos) (cv : Value), codeAmong pos ps.toList = some cv → ∃ c, cv = .ref c ∧ F c = some (LamX.CodeO c q)
  | _ => False
structure Ok (K : PySem.W.Frag) (F : Hp) (M : Mem) (H : Hp) : Prop where
  ex : Same F H
  mt : ∀ a d, M a = some d → F a = none ∧ Mt K F H a d
section
variable {K : PySem.W.Frag} {F F' H H' : Hp} {M : Mem}
theorem Mt.there {a : Addr} {d : D} (m : Mt K F H a d) : ∃ o, H a = some o := by
  cases d <;> first
    | exact m.elim
    | (obtain ⟨_, h, _⟩ := m; exact ⟨_, h⟩)
    | (obtain ⟨_, _, h, _⟩ := m; exact ⟨_, h⟩)
theorem Mt.mono {a : Addr} {d : D} (e : Same F F') (h : H' a = H a) (m : Mt K F H a d) : Mt K F' H' a d := by
  cases d <;> first
    | exact m.elim
    | (obtain ⟨xs, p, r⟩ := m; exact ⟨xs, by rw [h]; exact p, r.mono e⟩)
    | (obtain ⟨dx, fs, p, r⟩ := m; exact ⟨dx, fs, by rw [h]; exact p, r.mono e⟩)
    | (obtain ⟨es, p, r⟩ := m; exact ⟨es, by rw [h]; exact p, L2.Paired.mapP r fun _ _ z => ⟨z.1, same_t e z.2.1, z.2.2⟩⟩)
    | (obtain ⟨ps, p, t, r⟩ := m; exact ⟨ps, by rw [h]; exact p, t, fun pos cv z => let ⟨c, h1, h2⟩ := r pos cv z; ⟨c, h1, e _ _ h2⟩⟩)
theorem same_new {a : Addr} {o : HO} (h : H a = none) : Same H (upd H a o) := fun b u e => by
  rw [upd_ne (ne_of_none e h)]
  exact e
/-- it changes -/
theorem Ok.set (k : Ok K F M H) {a : Addr} {o : HO} {d d' : D} (h : M a = some d) (m : Mt K F (upd H a o) a d') : Ok K F (up M a d') (upd H a o) := by
  have h1 := (k.mt a d h).1
  refine ⟨fun b u e => ?_, fun b d' e => ?_⟩
  · rw [upd_ne (ne_of_none e h1)]
    exact k.ex b u e
  · by_cases hb : b = a
    · subst hb
      rw [up_same] at e; cases e
      exact ⟨h1, m⟩
    · rw [up_ne hb] at e
      obtain ⟨m1, m2⟩ := k.mt b d' e
      exact ⟨m1, m2.mono (Same.refl F) (upd_ne hb)⟩
/-- it is not to change any more -/
theorem Ok.freeze (k : Ok K F M H) {a : Addr} {o : HO} {d : D} (h : M a = some d) (ho : H a = some o) : Same F (upd F a o) ∧ Ok K (upd F a o) (rm M a) H := by
  have h1 := (k.mt a d h).1
  refine ⟨same_new h1, fun b u e => ?_, fun b d' e => ?_⟩
  · by_cases hb : b = a
    · subst hb; rw [upd_same] at e; cases e; exact ho
    · rw [upd_ne hb] at e; exact k.ex b u e
  · unfold rm at e
    by_cases hb : b = a
    · rw [if_pos hb] at e; cases e
    · rw [if_neg hb] at e
      obtain ⟨m1, m2⟩ := k.mt b d' e
      exact ⟨by rw [upd_ne hb]; exact m1, m2.mono (same_new h1) rfl⟩
end

/-- what stays known, whatever is added -/
structure Gh where
  p : Hp → Prop
  mono : ∀ F F', Same F F' → p F → p F'
structure Sts (K : PySem.W.Frag) (J : Gh) (F : Hp) (σ : St) (H : Hp) (ρ : DEnv) (M : Mem) : Prop where
  en : En K F σ ρ
  ok : Ok K F M H
  gh : J.p F
def Kt (K : PySem.W.Frag) (F : Hp) (P : D → Mem → Prop) (Q : VK) : Prop := ∀ d v M' F' H', P d M' → Same F F' → Ok K F' M' H' → Rp K F' v d → Q v H'
def Kb (K : PySem.W.Frag) (F : Hp) (P : Bool → Mem → Prop) (Q : Bool → Hp → Prop) : Prop := ∀ b M' F' H', P b M' → Same F F' → Ok K F' M' H' → Q b H'
def Ka (K : PySem.W.Frag) (F : Hp) (P : List D → Mem → Prop) (Q : List V → Hp → Prop) : Prop := ∀ ds vs M' F' H', P ds M' → Same F F' → Ok K F' M' H' → Rps K F' vs ds → Q vs H'
def tD (K : PySem.W.Frag) (J : Gh) (ρ : DEnv) (M : Mem) (P : D → Mem → Prop) : TE := fun σ H Q => ∃ F, Sts K J F σ H ρ M ∧ Kt K F P Q
def tT (K : PySem.W.Frag) (J : Gh) (ρ : DEnv) (M : Mem) (P : Bool → Mem → Prop) : TT := fun σ H Q => ∃ F, Sts K J F σ H ρ M ∧ Kb K F P Q
def tA (K : PySem.W.Frag) (J : Gh) (ρ : DEnv) (M : Mem) (P : List D → Mem → Prop) : TA := fun σ H Q => ∃ F, Sts K J F σ H ρ M ∧ Ka K F P Q
def EX (X : Cx) (J : Gh) (e : Expr) (ρ : DEnv) (M : Mem) (P : D → Mem → Prop) : Prop := PE X e (tD X.K J ρ M P)
def TX (X : Cx) (J : Gh) (e : Expr) (ρ : DEnv) (M : Mem) (P : Bool → Mem → Prop) : Prop := PT X e (tT X.K J ρ M P)
def WX (X : Cx) (J : Gh) (e : Expr) (ρ : DEnv) (M : Mem) (P : Bool → Mem → Prop) : Prop := PW X e (tT X.K J ρ M P)
def AX (X : Cx) (J : Gh) (es : List Expr) (ρ : DEnv) (M : Mem) (P : List D → Mem → Prop) : Prop := PA X es (tA X.K J ρ M P)
/-- the reading that any derivation may fill -/
def tE (X : Cx) (e : Expr) : TE := fun σ H Q => ∃ t, PE X e t ∧ t σ H Q
def tTe (X : Cx) (e : Expr) : TT := fun σ H Q => ∃ t, PT X e t ∧ t σ H Q
def tWe (X : Cx) (e : Expr) : TT := fun σ H Q => ∃ t, PW X e t ∧ t σ H Q
def tAe (X : Cx) (es : List Expr) : TA := fun σ H Q => ∃ t, PA X es t ∧ t σ H Q
section
variable {X : Cx} {J : Gh} {e : Expr} {es : List Expr} {ρ : DEnv} {M M' : Mem} {F F' H H' : Hp} {σ : St} {P : D → Mem → Prop} {K : PySem.W.Frag}
theorem Sts.to (s : Sts K J F σ H ρ M) (e : Same F F') (o : Ok K F' M' H') : Sts K J F' σ H' ρ M' := ⟨s.en.mono e, o, J.mono _ _ e s.gh⟩
theorem Kt.to {Q : VK} (k : Kt K F P Q) (e : Same F F') : Kt K F' P Q := fun d v M' F2 H' p e2 => k d v M' F2 H' p (e.trans e2)
theorem Kb.to {P : Bool → Mem → Prop} {Q : Bool → Hp → Prop} (k : Kb K F P Q) (e : Same F F') : Kb K F' P Q := fun b M' F2 H' p e2 => k b M' F2 H' p (e.trans e2)
theorem Ka.to {P : List D → Mem → Prop} {Q : List V → Hp → Prop} (k : Ka K F P Q) (e : Same F F') : Ka K F' P Q := fun b vs M' F2 H' p e2 => k b vs M' F2 H' p (e.trans e2)
theorem EX.go (h : EX X J e ρ M P) (s : Sts X.K J F σ H ρ M) {Q : VK} (k : Kt X.K F P Q) : tE X e σ H Q := ⟨_, h, F, s, k⟩
theorem TX.go {P : Bool → Mem → Prop} (h : TX X J e ρ M P) (s : Sts X.K J F σ H ρ M) {Q : Bool → Hp → Prop} (k : Kb X.K F P Q) : tTe X e σ H Q := ⟨_, h, F, s, k⟩
theorem WX.go {P : Bool → Mem → Prop} (h : WX X J e ρ M P) (s : Sts X.K J F σ H ρ M) {Q : Bool → Hp → Prop} (k : Kb X.K F P Q) : tWe X e σ H Q := ⟨_, h, F, s, k⟩
theorem AX.go {P : List D → Mem → Prop} (h : AX X J es ρ M P) (s : Sts X.K J F σ H ρ M) {Q : List V → Hp → Prop} (k : Ka X.K F P Q) : tAe X es σ H Q := ⟨_, h, F, s, k⟩
theorem ex_of {t : TE} (h : PE X e t) (k : ∀ F σ H Q, Sts X.K J F σ H ρ M → Kt X.K F P Q → t σ H Q) : EX X J e ρ M P := ⟨fun pins s σ H Q I ⟨F, st, q⟩ => h.run pins s σ H Q I (k F σ H Q st q)⟩
theorem tx_of {t : TT} {P : Bool → Mem → Prop} (h : PT X e t) (k : ∀ F σ H Q, Sts X.K J F σ H ρ M → Kb X.K F P Q → t σ H Q) : TX X J e ρ M P := ⟨fun pins s σ H Q I ⟨F, st, q⟩ => h.run pins s σ H Q I (k F σ H Q st q)⟩
theorem ax_of {t : TA} {P : List D → Mem → Prop} (h : PA X es t) (k : ∀ F σ H Q, Sts X.K J F σ H ρ M → Ka X.K F P Q → t σ H Q) : AX X J es ρ M P := ⟨fun pos pins s σ H Q I ⟨F, st, q⟩ => h.run pos pins s σ H Q I (k F σ H Q st q)⟩
theorem EX.imp {P' : D → Mem → Prop} (h : EX X J e ρ M P) (k : ∀ d M', P d M' → P' d M') : EX X J e ρ M P' := ex_of h fun F σ H Q st q => ⟨F, st, fun d v M' F' H' p => q d v M' F' H' (k d M' p)⟩
theorem TX.imp {P P' : Bool → Mem → Prop} (h : TX X J e ρ M P) (k : ∀ d M', P d M' → P' d M') : TX X J e ρ M P' := tx_of h fun F σ H Q st q => ⟨F, st, fun d M' F' H' p => q d M' F' H' (k d M' p)⟩
/-- the value as it is, nothing changed -/
theorem Kt.here {Q : VK} {d : D} {v : V} (k : Kt K F P Q) (p : P d M) (o : Ok K F M H) (r : Rp K F v d) : Q v H := k d v M F H p (Same.refl F) o r
theorem Kb.here {P : Bool → Mem → Prop} {Q : Bool → Hp → Prop} {b : Bool} (k : Kb K F P Q) (p : P b M) (o : Ok K F M H) : Q b H := k b M F H p (Same.refl F) o
end
end DX
namespace DX
open PySem PySem.Spec L2

section
variable {X : Cx} {J : Gh} {e a b c : Expr} {es : List Expr} {ρ : DEnv} {M M' : Mem} {F F' H H' : Hp} {σ : St} {P : D → Mem → Prop} {PB : Bool → Mem → Prop} {PA' : List D → Mem → Prop} {K : PySem.W.Frag} {pos : Pos} {x : Str}

def rAnyO (X : Cx) (f : Value → Value → Sem Value) : R2 := fun v u H Q => ∃ r, OpR X f r ∧ r v u H Q
/-- f at the data x, y: what comes -/
def OD (X : Cx) (f : Value → Value → Sem Value) (x y : D) (M : Mem) (P : D → Mem → Prop) : Prop :=
  ∃ r, OpR X f r ∧ ∀ F H v u Q, Ok X.K F M H → Rp X.K F v x → Rp X.K F u y → Kt X.K F P Q → r v u H Q
theorem OD.go {f : Value → Value → Sem Value} {x y : D} (h : OD X f x y M P) {v u : V} {Q : VK} (o : Ok X.K F M H) (rx : Rp X.K F v x) (ry : Rp X.K F u y) (k : Kt X.K F P Q) : rAnyO X f v u H Q := by
  obtain ⟨r, h1, h2⟩ := h
  exact ⟨r, h1, h2 F H v u Q o rx ry k⟩
variable {i j : Int}
/-- scalars: == and != -/
def sc : D → D → Bool
  | .non, .non => true
  | .non, .int _ => true
  | .int _, .non => true
  | .non, .bl _ => true
  | .bl _, .non => true
  | .non, .str _ => true
  | .str _, .non => true
  | .int _, .int _ => true
  | .bl _, .bl _ => true
  | .str _, .str _ => true
  | .int _, .str _ => true
  | .str _, .int _ => true
  | .bl _, .str _ => true
  | .str _, .bl _ => true
  | _, _ => false
inductive Sq (M : Mem) : D → List D → Prop
  | lst {ds : List D} : Sq M (.lst ds) ds
  | tup {ds : List D} : Sq M (.tup ds) ds
  | adr {p : Addr} {ds : List D} : M p = some (.lst ds) → Sq M (.adr p) ds
inductive Sl (M : Mem) : D → List D → Prop
  | lst {ds : List D} : Sl M (.lst ds) ds
  | adr {p : Addr} {ds : List D} : M p = some (.lst ds) → Sl M (.adr p) ds
theorem Sl.get {d : D} {ds : List D} {v : V} (s : Sl M d ds) (o : Ok K F M H) (r : Rp K F v d) : ∃ p xs, v = .ref p ∧ H p = some (.lst xs) ∧ Rps K F xs ds := by
  cases s with
  | lst =>
    cases r with
    | lst h r => exact ⟨_, _, rfl, o.ex _ _ h, r⟩
  | adr h =>
    cases r
    obtain ⟨_, xs, h1, h2⟩ := o.mt _ _ h
    exact ⟨_, xs, rfl, h1, h2⟩
theorem Sq.get {d : D} {ds : List D} {v : V} (s : Sq M d ds) (o : Ok K F M H) (r : Rp K F v d) : ∃ p xs, v = .ref p ∧ (SqL K H p xs ∨ SqT K H p xs) ∧ Rps K F xs ds := by
  cases s with
  | lst =>
    cases r with
    | lst h r => exact ⟨_, _, rfl, .inl (SqL.of (o.ex _ _ h)), r⟩
  | tup =>
    cases r with
    | tup h r => exact ⟨_, _, rfl, .inr (same_t o.ex h), r⟩
  | adr h =>
    cases r
    obtain ⟨_, xs, h1, h2⟩ := o.mt _ _ h
    exact ⟨_, xs, rfl, .inl (SqL.of h1), h2⟩
theorem Sl.sq {d : D} {ds : List D} (s : Sl M d ds) : Sq M d ds := by
  cases s with
  | lst => exact .lst
  | adr h => exact .adr h
end
end DX
namespace DX
open PySem PySem.Spec L2

structure Bd where
  nx : DEnv → Mem → Prop
  rt : D → Mem → Prop
  bk : DEnv → Mem → Prop := fun _ _ => False
  ct : DEnv → Mem → Prop := fun _ _ => False
structure Kd (K : PySem.W.Frag) (F : Hp) (B : Bd) (E : Ends) : Prop where
  nx : ∀ F' σ' H' ρ' M', B.nx ρ' M' → Same F F' → En K F' σ' ρ' → Ok K F' M' H' → E.nx σ' H'
  rt : Kt K F B.rt E.rt
  bk : ∀ F' σ' H' ρ' M', B.bk ρ' M' → Same F F' → En K F' σ' ρ' → Ok K F' M' H' → E.bk σ' H'
  ct : ∀ F' σ' H' ρ' M', B.ct ρ' M' → Same F F' → En K F' σ' ρ' → Ok K F' M' H' → E.ct σ' H'
def tSd (K : PySem.W.Frag) (J : Gh) (ρ : DEnv) (M : Mem) (B : Bd) : TS := fun E σ H => ∃ F, Sts K J F σ H ρ M ∧ Kd K F B E
def GX (X : Cx) (J : Gh) (st : List Stmt) (ρ : DEnv) (M : Mem) (B : Bd) : Prop := PSs X st (tSd X.K J ρ M B)
def G1 (X : Cx) (J : Gh) (st : Stmt) (ρ : DEnv) (M : Mem) (B : Bd) : Prop := PS X st (tSd X.K J ρ M B)
def tSe (X : Cx) (st : List Stmt) : TS := fun E σ H => ∃ t, PSs X st t ∧ t E σ H
def tS1 (X : Cx) (st : Stmt) : TS := fun E σ H => ∃ t, PS X st t ∧ t E σ H
section
variable {X : Cx} {J : Gh} {e a b c : Expr} {es : List Expr} {st : Stmt} {rest sts : List Stmt} {ρ ρ' : DEnv} {M M' : Mem} {F F' H H' : Hp} {σ : St} {B : Bd} {K : PySem.W.Frag} {pos p : Pos} {x : Str} {E : Ends}
theorem Kd.to (k : Kd K F B E) (e : Same F F') : Kd K F' B E :=
  ⟨fun F2 σ' H' ρ' M' p e2 => k.nx F2 σ' H' ρ' M' p (e.trans e2), k.rt.to e, fun F2 σ' H' ρ' M' p e2 => k.bk F2 σ' H' ρ' M' p (e.trans e2), fun F2 σ' H' ρ' M' p e2 => k.ct F2 σ' H' ρ' M' p (e.trans e2)⟩
theorem GX.go (h : GX X J sts ρ M B) (s : Sts X.K J F σ H ρ M) (k : Kd X.K F B E) : tSe X sts E σ H := ⟨_, h, F, s, k⟩
theorem G1.go (h : G1 X J st ρ M B) (s : Sts X.K J F σ H ρ M) (k : Kd X.K F B E) : tS1 X st E σ H := ⟨_, h, F, s, k⟩
theorem gx_of {t : TS} (h : PSs X sts t) (k : ∀ F σ H E, Sts X.K J F σ H ρ M → Kd X.K F B E → t E σ H) : GX X J sts ρ M B := ⟨fun pins s σ H D I ⟨F, st, q⟩ => h.run pins s σ H D I (k F σ H D st q)⟩
theorem GX.imp {B' : Bd} (h : GX X J sts ρ M B) (h1 : ∀ ρ' M', B.nx ρ' M' → B'.nx ρ' M') (h2 : ∀ d M', B.rt d M' → B'.rt d M') (h3 : ∀ ρ' M', B.bk ρ' M' → B'.bk ρ' M') (h4 : ∀ ρ' M', B.ct ρ' M' → B'.ct ρ' M') : GX X J sts ρ M B' :=
  gx_of h fun F σ H E st k => ⟨F, st, fun F' σ' H' ρ' M' q => k.nx F' σ' H' ρ' M' (h1 _ _ q), fun d v M' F' H' q => k.rt d v M' F' H' (h2 _ _ q), fun F' σ' H' ρ' M' q => k.bk F' σ' H' ρ' M' (h3 _ _ q), fun F' σ' H' ρ' M' q => k.ct F' σ' H' ρ' M' (h4 _ _ q)⟩
structure Wk (K : PySem.W.Frag) (F : Hp) (I : It) (ds : List D) : Prop where
  goes : ∀ i H, i < ds.length → Same F H → I.go i H
  stops : ∀ H, Same F H → I.stop ds.length H
  yields : ∀ i d H x H' F1 M, ds[i]? = some d → Same F F1 → Ok K F1 M H → I.yld i H x H' → ∃ F2, Same F1 F2 ∧ Ok K F2 M H' ∧ Rp K F2 x d
theorem Wk.mono {I : It} {ds : List D} (w : Wk K F I ds) (e : Same F F') : Wk K F' I ds :=
  ⟨fun i H hi s => w.goes i H hi (e.trans s), fun H s => w.stops H (e.trans s), fun i d H x H' F1 M hd s => w.yields i d H x H' F1 M hd (e.trans s)⟩
def Ki (K : PySem.W.Frag) (F : Hp) (P : List D → Mem → Prop) (R : It → Hp → Prop) : Prop := ∀ ds I M' F' H', P ds M' → Same F F' → Ok K F' M' H' → Wk K F' I ds → R I H'
/-- what a loop walks -/
def IX (X : Cx) (J : Gh) (tg iter : Expr) (ρ : DEnv) (M : Mem) (P : List D → Mem → Prop) : Prop := PI X tg iter fun σ H R => ∃ F, Sts X.K J F σ H ρ M ∧ Ki X.K F P R
def tIe (X : Cx) (tg iter : Expr) : TI := fun σ H R => ∃ t, PI X tg iter t ∧ t σ H R
theorem IX.go {tg iter : Expr} {P : List D → Mem → Prop} (h : IX X J tg iter ρ M P) (s : Sts X.K J F σ H ρ M) {R : It → Hp → Prop} (k : Ki X.K F P R) : tIe X tg iter σ H R := ⟨_, h, F, s, k⟩
end
end DX
namespace DX
open PySem PySem.Spec L2

section
variable {X : Cx} {J : Gh} {e a b c : Expr} {es : List Expr} {st : Stmt} {rest sts : List Stmt} {ρ ρ' : DEnv} {M M' : Mem} {F F' H H' : Hp} {σ : St} {B : Bd} {K : PySem.W.Frag} {pos p apos : Pos} {x : Str} {P : D → Mem → Prop}

variable {scope : Scope} {tg iter elt : Expr} {ifs : List Expr}
abbrev Tr := List D → Mem → (D → Mem → Prop) → Prop
end
end DX
namespace DX
open PySem PySem.Spec L2

structure FnG (pg : Program) (w : World) (K : PySem.W.Frag) (mg : Str → Option Value) (base : Heap) (k : Nat) (f : Addr) (fd : FuncData) (ps : List Str) (T : Tr) : Prop where
  len : ∀ ds M P, T ds M P → ds.length = ps.length
  go : ∀ (A : Around) (outer : List PySem.Env) (s : Shared) (H F : Hp) (M : Mem) (ds : List D) (P : D → Mem → Prop) (args : Args) (us : List Value) (vs : List V) (Q : VK), A.guards = some [] → Room k A → Env0 pg w K mg base A outer s H →
    BindsTo s fd args (ps.zip us) → Vals vs us → Ok K F M H → Rps K F vs ds → T ds M P → Kt K F P Q → codeAny (model pg w) A (.call (.ref f) args) (CR CX0 outer pg w H s Q E0) s
theorem FnG.mono {pg : Program} {w : World} {K : PySem.W.Frag} {mg : Str → Option Value} {base : Heap} {j k : Nat} {f : Addr} {fd : FuncData} {ps : List Str} {T : Tr} (G : FnG pg w K mg base j f fd ps T) (h : j ≤ k) : FnG pg w K mg base k f fd ps T :=
  ⟨G.len, fun A outer s H F M ds P args us vs Q g hr => G.go A outer s H F M ds P args us vs Q g (hr.mono h)⟩
end DX
namespace DX
open PySem PySem.Spec L2

section
variable {X : Cx} {J : Gh} {e a b c o : Expr} {es : List Expr} {ρ ρ' : DEnv} {M M' : Mem} {F F' H H' : Hp} {σ : St} {B : Bd} {K : PySem.W.Frag} {pos p apos cpos : Pos} {x : Str} {P : D → Mem → Prop}
/-- at h stands d; with another in its place the memory is f of it -/
structure At (M : Mem) (h : Addr) (d : D) (f : D → Mem) : Prop where
  get : M h = some d
  set : ∀ d', f d' = up M h d'
def KX (X : Cx) (J : Gh) (kws : List Keyword) (ρ : DEnv) (M : Mem) (P : List D → Mem → Prop) : Prop := PK X kws (tA X.K J ρ M P)
def tKe (X : Cx) (kws : List Keyword) : TA := fun σ H Q => ∃ t, PK X kws t ∧ t σ H Q
theorem KX.go {kws : List Keyword} {P : List D → Mem → Prop} (h : KX X J kws ρ M P) (s : Sts X.K J F σ H ρ M) {Q : List V → Hp → Prop} (k : Ka X.K F P Q) : tKe X kws σ H Q := ⟨_, h, F, s, k⟩
end
end DX
namespace DX
open PySem PySem.Spec L2
structure Hs where
  cells : List Int
  at_ : Int
  gr : Int
structure HOk (s : Hs) (n : Int) : Prop where
  a0 : 0 ≤ s.at_
  an : s.at_ ≤ n
  g0 : 0 ≤ s.gr
theorem HOk.mono {s : Hs} {n m : Int} (h : HOk s n) (l : n ≤ m) : HOk s m := ⟨h.a0, by have := h.an; omega, h.g0⟩
end DX
namespace DX
open PySem PySem.Spec L2
def kn : D → String
  | .bl _ => "bool"
  | .int _ => "int"
  | .str _ => "str"
  | .tup _ => "tuple"
  | .lst _ => "list"
  | .dct _ => "dict"
  | _ => "NoneType"
def plain : D → Bool
  | .adr _ => false
  | .ty _ => false
  | .scr _ => false
  | .ins _ _ => false
  | .stup _ => false
  | .exn _ _ => false
  | _ => true
theorem kn_mem (d : D) : kn d ∈ ["NoneType", "bool", "int", "str", "tuple", "list", "dict"] := by
  cases d <;> simp [kn]
section
variable {X : Cx} {J : Gh} {e a b c o : Expr} {es : List Expr} {st : Stmt} {ρ ρ' : DEnv} {M M' : Mem} {F F' H H' : Hp} {σ : St} {B : Bd} {K : PySem.W.Frag} {pos p apos cpos : Pos} {x : Str} {P : D → Mem → Prop}
theorem ty_of {d : D} {v : V} (h : plain d = true) (hs : Same F H) (r : Rp K F v d) : TyX K H v (.type (kn d)) := by
  cases r with
  | non => exact .base .non
  | bl b => exact .base (.bl b)
  | int i => exact .base (.int i)
  | str x => exact .base (.str x)
  | lst h1 r => exact .base (.lst (hs _ _ h1))
  | tup h1 r =>
    rcases h1 with (h1 | ⟨o, h1⟩) | ⟨o, its, n, h1, h2, _⟩
    · exact .base (.tup (hs _ _ h1))
    · exact .fTuple (hs _ _ h1)
    · exact .kTuple h1 h2
  | dct h1 r => exact .base (.dK (hs _ _ h1))
  | adr a => cases h
  | ty n => cases h
  | scr h1 => cases h
  | exn h1 c r => cases h
  | ins h1 r => cases h
  | stup h1 c r => cases h
  | stupK h1 c => cases h
end
end DX
namespace DX
open PySem PySem.Spec L2
open SX
section
variable {X : Cx} {J : Gh} {M : Mem} {P : D → Mem → Prop}
def acc (f : Nat → Int) : Nat → Int
  | 0 => 0
  | i + 1 => acc f i + 2 ^ i * f i
end
end DX
namespace DX
open PySem PySem.Spec L2 PyProof.Rows StX

/-- t looks names up in the dict at D, one behind another, and ends in what fin says -/
def KwChainE {α : Type} (D : Addr) (fin : Sem α → Prop) : List (Str × Value) → Sem α → Prop
  | [], t => fin t
  | q :: l, t => ∃ (β γ : Type) (k1 : Option Value → Sem β) (k2 : β → Sem γ) (k3 : γ → Sem α) (a : β), t = ((nsGet D q.1 >>= k1) >>= k2) >>= k3 ∧ k1 (some q.2) = pure a ∧ KwChainE D fin l (k2 a >>= k3)
theorem KwChainE.run {α : Type} {K : PySem.W.Frag} {M : Model} {A : Around} {s : Shared} {D : Addr} {fin : Sem α → Prop} {Q : α → Shared → Prop} {E : Value → Shared → Prop} (X : K.In s.heap) (hf : ∀ t, fin t → wpAny M A t Q E s) :
    ∀ {l : List (Str × Value)} {t : Sem α}, (∀ q ∈ l, PySem.W.nsIn K D q.1 = some (some q.2)) → KwChainE D fin l t → wpAny M A t Q E s
  | [], t, _, e => hf t e
  | q :: l, t, hl, e => by
    obtain ⟨β, γ, k1, k2, k3, a, e1, e2, e3⟩ := e
    have l1 : PySem.W.Looks M s.heap (nsGet D q.1 >>= k1) a := (PySem.W.looks_nsIn X (hl q (List.mem_cons_self ..))).andThen (PySem.W.Looks.of_pure e2)
    rw [e1, bind_assoc]
    exact wpAny_bind (l1.here (KwChainE.run X hf (fun p hp => hl p (List.mem_cons_of_mem _ hp)) e3))
section
variable {pg : Program} {w : World} {K : PySem.W.Frag} {mg : Str → Option Value} {base : Heap} {x qual : Str} {params : Arguments} {body : List Stmt} {scope : Scope} {kws : List (Str × V)} {f : Addr} {fd : FuncData} {N pn : List Str} {pv : Str} {k : Nat} {T : Tr} {gd : Bool}
theorem Rps.split {F : Hp} : ∀ {vs : List V} {d1 d2 : List D}, Rps K F vs (d1 ++ d2) → ∃ v1 v2, vs = v1 ++ v2 ∧ Rps K F v1 d1 ∧ Rps K F v2 d2
  | vs, [], d2, h => ⟨[], vs, rfl, .nil, h⟩
  | _, d :: d1, d2, h => by
    cases h with
    | cons a r =>
      obtain ⟨v1, v2, e, r1, r2⟩ := Rps.split r
      exact ⟨_ :: v1, v2, by rw [e]; rfl, .cons a r1, r2⟩
end

section
variable {X : Cx} {J : Gh} {e a b c o : Expr} {es : List Expr} {ρ ρ' : DEnv} {M M' : Mem} {F F' H H' : Hp} {σ : L2.St} {B : Bd} {K : PySem.W.Frag} {pos p apos cpos : Pos} {x : Str} {P : D → Mem → Prop}
def valD (kvs : List (Key × D)) (k : Key) : Option D := (kvs.find? fun kv => decide (kv.1 = k)).map (·.2)
def putD (kvs : List (Key × D)) (k : Key) (v : D) : List (Key × D) :=
  if (kvs.any fun kv => decide (kv.1 = k)) = true then kvs.map (fun kv => if kv.1 = k then (kv.1, v) else kv) else kvs ++ [(k, v)]
theorem Rks.get {k : Key} : ∀ {vs : List (Key × V)} {ds : List (Key × D)}, Rks K F vs ds → (valV vs k = none ∧ valD ds k = none) ∨ ∃ v d, valV vs k = some v ∧ valD ds k = some d ∧ Rp K F v d
  | _, _, .nil => .inl ⟨rfl, rfl⟩
  | _, _, .cons (x := y) h r => by
    by_cases e : y = k
    · exact .inr ⟨_, _, valV_pos e, by simp [valD, List.find?_cons, e], h⟩
    · rcases Rks.get (k := k) r with ⟨h1, h2⟩ | ⟨v, d, h1, h2, h3⟩
      · exact .inl ⟨by rw [valV_neg e]; exact h1, by simpa [valD, List.find?_cons, e] using h2⟩
      · exact .inr ⟨v, d, by rw [valV_neg e]; exact h1, by simpa [valD, List.find?_cons, e] using h2, h3⟩
theorem Rks.any {k : Key} : ∀ {vs : List (Key × V)} {ds : List (Key × D)}, Rks K F vs ds → (vs.any fun kv => decide (kv.1 = k)) = ds.any fun kv => decide (kv.1 = k)
  | _, _, .nil => rfl
  | _, _, .cons h r => by rw [List.any_cons, List.any_cons, Rks.any r]
theorem Rks.over {k : Key} {v : V} {d : D} (h : Rp K F v d) : ∀ {vs : List (Key × V)} {ds : List (Key × D)}, Rks K F vs ds → Rks K F (vs.map fun kv => if kv.1 = k then (kv.1, v) else kv) (ds.map fun kv => if kv.1 = k then (kv.1, d) else kv)
  | _, _, .nil => .nil
  | _, _, .cons (x := y) h' r => by
    rw [List.map_cons, List.map_cons]
    by_cases e : y = k
    · rw [if_pos e, if_pos e]; exact .cons h (Rks.over h r)
    · rw [if_neg e, if_neg e]; exact .cons h' (Rks.over h r)
theorem Rks.append : ∀ {v w : List (Key × V)} {d e : List (Key × D)}, Rks K F v d → Rks K F w e → Rks K F (v ++ w) (d ++ e)
  | _, _, _, _, .nil, s => s
  | _, _, _, _, .cons h r, s => .cons h (Rks.append r s)
theorem Rks.put {k : Key} {v : V} {d : D} {vs : List (Key × V)} {ds : List (Key × D)} (h : Rp K F v d) (r : Rks K F vs ds) : Rks K F (putK vs k v) (putD ds k d) := by
  unfold putK putD
  rw [r.any]
  split
  · exact r.over h
  · exact r.append (.cons h .nil)
end
end DX
namespace DX
open PySem PySem.Spec L2
/-- sys.modules' place holds a dict: read off the written part -/
def sysB (K : PySem.W.Frag) : Bool := match K.lookup sysModules with
  | some o => decide (o.cls = .type "dict")
  | none => false
end DX
namespace DX
open PySem PySem.Spec L2 StX PyProof.Rows
inductive Is (M : Mem) : D → Addr → List (Str × D) → Prop
  | frz {C : Addr} {gs : List (Str × D)} : Is M (.ins C gs) C gs
  | adr {p C : Addr} {gs : List (Str × D)} : M p = some (.ins C gs) → Is M (.adr p) C gs
section
variable {K : PySem.W.Frag} {F H : Hp} {M : Mem}
theorem Is.get {d : D} {C : Addr} {gs : List (Str × D)} {v : V} (s : Is M d C gs) (o : Ok K F M H) (r : Rp K F v d) : ∃ a dx fs, v = .ref a ∧ H a = some (.ins C dx fs) ∧ Rfs K F fs gs := by
  cases s with
  | frz =>
    cases r with
    | ins h r => exact ⟨_, _, _, rfl, o.ex _ _ h, r⟩
  | adr h =>
    cases r
    obtain ⟨_, dx, fs, h1, h2⟩ := o.mt _ _ h
    exact ⟨_, dx, fs, rfl, h1, h2⟩
theorem Rfs.look {f : Str} : ∀ {fs : List (Str × V)} {gs : List (Str × D)}, Rfs K F fs gs → (fs.lookup f = none ∧ gs.lookup f = none) ∨ ∃ v d, fs.lookup f = some v ∧ gs.lookup f = some d ∧ Rp K F v d
  | _, _, .nil => .inl ⟨rfl, rfl⟩
  | _, _, .cons (x := x) h r => by
    by_cases e : f = x
    · subst e; exact .inr ⟨_, _, by simp [List.lookup], by simp [List.lookup], h⟩
    · have e2 : (f == x) = false := by simpa using e
      rcases Rfs.look (f := f) r with ⟨h1, h2⟩ | ⟨v, d, h1, h2, h3⟩
      · exact .inl ⟨by simpa [List.lookup, e2] using h1, by simpa [List.lookup, e2] using h2⟩
      · exact .inr ⟨v, d, by simpa [List.lookup, e2] using h1, by simpa [List.lookup, e2] using h2, h3⟩
def putG (f : Str) (v : D) : List (Str × D) → List (Str × D)
  | [] => [(f, v)]
  | (g, x) :: r => if g = f then (g, v) :: r else (g, x) :: putG f v r
theorem Rfs.put {f : Str} {v : V} {d : D} (h : Rp K F v d) : ∀ {fs : List (Str × V)} {gs : List (Str × D)}, Rfs K F fs gs → Rfs K F (putF f v fs) (putG f d gs)
  | _, _, .nil => .cons h .nil
  | _, _, .cons (x := x) h' r => by
    unfold putF putG
    by_cases e : x = f
    · rw [if_pos e, if_pos e]; exact .cons h r
    · rw [if_neg e, if_neg e]; exact .cons h' (Rfs.put h r)
theorem Rfs.length : ∀ {fs : List (Str × V)} {gs : List (Str × D)}, Rfs K F fs gs → fs.length = gs.length
  | _, _, .nil => rfl
  | _, _, .cons _ r => congrArg Nat.succ r.length
/-- an object beside -/
theorem Ok.more (k : Ok K F M H) {a : Addr} {o : HO} (h : H a = none) : Ok K F M (upd H a o) := by
  refine ⟨fun b u e => ?_, fun b d e => ?_⟩
  · rw [upd_ne (ne_of_none (k.ex b u e) h)]; exact k.ex b u e
  · obtain ⟨m1, m2⟩ := k.mt b d e
    obtain ⟨o2, h2⟩ := m2.there
    exact ⟨m1, m2.mono (Same.refl F) (upd_ne (ne_of_none h2 h))⟩
end
end DX
namespace DX
open PySem PySem.Spec L2
def prAd (K : PySem.W.Frag) (C f : Str) : Addr × Addr := match PySem.W.findIn K (.ref (He.ga K C)) f with
  | some (some (.ref p)) => (match PySem.W.recIn K p "property" with
    | some (.ref g :: _) => (p, g)
    | _ => (match PySem.W.recIn K p "classmethod" with
      | some (.ref g :: _) => (p, g)
      | _ => (0, 0)))
  | _ => (0, 0)
def fnWA (K : PySem.W.Frag) (a : Addr) : He.FnW := match K.lookup a with
  | some ⟨_, _, .func fd, _⟩ => some (fd.name, fd.qualname, fd.params, fd.body, fd.scope, fd.globals, fd.closure, fd.builtins)
  | _ => none
/-- the same of a def that has captured a cell -/
def fnWS (K : PySem.W.Frag) (a : Addr) : He.FnW := match K.lookup a with
  | some ⟨_, _, .func fd, _⟩ => some (fd.name, fd.qualname, fd.params, fd.body, fd.scope, fd.globals, [], fd.builtins)
  | _ => none
/-- a property's getter: the class, the property's name; its def -/
def prB (K : PySem.W.Frag) (C f q : Str) : Bool :=
  He.eqO (PySem.W.findIn K (.ref (He.ga K C)) f) (some (some (.ref (prAd K C f).1))) && (He.eqO (PySem.W.specialIn K (.ref (prAd K C f).1) "__get__") (some (some (.builtin "property.__get__"))) &&
    (decide (PySem.W.takesIn K (.ref (prAd K C f).1) = some true) && ((match PySem.W.recIn K (prAd K C f).1 "property" with
      | some (v :: _) => decide (v = .ref (prAd K C f).2)
      | _ => false) && (PySem.W.keepIn K (.ref (prAd K C f).2) && (match K.lookup (prAd K C f).2 with
        | some ⟨_, _, .func fd, _⟩ => PySem.W.codeIn K fd.code q && (He.dflB K fd.defaults [] && He.kwdB K fd.kwdefaults [])
        | _ => false)))))
/-- a classmethod: the class, its name; its def -/
def cmB (K : PySem.W.Frag) (C f q : Str) : Bool :=
  PySem.W.readsIn K (He.ga K C) (.type "type") && (He.eqO (PySem.W.specialIn K (.ref (He.ga K C)) "__getattribute__") (some (some (.builtin "type.__getattribute__"))) &&
    ((match PySem.W.findCls K (.ref (He.ga K C)) (.type "type") f with
      | some (.get (.builtin g) (.ref p) .none (.ref D)) => decide (g = "classmethod.__get__") && (decide (p = (prAd K C f).1) && decide (D = He.ga K C))
      | _ => false) && ((match PySem.W.recIn K (prAd K C f).1 "classmethod" with
      | some (v :: _) => decide (v = .ref (prAd K C f).2)
      | _ => false) && (PySem.W.fnIn K (prAd K C f).2 && (PySem.W.keepIn K (.ref (prAd K C f).2) && (match K.lookup (prAd K C f).2 with
        | some ⟨_, _, .func fd, _⟩ => PySem.W.codeIn K fd.code q && (He.dflB K fd.defaults [] && He.kwdB K fd.kwdefaults [])
        | _ => false))))))
/-- a setter: the property's record, its second def -/
def psAd (K : PySem.W.Frag) (C f : Str) : Addr × Addr := match PySem.W.findIn K (.ref (He.ga K C)) f with
  | some (some (.ref p)) => (match PySem.W.recIn K p "property" with
    | some (_ :: .ref g :: _) => (p, g)
    | _ => (0, 0))
  | _ => (0, 0)
def psB (K : PySem.W.Frag) (C f q : Str) : Bool :=
  He.eqO (PySem.W.takerIn K (He.ga K C) f) (some (some (.ref (psAd K C f).1))) && (decide (PySem.W.typeIn K (.ref (psAd K C f).1) = some (.type "property")) &&
    ((match PySem.W.recIn K (psAd K C f).1 "property" with
      | some (_ :: v :: _) => decide (v = .ref (psAd K C f).2)
      | _ => false) && (PySem.W.keepIn K (.ref (psAd K C f).2) && (match K.lookup (psAd K C f).2 with
        | some ⟨_, _, .func fd, _⟩ => PySem.W.codeIn K fd.code q && (He.dflB K fd.defaults [] && He.kwdB K fd.kwdefaults [])
        | _ => false))))
/-- a getter's def (0; at_: the class, the property), a classmethod's (1), a setter's (2) -/
structure PrD where
  kd : Nat
  cls : Str
  nm : Str
  qual : Str
  params : Arguments
  body : List Stmt
  scope : Scope
def PrD.ad (K : PySem.W.Frag) (d : PrD) : Addr × Addr := match d.kd with
  | 2 => psAd K d.cls d.nm
  | 3 => (He.fAd K (d.cls, some d.nm), He.fAd K (d.cls, some d.nm))
  | _ => prAd K d.cls d.nm
/-- what is seen of it: a method that has captured a cell (3) without that cell -/
def PrD.fw (K : PySem.W.Frag) (d : PrD) : He.FnW := match d.kd with
  | 3 => fnWS K (d.ad K).2
  | _ => fnWA K (d.ad K).2
def PrD.okB (K : PySem.W.Frag) (d : PrD) : Bool := match d.kd with
  | 0 => prB K d.cls d.nm d.qual
  | 1 => cmB K d.cls d.nm d.qual
  | 2 => psB K d.cls d.nm d.qual
  | 3 => true
  | _ => false
def PrD.val (d : PrD) : He.FnW := some (d.nm, d.qual, d.params, .stmts d.body, d.scope, mainGlobals, [], builtinsNs)
def obsP (fa : List He.Fa) (fn : List He.DefD) (pr : List PrD) (ex : PySem.W.Frag → Bool) (K : PySem.W.Frag) : He.AlD × Bool × List He.FnW :=
  (He.obsD fa fn K, ex K && pr.all (fun d => d.okB K), pr.map fun d => d.fw K)
def SaysP (fa : List He.Fa) (fn : List He.DefD) (pr : List PrD) (ex : PySem.W.Frag → Bool) (K : PySem.W.Frag) : Prop := obsP fa fn pr ex K = (He.valD fn, true, pr.map PrD.val)
section
variable {fa : List He.Fa} {fn : List He.DefD} {pr : List PrD} {ex : PySem.W.Frag → Bool} {K : PySem.W.Frag}
theorem SaysP.says (c : SaysP fa fn pr ex K) : He.SaysD fa fn K := congrArg Prod.fst c
end
end DX
namespace DX
open PySem PySem.Spec L2
section
variable {X : Cx} {J : Gh} {e a b c : Expr} {es : List Expr} {ρ ρ' : DEnv} {M M' : Mem} {F F' H H' : Hp} {σ : St} {B : Bd} {K : PySem.W.Frag} {pos p : Pos} {x : Str} {P : D → Mem → Prop}
variable {scope : Scope} {tg iter elt : Expr} {ifs : List Expr}
theorem En.frz : ∀ {σ : St} {ρ : DEnv} {i : Nat} {q : Addr} {d : D}, En K F σ ρ → DX.look ρ i = some (.adr q) → Rp K F (.ref q) d → En K F σ (DX.put ρ i d)
  | _, _, i, _, _, .nil, e, _ => by simp [DX.look] at e
  | _, _, 0, q, d, .cons h r, e, rq => .cons (fun x z => by
    obtain ⟨y, a, b⟩ := h (.adr q) e
    cases z
    cases b
    exact ⟨_, a, rq⟩) r
  | _, _, i + 1, q, d, .cons h r, e, rq => .cons h (En.frz r e rq)
end
end DX
namespace DX
open PySem PySem.Spec L2 SX

noncomputable section
theorem so {α : Type} {a b : α} (h : some a = some b) : a = b := Option.some.inj h
def frzD : D → Bool
  | .lst _ => true
  | .ins _ _ => true
  | .dct _ => true
  | _ => false
/-- x, as it stands in a name, is seen as d -/
inductive Vw (M : Mem) : D → D → Prop
  | id {d : D} : Vw M d d
  | ad {p : Addr} {d : D} : M p = some d → frzD d = true → Vw M (.adr p) d
section
variable {X : Cx} {J : Gh} {e a b c o : Expr} {es : List Expr} {ρ ρ' : DEnv} {M M' : Mem} {F F' H H' : Hp} {σ : L2.St} {B : Bd} {K : PySem.W.Frag} {pos p apos cpos : Pos} {x y dx dy z : D} {P : D → Mem → Prop} {t : Bool}
theorem Vw.sl {ds : List D} (v : Vw M x (.lst ds)) : Sl M x ds := by
  cases v with
  | id => exact .lst
  | ad h hf => exact .adr h
theorem Vw.sq {ds : List D} (v : Vw M x (.lst ds)) : Sq M x ds := v.sl.sq
theorem Vw.rtup {ds : List D} {v : V} (w : Vw M x (.tup ds)) (o : Ok K F M H) (r : Rp K F v x) : Rp K F v (.tup ds) := by
  cases w with
  | id => exact r
  | ad h hf => exact (o.mt _ _ h).2.elim
theorem Vw.int {i : Int} (w : Vw M x (.int i)) (o : Ok K F M H) : x = .int i := by
  cases w with
  | id => rfl
  | ad h hf => exact (o.mt _ _ h).2.elim
theorem Vw.str {i : Str} (w : Vw M x (.str i)) (o : Ok K F M H) : x = .str i := by
  cases w with
  | id => rfl
  | ad h hf => exact (o.mt _ _ h).2.elim
/-- a list, a tuple, as lists of V -/
theorem Vw.seq {ds : List D} {v : V} (w : Vw M x z) (hz : z = .lst ds ∨ z = .tup ds) (o : Ok K F M H) (r : Rp K F v x) : ∃ p xs, v = .ref p ∧ (SqL K H p xs ∨ SqT K H p xs) ∧ Rps K F xs ds := by
  rcases hz with rfl | rfl
  · exact w.sq.get o r
  · have r := w.rtup o r
    cases r with
    | tup h r => exact ⟨_, _, rfl, .inr (same_t o.ex h), r⟩
/-- plain data but in what changes -/
def imm : D → Bool
  | .lst _ => false
  | .ins _ _ => false
  | .dct _ => false
  | .tbl _ => false
  | .dtx _ => false
  | _ => true
theorem Vw.rp {v : V} (w : Vw M x z) (hz : imm z = true) (o : Ok K F M H) (r : Rp K F v x) : Rp K F v z := by
  cases w with
  | id => exact r
  | ad h hf =>
    have := (o.mt _ _ h).2
    cases z <;> first | exact this.elim | cases hz

end
end
end DX
namespace DX
open PySem PySem.Spec L2 SX
noncomputable section
section
variable {X : Cx} {J : Gh} {e a b c o : Expr} {es : List Expr} {ρ ρ' : DEnv} {M M' M0 M1 : Mem} {F F' H H' : Hp} {σ : L2.St} {B : Bd} {K : PySem.W.Frag} {pos p apos cpos : Pos} {x y dx dy z : D} {P : D → Mem → Prop} {t : Bool}
theorem At.ne {h b : Addr} {d : D} {f : D → Mem} (A : At M h d f) (q : M b = none) : h ≠ b := by rintro rfl; rw [A.get] at q; cases q
def Sub (M0 M1 : Mem) : Prop := ∀ a d, M0 a = some d → M1 a = some d
def SubX (p : Addr) (M0 M1 : Mem) : Prop := ∀ a d, M0 a = some d → a ≠ p ∧ M1 a = some d
theorem Ok.sub (o : Ok K F M1 H) (s : Sub M0 M1) : Ok K F M0 H := ⟨o.ex, fun a d h => o.mt a d (s a d h)⟩
theorem Ok.frz {p : Addr} {u : HO} (o : Ok K F M1 H) (s : SubX p M0 M1) {d : D} (hp : M1 p = some d) (hH : H p = some u) : Same F (upd F p u) ∧ Ok K (upd F p u) M0 H := by
  obtain ⟨h1, h2⟩ := o.freeze hp hH
  refine ⟨h1, h2.sub fun a d' q => ?_⟩
  obtain ⟨q1, q2⟩ := s a d' q
  unfold rm; rw [if_neg q1]; exact q2
theorem Mt.rp {p : Addr} {d : D} {u : HO} (m : Mt K F H p d) (h : H p = some u) (s : Same F F') (hF : F' p = some u) (hf : frzD d = true) : Rp K F' (.ref p) d := by
  cases d <;> first
    | exact m.elim
    | (cases hf; done)
    | (obtain ⟨xs, g1, g2⟩ := m; rw [h] at g1; cases g1; first | exact .lst hF (g2.mono s) | exact .dct hF (g2.mono s))
    | (obtain ⟨dx, fs, g1, g2⟩ := m; rw [h] at g1; cases g1; exact .ins hF (g2.mono s))
theorem AX.imp {P' Q' : List D → Mem → Prop} (h : AX X J es ρ M P') (k : ∀ d M', P' d M' → Q' d M') : AX X J es ρ M Q' := ax_of h fun F σ H Q st q => ⟨F, st, fun d v M' F' H' p => q d v M' F' H' (k d M' p)⟩
end
end
end DX
namespace DX
open PySem PySem.Spec L2
open PyProof.Rows hiding St
section
variable {X : Cx} {J : Gh} {e a b c o : Expr} {es : List Expr} {ρ : DEnv} {M : Mem} {F F' H H' : Hp} {σ : St} {K : PySem.W.Frag} {pos p q apos cpos : Pos} {P : D → Mem → Prop} {f : Str}
/-- an instance, or the place of one that may change -/
inductive Iw (M : Mem) : D → D → Prop
  | id {d : D} : Iw M d d
  | ad {p : Addr} {d : D} : M p = some d → Iw M (.adr p) d
theorem Iw.is {d : D} {C : Addr} {gs : List (Str × D)} (w : Iw M d (.ins C gs)) : Is M d C gs := by
  cases w with
  | id => exact .frz
  | ad h => exact .adr h
end
end DX
namespace DX
open PySem PySem.Spec L2 PyProof.Rows StX
/-- what is let out: a class, the fields, what may change -/
abbrev RX := Addr → List (Str × D) → Mem → Prop
def noX : RX := fun _ _ _ => False
def ExR (K : PySem.W.Frag) (F : Hp) (C : Addr) (gs : List (Str × D)) (cls : Value) (d : Option Addr) : Prop :=
  (C ≠ 0 ∧ cls = .ref C ∧ ((gs = [] ∧ d = none) ∨ ∃ dd fs, d = some dd ∧ F dd = some (.xd fs) ∧ Rfs K F fs gs)) ∨ (C = 0 ∧ ∃ n, gs = [(("!" : Str), D.ty n)] ∧ cls = .type n)
theorem ExR.own {K : PySem.W.Frag} {F : Hp} {C : Addr} {gs : List (Str × D)} {cls : Value} {d : Option Addr} (x : ExR K F C gs cls d) (nz : C ≠ 0) : cls = .ref C ∧ ((gs = [] ∧ d = none) ∨ ∃ dd fs, d = some dd ∧ F dd = some (.xd fs) ∧ Rfs K F fs gs) := by
  rcases x with ⟨_, x⟩ | ⟨z, _⟩
  · exact x
  · exact absurd z nz
def Kx (K : PySem.W.Frag) (F : Hp) (R : RX) (E : XK) : Prop := ∀ C gs M' F' H' cls d, R C gs M' → Same F F' → Ok K F' M' H' → ExR K F' C gs cls d → E cls d H'
theorem Kx.to {K : PySem.W.Frag} {F F' : Hp} {R : RX} {E : XK} (k : Kx K F R E) (e : Same F F') : Kx K F' R E := fun C gs M' F2 H' cls d r e2 => k C gs M' F2 H' cls d r (e.trans e2)
theorem Kx.no {K : PySem.W.Frag} {F : Hp} {E : XK} : Kx K F noX E := fun _ _ _ _ _ _ _ r => r.elim
abbrev TrX := List D → List D → Mem → (D → Mem → Prop) → RX → Prop
structure FnX (pg : Program) (w : World) (K : PySem.W.Frag) (mg : Str → Option Value) (base : Heap) (gd : Bool) (k : Nat) (f : Addr) (ks : List Str) (T : TrX) : Prop where
  go : ∀ (A : Around) (outer : List PySem.Env) (s : Shared) (H F : Hp) (M : Mem) (ds zs : List D) (P : D → Mem → Prop) (R : RX) (us ws : List Value) (vs xs : List V) (Q : VK) (E : XK), (gd = true → A.guards = some []) → Room k A → Env0 pg w K mg base A outer s H →
    Vals vs us → Vals xs ws → ws.length = ks.length → Ok K F M H → Rps K F vs ds → Rps K F xs zs → T ds zs M P R → Kt K F P Q → Kx K F R E → codeAny (model pg w) A (.call (.ref f) ⟨us, ks.zip ws⟩) (CR (L2.CX pg w) outer pg w H s Q E) s
theorem FnX.mono {pg : Program} {w : World} {K : PySem.W.Frag} {mg : Str → Option Value} {base : Heap} {gd : Bool} {j k : Nat} {f : Addr} {ks : List Str} {T : TrX} (G : FnX pg w K mg base gd j f ks T) (h : j ≤ k) : FnX pg w K mg base gd k f ks T :=
  ⟨fun A outer s H F M ds zs P R us ws vs xs Q E hg hr => G.go A outer s H F M ds zs P R us ws vs xs Q E hg (hr.mono h)⟩
/-- what stood at the beginning stands -/
def ghF (F0 : Hp) : Gh := ⟨fun F => Same F0 F, fun F F' e h => Same.trans h e⟩
/-- the context lets out what R tells -/
structure Lets (X : Cx) (J : Gh) (R : Addr → List (Str × D) → DEnv → Mem → Prop) : Prop where
  ex : ∃ W : L2.WX, Takes X W ∧ ∀ cls d σ H F ρ M C gs, Sts X.K J F σ H ρ M → ExR X.K F C gs cls d → R C gs ρ M → W cls d σ H
theorem takes_no {X : Cx} : Takes X (fun _ _ _ _ => False) := fun _ _ x => by
  obtain ⟨_, _, _, _, _, _, _, _, _, _, _, _, _, _, _, _, z⟩ := x
  exact z.elim
theorem Lets.no {X : Cx} {J : Gh} : Lets X J (fun _ _ _ _ => False) := ⟨_, takes_no, fun _ _ _ _ _ _ _ _ _ _ _ r => r⟩
/-- the def at f has the code cdv -/
def CodeAt (K : PySem.W.Frag) (f : Addr) (cdv : Value) : Prop := ∃ oc od osl fd, K.lookup f = some ⟨oc, od, .func fd, osl⟩ ∧ fd.code = cdv
end DX
namespace DX
open PySem PySem.Spec L2 PyProof.Rows StX
section
variable {X : Cx} {J : Gh} {e a b o : Expr} {es : List Expr} {kws : List Keyword} {ks : List Str} {ρ : DEnv} {M M1 M2 : Mem} {F F' H H' : Hp} {σ : L2.St} {K : PySem.W.Frag} {pos p apos : Pos} {x m f : Str} {P : D → Mem → Prop} {PA : List D → List D → Mem → Prop} {RR : Addr → List (Str × D) → DEnv → Mem → Prop}
/-- the arguments are ds by place, zs by the keywords ks -/
def EvA (X : Cx) (J : Gh) (pos : Pos) (args : List Expr) (kws : List Keyword) (ks : List Str) (ρ : DEnv) (M : Mem) (PA : List D → List D → Mem → Prop) : Prop :=
  ∀ (fv : Value) (pins : List (Addr × Obj)) (σ : L2.St) (H F : Hp) (s : Shared) (Qa : Args → Shared → Prop), L2.Inv X pins σ H s → Sts X.K J F σ H ρ M →
    (∀ us ws vs xs ds zs F2 M2 H2 s2, L2.Inv X pins σ H2 s2 → Same F F2 → Ok X.K F2 M2 H2 → Vals vs us → Vals xs ws → Rps X.K F2 vs ds → Rps X.K F2 xs zs → zs.length = ks.length → PA ds zs M2 → Qa ⟨us, ks.zip ws⟩ s2) →
    wpAny (model X.prog X.w) X.A (evalArgs fv true (backTo pos (starEach args X.env)) (backToKw pos (keywordEach kws X.env))) Qa X.xe s
end
end DX
namespace DX
open PySem PySem.Spec L2 PyProof.Rows StX
/-- a value, that of an instance that changes no more, or one that may change -/
theorem Iw.rp {K : PySem.W.Frag} {F H : Hp} {M : Mem} {d : D} {C : Addr} {gs : List (Str × D)} {v : V} (i : Iw M d (.ins C gs)) (o : Ok K F M H) (r : Rp K F v d) : ∃ a dx fs, v = .ref a ∧ H a = some (.ins C dx fs) ∧ Rfs K F fs gs := i.is.get o r
section
variable {X : Cx} {J : Gh} {e a b o : Expr} {es : List Expr} {kws : List Keyword} {ks : List Str} {ρ : DEnv} {M M1 M2 : Mem} {F F' H H' : Hp} {σ : L2.St} {K : PySem.W.Frag} {pos p apos : Pos} {x m f : Str} {P : D → Mem → Prop} {RR : Addr → List (Str × D) → DEnv → Mem → Prop}
/-- the other side of a comparison: a value of a built-in type, or an instance of a class that does not go first -/
def Other (K : PySem.W.Frag) (C : Addr) (M : Mem) (y : D) : Prop := (plain y = true ∧ ∀ n ∈ ["NoneType", "bool", "int", "str", "tuple", "list", "dict"], PySem.W.subIn K (.type n) (.ref C) = some false) ∨ ∃ C' hs, Is M y C' hs ∧ PySem.W.notFirst K C (.ref C') = true
theorem Other.ty {C : Addr} {y : D} {v : V} {u : Value} {pins : List (Addr × Obj)} {s : Shared} (h : Other X.K C M y) (I : L2.Inv X pins σ H s) (o : Ok X.K F M H) (r : Rp X.K F v y) (rv : RelV v u) : ∃ tb, PySem.W.Looks (model X.prog X.w) s.heap (typeOf u) tb ∧ PySem.W.notFirst X.K C tb = true := by
  rcases h with ⟨h, hn⟩ | ⟨C', hs, hi, hn⟩
  · have ty := ty_of h o.ex r
    refine ⟨.type (kn y), ?_, by unfold PySem.W.notFirst; rw [hn _ (kn_mem y)]; simp⟩
    obtain ⟨Pk, kx, hp, _⟩ := kit_of I rv ty
    exact kx.ty _ _ I.kIn hp
  · obtain ⟨b, dy, fs', rfl, h2, _⟩ := hi.get o r
    obtain rfl : u = Value.ref b := rv
    obtain ⟨oy, od', J1, _⟩ := insC_at (X := X) I (.inr ⟨dy, fs', h2⟩)
    exact ⟨.ref C', J1.type, hn⟩
end
end DX
namespace DX
open PySem PySem.Spec L2 PyProof.Rows StX
/-- an instance of the class C -/
def isC (C : Addr) : D → Option (List (Str × D))
  | .ins C' gs => if C' = C then some gs else none
  | _ => none
end DX
namespace DX
open PySem PySem.Spec L2 PyProof.Rows StX LamX
/-- a def's code object and its table of code objects -/
def ctA (K : PySem.W.Frag) (x : Str × Option Str) : Addr × Addr := match K.lookup (He.fAd K x) with
  | some ⟨_, _, .func fd, _⟩ => (match fd.code with
    | .ref c => (match K.lookup c with
      | some ⟨_, _, .fields vs, _⟩ => (match (vs[11]? : Option Value) with
        | some (.ref P) => (c, P)
        | _ => (0, 0))
      | _ => (0, 0))
    | _ => (0, 0))
  | _ => (0, 0)
/-- the places of the tables and the names of what stands in them -/
abbrev TbL := List ((Str × Option Str) × Str)
end DX
namespace DX
open PySem PySem.Spec L2 PyProof.Rows StX LamX
abbrev TbN := List (Str × Option Str)
/-- what is known of the tables -/
structure TbK (K : PySem.W.Frag) (tn : TbN) (h : Heap) : Prop where
  ex : ∀ x ∈ tn, PySem.W.CodeHd h (ctA K x).1 (ctA K x).2 ∧ h.get? (ctA K x).2 = some { cls := .none, data := .fields #[] } ∧ K.lookup (ctA K x).2 = none
def tbOne (K : PySem.W.Frag) (tl : TbL) : Bool := tl.all fun x => match tl.find? fun y => (ctA K y.1).2 == (ctA K x.1).2 with
  | some y => decide (y.2 = x.2)
  | none => false
def hid (K : PySem.W.Frag) (tl : TbL) (H : Hp) : Hp := fun b => if (tl.any fun x => (ctA K x.1).2 == b) = true then none else H b
def cutK (K : PySem.W.Frag) (ps : List Addr) : PySem.W.Frag := K.filter fun p => !ps.contains p.1
theorem cutK_sub {ps : List Addr} {a : Addr} {o : Obj} : ∀ {K : PySem.W.Frag}, (cutK K ps).lookup a = some o → K.lookup a = some o
  | [], h => h
  | (b, ob) :: r, h => by
    unfold cutK at h
    rw [List.filter_cons] at h
    by_cases e : (!ps.contains b) = true
    · rw [if_pos (by exact e)] at h
      rw [List.lookup_cons] at h ⊢
      cases q : a == b with
      | true => rw [q] at h; exact h
      | false => rw [q] at h; exact cutK_sub (K := r) h
    · rw [if_neg (by exact e)] at h
      have h2 := cutK_sub (K := r) h
      rw [List.lookup_cons]
      cases q : a == b with
      | true =>
        have : a = b := beq_iff_eq.mp q
        subst this
        exfalso
        have hc : ps.contains a = true := by simpa using e
        have none_ : ∀ K : PySem.W.Frag, (cutK K ps).lookup a = none := fun K => by
          induction K with
          | nil => rfl
          | cons p r ih =>
            unfold cutK at ih ⊢
            rw [List.filter_cons]
            split
            · rename_i hq
              rw [List.lookup_cons]
              cases z : a == p.1 with
              | true =>
                have : a = p.1 := beq_iff_eq.mp z
                rw [← this, hc] at hq
                cases hq
              | false => exact ih
            · exact ih
        have := none_ r
        unfold cutK at this
        rw [this] at h; cases h
      | false => exact h2
def emptyTab (o : Option Obj) : Bool := match o with
  | some ⟨.none, none, .fields vs, sl⟩ => vs.size == 0 && sl.size == 0
  | _ => false
theorem emptyTab_eq {o : Option Obj} (h : emptyTab o = true) : o = some { cls := .none, data := .fields #[] } := by
  unfold emptyTab at h
  split at h
  · rename_i vs sl
    obtain ⟨h1, h2⟩ := He.ba h
    have e1 : vs = #[] := Array.eq_empty_of_size_eq_zero (beq_iff_eq.mp h1)
    have e2 : sl = #[] := Array.eq_empty_of_size_eq_zero (beq_iff_eq.mp h2)
    rw [e1, e2]
  · cases h
abbrev LookT := (He.AlD × Bool × List He.FnW) × Bool
def tabsB (K0 K : PySem.W.Frag) (tl : TbL) : Bool := tl.all (fun x => PySem.W.codeHdIn K (ctA K x.1).1 (ctA K x.1).2 && (emptyTab (K0.lookup (ctA K x.1).2) && (K.lookup (ctA K x.1).2).isNone)) && tbOne K tl
def addM : List Addr → List Addr → Nat → List Addr × Nat
  | [], acc, m => (acc, m)
  | a :: as, acc, m => match Nat.beq (Nat.land (Nat.shiftRight m a) 1) 1 with
    | true => addM as acc m
    | false => addM as (a :: acc) (Nat.lor m (Nat.shiftLeft 1 a))
def stepM (g : Addr → Option Obj) : List Addr → List Addr → Nat → List Addr × Nat
  | [], acc, m => (acc, m)
  | a :: as, acc, m => match g a with
    | some o => let r := addM (He.refsD o) acc m; stepM g as r.1 r.2
    | none => stepM g as acc m
def asM (g : Addr → Option Obj) : Nat → List Addr → Nat → List Addr
  | 0, fr, _ => fr
  | n + 1, fr, m => let r := stepM g fr [] m; fr ++ asM g n r.1 r.2
def asN (g : Addr → Option Obj) (n : Nat) : List Addr := asM g n [mainGlobals] (Nat.shiftLeft 1 mainGlobals)
def lookT (fa : List He.Fa) (fn : List He.DefD) (pr : List PrD) (ex : PySem.W.Frag → Bool) (tl : TbL) (n : Nat) (g : Addr → Option Obj) : LookT :=
  let K0 := He.frG g (cStatics :: sysModules :: asN g n)
  let K := cutK K0 (tl.map fun x => (ctA K0 x.1).2)
  (obsP fa fn pr ex K, tabsB K0 K tl)
def SaysT (fa : List He.Fa) (fn : List He.DefD) (pr : List PrD) (ex : PySem.W.Frag → Bool) (tl : TbL) (h : Heap) : Prop := ∃ K : PySem.W.Frag, K.In h ∧ SaysP fa fn pr ex K ∧ TbK K (tl.map (·.1)) h ∧ tbOne K tl = true
theorem saysT_of {fa : List He.Fa} {fn : List He.DefD} {pr : List PrD} {ex : PySem.W.Frag → Bool} {tl : TbL} {n : Nat} {h : Heap} (e : lookT fa fn pr ex tl n h.get? = ((He.valD fn, true, pr.map PrD.val), true)) : SaysT fa fn pr ex tl h := by
  have e1 := congrArg Prod.fst e
  have e2 : tabsB _ _ tl = true := congrArg Prod.snd e
  have in0 : PySem.W.Frag.In (He.frG h.get? (cStatics :: sysModules :: asN h.get? n)) h := He.frG_in
  refine ⟨_, fun b o z => in0 b o (cutK_sub z), e1, ⟨fun x hx => ?_⟩, (He.ba e2).2⟩
  obtain ⟨y, hy, rfl⟩ := List.mem_map.mp hx
  obtain ⟨q1, q⟩ := He.ba (List.all_eq_true.mp (He.ba e2).1 y hy)
  obtain ⟨q2, q3⟩ := He.ba q
  exact ⟨PySem.W.codeHd_of_K (fun b o z => in0 b o (cutK_sub z)) q1, in0 _ _ (emptyTab_eq q2), Option.isNone_iff_eq_none.mp q3⟩
def hookT (n : Nat) (fa : List He.Fa) (fn : List He.DefD) (pr : List PrD) (ex : PySem.W.Frag → Bool) (tl : TbL) : PySem.W.Hook where
  α := LookT
  obs := fun s => lookT fa fn pr ex tl n s.heap.get?
  val := fun _ => ((He.valD fn, true, pr.map PrD.val), true)
  says := fun _ h => SaysT fa fn pr ex tl h
  of := fun _ _ e => saysT_of e
  keeps := fun _ _ _ ⟨K, hK, c, t, u⟩ k => ⟨K, PySem.W.Frag.In.keeps hK k, c, ⟨fun x hx => let ⟨q1, q2, q3⟩ := t.ex x hx; ⟨q1.keeps k, k _ _ q2, q3⟩⟩, u⟩
end DX
namespace ZipL
open PySem PySem.Spec L2 PyProof.Rows
theorem zip_no_len : typeLookup (.type "zip") "__len__" = pure none := by rw [typeLookup_type, builtinLookup_eq_fast]; kernel_rfl
theorem zip_no_hint : typeLookup (.type "zip") "__length_hint__" = pure none := by rw [typeLookup_type, builtinLookup_eq_fast]; kernel_rfl
/-- the zip has given i pairs -/
def ZSt (z TI TO i1 i2 l1 l2 S : Addr) (xs ys : Array Value) (i : Nat) (h : Heap) : Prop :=
  IsPair h TI (.ref i1) (.ref i2) ∧ h.IsListIter i1 l1 i ∧ h.IsListIter i2 l2 i ∧ h.IsList l1 xs ∧ h.IsList l2 ys ∧ ((IsZip h z TI TO .none ∧ ∃ a b, IsPair h TO a b) ∨ ∃ T f oT, IsZipHeld h z TI TO T f ∧ h.get? T = some oT ∧ T ≠ z ∧ T ≠ i1 ∧ T ≠ i2 ∧ T ≠ S)
/-- the pairs given so far -/
def Acc (S : Addr) (xs ys : Array Value) (ts : List Addr) (h : Heap) : Prop :=
  (∀ T ∈ ts, S < T ∧ ∃ o, h.get? T = some o) ∧ ts.Pairwise (· < ·) ∧ ∀ (j : Nat) T, ts[j]? = some T → ∃ x y, xs[j]? = some x ∧ ys[j]? = some y ∧ IsPair h T x y
theorem Acc.keep {S : Addr} {xs ys : Array Value} {ts : List Addr} {h h' : Heap} (a : Acc S xs ys ts h) (k : ∀ b o, S < b → h.get? b = some o → h'.get? b = some o) : Acc S xs ys ts h' :=
  ⟨fun T hT => ⟨(a.1 T hT).1, let ⟨o, ho⟩ := (a.1 T hT).2; ⟨o, k _ _ (a.1 T hT).1 ho⟩⟩, a.2.1, fun j T hj => by
    obtain ⟨x, y, e1, e2, e3⟩ := a.2.2 j T hj
    exact ⟨x, y, e1, e2, k _ _ (a.1 T (List.mem_of_getElem? hj)).1 e3⟩⟩
theorem Acc.more {S T0 : Addr} {xs ys : Array Value} {ts : List Addr} {h : Heap} {x y : Value} (a : Acc S xs ys ts h) (hT : S < T0) (hl : ∀ T ∈ ts, T < T0) (ex : xs[ts.length]? = some x) (ey : ys[ts.length]? = some y) (e : IsPair h T0 x y) : Acc S xs ys (ts ++ [T0]) h := by
  refine ⟨fun T hm => ?_, ?_, fun j T hj => ?_⟩
  · rcases List.mem_append.mp hm with hm | hm
    · exact a.1 T hm
    · rw [List.mem_singleton] at hm; subst hm; exact ⟨hT, _, e⟩
  · rw [List.pairwise_append]
    exact ⟨a.2.1, List.pairwise_singleton _ _, fun u hu v hv => by rw [List.mem_singleton] at hv; subst hv; exact hl u hu⟩
  · by_cases hb : j < ts.length
    · rw [List.getElem?_append_left hb] at hj
      exact a.2.2 j T hj
    · rw [List.getElem?_append_right (by omega)] at hj
      have e1 : j - ts.length = 0 := by
        have := (List.getElem?_eq_some_iff.mp hj).1
        simp only [List.length_singleton] at this
        omega
      rw [e1] at hj
      have e2 : T0 = T := by simpa using hj
      subst e2
      have e3 : j = ts.length := by omega
      subst e3
      exact ⟨x, y, ex, ey, e⟩
section
variable {prog : Program} {w : World} {A : Around} {R : Result → Shared → Prop} {z TI TO i1 i2 l1 l2 S : Addr} {xs ys : Array Value}
/-- S stands behind all that the zip writes -/
structure Off (z TI TO i1 i2 l1 l2 S : Addr) : Prop where
  z : z < S
  TI : TI < S
  TO : TO < S
  i1 : i1 < S
  i2 : i2 < S
  l1 : l1 < S
  l2 : l2 < S
theorem loop (hh : A.in1.handled = none) (D : ZipApart z TI TO i1 i2 l1 l2) (O : Off z TI TO i1 i2 l1 l2 S) (hn : min xs.size ys.size ≤ sizeLine) (res : Value) :
    ∀ (k : Nat) (s : Shared) (ts : List Addr) (c : Nat), min xs.size ys.size - ts.length = k → ts.length ≤ min xs.size ys.size → ZSt z TI TO i1 i2 l1 l2 S xs ys ts.length s.heap →
    s.heap.get? S = some { cls := .type "list", dict := none, data := .seq (ts.map Value.ref).toArray c, slots := #[] } → Acc S xs ys ts s.heap →
    (∀ h' ts' c', (∀ b o, b ≠ S → b ≠ z → b ≠ TO → b ≠ i1 → b ≠ i2 → s.heap.get? b = some o → h'.get? b = some o) → h'.get? S = some { cls := .type "list", dict := none, data := .seq (ts'.map Value.ref).toArray c', slots := #[] } →
      ts'.length = min xs.size ys.size → Acc S xs ys ts' h' → R (.ok (.ret res)) { s with heap := h' }) →
    codeAny (model prog w) A (.builtin "list.extend.loop" ⟨[.ref S, .ref z, res], []⟩) R s := by
  intro k
  induction k with
  | zero =>
    intro s ts c hk hi hst hS hacc hR
    have hin : ts.length = min xs.size ys.size := by omega
    refine codeAny_builtin F.entry_extend_loop ?_
    rw [Around.under_plainId F.plain_extend_loop _]
    show wpAny _ A.in1 (pyNext (.ref z) >>= _) _ _ s
    obtain ⟨hTI, h1, h2, hl1, hl2, hz⟩ := hst
    have hend : xs[ts.length]? = none ∨ ys[ts.length]? = none := by
      rcases Nat.le_total xs.size ys.size with h | h
      · exact .inl (Array.getElem?_eq_none (by omega))
      · exact .inr (Array.getElem?_eq_none (by omega))
    have fin : ∀ h', (∀ b o, b ≠ z → b ≠ TO → b ≠ i1 → b ≠ i2 → s.heap.get? b = some o → h'.get? b = some o) → R (.ok (.ret res)) { s with heap := h' } := fun h' kp =>
      hR h' ts c (fun b o _ a1 a2 a3 a4 e => kp b o a1 a2 a3 a4 e) (kp _ _ (Nat.ne_of_gt O.z) (Nat.ne_of_gt O.TO) (Nat.ne_of_gt O.i1) (Nat.ne_of_gt O.i2) hS) hin (hacc.keep fun b o hb e => kp b o (Nat.ne_of_gt (Nat.lt_trans O.z hb)) (Nat.ne_of_gt (Nat.lt_trans O.TO hb)) (Nat.ne_of_gt (Nat.lt_trans O.i1 hb)) (Nat.ne_of_gt (Nat.lt_trans O.i2 hb)) e)
    rcases hz with ⟨hz, a, b, hTO⟩ | ⟨T, f, oT, hz, hT, r1, r2, r3, r4⟩
    · exact wpAny_bind (wpAny_pyNext_zip_end hh D hz hTI hTO h1 h2 hl1 hl2 hend fun h' hk => wpAny_pure (fin h' fun b o a1 a2 a3 a4 e => hk b o a1 a2 a3 a4 e))
    · exact wpAny_bind (wpAny_pyNext_zip_end_held hh D hz hT hTI h1 h2 hl1 hl2 hend fun h' hk => wpAny_pure (fin h' fun b o a1 a2 a3 a4 e => hk b o a1 a3 a4 e))
  | succ k ih =>
    intro s ts c hk hi hst hS hacc hR
    have hlt : ts.length < min xs.size ys.size := by omega
    refine codeAny_builtin F.entry_extend_loop ?_
    rw [Around.under_plainId F.plain_extend_loop _]
    show wpAny _ A.in1 (pyNext (.ref z) >>= _) _ _ s
    obtain ⟨hTI, h1, h2, hl1, hl2, hz⟩ := hst
    have hix : ts.length < xs.size := by omega
    have hiy : ts.length < ys.size := by omega
    have ex := Array.getElem?_eq_getElem hix
    have ey := Array.getElem?_eq_getElem hiy
    have Sl : S < s.heap.objs.size := Heap.lt_size hS
    have lt : ∀ {c o}, s.heap.get? c = some o → c < s.heap.objs.size := fun e => Heap.lt_size e
    -- one pair more
    have step : ∀ h', (∀ b o, b ≠ z → b ≠ TO → b ≠ i1 → b ≠ i2 → s.heap.get? b = some o → h'.get? b = some o) → h'.get? TI = some { cls := .type "tuple", data := .seq #[.ref i1, .ref i2] } → h'.IsListIter i1 l1 (ts.length + 1) → h'.IsListIter i2 l2 (ts.length + 1) →
        IsPair h' s.heap.objs.size xs[ts.length] ys[ts.length] → (∃ T f oT, IsZipHeld h' z TI TO T f ∧ h'.get? T = some oT ∧ T ≠ z ∧ T ≠ i1 ∧ T ≠ i2 ∧ T ≠ S) →
        wpAny (model prog w) A.in1 (updateSeq S (·.push (.ref s.heap.objs.size)) >>= fun _ => again (.builtin "list.extend.loop" ⟨[.ref S, .ref z, res], []⟩))
          (fun fin s' => match fin with | .done f => R (.ok f) s' | .again c' => c'.quiet = true ∧ codeAny (model prog w) A c' R s') (fun e s' => R (.error e) s') { s with heap := h' } := by
      intro h' kp qTI q1 q2 qT qz
      have hS' := kp _ _ (Nat.ne_of_gt O.z) (Nat.ne_of_gt O.TO) (Nat.ne_of_gt O.i1) (Nat.ne_of_gt O.i2) hS
      refine wpAny_bind ?_
      have hS2 := Heap.get?_update_self (Obj.mapSeq (·.push (Value.ref s.heap.objs.size))) hS' rfl
      obtain ⟨c2, hS3⟩ : ∃ c2, (h'.update S (Obj.mapSeq (·.push (Value.ref s.heap.objs.size)))).get? S = some { cls := .type "list", dict := none, data := .seq ((ts ++ [s.heap.objs.size]).map Value.ref).toArray c2, slots := #[] } :=
        ⟨if ((ts.map Value.ref).toArray.push (Value.ref s.heap.objs.size)).size == (ts.map Value.ref).toArray.size then c else c + 1, hS2.trans (by simp [Obj.mapSeq])⟩
      have oth : ∀ b o, b ≠ S → h'.get? b = some o → (h'.update S (Obj.mapSeq (·.push (Value.ref s.heap.objs.size)))).get? b = some o := fun b o hb e => (Heap.get?_update_other _ _ (Ne.symm hb)).trans e
      have a1 : Acc S xs ys ts h' := hacc.keep fun b o hb e => kp b o (Nat.ne_of_gt (Nat.lt_trans O.z hb)) (Nat.ne_of_gt (Nat.lt_trans O.TO hb)) (Nat.ne_of_gt (Nat.lt_trans O.i1 hb)) (Nat.ne_of_gt (Nat.lt_trans O.i2 hb)) e
      have a2 : Acc S xs ys (ts ++ [s.heap.objs.size]) h' := a1.more Sl (fun T hT => let ⟨o, ho⟩ := (hacc.1 T hT).2; lt ho) ex ey qT
      have a3 : Acc S xs ys (ts ++ [s.heap.objs.size]) (h'.update S (Obj.mapSeq (·.push (Value.ref s.heap.objs.size)))) := a2.keep fun b o hb e => oth b o (Nat.ne_of_gt hb) e
      refine wpAny_updateSeq hS' rfl (wpAny_pure ⟨plainId_quiet F.plain_extend_loop _, ih { s with heap := h'.update S (Obj.mapSeq (·.push (Value.ref s.heap.objs.size))) } (ts ++ [s.heap.objs.size]) c2 (by rw [List.length_append, List.length_singleton]; omega) (by rw [List.length_append, List.length_singleton]; omega) ?_ hS3 a3 fun h'' ts' c' kp2 e2 hl2 hA => ?_⟩)
        (by rw [List.size_toArray, List.length_map]; omega) (by rw [Array.size_push, List.size_toArray, List.length_map]; omega)
      · rw [List.length_append, List.length_singleton]
        refine ⟨oth _ _ (Nat.ne_of_lt O.TI) qTI, q1.at fun o e => oth _ o (Nat.ne_of_lt O.i1) e, q2.at fun o e => oth _ o (Nat.ne_of_lt O.i2) e, (hl1.at fun o e => kp _ o D.l1z D.l1TO D.l1i1 D.l1i2 e).at fun o e => oth _ o (Nat.ne_of_lt O.l1) e, (hl2.at fun o e => kp _ o D.l2z D.l2TO D.l2i1 D.l2i2 e).at fun o e => oth _ o (Nat.ne_of_lt O.l2) e, .inr ?_⟩
        obtain ⟨T, f, oT, w1, w2, w3, w4, w5, w6⟩ := qz
        exact ⟨T, f, oT, oth _ _ (Nat.ne_of_lt O.z) w1, oth _ _ w6 w2, w3, w4, w5, w6⟩
      · exact hR h'' ts' c' (fun b o b1 b2 b3 b4 b5 e => kp2 b o b1 b2 b3 b4 b5 (oth b o b1 (kp b o b2 b3 b4 b5 e))) e2 hl2 hA
    rcases hz with ⟨hz, a, b, hTO⟩ | ⟨T, f, oT, hz, hT, r1, r2, r3, r4⟩
    · refine wpAny_bind (wpAny_pyNext_zip_item D hz hTI hTO h1 h2 hl1 hl2 ex ey fun h' a1 a2 a3 a4 a5 a6 hk => ?_)
      refine step h' hk (hk _ _ D.TIz D.TITO D.TIi1 D.TIi2 hTI) a3 a4 a5 ⟨s.heap.objs.size, false, _, a1, a5, Nat.ne_of_gt (lt hz), ?_, ?_, Nat.ne_of_gt Sl⟩
      · obtain ⟨o, e, _⟩ := h1; exact Nat.ne_of_gt (lt e)
      · obtain ⟨o, e, _⟩ := h2; exact Nat.ne_of_gt (lt e)
    · refine wpAny_bind (wpAny_pyNext_zip_item_held D hz hT hTI h1 h2 hl1 hl2 ex ey fun h' a1 a3 a4 a5 a6 hk => ?_)
      exact step h' (fun b o b1 b2 b3 b4 e => hk b o b1 b3 b4 e) (hk _ _ D.TIz D.TIi1 D.TIi2 hTI) a3 a4 a5 ⟨T, true, oT, a1, hk _ _ r1 r2 r3 hT, r1, r2, r3, r4⟩
end
section
variable {prog : Program} {w : World} {A : Around} {R : Result → Shared → Prop} {E : Value → Shared → Prop} {s : Shared} {z TI TO i1 i2 l1 l2 S : Addr} {xs ys : Array Value}
theorem extend (hh : A.in1.handled = none) (D : ZipApart z TI TO i1 i2 l1 l2) (O : Off z TI TO i1 i2 l1 l2 S) (hn : min xs.size ys.size ≤ sizeLine) (res : Value) (c : Nat) (hz : IsZip s.heap z TI TO .none) (hst : ZSt z TI TO i1 i2 l1 l2 S xs ys 0 s.heap)
    (hS : s.heap.get? S = some { cls := .type "list", data := .seq #[] c })
    (hR : ∀ h' ts' c', (∀ b o, b ≠ S → b ≠ z → b ≠ TO → b ≠ i1 → b ≠ i2 → s.heap.get? b = some o → h'.get? b = some o) → h'.get? S = some { cls := .type "list", dict := none, data := .seq (ts'.map Value.ref).toArray c', slots := #[] } →
      ts'.length = min xs.size ys.size → Acc S xs ys ts' h' → R (.ok (.ret res)) { s with heap := h' }) :
    wpAny (model prog w) A.in1 (Builtin.List.listExtendWith (.ref S) (.ref z) res)
      (fun fin s' => match fin with | .done f => R (.ok f) s' | .again c' => c'.quiet = true ∧ codeAny (model prog w) A c' R s') (fun e s' => R (.error e) s') s := by
  have hT : s.TypeIs (.ref z) "zip" := ⟨_, hz, rfl⟩
  unfold Builtin.List.listExtendWith
  refine wpAny_bind (wpAny_typeOf hT ?_)
  have h1 : Builtin.List.listSameRef (.ref S) (.ref z) = false := by simp [Builtin.List.listSameRef, Nat.ne_of_gt O.z]
  have h2 : (Value.type "zip" == Value.type "list") = false := by decide
  have h3 : (Value.type "zip" == Value.type "tuple") = false := by decide
  simp only [h1, h2, h3, Bool.or_false, Bool.false_eq_true, if_false]
  refine wpAny_bind (wpAny_pyIter_zip hz ?_)
  refine wpAny_bind (wpAny_holding ?_)
  unfold Builtin.List.listLengthHint
  refine wpAny_bind (wpAny_specialOf hT zip_no_len ?_)
  show wpAny _ A.in1 (specialOf (Value.ref z) (Str.ofString "__length_hint__") >>= _) _ _ _
  refine wpAny_bind (wpAny_specialOf hT zip_no_hint ?_)
  refine wpAny_pure ?_
  show wpAny _ A.in1 (rule "list.extend.makes-room" >>= fun _ => Builtin.List.listTouch (.ref S) >>= fun _ =>
    again (.builtin "list.extend.loop" ⟨[.ref S, .ref z, res], []⟩)) _ _ _
  refine wpAny_bind (wpAny_rule ?_)
  refine wpAny_bind ?_
  show wpAny _ A.in1 (updateSeq S (·.push .none) >>= fun _ => updateSeq S (·.pop)) _ _ _
  refine wpAny_bind (wpAny_updateSeq hS rfl ?_)
  have hS₂ := Heap.get?_update_self (Obj.mapSeq (·.push Value.none)) hS rfl
  refine wpAny_updateSeq (hz := by seq_fits) hS₂ rfl ?_
  have hS₃ := Heap.get?_update_self (Obj.mapSeq (·.pop)) hS₂ rfl
  have oth : ∀ b o, b ≠ S → s.heap.get? b = some o → ((s.heap.update S (Obj.mapSeq (·.push Value.none))).update S (Obj.mapSeq (·.pop))).get? b = some o :=
    fun b o hb e => (Heap.get?_update_other _ _ (Ne.symm hb)).trans ((Heap.get?_update_other _ _ (Ne.symm hb)).trans e)
  have hst' : ZSt z TI TO i1 i2 l1 l2 S xs ys 0 ((s.heap.update S (Obj.mapSeq (·.push Value.none))).update S (Obj.mapSeq (·.pop))) := by
    obtain ⟨a1, a2, a3, a4, a5, a6⟩ := hst
    refine ⟨oth _ _ (Nat.ne_of_lt O.TI) a1, a2.at fun o e => oth _ o (Nat.ne_of_lt O.i1) e, a3.at fun o e => oth _ o (Nat.ne_of_lt O.i2) e, a4.at fun o e => oth _ o (Nat.ne_of_lt O.l1) e, a5.at fun o e => oth _ o (Nat.ne_of_lt O.l2) e, ?_⟩
    rcases a6 with ⟨q1, a, b, q2⟩ | ⟨T, f, oT, q1, q2, q3, q4, q5, q6⟩
    · exact .inl ⟨oth _ _ (Nat.ne_of_lt O.z) q1, a, b, oth _ _ (Nat.ne_of_lt O.TO) q2⟩
    · exact .inr ⟨T, f, oT, oth _ _ (Nat.ne_of_lt O.z) q1, oth _ _ q6 q2, q3, q4, q5, q6⟩
  exact wpAny_pure ⟨plainId_quiet F.plain_extend_loop _, loop hh D O hn res _ _ [] _ rfl (Nat.zero_le _) hst' hS₃ ⟨fun T hT => (nomatch hT), List.Pairwise.nil, fun j T hj => by simp at hj⟩ fun h' ts' c' kp e hl hA =>
    hR h' ts' c' (fun b o b1 b2 b3 b4 b5 e => kp b o b1 b2 b3 b4 b5 (oth b o b1 e)) e hl hA⟩
end
end ZipL
namespace DX
open PySem PySem.Spec L2 PyProof.Rows
section
variable {X : Cx} {J : Gh} {e o : Expr} {es : List Expr} {ρ ρ' : DEnv} {M M0 M1 : Mem} {F F' H H' : Hp} {σ : L2.St} {P : D → Mem → Prop} {K : PySem.W.Frag} {pos apos cpos : Pos}
def stillF (F H : Hp) (M : Mem) : Hp := fun a => if (M a).isSome = true then H a else F a
theorem still_same (k : Ok K F M H) : Same F (stillF F H M) := fun a u h => by
  unfold stillF
  split
  · rename_i q
    obtain ⟨d, hd⟩ := Option.isSome_iff_exists.mp q
    rw [(k.mt a d hd).1] at h; cases h
  · exact h
/-- the fields of an instance, its lists that change held still -/
inductive ThG (M : Mem) : List (Str × D) → List (Str × D) → Prop
  | nil : ThG M [] []
  | same {x : Str} {d : D} {gs hs : List (Str × D)} : ThG M gs hs → ThG M ((x, d) :: gs) ((x, d) :: hs)
  | ad {x : Str} {a : Addr} {d : D} {gs hs : List (Str × D)} : M a = some d → frzD d = true → ThG M gs hs → ThG M ((x, .adr a) :: gs) ((x, d) :: hs)
theorem ThG.refl : ∀ {gs : List (Str × D)}, ThG M gs gs
  | [] => .nil
  | _ :: _ => .same ThG.refl
theorem ThG.rfs (k : Ok K F M H) : ∀ {gs hs : List (Str × D)}, ThG M gs hs → ∀ {fs : List (Str × V)}, Rfs K F fs gs → Rfs K (stillF F H M) fs hs
  | _, _, .nil, _, .nil => .nil
  | _, _, .same h, _, .cons r rs => .cons (r.mono (still_same k)) (h.rfs k rs)
  | _, _, .ad hp hf h, _, .cons r rs => by
    cases r
    obtain ⟨u, hu⟩ := (k.mt _ _ hp).2.there
    exact .cons ((k.mt _ _ hp).2.rp hu (still_same k) (show stillF F H M _ = some u by unfold stillF; rw [hp]; exact hu) hf) (h.rfs k rs)
/-- the items of a list that never changes: lists that change held still -/
inductive ThL (M : Mem) : List D → List D → Prop
  | nil : ThL M [] []
  | same {d : D} {ds es : List D} : ThL M ds es → ThL M (d :: ds) (d :: es)
  | ad {a : Addr} {d : D} {ds es : List D} : M a = some d → frzD d = true → ThL M ds es → ThL M (.adr a :: ds) (d :: es)
theorem ThL.rps (k : Ok K F M H) : ∀ {ds es : List D}, ThL M ds es → ∀ {vs : List V}, Rps K F vs ds → Rps K (stillF F H M) vs es
  | _, _, .nil, _, .nil => .nil
  | _, _, .same h, _, .cons r rs => .cons (r.mono (still_same k)) (h.rps k rs)
  | _, _, .ad hp hf h, _, .cons r rs => by
    cases r
    obtain ⟨u, hu⟩ := (k.mt _ _ hp).2.there
    exact .cons ((k.mt _ _ hp).2.rp hu (still_same k) (show stillF F H M _ = some u by unfold stillF; rw [hp]; exact hu) hf) (h.rps k rs)
inductive StillE (M : Mem) : DEnv → DEnv → Prop
  | nil : StillE M [] []
  | same {d : Option D} {ρ ρ' : DEnv} : StillE M ρ ρ' → StillE M (d :: ρ) (d :: ρ')
  | ad {p : Addr} {d : D} {ρ ρ' : DEnv} : M p = some d → frzD d = true → StillE M ρ ρ' → StillE M (some (.adr p) :: ρ) (some d :: ρ')
  | own {p C : Addr} {gs hs : List (Str × D)} {ρ ρ' : DEnv} : M p = some (.ins C gs) → ThG M gs hs → StillE M ρ ρ' → StillE M (some (.adr p) :: ρ) (some (.ins C hs) :: ρ')
  | adl {p : Addr} {d : D} {ρ ρ' : DEnv} : M p = some d → frzD d = true → StillE M ρ ρ' → StillE M (some (.lst [.adr p]) :: ρ) (some (.lst [d]) :: ρ')
  | lsts {ds es : List D} {ρ ρ' : DEnv} : ThL M ds es → StillE M ρ ρ' → StillE M (some (.lst ds) :: ρ) (some (.lst es) :: ρ')
theorem StillE.en (k : Ok K F M H) : ∀ {ρ ρ' : DEnv}, StillE M ρ ρ' → ∀ {σ : L2.St}, En K F σ ρ → En K (stillF F H M) σ ρ'
  | _, _, .nil, _, .nil => .nil
  | _, _, .same h, _, .cons x r => .cons (fun y q => let ⟨z, a, b⟩ := x y q; ⟨z, a, b.mono (still_same k)⟩) (h.en k r)
  | _, _, .ad (p := p) (d := d) hp hf h, _, .cons x r => .cons (fun y q => by
      cases q
      obtain ⟨z, a, b⟩ := x _ rfl
      cases b
      obtain ⟨u, hu⟩ := (k.mt p _ hp).2.there
      exact ⟨_, a, (k.mt p _ hp).2.rp hu (still_same k) (show stillF F H M p = some u by unfold stillF; rw [hp]; exact hu) hf⟩) (h.en k r)
  | _, _, .adl (p := p) (d := d) hp hf h, _, .cons x r => .cons (fun y q => by
      cases q
      obtain ⟨z, a, b⟩ := x _ rfl
      cases b with
      | lst h1 h2 =>
        cases h2 with
        | cons h3 h4 =>
          cases h3
          cases h4
          obtain ⟨u, hu⟩ := (k.mt p _ hp).2.there
          exact ⟨_, a, .lst (still_same k _ _ h1) (.cons ((k.mt p _ hp).2.rp hu (still_same k) (show stillF F H M p = some u by unfold stillF; rw [hp]; exact hu) hf) .nil)⟩) (h.en k r)
  | _, _, .lsts t h, _, .cons x r => .cons (fun y q => by
      cases q
      obtain ⟨z, a, b⟩ := x _ rfl
      cases b with
      | lst h1 h2 => exact ⟨_, a, .lst (still_same k _ _ h1) (t.rps k h2)⟩) (h.en k r)
  | _, _, .own (p := p) hp t h, _, .cons x r => .cons (fun y q => by
      cases q
      obtain ⟨z, a, b⟩ := x _ rfl
      cases b
      obtain ⟨dx, fs, h1, h2⟩ := (k.mt p _ hp).2
      exact ⟨_, a, .ins (show stillF F H M p = some (.ins _ dx fs) by unfold stillF; rw [hp]; exact h1) (t.rfs k h2)⟩) (h.en k r)
end
end DX
namespace DX
open PySem PySem.Spec L2 PyProof.Rows StX LamX
mutual
/-- no instance of these classes within -/
def noI (L : List Addr) : D → Bool
  | .tup ds => noIs L ds
  | .lst ds => noIs L ds
  | .stup ds => noIs L ds
  | .ins C gs => decide (C ∉ L) && noIk L gs
  | .dct kvs => noId L kvs
  | .exn _ gs => noIk L gs
  | _ => true
def noIs (L : List Addr) : List D → Bool
  | [] => true
  | d :: ds => noI L d && noIs L ds
def noIk (L : List Addr) : List (Str × D) → Bool
  | [] => true
  | (_, d) :: ds => noI L d && noIk L ds
def noId (L : List Addr) : List (Key × D) → Bool
  | [] => true
  | (_, d) :: ds => noI L d && noId L ds
end
structure KeepsP (L : List Addr) (F F2 : Hp) : Prop where
  k : ∀ a u, F a = some u → (∀ C dx fs, u = .ins C dx fs → C ∉ L) → F2 a = some u
section
variable {K : PySem.W.Frag} {F F2 : Hp} {L : List Addr}
theorem KeepsP.rd (h : KeepsP L F F2) {a : Addr} {u : HO} (hu : ∀ C dx fs, u ≠ .ins C dx fs) (r : Rd F a u) : Rd F2 a u := by
  rcases r with r | ⟨o, r⟩
  · exact .inl (h.k _ _ r fun C dx fs e => absurd e (hu C dx fs))
  · exact .inr ⟨o, h.k _ _ r fun C dx fs e => by cases e⟩
theorem KeepsP.sl (h : KeepsP L F F2) {a : Addr} {xs : List V} (r : SqL K F a xs) : SqL K F2 a xs := by
  rcases r with r | r
  · exact .inl (h.rd (fun _ _ _ e => by cases e) r)
  · exact .inr r
theorem KeepsP.st (h : KeepsP L F F2) {a : Addr} {xs : List V} (r : SqT K F a xs) : SqT K F2 a xs := by
  rcases r with r | r
  · exact .inl (h.rd (fun _ _ _ e => by cases e) r)
  · exact .inr r
mutual
theorem rp_noI (h : KeepsP L F F2) : ∀ (d : D) (v : V), noI L d = true → Rp K F v d → Rp K F2 v d
  | .non, _, _, .non => .non
  | .bl b, _, _, .bl _ => .bl _
  | .int i, _, _, .int _ => .int _
  | .str x, _, _, .str _ => .str _
  | .adr a, _, _, .adr _ => .adr _
  | .ty n, _, _, .ty _ => .ty _
  | .scr ns, _, _, .scr r => .scr (h.sl r)
  | .tup ds, _, q, .tup h1 h2 => .tup (h.st h1) (rps_noI h ds _ (by rw [noI] at q; exact q) h2)
  | .lst ds, _, q, .lst h1 h2 => .lst (h.k _ _ h1 fun _ _ _ e => by cases e) (rps_noI h ds _ (by rw [noI] at q; exact q) h2)
  | .stup ds, _, q, .stup h1 h2 h3 => .stup (h.k _ _ h1 fun _ _ _ e => by cases e) h2 (rps_noI h ds _ (by rw [noI] at q; exact q) h3)
  | .stup [], _, _, .stupK h1 h2 => .stupK h1 h2
  | .ins C gs, _, q, .ins h1 h2 => by
    rw [noI, Bool.and_eq_true] at q
    exact .ins (h.k _ _ h1 fun _ _ _ e => by cases e; exact of_decide_eq_true q.1) (rfs_noI h gs _ q.2 h2)
  | .dct kvs, _, q, .dct h1 h2 => .dct (h.k _ _ h1 fun _ _ _ e => by cases e) (rks_noI h kvs _ (by rw [noI] at q; exact q) h2)
  | .exn C gs, _, q, .exn h1 h2 h3 => .exn (h.k _ _ h1 fun _ _ _ e => by cases e) (h2.imp id fun ⟨dd, e, r⟩ => ⟨dd, e, h.k _ _ r fun _ _ _ e => by cases e⟩) (rfs_noI h gs _ (by rw [noI] at q; exact q) h3)
  | .tbl _, _, _, r => nomatch r
  | .dtx _, _, _, r => nomatch r
theorem rps_noI (h : KeepsP L F F2) : ∀ (ds : List D) (vs : List V), noIs L ds = true → Rps K F vs ds → Rps K F2 vs ds
  | [], _, _, .nil => .nil
  | d :: ds, _, q, .cons h1 h2 => by
    rw [noIs, Bool.and_eq_true] at q
    exact .cons (rp_noI h d _ q.1 h1) (rps_noI h ds _ q.2 h2)
theorem rfs_noI (h : KeepsP L F F2) : ∀ (ds : List (Str × D)) (vs : List (Str × V)), noIk L ds = true → Rfs K F vs ds → Rfs K F2 vs ds
  | [], _, _, .nil => .nil
  | (x, d) :: ds, _, q, .cons h1 h2 => by
    rw [noIk, Bool.and_eq_true] at q
    exact .cons (rp_noI h d _ q.1 h1) (rfs_noI h ds _ q.2 h2)
theorem rks_noI (h : KeepsP L F F2) : ∀ (ds : List (Key × D)) (vs : List (Key × V)), noId L ds = true → Rks K F vs ds → Rks K F2 vs ds
  | [], _, _, .nil => .nil
  | (x, d) :: ds, _, q, .cons h1 h2 => by
    rw [noId, Bool.and_eq_true] at q
    exact .cons (rp_noI h d _ q.1 h1) (rks_noI h ds _ q.2 h2)
end
end
end DX
namespace DX
open PySem PySem.Spec L2 PyProof.Rows StX LamX
/-- besides: what stands at p is seen as d -/
def Gh.hold (J : Gh) (K : PySem.W.Frag) (p : Addr) (d : D) : Gh := ⟨fun F => J.p F ∧ Rp K F (.ref p) d, fun _ _ e h => ⟨J.mono _ _ e h.1, h.2.mono e⟩⟩
section
variable {X : Cx} {J : Gh} {ρ ρ' : DEnv} {M M0 : Mem} {P : D → Mem → Prop} {L : List Addr} {x : Str} {pos : Pos} {K : PySem.W.Frag} {F F2 : Hp} {σ : L2.St} {st : Stmt} {rest : List Stmt} {B : Bd}
/-- names behind the statement: their values hold no instance of these classes, or are forgotten -/
inductive NoE (L : List Addr) : DEnv → DEnv → Prop
  | nil : NoE L [] []
  | keep {d : D} {ρ ρ' : DEnv} : noI L d = true → NoE L ρ ρ' → NoE L (some d :: ρ) (some d :: ρ')
  | drop {d : Option D} {ρ ρ' : DEnv} : NoE L ρ ρ' → NoE L (d :: ρ) (none :: ρ')
theorem NoE.en (kp : KeepsP L F F2) : ∀ {ρ ρ' : DEnv}, NoE L ρ ρ' → ∀ {σ : L2.St}, En K F σ ρ → En K F2 σ ρ'
  | _, _, .nil, _, .nil => .nil
  | _, _, .keep hd h, _, .cons x r => .cons (fun y q => by
      obtain ⟨z, a, b⟩ := x y q
      cases q
      exact ⟨z, a, rp_noI kp _ z hd b⟩) (h.en kp r)
  | _, _, .drop h, _, .cons x r => .cons (fun y q => nomatch q) (h.en kp r)
end
end DX
namespace DX
open PySem PySem.Spec L2 PyProof.Rows StX
section
variable {X : Cx} {J : Gh} {e a b o : Expr} {es : List Expr} {kws : List Keyword} {ks : List Str} {ρ : DEnv} {M M1 M2 : Mem} {F F' H H' : Hp} {σ : L2.St} {K : PySem.W.Frag} {pos p apos : Pos} {x m f : Str} {P : D → Mem → Prop} {PA PA' : List D → List D → Mem → Prop} {RR : Addr → List (Str × D) → DEnv → Mem → Prop} {L : List Addr} {TU : TrX} {k : Nat}
theorem EvA.imp (h : EvA X J pos es kws ks ρ M PA) (kk : ∀ ds zs M', PA ds zs M' → PA' ds zs M') : EvA X J pos es kws ks ρ M PA' :=
  fun fv pins σ H F s Qa I st q => h fv pins σ H F s Qa I st fun us ws vs xs ds zs F2 M2 H2 s2 I2 e2 o2 r rx rd rz hl t => q us ws vs xs ds zs F2 M2 H2 s2 I2 e2 o2 r rx rd rz hl (kk _ _ _ t)
end
end DX
namespace DX
open PySem PySem.Spec L2
open PyProof.Rows hiding St
/-- a dict as a value, or the place of one that changes -/
inductive Kw (M : Mem) : D → List (Key × D) → Prop
  | id {kvs : List (Key × D)} : Kw M (.dct kvs) kvs
  | ad {p : Addr} {kvs : List (Key × D)} : M p = some (.dct kvs) → Kw M (.adr p) kvs
section
variable {X : Cx} {J : Gh} {e a b o : Expr} {es : List Expr} {ρ : DEnv} {M M1 : Mem} {F F' H H' : Hp} {σ : St} {K : PySem.W.Frag} {pos p apos : Pos} {x m f : Str} {P : D → Mem → Prop} {B : Bd}
theorem Kw.get {d : D} {kvs : List (Key × D)} {v : V} (w : Kw M d kvs) (k : Ok K F M H) (r : Rp K F v d) : ∃ q vs, v = .ref q ∧ H q = some (.dK vs) ∧ Rks K F vs kvs := by
  cases w with
  | id =>
    cases r with
    | dct h1 h2 => exact ⟨_, _, rfl, k.ex _ _ h1, h2⟩
  | ad h =>
    cases r
    obtain ⟨vs, h1, h2⟩ := (k.mt _ _ h).2
    exact ⟨_, vs, rfl, h1, h2⟩
theorem Rks.len : ∀ {vs : List (Key × V)} {ds : List (Key × D)}, Rks K F vs ds → vs.length = ds.length
  | _, _, .nil => rfl
  | _, _, .cons _ r => congrArg Nat.succ (Rks.len r)
end
end DX
namespace DX
open PySem PySem.Spec L2 GenW
open PyProof.Rows hiding St
/-- what is wanted behind a statement of a generator: what is out, the names, what may change -/
structure GBd where
  nx : List D → DEnv → Mem → Prop
  rt : List D → D → Mem → Prop := fun _ _ _ => False
  bk : List D → DEnv → Mem → Prop := fun _ _ _ => False
  ct : List D → DEnv → Mem → Prop := fun _ _ _ => False
def GBd.at (B : GBd) (ys : List D) : Bd := ⟨B.nx ys, B.rt ys, B.bk ys, B.ct ys⟩
structure KGd (K : PySem.W.Frag) (F : Hp) (B : GBd) (E : GEnds) : Prop where
  nx : ∀ F' σ' H' ρ' M' ys vs, B.nx ys ρ' M' → Same F F' → En K F' σ' ρ' → Ok K F' M' H' → Rps K F' vs ys → E.nx vs σ' H'
  rt : ∀ d v M' F' H' ys vs, B.rt ys d M' → Same F F' → Ok K F' M' H' → Rp K F' v d → Rps K F' vs ys → E.rt vs v H'
  bk : ∀ F' σ' H' ρ' M' ys vs, B.bk ys ρ' M' → Same F F' → En K F' σ' ρ' → Ok K F' M' H' → Rps K F' vs ys → E.bk vs σ' H'
  ct : ∀ F' σ' H' ρ' M' ys vs, B.ct ys ρ' M' → Same F F' → En K F' σ' ρ' → Ok K F' M' H' → Rps K F' vs ys → E.ct vs σ' H'
def tGd (K : PySem.W.Frag) (J : Gh) (ys : List D) (ρ : DEnv) (M : Mem) (B : GBd) : TGn := fun D vs σ H => ∃ F, Sts K J F σ H ρ M ∧ Rps K F vs ys ∧ KGd K F B D
def GGX (X : Cx) (J : Gh) (st : List Stmt) (ys : List D) (ρ : DEnv) (M : Mem) (B : GBd) : Prop := GSs X st (tGd X.K J ys ρ M B)
def GG1 (X : Cx) (J : Gh) (st : Stmt) (ys : List D) (ρ : DEnv) (M : Mem) (B : GBd) : Prop := GS X st (tGd X.K J ys ρ M B)
def tGSe (X : Cx) (st : List Stmt) : TGn := fun D vs σ H => ∃ t, GSs X st t ∧ t D vs σ H
def tGS1 (X : Cx) (st : Stmt) : TGn := fun D vs σ H => ∃ t, GS X st t ∧ t D vs σ H
section
variable {X : Cx} {J : Gh} {e a b c : Expr} {es : List Expr} {st : Stmt} {rest sts : List Stmt} {ys : List D} {ρ ρ' : DEnv} {M M0 M' : Mem} {F F' H H' : Hp} {σ : St} {B : GBd} {K : PySem.W.Frag} {pos p yp : Pos} {E : GEnds}
theorem KGd.to (k : KGd K F B E) (e : Same F F') : KGd K F' B E :=
  ⟨fun F2 σ' H' ρ' M' ys vs p e2 => k.nx F2 σ' H' ρ' M' ys vs p (e.trans e2), fun d v M' F2 H' ys vs p e2 => k.rt d v M' F2 H' ys vs p (e.trans e2), fun F2 σ' H' ρ' M' ys vs p e2 => k.bk F2 σ' H' ρ' M' ys vs p (e.trans e2), fun F2 σ' H' ρ' M' ys vs p e2 => k.ct F2 σ' H' ρ' M' ys vs p (e.trans e2)⟩
theorem GGX.go {vs : List V} (h : GGX X J sts ys ρ M B) (s : Sts X.K J F σ H ρ M) (r : Rps X.K F vs ys) (k : KGd X.K F B E) : tGSe X sts E vs σ H := ⟨_, h, F, s, r, k⟩
theorem GG1.go {vs : List V} (h : GG1 X J st ys ρ M B) (s : Sts X.K J F σ H ρ M) (r : Rps X.K F vs ys) (k : KGd X.K F B E) : tGS1 X st E vs σ H := ⟨_, h, F, s, r, k⟩
end
def noK : XK := fun _ _ _ => False
end DX
namespace DX
open PySem PySem.Spec L2 PyProof.Rows StX
section
variable {X : Cx} {J : Gh} {M : Mem} {P : D → Mem → Prop} {pins : List (Addr × Obj)} {σ : L2.St} {F : Hp} {k : Nat} {C g : Addr} {T : TrX}
/-- two instances of C, equal by f -/
def eqO (C : Addr) (f : D → D → Option D) (a b : D) : Option Unit := (isC C a).bind fun _ => (isC C b).bind fun _ => (f a b).bind fun v => match v with
  | .bl true => some ()
  | _ => none
end
end DX
namespace EnZ
open PySem PySem.Spec L2 PyProof.Rows
open PySem.W (kdx_alive)
def F0 (v : Value) : Prop := v = .none ∨ ∃ T : Addr, v = rawInt T
open ZMix
end EnZ
namespace DX
open PySem PySem.Spec L2
abbrev KXT := List (List Int × Int)
def atX (kvs : KXT) (k : List Int) : Option Int := (kvs.find? fun p => decide (p.1 = k)).map (·.2)
section
variable {K : PySem.W.Frag} {F F' H H' : Hp} {M : Mem}
def XR (K : PySem.W.Frag) (F : Hp) (es : DTK.TE3) (kvs : KXT) : Prop := Paired (fun (p : List Int × Addr × V) (q : List Int × Int) => p.1 = q.1 ∧ SqT K F p.2.1 (p.1.map V.int) ∧ p.2.2 = V.int q.2) es kvs
theorem XR.len {es : DTK.TE3} {kvs : KXT} (r : XR K F es kvs) : es.length = kvs.length := Paired.length r
theorem XR.at {k : List Int} : ∀ {es : DTK.TE3} {kvs : KXT}, XR K F es kvs → DTK.atV es k = (atX kvs k).map V.int
  | _, _, .nil => rfl
  | _, _, .cons (a := p) (b := q) r t => by
    obtain ⟨e1, e2, e3⟩ := r
    have ih := XR.at (k := k) t
    unfold DTK.atV atX at *
    rw [List.find?_cons, List.find?_cons, e1]
    by_cases z : q.1 = k
    · rw [decide_eq_true z]
      show some p.2.2 = some (V.int q.2)
      rw [e3]
    · rw [decide_eq_false z]; exact ih
theorem XR.mono {es : DTK.TE3} {kvs : KXT} (e : Same F F') (r : XR K F es kvs) : XR K F' es kvs := L2.Paired.mapP r fun _ _ z => ⟨z.1, same_t e z.2.1, z.2.2⟩
theorem Ok.dtx (k : Ok K F M H) {p : Addr} {kvs : KXT} (h : M p = some (.dtx kvs)) : ∃ es, H p = some (DTK.DTX p es) ∧ XR K F es kvs := (k.mt _ _ h).2
end
end DX
namespace DX
open PySem PySem.Spec L2 PyProof.Rows StX LamX
/-- one parameter a, no other name of its own: captured ones and globals -/
structure LamS1 (sc scope : Scope) (N : List Str) (a : Str) : Prop where
  kind : scope.kind = .function
  co : scope.isCoroutine = false
  gen : scope.isGenerator = false
  par : scope.names.lookup a = some .local
  own : ∀ y ∈ scope.names, (y.2 = .local → y.1 = a) ∧ y.2 ≠ .cell
  free : ∀ y ∈ scope.names, y.2 = .free → sc.names.lookup y.1 = some .cell ∨ sc.names.lookup y.1 = some .free
  new : a ∉ N
theorem LamS1.has {X : Cx} {scope : Scope} {a : Str} (L : LamS1 X.env.scope scope X.N a) (ok : X.Ok) : ∀ y ∈ scope.names, y.2 = .free → ∃ c, X.env.cells.lookup y.1 = some c := fun y hy e => ok.has _ (L.free y hy e)
/-- what the call of a function with one value leads to -/
abbrev TL := D → Mem → (D → Mem → Prop) → RX → Prop
/-- f can be called with one value, from the state (s, H) of the frames outer on -/
structure Callee (pg : Program) (w : World) (K : PySem.W.Frag) (mg : Str → Option Value) (base : Heap) (gl : Bool) (kb : Nat) (f : Addr) (F0 : Hp) (T : TL) (outer : List PySem.Env) (s : Shared) (H : Hp) : Prop where
  obj : PySem.W.FnAt f s.heap
  hid : H f = none
  far : f ∉ frs outer
  go : ∀ (A : Around) (outer' : List PySem.Env) (s1 : Shared) (H1 F : Hp) (M : Mem) (d : D) (u : Value) (v : V) (P : D → Mem → Prop) (R : RX) (Q : VK) (E : XK), (gl = true → A.guards = some []) → Room (kb + 1) A → Env0 pg w K mg base A outer' s1 H1 → Un (frs outer) [] H H1 s.heap s1.heap → RelV v u → Same F0 F → Ok K F M H1 → Rp K F v d → T d M P R → Kt K F P Q → Kx K F R E →
    codeAny (model pg w) A (.call (.ref f) ⟨[u], []⟩) (CR (L2.CX pg w) outer' pg w H1 s1 Q E) s1
end DX
namespace DX
open PySem PySem.Spec L2 PyProof.Rows StX LamX
section
variable {pg : Program} {w : World} {K : PySem.W.Frag} {mg : Str → Option Value} {base : Heap} {x qual : Str} {params : Arguments} {body : List Stmt} {scope : Scope} {kws : List (Str × V)} {f : Addr} {fd : FuncData} {N ps : List Str} {k kb : Nat} {gd : Bool}
theorem Callee.to {cf : Addr} {F0 F1 : Hp} {T : TL} {outer : List PySem.Env} {s s2 : Shared} {H H2 : Hp} (C : Callee pg w K mg base gd kb cf F0 T outer s H) (un : Un (frs outer) [] H H2 s.heap s2.heap) (sm : Same F0 F1) : Callee pg w K mg base gd kb cf F1 T outer s2 H2 := by
  obtain ⟨oc, od, fd, sl, hf⟩ := C.obj
  have nx : cf ∉ ([] : List Addr) := fun z => nomatch z
  exact ⟨⟨oc, od, fd, sl, un.keep cf _ hf C.hid C.far nx⟩, un.free cf _ hf C.hid nx, C.far, fun A o s1 H1 F M d u v P R Q E hg hr e0 u2 rv sF => C.go A o s1 H1 F M d u v P R Q E hg hr e0 (un.trans u2) rv (sm.trans sF)⟩
end
end DX
namespace DX
open PySem
def isSusp : GenState → Prop
  | .suspended .. => True
  | _ => False
def blk : GenState → GenState
  | .suspended _ l c p fs cl => .suspended (fun _ => .unsupported "") l c p fs cl
  | x => x
def isRet : Frame → Prop
  | .ret .. => True
  | .gen .. => False
def NF (fs : List Frame) : Prop := ∀ F ∈ fs, isRet F
def ngS : GenState → Prop
  | .suspended _ _ _ _ fs _ => NF fs
  | _ => True
def NFe : End → Prop
  | .susp _ _ _ _ _ _ fs => NF fs
  | .ret _ => True
theorem NFe.gs {e : End} (h : NFe e) : ngS e.genState := by cases e <;> exact h
theorem NF.split {fs : List Frame} (h : NF fs) : splitAtGen fs = none := by
  induction fs with
  | nil => rfl
  | cons f fs ih =>
    cases f with
    | ret k hd g l c p kp =>
      have := ih fun F hF => h F (List.mem_cons_of_mem _ hF)
      simp only [splitAtGen, this, Option.map_none]
    | gen g k l c p => exact absurd (h _ List.mem_cons_self) id
/-- a: the table in which the suspended ones are blocked; G: the true one -/
def GR (B : Nat → Option GenState) (a G : Array GenState) : Prop :=
  a.size = G.size ∧ ∀ i, match B i with
    | some y => isSusp y ∧ a[i]? = some (blk y) ∧ G[i]? = some y
    | none => a[i]? = G[i]? ∧ ∀ x, G[i]? = some x → ngS x
section
variable {B : Nat → Option GenState} {a G : Array GenState}
theorem GR.at (h : GR B a G) {i : Nat} {x : GenState} (e : a[i]? = some x) : (∃ y, B i = some y ∧ isSusp y ∧ x = blk y ∧ G[i]? = some y) ∨ (B i = none ∧ G[i]? = some x ∧ ngS x) := by
  have q := h.2 i
  cases hb : B i with
  | some y =>
    rw [hb] at q
    obtain ⟨q1, q2, q3⟩ := q
    rw [e] at q2
    exact .inl ⟨y, rfl, q1, Option.some.inj q2, q3⟩
  | none =>
    rw [hb] at q
    obtain ⟨q1, q2⟩ := q
    rw [e] at q1
    exact .inr ⟨rfl, q1.symm, q2 _ q1.symm⟩
theorem GR.set (h : GR B a G) {i : Nat} {x : GenState} (hb : B i = none) (hx : ngS x) : GR B (a.setIfInBounds i x) (G.setIfInBounds i x) := by
  refine ⟨by rw [Array.size_setIfInBounds, Array.size_setIfInBounds]; exact h.1, fun j => ?_⟩
  by_cases e : j = i
  · subst e
    rw [hb]
    refine ⟨by rw [Array.getElem?_setIfInBounds_self, Array.getElem?_setIfInBounds_self, h.1], fun z hz => ?_⟩
    rw [Array.getElem?_setIfInBounds_self] at hz
    split at hz
    · cases hz; exact hx
    · cases hz
  · have q := h.2 j
    rw [Array.getElem?_setIfInBounds_ne (Ne.symm e), Array.getElem?_setIfInBounds_ne (Ne.symm e)]
    exact q
theorem GR.push (h : GR B a G) {x : GenState} (hx : ngS x) : GR B (a.push x) (G.push x) := by
  refine ⟨by rw [Array.size_push, Array.size_push, h.1], fun j => ?_⟩
  have q := h.2 j
  rw [Array.getElem?_push, Array.getElem?_push, ← h.1]
  cases hb : B j with
  | some y =>
    rw [hb] at q
    obtain ⟨q1, q2, q3⟩ := q
    have hj : j ≠ a.size := fun z => by
      rw [z, Array.getElem?_eq_none (Nat.le_refl _)] at q2; cases q2
    rw [if_neg hj, if_neg hj]
    exact ⟨q1, q2, q3⟩
  | none =>
    rw [hb] at q
    by_cases hj : j = a.size
    · rw [if_pos hj, if_pos hj]
      exact ⟨rfl, fun z hz => by cases hz; exact hx⟩
    · rw [if_neg hj, if_neg hj]
      exact q
end
open Sem (wp)
open PyProof.Rows
end DX
namespace GF
open PySem PySem.Spec L2 GenW DX
open Sem (wp)
variable {γ : Type}
abbrev EndG (γ : Type) := γ → Nat → Shared → Result → Shared → Prop
abbrev ProtG (γ : Type) := γ → Nat → Shared → Value → Shared → (γ → Resume → Shared → Prop) → Prop
def SegE (R : EndG γ) (Y : ProtG γ) (n : Nat) (go : γ → Code → Sem PySem.Fin → List Frame → Shared → Prop) (g : γ) (s₀ : Shared) (e : End) (s' : Shared) : Prop := match e with
  | .ret r => R g n s₀ r s'
  | .susp v q l k c p fs => (End.susp v q l k c p fs).quiet = true ∧ NF fs ∧ Y g (n - 1) s₀ v s' fun g' r s'' => go g' c (k r) fs s''
def SegG (M : Model) (A : Around) (R : EndG γ) (Y : ProtG γ) : Nat → γ → Shared → Code → Sem PySem.Fin → List Frame → Shared → Prop
  | 0 => fun g s₀ c t fs s => ∀ Γ p, Γ.code = c → Γ.Woken A → ∃ e s', Runs M Γ p t fs s e s' ∧ SegE R Y 0 (fun _ _ _ _ _ => False) g s₀ e s'
  | n + 1 => fun g s₀ c t fs s => ∀ Γ p, Γ.code = c → Γ.Woken A → ∃ e s', Runs M Γ p t fs s e s' ∧ SegE R Y (n + 1) (fun g' c' t' fs' s'' => SegG M A R Y n g' s'' c' t' fs' s'') g s₀ e s'
def SegG.next (M : Model) (A : Around) (R : EndG γ) (Y : ProtG γ) : Nat → γ → Code → Sem PySem.Fin → List Frame → Shared → Prop
  | 0 => fun _ _ _ _ _ => False
  | n + 1 => fun g c t fs s'' => SegG M A R Y n g s'' c t fs s''
section
variable {M : Model} {A : Around} {R : EndG γ} {Y : ProtG γ} {n : Nat} {g : γ} {s₀ : Shared} {c : Code} {fs : List Frame} {s : Shared}
theorem sg_iff {t : Sem PySem.Fin} : SegG M A R Y n g s₀ c t fs s ↔ ∀ Γ p, Γ.code = c → Γ.Woken A → ∃ e s', Runs M Γ p t fs s e s' ∧ SegE R Y n (SegG.next M A R Y n) g s₀ e s' := by
  cases n <;> rfl
theorem sg_wrap {α : Type} {m : Sem α} {K : α → Sem PySem.Fin} {J : Value → Sem PySem.Fin} {gd lv} (h : wpAny M (A.over c fs) m (fun a s' => SegG M A R Y n g s₀ c (K a) fs s') (fun x s' => SegG M A R Y n g s₀ c (J x) fs s') s) :
    SegG M A R Y n g s₀ c (m.wrap K J gd lv) fs s := by
  rw [sg_iff]
  rintro Γ p rfl hΓ
  exact runs_wrap_of_wp K J gd lv m (h (Γ.over fs) p (hΓ.over fs)) (fun a p' s' h' => sg_iff.mp h' Γ p' rfl hΓ) (fun x p' s' h' => sg_iff.mp h' Γ p' rfl hΓ)
theorem sg_point {l : List Value} {k : Unit → Sem PySem.Fin} (h : SegG M A R Y n g s₀ c (k ()) fs s) : SegG M A R Y n g s₀ c (.point l k) fs s :=
  sg_wrap (m := point) (K := k) (J := .raise) (gd := id) (lv := fun _ => l) (wpAny_point h)
theorem sg_end (r : Result) (h : R g n s₀ r s) : SegG M A R Y n g s₀ c (leafOf r) [] s := by
  rw [sg_iff]
  rintro Γ p rfl _
  exact ⟨.ret r, s, Runs.leaf r, h⟩
end
section
variable {prog : Program} {w : World} {A : Around} {R : EndG γ} {Y : ProtG γ} {n : Nat} {g : γ} {s₀ : Shared} {fs : List Frame} {s : Shared} {env : Env}
theorem sg_func {body : List Stmt}
    (h : SegG (model prog w) A R Y n g s₀ (.func body env) ((execs body env).wrap (fun f => .pure (.done (.ret (match f with | .ret v => v | _ => .none))))
      (fun e => (leaving env e).wrap (fun _ => .raise e) .raise id id) id id) fs s) :
    SegG (model prog w) A R Y n g s₀ (.func body env) ((model prog w).den (.func body env)) fs s := by
  show SegG _ A R Y n g s₀ _ (.point [] fun _ => ((execs body env).onRaise (leaving env)) >>= _) fs s
  refine sg_point ?_
  rw [Sem.onRaise_eq_wrap, Sem.bind_eq_wrap', Sem.wrap_wrap]
  rw [Sem.wrap_congr (execs body env) _ _ (K' := fun f => .pure (.done (.ret (match f with | .ret v => v | _ => .none))))
    (H' := fun e => (leaving env e).wrap (fun _ => .raise e) .raise id id) (fun f => by cases f <;> rfl)
    (fun e => by rw [Sem.bind_eq_wrap, Sem.wrap_wrap]; rfl)]
  exact h
end
end GF
namespace GF
open PySem PySem.Spec L2 GenW DX
open PyProof.Rows hiding St
abbrev Bs := Shared × Hp
/-- the context X at another base -/
abbrev rb (X : Cx) (xe : Bs → Value → Shared → Prop) (b : Bs) : Cx := { X with s_0 := b.1, H_0 := b.2, xe := xe b }
/-- a family of contexts: X's frame, the bases in V (their heaps have one size), what is told of what is handed out -/
structure Fm where
  X : Cx
  xe : Bs → Value → Shared → Prop
  V : Bs → Prop
  n0 : Nat
  O : List L2.V → L2.V → Hp → Hp → Prop
abbrev Fm.at (Y : Fm) (b : Bs) : Cx := rb Y.X Y.xe b
structure Fm.Ok (Y : Fm) : Prop where
  sz : ∀ b, Y.V b → b.1.heap.objs.size = Y.n0
  own : ∀ b, Y.V b → PassesOwn (model Y.X.prog Y.X.w) Y.X.A Y.X.env (Y.xe b)
/-- the ghost: the generator's F at its last item, the base of this segment, what the consumer pinned -/
structure Gst where
  F : Hp
  b : Bs
  cp : List (Addr × Obj)
/-- running, at the segment's base -/
def I (Y : Fm) (g : Gst) (ip : List (Addr × Obj)) (σ : St) (H : Hp) (s : Shared) : Prop := Y.V g.b ∧ Inv (Y.at g.b) (g.cp ++ ip) σ H s ∧ ∀ p ∈ g.cp, ∀ q ∈ ip, q.1 ≠ p.1
/-- what is wanted behind a statement: the ghost, what is out, the names, the heap -/
structure GE where
  nx : Gst → List L2.V → St → Hp → Prop
  rt : Gst → List L2.V → VK
  bk : Gst → List L2.V → St → Hp → Prop := fun _ _ _ _ => False
  ct : Gst → List L2.V → St → Hp → Prop := fun _ _ _ _ => False
abbrev TGg := GE → Gst → List L2.V → St → Hp → Prop
def GE.at (D : GE) (g : Gst) (ys : List L2.V) : Ends := { nx := D.nx g ys, rt := D.rt g ys, bk := D.bk g ys, ct := D.ct g ys }
/-- it hands x out, and goes on from whatever keeps the frame, the iterators and what is tracked -/
def Yp (Y : Fm) : ProtG Gst := fun g n s₀ v s kap =>
  ∃ ys x ip σ H F, n + 1 + ys.length = sizeLine ∧ RelV x v ∧ I Y g ip σ H s ∧ Same g.F F ∧ Y.O ys x H F ∧ ∀ s' b' cp', I Y ⟨F, b', cp'⟩ ip σ H s' → kap ⟨F, b', cp'⟩ (.send .none) s'
def SPF (Y : Fm) (ip : List (Addr × Obj)) (D : GE) (g : Gst) (ys : List L2.V) (f : Flow) (s : Shared) : Prop :=
  match f with
  | .next => ∃ σ H, I Y g ip σ H s ∧ D.nx g ys σ H
  | .brk => ∃ σ H, I Y g ip σ H s ∧ D.bk g ys σ H
  | .cont => ∃ σ H, I Y g ip σ H s ∧ D.ct g ys σ H
  | .ret u => ∃ v σ H, I Y g ip σ H s ∧ RelV v u ∧ D.rt g ys v H
structure C (Y : Fm) (A : Around) (c : Code) (fs : List Frame) (gd : Bool → Bool) : Prop where
  over : A.over c fs = Y.X.A
  split : splitAtGen fs = none
  guard : fs.any Frame.guarded = false
  gd : gd false = false
structure KF (Y : Fm) (ip : List (Addr × Obj)) (A : Around) (R : EndG Gst) (c : Code) (fs : List Frame) (K : Flow → Sem PySem.Fin) (J : Value → Sem PySem.Fin) (D : GE) : Prop where
  ok : ∀ (n : Nat) (g₀ : Gst) (ys : List L2.V) (s₀ s : Shared) (f : Flow), n + ys.length = sizeLine → SPF Y ip D g₀ ys f s → SegG (model Y.X.prog Y.X.w) A R (Yp Y) n g₀ s₀ c (K f) fs s
  exc : ∀ (n : Nat) (g₀ : Gst) (s₀ : Shared) (b : Bs) (e : Value) (s : Shared), Y.V b → Y.xe b e s → SegG (model Y.X.prog Y.X.w) A R (Yp Y) n g₀ s₀ c (J e) fs s
structure S (Y : Fm) (st : Stmt) (t : TGg) : Prop where
  run : ∀ (A : Around) (ip : List (Addr × Obj)) (R : EndG Gst) (n : Nat) (g₀ : Gst) (ys : List L2.V) (s₀ : Shared) (c : Code) (fs : List Frame) (K : Flow → Sem PySem.Fin) (J : Value → Sem PySem.Fin) (gd : Bool → Bool) (lv : List Value → List Value) (s : Shared) (σ : St) (H : Hp) (D : GE),
    C Y A c fs gd → n + ys.length = sizeLine → KF Y ip A R c fs K J D → I Y g₀ ip σ H s → t D g₀ ys σ H → SegG (model Y.X.prog Y.X.w) A R (Yp Y) n g₀ s₀ c ((exec st Y.X.env).wrap K J gd lv) fs s
structure Ss (Y : Fm) (st : List Stmt) (t : TGg) : Prop where
  run : ∀ (A : Around) (ip : List (Addr × Obj)) (R : EndG Gst) (n : Nat) (g₀ : Gst) (ys : List L2.V) (s₀ : Shared) (c : Code) (fs : List Frame) (K : Flow → Sem PySem.Fin) (J : Value → Sem PySem.Fin) (gd : Bool → Bool) (lv : List Value → List Value) (s : Shared) (σ : St) (H : Hp) (D : GE),
    C Y A c fs gd → n + ys.length = sizeLine → KF Y ip A R c fs K J D → I Y g₀ ip σ H s → t D g₀ ys σ H → SegG (model Y.X.prog Y.X.w) A R (Yp Y) n g₀ s₀ c ((execs st Y.X.env).wrap K J gd lv) fs s
end GF
namespace GF
open PySem PySem.Spec L2 GenW DX
open PyProof.Rows hiding St
structure KGg (K : PySem.W.Frag) (F : Hp) (B : GBd) (E : GE) : Prop where
  nx : ∀ (g : Gst) F' σ' H' ρ' M' ys vs, B.nx ys ρ' M' → Same F F' → Same g.F F' → En K F' σ' ρ' → DX.Ok K F' M' H' → Rps K F' vs ys → E.nx g vs σ' H'
  rt : ∀ (g : Gst) d v M' F' H' ys vs, B.rt ys d M' → Same F F' → Same g.F F' → DX.Ok K F' M' H' → Rp K F' v d → Rps K F' vs ys → E.rt g vs v H'
  bk : ∀ (g : Gst) F' σ' H' ρ' M' ys vs, B.bk ys ρ' M' → Same F F' → Same g.F F' → En K F' σ' ρ' → DX.Ok K F' M' H' → Rps K F' vs ys → E.bk g vs σ' H'
  ct : ∀ (g : Gst) F' σ' H' ρ' M' ys vs, B.ct ys ρ' M' → Same F F' → Same g.F F' → En K F' σ' ρ' → DX.Ok K F' M' H' → Rps K F' vs ys → E.ct g vs σ' H'
def tGg (K : PySem.W.Frag) (J : Gh) (ys : List D) (ρ : DEnv) (M : Mem) (B : GBd) : TGg := fun D g vs σ H => ∃ F, Same g.F F ∧ Sts K J F σ H ρ M ∧ Rps K F vs ys ∧ KGg K F B D
def GX (Y : Fm) (J : Gh) (st : List Stmt) (ys : List D) (ρ : DEnv) (M : Mem) (B : GBd) : Prop := Ss Y st (tGg Y.X.K J ys ρ M B)
def G1 (Y : Fm) (J : Gh) (st : Stmt) (ys : List D) (ρ : DEnv) (M : Mem) (B : GBd) : Prop := S Y st (tGg Y.X.K J ys ρ M B)
def tAs (Y : Fm) (st : List Stmt) : TGg := fun D g vs σ H => ∃ t, Ss Y st t ∧ t D g vs σ H
def tA1 (Y : Fm) (st : Stmt) : TGg := fun D g vs σ H => ∃ t, S Y st t ∧ t D g vs σ H
/-- what the consumer is told of an item: ds is all that comes -/
def OD (K : PySem.W.Frag) (ds : List D) : List L2.V → L2.V → Hp → Hp → Prop := fun vs x H F => ∃ M d, DX.Ok K F M H ∧ Rp K F x d ∧ ds[vs.length]? = some d
section
variable {Y : Fm} {J : Gh} {e a b c : Expr} {es : List Expr} {st : Stmt} {rest sts : List Stmt} {ys ds : List D} {ρ ρ' : DEnv} {M M0 M' : Mem} {F F' H H' : Hp} {σ : St} {B : GBd} {K : PySem.W.Frag} {pos p yp : Pos} {E : GE} {g : Gst}
theorem KGg.to (k : KGg K F B E) (e : Same F F') : KGg K F' B E :=
  ⟨fun g F2 σ' H' ρ' M' ys vs q e2 => k.nx g F2 σ' H' ρ' M' ys vs q (e.trans e2), fun g d v M' F2 H' ys vs q e2 => k.rt g d v M' F2 H' ys vs q (e.trans e2), fun g F2 σ' H' ρ' M' ys vs q e2 => k.bk g F2 σ' H' ρ' M' ys vs q (e.trans e2), fun g F2 σ' H' ρ' M' ys vs q e2 => k.ct g F2 σ' H' ρ' M' ys vs q (e.trans e2)⟩
theorem gx_of {t : TGg} (h : Ss Y sts t) (k : ∀ F (g : Gst) vs σ H E, Same g.F F → Sts Y.X.K J F σ H ρ M → Rps Y.X.K F vs ys → KGg Y.X.K F B E → t E g vs σ H) : GX Y J sts ys ρ M B :=
  ⟨fun A ip R n g₀ vs s₀ c fs K J gd lv s σ H D g hn kk hI ⟨F, sg, st, r, q⟩ => h.run A ip R n g₀ vs s₀ c fs K J gd lv s σ H D g hn kk hI (k F g₀ vs σ H D sg st r q)⟩
theorem GX.go {vs : List L2.V} (h : GX Y J sts ys ρ M B) (sg : Same g.F F) (s : Sts Y.X.K J F σ H ρ M) (r : Rps Y.X.K F vs ys) (k : KGg Y.X.K F B E) : tAs Y sts E g vs σ H := ⟨_, h, F, sg, s, r, k⟩
theorem G1.go {vs : List L2.V} (h : G1 Y J st ys ρ M B) (sg : Same g.F F) (s : Sts Y.X.K J F σ H ρ M) (r : Rps Y.X.K F vs ys) (k : KGg Y.X.K F B E) : tA1 Y st E g vs σ H := ⟨_, h, F, sg, s, r, k⟩
end
end GF
namespace GF
open PySem PySem.Spec L2 GenW DX
open PyProof.Rows hiding St
section
variable (pg : Program) (w : World) (K : PySem.W.Frag) (mg : Str → Option Value) (base : Heap) (N : List Str) (qual : Str) (scope : Scope) (f : Addr) (cdv : Value) (A : Around) (outer : List PySem.Env) (s : Shared) (H : Hp) (pn : List (Addr × Obj)) (ds : List D)
def famOf : Fm where
  X := gcxOf pg w K mg base N qual scope f cdv A outer s H noK pn
  xe := fun b => (gcxOf pg w K mg base N qual scope f cdv A outer b.1 b.2 noK pn).xe
  V := fun b => b.1.heap.objs.size = s.heap.objs.size
  n0 := s.heap.objs.size
  O := OD K ds
end
section
variable {pg : Program} {w : World} {K : PySem.W.Frag} {mg : Str → Option Value} {base : Heap} {N ps : List Str} {qual : Str} {scope : Scope} {f : Addr} {cdv : Value} {A : Around} {outer : List PySem.Env} {s : Shared} {H : Hp} {pn : List (Addr × Obj)} {ds : List D} {b : Bs}
/-- the end: all is out -/
def REnd (Y : Fm) (K : PySem.W.Frag) (tot : Nat) : EndG Gst := fun g n s₀ r s => (r = .ok (.ret .none) ∨ r = .ok .next) ∧ ∃ (ys : List L2.V) (ip : List (Addr × Obj)) (σ : St) (H F : Hp) (M : Mem), n + ys.length = sizeLine ∧ ys.length = tot ∧ I Y g ip σ H s ∧ Same g.F F ∧ DX.Ok K F M H
/-- the body's promise: ds comes, if T says so of the arguments -/
def GBodyY (pg : Program) (w : World) (K : PySem.W.Frag) (mg : Str → Option Value) (base : Heap) (k : Nat) (f : Addr) (qual : Str) (body : List Stmt) (scope : Scope) (N ps : List Str) (T : List D → List D → Prop) : Prop :=
  ∀ (cdv : Value), CodeAt K f cdv → ∀ (A : Around) (outer : List PySem.Env) (s : Shared) (H F0 : Hp) (pn : List (Addr × Obj)) (as ds : List D) (M : Mem), Room k (A.deeper (PyProof.Rows.envOfC qual scope s.heap.objs.size f cdv)) → T as ds →
    GX (famOf pg w K mg base N qual scope f cdv A outer s H pn ds) (ghF F0) body [] (startD (N.length - ps.length) as) M ⟨fun ys _ _ => ys = ds, fun ys d _ => d = .non ∧ ys = ds, fun _ _ _ => False, fun _ _ _ => False⟩
/-- a generator that has begun nothing: its first segment, from whatever keeps its frame -/
theorem first {k : Nat} {body : List Stmt} {T : List D → List D → Prop} (B : GBodyY pg w K mg base k f qual body scope N ps T) (hcd : CodeAt K f cdv) {g0 : Gst} {as : List D} {vs : List L2.V} {M : Mem} {H1 : Hp} {s2 : Shared} (hr : Room k (A.deeper (PyProof.Rows.envOfC qual scope s.heap.objs.size f cdv)))
    (t : T as ds) (hl : vs.length = ps.length) (o : DX.Ok K g0.F M H1) (r : Rps K g0.F vs as) (h2 : I (famOf pg w K mg base N qual scope f cdv A outer s H pn ds) g0 [] (L2.start N vs) H1 s2) :
    SegG (model pg w) A (REnd (famOf pg w K mg base N qual scope f cdv A outer s H pn ds) K ds.length) (Yp (famOf pg w K mg base N qual scope f cdv A outer s H pn ds)) sizeLine g0 s2 (.func body (PyProof.Rows.envOfC qual scope s.heap.objs.size f cdv))
      ((model pg w).den (.func body (PyProof.Rows.envOfC qual scope s.heap.objs.size f cdv))) [] s2 := by
  refine sg_func ?_
  have hB := B cdv hcd A outer s H g0.F pn as ds M hr t
  refine hB.run A [] _ sizeLine g0 [] s2 _ [] _ _ id id s2 (L2.start N vs) H1 { nx := fun g vs σ H => ∃ F M, Same g.F F ∧ DX.Ok K F M H ∧ vs.length = ds.length, rt := fun g vs v H => v = .non ∧ ∃ F M, Same g.F F ∧ DX.Ok K F M H ∧ vs.length = ds.length } ⟨over_func, rfl, rfl, rfl⟩ (Nat.add_zero _) ⟨fun n g' ys s₀ s' fl hn hs => ?_, fun n g' s₀ b e s' hb hx => ?_⟩ h2 ?_
  · cases fl with
    | next =>
      obtain ⟨σ', H', hI, F, M', sg, o', e⟩ := hs
      exact sg_end (.ok (.ret .none)) ⟨.inl rfl, ys, [], σ', H', F, M', hn, e, hI, sg, o'⟩
    | brk => obtain ⟨_, _, _, q⟩ := hs; exact False.elim q
    | cont => obtain ⟨_, _, _, q⟩ := hs; exact False.elim q
    | ret u =>
      obtain ⟨v, σ', H', hI, rv, ev, F, M', sg, o', e⟩ := hs
      subst ev
      obtain rfl : u = Value.none := rv
      exact sg_end (.ok (.ret .none)) ⟨.inl rfl, ys, [], σ', H', F, M', hn, e, hI, sg, o'⟩
  · refine sg_wrap ?_
    rw [over_func]
    have hx' : wpAny (model pg w) (A.deeper (PyProof.Rows.envOfC qual scope b.1.heap.objs.size f cdv)) (leaving (PyProof.Rows.envOfC qual scope b.1.heap.objs.size f cdv) e) (fun _ s'' => CX pg w outer b.2 b.1 noK e s'' ∧ ∀ p ∈ pn, s''.heap.get? p.1 = some p.2) (fun _ _ => False) s' := hx
    have hsz : b.1.heap.objs.size = s.heap.objs.size := hb
    rw [hsz] at hx'
    refine wpAny_mono hx' (fun _ s'' q => ?_) fun _ s'' q => q.elim
    obtain ⟨c, _⟩ := q
    obtain ⟨_, _, _, _, _, _, _, _, _, _, _, _, z⟩ := c
    exact z.elim
  · refine ⟨g0.F, Same.refl _, ⟨?_, o, Same.refl _⟩, .nil, ⟨fun g F' σ' H' ρ' M' ys vs q e eg en o' r' => ⟨F', M', eg, o', by rw [r'.length, q]⟩, fun g d v M' F' H' ys vs q e eg o' rd r' => ?_, fun g F' σ' H' ρ' M' ys vs q => q.elim, fun g F' σ' H' ρ' M' ys vs q => q.elim⟩⟩
    · unfold L2.start
      rw [hl]
      exact En.start _ r
    · obtain ⟨rfl, q⟩ := q
      cases rd
      exact ⟨rfl, F', M', eg, o', by rw [r'.length, q]⟩
end
end GF
namespace GF
open PySem PySem.Spec L2 DX
def mrg (H1 Hc : Hp) : Hp := fun b => match H1 b with
  | some o => some o
  | none => Hc b
theorem mrg_l {H1 Hc : Hp} {b : Addr} {o : HO} (h : H1 b = some o) : mrg H1 Hc b = some o := by unfold mrg; rw [h]
theorem mrg_r {H1 Hc : Hp} {b : Addr} (h : H1 b = none) : mrg H1 Hc b = Hc b := by unfold mrg; rw [h]
end GF
namespace GF
open PySem PySem.Spec L2 GenW DX
open PyProof.Rows hiding St
def dictOf : HO → Option Addr
  | .ins _ dx _ => some dx
  | .frz _ u => dictOf u
  | _ => none
section
variable {P : Program} {w : World} {H H' : Hp} {h h' : Heap} {a : Addr} {o : HO}
theorem stay2 (x : ObjOk P w H h a o) (k : ∀ b u, (b = a ∨ (dictOf o = some b ∧ H b = some (.own a))) → h.get? b = some u → h'.get? b = some u)
    (ho : ∀ b, dictOf o = some b → H b = some (.own a) → H' b = some (.own a)) (ht : ∀ b xs, H b = some (.tup xs) → H' b = some (.tup xs)) : ObjOk P w H' h' a o := by
  induction o with
  | lst xs => obtain ⟨z, its, n, r, e⟩ := x; exact ⟨z, its, n, r, k _ _ (.inl rfl) e⟩
  | tup xs => obtain ⟨z, its, r, ob, e, c⟩ := x; exact ⟨z, its, r, ob, k _ _ (.inl rfl) e, c⟩
  | dK kvs => obtain ⟨z, y, vs, r, ob, es, ep, e, c⟩ := x; exact ⟨z, y, vs, r, ob, es, ep, k _ _ (.inl rfl) e, c⟩
  | dT kvs =>
    obtain ⟨z, y, xs, r, ob, es, ep, e, c⟩ := x
    exact ⟨z, y, xs, Paired.mapP r fun p q z => ⟨z.1, ht _ _ z.2.1, z.2.2⟩, ob, es, ep, k _ _ (.inl rfl) e, c⟩
  | set S n => obtain ⟨ob, es, ep, t, e, c⟩ := x; exact ⟨ob, es, ep, t, k _ _ (.inl rfl) e, c⟩
  | ins C dx fs =>
    obtain ⟨d, z, ne, e, mA, ⟨od, es, ep, e2, c⟩, r⟩ := x
    exact ⟨ho _ rfl d, z, ne, k _ _ (.inl rfl) e, mA, ⟨od, es, ep, k _ _ (.inr ⟨rfl, d⟩) e2, c⟩, r⟩
  | own y => obtain ⟨ob, e⟩ := x; exact ⟨ob, k _ _ (.inl rfl) e⟩
  | xd fs => obtain ⟨mA, ⟨od, es, ep, e, c⟩, r⟩ := x; exact ⟨mA, ⟨od, es, ep, k _ _ (.inl rfl) e, c⟩, r⟩
  | rng lo hi => obtain ⟨t, u, v, e⟩ := x; exact ⟨t, u, v, k _ _ (.inl rfl) e⟩
  | frz ob u ih => obtain ⟨e, q⟩ := x; exact ⟨k _ _ (.inl rfl) e, ih q k ho⟩
  | tbl ps =>
    have e : h.get? a = some { cls := .none, data := .fields ps } := x
    show h'.get? a = some { cls := .none, data := .fields ps }
    exact k a _ (.inl rfl) e
  | met f y =>
    have e : h.get? a = some (PySem.W.methodObj (.ref f) (.ref y)) := x
    show h'.get? a = some (PySem.W.methodObj (.ref f) (.ref y))
    exact k a _ (.inl rfl) e
  | ext φ => obtain ⟨p, ⟨o, e⟩, st⟩ := x; exact ⟨st _ _ p fun o q => k _ _ (.inl rfl) q, ⟨o, k _ _ (.inl rfl) e⟩, st⟩
theorem dict_own (x : ObjOk P w H h a o) : ∀ {b : Addr}, dictOf o = some b → H b = some (.own a) := by
  induction o with
  | ins C dx fs => intro b e; cases e; exact x.1
  | frz ob u ih => intro b e; exact ih x.2 e
  | _ => intro b e; cases e
end
/-- without the dicts of instances -/
def noOwn (F : Hp) : Hp := fun b => match F b with
  | some (.own _) => none
  | o => o
theorem noOwn_of {F : Hp} {b : Addr} {o : HO} (h : noOwn F b = some o) : F b = some o ∧ ∀ a, o ≠ .own a := by
  unfold noOwn at h
  split at h
  · cases h
  · rename_i k
    exact ⟨h, fun a e => by subst e; exact k a h⟩
theorem noOwn_mk {F : Hp} {b : Addr} {o : HO} (h : F b = some o) (n : ∀ a, o ≠ .own a) : noOwn F b = some o := by
  unfold noOwn
  split
  · rename_i k
    rw [h] at k; exact absurd (Option.some.inj k) (n _)
  · exact h
theorem noOwn_same {F H : Hp} (s : Same F H) : Same (noOwn F) H := fun a o e => s a o (noOwn_of e).1
theorem noOwn_rd {F : Hp} {a : Addr} {u : HO} (n : ∀ x, u ≠ .own x) (h : Rd F a u) : Rd (noOwn F) a u := by
  rcases h with h | ⟨o, h⟩
  · exact .inl (noOwn_mk h n)
  · exact .inr ⟨o, noOwn_mk h fun _ z => nomatch z⟩
theorem noOwn_t {K : PySem.W.Frag} {F : Hp} {a : Addr} {xs : List V} (h : SqT K F a xs) : SqT K (noOwn F) a xs := h.imp (noOwn_rd fun _ z => nomatch z) id
theorem noOwn_l {K : PySem.W.Frag} {F : Hp} {a : Addr} {xs : List V} (h : SqL K F a xs) : SqL K (noOwn F) a xs := h.imp (noOwn_rd fun _ z => nomatch z) id
section
variable {K : PySem.W.Frag} {F : Hp}
mutual
theorem Rp.noOwn : ∀ {v : V} {d : D}, Rp K F v d → Rp K (noOwn F) v d
  | _, _, .non => .non
  | _, _, .bl b => .bl b
  | _, _, .int i => .int i
  | _, _, .str x => .str x
  | _, _, .adr a => .adr a
  | _, _, .ty n => .ty n
  | _, _, .tup h r => .tup (noOwn_t h) (Rps.noOwn r)
  | _, _, .lst h r => .lst (noOwn_mk h fun _ z => nomatch z) (Rps.noOwn r)
  | _, _, .scr h => .scr (noOwn_l h)
  | _, _, .ins h r => .ins (noOwn_mk h fun _ z => nomatch z) (Rfs.noOwn r)
  | _, _, .dct h r => .dct (noOwn_mk h fun _ z => nomatch z) (Rks.noOwn r)
  | _, _, .stup h c r => .stup (noOwn_mk h fun _ z => nomatch z) c (Rps.noOwn r)
  | _, _, .stupK h c => .stupK h c
  | _, _, .exn h c r => .exn (noOwn_mk h fun _ z => nomatch z) (c.imp id fun ⟨dd, h1, h2⟩ => ⟨dd, h1, noOwn_mk h2 fun _ z => nomatch z⟩) (Rfs.noOwn r)
theorem Rps.noOwn : ∀ {v : List V} {d : List D}, Rps K F v d → Rps K (noOwn F) v d
  | _, _, .nil => .nil
  | _, _, .cons h r => .cons (Rp.noOwn h) (Rps.noOwn r)
theorem Rfs.noOwn : ∀ {v : List (Str × V)} {d : List (Str × D)}, Rfs K F v d → Rfs K (noOwn F) v d
  | _, _, .nil => .nil
  | _, _, .cons h r => .cons (Rp.noOwn h) (Rfs.noOwn r)
theorem Rks.noOwn : ∀ {v : List (Key × V)} {d : List (Key × D)}, Rks K F v d → Rks K (noOwn F) v d
  | _, _, .nil => .nil
  | _, _, .cons h r => .cons (Rp.noOwn h) (Rks.noOwn r)
end
end
/-- F holds the instance at a, whose dict is b -/
def Owns (F : Hp) (a b : Addr) : Prop := ∃ o, F a = some o ∧ dictOf o = some b
open Classical in
/-- what is frozen, the dicts of frozen instances, tuples -/
noncomputable def cutG (F H : Hp) : Hp := fun b => match H b with
  | some (.tup xs) => some (.tup xs)
  | some (.own a) => if Owns F a b then some (.own a) else none
  | o => if F b = none then none else o
theorem cutG_le {F H : Hp} {b : Addr} {o : HO} (h : cutG F H b = some o) : H b = some o := by
  unfold cutG at h
  split at h
  · rename_i xs e; cases h; exact e
  · rename_i a e
    split at h
    · cases h; exact e
    · cases h
  · split at h
    · cases h
    · exact h
/-- three kinds -/
theorem cutG_kind {F H : Hp} {b : Addr} {o : HO} (h : cutG F H b = some o) : (∃ xs, o = .tup xs) ∨ (∃ a, o = .own a ∧ Owns F a b) ∨ F b ≠ none := by
  unfold cutG at h
  split at h
  · rename_i xs e; cases h; exact .inl ⟨_, rfl⟩
  · rename_i a e
    split at h
    · rename_i q; cases h; exact .inr (.inl ⟨a, rfl, q⟩)
    · cases h
  · split at h
    · cases h
    · rename_i q; exact .inr (.inr q)
end GF
namespace GF
open PySem PySem.Spec L2 GenW DX
open PyProof.Rows hiding St
/-- stk: the frames that run; n0: the heap's size at the generator's call; h4: the heap ahead of the walk; Fs, Hs: what is frozen, what is tracked there; D: the new list; C: the block's namespace; os: the outside -/
structure CsP where
  pg : Program
  w : World
  K : PySem.W.Frag
  stk : List PySem.Env
  n0 : Nat
  h4 : Heap
  Fs : Hp
  Hs : Hp
  D : Addr
  C : Addr
  os : PySem.OsState
structure CsP.Ok (c : CsP) : Prop where
  hH : ∀ b o, c.Hs b = some o → b < c.n0
  hk : HOk c.pg c.w c.Hs c.h4
  hF : Same c.Fs c.Hs
  hst : ∀ b ∈ frs c.stk, c.Hs b = none ∧ b < c.n0
  hD : c.n0 ≤ c.D
  hC : c.n0 ≤ c.C
  hDC : c.D ≠ c.C
noncomputable abbrev CsP.H0 (c : CsP) : Hp := cutG (noOwn c.Fs) c.Hs
structure LX (c : CsP) (ds : List D) (Fg Hg : Hp) (acc : List L2.V) (s : Shared) : Prop where
  f0 : Same (noOwn c.Fs) Fg
  fg : Same Fg Hg
  hk : HOk c.pg c.w Hg s.heap
  tup : ∀ b xs, c.Hs b = some (.tup xs) → Hg b = some (.tup xs)
  old : ∀ b o, b < c.n0 → c.h4.get? b = some o → c.H0 b = none → Hg b = none ∧ (∃ sl, s.heap.get? b = some { o with slots := sl }) ∧ (b ∉ frs c.stk → s.heap.get? b = some o)
  there : ∀ b o, b < c.n0 → c.h4.get? b = some o → ∃ o', s.heap.get? b = some o'
  hb : ∀ b o, Hg b = none → c.Hs b = some o → ObjOk c.pg c.w (mrg Hg c.Hs) s.heap b o
  nD : Hg c.D = none
  nC : Hg c.C = none
  lst : ∃ (its : List Value) (n : Nat), Vals acc its ∧ s.heap.get? c.D = some { cls := .type "list", data := .seq its.toArray n }
  rps : Rps c.K Fg acc (ds.take acc.length)
  le : acc.length ≤ ds.length
  ns : ∃ m, s.heap.Ns c.C m
  os : s.os = c.os
  bare : AllBare s.gens
  sz : c.n0 ≤ s.heap.objs.size
section
variable {c : CsP} {ds : List D} {Fg Hg F1 H1 : Hp} {acc : List L2.V} {s s1 : Shared}
theorem CsP.Ok.at4 (k : c.Ok) {b : Addr} {o : HO} (e : c.Hs b = some o) : ∃ u, c.h4.get? b = some u := by
  have x := k.hk b o e
  induction o with
  | lst xs => obtain ⟨_, _, _, _, e⟩ := x; exact ⟨_, e⟩
  | tup xs => obtain ⟨_, _, _, ob, e, _⟩ := x; exact ⟨_, e⟩
  | dK kvs => obtain ⟨_, _, _, _, o, _, _, e, _⟩ := x; exact ⟨_, e⟩
  | dT kvs => obtain ⟨_, _, _, _, o, _, _, e, _⟩ := x; exact ⟨_, e⟩
  | set S n => obtain ⟨o, _, _, _, e, _⟩ := x; exact ⟨_, e⟩
  | ins C dx fs => obtain ⟨_, _, _, e, _⟩ := x; exact ⟨_, e⟩
  | own y => obtain ⟨_, e⟩ := x; exact ⟨_, e⟩
  | xd fs => obtain ⟨_, ⟨_, _, _, e, _⟩, _⟩ := x; exact ⟨_, e⟩
  | rng lo hi => obtain ⟨_, _, _, e⟩ := x; exact ⟨_, e⟩
  | frz ob u => obtain ⟨e, _⟩ := x; exact ⟨_, e⟩
  | tbl ps => exact ⟨_, (show c.h4.get? b = some _ from x)⟩
  | met f y => exact ⟨_, (show c.h4.get? b = some _ from x)⟩
  | ext φ => obtain ⟨_, ⟨_, e⟩, _⟩ := x; exact ⟨_, e⟩
theorem LX.none0 (l : LX c ds Fg Hg acc s) (k : c.Ok) {b : Addr} {o : HO} (e : c.Hs b = some o) (n : c.H0 b = none) : Hg b = none := by
  obtain ⟨u, hu⟩ := k.at4 e
  exact (l.old b u (k.hH b o e) hu n).1
/-- what the generator was given stands in what it tracks -/
theorem dom_in (k : c.Ok) (f0 : Same (noOwn c.Fs) F1) (fg : Same F1 H1) {h : Heap} (hk : HOk c.pg c.w H1 h) (tup : ∀ b xs, c.Hs b = some (.tup xs) → H1 b = some (.tup xs)) {b : Addr} {o : HO} (e : c.H0 b = some o) : H1 b = some o := by
  have e0 := cutG_le e
  rcases cutG_kind e with ⟨xs, rfl⟩ | ⟨a, rfl, oa, ha, hd⟩ | n
  · exact tup b xs e0
  · exact dict_own (hk a oa (fg a oa (f0 a oa ha))) hd
  · cases z : noOwn c.Fs b with
    | none => exact absurd z n
    | some u =>
      have h1 := (noOwn_same k.hF) b u z
      rw [e0] at h1
      rw [Option.some.inj h1]
      exact fg b u (f0 b u z)
theorem LX.dom (l : LX c ds Fg Hg acc s) (k : c.Ok) {b : Addr} {o : HO} (e : c.Hs b = some o) : Hg b = none ∨ Hg b = some o := by
  cases q : c.H0 b with
  | none => exact .inl (l.none0 k e q)
  | some u =>
    have e1 := cutG_le q
    rw [e] at e1
    rw [Option.some.inj e1]
    exact .inr (dom_in k l.f0 l.fg l.hk l.tup q)
theorem LX.all (l : LX c ds Fg Hg acc s) (k : c.Ok) {b : Addr} {o : HO} (e : c.Hs b = some o) : mrg Hg c.Hs b = some o := by
  rcases l.dom k e with n | n
  · rw [mrg_r n]; exact e
  · exact mrg_l n
/-- the dict of an instance of the consumer's is the consumer's -/
theorem LX.dict (l : LX c ds Fg Hg acc s) (k : c.Ok) {b dx : Addr} {o : HO} (n : Hg b = none) (e : c.Hs b = some o) (hd : dictOf o = some dx) : c.Hs dx = some (.own b) ∧ Hg dx = none := by
  have e1 := dict_own (k.hk b o e) hd
  refine ⟨e1, ?_⟩
  cases q : c.H0 dx with
  | none => exact l.none0 k e1 q
  | some u =>
    exfalso
    have e2 := cutG_le q
    rw [e1] at e2
    obtain rfl := (Option.some.inj e2).symm
    rcases cutG_kind q with ⟨xs, z⟩ | ⟨a, z, oa, ha, _⟩ | z
    · cases z
    · cases z
      have := l.fg _ _ (l.f0 _ _ ha)
      rw [n] at this; cases this
    · cases y : noOwn c.Fs dx with
      | none => exact absurd y z
      | some v =>
        have h1 := (noOwn_same k.hF) dx v y
        rw [e1] at h1
        exact (noOwn_of y).2 b (Option.some.inj h1).symm
/-- what is not the block's namespace nor the new list stands -/
theorem LX.same {acc' : List L2.V} (l : LX c ds Fg Hg acc s) (k : c.Ok) (kp : ∀ b o, b ≠ c.D → b ≠ c.C → s.heap.get? b = some o → s1.heap.get? b = some o) (hos : s1.os = s.os) (hg : AllBare s1.gens)
    (hlst : ∃ (its : List Value) (n : Nat), Vals acc' its ∧ s1.heap.get? c.D = some { cls := .type "list", data := .seq its.toArray n }) (hns : ∃ m, s1.heap.Ns c.C m) (ha : Rps c.K Fg acc' (ds.take acc'.length)) (hle : acc'.length ≤ ds.length) : LX c ds Fg Hg acc' s1 := by
  have ne : ∀ {b : Addr}, b < c.n0 → b ≠ c.D ∧ b ≠ c.C := fun hb => ⟨Nat.ne_of_lt (Nat.lt_of_lt_of_le hb k.hD), Nat.ne_of_lt (Nat.lt_of_lt_of_le hb k.hC)⟩
  have tr : ∀ {b : Addr} {o : HO}, Hg b = some o → b ≠ c.D ∧ b ≠ c.C := fun e => ⟨fun z => (by rw [z, l.nD] at e; cases e), fun z => (by rw [z, l.nC] at e; cases e)⟩
  have sz : c.n0 ≤ s1.heap.objs.size := by
    obtain ⟨m, o, es, ep, e, r⟩ := hns
    exact Nat.le_trans k.hC (Nat.le_of_lt (Heap.lt_size e))
  refine ⟨l.f0, l.fg, fun b o e => ?_, l.tup, fun b o hb e n => ?_, fun b o hb e => ?_, fun b o n e => ?_, l.nD, l.nC, hlst, ha, hle, hns, hos.trans l.os, hg, sz⟩
  · refine (l.hk b o e).stay (fun x v hx g => ?_) (fun _ q => q) fun _ _ q => q
    rcases hx with rfl | hx
    · exact kp x v (tr e).1 (tr e).2 g
    · exact kp x v (tr hx).1 (tr hx).2 g
  · obtain ⟨h1, ⟨sl, h2⟩, h3⟩ := l.old b o hb e n
    exact ⟨h1, ⟨sl, kp b _ (ne hb).1 (ne hb).2 h2⟩, fun hx => kp b _ (ne hb).1 (ne hb).2 (h3 hx)⟩
  · obtain ⟨o', e'⟩ := l.there b o hb e
    exact ⟨o', kp b _ (ne hb).1 (ne hb).2 e'⟩
  · refine stay2 (l.hb b o n e) (fun x v hx g => ?_) (fun _ _ q => q) fun _ _ q => q
    rcases hx with rfl | ⟨hd, _⟩
    · exact kp x v (ne (k.hH _ _ e)).1 (ne (k.hH _ _ e)).2 g
    · obtain ⟨e1, _⟩ := l.dict k n e hd
      exact kp x v (ne (k.hH _ _ e1)).1 (ne (k.hH _ _ e1)).2 g
end
end GF
namespace DX
open PySem PySem.Spec L2
open PyProof.Rows hiding St
def atP (qs : List (List Int × D)) (k : List Int) : Option D := (qs.find? fun p => decide (p.1 = k)).map (·.2)
def ER (K : PySem.W.Frag) (F : Hp) (es : DTK.TE3) (qs : List (List Int × D)) : Prop := Paired (fun (e : List Int × Addr × V) (q : List Int × D) => e.1 = q.1 ∧ SqT K F e.2.1 (e.1.map V.int) ∧ Rp K F e.2.2 q.2) es qs
theorem ER.mono {K : PySem.W.Frag} {F F' : Hp} {es : DTK.TE3} {qs : List (List Int × D)} (e : Same F F') (r : ER K F es qs) : ER K F' es qs := L2.Paired.mapP r fun _ _ z => ⟨z.1, same_t e z.2.1, z.2.2.mono e⟩
theorem ER.sq {K : PySem.W.Frag} {F : Hp} {es : DTK.TE3} {qs : List (List Int × D)} (r : ER K F es qs) : ∀ e ∈ es, SqT K F e.2.1 (e.1.map V.int) := by
  unfold ER at r
  induction r with
  | nil => intro p hp; cases hp
  | cons h t ih =>
    intro p hp
    rcases List.mem_cons.mp hp with rfl | hp
    · exact h.2.1
    · exact ih p hp
theorem ER.at {K : PySem.W.Frag} {F : Hp} {k : List Int} {x : V} {d : D} (rx : Rp K F x d) : ∀ {es : DTK.TE3} {qs : List (List Int × D)}, ER K F es qs → Rp K F ((DTK.atV es k).getD x) ((atP qs k).getD d)
  | _, _, .nil => rx
  | _, _, .cons (a := p) (b := q) r t => by
    obtain ⟨e1, _, e3⟩ := r
    have ih := ER.at (k := k) rx t
    unfold DTK.atV atP at *
    rw [List.find?_cons, List.find?_cons, ← e1]
    by_cases z : p.1 = k
    · rw [decide_eq_true z]; exact e3
    · rw [decide_eq_false z]; exact ih
end DX
namespace DX
open PySem PySem.Spec L2 SX
section
variable {α β : Type} {f : D → Option D} {xs : List D}
/-- what holds of what comes -/
def Gives {α : Type} (o : Option α) (Q : α → Prop) : Prop := ∃ y, o = some y ∧ Q y
theorem Gives.bind {o : Option α} {f : α → Option β} {Q : β → Prop} (h : Gives o fun a => Gives (f a) Q) : Gives (o.bind f) Q := by
  obtain ⟨y, rfl, h⟩ := h
  exact h
theorem Gives.imp {o : Option α} {Q Q' : α → Prop} (h : Gives o Q) (k : ∀ a, Q a → Q' a) : Gives o Q' := by
  obtain ⟨y, e, h⟩ := h
  exact ⟨y, e, k y h⟩
end
end DX
namespace My
open PySem PySem.Spec L2 DX SX PyProof.Rows StX LamX
def topS (i : Nat) : Stmt := PySem.Challenge.pw_carryprobe_k27_standard_trials.main.body.getD i (.Pass ⟨0, 0, 0, 0⟩)
abbrev s_Lpen : Stmt := topS 17
abbrev s_Ldraw : Stmt := topS 18
abbrev s_trial_with : Stmt := topS 5
abbrev s_adder_trials : Stmt := topS 12
abbrev s_state_at : Stmt := topS 4
abbrev s_worth_of : Stmt := topS 8
abbrev s_carry_of : Stmt := topS 6
abbrev s_numbers_of : Stmt := topS 9
abbrev s_made_additions : Stmt := topS 15
abbrev s_Lput : Stmt := topS 19
abbrev s_Lstandard : Stmt := topS 20
abbrev s_Lmade_right : Stmt := topS 21
abbrev s_ring_trials : Stmt := topS 11
abbrev s_trial_list : Stmt := topS 13
abbrev s_standard_trials : Stmt := topS 14
abbrev s_law : Stmt := topS 22
abbrev tl : TbL := []
def dd_Lpen : He.DefD := ⟨("_law_pen", none), "_law_pen", "_law_pen", defArgs s_Lpen, defBody s_Lpen, defScope s_Lpen, [], []⟩
def dd_Ldraw : He.DefD := ⟨("_law_draw", none), "_law_draw", "_law_draw", defArgs s_Ldraw, defBody s_Ldraw, defScope s_Ldraw, [], []⟩
def dd_trial_with : He.DefD := ⟨("trial_with", none), "trial_with", "trial_with", defArgs s_trial_with, defBody s_trial_with, defScope s_trial_with, [], [("zero", .str "K")]⟩
def dd_adder_trials : He.DefD := ⟨("adder_trials", none), "adder_trials", "adder_trials", defArgs s_adder_trials, defBody s_adder_trials, defScope s_adder_trials, [], []⟩
def dd_state_at : He.DefD := ⟨("state_at", none), "state_at", "state_at", defArgs s_state_at, defBody s_state_at, defScope s_state_at, [], []⟩
def dd_worth_of : He.DefD := ⟨("worth_of", none), "worth_of", "worth_of", defArgs s_worth_of, defBody s_worth_of, defScope s_worth_of, [], []⟩
def dd_carry_of : He.DefD := ⟨("carry_of", none), "carry_of", "carry_of", defArgs s_carry_of, defBody s_carry_of, defScope s_carry_of, [], []⟩
def dd_numbers_of : He.DefD := ⟨("numbers_of", none), "numbers_of", "numbers_of", defArgs s_numbers_of, defBody s_numbers_of, defScope s_numbers_of, [], []⟩
def dd_made_additions : He.DefD := ⟨("made_additions", none), "made_additions", "made_additions", defArgs s_made_additions, defBody s_made_additions, defScope s_made_additions, [], []⟩
def dd_Lput : He.DefD := ⟨("_law_put", none), "_law_put", "_law_put", defArgs s_Lput, defBody s_Lput, defScope s_Lput, [], []⟩
def dd_Lstandard : He.DefD := ⟨("_law_standard", none), "_law_standard", "_law_standard", defArgs s_Lstandard, defBody s_Lstandard, defScope s_Lstandard, [], []⟩
def dd_Lmade_right : He.DefD := ⟨("_law_made_right", none), "_law_made_right", "_law_made_right", defArgs s_Lmade_right, defBody s_Lmade_right, defScope s_Lmade_right, [], []⟩
def dd_ring_trials : He.DefD := ⟨("ring_trials", none), "ring_trials", "ring_trials", defArgs s_ring_trials, defBody s_ring_trials, defScope s_ring_trials, [], []⟩
def dd_trial_list : He.DefD := ⟨("trial_list", none), "trial_list", "trial_list", defArgs s_trial_list, defBody s_trial_list, defScope s_trial_list, [], []⟩
def dd_standard_trials : He.DefD := ⟨("standard_trials", none), "standard_trials", "standard_trials", defArgs s_standard_trials, defBody s_standard_trials, defScope s_standard_trials, [], [("ring", .bl false), ("stuck", .bl false)]⟩
def dd_law : He.DefD := ⟨("law", none), "law", "law", defArgs s_law, defBody s_law, defScope s_law, [], []⟩
def fn : List He.DefD := [dd_Lpen, dd_Ldraw, dd_trial_with, dd_adder_trials, dd_state_at, dd_worth_of, dd_carry_of, dd_numbers_of, dd_made_additions, dd_Lput, dd_Lstandard, dd_Lmade_right, dd_ring_trials, dd_trial_list, dd_standard_trials, dd_law]
def fa : List He.Fa := [.glo "_law_pen", .glo "_law_draw", .glo "trial_with", .glo "adder_trials", .glo "state_at", .glo "worth_of", .glo "carry_of", .glo "numbers_of", .glo "made_additions", .glo "_law_put", .glo "_law_standard", .glo "_law_made_right", .glo "ring_trials", .glo "trial_list", .glo "standard_trials", .glo "law", .free "abs", .free "dict", .free "int", .free "len", .free "list", .free "max", .free "range", .free "repr", .free "tuple", .free "zip", .str "GENERATE" "G", .str "KILL" "K", .str "PASS" "P"]
abbrev R : PySem.W.OpenRow := PySem.W.OpenLaw.row PySem.Challenge.rw_carryprobe_k27_standard_trials
def exq (K : PySem.W.Frag) : Bool := sysB K
def pr : List DX.PrD := []
abbrev hk : PySem.W.Hook := DX.hookT 5 fa fn pr exq tl
def ob (s : PySem.W.SharedT) : DX.LookT := DX.lookT fa fn pr exq tl 5 (HandSHeadRun.getT s)
def loose : List PySem.Str := (["GENERATE", "KILL", "PASS", "state_at", "trial_with", "carry_of", "worth_of", "numbers_of", "ring_trials", "adder_trials", "trial_list", "standard_trials", "made_additions", "_law_pen", "_law_draw", "_law_put", "_law_standard", "_law_made_right"] : List PySem.Str)
theorem run (w : World) : HandSHeadRun.RunEq R (PySem.W.view R.prog [22]) hk ob 12000 loose w := by
  intro os
  kernel_rfl
end My
end
namespace DTK
open PySem PySem.Spec L2 PyProof.Rows
theorem ints_are {P : Program} {w : World} : ∀ {ks : List Int} {us : List Value}, Vals (ks.map V.int) us → ItemsAre (intKind P w) ks us
  | [], _, r => by rw [List.map_nil] at r; cases r; exact .nil
  | k :: ks, _, r => by
    rw [List.map_cons] at r
    cases r with
    | cons h t => exact .cons (by obtain ⟨t, rfl⟩ := h; exact beq_self_eq_true k) (ints_are t)
theorem dtx_new {P : Program} {w : World} {H : Hp} {h : Heap} {a : Addr} {kvs : TE3} {xs : List (List Int × Addr × Value)} (hz : kvs.length ≤ sizeLine) (hd : (a == sysModules) = false) (r : EntR kvs xs) (dd : h.DictOfH (tupleKind (intKind P w)) a xs) : ObjOk P w H h a (DTX a kvs) := by
  obtain ⟨o, es, ep, h1, h2, h3, h4, _, h5⟩ := dd
  refine ⟨⟨hz, hd, xs, r, o, es, ep, h1, h2, h3, h4, h5⟩, ⟨o, h1⟩, fun g1 g2 p k => ?_⟩
  obtain ⟨hz, hd, xs, r, o, es, ep, h1, h2, h3, h4, h5⟩ := p
  exact ⟨hz, hd, xs, r, o, es, ep, k _ h1, h2, h3, h4, h5⟩
theorem ent_at {k : List Int} : ∀ {kvs : TE3} {xs : List (List Int × Addr × Value)}, EntR kvs xs → RelO (atV kvs k) ((atKey xs k).map (·.2))
  | _, _, .nil => by unfold atV atKey; exact trivial
  | _, _, .cons (a := p) (b := q) r t => by
    obtain ⟨e1, e2, e3⟩ := r
    have ih := ent_at (k := k) t
    unfold atV atKey at *
    rw [List.find?_cons, List.find?_cons, ← e1]
    by_cases z : p.1 = k
    · rw [decide_eq_true z]; exact e3
    · rw [decide_eq_false z]; exact ih
section
variable {X : Cx} {pins : List (Addr × Obj)} {σ : L2.St} {H : Hp} {s : Shared} {a b : Addr} {ks : List Int} {kvs : TE3} {v : V} {u : Value} {A : Around} {E : Value → Shared → Prop}
theorem key_ofT (I : L2.Inv X pins σ H s) (e : SqT X.K H b (ks.map V.int)) : (tupleKind (intKind X.prog X.w)).is s.heap ks b := by
  obtain ⟨its, r, ⟨o, h1, h2, n, h3⟩, _⟩ := I.tuple e
  exact ⟨o, its.toArray, n, h1, h2, h3, by simpa using ints_are r⟩
theorem ent_keys (I : L2.Inv X pins σ H s) {xs : List (List Int × Addr × Value)} (r : EntR kvs xs) (hk : ∀ p ∈ kvs, SqT X.K H p.2.1 (p.1.map V.int)) : ∀ x ∈ xs, (tupleKind (intKind X.prog X.w)).is s.heap x.1 x.2.1 := by
  unfold EntR at r
  induction r with
  | nil => intro x hx; cases hx
  | cons q t ih =>
    intro x hx
    rcases List.mem_cons.mp hx with rfl | hx
    · obtain ⟨e1, e2, _⟩ := q
      have := key_ofT I (hk _ List.mem_cons_self)
      rw [e1, e2] at this
      exact this
    · exact ih (fun p hp => hk p (List.mem_cons_of_mem _ hp)) x hx
theorem dtx_of (I : L2.Inv X pins σ H s) (e : H a = some (DTX a kvs)) (hk : ∀ p ∈ kvs, SqT X.K H p.2.1 (p.1.map V.int)) : kvs.length ≤ sizeLine ∧ (a == sysModules) = false ∧ ∃ xs, EntR kvs xs ∧ s.heap.DictOfH (tupleKind (intKind X.prog X.w)) a xs := by
  have q : ObjOk X.prog X.w H s.heap a (DTX a kvs) := I.hok a _ e
  obtain ⟨⟨hz, hd, xs, r, o, es, ep, h1, h2, h3, h4, h5⟩, _, _⟩ := q
  exact ⟨hz, hd, xs, r, o, es, ep, h1, h2, h3, h4, ent_keys I r hk, h5⟩
/-- {}, whose keys will be tuples -/
theorem dtx_empty {H : Hp} (h : Heap) (hb : sysModules < h.objs.size) : ObjOk X.prog X.w H (h.push { cls := .type "dict", data := .dict #[] }) h.objs.size (DTX h.objs.size []) := by
  obtain ⟨z, y, xs, r, o, es, ep, h1, h2, h3, h4, h5⟩ := (show ObjOk X.prog X.w H (h.push { cls := .type "dict", data := .dict #[] }) h.objs.size (.dT []) from dt_empty h hb)
  cases r
  exact dtx_new (xs := []) (by simp [sizeLine]) y .nil ⟨o, es, ep, h1, h2, h3, h4, fun x hx => absurd hx List.not_mem_nil, List.nodup_nil⟩
end
end DTK
namespace DX
open PySem PySem.Spec L2

section
variable {K : PySem.W.Frag} {F F' H H' : Hp}
theorem Rps.getV : ∀ {v : List V} {d : List D} {i : Nat} {y : V}, Rps K F v d → v[i]? = some y → ∃ x, d[i]? = some x ∧ Rp K F y x
  | _, _, i, _, .nil, e => by simp at e
  | _, _, 0, _, .cons h _, e => by simp at e; subst e; exact ⟨_, rfl, h⟩
  | _, _, i + 1, x, .cons _ r, e => by
    obtain ⟨y, h1, h2⟩ := Rps.getV (i := i) (y := x) r (by simpa using e)
    exact ⟨y, by simpa using h1, h2⟩
theorem Rps.reverse : ∀ {v : List V} {d : List D}, Rps K F v d → Rps K F v.reverse d.reverse
  | _, _, .nil => .nil
  | _, _, .cons h r => by
    rw [List.reverse_cons, List.reverse_cons]
    exact (Rps.reverse r).append (.cons h .nil)
theorem Rps.ints : ∀ {v : List V} {ns : List Int}, Rps K F v (ns.map D.int) → v = ns.map V.int
  | v, [], h => by cases h; rfl
  | v, n :: ns, h => by
    cases h with
    | cons a r =>
      cases a
      rw [Rps.ints r]; rfl
theorem Rps.ofInts : ∀ {ns : List Int}, Rps K F (ns.map V.int) (ns.map D.int)
  | [] => .nil
  | n :: ns => .cons (.int n) Rps.ofInts
theorem Rps.strs : ∀ {v : List V} {ns : List Str}, Rps K F v (ns.map D.str) → v = ns.map V.str
  | v, [], h => by cases h; rfl
  | v, n :: ns, h => by
    cases h with
    | cons a r =>
      cases a
      rw [Rps.strs r]; rfl
theorem Rps.ofStrs : ∀ {ns : List Str}, Rps K F (ns.map V.str) (ns.map D.str)
  | [] => .nil
  | n :: ns => .cons (.str n) Rps.ofStrs
end

/-- a slot forgotten -/
def cut : DEnv → Nat → DEnv
  | [], _ => []
  | _ :: r, 0 => none :: r
  | x :: r, n + 1 => x :: cut r n
def cuts (ρ : DEnv) : List Nat → DEnv
  | [] => ρ
  | v :: vs => cut (cuts ρ vs) v
section
variable {K : PySem.W.Frag} {F F' H H' : Hp}
theorem En.cut : ∀ {σ : St} {ρ : DEnv} (i : Nat), En K F σ ρ → En K F (σ.set i none) (DX.cut ρ i)
  | _, _, _, .nil => .nil
  | _, _, 0, .cons _ r => .cons (fun x q => by cases q) r
  | _, _, i + 1, .cons h' r => .cons h' (En.cut i r)
theorem En.cuts {σ : St} {ρ : DEnv} (h : En K F σ ρ) : ∀ vs : List Nat, En K F (wipe σ vs) (DX.cuts ρ vs)
  | [] => h
  | v :: vs => En.cut v (En.cuts h vs)
end

theorem up_up {M : Mem} {a : Addr} {d e : D} : up (up M a d) a e = up M a e := by
  funext b; unfold up; split <;> rfl
theorem rm_up {M : Mem} {a : Addr} {d : D} (h : M a = none) : rm (up M a d) a = M := by
  funext c; unfold rm up
  by_cases h1 : c = a
  · subst h1; rw [if_pos rfl, h]
  · rw [if_neg h1, if_neg h1]
section
variable {K : PySem.W.Frag} {F F' H H' : Hp} {M : Mem}
theorem Ok.nn (k : Ok K F M H) {a : Addr} (h : H a = none) : F a = none ∧ M a = none := by
  refine ⟨k.ex.free h, ?_⟩
  cases q : M a with
  | none => rfl
  | some d =>
    obtain ⟨o, e⟩ := (k.mt a d q).2.there
    rw [h] at e; cases e
/-- a new object that is never to change -/
theorem Ok.fix (k : Ok K F M H) {a : Addr} {o : HO} (h : H a = none) : Ok K (upd F a o) M (upd H a o) := by
  obtain ⟨h1, h2⟩ := k.nn h
  refine ⟨fun b u e => ?_, fun b d e => ?_⟩
  · by_cases hb : b = a
    · subst hb; rw [upd_same] at e ⊢; exact e
    · rw [upd_ne hb] at e ⊢; exact k.ex b u e
  · have hb : b ≠ a := fun z => by subst z; rw [h2] at e; cases e
    obtain ⟨m1, m2⟩ := k.mt b d e
    exact ⟨by rw [upd_ne hb]; exact m1, m2.mono (same_new h1) (upd_ne hb)⟩
theorem Ok.fixSame (k : Ok K F M H) {a : Addr} {o : HO} (h : H a = Option.none) : Same F (upd F a o) := same_new (k.nn h).1
/-- a new object that may change -/
theorem Ok.lay (k : Ok K F M H) {a : Addr} {o : HO} {d : D} (h : H a = Option.none) (m : Mt K F (upd H a o) a d) : Ok K F (up M a d) (upd H a o) := by
  obtain ⟨h1, h2⟩ := k.nn h
  refine ⟨fun b u e => ?_, fun b d' e => ?_⟩
  · rw [upd_ne (ne_of_none e h1)]
    exact k.ex b u e
  · by_cases hb : b = a
    · subst hb
      rw [up_same] at e; cases e
      exact ⟨h1, m⟩
    · rw [up_ne hb] at e
      obtain ⟨m1, m2⟩ := k.mt b d' e
      exact ⟨m1, m2.mono (Same.refl F) (upd_ne hb)⟩
end

def Gh.triv : Gh := ⟨fun _ => True, fun _ _ _ h => h⟩
section
variable {X : Cx} {J : Gh} {e : Expr} {es : List Expr} {ρ : DEnv} {M M' : Mem} {F F' H H' : Hp} {σ : St} {P : D → Mem → Prop} {K : PySem.W.Frag}
theorem pe_any : PE X e (tE X e) := ⟨fun pins s σ H Q I ⟨t, h, q⟩ => h.run pins s σ H Q I q⟩
theorem pt_any : PT X e (tTe X e) := ⟨fun pins s σ H Q I ⟨t, h, q⟩ => h.run pins s σ H Q I q⟩
theorem pw_any : PW X e (tWe X e) := ⟨fun wh pins s σ H Q I ⟨t, h, q⟩ => h.run wh pins s σ H Q I q⟩
theorem pa_any : PA X es (tAe X es) := ⟨fun pos pins s σ H Q I ⟨t, h, q⟩ => h.run pos pins s σ H Q I q⟩
theorem wx_of {t : TT} {P : Bool → Mem → Prop} (h : PW X e t) (k : ∀ F σ H Q, Sts X.K J F σ H ρ M → Kb X.K F P Q → t σ H Q) : WX X J e ρ M P := ⟨fun wh pins s σ H Q I ⟨F, st, q⟩ => h.run wh pins s σ H Q I (k F σ H Q st q)⟩
end
end DX
namespace DX
open PySem PySem.Spec L2

section
variable {X : Cx} {J : Gh} {e a b c : Expr} {es : List Expr} {ρ : DEnv} {M M' : Mem} {F F' H H' : Hp} {σ : St} {P : D → Mem → Prop} {PB : Bool → Mem → Prop} {PA' : List D → Mem → Prop} {K : PySem.W.Frag} {pos : Pos} {x : Str}

theorem ex_var {d : D} (i : Nat) (h : look ρ i = some d) (p : P d M) (hN : X.N[i]? = some x := by rfl) (hv : Vis X.env.scope x := by first | exact Or.inl rfl | exact Or.inr (Or.inl rfl) | exact Or.inr (Or.inr rfl)) (hd : (x == ("__debug__" : Str)) = false := by decide)
    (hcd : (x == ("__classdict__" : Str)) = false := by decide) : EX X J (.Name x pos) ρ M P :=
  ex_of (pe_var hN hv hd hcd) fun F σ H Q st k => by
    obtain ⟨v, h1, h2⟩ := st.en.look h
    exact ⟨v, h1, k.here p st.ok h2⟩
theorem ex_int {i : Int} {j} (p : P (.int i) M) : EX X J (.Constant (.int i) j pos) ρ M P := ex_of pe_int fun F σ H Q st k => k.here p st.ok (.int i)
theorem ex_bl {i : Bool} {j} (p : P (.bl i) M) : EX X J (.Constant (.bool i) j pos) ρ M P := ex_of pe_bl fun F σ H Q st k => k.here p st.ok (.bl i)
theorem ex_str {i : Str} {j} (p : P (.str i) M) : EX X J (.Constant (.str i) j pos) ρ M P := ex_of pe_str fun F σ H Q st k => k.here p st.ok (.str i)
/-- a module's constant -/
theorem ex_glob {v : V} {u : Value} {d : D} (hg : Gl X x) (hm : X.mg x = some u) (r : RelV v u) (hr : ∀ F, Rp X.K F v d) (p : P d M) (hd : (x == ("__debug__" : Str)) = false := by decide) : EX X J (.Name x pos) ρ M P :=
  ex_of (pe_glob hg hm r hd) fun F σ H Q st k => k.here p st.ok (hr F)

theorem ax_nil (p : PA' [] M) : AX X J [] ρ M PA' := ax_of pa_nil fun F σ H Q st k => k [] [] M F H p (Same.refl F) st.ok .nil
theorem ax_cons (h : EX X J e ρ M fun d M1 => AX X J es ρ M1 fun ds M2 => PA' (d :: ds) M2) (hs : starEach (e :: es) X.env = (false, eval e X.env) :: starEach es X.env := by rfl) : AX X J (e :: es) ρ M PA' :=
  ax_of (pa_cons pe_any pa_any hs) fun F σ H Q st k => h.go st fun d v M1 F1 H1 p e1 o1 r1 => AX.go p (st.to e1 o1) fun ds vs M2 F2 H2 p2 e2 o2 r2 => k _ _ M2 F2 H2 p2 (e1.trans e2) o2 (.cons (r1.mono e2) r2)

theorem op_any {f : Value → Value → Sem Value} : OpR X f (rAnyO X f) := fun pins s σ H x y v u Q I rx ry ⟨r, h, q⟩ => h pins s σ H x y v u Q I rx ry q
theorem ex_bin {op : Operator} (h : EX X J a ρ M fun x M1 => EX X J b ρ M1 fun y M2 => OD X (binaryOp op) x y M2 P) : EX X J (.BinOp a op b pos) ρ M P :=
  ex_of (pe_op op_any pe_any pe_any) fun F σ H Q st k => h.go st fun d v M1 F1 H1 p e1 o1 r1 => EX.go p (st.to e1 o1) fun d2 v2 M2 F2 H2 p2 e2 o2 r2 => p2.go o2 (r1.mono e2) r2 (k.to (e1.trans e2))
/-- a comparison as a value; as a test -/
theorem ex_cmp {op : CmpOp} (h : EX X J a ρ M fun x M1 => EX X J b ρ M1 fun y M2 => OD X (compareOp op) x y M2 P) (hm : behindInMarks op b = false := by rfl) : EX X J (.Compare a [op] [b] pos) ρ M P :=
  ex_of (pe_cmpR op_any pe_any pe_any hm) fun F σ H Q st k => h.go st fun d v M1 F1 H1 p e1 o1 r1 => EX.go p (st.to e1 o1) fun d2 v2 M2 F2 H2 p2 e2 o2 r2 => p2.go o2 (r1.mono e2) r2 (k.to (e1.trans e2))
def PBl (PB : Bool → Mem → Prop) : D → Mem → Prop := fun d M => ∃ c, d = .bl c ∧ PB c M
theorem kt_bl {Q : Bool → Hp → Prop} (k : Kb K F PB Q) : Kt K F (PBl PB) (fun x H' => ∃ k, x = .bl k ∧ Q k H') := fun d v M' F' H' p e o r => by
  obtain ⟨c, rfl, p⟩ := p
  cases r
  exact ⟨c, rfl, k c M' F' H' p e o⟩
theorem tx_cmp {op : CmpOp} (h : EX X J a ρ M fun x M1 => EX X J b ρ M1 fun y M2 => OD X (compareOp op) x y M2 (PBl PB)) (hm : behindInMarks op b = false := by rfl) : TX X J (.Compare a [op] [b] pos) ρ M PB :=
  tx_of (pt_cmpR op_any pe_any pe_any hm) fun F σ H Q st k => h.go st fun d v M1 F1 H1 p e1 o1 r1 => EX.go p (st.to e1 o1) fun d2 v2 M2 F2 H2 p2 e2 o2 r2 => p2.go o2 (r1.mono e2) r2 ((kt_bl k).to (e1.trans e2))
theorem od_int {f : Value → Value → Sem Value} {C : Int → Int → Prop} {g : Int → Int → V} {g' : Int → Int → D} (h : OpR X f (rI C g)) {i j : Int} (hc : C i j) (hr : ∀ F, Rp X.K F (g i j) (g' i j)) (p : P (g' i j) M) : OD X f (.int i) (.int j) M P :=
  ⟨_, h, fun F H v u Q o rx ry k => by
    cases rx; cases ry
    exact ⟨i, j, rfl, rfl, hc, k.here p o (hr F)⟩⟩
theorem od_int0 {f : Value → Value → Sem Value} {g : Int → Int → V} {g' : Int → Int → D} (h : OpR X f (rI0 g)) {i j : Int} (hr : ∀ F, Rp X.K F (g i j) (g' i j)) (p : P (g' i j) M) : OD X f (.int i) (.int j) M P :=
  ⟨_, h, fun F H v u Q o rx ry k => by
    cases rx; cases ry
    exact ⟨i, j, rfl, rfl, k.here p o (hr F)⟩⟩
variable {i j : Int}
theorem od_add (p : P (.int (i + j)) M) : OD X (binaryOp .Add) (.int i) (.int j) M P := od_int0 (g' := fun i j => .int (i + j)) op_add (fun F => .int _) p
theorem od_sub (p : P (.int (i - j)) M) : OD X (binaryOp .Sub) (.int i) (.int j) M P := od_int0 (g' := fun i j => .int (i - j)) op_sub (fun F => .int _) p
theorem od_mul (hc : CMul i j) (p : P (.int (i * j)) M) : OD X (binaryOp .Mult) (.int i) (.int j) M P := od_int (g' := fun i j => .int (i * j)) op_mul hc (fun F => .int _) p
theorem od_fdiv (hc : CDiv i j) (p : P (.int (i / j)) M) : OD X (binaryOp .FloorDiv) (.int i) (.int j) M P := od_int (g' := fun i j => .int (i / j)) op_fdiv hc (fun F => .int _) p
theorem od_mod (hc : 0 < j) (p : P (.int (i % j)) M) : OD X (binaryOp .Mod) (.int i) (.int j) M P := od_int (g' := fun i j => .int (i % j)) op_mod hc (fun F => .int _) p
theorem od_pow (hc : CPow i j) (p : P (.int (i ^ j.toNat)) M) : OD X (binaryOp .Pow) (.int i) (.int j) M P := od_int (g' := fun i j => .int (i ^ j.toNat)) op_pow hc (fun F => .int _) p
theorem od_shl (hc : CPow i j) (p : P (.int (i * 2 ^ j.toNat)) M) : OD X (binaryOp .LShift) (.int i) (.int j) M P := od_int (g' := fun i j => .int (i * 2 ^ j.toNat)) op_shl hc (fun F => .int _) p
theorem od_shr (hc : 0 ≤ j) (p : P (.int (i / 2 ^ j.toNat)) M) : OD X (binaryOp .RShift) (.int i) (.int j) M P := od_int (g' := fun i j => .int (i / 2 ^ j.toNat)) op_shr hc (fun F => .int _) p
theorem od_and (p : P (.int (Builtin.bitAnd i j)) M) : OD X (binaryOp .BitAnd) (.int i) (.int j) M P := od_int0 (g' := fun i j => .int (Builtin.bitAnd i j)) op_and (fun F => .int _) p
theorem od_lt (p : P (.bl (decide (i < j))) M) : OD X (compareOp .Lt) (.int i) (.int j) M P := od_int0 (g' := fun i j => .bl (decide (i < j))) op_lt (fun F => .bl _) p
theorem od_gt (p : P (.bl (decide (j < i))) M) : OD X (compareOp .Gt) (.int i) (.int j) M P := od_int0 (g' := fun i j => .bl (decide (j < i))) op_gt (fun F => .bl _) p
theorem od_ge (p : P (.bl (decide (j ≤ i))) M) : OD X (compareOp .GtE) (.int i) (.int j) M P := od_int0 (g' := fun i j => .bl (decide (j ≤ i))) op_ge (fun F => .bl _) p
def sceq : D → D → Bool
  | .non, .non => true
  | .int i, .int j => decide (i = j)
  | .bl i, .bl j => decide (i = j)
  | .str i, .str j => decide (i = j)
  | _, _ => false
theorem sc_ok {x y : D} {v u : V} (h : sc x y = true) (rx : Rp K F v x) (ry : Rp K F u y) : scal v u = true ∧ decide (v = u) = sceq x y := by
  cases rx <;> cases ry <;> first
    | exact absurd h Bool.false_ne_true
    | exact ⟨rfl, by simp [sceq]⟩
theorem od_eq {x y : D} (h : sc x y = true) (p : P (.bl (sceq x y)) M) : OD X (compareOp .Eq) x y M P :=
  ⟨_, op_eq, fun F H v u Q o rx ry k => by
    obtain ⟨h1, h2⟩ := sc_ok h rx ry
    exact ⟨h1, by rw [h2]; exact k.here p o (.bl _)⟩⟩
theorem od_ne {x y : D} (h : sc x y = true) (p : P (.bl (!sceq x y)) M) : OD X (compareOp .NotEq) x y M P :=
  ⟨_, op_ne, fun F H v u Q o rx ry k => by
    obtain ⟨h1, h2⟩ := sc_ok h rx ry
    exact ⟨h1, by rw [h2]; exact k.here p o (.bl _)⟩⟩
theorem tx_pw (h : WX X J e ρ M PB) : TX X J e ρ M PB := PW.pt h
theorem wx_and1 (h : TX X J a ρ M PB) : WX X J (.BoolOp .And [a] pos) ρ M PB := pw_and1 h
theorem wx_or1 (h : TX X J a ρ M PB) : WX X J (.BoolOp .Or [a] pos) ρ M PB := pw_or1 h
theorem wx_and {rest : List Expr} (h : TX X J a ρ M fun t M1 => (t = true → WX X J (.BoolOp .And (b :: rest) pos) ρ M1 PB) ∧ (t = false → PB false M1)) : WX X J (.BoolOp .And (a :: b :: rest) pos) ρ M PB :=
  wx_of (pw_and pt_any pw_any) fun F σ H Q st k => h.go st fun t M1 F1 H1 p e1 o1 => by
    cases t with
    | true => exact iteT ((p.1 rfl).go (st.to e1 o1) (k.to e1))
    | false => exact iteF (k _ _ _ _ (p.2 rfl) e1 o1)
theorem wx_or {rest : List Expr} (h : TX X J a ρ M fun t M1 => (t = false → WX X J (.BoolOp .Or (b :: rest) pos) ρ M1 PB) ∧ (t = true → PB true M1)) : WX X J (.BoolOp .Or (a :: b :: rest) pos) ρ M PB :=
  wx_of (pw_or pt_any pw_any) fun F σ H Q st k => h.go st fun t M1 F1 H1 p e1 o1 => by
    cases t with
    | false => exact iteF ((p.1 rfl).go (st.to e1 o1) (k.to e1))
    | true => exact iteT (k _ _ _ _ (p.2 rfl) e1 o1)
theorem tx_not (h : TX X J a ρ M fun t M1 => PB (!t) M1) : TX X J (.UnaryOp .Not a pos) ρ M PB :=
  tx_of (pt_not pt_any) fun F σ H Q st k => h.go st fun t M1 F1 H1 p e1 o1 => k _ _ _ _ p e1 o1
/-- as values, bools -/
theorem ex_one {op} (h : EX X J a ρ M P) : EX X J (.BoolOp op [a] pos) ρ M P := pe_one h
theorem ex_if (h : TX X J c ρ M fun t M1 => (t = true → EX X J a ρ M1 P) ∧ (t = false → EX X J b ρ M1 P)) : EX X J (.IfExp c a b pos) ρ M P :=
  ex_of (pe_ifExp pt_any pe_any pe_any) fun F σ H Q st k => h.go st fun t M1 F1 H1 p e1 o1 => by
    cases t with
    | true => exact iteT ((p.1 rfl).go (st.to e1 o1) (k.to e1))
    | false => exact iteF ((p.2 rfl).go (st.to e1 o1) (k.to e1))

/-- a new tuple, a new list that is not to change -/
theorem ex_tup {x1} (h : AX X J es ρ M fun ds M1 => ds.length ≤ 1000000 ∧ P (.tup ds) M1) : EX X J (.Tuple es x1 pos) ρ M P :=
  ex_of (pe_tup pa_any) fun F σ H Q st k => h.go st fun ds vs M1 F1 H1 p e1 o1 r1 => ⟨by rw [r1.length, sizeLine_eq]; omega, fun q hq =>
    k _ _ _ _ _ p.2 (e1.trans (o1.fixSame hq)) (o1.fix hq) (.tup (SqT.of upd_same) (r1.mono (o1.fixSame hq)))⟩
theorem ex_lst (h : AX X J es ρ M fun ds M1 => ds.length ≤ 1000000 ∧ P (.lst ds) M1) : EX X J (.List es pos) ρ M P :=
  ex_of (pe_lst pa_any) fun F σ H Q st k => h.go st fun ds vs M1 F1 H1 p e1 o1 r1 => ⟨by rw [r1.length, sizeLine_eq]; omega, fun q hq =>
    k _ _ _ _ _ p.2 (e1.trans (o1.fixSame hq)) (o1.fix hq) (.lst upd_same (r1.mono (o1.fixSame hq)))⟩
/-- a new list that may change -/
theorem ex_lstM (h : AX X J es ρ M fun ds M1 => ds.length ≤ 1000000 ∧ ∀ p, M1 p = none → P (.adr p) (up M1 p (.lst ds))) : EX X J (.List es pos) ρ M P :=
  ex_of (pe_lst pa_any) fun F σ H Q st k => h.go st fun ds vs M1 F1 H1 p e1 o1 r1 => ⟨by rw [r1.length, sizeLine_eq]; omega, fun q hq =>
    k _ _ _ _ _ (p.2 q (o1.nn hq).2) e1 (o1.lay hq ⟨vs, upd_same, r1⟩) (.adr q)⟩
/-- x[i] -/
def rAnyI (X : Cx) : R2 := fun v u H Q => ∃ r, IxR X r ∧ r v u H Q
theorem ix_any : IxR X (rAnyI X) := fun value slice pins s σ H x y v u Q I rx ry ⟨r, h, q⟩ hs => h value slice pins s σ H x y v u Q I rx ry q hs
def ID (X : Cx) (x y : D) (M : Mem) (P : D → Mem → Prop) : Prop :=
  ∃ r, IxR X r ∧ ∀ F H v u Q, Ok X.K F M H → Rp X.K F v x → Rp X.K F u y → Kt X.K F P Q → r v u H Q
theorem ex_ix (h : EX X J a ρ M fun x M1 => EX X J b ρ M1 fun y M2 => ID X x y M2 P) (hs : PlainIx b := by intro _ _; rfl) : EX X J (.Subscript a b pos) ρ M P :=
  ex_of (pe_ix ix_any pe_any pe_any hs) fun F σ H Q st k => h.go st fun d v M1 F1 H1 p e1 o1 r1 => EX.go p (st.to e1 o1) fun d2 v2 M2 F2 H2 p2 e2 o2 r2 => by
    obtain ⟨r, h1, h2⟩ := p2
    exact ⟨r, h1, h2 F2 H2 v v2 Q o2 (r1.mono e2) r2 (k.to (e1.trans e2))⟩
theorem atI_of {ds : List D} {xs : List V} {i : Int} {d : D} (r : Rps K F xs ds) (h : atI ds i = some d) : ∃ v, atI xs i = some v ∧ Rp K F v d := by
  unfold atI at h ⊢
  rw [r.length]
  cases e : ixN ds.length i with
  | none => rw [e] at h; cases h
  | some j =>
    rw [e] at h
    obtain ⟨v, h1, h2⟩ := r.get (show ds[j]? = some d from h)
    exact ⟨v, h1, h2⟩
theorem id_seq {x d : D} {ds : List D} (s : Sq M x ds) (h : atI ds i = some d) (p : P d M) : ID X x (.int i) M P :=
  ⟨_, ix_list.or ix_tup, fun F H v u Q o rx ry k => by
    cases ry
    obtain ⟨q, xs, rfl, hs, r⟩ := s.get o rx
    obtain ⟨w, h1, h2⟩ := atI_of r h
    rcases hs with hs | hs
    · exact .inl ⟨q, xs, i, w, rfl, rfl, hs, h1, k.here p o h2⟩
    · exact .inr ⟨q, xs, i, w, rfl, rfl, hs, h1, k.here p o h2⟩⟩
theorem id_str {z : Str} {n : Nat} (hz : z.length ≤ 1000000) (h : atI z.cps.toList i = some n) (p : P (.str ⟨#[n]⟩) M) : ID X (.str z) (.int i) M P :=
  ⟨_, ix_str, fun F H v u Q o rx ry k => by
    cases rx; cases ry
    exact ⟨z, i, n, rfl, rfl, by rw [sizeLine_eq]; omega, h, k.here p o (.str _)⟩⟩
/-- x + y of texts, lists, tuples; x * n -/
theorem od_addS {x y : Str} (hz : x.length + y.length ≤ 1000000) (p : P (.str (x ++ y)) M) : OD X (binaryOp .Add) (.str x) (.str y) M P :=
  ⟨_, op_add_str, fun F H v u Q o rx ry k => by
    cases rx; cases ry
    exact ⟨x, y, rfl, rfl, by rw [sizeLine_eq]; omega, k.here p o (.str _)⟩⟩
theorem od_addL {x y : D} {ds es : List D} (sx : Sl M x ds) (sy : Sl M y es) (hz : ds.length + es.length ≤ 1000000) (p : P (.lst (ds ++ es)) M) : OD X (binaryOp .Add) x y M P :=
  ⟨_, op_cat, fun F H v u Q o rx ry k => by
    obtain ⟨a, xs, rfl, h1, r1⟩ := sx.get o rx
    obtain ⟨b, ys, rfl, h2, r2⟩ := sy.get o ry
    exact ⟨a, b, xs, ys, rfl, rfl, h1, h2, by rw [r1.length, r2.length, sizeLine_eq]; omega, fun q hq => k _ _ _ _ _ p (o.fixSame hq) (o.fix hq) (.lst upd_same ((r1.append r2).mono (o.fixSame hq)))⟩⟩
theorem od_addT {ds es : List D} (hz : ds.length + es.length ≤ 1000000) (p : P (.tup (ds ++ es)) M) : OD X (binaryOp .Add) (.tup ds) (.tup es) M P :=
  ⟨_, op_catA, fun F H v u Q o rx ry k => by
    cases rx with
    | @tup a xs _ h1 r1 =>
    cases ry with
    | @tup b ys _ h2 r2 =>
      have g1 := same_t o.ex h1
      have g2 := same_t o.ex h2
      refine ⟨a, b, xs, ys, rfl, rfl, g1, g2, by rw [r1.length, r2.length, sizeLine_eq]; omega, fun e => ?_, fun _ e => ?_, fun _ _ q hq => ?_⟩
      · subst e
        have : ds = [] := by cases r1; rfl
        subst this
        exact k.here p o (.tup h2 (by simpa using r2))
      · subst e
        have : es = [] := by cases r2; rfl
        subst this
        exact k.here p o (.tup h1 (by simpa using r1))
      · exact k _ _ _ _ _ p (o.fixSame hq) (o.fix hq) (.tup (SqT.of upd_same) ((r1.append r2).mono (o.fixSame hq)))⟩
theorem od_mulL {x : D} {ds : List D} {n : Int} (sx : Sl M x ds) (h0 : -(2 ^ 62) ≤ n ∧ n < 2 ^ 62) (hz : ds.length * n.toNat ≤ 1000000) (p : P (.lst (List.replicate n.toNat ds).flatten) M) : OD X (binaryOp .Mult) x (.int n) M P :=
  ⟨_, op_rep, fun F H v u Q o rx ry k => by
    cases ry
    obtain ⟨a, xs, rfl, h1, r1⟩ := sx.get o rx
    exact ⟨a, n, xs, rfl, rfl, h1, by omega, by omega, by rw [r1.length, sizeLine_eq]; omega, fun q hq => k _ _ _ _ _ p (o.fixSame hq) (o.fix hq) (.lst upd_same ((r1.rep _).mono (o.fixSame hq)))⟩⟩
/-- slices of lists, tuples, texts -/
def tOe (X : Cx) (e : Option Expr) : TO := fun σ H Q => ∃ t, PO X e t ∧ t σ H Q
theorem po_any {eo : Option Expr} : PO X eo (tOe X eo) := ⟨fun pins s σ H Q I ⟨t, h, q⟩ => h.run pins s σ H Q I q⟩
def Ko (K : PySem.W.Frag) (F : Hp) (P : Option Int → Mem → Prop) (Q : Option Int → Hp → Prop) : Prop := ∀ b M' F' H', P b M' → Same F F' → Ok K F' M' H' → Q b H'
def OX (X : Cx) (J : Gh) (eo : Option Expr) (ρ : DEnv) (M : Mem) (P : Option Int → Mem → Prop) : Prop := ∀ F σ H Q, Sts X.K J F σ H ρ M → Ko X.K F P Q → tOe X eo σ H Q
theorem ox_none {PO' : Option Int → Mem → Prop} (p : PO' none M) : OX X J none ρ M PO' := fun F σ H Q st k => ⟨_, po_none, k _ _ _ _ p (Same.refl F) st.ok⟩
def rAnyS (X : Cx) : V → Option Int → Option Int → Hp → VK → Prop := fun v l h H Q => ∃ r, SlR X r ∧ r v l h H Q
theorem sl_any : SlR X (rAnyS X) := fun pins s σ H x v vl vu lo hi sl Q I rx hs pl pu ⟨r, h1, h2⟩ => h1 pins s σ H x v vl vu lo hi sl Q I rx hs pl pu h2
def SD (X : Cx) (x : D) (l h : Option Int) (M : Mem) (P : D → Mem → Prop) : Prop :=
  ∃ r, SlR X r ∧ ∀ F H v Q, Ok X.K F M H → Rp X.K F v x → Kt X.K F P Q → r v l h H Q
theorem ex_slice {lo hi : Option Expr} {p2 : Pos} (h : EX X J e ρ M fun x M1 => OX X J lo ρ M1 fun l M2 => OX X J hi ρ M2 fun u M3 => SD X x l u M3 P) : EX X J (.Subscript e (.Slice lo hi none p2) pos) ρ M P :=
  ex_of (pe_slice sl_any pe_any po_any po_any) fun F σ H Q st k => h.go st fun d v M1 F1 H1 p e1 o1 r1 => p F1 σ H1 _ (st.to e1 o1) fun l M2 F2 H2 p2 e2 o2 => p2 F2 σ H2 _ (st.to (e1.trans e2) o2) fun u M3 F3 H3 p3 e3 o3 => by
    obtain ⟨r, h1, h2⟩ := p3
    exact ⟨r, h1, h2 F3 H3 v Q o3 ((r1.mono e2).mono e3) (k.to ((e1.trans e2).trans e3))⟩
def cutD (ds : List D) (lo hi : Option Int) : List D := (ds.drop (HT.sIx ds.length 0 lo)).take (HT.sIx ds.length ds.length hi - HT.sIx ds.length 0 lo)
theorem cut_of {ds : List D} {xs : List V} (r : Rps K F xs ds) (lo hi : Option Int) : Rps K F (cutV xs lo hi) (cutD ds lo hi) := by
  unfold cutV cutD
  rw [r.length]
  exact (r.drop _).take _
theorem sd_list {x : D} {ds : List D} {l u : Option Int} (s : Sl M x ds) (p : P (.lst (cutD ds l u)) M) : SD X x l u M P :=
  ⟨_, sl_list, fun F H v Q o rx k => by
    obtain ⟨a, xs, rfl, h1, r1⟩ := s.get o rx
    exact ⟨a, xs, rfl, SqL.of h1, fun q hq => k _ _ _ _ _ p (o.fixSame hq) (o.fix hq) (.lst upd_same ((cut_of r1 l u).mono (o.fixSame hq)))⟩⟩
end
end DX
namespace DX
open PySem PySem.Spec L2

section
variable {X : Cx} {J : Gh} {e a b c : Expr} {es : List Expr} {st : Stmt} {rest sts : List Stmt} {ρ ρ' : DEnv} {M M' : Mem} {F F' H H' : Hp} {σ : St} {B : Bd} {K : PySem.W.Frag} {pos p : Pos} {x : Str} {E : Ends}
theorem pss_any : PSs X sts (tSe X sts) := ⟨fun pins s σ H D I ⟨t, h, q⟩ => h.run pins s σ H D I q⟩
theorem ps_any : PS X st (tS1 X st) := ⟨fun pins s σ H D I ⟨t, h, q⟩ => h.run pins s σ H D I q⟩
theorem g1_of {t : TS} (h : PS X st t) (k : ∀ F σ H E, Sts X.K J F σ H ρ M → Kd X.K F B E → t E σ H) : G1 X J st ρ M B := ⟨fun pins s σ H D I ⟨F, st, q⟩ => h.run pins s σ H D I (k F σ H D st q)⟩
/-- the ends with another way on -/
def Bd.thn (B : Bd) (nx : DEnv → Mem → Prop) : Bd := { B with nx := nx }
theorem gx_nil (h : B.nx ρ M) : GX X J [] ρ M B := gx_of pss_nil fun F σ H E st k => k.nx F σ H ρ M h (Same.refl F) st.en st.ok
/-- a statement, then the rest -/
theorem gx_cons (h : G1 X J st ρ M (B.thn fun ρ' M' => GX X J rest ρ' M' B)) (hJ : ∀ F, J.p F → ∀ F', Same F F' → J.p F') : GX X J (st :: rest) ρ M B :=
  gx_of (pss_cons ps_any pss_any) fun F σ H E s k => h.go s
    ⟨fun F' σ' H' ρ' M' q e en o => GX.go q ⟨en, o, J.mono _ _ e s.gh⟩ (k.to e), k.rt, k.bk, k.ct⟩
theorem gx_seq (h : G1 X J st ρ M (B.thn fun ρ' M' => GX X J rest ρ' M' B)) : GX X J (st :: rest) ρ M B := gx_cons h fun F q F' e => J.mono F F' e q
/-- at d, into the names ρ: then P of the names -/
def AsD (X : Cx) (target : Expr) (d : D) (ρ : DEnv) (P : DEnv → Prop) : Prop :=
  ∃ g, PG X target g ∧ ∀ F M v σ H Q, Ok X.K F M H → Rp X.K F v d → En X.K F σ ρ → (∀ σ' ρ', P ρ' → En X.K F σ' ρ' → Q σ' H) → g v σ H Q
def AsDs (X : Cx) (ts : List Expr) (ds : List D) (ρ : DEnv) (P : DEnv → Prop) : Prop :=
  ∃ g, PGs X ts g ∧ ∀ F M vs σ H Q, Ok X.K F M H → Rps X.K F vs ds → En X.K F σ ρ → (∀ σ' ρ', P ρ' → En X.K F σ' ρ' → Q σ' H) → g vs σ H Q
def gE (X : Cx) (target : Expr) : TG := fun v σ H Q => ∃ g, PG X target g ∧ g v σ H Q
theorem pg_any {target : Expr} : PG X target (gE X target) := ⟨fun pins s σ H v u Q I r ⟨g, h, q⟩ => h.run pins s σ H v u Q I r q⟩
theorem as_name {d : D} {P : DEnv → Prop} (i : Nat) (h : P (put ρ i d)) (hN : X.N.Nodup := by rfl) (hi : X.N[i]? = some x := by rfl) (hx : Loc X.env.scope x := by first | exact Or.inl rfl | exact Or.inr rfl) (hf : X.fn x = true ∨ X.env.scope.names.lookup x = some .local := by first | exact .inl rfl | exact .inr rfl) : AsD X (.Name x pos) d ρ P :=
  ⟨_, pg_name hN hi hx hf, fun F M v σ H Q o r en k => k _ _ h (en.put i r)⟩
theorem as_tup {ds : List D} {k : Nat} {P : DEnv → Prop} (hc : X.calm = true) (hl : (assignEach es X.env).length = ds.length) (h : AsDs X es ds ρ P) (hst : (assignEach es X.env).findIdx? (·.1) = none := by rfl) : AsD X (.Tuple es k pos) (.tup ds) ρ P := by
  obtain ⟨g, hg, h⟩ := h
  refine ⟨_, pg_tup hc hg hl hst, fun F M v σ H Q o r en k => ?_⟩
  cases r with
  | tup h1 r1 => exact ⟨_, _, rfl, same_t o.ex h1, r1.length, h F M _ σ H Q o r1 en k⟩
theorem asd_go {target : Expr} {d : D} {P : DEnv → Prop} (h : AsD X target d ρ P) {v : V} {Q : St → Hp → Prop} (o : Ok X.K F M H) (r : Rp X.K F v d) (en : En X.K F σ ρ) (k : ∀ σ' ρ', P ρ' → En X.K F σ' ρ' → Q σ' H) : gE X target v σ H Q := by
  obtain ⟨g, hg, h⟩ := h
  exact ⟨g, hg, h F M v σ H Q o r en k⟩
theorem asd_nil {P : DEnv → Prop} (h : P ρ) : AsDs X [] [] ρ P := ⟨_, pgs_nil, fun F M vs σ H Q o r en k => by cases r; exact ⟨rfl, k _ _ h en⟩⟩
theorem asd_cons {t : Expr} {ts : List Expr} {d : D} {ds : List D} {P : DEnv → Prop} (h : AsD X t d ρ fun ρ' => AsDs X ts ds ρ' P)
    (hs : (assignEach (t :: ts) X.env).map (·.2) = assign t X.env :: (assignEach ts X.env).map (·.2) := by rfl) : AsDs X (t :: ts) (d :: ds) ρ P :=
  ⟨_, pgs_cons pg_any (⟨fun pins s σ H vs us Q I r ⟨g, h, q⟩ => h.run pins s σ H vs us Q I r q⟩ : PGs X ts (fun vs σ H Q => ∃ g, PGs X ts g ∧ g vs σ H Q)) hs, fun F M vs σ H Q o r en k => by
    cases r with
    | cons h1 r1 => exact ⟨_, _, rfl, asd_go h o h1 en fun σ' ρ' q en' => by
        obtain ⟨g, hg, q⟩ := q
        exact ⟨g, hg, q F M _ σ' H Q o r1 en' k⟩⟩⟩

theorem g1_asg {tg : Expr} (h : EX X J e ρ M fun d M1 => AsD X tg d ρ fun ρ' => B.nx ρ' M1) (hs : swapsWithSole [tg] e pos.line X.env = pure false := by rfl) (hw : swappedStores [tg] e X.env = pure none := by rfl)
    (h1 : (assignEach [tg] X.env).map (·.2) = [assign tg X.env] := by rfl) : G1 X J (.Assign [tg] e pos) ρ M B :=
  g1_of (ps_asg pe_any pg_any hs hw h1) fun F σ H E s k => h.go s fun d v M1 F1 H1 p e1 o1 r1 => asd_go p o1 r1 (s.en.mono e1) fun σ' ρ' q en => k.nx F1 σ' H1 ρ' M1 q e1 en o1
/-- x += e and its like, ints -/
theorem g1_aug {x : Str} {op : Operator} {f : Int → Int → Int} (ho : PIp X op (ipI f)) (i : Nat) (h : ∃ u, look ρ i = some (.int u) ∧ EX X J e ρ M fun d M1 => ∃ v, d = .int v ∧ B.nx (put ρ i (.int (f u v))) M1)
    (hN : X.N.Nodup := by rfl) (hi : X.N[i]? = some x := by rfl) (hx : Loc X.env.scope x := by first | exact Or.inl rfl | exact Or.inr rfl) (hf : X.fn x = true ∨ X.env.scope.names.lookup x = some .local := by first | exact .inl rfl | exact .inr rfl) :
    G1 X J (.AugAssign (.Name x p) op e pos) ρ M B := by
  obtain ⟨u, hu, h⟩ := h
  exact g1_of (ps_aug hN hi hx pe_any ho hf) fun F σ H E s k => by
    obtain ⟨v0, h1, h2⟩ := s.en.look hu
    cases h2
    refine ⟨_, h1, h.go s fun d v M1 F1 H1 q e1 o1 r1 => ?_⟩
    obtain ⟨w, rfl, q⟩ := q
    cases r1
    exact ⟨u, w, rfl, rfl, k.nx F1 _ H1 _ M1 q e1 ((s.en.mono e1).put i (.int _)) o1⟩
theorem g1_ret (h : EX X J e ρ M B.rt) : G1 X J (.Return (some e) pos) ρ M B := g1_of (ps_ret pe_any) fun F σ H E s k => h.go s k.rt
theorem g1_expr (h : EX X J e ρ M fun _ M1 => B.nx ρ M1) (hs : swapsWith e none pos.line X.env = pure false := by rfl) : G1 X J (.Expr e pos) ρ M B :=
  g1_of (ps_expr pe_any hs) fun F σ H E s k => h.go s fun d v M1 F1 H1 p e1 o1 r1 => k.nx F1 σ H1 ρ M1 p e1 (s.en.mono e1) o1
theorem g1_if {s1 s2 : List Stmt} (h : TX X J c ρ M fun t M1 => (t = true → GX X J s1 ρ M1 B) ∧ (t = false → GX X J s2 ρ M1 B)) : G1 X J (.If c s1 s2 pos) ρ M B :=
  g1_of (ps_if pt_any pss_any pss_any) fun F σ H E s k => h.go s fun t M1 F1 H1 p e1 o1 => by
    cases t with
    | true => exact iteT ((p.1 rfl).go (s.to e1 o1) (k.to e1))
    | false => exact iteF ((p.2 rfl).go (s.to e1 o1) (k.to e1))

theorem pi_any {tg iter : Expr} : PI X tg iter (tIe X tg iter) := ⟨fun pins s σ H R I ⟨t, h, q⟩ => h.run pins s σ H R I q⟩
theorem ix_of {tg iter : Expr} {t : TI} {P : List D → Mem → Prop} (h : PI X tg iter t) (k : ∀ F σ H R, Sts X.K J F σ H ρ M → Ki X.K F P R → t σ H R) : IX X J tg iter ρ M P := ⟨fun pins s σ H R I ⟨F, st, q⟩ => h.run pins s σ H R I (k F σ H R st q)⟩
theorem wk_list {q : Addr} {xs : List V} {ds : List D} (h : F q = some (.lst xs)) (r : Rps K F xs ds) : Wk K F (Itl K q) ds :=
  ⟨fun i H hi s => ⟨xs, xs[i]'(by rw [r.length]; exact hi), SqL.of (s _ _ h), by simp⟩, fun H s => ⟨xs, SqL.of (s _ _ h), by rw [r.length]; exact Nat.le_refl _⟩,
    fun i d H x H' F1 M hd s o y => by
      obtain ⟨rfl, y⟩ := y
      obtain ⟨v, h1, h2⟩ := r.get hd
      have e1 := y xs (SqL.of (o.ex _ _ (s _ _ h)))
      rw [h1] at e1; cases e1
      exact ⟨F1, Same.refl _, o, h2.mono s⟩⟩
theorem wk_tup {q : Addr} {xs : List V} {ds : List D} (h : SqT K F q xs) (r : Rps K F xs ds) : Wk K F (Itt K q) ds :=
  ⟨fun i H hi s => ⟨xs, xs[i]'(by rw [r.length]; exact hi), same_t s h, by simp⟩, fun H s => ⟨xs, same_t s h, by rw [r.length]; exact Nat.le_refl _⟩,
    fun i d H x H' F1 M hd s o y => by
      obtain ⟨rfl, y⟩ := y
      obtain ⟨v, h1, h2⟩ := r.get hd
      have e1 := y xs (same_t o.ex (same_t s h))
      rw [h1] at e1; cases e1
      exact ⟨F1, Same.refl _, o, h2.mono s⟩⟩
theorem ix_lst {tg : Expr} {P : List D → Mem → Prop} (h : EX X J e ρ M fun d M1 => ∃ ds, d = .lst ds ∧ P ds M1) : IX X J tg e ρ M P :=
  ix_of (pi_list pe_any) fun F σ H R s k => h.go s fun d v M1 F1 H1 p e1 o1 r1 => by
    obtain ⟨ds, rfl, p⟩ := p
    cases r1 with
    | lst h1 r1 => exact ⟨_, rfl, ⟨_, SqL.of (o1.ex _ _ h1)⟩, k ds _ M1 F1 H1 p e1 o1 (wk_list h1 r1)⟩
theorem ix_tup {tg : Expr} {P : List D → Mem → Prop} (h : EX X J e ρ M fun d M1 => ∃ ds, d = .tup ds ∧ P ds M1) : IX X J tg e ρ M P :=
  ix_of (pi_tup pe_any) fun F σ H R s k => h.go s fun d v M1 F1 H1 p e1 o1 r1 => by
    obtain ⟨ds, rfl, p⟩ := p
    cases r1 with
    | tup h1 r1 => exact ⟨_, rfl, ⟨_, same_t o1.ex h1⟩, k ds _ M1 F1 H1 p e1 o1 (wk_tup h1 r1)⟩
def rngD (lo : Int) (n : Nat) : List D := (List.range n).map fun (i : Nat) => D.int (lo + (i : Int))
theorem rngD_len {lo : Int} {n : Nat} : (rngD lo n).length = n := by unfold rngD; simp
theorem rngD_at {lo : Int} {n i : Nat} {d : D} (h : (rngD lo n)[i]? = some d) : i < n ∧ d = .int (lo + (i : Int)) := by
  unfold rngD at h
  rw [List.getElem?_map] at h
  by_cases hi : i < n
  · rw [List.getElem?_range hi] at h
    cases h
    exact ⟨hi, rfl⟩
  · rw [List.getElem?_eq_none (by simp; omega)] at h
    cases h
theorem wk_rng {lo : Int} {n : Nat} : Wk K F (Itr lo n) (rngD lo n) :=
  ⟨fun i H hi s => by rw [rngD_len] at hi; exact hi, fun H s => by rw [rngD_len]; exact Nat.le_refl _, fun i d H x H' F1 M hd s o y => by
    obtain ⟨rfl, rfl⟩ := y
    obtain ⟨_, rfl⟩ := rngD_at hd
    exact ⟨F1, Same.refl _, o, .int _⟩⟩
theorem ix_range1 {tg : Expr} {P : List D → Mem → Prop} (hm : X.mg "range" = none) (h : AX X J [a] ρ M fun ds M1 => ∃ j, ds = [.int j] ∧ (-(2 ^ 62) ≤ j ∧ j < 2 ^ 62) ∧ P (rngD 0 j.toNat) M1) (hg : Gl X "range" := by rfl)
    (hs : starEach [a] X.env = [(false, eval a X.env)] := by rfl) : IX X J tg (.Call (.Name "range" p) [a] [] pos) ρ M P :=
  ix_of (pi_range1 hg hm pa_any hs) fun F σ H R s k => h.go s fun ds vs M1 F1 H1 q e1 o1 r1 => by
    obtain ⟨j, rfl, hj, q⟩ := q
    cases r1 with
    | cons h1 r1 =>
      cases r1
      cases h1
      exact ⟨j, rfl, hj.1, hj.2, k _ _ M1 F1 H1 q e1 o1 wk_rng⟩
theorem ix_range2 {tg : Expr} {P : List D → Mem → Prop} (hm : X.mg "range" = none) (h : AX X J [a, b] ρ M fun ds M2 => ∃ i j, ds = [.int i, .int j] ∧ (-(2 ^ 62) ≤ i ∧ i < 2 ^ 62 ∧ -(2 ^ 62) ≤ j ∧ j < 2 ^ 62) ∧ P (rngD i (j - i).toNat) M2) (hg : Gl X "range" := by rfl)
    (hs : starEach [a, b] X.env = [(false, eval a X.env), (false, eval b X.env)] := by rfl) (hs2 : starEach [b] X.env = [(false, eval b X.env)] := by rfl) : IX X J tg (.Call (.Name "range" p) [a, b] [] pos) ρ M P :=
  ix_of (pi_range2 hg hm pa_any hs hs2) fun F σ H R s k => h.go s fun ds vs M1 F1 H1 q e1 o1 r1 => by
    obtain ⟨i, j, rfl, hj, q2⟩ := q
    cases r1 with
    | cons h1 r1 =>
      cases r1 with
      | cons h2 r1 =>
        cases r1
        cases h1; cases h2
        exact ⟨i, j, rfl, hj, k _ _ M1 F1 H1 q2 e1 o1 wk_rng⟩
/-- zip of two lists, of two tuples -/
def zipD : List D → List D → List D
  | x :: xs, y :: ys => .tup [x, y] :: zipD xs ys
  | _, _ => []
theorem zipD_len : ∀ (xs ys : List D), (zipD xs ys).length = min xs.length ys.length
  | [], ys => by simp [zipD]
  | x :: xs, [] => by simp [zipD]
  | x :: xs, y :: ys => by simp [zipD, zipD_len xs ys]
theorem zipD_at : ∀ {xs ys : List D} {i : Nat} {d : D}, (zipD xs ys)[i]? = some d → ∃ x y, xs[i]? = some x ∧ ys[i]? = some y ∧ d = .tup [x, y]
  | [], ys, i, d, h => by simp [zipD] at h
  | x :: xs, [], i, d, h => by simp [zipD] at h
  | x :: xs, y :: ys, 0, d, h => by simp [zipD] at h; exact ⟨x, y, rfl, rfl, h.symm⟩
  | x :: xs, y :: ys, i + 1, d, h => by
    obtain ⟨a, b, h1, h2, h3⟩ := zipD_at (xs := xs) (ys := ys) (i := i) (by simpa [zipD] using h)
    exact ⟨a, b, by simpa using h1, by simpa using h2, h3⟩
theorem pair_new {x y d1 d2 : D} {v1 v2 : V} {T : Addr} (o : Ok K F M H) (h : H T = none) (r1 : Rp K F v1 d1) (r2 : Rp K F v2 d2) : ∃ F2, Same F F2 ∧ Ok K F2 M (upd H T (.tup [v1, v2])) ∧ Rp K F2 (.ref T) (.tup [d1, d2]) :=
  ⟨_, o.fixSame h, o.fix h, .tup (SqT.of upd_same) (.cons (r1.mono (o.fixSame h)) (.cons (r2.mono (o.fixSame h)) .nil))⟩
theorem wk_zip {q r : Addr} {xs ys : List V} {ds es : List D} (h : F q = some (.lst xs)) (g : F r = some (.lst ys)) (hx : Rps K F xs ds) (hy : Rps K F ys es) : Wk K F (Itz K q r) (zipD ds es) := by
  refine ⟨fun i H hi s => ?_, fun H s => ⟨xs, ys, SqL.of (s _ _ h), SqL.of (s _ _ g), by rw [zipD_len, hx.length, hy.length]; omega⟩, fun i d H x H' F1 M hd s o y => ?_⟩
  · rw [zipD_len] at hi
    have h1 : i < xs.length := by rw [hx.length]; omega
    have h2 : i < ys.length := by rw [hy.length]; omega
    exact ⟨xs, ys, xs[i], ys[i], SqL.of (s _ _ h), SqL.of (s _ _ g), by simp [h1], by simp [h2]⟩
  · obtain ⟨T, v1, v2, rfl, h2, rfl, h4, h5⟩ := y
    obtain ⟨d1, d2, g1, g2, rfl⟩ := zipD_at hd
    obtain ⟨w1, k1, k2⟩ := hx.get g1
    obtain ⟨w2, k3, k4⟩ := hy.get g2
    have e1 := h4 xs (SqL.of (o.ex _ _ (s _ _ h)))
    have e2 := h5 ys (SqL.of (o.ex _ _ (s _ _ g)))
    rw [k1] at e1; cases e1
    rw [k3] at e2; cases e2
    exact pair_new (x := d1) (y := d2) o h2 (k2.mono s) (k4.mono s)
theorem wk_zipT {q r : Addr} {xs ys : List V} {ds es : List D} (h : SqT K F q xs) (g : SqT K F r ys) (hx : Rps K F xs ds) (hy : Rps K F ys es) : Wk K F (RZ.ItzT K q r) (zipD ds es) := by
  refine ⟨fun i H hi s => ?_, fun H s => ⟨xs, ys, same_t s h, same_t s g, by rw [zipD_len, hx.length, hy.length]; omega⟩, fun i d H x H' F1 M hd s o y => ?_⟩
  · rw [zipD_len] at hi
    have h1 : i < xs.length := by rw [hx.length]; omega
    have h2 : i < ys.length := by rw [hy.length]; omega
    exact ⟨xs, ys, xs[i], ys[i], same_t s h, same_t s g, by simp [h1], by simp [h2]⟩
  · obtain ⟨T, v1, v2, rfl, h2, rfl, h4, h5⟩ := y
    obtain ⟨d1, d2, g1, g2, rfl⟩ := zipD_at hd
    obtain ⟨w1, k1, k2⟩ := hx.get g1
    obtain ⟨w2, k3, k4⟩ := hy.get g2
    have e1 := h4 xs (same_t o.ex (same_t s h))
    have e2 := h5 ys (same_t o.ex (same_t s g))
    rw [k1] at e1; cases e1
    rw [k3] at e2; cases e2
    exact pair_new (x := d1) (y := d2) o h2 (k2.mono s) (k4.mono s)
/-- both lists, or both tuples -/
inductive Zs : D → D → List D → List D → Prop
  | lst {ds es : List D} : Zs (.lst ds) (.lst es) ds es
  | tup {ds es : List D} : Zs (.tup ds) (.tup es) ds es
theorem ix_zip {elts : List Expr} {kk : Nat} {tpos : Pos} {P : List D → Mem → Prop} (hm : X.mg "zip" = none) (h : AX X J [a, b] ρ M fun ws M2 => ∃ d d2 ds es, ws = [d, d2] ∧ Zs d d2 ds es ∧ P (zipD ds es) M2) (hg : Gl X "zip" := by rfl)
    (hs : starEach [a, b] X.env = (false, eval a X.env) :: starEach [b] X.env := by rfl) (hpl : (backTo pos (starEach [b] X.env)).any (·.1) = false := by rfl) : IX X J (.Tuple elts kk tpos) (.Call (.Name "zip" p) [a, b] [] pos) ρ M P :=
  ix_of (RZ.pi_zipA hg hm pa_any hs hpl) fun F σ H R s k => h.go s fun ws vs M2 F2 H2 q e1 o2 r1 => by
    obtain ⟨d, d2, ds, es, rfl, z, q2⟩ := q
    cases r1 with
    | cons h1 r1 =>
      cases r1 with
      | cons h2 r1 =>
        cases r1
        cases z with
        | lst =>
          cases h1 with
          | lst h1 k1 =>
            cases h2 with
            | lst h2 k2 => exact ⟨_, _, _, _, rfl, .inl ⟨SqL.of (o2.ex _ _ h1), SqL.of (o2.ex _ _ h2), k _ _ M2 F2 H2 q2 e1 o2 (wk_zip h1 h2 k1 k2)⟩⟩
        | tup =>
          cases h1 with
          | tup h1 k1 =>
            cases h2 with
            | tup h2 k2 => exact ⟨_, _, _, _, rfl, .inr ⟨same_t o2.ex h1, same_t o2.ex h2, k _ _ M2 F2 H2 q2 e1 o2 (wk_zipT h1 h2 k1 k2)⟩⟩
/-- enumerate of a list -/
def enumD (i : Nat) : List D → List D
  | [] => []
  | x :: xs => .tup [.int (i : Int), x] :: enumD (i + 1) xs
/-- the signs of a text -/
def signs (z : Str) : List D := z.cps.toList.map fun c => D.str ⟨#[c]⟩
theorem wk_str {z : Str} : Wk K F (Its z) (signs z) := by
  refine ⟨fun i H hi s => ?_, fun H s => ?_, fun i d H x H' F1 M hd s o y => ?_⟩
  · unfold signs at hi; simp at hi; exact hi
  · unfold signs; simp; exact Nat.le_refl _
  · obtain ⟨rfl, c, h1, rfl⟩ := y
    unfold signs at hd
    rw [List.getElem?_map] at hd
    have : z.cps.toList[i]? = some c := by simpa using h1
    rw [this] at hd
    cases hd
    exact ⟨F1, Same.refl _, o, .str _⟩
theorem ix_str {tg : Expr} {P : List D → Mem → Prop} (h : EX X J e ρ M fun d M1 => ∃ z, d = .str z ∧ P (signs z) M1) : IX X J tg e ρ M P :=
  ix_of (pi_str pe_any) fun F σ H R s k => h.go s fun d v M1 F1 H1 p e1 o1 r1 => by
    obtain ⟨z, rfl, p⟩ := p
    cases r1
    exact ⟨z, rfl, k _ _ M1 F1 H1 p e1 o1 wk_str⟩
/-- for -/
theorem g1_for {tg iter : Expr} {body : List Stmt} (hp : PassesOwn (model X.prog X.w) X.A X.env X.xe) (hc : X.calm = true)
    (h : IX X J tg iter ρ M fun ds M1 => ∃ Wd : Nat → DEnv → Mem → Prop, Wd 0 ρ M1 ∧
      (∀ i d ρ' M', ds[i]? = some d → Wd i ρ' M' → AsD X tg d ρ' fun ρ2 => GX X J body ρ2 M' ⟨Wd (i + 1), B.rt, B.nx, Wd (i + 1)⟩) ∧ ∀ ρ' M', Wd ds.length ρ' M' → B.nx ρ' M')
    (hs : ∀ x, foldedSetIterable iter X.env x = pure x := by intro _; rfl) : G1 X J (.For tg iter body [] pos) ρ M B :=
  g1_of (ps_for hp hc pi_any pg_any pss_any hs) fun F σ H E s k => h.go s fun ds I M1 F1 H1 ⟨Wd, h0, hs, hd⟩ e1 o1 w => by
    refine ⟨fun i m σ H => m = ds.length - i ∧ i ≤ ds.length ∧ ∃ F' ρ' M', Same F1 F' ∧ Sts X.K J F' σ H ρ' M' ∧ Wd i ρ' M', ⟨ds.length, by simp, Nat.zero_le _, F1, ρ, M1, Same.refl _, s.to e1 o1, h0⟩, ?_⟩
    rintro i m σ' H' ⟨rfl, hi, F', ρ', M', e2, s2, q⟩
    by_cases hlt : i < ds.length
    · refine .inr ⟨w.goes i H' hlt (e2.trans s2.ok.ex), _, fun σ3 H3 n3 => n3, fun x H3 y => ?_⟩
      · obtain ⟨F3, e3, o3, r3⟩ := w.yields i ds[i] H' x H3 F' M' (by simp [hlt]) e2 s2.ok y
        refine asd_go (hs i ds[i] ρ' M' (by simp [hlt]) q) o3 r3 (s2.en.mono e3) fun σ4 ρ4 q4 en4 => GX.go q4 ⟨en4, o3, J.mono _ _ e3 s2.gh⟩ ?_
        have nxt : ∀ F' σ' H' ρ' M', Wd (i + 1) ρ' M' → Same F3 F' → En X.K F' σ' ρ' → Ok X.K F' M' H' → ∃ m', m' < ds.length - i ∧ m' = ds.length - (i + 1) ∧ i + 1 ≤ ds.length ∧ ∃ F' ρ' M', Same F1 F' ∧ Sts X.K J F' σ' H' ρ' M' ∧ Wd (i + 1) ρ' M' :=
          fun F5 σ5 H5 ρ5 M5 q5 e5 en5 o5 => ⟨_, by omega, rfl, hlt, F5, ρ5, M5, (e2.trans e3).trans e5, ⟨en5, o5, J.mono _ _ (e3.trans e5) s2.gh⟩, q5⟩
        exact ⟨nxt, k.rt.to ((e1.trans e2).trans e3), fun F5 σ5 H5 ρ5 M5 q5 e5 en5 o5 => k.nx F5 σ5 H5 ρ5 M5 q5 (((e1.trans e2).trans e3).trans e5) en5 o5, nxt⟩
    · have e : i = ds.length := by omega
      subst e
      exact .inl ⟨w.stops H' (e2.trans s2.ok.ex), k.nx F' σ' H' ρ' M' (hd ρ' M' q) (e1.trans e2) s2.en s2.ok⟩
end
end DX
namespace DX
open PySem PySem.Spec L2

theorem wipe_get (σ : St) (i : Nat) : ∀ vs : List Nat, (wipe σ vs)[i]? = if i ∈ vs then (σ[i]?).map (fun _ => none) else σ[i]?
  | [] => by simp [wipe]
  | v :: vs => by
    unfold wipe
    rw [List.getElem?_set]
    by_cases h : v = i
    · subst h
      rw [if_pos rfl, wipe_length]
      by_cases hl : v < σ.length
      · rw [if_pos hl, if_pos List.mem_cons_self, List.getElem?_eq_getElem hl]; rfl
      · rw [if_neg hl, if_pos List.mem_cons_self, List.getElem?_eq_none (by omega)]; rfl
    · rw [if_neg h, wipe_get σ i vs]
      have e : (i ∈ v :: vs) = (i ∈ vs) := by simp [Ne.symm h]
      simp only [e]
theorem wipe_set {σ : St} {j : Nat} {x : Option V} {vs : List Nat} (h : j ∈ vs) : wipe (σ.set j x) vs = wipe σ vs := by
  apply List.ext_getElem?
  intro i
  rw [wipe_get, wipe_get]
  by_cases hi : i ∈ vs
  · rw [if_pos hi, if_pos hi, List.getElem?_set]
    by_cases hj : j = i
    · subst hj
      rw [if_pos rfl]
      by_cases hl : j < σ.length
      · rw [if_pos hl, List.getElem?_eq_getElem hl]; rfl
      · rw [if_neg hl, List.getElem?_eq_none (by omega)]
    · rw [if_neg hj]
  · rw [if_neg hi, if_neg hi, List.getElem?_set_ne]
    intro z; subst z; exact hi h
theorem wipe_wipe (σ : St) (vs : List Nat) : wipe (wipe σ vs) vs = wipe σ vs := by
  apply List.ext_getElem?
  intro i
  rw [wipe_get, wipe_get]
  by_cases hi : i ∈ vs
  · rw [if_pos hi, if_pos hi]
    cases σ[i]? <;> rfl
  · rw [if_neg hi, if_neg hi]

section
variable {X : Cx} {J : Gh} {e a b c : Expr} {es : List Expr} {st : Stmt} {rest sts : List Stmt} {ρ ρ' : DEnv} {M M' : Mem} {F F' H H' : Hp} {σ : St} {B : Bd} {K : PySem.W.Frag} {pos p apos : Pos} {x : Str} {P : D → Mem → Prop}

abbrev Blk (X : Cx) (scope : Scope) : Type := Shared × Hp × Addr × List (Str × Addr) × List Addr
abbrev Blk.cx {X : Cx} {scope : Scope} (b : Blk X scope) : Cx := X.blk b.1 b.2.1 scope (compEnvC scope b.2.2.2.1 b.2.2.1 X.env) b.2.2.2.2
def EXb (X : Cx) (J : Gh) (scope : Scope) (e : Expr) (ρ : DEnv) (M : Mem) (P : D → Mem → Prop) : Prop := ∀ (s : Shared) (H : Hp) (C : Addr) (cl : List (Str × Addr)) (fp : List Addr), EX (X.blk s H scope (compEnvC scope cl C X.env) fp) J e ρ M P
def TXb (X : Cx) (J : Gh) (scope : Scope) (ifs : List Expr) (ρ : DEnv) (M : Mem) (P : Bool → Mem → Prop) : Prop := ∃ t, (∀ (s : Shared) (H : Hp) (C : Addr) (cl : List (Str × Addr)) (fp : List Addr), PTs (X.blk s H scope (compEnvC scope cl C X.env) fp) ifs t) ∧ ∀ F σ H Q, Sts X.K J F σ H ρ M → Kb X.K F P Q → t σ H Q
def AsB (X : Cx) (scope : Scope) (vs : List Nat) (target : Expr) (d : D) (ρ : DEnv) (P : DEnv → Prop) : Prop :=
  ∃ g, (∀ (s : Shared) (H : Hp) (C : Addr) (cl : List (Str × Addr)) (fp : List Addr), PG (X.blk s H scope (compEnvC scope cl C X.env) fp) target g) ∧
    ∀ F M v σ H Q, Ok X.K F M H → Rp X.K F v d → En X.K F σ ρ → (∀ σ' ρ', P ρ' → En X.K F σ' ρ' → wipe σ' vs = wipe σ vs → Q σ' H) → g v σ H Q
def AsBs (X : Cx) (scope : Scope) (vs : List Nat) (ts : List Expr) (ds : List D) (ρ : DEnv) (P : DEnv → Prop) : Prop :=
  ∃ g, (∀ (s : Shared) (H : Hp) (C : Addr) (cl : List (Str × Addr)) (fp : List Addr), PGs (X.blk s H scope (compEnvC scope cl C X.env) fp) ts g) ∧
    ∀ F M xs σ H Q, Ok X.K F M H → Rps X.K F xs ds → En X.K F σ ρ → (∀ σ' ρ', P ρ' → En X.K F σ' ρ' → wipe σ' vs = wipe σ vs → Q σ' H) → g xs σ H Q
def tEb (X : Cx) (scope : Scope) (e : Expr) : TE := fun σ H Q => ∃ t, (∀ (s : Shared) (H : Hp) (C : Addr) (cl : List (Str × Addr)) (fp : List Addr), PE (X.blk s H scope (compEnvC scope cl C X.env) fp) e t) ∧ t σ H Q
def tTb (X : Cx) (scope : Scope) (ifs : List Expr) : TT := fun σ H Q => ∃ t, (∀ (s : Shared) (H : Hp) (C : Addr) (cl : List (Str × Addr)) (fp : List Addr), PTs (X.blk s H scope (compEnvC scope cl C X.env) fp) ifs t) ∧ t σ H Q
def gB (X : Cx) (scope : Scope) (target : Expr) : TG := fun v σ H Q => ∃ g, (∀ (s : Shared) (H : Hp) (C : Addr) (cl : List (Str × Addr)) (fp : List Addr), PG (X.blk s H scope (compEnvC scope cl C X.env) fp) target g) ∧ g v σ H Q
variable {scope : Scope} {tg iter elt : Expr} {ifs : List Expr}
theorem txb_nil {P : Bool → Mem → Prop} (h : P true M) : TXb X J scope [] ρ M P := ⟨tYes, fun _ _ _ _ _ => pts_nil, fun F σ H Q st k => k _ _ _ _ h (Same.refl F) st.ok⟩
theorem pe_lcA {own : List (Str × Nat)} (hc : X.calm = true) (hN : X.N.Nodup) (ok : BlkOk X.N X.env.scope scope own) (hs : ∀ x, foldedSetIterable iter X.env x = pure x := by intro _; rfl) :
    PE X (.ListComp elt [⟨tg, iter, ifs, 0⟩] scope pos) (tLc (tIe X tg iter) (gB X scope tg) (tTb X scope ifs) (tEb X scope elt) (own.map (·.2))) :=
  pe_lc hc hN pi_any ok (fun s H C cl fp => ⟨fun pins s' σ H' v u Q I r ⟨g, h, q⟩ => (h s H C cl fp).run pins s' σ H' v u Q I r q⟩)
    (fun s H C cl fp => ⟨fun pins s' σ H' Q I ⟨t, h, q⟩ => (h s H C cl fp).run pins s' σ H' Q I q⟩) (fun s H C cl fp => ⟨fun pins s' σ H' Q I ⟨t, h, q⟩ => (h s H C cl fp).run pins s' σ H' Q I q⟩) hs
theorem asb_name {d : D} {vs : List Nat} {P : DEnv → Prop} (i : Nat) (h : P (put ρ i d)) (hv : i ∈ vs := by decide) (hN : X.N.Nodup := by rfl) (hi : X.N[i]? = some x := by rfl) (hx : ∀ (s : Shared) (H : Hp) (C : Addr) (cl : List (Str × Addr)) (fp : List Addr), Loc (X.blk s H scope (compEnvC scope cl C X.env) fp).env.scope x := by intros; first | exact Or.inl rfl | exact Or.inr rfl)
    (hf : ∀ (s : Shared) (H : Hp) (C : Addr) (cl : List (Str × Addr)) (fp : List Addr), (X.blk s H scope (compEnvC scope cl C X.env) fp).fn x = true ∨ (X.blk s H scope (compEnvC scope cl C X.env) fp).env.scope.names.lookup x = some .local := by intros; first | exact .inr rfl | exact .inl rfl) : AsB X scope vs (.Name x pos) d ρ P :=
  ⟨_, fun s H C cl fp => pg_name (X := X.blk s H scope (compEnvC scope cl C X.env) fp) hN hi (hx s H C cl fp) (hf s H C cl fp), fun F M v σ H Q o r en k => k _ _ h (en.put i r) (wipe_set hv)⟩
theorem asb_nil {vs : List Nat} {P : DEnv → Prop} (h : P ρ) : AsBs X scope vs [] [] ρ P := ⟨_, fun _ _ _ _ _ => pgs_nil, fun F M xs σ H Q o r en k => by cases r; exact ⟨rfl, k _ _ h en rfl⟩⟩
theorem asb_cons {vs : List Nat} {t : Expr} {ts : List Expr} {d : D} {ds : List D} {P : DEnv → Prop} (h : AsB X scope vs t d ρ fun ρ' => AsBs X scope vs ts ds ρ' P)
    (hs : ∀ (s : Shared) (H : Hp) (C : Addr) (cl : List (Str × Addr)) (fp : List Addr), (assignEach (t :: ts) (X.blk s H scope (compEnvC scope cl C X.env) fp).env).map (·.2) = assign t (X.blk s H scope (compEnvC scope cl C X.env) fp).env :: (assignEach ts (X.blk s H scope (compEnvC scope cl C X.env) fp).env).map (·.2) := by intros; rfl) : AsBs X scope vs (t :: ts) (d :: ds) ρ P := by
  obtain ⟨g, hg, h⟩ := h
  refine ⟨_, fun s H C cl fp => pgs_cons (hg s H C cl fp) (⟨fun pins s' σ H' us ws Q I r ⟨g, h, q⟩ => (h s H C cl fp).run pins s' σ H' us ws Q I r q⟩ : PGs (X.blk s H scope (compEnvC scope cl C X.env) fp) ts (fun us σ H Q => ∃ g, (∀ (s : Shared) (H : Hp) (C : Addr) (cl : List (Str × Addr)) (fp : List Addr), PGs (X.blk s H scope (compEnvC scope cl C X.env) fp) ts g) ∧ g us σ H Q)) (hs s H C cl fp), fun F M xs σ H Q o r en k => ?_⟩
  cases r with
  | cons h1 r1 =>
    refine ⟨_, _, rfl, h F M _ σ H _ o h1 en fun σ' ρ' q en' w => ?_⟩
    obtain ⟨g2, hg2, q⟩ := q
    exact ⟨g2, hg2, q F M _ σ' H Q o r1 en' fun σ2 ρ2 q2 en2 w2 => k σ2 ρ2 q2 en2 (w2.trans w)⟩
theorem asb_tup {ds : List D} {k : Nat} {vs : List Nat} {P : DEnv → Prop} (hc : X.calm = true) (h : AsBs X scope vs es ds ρ P)
    (hl : ∀ (s : Shared) (H : Hp) (C : Addr) (cl : List (Str × Addr)) (fp : List Addr), (assignEach es (X.blk s H scope (compEnvC scope cl C X.env) fp).env).length = ds.length := by intros; rfl)
    (hst : ∀ (s : Shared) (H : Hp) (C : Addr) (cl : List (Str × Addr)) (fp : List Addr), (assignEach es (X.blk s H scope (compEnvC scope cl C X.env) fp).env).findIdx? (·.1) = none := by intros; rfl) : AsB X scope vs (.Tuple es k pos) (.tup ds) ρ P := by
  obtain ⟨g, hg, h⟩ := h
  refine ⟨gTup X.K ds.length g, fun s H C cl fp => pg_tup (X := X.blk s H scope (compEnvC scope cl C X.env) fp) hc (hg s H C cl fp) (hl s H C cl fp) (hst s H C cl fp), fun F M v σ H Q o r en k => ?_⟩
  cases r with
  | tup h1 r1 => exact ⟨_, _, rfl, same_t o.ex h1, r1.length, h F M _ σ H Q o r1 en k⟩
/-- [elt for tg in iter if ..]: the word by the turn, what is made so far, the memory (the new list, at Dl, in it while a turn runs) -/
def LcW (X : Cx) (J : Gh) (scope : Scope) (vs : List Nat) (tg : Expr) (ifs : List Expr) (elt : Expr) (ρ : DEnv) (P : D → Mem → Prop) (ds : List D) (M1 : Mem) : Prop := ∃ Wd : Nat → List D → Mem → Prop, Wd 0 [] M1 ∧
  (∀ i d acc M' Dl, ds[i]? = some d → Wd i acc M' → M' Dl = none → acc.length < 1000000 ∧ AsB X scope vs tg d (cuts ρ vs) fun ρ2 =>
    TXb X J scope ifs ρ2 (up M' Dl (.lst acc)) fun t M2 => (t = true → EXb X J scope elt ρ2 M2 fun y M3 => ∃ M4, M4 Dl = none ∧ M3 = up M4 Dl (.lst acc) ∧ Wd (i + 1) (acc ++ [y]) M4) ∧
      (t = false → ∃ M4, M4 Dl = none ∧ M2 = up M4 Dl (.lst acc) ∧ Wd (i + 1) acc M4)) ∧
  ∀ acc M', Wd ds.length acc M' → P (.lst acc) M'
theorem lc_go {vs : List Nat} {Q : VK} (st : Sts X.K J F σ H ρ M) (k : Kt X.K F P Q) (h : IX X J tg iter ρ M (LcW X J scope vs tg ifs elt ρ P)) :
    tLc (tIe X tg iter) (gB X scope tg) (tTb X scope ifs) (tEb X scope elt) vs σ H Q := by
  refine h.go st fun ds I M1 F1 H1 ⟨Wd, h0, hs, hd⟩ e1 o1 w Dl hD => ?_
  have hm1 := o1.nn hD
  refine ⟨fun i m H2 => m = ds.length - i ∧ i ≤ ds.length ∧ ∃ F' M' acc xs, Same F1 F' ∧ Ok X.K F' (up M' Dl (.lst acc)) H2 ∧ M' Dl = none ∧ H2 Dl = some (.lst xs) ∧ Wd i acc M', ⟨ds.length, by simp, Nat.zero_le _, F1, M1, [], [], Same.refl _, o1.lay hD ⟨[], upd_same, .nil⟩, hm1.2, upd_same, h0⟩, ?_⟩
  rintro i m H2 ⟨rfl, hi, F', M', acc, xs, e2, o2, hn, hx, q⟩
  by_cases hlt : i < ds.length
  · refine .inr ⟨w.goes i H2 hlt (e2.trans o2.ex), fun H3 => ∃ m', m' < ds.length - i ∧ m' = ds.length - (i + 1) ∧ i + 1 ≤ ds.length ∧ ∃ F' M' acc xs, Same F1 F' ∧ Ok X.K F' (up M' Dl (.lst acc)) H3 ∧ M' Dl = none ∧ H3 Dl = some (.lst xs) ∧ Wd (i + 1) acc M', fun H3 n3 => n3, fun x H3 y => ?_⟩
    obtain ⟨F3, e3, o3, r3⟩ := w.yields i ds[i] H2 x H3 F' _ (by simp [hlt]) e2 o2 y
    obtain ⟨ha, g, hg, hgo⟩ := hs i ds[i] acc M' Dl (by simp [hlt]) q hn
    have en3 : En X.K F3 (wipe σ vs) (cuts ρ vs) := (((st.en.cuts vs).mono e1).mono e2).mono e3
    refine ⟨g, hg, hgo F3 _ x _ H3 _ o3 r3 en3 fun σ4 ρ4 q4 en4 w4 => ⟨w4.trans (wipe_wipe σ vs), ?_⟩⟩
    obtain ⟨t, ht, q4⟩ := q4
    refine ⟨t, ht, q4 F3 σ4 H3 _ ⟨en4, o3, J.mono _ _ ((e1.trans e2).trans e3) st.gh⟩ fun tb M5 F5 H5 q5 e5 o5 => ?_⟩
    have fin : ∀ F6 M6 acc6 H6, Same F5 F6 → M6 Dl = none → Ok X.K F6 (up M6 Dl (.lst acc6)) H6 → Wd (i + 1) acc6 M6 → ∃ m', m' < ds.length - i ∧ m' = ds.length - (i + 1) ∧ i + 1 ≤ ds.length ∧ ∃ F' M' acc xs, Same F1 F' ∧ Ok X.K F' (up M' Dl (.lst acc)) H6 ∧ M' Dl = none ∧ H6 Dl = some (.lst xs) ∧ Wd (i + 1) acc M' := by
      intro F6 M6 acc6 H6 e6 n6 o6 q6
      obtain ⟨_, xs6, h6, _⟩ := o6.mt Dl _ up_same
      exact ⟨_, by omega, rfl, hlt, F6, M6, acc6, xs6, ((e2.trans e3).trans e5).trans e6, o6, n6, h6, q6⟩
    cases tb with
    | true =>
      refine iteT ⟨tD X.K J ρ4 M5 _, q5.1 rfl, F5, ⟨en4.mono e5, o5, J.mono _ _ (((e1.trans e2).trans e3).trans e5) st.gh⟩, fun y v M7 F7 H7 ⟨M4, n4, e4, q7⟩ e7 o7 r7 => ?_⟩
      subst e4
      obtain ⟨_, ys, hy, ry⟩ := o7.mt Dl _ up_same
      refine ⟨ys, hy, by rw [ry.length, sizeLine_eq]; omega, fin F7 M4 (acc ++ [y]) _ e7 n4 ?_ q7⟩
      have := o7.set (o := .lst (ys ++ [v])) (d' := .lst (acc ++ [y])) up_same ⟨_, upd_same, ry.append (.cons r7 .nil)⟩
      rwa [up_up] at this
    | false =>
      obtain ⟨M4, n4, e4, q7⟩ := q5.2 rfl
      subst e4
      exact iteF (fin F5 M4 acc H5 (Same.refl _) n4 o5 q7)
  · have e : i = ds.length := by omega
    subst e
    obtain ⟨_, ys, hy, ry⟩ := o2.mt Dl _ up_same
    obtain ⟨s1, o4⟩ := o2.freeze up_same hy
    rw [rm_up hn] at o4
    exact .inl ⟨w.stops H2 (e2.trans o2.ex), k _ _ _ _ _ (hd acc M' q) ((e1.trans e2).trans s1) o4 (.lst upd_same (ry.mono s1))⟩
theorem ex_lc {own : List (Str × Nat)} (hc : X.calm = true) (h : IX X J tg iter ρ M (LcW X J scope (own.map (·.2)) tg ifs elt ρ P)) (hN : X.N.Nodup := by rfl) (ok : blkC X.N X.env.scope scope own = true := by rfl) (hs : ∀ x, foldedSetIterable iter X.env x = pure x := by intro _; rfl) :
    EX X J (.ListComp elt [⟨tg, iter, ifs, 0⟩] scope pos) ρ M P :=
  ex_of (pe_lcA hc hN (blkOk_by ok) hs) fun F σ H Q st k => lc_go st k h
theorem g1_lc {y : Str} {py : Pos} {spos : Pos} {own : List (Str × Nat)} (i : Nat) (hc : X.calm = true) (h : IX X J tg iter ρ M (LcW X J scope (own.map (·.2)) tg ifs elt ρ fun d M1 => B.nx (put ρ i d) M1)) (hN : X.N.Nodup := by rfl) (hy : X.N[i]? = some y := by rfl) (hyl : X.env.scope.names.lookup y = some .local := by rfl)
    (hsw : swapsWith (.ListComp elt [⟨tg, iter, ifs, 0⟩] scope pos) (some (.Name y py)) spos.line X.env = pure true := by rfl) (ok : blkC X.N X.env.scope scope own = true := by rfl) (hs : ∀ x, foldedSetIterable iter X.env x = pure x := by intro _; rfl) :
    G1 X J (.Assign [.Name y py] (.ListComp elt [⟨tg, iter, ifs, 0⟩] scope pos) spos) ρ M B :=
  g1_of (ps_setLc hc hN hy hyl hsw pi_any (blkOk_by ok) (fun s H C cl fp => ⟨fun pins s' σ H' v u Q I r ⟨g, h, q⟩ => (h s H C cl fp).run pins s' σ H' v u Q I r q⟩)
    (fun s H C cl fp => ⟨fun pins s' σ H' Q I ⟨t, h, q⟩ => (h s H C cl fp).run pins s' σ H' Q I q⟩) (fun s H C cl fp => ⟨fun pins s' σ H' Q I ⟨t, h, q⟩ => (h s H C cl fp).run pins s' σ H' Q I q⟩) hs)
    fun F σ H E st k => lc_go st (P := fun d M1 => B.nx (put ρ i d) M1) (fun d v M' F' H' q e o r => k.nx F' _ H' _ M' q e ((st.en.mono e).put i r) o) h

def SpD (K : PySem.W.Frag) (T : Tr) : Sp := fun vs H Q _ => ∃ F M ds P, Ok K F M H ∧ Rps K F vs ds ∧ T ds M P ∧ Kt K F P Q
def rAnyC (X : Cx) (f : Value) : List V → Hp → VK → Prop := fun vs H Q => ∃ r, CallR X f r ∧ r vs H Q
theorem cr_anyR {f : Value} : CallR X f (rAnyC X f) := fun pins s σ H vs us Q I r ⟨t, h, q⟩ => h pins s σ H vs us Q I r q
def CD (X : Cx) (f : Value) (ds : List D) (M : Mem) (P : D → Mem → Prop) : Prop :=
  ∃ r, CallR X f r ∧ ∀ F H vs Q, Ok X.K F M H → Rps X.K F vs ds → Kt X.K F P Q → r vs H Q
theorem ex_blt {id : String} (hm : X.mg x = none) (hv : bootBuiltins x = some (.builtin id)) (h : AX X J (e :: es) ρ M fun ds M1 => CD X (.builtin id) ds M1 P) (hg : Gl X x := by rfl) (hn : x ≠ "__name__" := by decide) (hdb : (x == ("__debug__" : Str)) = false := by decide)
    (he : starEach (e :: es) X.env = (false, eval e X.env) :: starEach es X.env := by rfl) (hpl : (backTo pos (starEach es X.env)).any (·.1) = false := by rfl) : EX X J (.Call (.Name x p) (e :: es) [] pos) ρ M P :=
  ex_of (pe_callB cr_anyR hg hm hv pa_any hn hdb he hpl) fun F σ H Q st k => h.go st fun ds vs M1 F1 H1 q e1 o1 r1 => by
    obtain ⟨r, h1, h2⟩ := q
    exact ⟨r, h1, h2 F1 H1 vs Q o1 r1 (k.to e1)⟩
theorem ex_ty {T : String} (hm : X.mg x = none) (hv : bootBuiltins x = some (.type T)) (h : AX X J (e :: es) ρ M fun ds M1 => CD X (.type T) ds M1 P) (hg : Gl X x := by rfl) (hn : x ≠ "__name__" := by decide) (hdb : (x == ("__debug__" : Str)) = false := by decide)
    (he : starEach (e :: es) X.env = (false, eval e X.env) :: starEach es X.env := by rfl) (hpl : (backTo pos (starEach es X.env)).any (·.1) = false := by rfl) : EX X J (.Call (.Name x p) (e :: es) [] pos) ρ M P :=
  ex_of (pe_callTy cr_anyR hg hm hv pa_any hn hdb he hpl) fun F σ H Q st k => h.go st fun ds vs M1 F1 H1 q e1 o1 r1 => by
    obtain ⟨r, h1, h2⟩ := q
    exact ⟨r, h1, h2 F1 H1 vs Q o1 r1 (k.to e1)⟩
theorem bb_len : bootBuiltins "len" = some (.builtin "len") := by decide +kernel
theorem bb_abs : bootBuiltins "abs" = some (.builtin "abs") := by decide +kernel
theorem bb_repr : bootBuiltins "repr" = some (.builtin "repr") := by decide +kernel
theorem bb_max : bootBuiltins "max" = some (.builtin "max") := by decide +kernel
theorem bb_int : bootBuiltins "int" = some (.type "int") := by decide +kernel
theorem bb_list : bootBuiltins "list" = some (.type "list") := by decide +kernel
theorem bb_tuple : bootBuiltins "tuple" = some (.type "tuple") := by decide +kernel
theorem cd_len {d : D} {ds : List D} (s : Sq M d ds) (q : P (.int (ds.length : Int)) M) : CD X (.builtin "len") [d] M P :=
  ⟨_, call_len_seq, fun F H vs Q o r k => by
    cases r with
    | cons h1 r =>
      cases r
      obtain ⟨a, xs, rfl, h2, r2⟩ := s.get o h1
      refine ⟨a, xs, rfl, h2, ?_⟩
      rw [r2.length]
      exact k.here q o (.int _)⟩
theorem cd_lenS {z : Str} (hz : z.length ≤ 1000000) (q : P (.int (z.length : Int)) M) : CD X (.builtin "len") [.str z] M P :=
  ⟨_, call_len_str, fun F H vs Q o r k => by
    cases r with
    | cons h1 r =>
      cases r
      cases h1
      exact ⟨z, rfl, by rw [sizeLine_eq]; omega, k.here q o (.int _)⟩⟩
theorem cd_list {d : D} {ds : List D} (s : Sq M d ds) (q : P (.lst ds) M) : CD X (.type "list") [d] M P :=
  ⟨_, call_list_of, fun F H vs Q o r k => by
    cases r with
    | cons h1 r =>
      cases r
      obtain ⟨a, xs, rfl, h2, r2⟩ := s.get o h1
      exact ⟨a, xs, rfl, h2, fun l hl => k _ _ _ _ _ q (o.fixSame hl) (o.fix hl) (.lst upd_same (r2.mono (o.fixSame hl)))⟩⟩
theorem cd_tuple {d : D} {ds : List D} (s : Sl M d ds) (q : P (.tup ds) M) : CD X (.type "tuple") [d] M P :=
  ⟨_, call_tuple_of, fun F H vs Q o r k => by
    cases r with
    | cons h1 r =>
      cases r
      obtain ⟨a, xs, rfl, h2, r2⟩ := s.get o h1
      exact ⟨a, xs, rfl, .inl ⟨SqL.of h2, fun l hl => k _ _ _ _ _ q (o.fixSame hl) (o.fix hl) (.tup (SqT.of upd_same) (r2.mono (o.fixSame hl)))⟩⟩⟩
theorem cd_tupleT {ds : List D} (q : P (.tup ds) M) : CD X (.type "tuple") [.tup ds] M P :=
  ⟨_, call_tuple_of, fun F H vs Q o r k => by
    cases r with
    | cons h1 r =>
      cases r
      cases h1 with
      | tup h2 r2 => exact ⟨_, _, rfl, .inr ⟨same_t o.ex h2, k.here q o (.tup h2 r2)⟩⟩⟩
theorem cd_intB {t : Bool} (q : P (.int (if t = true then 1 else 0)) M) : CD X (.type "int") [.bl t] M P :=
  ⟨_, call_int1, fun F H vs Q o r k => by
    cases r with
    | cons h1 r =>
      cases r
      cases h1
      exact .inr ⟨t, rfl, k.here q o (.int _)⟩⟩
theorem cd_intI {t : Int} (q : P (.int t) M) : CD X (.type "int") [.int t] M P :=
  ⟨_, call_int1, fun F H vs Q o r k => by
    cases r with
    | cons h1 r =>
      cases r
      cases h1
      exact .inl ⟨t, rfl, k.here q o (.int _)⟩⟩
theorem cd_abs {t : Int} (q : P (.int (if t < 0 then -t else t)) M) : CD X (.builtin "abs") [.int t] M P :=
  ⟨_, call_abs, fun F H vs Q o r k => by
    cases r with
    | cons h1 r =>
      cases r
      cases h1
      exact ⟨t, rfl, k.here q o (.int _)⟩⟩
mutual
def D.py : D → Option PyData
  | .non => some .none
  | .bl b => some (.bool b)
  | .int i => some (.int i)
  | .str x => some (.str x)
  | .tup ds => (pys ds).map .tuple
  | .lst ds => (pys ds).map .list
  | _ => none
def pys : List D → Option (List PyData)
  | [] => some []
  | d :: ds => (D.py d).bind fun z => (pys ds).map fun zs => z :: zs
end
mutual
theorem Rp.dp (hs : Same F H) : ∀ {d : D} {v : V} {z : PyData}, Rp K F v d → d.py = some z → Dp K H v z
  | .non, _, z, .non, e => by simp [D.py] at e; subst e; exact .non
  | .bl b, _, z, .bl _, e => by simp [D.py] at e; subst e; exact .bl b
  | .int i, _, z, .int _, e => by simp [D.py] at e; subst e; exact .int i
  | .str x, _, z, .str _, e => by simp [D.py] at e; subst e; exact .str x
  | .tup ds, _, z, .tup h r, e => by
    rw [D.py] at e
    obtain ⟨zs, h1, rfl⟩ := Option.map_eq_some_iff.mp e
    exact .tup (same_t hs h) (Rps.dps hs r h1)
  | .lst ds, _, z, .lst h r, e => by
    rw [D.py] at e
    obtain ⟨zs, h1, rfl⟩ := Option.map_eq_some_iff.mp e
    exact .lst (SqL.of (hs _ _ h)) (Rps.dps hs r h1)
  | .adr _, _, z, _, e => by simp [D.py] at e
  | .ty _, _, z, _, e => by simp [D.py] at e
  | .ins _ _, _, z, _, e => by simp [D.py] at e
  | .scr _, _, z, _, e => by simp [D.py] at e
  | .dct _, _, z, _, e => by simp [D.py] at e
  | .stup _, _, z, _, e => by simp [D.py] at e
theorem Rps.dps (hs : Same F H) : ∀ {ds : List D} {vs : List V} {zs : List PyData}, Rps K F vs ds → pys ds = some zs → DpAll K H vs zs
  | [], _, zs, .nil, e => by simp [pys] at e; subst e; exact .nil
  | d :: ds, _, zs, .cons h r, e => by
    rw [pys] at e
    obtain ⟨z, h1, e⟩ := Option.bind_eq_some_iff.mp e
    obtain ⟨ws, h2, rfl⟩ := Option.map_eq_some_iff.mp e
    exact .cons (Rp.dp hs h h1) (Rps.dps hs r h2)
end
end
end DX
namespace DX
open PySem PySem.Spec L2

section
variable {X : Cx} {J : Gh} {e a b c : Expr} {es : List Expr} {ρ ρ' : DEnv} {M M' : Mem} {F F' H H' : Hp} {σ : St} {B : Bd} {K : PySem.W.Frag} {pos p apos : Pos} {x : Str} {P : D → Mem → Prop}
end
end DX
namespace DX
open PySem PySem.Spec L2

mutual
/-- ints below 2^200, texts of signs, lists and tuples of such -/
def good : D → Prop
  | .non => True
  | .bl _ => True
  | .int i => -(2 ^ 200) ≤ i ∧ i ≤ 2 ^ 200
  | .str x => PyData.strOk x = true
  | .tup ds => goods ds
  | .lst ds => goods ds
  | _ => False
def goods : List D → Prop
  | [] => True
  | d :: ds => good d ∧ goods ds
end
mutual
/-- at least as much as its text is long -/
def wt : D → Nat
  | .str x => 10 * x.length + 2
  | .tup ds => wts ds + 3
  | .lst ds => wts ds + 3
  | _ => 64
def wts : List D → Nat
  | [] => 0
  | d :: ds => wt d + 2 + wts ds
end
mutual
def dep : D → Nat
  | .tup ds => deps ds + 1
  | .lst ds => deps ds + 1
  | _ => 0
def deps : List D → Nat
  | [] => 0
  | d :: ds => max (dep d) (deps ds)
end
mutual
def pyd : D → PyData
  | .bl b => .bool b
  | .int i => .int i
  | .str x => .str x
  | .tup ds => .tuple (pyds ds)
  | .lst ds => .list (pyds ds)
  | _ => .none
def pyds : List D → List PyData
  | [] => []
  | d :: ds => pyd d :: pyds ds
end
/-- the text that repr gives -/
def txt (d : D) : Str := (pyd d).shown
theorem small_log {i : Int} (h : -(2 ^ 200) ≤ i ∧ i ≤ 2 ^ 200) : i.natAbs.log2 < 1920 := by
  have h1 : i.natAbs ≤ 2 ^ 200 := by omega
  by_cases h0 : i.natAbs = 0
  · rw [h0]; decide
  · rw [Nat.log2_lt h0]
    exact Nat.lt_of_le_of_lt h1 (by decide)
mutual
theorem good_py : ∀ {d : D}, good d → d.py = some (pyd d)
  | .non, _ => rfl
  | .bl _, _ => rfl
  | .int _, _ => rfl
  | .str _, _ => rfl
  | .tup ds, h => by rw [D.py, goods_py h]; rfl
  | .lst ds, h => by rw [D.py, goods_py h]; rfl
theorem goods_py : ∀ {ds : List D}, goods ds → pys ds = some (pyds ds)
  | [], _ => rfl
  | d :: ds, h => by rw [pys, good_py h.1, goods_py h.2]; rfl
end
mutual
theorem good_lay : ∀ {d : D}, good d → (pyd d).canLay0 = true
  | .non, _ => by simp [pyd, PyData.canLay0]
  | .bl _, _ => by simp [pyd, PyData.canLay0]
  | .int _, _ => by simp [pyd, PyData.canLay0]
  | .str _, h => by simp only [pyd, PyData.canLay0]; exact h
  | .tup ds, h => by simp only [pyd, PyData.canLay0]; exact goods_lay h
  | .lst ds, h => by simp only [pyd, PyData.canLay0]; exact goods_lay h
theorem goods_lay : ∀ {ds : List D}, goods ds → PyData.canLayAll0 (pyds ds) = true
  | [], _ => by simp [pyds, PyData.canLayAll0]
  | d :: ds, h => by simp only [pyds, PyData.canLayAll0, good_lay h.1, goods_lay h.2, Bool.and_self]
end
mutual
theorem good_show : ∀ {d : D}, good d → (pyd d).showable = true
  | .non, _ => by simp [pyd, PyData.showable]
  | .bl _, _ => by simp [pyd, PyData.showable]
  | .int i, h => by simp only [pyd, PyData.showable]; exact decide_eq_true (small_log h)
  | .str _, h => by simp [pyd, PyData.showable]
  | .tup ds, h => by simp only [pyd, PyData.showable]; exact goods_show h
  | .lst ds, h => by simp only [pyd, PyData.showable]; exact goods_show h
theorem goods_show : ∀ {ds : List D}, goods ds → PyData.showableAll (pyds ds) = true
  | [], _ => by simp [pyds, PyData.showableAll]
  | d :: ds, h => by simp only [pyds, PyData.showableAll, good_show h.1, goods_show h.2, Bool.and_self]
end
mutual
theorem dep_py : ∀ {d : D}, good d → (pyd d).depth ≤ dep d + 1
  | .non, _ => by simp [pyd, PyData.depth]
  | .bl _, _ => by simp [pyd, PyData.depth]
  | .int i, h => by simp [pyd, PyData.depth]
  | .str _, h => by simp [pyd, PyData.depth]
  | .tup ds, h => by simp only [pyd, PyData.depth, dep]; have := deps_py (ds := ds) h; omega
  | .lst ds, h => by simp only [pyd, PyData.depth, dep]; have := deps_py (ds := ds) h; omega
theorem deps_py : ∀ {ds : List D}, goods ds → PyData.depthAll (pyds ds) ≤ deps ds + 1
  | [], _ => by simp [pyds, PyData.depthAll]
  | d :: ds, h => by
    simp only [pyds, PyData.depthAll, deps]
    have h1 := dep_py h.1
    have h2 := deps_py h.2
    omega
end
mutual
theorem wt_py : ∀ {d : D}, good d → (pyd d).shown.length ≤ wt d
  | .non, _ => by simp only [pyd, PyData.shown, wt]; decide +kernel
  | .bl b, _ => by cases b <;> (simp only [pyd, PyData.shown, wt]; decide +kernel)
  | .int i, h => by
    simp only [pyd, PyData.shown, wt]
    have h0 : -(2 ^ 200) ≤ i ∧ i ≤ 2 ^ 200 := h
    have h1 : i.natAbs < 10 ^ 61 := Nat.lt_of_le_of_lt (show i.natAbs ≤ 2 ^ 200 by omega) (by decide)
    have h2 := int_text_length_le10 (a := i) (k := 61) (by decide) h1
    rw [← PySem.ofString_length] at h2
    omega
  | .str x, h => by
    simp only [pyd, PyData.shown, wt]
    refine StrLaws.reprText_len x fun c hc => ?_
    have h1 : x.cps.all (· < 0x110000) = true := h
    have h2 := Array.all_eq_true_iff_forall_mem.mp h1 c (by simpa using hc)
    have h3 : c < 0x110000 := by simpa using h2
    exact Nat.lt_trans h3 (by decide)
  | .tup ds, h => by
    simp only [pyd, PyData.shown, wt]
    have h1 := tupleText_len_le (PyData.shownAll (pyds ds))
    have h2 := wts_py (ds := ds) h
    omega
  | .lst ds, h => by
    simp only [pyd, PyData.shown, wt]
    have h1 := listText_len_le (PyData.shownAll (pyds ds))
    have h2 := wts_py (ds := ds) h
    omega
theorem wts_py : ∀ {ds : List D}, goods ds → ((PyData.shownAll (pyds ds)).map (·.length)).sum + 2 * (PyData.shownAll (pyds ds)).length ≤ wts ds
  | [], _ => by simp [pyds, PyData.shownAll, wts]
  | d :: ds, h => by
    simp only [pyds, PyData.shownAll, wts, List.map_cons, List.sum_cons, List.length_cons]
    have h1 := wt_py h.1
    have h2 := wts_py h.2
    omega
end
mutual
theorem eqv_refl : ∀ {d : D}, good d → PyData.eqv (pyd d) (pyd d) = true
  | .non, _ => by simp [pyd, PyData.eqv]
  | .bl b, _ => by cases b <;> simp [pyd, PyData.eqv]
  | .int i, h => by simp [pyd, PyData.eqv]
  | .str _, h => by simp [pyd, PyData.eqv]
  | .tup ds, h => by simp only [pyd, PyData.eqv]; exact eqvs_refl h
  | .lst ds, h => by simp only [pyd, PyData.eqv]; exact eqvs_refl h
theorem eqvs_refl : ∀ {ds : List D}, goods ds → PyData.eqvAll (pyds ds) (pyds ds) = true
  | [], _ => by simp [pyds, PyData.eqvAll]
  | d :: ds, h => by simp only [pyds, PyData.eqvAll, eqv_refl h.1, eqvs_refl h.2, Bool.and_self]
end

section
variable {X : Cx} {J : Gh} {e a b c o : Expr} {es : List Expr} {ρ ρ' : DEnv} {M M' : Mem} {F F' H H' : Hp} {σ : St} {B : Bd} {K : PySem.W.Frag} {pos p apos cpos : Pos} {x : Str} {P : D → Mem → Prop}
def rReprD (K : PySem.W.Frag) : List V → Hp → VK → Prop := fun xs H Q => ∃ y z, xs = [y] ∧ Dp K H y z ∧ z.showable = true ∧ z.hasDict = false ∧ z.depth ≤ 60 ∧ z.shown.length ≤ sizeLine ∧ Q (.str z.shown) H
theorem shaped_good {d : D} (h : good d) (hd : dep d ≤ 50) : SeqAt.shaped (pyd d) = true := by
  have := dep_py h
  unfold SeqAt.shaped
  rw [good_lay h, Bool.true_and]
  exact decide_eq_true (by omega)
/-- == of data -/
def eqD (d1 d2 : D) : Bool := PyData.eqv (pyd d1) (pyd d2)
theorem eqD_refl {d : D} (h : good d) : eqD d d = true := eqv_refl h
theorem at0 {h : Addr} {d : D} : At (up M h d) h d (fun d' => up M h d') := ⟨up_same, fun _ => up_up.symm⟩
/-- x.append(e) -/
theorem tyV_lst {K : PySem.W.Frag} {a : Addr} {xs : List V} {H : Hp} (h : H a = some (.lst xs)) : tyV K "list" (.ref a) H := Or.inl ⟨rfl, _, Or.inl (Or.inl h)⟩
theorem ex_append (h : EX X J o ρ M fun d M1 => ∃ q ds1, d = .adr q ∧ M1 q = some (.lst ds1) ∧ AX X J [e] ρ M1 fun ys M2 => ∃ y ds f, ys = [y] ∧ At M2 q (.lst ds) f ∧ ds.length < 1000000 ∧ P .non (f (.lst (ds ++ [y]))))
    (hbase : attributeBase o "append" X.env (eval o X.env) = eval o X.env := by rfl)
    (few : ((backTo cpos (starEach [e] X.env)).all (fun x => !x.1) && (backToKw cpos (keywordEach [] X.env)).all (fun x => x.1.isSome) && decide ([e].length + ([] : List Keyword).length + (if ([] : List Keyword).isEmpty then 0 else 1) < 30)) = true := by rfl)
    (line : (apos.endLine == cpos.line) = true := by rfl) (hst : starEach [e] X.env = (false, eval e X.env) :: starEach [] X.env := by rfl) (hpl : (backTo cpos (starEach [] X.env)).any (·.1) = false := by rfl) :
    EX X J (.Call (.Attribute o "append" apos) [e] [] cpos) ρ M P :=
  ex_of (pe_bm PySem.F.plainAttrs_list PySem.F.slot_list_append PySem.F.type_list_append mt_append pe_any pa_any hbase few line hst hpl) fun F σ H Q st k => h.go st fun d v M1 F1 H1 q1 e1 o1 r1 => by
    obtain ⟨q, ds1, rfl, hq, q2⟩ := q1
    cases r1
    obtain ⟨_, xs1, hx1, _⟩ := o1.mt _ _ hq
    refine ⟨tyV_lst hx1, q2.go (st.to e1 o1) fun ys vs M2 F2 H2 q3 e2 o2 r2 => ?_⟩
    obtain ⟨y, ds, f, rfl, hA, hz, q3⟩ := q3
    cases r2 with
    | cons r2 r3 =>
      cases r3
      obtain ⟨_, xs, hx, rx⟩ := o2.mt _ _ hA.get
      refine ⟨q, xs, _, rfl, rfl, hx, by rw [rx.length, sizeLine_eq]; omega, k _ _ _ _ _ q3 (e1.trans e2) ?_ .non⟩
      rw [hA.set]
      exact o2.set (o := .lst (xs ++ [_])) hA.get ⟨_, upd_same, rx.append (.cons r2 .nil)⟩
/-- x[i] = e -/
theorem g1_setIx {tp : Pos} (h : EX X J e ρ M fun y M1 => EX X J o ρ M1 fun d M2 => EX X J a ρ M2 fun i M3 => ∃ q ds f n m, d = .adr q ∧ i = .int n ∧ At M3 q (.lst ds) f ∧ ixN ds.length n = some m ∧ B.nx ρ (f (.lst (ds.set m y))))
    (hs : swapsWithSole [.Subscript o a tp] e pos.line X.env = pure false := by rfl) (hw : swappedStores [.Subscript o a tp] e X.env = pure none := by rfl)
    (h1 : (assignEach [.Subscript o a tp] X.env).map (·.2) = [assign (.Subscript o a tp) X.env] := by rfl)
    (ha : ∀ v, assign (.Subscript o a tp) X.env v = (do let ov ← holding [v] (eval o X.env); let iv ← holding [v, ov] (eval a X.env); standAt tp; holding [v, ov, iv] (setItem ov iv v); release [v, ov, iv] []) := by intro _; rfl) : G1 X J (.Assign [.Subscript o a tp] e pos) ρ M B :=
  g1_of (ps_asg pe_any (pg_sub pe_any pe_any set_list ha) hs hw h1) fun F σ H E s k => h.go s fun y v M1 F1 H1 q1 e1 o1 r1 => q1.go (s.to e1 o1) fun d w M2 F2 H2 q2 e2 o2 r2 => q2.go (s.to (e1.trans e2) o2) fun i u M3 F3 H3 q3 e3 o3 r3 => by
    obtain ⟨q, ds, f, n, m, rfl, rfl, hA, hm, q3⟩ := q3
    cases r2; cases r3
    obtain ⟨_, xs, hx, rx⟩ := o3.mt _ _ hA.get
    refine ⟨q, xs, n, m, rfl, rfl, hx, by rw [rx.length]; exact hm, k.nx F3 _ _ _ _ q3 ((e1.trans e2).trans e3) (((s.en.mono e1).mono e2).mono e3) ?_⟩
    rw [hA.set]
    exact o3.set (o := .lst (xs.set m v)) hA.get ⟨_, upd_same, rx.set m ((r1.mono e2).mono e3)⟩

def pick {α : Type} (l : List α) (ix : List Nat) : List α := ix.filterMap fun i => l[i]?
theorem pick_vals {vs : List V} {us : List Value} (r : Vals vs us) : ∀ ix : List Nat, Vals (pick vs ix) (pick us ix)
  | [] => .nil
  | i :: ix => by
    unfold pick
    rw [List.filterMap_cons, List.filterMap_cons]
    cases e : vs[i]? with
    | none => rw [Vals.none_of r e]; exact pick_vals r ix
    | some v =>
      obtain ⟨u, h1, h2⟩ := r.get e
      rw [h1]
      exact .cons h2 (pick_vals r ix)
theorem pick_rps {vs : List V} {ds : List D} (r : Rps K F vs ds) : ∀ ix : List Nat, Rps K F (pick vs ix) (pick ds ix)
  | [] => .nil
  | i :: ix => by
    unfold pick
    rw [List.filterMap_cons, List.filterMap_cons]
    cases e : vs[i]? with
    | none =>
      have : ds[i]? = none := by
        rw [List.getElem?_eq_none_iff] at e ⊢
        rw [← r.length]; exact e
      rw [this]; exact pick_rps r ix
    | some v =>
      obtain ⟨d, h1, h2⟩ := r.getV e
      rw [h1]
      exact .cons h2 (pick_rps r ix)
theorem pk_any {kws : List Keyword} : PK X kws (tKe X kws) := ⟨fun pos pins s σ H Q I ⟨t, h, q⟩ => h.run pos pins s σ H Q I q⟩
theorem kx_nil {P : List D → Mem → Prop} (q : P [] M) : KX X J [] ρ M P := ⟨fun pos pins s σ H Q I ⟨F, st, k⟩ => pk_nil.run pos pins s σ H Q I (k [] [] M F H q (Same.refl F) st.ok .nil)⟩
theorem kx_cons {kws : List Keyword} {nm : Option Str} {kpos : Pos} {P : List D → Mem → Prop} (h : EX X J e ρ M fun d M1 => KX X J kws ρ M1 fun ds M2 => P (d :: ds) M2) : KX X J (⟨nm, e, kpos⟩ :: kws) ρ M P :=
  ⟨fun pos pins s σ H Q I ⟨F, st, k⟩ => (pk_cons pe_any pk_any).run pos pins s σ H Q I (h.go st fun d v M1 F1 H1 q e1 o1 r1 => KX.go q (st.to e1 o1) fun ds vs M2 F2 H2 q2 e2 o2 r2 => k _ _ M2 F2 H2 q2 (e1.trans e2) o2 (.cons (r1.mono e2) r2))⟩
theorem cd_max2 {i j : Int} (hc : X.calm = true) (q : P (.int (if j > i then j else i)) M) : CD X (.builtin "max") [.int i, .int j] M P :=
  ⟨_, call_max2 hc, fun F H vs Q o r k => by
    cases r with
    | cons h1 r =>
      cases r with
      | cons h2 r => cases r; cases h1; cases h2; exact ⟨i, j, rfl, k.here q o (.int _)⟩⟩
end
end DX
namespace DX
open PySem PySem.Spec L2
theorem le_b {m n : Nat} (h : Nat.ble m n = true) : m ≤ n := Nat.le_of_ble_eq_true h
section
variable {X : Cx} {J : Gh} {e a b c o : Expr} {es : List Expr} {st : Stmt} {ρ ρ' : DEnv} {M M' : Mem} {F F' H H' : Hp} {σ : St} {B : Bd} {K : PySem.W.Frag} {pos p apos cpos : Pos} {x : Str} {P : D → Mem → Prop}
/-- a word between a statement and the rest -/
theorem g1_mid (Mid : DEnv → Mem → Prop) (h : G1 X J st ρ M (B.thn Mid)) (k : ∀ ρ' M', Mid ρ' M' → B.nx ρ' M') : G1 X J st ρ M B :=
  g1_of h fun F σ H E st kd => ⟨F, st, fun F' σ' H' ρ' M' q => kd.nx F' σ' H' ρ' M' (k _ _ q), kd.rt, kd.bk, kd.ct⟩
/-- the script's first items, as a list -/
theorem sd_scr {ns : List Int} {k : Nat} (q : P (.lst ((ns.take k).map D.int)) M) : SD X (.scr ns) none (some (k : Int)) M P :=
  ⟨_, sl_list, fun F H v Q o rx kt => by
    cases rx with
    | scr h =>
      refine ⟨_, _, rfl, same_l o.ex h, fun q' hq => kt _ _ _ _ _ q (o.fixSame hq) (o.fix hq) (.lst upd_same ?_)⟩
      have e1 : cutV (ns.map V.int) none (some (k : Int)) = (ns.take k).map V.int := by
        unfold cutV
        rw [HT.sIx_none, HT.sIx_nat, Nat.sub_zero, List.drop_zero, List.map_take, List.length_map]
        by_cases hk : k ≤ ns.length
        · rw [Nat.min_eq_left hk]
        · rw [Nat.min_eq_right (by omega), List.take_of_length_le (by simp), List.take_of_length_le (by simp; omega)]
      rw [e1]
      exact Rps.ofInts⟩
theorem pyds_ints : ∀ ns : List Int, pys (ns.map D.int) = some (ns.map PyData.int)
  | [] => rfl
  | n :: ns => by rw [List.map_cons, pys, pyds_ints ns]; rfl
theorem lay_ints : ∀ ns : List Int, PyData.canLayAll0 (ns.map PyData.int) = true
  | [] => by simp [PyData.canLayAll0]
  | n :: ns => by simp only [List.map_cons, PyData.canLayAll0, PyData.canLay0, lay_ints ns, Bool.and_self]
theorem dep_ints : ∀ ns : List Int, PyData.depthAll (ns.map PyData.int) ≤ 1
  | [] => by simp [PyData.depthAll]
  | n :: ns => by have := dep_ints ns; simp only [List.map_cons, PyData.depthAll, PyData.depth]; omega
theorem shaped_ints (ns : List Int) : SeqAt.shaped (.list (ns.map PyData.int)) = true := by
  have := dep_ints ns
  unfold SeqAt.shaped
  rw [Bool.and_eq_true]
  exact ⟨by simp only [PyData.canLay0]; exact lay_ints ns, decide_eq_true (by simp only [PyData.depth]; omega)⟩
end

def hand (s : Hs) : D := .lst [.lst (s.cells.map D.int), .int s.at_, .int s.gr]
/-- a draw: any number below the bound -/
def trTake : Tr := fun ds M P => ∃ h s b M0 n, ds = [.adr h, .int b] ∧ M = up M0 h (hand s) ∧ HOk s n ∧ n ≤ 1000000 ∧ (0 < b ∧ b < 1000000000) ∧ ∀ k s', 0 ≤ k → k < b → HOk s' (n + 1) → P (.int k) (up M0 h (hand s'))
def trBegin : Tr := fun ds M P => ∃ ns, ds = [.scr ns] ∧ ∀ h s, M h = none → HOk s 0 → P (.adr h) (up M h (hand s))
theorem law_start {T : Tr} (hT : ∀ ns M P, (∀ M', P (.bl true) M') → T [.scr ns] M P) {K : PySem.W.Frag} {H : Hp} {a : Addr} {ns : List Int} (hS : SqL K H a (ns.map V.int)) : ∃ F M ds, Ok K F M H ∧ Rps K F [.ref a] ds ∧ T ds M fun d _ => d = .bl true :=
  ⟨H, fun _ => none, [.scr ns], ⟨Same.refl H, fun a d e => by cases e⟩, .cons (.scr hS) .nil, hT ns _ _ fun _ => rfl⟩
end DX
namespace DX
open PySem PySem.Spec L2
def isi (n : String) (d : D) : Bool := (kn d == n) || (kn d == "bool" && n == "int")
section
variable {X : Cx} {J : Gh} {e a b c o : Expr} {es : List Expr} {st : Stmt} {ρ ρ' : DEnv} {M M' : Mem} {F F' H H' : Hp} {σ : St} {B : Bd} {K : PySem.W.Frag} {pos p apos cpos : Pos} {x : Str} {P : D → Mem → Prop}
/-- a text, a tuple of the module by its name -/
theorem ex_gstr {z : Str} (hm : ∃ t, X.mg x = some (.str z t)) (q : P (.str z) M) (hg : Gl X x := by rfl) (hd : (x == ("__debug__" : Str)) = false := by decide) : EX X J (.Name x pos) ρ M P := by
  obtain ⟨t, h⟩ := hm
  exact ex_glob (v := .str z) hg h ⟨t, rfl⟩ (fun F => .str z) q hd
end
end DX
namespace DX
open PySem PySem.Spec L2
section
variable {X : Cx} {J : Gh} {e : Expr} {ρ : DEnv} {M : Mem} {P : D → Mem → Prop}
end
def bits (v : Int) (n : Nat) : List D := (List.range n).map fun i => D.int (v / 2 ^ i % 2)
theorem pow_pos2 (i : Nat) : (0 : Int) < 2 ^ i := Int.pow_pos (by decide)
/-- adding bit by bit: the sum of the low parts -/
def low (a b c : Int) (i : Nat) : Int := a % 2 ^ i + b % 2 ^ i + c
end DX
namespace DX
open PySem PySem.Spec L2
open PyProof.Rows hiding St
section
variable {X : Cx} {J : Gh} {e a b c o : Expr} {es : List Expr} {ρ : DEnv} {M : Mem} {F F' H H' : Hp} {σ : St} {K : PySem.W.Frag} {pos p apos cpos : Pos} {P : D → Mem → Prop}
def toS : D → Str
  | .str z => z
  | _ => Str.empty
def AllS (ds : List D) : Prop := (ds.map toS).map D.str = ds
theorem alls_map {α : Type} {f : α → Str} {l : List α} : AllS (l.map fun x => D.str (f x)) := by
  unfold AllS; rw [List.map_map, List.map_map]; rfl
theorem vals_strs : ∀ {xs : List V} {zs : List Str}, Rps K F xs (zs.map D.str) → xs = zs.map V.str
  | _, [], .nil => rfl
  | _, z :: zs, .cons h r => by cases h; rw [vals_strs r]; rfl
def sizeJ (ds : List D) : Nat := ((ds.map toS).map (·.length)).sum
theorem ex_join (h : EX X J o ρ M fun d M1 => ∃ z, d = .str z ∧ EX X J e ρ M1 fun d2 M2 => ∃ ds, Sq M2 d2 ds ∧ AllS ds ∧ sizeJ ds + ds.length * z.length ≤ 16777216 ∧ P (.str (Txt.join z (ds.map toS))) M2)
    (hs : starEach [e] X.env = [(false, eval e X.env)] := by rfl) (hbase : attributeBase o "join" X.env (eval o X.env) = eval o X.env := by rfl) (hline : (apos.endLine == pos.line) = true := by rfl) :
    EX X J (.Call (.Attribute o "join" apos) [e] [] pos) ρ M P :=
  ex_of (pe_join pe_any pe_any hs hbase hline) fun F σ H Q st k => h.go st fun d v M1 F1 H1 q e1 o1 r1 => by
    obtain ⟨z, rfl, q⟩ := q
    cases r1
    refine ⟨⟨_, rfl⟩, EX.go q (st.to e1 o1) fun d2 v2 M2 F2 H2 q2 e2 o2 r2 => ?_⟩
    obtain ⟨ds, s, ha, hz, q3⟩ := q2
    obtain ⟨p, xs, rfl, h2, r3⟩ := s.get o2 r2
    have e3 : xs = (ds.map toS).map V.str := vals_strs (by rw [ha]; exact r3)
    refine ⟨z, p, ds.map toS, rfl, rfl, by rw [← e3]; exact h2, by rw [List.length_map]; exact hz, k _ _ _ _ _ q3 (e1.trans e2) o2 (.str _)⟩
def rngC (a c : Int) (n : Nat) : List D := (List.range n).map fun (i : Nat) => D.int (a + (i : Int) * c)
theorem rngC_len {a c : Int} {n : Nat} : (rngC a c n).length = n := by simp [rngC]
theorem rngC_at {a c : Int} {n i : Nat} {d : D} (h : (rngC a c n)[i]? = some d) : i < n ∧ d = .int (a + (i : Int) * c) := by
  unfold rngC at h
  rw [List.getElem?_map] at h
  by_cases hi : i < n
  · rw [List.getElem?_range hi] at h
    cases h
    exact ⟨hi, rfl⟩
  · rw [List.getElem?_eq_none (by simp; omega)] at h
    cases h
def PRc (X : Cx) (e : Expr) (t : St → Hp → (Int → Int → Nat → Hp → Prop) → Prop) : Prop :=
  ∀ (pins : List (Addr × Obj)) (s : Shared) (σ : St) (H : Hp) (Q : Int → Int → Nat → Hp → Prop), Inv X pins σ H s → t σ H Q →
    wpAny (model X.prog X.w) X.A (eval e X.env) (fun x s' => ∃ r a b c n t u v H', x = .ref r ∧ IsRange s'.heap r a b c t u v ∧ RgC a b c n ∧ n ≤ 2 ^ 24 ∧ Inv X pins σ H' s' ∧ Q a c n H') X.xe s
def tRc (ta : TA) : St → Hp → (Int → Int → Nat → Hp → Prop) → Prop := fun σ H Q => ta σ H fun vs H1 => ∃ i j c n, (vs = [.int i, .int j, .int c] ∨ (vs = [.int i, .int j] ∧ c = 1) ∨ (vs = [.int j] ∧ i = 0 ∧ c = 1)) ∧ RgC i j c n ∧ n ≤ 2 ^ 24 ∧ Q i c n H1
def rgC (a c : Int) (n : Nat) : List V := (List.range n).map fun (i : Nat) => V.int (a + (i : Int) * c)
def tLstRc (te : St → Hp → (Int → Int → Nat → Hp → Prop) → Prop) : TE := fun σ H Q => te σ H fun a c n H1 => ∀ q, H1 q = none → Q (.ref q) (upd H1 q (.lst (rgC a c n)))
def tTupRc (te : St → Hp → (Int → Int → Nat → Hp → Prop) → Prop) : TE := fun σ H Q => te σ H fun a c n H1 => ∀ q, H1 q = none → Q (.ref q) (upd H1 q (.tup (rgC a c n)))
variable {te : St → Hp → (Int → Int → Nat → Hp → Prop) → Prop}
/-- what range is asked -/
def Rg (ds : List D) (i c : Int) (n : Nat) : Prop := ∃ j, (ds = [.int i, .int j, .int c] ∨ (ds = [.int i, .int j] ∧ c = 1) ∨ (ds = [.int j] ∧ i = 0 ∧ c = 1)) ∧ RgC i j c n ∧ n ≤ 2 ^ 24
theorem wk_rngC {lo c : Int} {n : Nat} : Wk K F (Itc lo c n) (rngC lo c n) :=
  ⟨fun i H hi s => by rw [rngC_len] at hi; exact hi, fun H s => by rw [rngC_len]; exact Nat.le_refl _, fun i d H x H' F1 M hd s o y => by
    obtain ⟨rfl, rfl⟩ := y
    obtain ⟨_, rfl⟩ := rngC_at hd
    exact ⟨F1, Same.refl _, o, .int _⟩⟩
theorem ix_range3 {tg : Expr} {P : List D → Mem → Prop} (hm : X.mg "range" = none) (h : AX X J [a, b, c] ρ M fun ds M2 => ∃ i j, ds = [.int i, .int j, .int (-1)] ∧ ((-1000000 ≤ i ∧ i ≤ 1000000) ∧ -1000000 ≤ j ∧ j ≤ 1000000) ∧ P (rngC i (-1) (i - j).toNat) M2) (hg : Gl X "range" := by rfl)
    (hs : starEach [a, b, c] X.env = (false, eval a X.env) :: starEach [b, c] X.env := by rfl) (hpl : (backTo pos (starEach [b, c] X.env)).any (·.1) = false := by rfl) : IX X J tg (.Call (.Name "range" p) [a, b, c] [] pos) ρ M P :=
  ix_of (pi_range3 hg hm pa_any hs hpl) fun F σ H R s k => h.go s fun ds vs M1 F1 H1 q e1 o1 r1 => by
    obtain ⟨i, j, rfl, hj, q2⟩ := q
    cases r1 with | cons h1 r1 => cases r1 with | cons h2 r1 => cases r1 with | cons h3 r1 =>
      cases r1
      cases h1; cases h2; cases h3
      exact ⟨i, j, -1, (i - j).toNat, rfl, RgC.neg (by omega) (by omega) (by omega) (by omega), k _ _ M1 F1 H1 q2 e1 o1 wk_rngC⟩
end
end DX
namespace DX
open PySem PySem.Spec L2
open SX
section
variable {X : Cx} {J : Gh} {M : Mem} {P : D → Mem → Prop}
def isS (c : Nat) : Prop := c = 71 ∨ c = 75 ∨ c = 80
def sgl (L : List Nat) : List D := L.map fun c => D.str (S [c])
theorem tl_S {l : List Nat} : (S l).cps.toList = l := rfl
theorem joinL_one : ∀ L : List Nat, TL.joinL [] (L.map fun c => [c]) = L
  | [] => rfl
  | [c] => rfl
  | c :: d :: r => by
    have := joinL_one (d :: r)
    simp only [List.map_cons] at this
    simp only [List.map_cons, TL.joinL, this]
    simp
theorem sgl_toS (L : List Nat) : (sgl L).map toS = (L.map fun c => [c]).map S := by
  unfold sgl; rw [List.map_map, List.map_map]; rfl
theorem empty_S : ("" : Str) = S [] := by decide
theorem join_sgl (L : List Nat) : Txt.join "" ((sgl L).map toS) = S L := by
  rw [sgl_toS, empty_S, join_S, joinL_one]
theorem sgl_all (L : List Nat) : AllS (sgl L) := alls_map
theorem sgl_len {L : List Nat} : (sgl L).length = L.length := by simp [sgl]
theorem sgl_size : ∀ {L : List Nat}, sizeJ (sgl L) = L.length
  | [] => rfl
  | c :: r => by
    have := sgl_size (L := r)
    unfold sizeJ sgl at this ⊢
    simp only [List.map_cons, List.sum_cons, this, List.length_cons]
    show (S [c]).length + _ = _
    rw [S_len]; simp; omega
theorem sgl_app {L R : List Nat} : sgl L ++ sgl R = sgl (L ++ R) := by simp [sgl]
def stp (l : List Nat) (p : Int) : Nat := l.getD (l.length - 1 - p.toNat) 0
def firstS (l : List Nat) : List Int → Nat
  | [] => 80
  | p :: ps => if stp l p = 80 then firstS l ps else stp l p
def carryS (c : Nat) : Int := if c = 71 then 1 else 0
def down (a b : Int) : List Int := (List.range (a - b).toNat).map fun (i : Nat) => a + (i : Int) * (-1)
def dueP (n o : Int) (r : Bool) : List Int := if r then down o 0 ++ down n o else down o (-1)
def upto (a b : Int) : List Int := (List.range (b - a).toNat).map fun (i : Nat) => a + (i : Int)
theorem rngD_upto {a b : Int} : rngD a (b - a).toNat = (upto a b).map D.int := by unfold rngD upto; rw [List.map_map]; rfl
theorem upto_mem {a b p : Int} (h : p ∈ upto a b) : a ≤ p ∧ p < b := by
  unfold upto at h
  simp only [List.mem_map, List.mem_range] at h
  obtain ⟨i, hi, rfl⟩ := h
  omega
theorem upto_len {a b : Int} : (upto a b).length = (b - a).toNat := by simp [upto]
def isRing (l : List Nat) : Bool := decide (stp l 0 = 80)
def trueS (l : List Nat) (o : Int) : Int := carryS (firstS l (dueP ((l.length : Int) - 1) o (isRing l)))
def trueAll (l : List Nat) : List Int := (upto (if isRing l then 1 else 0) ((l.length : Int) - 1 + 1)).map (trueS l)
theorem lit_G : ("G" : Str) = S [71] := by decide
theorem lit_K : ("K" : Str) = S [75] := by decide
theorem lit_P : ("P" : Str) = S [80] := by decide
end
end DX
namespace DX
open PySem PySem.Spec L2
open SX
section
variable {X : Cx} {J : Gh} {M : Mem} {P : D → Mem → Prop}
def cutA {α : Type} (xs : List α) (lo hi : Option Int) : List α := (xs.drop (HT.sIx xs.length 0 lo)).take (HT.sIx xs.length xs.length hi - HT.sIx xs.length 0 lo)
theorem sd_str {z : Str} {l u : Option Int} (hz : z.cps.toList.length ≤ 1000000) (p : P (.str (S (cutA z.cps.toList l u))) M) : SD X (.str z) l u M P :=
  ⟨_, sl_str, fun F H v Q o rx k => by
    cases rx
    have hl : z.length = z.cps.toList.length := by unfold Str.length; rw [Array.length_toList]
    refine ⟨z, rfl, by rw [sizeLine_eq]; omega, ?_⟩
    have e : cutS z l u = S (cutA z.cps.toList l u) := by unfold cutS cutA; rw [hl]
    rw [e]
    exact k.here p o (.str _)⟩
theorem g1_par3 {a b c : Expr} {ρ : DEnv} {B : Bd} {pos : Pos} {x y z : Str} {px py pz pt : Pos} {kt k2 pt2} (i j l : Nat) (hc : X.calm = true) (hij : i ≠ j) (hil : i ≠ l) (hjl : j ≠ l) (h : AX X J [a, b, c] ρ M fun ds M1 => ∃ d1 d2 d3, ds = [d1, d2, d3] ∧ B.nx (put (put (put ρ i d1) j d2) l d3) M1)
    (hN : X.N.Nodup := by rfl) (hi : X.N[i]? = some x := by rfl) (hj : X.N[j]? = some y := by rfl) (hl : X.N[l]? = some z := by rfl) (hx : X.env.scope.names.lookup x = some .local := by rfl) (hy : X.env.scope.names.lookup y = some .local := by rfl) (hz : X.env.scope.names.lookup z = some .local := by rfl)
    (hw : swappedStores [.Tuple [.Name x px, .Name y py, .Name z pz] kt pt] (.Tuple [a, b, c] k2 pt2) X.env = pure (some [x, y, z]) := by rfl)
    (hs : swapsWithSole [.Tuple [.Name x px, .Name y py, .Name z pz] kt pt] (.Tuple [a, b, c] k2 pt2) pos.line X.env = pure false := by rfl) :
    G1 X J (.Assign [.Tuple [.Name x px, .Name y py, .Name z pz] kt pt] (.Tuple [a, b, c] k2 pt2) pos) ρ M B :=
  g1_of (ps_par3 hc hN hi hj hl hij hil hjl hx hy hz pa_any hw hs) fun F σ H E s k => h.go s fun ds vs M1 F1 H1 p e1 o1 r1 => by
    obtain ⟨d1, d2, d3, rfl, p⟩ := p
    cases r1 with
    | cons h1 r1 => cases r1 with
      | cons h2 r1 => cases r1 with
        | cons h3 r1 =>
          cases r1
          exact ⟨_, _, _, rfl, k.nx F1 _ H1 _ M1 p e1 ((((s.en.mono e1).put i h1).put j h2).put l h3) o1⟩
theorem acc_in {f : Nat → Int} (hf : ∀ i, 0 ≤ f i ∧ f i ≤ 1) : ∀ n, 0 ≤ acc f n ∧ acc f n < 2 ^ n
  | 0 => ⟨Int.le_refl 0, by show (0 : Int) < 2 ^ 0; decide⟩
  | n + 1 => by
    have ih := acc_in hf n
    have h1 := hf n
    have h2 : 0 ≤ 2 ^ n * f n := Int.mul_nonneg (Int.le_of_lt (pow_pos2 n)) h1.1
    have h3 : 2 ^ n * f n ≤ 2 ^ n * 1 := Int.mul_le_mul_of_nonneg_left h1.2 (Int.le_of_lt (pow_pos2 n))
    rw [acc, Int.pow_succ]
    omega
theorem acc_bit {f : Nat → Int} (hf : ∀ i, 0 ≤ f i ∧ f i ≤ 1) : ∀ n i, i < n → acc f n / 2 ^ i % 2 = f i
  | n + 1, i, h => by
    have hn := acc_in hf n
    have h1 := hf n
    rw [acc]
    by_cases e : i = n
    · subst e
      rw [Int.add_mul_ediv_left _ _ (by have := pow_pos2 i; omega), Int.ediv_eq_zero_of_lt hn.1 hn.2]
      omega
    · have ih := acc_bit hf n i (by omega)
      have hp : (2 : Int) ^ n = 2 ^ i * (2 * 2 ^ (n - i - 1)) := by
        have e2 : n = i + (n - i - 1 + 1) := by omega
        rw [← Int.pow_succ', ← Int.pow_add, ← e2]
      rw [hp, Int.mul_assoc, Int.add_mul_ediv_left _ _ (by have := pow_pos2 i; omega), Int.mul_assoc]
      omega
/-- the state that two bits make -/
def ltr (x y : Int) : Nat := if x ≠ y then 80 else if x = 1 then 71 else 75
def stL (a b : Int) (n : Nat) : List Nat := (List.range n).map fun i => ltr (a / 2 ^ i % 2) (b / 2 ^ i % 2)
def fA (L : List Nat) (i : Nat) : Int := if L.getD i 0 = 75 then 0 else 1
def fB (L : List Nat) (i : Nat) : Int := if L.getD i 0 = 71 then 1 else 0
end
end DX
namespace DX
open PySem PySem.Spec L2
open SX
section
variable {X : Cx} {J : Gh} {M : Mem} {P : D → Mem → Prop}
def inS (z : Str) (ds : List D) : Bool := ds.any fun d => decide (toS d = z)
end
def lookY (fa : List He.Fa) (fn : List He.DefD) (ex : PySem.W.Frag → Bool) (n : Nat) (g : Addr → Option Obj) : He.AlD × Bool :=
  (He.obsDG n fa fn g, ex (He.frG g (He.asD g n)))
def hookY (n : Nat) (fa : List He.Fa) (fn : List He.DefD) (ex : PySem.W.Frag → Bool) : PySem.W.Hook where
  α := He.AlD × Bool
  obs := fun s => lookY fa fn ex n s.heap.get?
  val := fun _ => (He.valD fn, true)
  says := fun _ h => ∃ K : PySem.W.Frag, K.In h ∧ He.SaysD fa fn K ∧ ex K = true
  of := fun _ _ e => ⟨_, He.frG_in, congrArg Prod.fst e, congrArg Prod.snd e⟩
  keeps := fun _ _ _ ⟨K, hK, c, d⟩ k => ⟨K, PySem.W.Frag.In.keeps hK k, c, d⟩
end DX
namespace DX
open PySem PySem.Spec L2 PyProof.Rows StX

abbrev TrV := List D → List D → Mem → (D → Mem → Prop) → Prop
structure FnV (pg : Program) (w : World) (K : PySem.W.Frag) (mg : Str → Option Value) (base : Heap) (gd : Bool) (k : Nat) (f : Addr) (ks : List Str) (T : TrV) : Prop where
  go : ∀ (A : Around) (outer : List PySem.Env) (s : Shared) (H F : Hp) (M : Mem) (ds zs : List D) (P : D → Mem → Prop) (us ws : List Value) (vs xs : List V) (Q : VK), (gd = true → A.guards = some []) → Room k A → Env0 pg w K mg base A outer s H →
    Vals vs us → Vals xs ws → ws.length = ks.length → Ok K F M H → Rps K F vs ds → Rps K F xs zs → T ds zs M P → Kt K F P Q → codeAny (model pg w) A (.call (.ref f) ⟨us, ks.zip ws⟩) (CR CX0 outer pg w H s Q E0) s
/-- a def's body keeps the promise T of what stands in its parameters -/
def BodyOk (pg : Program) (w : World) (K : PySem.W.Frag) (mg : Str → Option Value) (base : Heap) (gd : Bool) (k : Nat) (f : Addr) (qual : Str) (body : List Stmt) (scope : Scope) (N ps : List Str) (T : Tr) : Prop :=
  ∀ (cdv : Value) (A : Around) (outer : List PySem.Env) (s : Shared) (H : Hp) (ds : List D) (M : Mem) (P : D → Mem → Prop), (gd = true → A.guards = some []) → Room k (A.deeper (PyProof.Rows.envOfC qual scope s.heap.objs.size f cdv)) → T ds M P →
      GX (cxOf CX0 pg w K mg base N qual scope f cdv A outer s H E0).nox Gh.triv body (startD (N.length - ps.length) ds) M ⟨fun _ M' => P .non M', P, fun _ _ => False, fun _ _ => False⟩
section
variable {pg : Program} {w : World} {K : PySem.W.Frag} {mg : Str → Option Value} {base : Heap} {x qual : Str} {params : Arguments} {body : List Stmt} {scope : Scope} {kws : List (Str × V)} {f : Addr} {fd : FuncData} {N pn : List Str} {pv : Str} {k : Nat} {T : Tr} {gd : Bool}
end

section
variable {X : Cx} {J : Gh} {e a b c o : Expr} {es : List Expr} {ρ ρ' : DEnv} {M M' : Mem} {F F' H H' : Hp} {σ : L2.St} {B : Bd} {K : PySem.W.Frag} {pos p apos cpos : Pos} {x : Str} {P : D → Mem → Prop}
def kD : Key → D
  | .inl i => .int i
  | .inr z => .str z
theorem kD_rp {k : Key} {v : V} (r : Rp K F v (kD k)) : v = kV k := by cases k <;> (cases r; rfl)
def mergeD (kvs more : List (Key × D)) : List (Key × D) := more.foldl (fun acc kv => putD acc kv.1 kv.2) kvs
theorem Rks.merge : ∀ {more : List (Key × V)} {rs : List (Key × D)} {vs : List (Key × V)} {ds : List (Key × D)}, Rks K F more rs → Rks K F vs ds → Rks K F (mergeK vs more) (mergeD ds rs)
  | _, _, _, _, .nil, q => q
  | _, _, _, _, .cons (x := kk) h r, q => by have := Rks.merge r (q.put (k := kk) h); exact this
/-- pairs of keys and values -/
def prsD (kvs : List (Key × D)) : List D := kvs.map fun kv => .tup [kD kv.1, kv.2]
theorem prs_of : ∀ {kvs : List (Key × D)} {vs : List V}, Rps K F vs (prsD kvs) → ∃ (ps : List Addr) (ws : List (Key × V)), vs = ps.map V.ref ∧ Paired (fun q kv => SqT K F q [kV kv.1, kv.2]) ps ws ∧ Rks K F ws kvs
  | [], _, .nil => ⟨[], [], rfl, .nil, .nil⟩
  | kv :: kvs, _, .cons h r => by
    obtain ⟨ps, ws, e1, e2, e3⟩ := prs_of r
    cases h with
    | tup h1 r1 =>
      cases r1 with
      | cons a r1 =>
        cases r1 with
        | cons b r1 =>
          cases r1
          rw [kD_rp a] at h1
          exact ⟨_ :: ps, (kv.1, _) :: ws, by rw [e1]; rfl, .cons h1 e2, .cons b e3⟩
theorem paired_mono {R R' : Addr → (Key × V) → Prop} (i : ∀ a b, R a b → R' a b) : ∀ {xs : List Addr} {ys : List (Key × V)}, Paired R xs ys → Paired R' xs ys
  | _, _, .nil => .nil
  | _, _, .cons h r => .cons (i _ _ h) (paired_mono i r)
/-- the values of pairs, as they stand -/
def PW (h : Heap) (prs : List (Key × Value)) (Ts : List Addr) : Prop := True
/-- dict(xs) of a tuple of pairs whose object is known -/
theorem call_dictT (hcalm : X.calm = true) : CallR X (.type "dict") (fun xs H Q => ∃ (a : Addr) (ob : Obj) (ps : List Addr) (kvs : List (Key × V)), xs = [.ref a] ∧ (H a = some (.frz ob (.tup (ps.map V.ref))) ∨ (X.K.lookup a = some ob ∧ ps = [] ∧ ∃ n, ob.data = .seq #[] n)) ∧ ob.cls = .type "tuple" ∧ ob.dict = none ∧ Paired (fun p kv => SqT X.K H p [kV kv.1, kv.2]) ps kvs ∧
    ∀ p, H p = none → Q (.ref p) (upd H p (.dK (mergeK [] kvs)))) := by
  intro pins s σ H xs us Q I r q
  obtain ⟨a, ob, ps, kvs, ex, hq, hoc, hod, hp, q⟩ := q
  subst ex
  obtain ⟨u, eu, rx⟩ := vals1 r
  subst eu
  cases rx
  obtain ⟨hget, hz, n, hdat⟩ : s.heap.get? a = some ob ∧ ps.length ≤ sizeLine ∧ ∃ n, ob.data = .seq (ps.map Value.ref).toArray n := by
    rcases hq with hq | ⟨hq, rfl, n, hn⟩
    · obtain ⟨hget, hz, its, rv, ⟨o2, ho2, hc2, n, hdat⟩⟩ := I.hok a _ hq
      rw [hget] at ho2
      cases ho2
      have ei := refs_at rv
      subst ei
      rw [List.length_map] at hz
      exact ⟨hget, hz, n, hdat⟩
    · exact ⟨I.kIn a ob hq, Nat.zero_le _, n, hn⟩
  obtain ⟨prs, rel, hl, hpr⟩ := pairs_of I hp
  have hpr' : ∀ (j : Nat) (q : Key × Value), prs[j]? = some q → ∃ u : Value, (ps.map Value.ref).toArray[j]? = some (.ref (ps.getD j 0)) ∧ IsTup s.heap (ps.getD j 0) #[u, q.2] ∧ keyIs q.1 u = true := by
    intro j q e
    obtain ⟨b, u, e1, e2, e3⟩ := hpr j q e
    have eb : ps.getD j 0 = b := by rw [List.getD_eq_getElem?_getD, e1]; rfl
    exact ⟨u, by simp [e1, eb], by rw [eb]; exact e2, e3⟩
  have key : ∃ pv : List (Value × Value), pv.length = prs.length ∧ ∀ (j : Nat) (kk v : Value), pv[j]? = some (kk, v) → ∃ kx, prs[j]? = some (kx, v) ∧ keyIs kx kk = true ∧ IsTup s.heap (ps.getD j 0) #[kk, v] := by
    have : ∀ (L : List (Key × Value)) (i0 : Nat), (∀ j q, L[j]? = some q → ∃ u : Value, IsTup s.heap (ps.getD (i0 + j) 0) #[u, q.2] ∧ keyIs q.1 u = true) →
        ∃ pv : List (Value × Value), pv.length = L.length ∧ ∀ (j : Nat) (kk v : Value), pv[j]? = some (kk, v) → ∃ kx, L[j]? = some (kx, v) ∧ keyIs kx kk = true ∧ IsTup s.heap (ps.getD (i0 + j) 0) #[kk, v] := by
      intro L
      induction L with
      | nil => exact fun i0 _ => ⟨[], rfl, fun j kk v e => by simp at e⟩
      | cons q L ih =>
        intro i0 h
        obtain ⟨u, h1, h2⟩ := h 0 q rfl
        obtain ⟨pv, h3, h4⟩ := ih (i0 + 1) fun j q' e => by
          obtain ⟨u, h5, h6⟩ := h (j + 1) q' (by simpa using e)
          exact ⟨u, by rw [show i0 + 1 + j = i0 + (j + 1) by omega]; exact h5, h6⟩
        refine ⟨(u, q.2) :: pv, by simp [h3], fun j kk v e => ?_⟩
        cases j with
        | zero =>
          simp only [List.getElem?_cons_zero, Option.some.injEq, Prod.mk.injEq] at e
          obtain ⟨rfl, rfl⟩ := e
          exact ⟨q.1, rfl, h2, h1⟩
        | succ j =>
          obtain ⟨kx, h5, h6, h7⟩ := h4 j kk v (by simpa using e)
          exact ⟨kx, by simpa using h5, h6, by rw [show i0 + (j + 1) = i0 + 1 + j by omega]; exact h7⟩
    obtain ⟨pv, h1, h2⟩ := this prs 0 fun j q e => by
      obtain ⟨u, _, h3, h4⟩ := hpr' j q e
      exact ⟨u, by rw [Nat.zero_add]; exact h3, h4⟩
    exact ⟨pv, h1, fun j kk v e => by
      obtain ⟨kx, h3, h4, h5⟩ := h2 j kk v e
      exact ⟨kx, h3, h4, by rw [Nat.zero_add] at h5; exact h5⟩⟩
  obtain ⟨pv, hpl, hpv⟩ := key
  refine PySem.call_dict_pairs (knd := mixKind X.prog X.w) (kvs := prs) (PairArg.tuple a (ps.map Value.ref).toArray (fun j => ps.getD j 0) pv) (I.ok.hd hcalm) ⟨⟨ob, n, hget, hoc, hod, hdat⟩, ⟨by simp [hpl, hl], fun j kk v e => ?_⟩⟩ ⟨by rw [hpl], fun i kk v e => ?_⟩ (by rw [hpl, hl]; exact hz) fun h' tk hd' k => ?_
  · obtain ⟨kx, h1, h2, h3⟩ := hpv j kk v e
    obtain ⟨_, h4, _⟩ := hpr' j _ h1
    exact ⟨h4, .inl h3⟩
  · obtain ⟨kx, h1, h2, h3⟩ := hpv i kk v e
    exact ⟨kx, h1, h2⟩
  · have hm : (s.heap.objs.size == sysModules) = false := beq_eq_false_iff_ne.mpr (Nat.ne_of_gt I.big)
    have hlen : (mergeK [] kvs).length ≤ sizeLine := by
      refine Nat.le_trans (length_mergeK kvs []) ?_
      rw [List.length_nil, Nat.zero_add, rel.length, hl]
      exact hz
    exact ⟨.ref s.heap.objs.size, upd H s.heap.objs.size (.dK (mergeK [] kvs)), I.laid (t' := tk) (fun b o => k b o (by simp)) (Nat.le_refl _) (show ObjOk X.prog X.w _ _ _ (.dK (mergeK [] kvs)) from ⟨hlen, hm, merged [] prs, KV.merge rel .nil, hd'⟩), rfl, q _ (I.hok.fresh (Nat.le_refl _))⟩
theorem bb_dict : bootBuiltins "dict" = some (.type "dict") := by decide +kernel
theorem cd_dict {kvs : List (Key × D)} (hc : X.calm = true) (q : P (.dct (mergeD [] kvs)) M) : CD X (.type "dict") [.stup (prsD kvs)] M P :=
  ⟨_, call_dictT hc, fun F H vs Q o r k => by
    obtain ⟨pk, hpk⟩ : ∃ pk, pk = prsD kvs := ⟨_, rfl⟩
    rw [← hpk] at r
    cases r with
    | cons h1 r =>
      cases r
      cases h1 with
      | stupK h2 hc =>
        cases kvs with
        | cons kv kvs => cases hpk
        | nil =>
          exact ⟨_, _, [], [], rfl, .inr ⟨h2, rfl, hc.2.2⟩, hc.1, hc.2.1, .nil, fun l hl => k _ _ _ _ _ q (o.fixSame hl) (o.fix hl) (.dct upd_same .nil)⟩
      | stup h2 hc r2 =>
        subst hpk
        obtain ⟨ps, ws, e1, e2, e3⟩ := prs_of r2
        subst e1
        exact ⟨_, _, ps, ws, rfl, .inl (o.ex _ _ h2), hc.1, hc.2, paired_mono (fun _ _ z => same_t o.ex z) e2, fun l hl => k _ _ _ _ _ q (o.fixSame hl) (o.fix hl) (.dct upd_same ((e3.merge .nil).mono (o.fixSame hl)))⟩⟩
/-- d.get(k, x) -/
theorem ex_dget2 (hu : X.A.units + 64 < cLine) (h : EX X J o ρ M fun d M1 => ∃ kvs, d = .dct kvs ∧ EX X J a ρ M1 fun y M2 => ∃ k, y = kD k ∧ EX X J b ρ M2 fun z M3 => P ((valD kvs k).getD z) M3)
    (hbase : attributeBase o "get" X.env (eval o X.env) = eval o X.env := by rfl)
    (few : ((backTo cpos (starEach [a, b] X.env)).all (fun x => !x.1) && (backToKw cpos (keywordEach [] X.env)).all (fun x => x.1.isSome) && decide ([a, b].length + ([] : List Keyword).length + (if ([] : List Keyword).isEmpty then 0 else 1) < 30)) = true := by rfl)
    (line : (apos.endLine == cpos.line) = true := by rfl) (trees : backTo cpos (starEach [a, b] X.env) = [(false, eval a X.env), (false, eval b X.env)] := by rfl) :
    EX X J (.Call (.Attribute o "get" apos) [a, b] [] cpos) ρ M P :=
  ex_of (pe_dget2 (by omega) pe_any pe_any pe_any ⟨hbase, few, line, trees⟩) fun F σ H Q st kt => h.go st fun d v M1 F1 H1 q1 e1 o1 r1 => by
    obtain ⟨kvs, rfl, q1⟩ := q1
    cases r1 with
    | dct h1 r1 =>
      refine ⟨_, rfl, .inl ⟨_, .inl (o1.ex _ _ h1)⟩, q1.go (st.to e1 o1) fun y w M2 F2 H2 q2 e2 o2 r2 => ?_⟩
      obtain ⟨kk, rfl, q2⟩ := q2
      have := kD_rp r2
      subst this
      refine q2.go (st.to (e1.trans e2) o2) fun z u M3 F3 H3 q3 e3 o3 r3 => ?_
      refine ⟨_, .inl ⟨_, kk, .inl (o3.ex _ _ (e3 _ _ (e2 _ _ h1))), rfl, rfl⟩, ?_⟩
      rcases ((r1.mono e2).mono e3).get (k := kk) with ⟨g1, g2⟩ | ⟨v', d', g1, g2, g3⟩
      · rw [g1]; rw [g2] at q3
        exact kt _ _ _ _ _ q3 ((e1.trans e2).trans e3) o3 r3
      · rw [g1]; rw [g2] at q3
        exact kt _ _ _ _ _ q3 ((e1.trans e2).trans e3) o3 g3
/-- xs.pop(i) -/
theorem Rps.eraseIdx : ∀ {v : List V} {d : List D} (i : Nat), Rps K F v d → Rps K F (v.eraseIdx i) (d.eraseIdx i)
  | _, _, _, .nil => .nil
  | _, _, 0, .cons _ r => r
  | _, _, i + 1, .cons h r => .cons h (Rps.eraseIdx i r)
end
end DX
namespace DX
open PySem PySem.Spec L2
section
variable {X : Cx} {J : Gh} {e a b c o : Expr} {es : List Expr} {ρ ρ' : DEnv} {M M' : Mem} {F F' H H' : Hp} {σ : St} {B : Bd} {K : PySem.W.Frag} {pos p apos cpos : Pos} {x : Str} {P : D → Mem → Prop}
/-- xs + ys, a list that may change -/
theorem od_addLM {x y : D} {ds es : List D} (sx : Sl M x ds) (sy : Sl M y es) (hz : ds.length + es.length ≤ 1000000) (p : ∀ q, M q = none → P (.adr q) (up M q (.lst (ds ++ es)))) : OD X (binaryOp .Add) x y M P :=
  ⟨_, op_cat, fun F H v u Q o rx ry k => by
    obtain ⟨a, xs, rfl, h1, r1⟩ := sx.get o rx
    obtain ⟨b, ys, rfl, h2, r2⟩ := sy.get o ry
    exact ⟨a, b, xs, ys, rfl, rfl, h1, h2, by rw [r1.length, r2.length, sizeLine_eq]; omega, fun q hq => k _ _ _ _ _ (p q (o.nn hq).2) (Same.refl _) (o.lay hq ⟨_, upd_same, r1.append r2⟩) (.adr q)⟩⟩
variable {scope : Scope} {tg iter elt : Expr} {ifs : List Expr}
def lcR (n : Nat) (t : Nat → Bool) (g : Nat → D) : List D := ((List.range n).filter t).map g
end
end DX
namespace DX
open PySem PySem.Spec L2
def keyP : Key → PyData
  | .inl i => .int i
  | .inr x => .str x
mutual
def pydR : D → PyData
  | .bl b => .bool b
  | .int i => .int i
  | .str x => .str x
  | .tup ds => .tuple (pydRs ds)
  | .lst ds => .list (pydRs ds)
  | .dct kvs => .dict (pydRk kvs)
  | _ => .none
def pydRs : List D → List PyData
  | [] => []
  | d :: ds => pydR d :: pydRs ds
def pydRk : List (Key × D) → List (PyData × PyData)
  | [] => []
  | (k, d) :: ds => (keyP k, pydR d) :: pydRk ds
end
mutual
/-- what may be shown -/
def shw : D → Bool
  | .non => true
  | .bl _ => true
  | .int _ => true
  | .str _ => true
  | .tup ds => shws ds
  | .lst ds => shws ds
  | .dct kvs => shwk kvs
  | _ => false
def shws : List D → Bool
  | [] => true
  | d :: ds => shw d && shws ds
def shwk : List (Key × D) → Bool
  | [] => true
  | (_, d) :: ds => shw d && shwk ds
end
/-- the text that repr gives -/
def txtR (d : D) : Str := (pydR d).shown
/-- all that repr asks of the data (to be shown by computation or by rules below) -/
structure ROk (d : D) : Prop where
  sh : shw d = true
  ok : (pydR d).showable = true
  dp : (pydR d).depth ≤ 60
  sz : (pydR d).shown.length ≤ 16000000
section
variable {X : Cx} {pins : List (Addr × Obj)} {σ : L2.St} {F H : Hp} {s : Shared}
theorem sys_dict (hS : sysB X.K = true) (I : L2.Inv X pins σ H s) : ∃ o, s.heap.get? sysModules = some o ∧ o.cls = .type "dict" := by
  unfold sysB at hS
  cases e : X.K.lookup sysModules with
  | none => rw [e] at hS; cases hS
  | some o =>
    rw [e] at hS
    exact ⟨o, I.kIn _ _ e, of_decide_eq_true hS⟩
theorem not_sys (hS : sysB X.K = true) (I : L2.Inv X pins σ H s) {a : Addr} {o : Obj} (h : s.heap.get? a = some o) (hc : o.cls = .type "list") : sysModules ≠ a := by
  intro e
  obtain ⟨o2, h2, h3⟩ := sys_dict hS I
  rw [e, h] at h2
  cases h2
  rw [hc] at h3
  exact absurd h3 (by decide)
theorem pairs_reads {h : Heap} {vs : List (Key × Value)} {es : List DictEntry} (ps : Pairs (mixKind X.prog X.w) es vs) : ReadsAll h (es.map (·.key)) (vs.map fun q => keyP q.1) [] ∧ es.map (·.val) = vs.map (·.2) := by
  induction ps with
  | nil => exact ⟨.nil, rfl⟩
  | @cons e kv es kvs hk hv _ ih =>
    refine ⟨?_, by rw [List.map_cons, List.map_cons, ih.2, hv]⟩
    rw [List.map_cons, List.map_cons]
    have hr : Reads h e.key (keyP kv.1) [] := by
      rcases keyIs_shape (show keyIs kv.1 e.key = true from hk) with ⟨i, t, e1, e2⟩ | ⟨x, t, e1, e2⟩
      · rw [e1, e2]; exact .int i t
      · rw [e1, e2]; exact .str x t
    exact ReadsAll.cons (as := []) (bs := []) hr ih.1
mutual
theorem Rp.reads (hS : sysB X.K = true) (I : L2.Inv X pins σ H s) (hs : Same F H) : ∀ (d : D) (v : V) (u : Value), shw d = true → Rp X.K F v d → RelV v u → ∃ as, Reads s.heap u (pydR d) as ∧ sysModules ∉ as
  | .non, _, _, _, .non, r => by cases r; exact ⟨_, .none, by simp⟩
  | .bl b, _, _, _, .bl _, r => by cases r; exact ⟨_, .bool b, by simp⟩
  | .int i, _, _, _, .int _, r => by obtain ⟨t, rfl⟩ := r; exact ⟨_, .int i t, by simp⟩
  | .str x, _, _, _, .str _, r => by obtain ⟨t, rfl⟩ := r; exact ⟨_, .str x t, by simp⟩
  | .lst ds, _, _, h, .lst h1 h2, r => by
    cases r
    obtain ⟨its, rv, ⟨o, n, ho, hc, _, hd⟩, _⟩ := I.list (SqL.of (hs _ _ h1))
    obtain ⟨as, hr, hn⟩ := Rps.readsAll hS I hs ds _ its (by rw [shw] at h; exact h) h2 rv
    have q := Reads.list ho hc hd hr
    rw [show pydR (.lst ds) = .list (pydRs ds) by rw [pydR]]
    exact ⟨_, q, by rw [List.mem_cons, not_or]; exact ⟨not_sys hS I ho hc, hn⟩⟩
  | .tup ds, _, _, h, .tup h1 h2, r => by
    cases r
    obtain ⟨its, rv, ⟨o, ho, hc, n, hd⟩, _⟩ := I.tuple (same_t hs h1)
    obtain ⟨as, hr, hn⟩ := Rps.readsAll hS I hs ds _ its (by rw [shw] at h; exact h) h2 rv
    have q := Reads.tuple ho hc hd hr
    rw [show pydR (.tup ds) = .tuple (pydRs ds) by rw [pydR]]
    exact ⟨_, q, hn⟩
  | .dct kvs, _, _, h, .dct h1 h2, r => by
    cases r
    obtain ⟨_, hne, vs, rel, o, es, ep, ho, hx, hd, _, hp, _⟩ := I.hok _ _ (hs _ _ h1)
    obtain ⟨k1, k2⟩ := pairs_reads (h := s.heap) hp
    obtain ⟨bs, hr, hn⟩ := Rks.readsAll hS I hs kvs _ vs (by rw [shw] at h; exact h) h2 rel
    have e : (pydRk kvs).map (·.1) = vs.map fun q => keyP q.1 := hr.2
    have k3 : ReadsAll s.heap (es.toList.map (·.key)) ((pydRk kvs).map (·.1)) [] := by rw [e]; exact k1
    have k4 : ReadsAll s.heap (es.toList.map (·.val)) ((pydRk kvs).map (·.2)) bs := by rw [k2]; exact hr.1
    have q := Reads.dict (as := []) ho hx.1 hd k3 k4
    rw [show pydR (.dct kvs) = .dict (pydRk kvs) by rw [pydR]]
    refine ⟨_, q, ?_⟩
    simp only [List.append_nil, List.cons_append, List.nil_append, List.mem_cons, not_or]
    exact ⟨fun z => by rw [← z] at hne; simp at hne, hn⟩
  | .adr _, _, _, h, _, _ => by simp [shw] at h
  | .ty _, _, _, h, _, _ => by simp [shw] at h
  | .scr _, _, _, h, _, _ => by simp [shw] at h
  | .ins _ _, _, _, h, _, _ => by simp [shw] at h
  | .stup _, _, _, h, _, _ => by simp [shw] at h
theorem Rps.readsAll (hS : sysB X.K = true) (I : L2.Inv X pins σ H s) (hs : Same F H) : ∀ (ds : List D) (vs : List V) (us : List Value), shws ds = true → Rps X.K F vs ds → Vals vs us → ∃ as, ReadsAll s.heap us (pydRs ds) as ∧ sysModules ∉ as
  | [], _, _, _, .nil, .nil => ⟨_, .nil, by simp⟩
  | d :: ds, _, _, h, .cons h1 h2, .cons r1 r2 => by
    rw [shws, Bool.and_eq_true] at h
    obtain ⟨as, q1, n1⟩ := Rp.reads hS I hs d _ _ h.1 h1 r1
    obtain ⟨bs, q2, n2⟩ := Rps.readsAll hS I hs ds _ _ h.2 h2 r2
    exact ⟨_, ReadsAll.cons q1 q2, by rw [List.mem_append, not_or]; exact ⟨n1, n2⟩⟩
theorem Rks.readsAll (hS : sysB X.K = true) (I : L2.Inv X pins σ H s) (hs : Same F H) : ∀ (ds : List (Key × D)) (vs : List (Key × V)) (us : List (Key × Value)), shwk ds = true → Rks X.K F vs ds → KV vs us →
    ∃ as, (ReadsAll s.heap (us.map (·.2)) ((pydRk ds).map (·.2)) as ∧ (pydRk ds).map (·.1) = us.map fun q => keyP q.1) ∧ sysModules ∉ as
  | [], _, _, _, .nil, .nil => ⟨_, ⟨.nil, rfl⟩, by simp⟩
  | (k, d) :: ds, _, _, h, .cons h1 h2, .cons (b := q) r1 r2 => by
    rw [shwk, Bool.and_eq_true] at h
    obtain ⟨as, q1, n1⟩ := Rp.reads hS I hs d _ _ h.1 h1 r1.2
    obtain ⟨bs, ⟨q2, q3⟩, n2⟩ := Rks.readsAll hS I hs ds _ _ h.2 h2 r2
    refine ⟨_, ⟨ReadsAll.cons q1 q2, ?_⟩, by rw [List.mem_append, not_or]; exact ⟨n1, n2⟩⟩
    rw [pydRk, List.map_cons, List.map_cons, q3, ← r1.1]
end
end
section
variable {X : Cx} {J : Gh} {e a b c o : Expr} {es : List Expr} {ρ ρ' : DEnv} {M M' : Mem} {F F' H H' : Hp} {σ : L2.St} {B : Bd} {K : PySem.W.Frag} {pos p apos cpos : Pos} {x : Str} {P : D → Mem → Prop}
theorem repr_allR {pins : List (Addr × Obj)} {s : Shared} {d : D} {v : V} {u : Value} {Q : Value → Shared → Prop} (hS : sysB X.K = true) (hg : X.A.guards = some []) (hu : X.A.units + 64 < cLine) (I : L2.Inv X pins σ H s) (hs : Same F H) (hR : ROk d) (h : Rp X.K F v d) (r : RelV v u)
    (k : ∀ t s', L2.Inv X pins σ H s' → Q (.str (txtR d) t) s') : wpAny (model X.prog X.w) X.A (call (.builtin "repr") [u]) Q X.xe s := by
  have hz : (pydR d).shown.length ≤ sizeLine := by rw [sizeLine_eq]; have := hR.sz; omega
  have hd := hR.dp
  unfold txtR at k
  obtain ⟨as, rd, hn⟩ := Rp.reads hS I hs d v u hR.sh h r
  have big : ∀ a, u = .ref a → wpAny (model X.prog X.w) X.A (call (.builtin "repr") [u]) Q X.xe s := by
    rintro a rfl
    exact repr_of_reads' rd hR.ok (fun _ => hn) hg (by omega) (fun b ob z => z) (fun h' t tk hk => k t _ (I.kept hk)) hz
  have hsh := hR.ok
  clear rd hn
  cases h with
  | non => cases r; exact PySem.P.repr_of_none (by simpa [pydR, PyData.shown] using k _ _ (I.tok _))
  | bl b => cases r; exact PySem.P.repr_of_bool (by simpa [pydR, PyData.shown] using k _ _ (I.tok _))
  | int i =>
    obtain ⟨t, rfl⟩ := r
    exact PySem.P.repr_of_int (by simpa [pydR, PyData.showable] using hsh) (by simpa [pydR, PyData.shown] using k _ _ (I.tok _))
  | str y =>
    obtain ⟨t, rfl⟩ := r
    exact PySem.P.repr_of_str (by simpa [pydR, PyData.shown] using k _ _ (I.tok _)) (by simpa [pydR, PyData.shown] using hz)
  | lst _ _ => exact big _ r
  | tup _ _ => exact big _ r
  | dct _ _ => exact big _ r
  | adr _ => have := hR.sh; simp [shw] at this
  | ty _ => have := hR.sh; simp [shw] at this
  | scr _ => have := hR.sh; simp [shw] at this
  | ins _ _ => have := hR.sh; simp [shw] at this
  | stup _ _ _ => have := hR.sh; simp [shw] at this
  | stupK _ _ => have := hR.sh; simp [shw] at this
  | exn _ _ _ => have := hR.sh; simp [shw] at this
theorem call_reprR (hS : sysB X.K = true) (hg : X.A.guards = some []) (hu : X.A.units + 64 < cLine) : CallR X (.builtin "repr") (fun xs H Q => ∃ F v d, xs = [v] ∧ Same F H ∧ ROk d ∧ Rp X.K F v d ∧ Q (.str (txtR d)) H) := by
  intro pins s σ H xs us Q I r h
  obtain ⟨F, v, d, rfl, hs, hR, h, q⟩ := h
  obtain ⟨u, rfl, rx⟩ := vals1 r
  exact repr_allR hS hg hu I hs hR h rx fun t s' I' => ⟨.str (txtR d), H, I', ⟨t, rfl⟩, q⟩
theorem cd_reprR {d : D} (hS : sysB X.K = true) (hg : X.A.guards = some []) (hu : X.A.units + 64 < cLine) (hR : ROk d) (q : P (.str (txtR d)) M) : CD X (.builtin "repr") [d] M P :=
  ⟨_, call_reprR hS hg hu, fun F H vs Q o r k => by
    cases r with
    | cons h1 r =>
      cases r
      exact ⟨F, _, d, rfl, o.ex, hR, h1, k.here q o (.str _)⟩⟩
theorem call_list_text (hc : X.calm = true) : CallR X (.type "list") (fun xs H Q => ∃ z : Str, xs = [.str z] ∧ z.length ≤ 1000000 ∧ ∀ l, H l = none → Q (.ref l) (upd H l (.lst (z.cps.toList.map fun c => V.str ⟨#[c]⟩)))) := by
  intro pins s σ H xs us Q I r h
  obtain ⟨z, rfl, hz, q⟩ := h
  obtain ⟨u, rfl, rx⟩ := vals1 r
  obtain ⟨t, rfl⟩ := rx
  have hz2 : z.cps.size ≤ 1000000 := hz
  refine call_list_str (I.ok.hd hc) z t (hn := by rw [sizeLine_eq]; omega) fun h' tk acc c' kp e hi => ?_
  refine ⟨.ref s.heap.objs.size, _, I.laid (t' := tk) kp (Nat.le_refl _) (show ObjOk X.prog X.w _ h' _ (.lst (z.cps.toList.map fun c => V.str ⟨#[c]⟩)) from ⟨?_, acc.toList, c', ?_, e⟩), rfl, q _ (I.hok.fresh (Nat.le_refl _))⟩
  · rw [List.length_map, Array.length_toList, sizeLine_eq]; omega
  · have e1 : acc.toList.length = z.cps.toList.length := by rw [Array.length_toList, Array.length_toList]; exact hi.1
    have e2 : (z.cps.toList.map fun c => V.str ⟨#[c]⟩) = (List.range acc.toList.length).map fun j => V.str ⟨#[z.cps.toList.getD j 0]⟩ := by
      rw [e1]
      apply List.ext_getElem
      · simp
      · intro j h1 h2
        rw [List.length_map] at h1
        rw [List.getElem_map, List.getElem_map, List.getElem_range, List.getD_eq_getElem?_getD, List.getElem?_eq_getElem h1]; rfl
    rw [e2]
    refine vals_of_get _ _ fun j w hj => ?_
    obtain ⟨c, u, h1, h2⟩ := hi.2 j w (by rw [← hj, Array.getElem?_toList])
    have : z.cps.toList[j]? = some c := by rw [Array.getElem?_toList]; exact h1
    rw [List.getD_eq_getElem?_getD, this]
    exact ⟨u, h2⟩
theorem cd_listS {z : Str} (hc : X.calm = true) (hz : z.cps.toList.length ≤ 1000000) (q : P (.lst (signs z)) M) : CD X (.type "list") [.str z] M P :=
  ⟨_, call_list_text hc, fun F H vs Q o r k => by
    cases r with
    | cons h1 r =>
      cases r
      cases h1
      refine ⟨z, rfl, ?_, fun l hl => ?_⟩
      · show z.cps.size ≤ _
        rw [← Array.length_toList]; exact hz
      · refine k _ _ _ _ _ q (o.fixSame hl) (o.fix hl) (.lst upd_same ?_)
        have e : (z.cps.toList.map fun c => V.str ⟨#[c]⟩) = (z.cps.toList.map fun c => (⟨#[c]⟩ : Str)).map V.str := by rw [List.map_map]; rfl
        have e2 : signs z = (z.cps.toList.map fun c => (⟨#[c]⟩ : Str)).map D.str := by unfold signs; rw [List.map_map]; rfl
        rw [e, e2]
        exact Rps.ofStrs⟩
end
end DX
namespace DX
open PySem PySem.Spec L2 SX
def lookS (fa : List He.Fa) (fn : List He.DefD) (ex : PySem.W.Frag → Bool) (n : Nat) (g : Addr → Option Obj) : He.AlD × Bool :=
  (He.obsD fa fn (He.frG g (sysModules :: He.asD g n)), ex (He.frG g (sysModules :: He.asD g n)))
def hookS (n : Nat) (fa : List He.Fa) (fn : List He.DefD) (ex : PySem.W.Frag → Bool) : PySem.W.Hook where
  α := He.AlD × Bool
  obs := fun s => lookS fa fn ex n s.heap.get?
  val := fun _ => (He.valD fn, true)
  says := fun _ h => ∃ K : PySem.W.Frag, K.In h ∧ He.SaysD fa fn K ∧ ex K = true
  of := fun _ _ e => ⟨_, He.frG_in, congrArg Prod.fst e, congrArg Prod.snd e⟩
  keeps := fun _ _ _ ⟨K, hK, c, d⟩ k => ⟨K, PySem.W.Frag.In.keeps hK k, c, d⟩
section
variable {X : Cx} {M : Mem} {P : D → Mem → Prop}
theorem op_mul_str : OpR X (binaryOp .Mult) (fun x y H Q => ∃ z n, x = .str z ∧ y = .int n ∧ z.length ≤ 1000 ∧ -(2 ^ 62) ≤ n ∧ n ≤ 10000 ∧ Q (.str (Txt.mul z n)) H) := by
  intro pins s σ H x y v u Q I rx ry h
  obtain ⟨z, n, rfl, rfl, hz, h1, h2, q⟩ := h
  obtain ⟨t, rfl⟩ := rx
  obtain ⟨t', rfl⟩ := ry
  exact PySem.SB.mul (PyProof.Rows.mulOk_of 1000 10000 hz h2 (by omega) (by decide) (by decide)) fun t' k => ⟨.str (Txt.mul z n), H, I.tok _, ⟨_, rfl⟩, q⟩
end
mutual
theorem good_R : ∀ {d : D}, good d → pydR d = pyd d ∧ shw d = true
  | .non, _ => ⟨by simp [pydR, pyd], by simp [shw]⟩
  | .bl _, _ => ⟨by simp [pydR, pyd], by simp [shw]⟩
  | .int _, _ => ⟨by simp [pydR, pyd], by simp [shw]⟩
  | .str _, _ => ⟨by simp [pydR, pyd], by simp [shw]⟩
  | .tup ds, h => by have := goods_R (ds := ds) h; exact ⟨by rw [pydR, pyd, this.1], by rw [shw, this.2]⟩
  | .lst ds, h => by have := goods_R (ds := ds) h; exact ⟨by rw [pydR, pyd, this.1], by rw [shw, this.2]⟩
theorem goods_R : ∀ {ds : List D}, goods ds → pydRs ds = pyds ds ∧ shws ds = true
  | [], _ => ⟨by simp [pydRs, pyds], by simp [shws]⟩
  | d :: ds, h => by
    have h1 := good_R h.1
    have h2 := goods_R h.2
    exact ⟨by rw [pydRs, pyds, h1.1, h2.1], by rw [shws, h1.2, h2.2]; rfl⟩
end
def tx (l : List Nat) : Prop := ∀ c ∈ l, c < 128
/-- a text, if it is one, is short and of such signs -/
def txz (d : D) : Prop := ∀ z, d = .str z → tx z.cps.toList ∧ z.cps.toList.length ≤ 1000
/-- values that laws hand in: shown, asked for their kind, short if texts -/
structure Th (d : D) : Prop where
  pl : plain d = true
  ro : ROk d
  tz : txz d
end DX
namespace DX
open PySem PySem.Spec L2 StX PyProof.Rows
section
variable {prog : Program} {w : World} {A : Around} {E : Value → Shared → Prop} {s : Shared} {K : PySem.W.Frag} {x y C f : Addr} {ox oy : Obj} {od od' : Option Obj}
end

section
variable {K : PySem.W.Frag} {F H : Hp} {M : Mem}
end
section
variable {X : Cx} {J : Gh} {e a b c o : Expr} {es : List Expr} {ρ ρ' : DEnv} {M M' : Mem} {F F' H H' : Hp} {σ : L2.St} {B : Bd} {K : PySem.W.Frag} {pos p apos cpos : Pos} {x f : Str} {P : D → Mem → Prop}
/-- what is made by C(..), told of its values -/
def TMk (C : Addr) (T : TrV) (ds : List D) (M : Mem) (P : D → Mem → Prop) : Prop := ∀ a, M a = none → T (.adr a :: ds) [] (up M a (.ins C [])) fun d M2 => d = .non ∧ ∃ gs M0, M0 a = none ∧ M2 = up M0 a (.ins C gs) ∧ P (.ins C gs) M0
def SpV (K : PySem.W.Frag) (T : TrV) : Sp := fun vs H Q _ => ∃ F M ds P, Ok K F M H ∧ Rps K F vs ds ∧ T ds [] M P ∧ Kt K F P Q
end
end DX
namespace DX
open PySem PySem.Spec L2
structure PSetOf (K : PySem.W.Frag) (C : Addr) (f : Str) (p g : Addr) : Prop where
  tak : PySem.W.takerIn K C f = some (some (.ref p))
  ty : PySem.W.typeIn K (.ref p) = some (.type "property")
  rec_ : ∃ a rest, PySem.W.recIn K p "property" = some (a :: .ref g :: rest)
def lookP (fa : List He.Fa) (fn : List He.DefD) (pr : List PrD) (ex : PySem.W.Frag → Bool) (n : Nat) (g : Addr → Option Obj) : He.AlD × Bool × List He.FnW := obsP fa fn pr ex (He.frG g (cStatics :: sysModules :: He.asD g n))
def hookP (n : Nat) (fa : List He.Fa) (fn : List He.DefD) (pr : List PrD) (ex : PySem.W.Frag → Bool) : PySem.W.Hook where
  α := He.AlD × Bool × List He.FnW
  obs := fun s => lookP fa fn pr ex n s.heap.get?
  val := fun _ => (He.valD fn, true, pr.map PrD.val)
  says := fun _ h => ∃ K : PySem.W.Frag, K.In h ∧ SaysP fa fn pr ex K
  of := fun _ _ e => ⟨_, He.frG_in, e⟩
  keeps := fun _ _ _ ⟨K, hK, c⟩ k => ⟨K, PySem.W.Frag.In.keeps hK k, c⟩
section
variable {fa : List He.Fa} {fn : List He.DefD} {pr : List PrD} {ex : PySem.W.Frag → Bool} {K : PySem.W.Frag}
theorem SaysP.exx (c : SaysP fa fn pr ex K) : ex K = true := (He.ba (congrArg (fun z => z.2.1) c)).1
end
/-- a class that stands first among those that its instances are looked up in -/
def sfB (K : PySem.W.Frag) (C : Str) : Bool := PySem.W.selfFirst K (He.ga K C)
/-- a constant of a class, an int -/
def conB (K : PySem.W.Frag) (C f : Str) (i : Int) : Bool := match PySem.W.findIn K (.ref (He.ga K C)) f with
  | some (some (.int j t)) => decide (j = i) && He.eqO (PySem.W.specialIn K (.int j t) "__get__") (some none)
  | _ => false
/-- its instances may be called -/
def callB (K : PySem.W.Frag) (C : Str) : Bool := He.eqO (PySem.W.findIn K (.ref (He.ga K C)) "__call__") (some (some (.ref (He.ma K (He.ga K C) "__call__")))) && (PySem.W.isFn K (.ref (He.ma K (He.ga K C) "__call__")) && PySem.W.fnIn K (He.ma K (He.ga K C) "__call__"))
end DX
namespace DX
open PySem PySem.Spec L2
open SX
section
variable {X : Cx} {J : Gh} {M : Mem} {P : D → Mem → Prop} {ρ : DEnv} {o e : Expr} {pos apos cpos : Pos}
theorem inV_ints {i : Int} : ∀ ns : List Int, inV (.int i) (ns.map V.int) = decide (i ∈ ns)
  | [] => by simp [inV]
  | y :: ns => by
    have ih := inV_ints (i := i) ns
    unfold inV at ih ⊢
    rw [List.map_cons, List.any_cons, ih]
    show (y == i || decide (i ∈ ns)) = decide (i ∈ y :: ns)
    by_cases h : y = i
    · subst h; simp
    · have h' : ¬ i = y := fun z => h z.symm
      simp [h, h']
end
end DX
namespace EnT
open PySem PySem.Spec L2 PyProof.Rows
section
variable {prog : Program} {w : World} {A : Around} {E : Value → Shared → Prop} {s : Shared}
end
/-- the tuple at a, its items in new pairs -/
def IteT (K : PySem.W.Frag) (a : Addr) : It :=
  ⟨fun i H => ∃ (xs : List V) (x : V), SqT K H a xs ∧ xs[i]? = some x, fun i H v H' => ∃ T x, v = .ref T ∧ H T = none ∧ H' = upd H T (.tup [.int (i : Nat), x]) ∧ ∀ xs, SqT K H a xs → xs[i]? = some x, fun i H => ∃ xs : List V, SqT K H a xs ∧ xs.length ≤ i⟩
def iEnumT (K : PySem.W.Frag) (ta : TA) : TI := fun σ H R => ta σ H fun vs H1 => ∃ a xs, vs = [.ref a] ∧ SqT K H1 a xs ∧ R (IteT K a) H1
end EnT
namespace DX
open PySem PySem.Spec L2
variable {X : Cx} {J : Gh} {M : Mem} {F : Hp} {K : PySem.W.Frag} {ρ : DEnv} {a : Expr} {p pos : Pos}
def tIfT (t ta tb : TT) : TT := fun σ H Q => t σ H fun c H1 => if c = true then ta σ H1 Q else tb σ H1 Q
open PyProof.Rows in
theorem call_tuple_text (hc : X.calm = true) : CallR X (.type "tuple") (fun xs H Q => ∃ z : Str, xs = [.str z] ∧ z.length ≤ 1000000 ∧ ∀ l, H l = none → Q (.ref l) (upd H l (.tup (z.cps.toList.map fun c => V.str ⟨#[c]⟩)))) := by
  intro pins s σ H xs us Q I r h
  obtain ⟨z, rfl, hz, q⟩ := h
  obtain ⟨u, rfl, rx⟩ := vals1 r
  obtain ⟨t, rfl⟩ := rx
  have hz2 : z.cps.size ≤ 1000000 := hz
  refine call_tuple_str (I.ok.hd hc) z t (fun h' tk acc kp hi => ?_) (hsz := by rw [sizeLine_eq]; omega)
  have I1 : Inv X pins σ H { s with heap := h', toks := tk } := I.kept (t' := tk) kp
  have e1 : acc.toList.length = z.cps.toList.length := by rw [Array.length_toList, Array.length_toList]; exact hi.1
  have hv : Vals (z.cps.toList.map fun c => V.str ⟨#[c]⟩) acc.toList := by
    have e2 : (z.cps.toList.map fun c => V.str ⟨#[c]⟩) = (List.range acc.toList.length).map fun j => V.str ⟨#[z.cps.toList.getD j 0]⟩ := by
      rw [e1]
      apply List.ext_getElem
      · simp
      · intro j h1 h2
        rw [List.length_map] at h1
        rw [List.getElem_map, List.getElem_map, List.getElem_range, List.getD_eq_getElem?_getD, List.getElem?_eq_getElem h1]; rfl
    rw [e2]
    refine vals_of_get _ _ fun j w hj => ?_
    obtain ⟨c, u, h1, h2⟩ := hi.2 j w (by rw [← hj, Array.getElem?_toList])
    have : z.cps.toList[j]? = some c := by rw [Array.getElem?_toList]; exact h1
    rw [List.getD_eq_getElem?_getD, this]
    exact ⟨u, h2⟩
  have I2 : Inv X pins σ (upd H h'.objs.size (.tup (z.cps.toList.map fun c => V.str ⟨#[c]⟩))) { s with heap := h'.push { cls := .type "tuple", data := .seq acc }, toks := tk } :=
    I1.laid (t' := tk) (fun b o e => Heap.get?_push_of_some _ e) (Nat.le_refl _) (show ObjOk X.prog X.w _ _ _ (.tup (z.cps.toList.map fun c => V.str ⟨#[c]⟩)) from ⟨by rw [List.length_map, Array.length_toList, sizeLine_eq]; omega, acc.toList, hv, IsTup.new _ _⟩)
  exact ⟨.ref h'.objs.size, _, I2, rfl, q _ (I1.hok.fresh (Nat.le_refl _))⟩
theorem cd_tupleS {P : D → Mem → Prop} {z : Str} (hc : X.calm = true) (hz : z.cps.toList.length ≤ 1000000) (q : P (.tup (signs z)) M) : CD X (.type "tuple") [.str z] M P :=
  ⟨_, call_tuple_text hc, fun F H vs Q o r k => by
    cases r with
    | cons h1 r =>
      cases r
      cases h1
      refine ⟨z, rfl, ?_, fun l hl => ?_⟩
      · show z.cps.size ≤ _
        rw [← Array.length_toList]; exact hz
      · refine k _ _ _ _ _ q (o.fixSame hl) (o.fix hl) (.tup (SqT.of upd_same) ?_)
        have e : (z.cps.toList.map fun c => V.str ⟨#[c]⟩) = (z.cps.toList.map fun c => (⟨#[c]⟩ : Str)).map V.str := by rw [List.map_map]; rfl
        have e2 : signs z = (z.cps.toList.map fun c => (⟨#[c]⟩ : Str)).map D.str := by unfold signs; rw [List.map_map]; rfl
        rw [e, e2]
        exact Rps.ofStrs⟩
end DX
namespace DX
open PySem PySem.Spec L2
/-- what a look at the module tells of the class C -/
def isiB (K : PySem.W.Frag) (C : Str) : Bool :=
  He.eqO (PySem.W.findIn K (.ref (He.ga K C)) "__class__") (some (some (.builtin "object.__class__"))) && (He.eqO (PySem.W.specialIn K (.builtin "object.__class__") "__get__") (some (some (.builtin "getset_descriptor.__get__"))) &&
    (decide (PySem.W.takesIn K (.builtin "object.__class__") = some true) && (decide (PySem.W.mroIn K (He.ga K C) (.type "object") = some true) &&
      (["NoneType", "bool", "int", "str", "tuple", "list", "dict"].all fun n => decide (PySem.W.kitOne K (.type n) (.ref (He.ga K C)) = some false)))))
structure IsiC (K : PySem.W.Frag) (C : Addr) : Prop where
  ha : PySem.W.findIn K (.ref C) "__class__" = some (some (.builtin "object.__class__"))
  hn : PySem.W.specialIn K (.builtin "object.__class__") "__get__" = some (some (.builtin "getset_descriptor.__get__"))
  htk : PySem.W.takesIn K (.builtin "object.__class__") = some true
  hm : PySem.W.mroIn K C (.type "object") = some true
  no : ∀ n ∈ ["NoneType", "bool", "int", "str", "tuple", "list", "dict"], PySem.W.kitOne K (.type n) (.ref C) = some false
section
variable {X : Cx} {J : Gh} {M : Mem} {P : D → Mem → Prop} {ρ : DEnv} {pos : Pos} {x : Str}
end
end DX
namespace RevT
open PySem PySem.Spec L2 PyProof.Rows HT
section
variable {prog : Program} {w : World} {A : Around} {E : Value → Shared → Prop} {s : Shared}
end
end RevT
namespace RevT
open PySem PySem.Spec L2 PyProof.Rows HT
def tRevT (K : PySem.W.Frag) (te : TE) : TE := fun σ H Q => te σ H fun x H1 => ∃ a xs, x = .ref a ∧ SqT K H1 a xs ∧ ∀ p (ob : Obj), H1 p = none → (ob.cls = .type "tuple" ∧ ob.dict = none) → Q (.ref p) (upd H1 p (.frz ob (.tup xs.reverse)))
/-- o.m(e, ..) of an object that is known -/
def tBMK (T : String) (r : V → List V → Hp → VK → Prop) (to : TE) (t : TA) : TE := fun σ H Q => to σ H fun x H1 => (∃ p ob u, x = .ref p ∧ H1 p = some (.frz ob u) ∧ ob.cls = .type T ∧ ob.dict = none) ∧ t σ H1 fun xs H2 => r x xs H2 Q
end RevT
namespace DX
open PySem PySem.Spec L2
section
variable {X : Cx} {J : Gh} {M : Mem} {P : D → Mem → Prop} {ρ : DEnv} {o e : Expr} {pos apos cpos : Pos} {F H : Hp} {K : PySem.W.Frag}
/-- t[l:u], also where it is the whole of t -/
theorem sd_tupA {ds : List D} {l u : Option Int} (p : P (.tup (cutD ds l u)) M) : SD X (.tup ds) l u M P :=
  ⟨_, sl_tupA, fun F H v Q o rx k => by
    cases rx with
    | tup h1 r1 =>
      refine ⟨_, _, rfl, same_t o.ex h1, fun hw => ?_, fun hw q hq => k _ _ _ _ _ p (o.fixSame hq) (o.fix hq) (.tup (.inl (.inl upd_same)) ((cut_of r1 l u).mono (o.fixSame hq)))⟩
      rw [r1.length] at hw
      have e : cutD ds l u = ds := by
        unfold cutD
        rw [hw.1, hw.2, Nat.sub_zero, List.drop_zero, List.take_length]
      rw [e] at p
      exact k.here p o (.tup h1 r1)⟩
end
end DX
namespace DX
open PySem PySem.Spec L2
section
variable {X : Cx} {J : Gh} {M : Mem} {P : D → Mem → Prop} {ρ : DEnv} {a b c o e : Expr} {p pos apos cpos : Pos} {K : PySem.W.Frag} {F : Hp}
/-- how many numbers range(i, j, c) has -/
def cntP (i j c : Int) : Nat := if i < j then ((j - i - 1) / c + 1).toNat else 0
end
end DX
namespace DX
open PySem PySem.Spec L2
section
variable {X : Cx} {J : Gh} {e a b c : Expr} {es : List Expr} {ρ ρ' : DEnv} {M M' : Mem} {F F' H H' : Hp} {σ : St} {B : Bd} {K : PySem.W.Frag} {pos p : Pos} {x : Str} {P : D → Mem → Prop}
variable {scope : Scope} {tg iter elt : Expr} {ifs : List Expr}
/-- LcW, where the list goes on changing -/
def LcWM (X : Cx) (J : Gh) (scope : Scope) (vs : List Nat) (tg : Expr) (ifs : List Expr) (elt : Expr) (ρ : DEnv) (P : D → Mem → Prop) (ds : List D) (M1 : Mem) : Prop := ∃ Wd : Nat → List D → Mem → Prop, Wd 0 [] M1 ∧
  (∀ i d acc M' Dl, ds[i]? = some d → Wd i acc M' → M' Dl = none → acc.length < 1000000 ∧ AsB X scope vs tg d (cuts ρ vs) fun ρ2 =>
    TXb X J scope ifs ρ2 (up M' Dl (.lst acc)) fun t M2 => (t = true → EXb X J scope elt ρ2 M2 fun y M3 => ∃ M4, M4 Dl = none ∧ M3 = up M4 Dl (.lst acc) ∧ Wd (i + 1) (acc ++ [y]) M4) ∧
      (t = false → ∃ M4, M4 Dl = none ∧ M2 = up M4 Dl (.lst acc) ∧ Wd (i + 1) acc M4)) ∧
  ∀ acc M' Dl, Wd ds.length acc M' → M' Dl = none → P (.adr Dl) (up M' Dl (.lst acc))
end
end DX
namespace DX
open PySem PySem.Spec L2
section
variable {X : Cx} {J : Gh} {M : Mem} {P : D → Mem → Prop} {ρ : DEnv} {o e : Expr} {apos cpos : Pos} {K : PySem.W.Frag} {F : Hp}
end
end DX
namespace DX
open PySem PySem.Spec L2 SX

noncomputable section
open Classical in
def chk {α : Type} (p : Prop) (x : α) : Option α := if p then some x else none
theorem chk_inv {α : Type} {p : Prop} {x y : α} (h : chk p x = some y) : p ∧ x = y := by
  unfold chk at h
  split at h
  · exact ⟨by assumption, Option.some.inj h⟩
  · cases h
theorem chk_pos {α : Type} {p : Prop} {x : α} (h : p) : chk p x = some x := if_pos h
theorem bi {α β : Type} {o : Option α} {f : α → Option β} {r : β} {C : Prop} (h : o.bind f = some r) (k : ∀ v, o = some v → f v = some r → C) : C := by
  cases o with
  | none => cases h
  | some v => exact k v rfl h
theorem iT {α : Type} {c : Bool} {a b r : α} (q : c = true) (h : (if c = true then a else b) = r) : a = r := by rwa [if_pos q] at h
theorem iF {α : Type} {c : Bool} {a b r : α} (q : c = false) (h : (if c = true then a else b) = r) : b = r := by rwa [if_neg (by rw [q]; decide)] at h

section
variable {X : Cx} {J : Gh} {e a b c o : Expr} {es : List Expr} {ρ ρ' : DEnv} {M M' : Mem} {F F' H H' : Hp} {σ : L2.St} {B : Bd} {K : PySem.W.Frag} {pos p apos cpos : Pos} {x y dx dy z : D} {P : D → Mem → Prop} {t : Bool}
theorem od_by {f : Value → Value → Sem Value} (hx : imm dx = true) (hy : imm dy = true) (vx : Vw M x dx) (vy : Vw M y dy) (h : OD X f dx dy M P) : OD X f x y M P := by
  obtain ⟨r, h1, h2⟩ := h
  exact ⟨r, h1, fun F H v u Q o rx ry k => h2 F H v u Q o (vx.rp hx o rx) (vy.rp hy o ry) k⟩
def dAdd : D → D → Option D
  | .int i, .int j => some (.int (i + j))
  | .str a, .str b => chk (a.length + b.length ≤ 1000000) (.str (a ++ b))
  | .lst a, .lst b => chk (a.length + b.length ≤ 1000000) (.lst (a ++ b))
  | .tup a, .tup b => chk (a.length + b.length ≤ 1000000) (.tup (a ++ b))
  | _, _ => none
theorem od_dAdd (vx : Vw M x dx) (vy : Vw M y dy) (h : dAdd dx dy = some z) (p : P z M) : OD X (binaryOp .Add) x y M P := by
  unfold dAdd at h
  split at h
  · cases h; exact od_by rfl rfl vx vy (od_add p)
  · obtain ⟨h1, rfl⟩ := chk_inv h; exact od_by rfl rfl vx vy (od_addS h1 p)
  · obtain ⟨h1, rfl⟩ := chk_inv h; exact od_addL vx.sl vy.sl h1 p
  · obtain ⟨h1, rfl⟩ := chk_inv h; exact od_by rfl rfl vx vy (od_addT h1 p)
  · cases h
/-- the same, of lists, the new one may change -/
def lAdd : D → D → Option (List D)
  | .lst a, .lst b => chk (a.length + b.length ≤ 1000000) (a ++ b)
  | _, _ => none
theorem od_lAdd {l : List D} (vx : Vw M x dx) (vy : Vw M y dy) (h : lAdd dx dy = some l) (p : ∀ q, M q = none → P (.adr q) (up M q (.lst l))) : OD X (binaryOp .Add) x y M P := by
  unfold lAdd at h
  split at h
  · obtain ⟨h1, rfl⟩ := chk_inv h; exact od_addLM vx.sl vy.sl h1 p
  · cases h
def dSub : D → D → Option D
  | .int i, .int j => some (.int (i - j))
  | _, _ => none
theorem od_dSub (vx : Vw M x dx) (vy : Vw M y dy) (h : dSub dx dy = some z) (p : P z M) : OD X (binaryOp .Sub) x y M P := by
  unfold dSub at h
  split at h
  · cases h; exact od_by rfl rfl vx vy (od_sub p)
  · cases h
def dMul : D → D → Option D
  | .int i, .int j => chk (CMul i j) (.int (i * j))
  | .str a, .int n => chk (a.length ≤ 1000 ∧ -(2 ^ 62) ≤ n ∧ n ≤ 10000) (.str (Txt.mul a n))
  | .lst a, .int n => chk ((-(2 ^ 62) ≤ n ∧ n < 2 ^ 62) ∧ a.length * n.toNat ≤ 1000000) (.lst (List.replicate n.toNat a).flatten)
  | .tup a, .int n => chk (a ≠ [] ∧ 2 ≤ n ∧ n ≤ 1000 ∧ a.length ≤ 1000) (.tup (List.replicate n.toNat a).flatten)
  | _, _ => none
theorem od_dMul (vx : Vw M x dx) (vy : Vw M y dy) (h : dMul dx dy = some z) (p : P z M) : OD X (binaryOp .Mult) x y M P := by
  unfold dMul at h
  split at h
  · obtain ⟨h1, rfl⟩ := chk_inv h; exact od_by rfl rfl vx vy (od_mul h1 p)
  · obtain ⟨h1, rfl⟩ := chk_inv h
    refine od_by rfl rfl vx vy ⟨_, op_mul_str, fun F H v u Q o rx ry k => ?_⟩
    cases rx; cases ry
    exact ⟨_, _, rfl, rfl, h1.1, h1.2.1, h1.2.2, k.here p o (.str _)⟩
  · rename_i a n
    obtain ⟨h1, rfl⟩ := chk_inv h
    obtain ⟨r, g1, g2⟩ := od_mulL (X := X) vx.sl h1.1 h1.2 p
    exact ⟨r, g1, fun F H v u Q o rx ry k => g2 F H v u Q o rx (vy.rp rfl o ry) k⟩
  · obtain ⟨h1, rfl⟩ := chk_inv h
    refine od_by rfl rfl vx vy ⟨_, op_repT, fun F H v u Q o rx ry k => ?_⟩
    cases ry
    cases rx with
    | @tup a xs _ g1 r1 =>
    refine ⟨a, _, xs, rfl, rfl, same_t o.ex g1, fun e => ?_, h1.2.1, h1.2.2.1, by rw [r1.length]; exact h1.2.2.2, fun q hq => k _ _ _ _ _ p (o.fixSame hq) (o.fix hq) (.tup (SqT.of upd_same) ((r1.rep _).mono (o.fixSame hq)))⟩
    subst e
    cases r1
    exact h1.1 rfl
  · cases h
def lMul : D → D → Option (List D)
  | .lst a, .int n => chk ((-(2 ^ 62) ≤ n ∧ n < 2 ^ 62) ∧ a.length * n.toNat ≤ 1000000) (List.replicate n.toNat a).flatten
  | _, _ => none
def dFdiv : D → D → Option D
  | .int i, .int j => chk (CDiv i j) (.int (i / j))
  | _, _ => none
theorem od_dFdiv (vx : Vw M x dx) (vy : Vw M y dy) (h : dFdiv dx dy = some z) (p : P z M) : OD X (binaryOp .FloorDiv) x y M P := by
  unfold dFdiv at h
  split at h
  · obtain ⟨h1, rfl⟩ := chk_inv h; exact od_by rfl rfl vx vy (od_fdiv h1 p)
  · cases h
def dMod : D → D → Option D
  | .int i, .int j => chk (0 < j) (.int (i % j))
  | _, _ => none
theorem od_dMod (vx : Vw M x dx) (vy : Vw M y dy) (h : dMod dx dy = some z) (p : P z M) : OD X (binaryOp .Mod) x y M P := by
  unfold dMod at h
  split at h
  · obtain ⟨h1, rfl⟩ := chk_inv h; exact od_by rfl rfl vx vy (od_mod h1 p)
  · cases h
def dPow : D → D → Option D
  | .int i, .int j => chk (CPow i j) (.int (i ^ j.toNat))
  | _, _ => none
theorem od_dPow (vx : Vw M x dx) (vy : Vw M y dy) (h : dPow dx dy = some z) (p : P z M) : OD X (binaryOp .Pow) x y M P := by
  unfold dPow at h
  split at h
  · obtain ⟨h1, rfl⟩ := chk_inv h; exact od_by rfl rfl vx vy (od_pow h1 p)
  · cases h
def dShl : D → D → Option D
  | .int i, .int j => chk (CPow i j) (.int (i * 2 ^ j.toNat))
  | _, _ => none
theorem od_dShl (vx : Vw M x dx) (vy : Vw M y dy) (h : dShl dx dy = some z) (p : P z M) : OD X (binaryOp .LShift) x y M P := by
  unfold dShl at h
  split at h
  · obtain ⟨h1, rfl⟩ := chk_inv h; exact od_by rfl rfl vx vy (od_shl h1 p)
  · cases h
def dShr : D → D → Option D
  | .int i, .int j => chk (0 ≤ j) (.int (i / 2 ^ j.toNat))
  | _, _ => none
theorem od_dShr (vx : Vw M x dx) (vy : Vw M y dy) (h : dShr dx dy = some z) (p : P z M) : OD X (binaryOp .RShift) x y M P := by
  unfold dShr at h
  split at h
  · obtain ⟨h1, rfl⟩ := chk_inv h; exact od_by rfl rfl vx vy (od_shr h1 p)
  · cases h
def dBand : D → D → Option D
  | .int i, .int j => some (.int (Builtin.bitAnd i j))
  | _, _ => none
theorem od_dBand (vx : Vw M x dx) (vy : Vw M y dy) (h : dBand dx dy = some z) (p : P z M) : OD X (binaryOp .BitAnd) x y M P := by
  unfold dBand at h
  split at h
  · cases h; exact od_by rfl rfl vx vy (od_and p)
  · cases h
def dBor : D → D → Option D
  | .int i, .int j => some (.int (Builtin.bitOr i j))
  | _, _ => none
def dBxor : D → D → Option D
  | .int i, .int j => some (.int (Builtin.bitXor i j))
  | _, _ => none
def dNeg : D → Option D
  | .int i => some (.int (-i))
  | _ => none
theorem ex_dNeg (h : EX X J a ρ M fun x M1 => ∃ dx z, Vw M1 x dx ∧ dNeg dx = some z ∧ P z M1) : EX X J (.UnaryOp .USub a pos) ρ M P :=
  ex_of (pe_un un_neg pe_any) fun F σ H Q st k => h.go st fun d v M1 F1 H1 p e1 o1 r1 => by
    obtain ⟨dx, z, w, g, p⟩ := p
    unfold dNeg at g
    split at g
    · cases g
      have r2 := w.rp rfl o1 r1
      cases r2
      exact ⟨_, rfl, k _ _ _ _ _ p e1 o1 (.int _)⟩
    · cases g
def dInv : D → Option D
  | .int i => some (.int (Builtin.bitNot i))
  | _ => none
def cLt : D → D → Option Bool
  | .int i, .int j => some (decide (i < j))
  | _, _ => none
def cLe : D → D → Option Bool
  | .int i, .int j => some (decide (i ≤ j))
  | _, _ => none
def cGt : D → D → Option Bool
  | .int i, .int j => some (decide (j < i))
  | _, _ => none
def cGe : D → D → Option Bool
  | .int i, .int j => some (decide (j ≤ i))
  | _, _ => none
theorem od_cLt (vx : Vw M x dx) (vy : Vw M y dy) (h : cLt dx dy = some t) (p : P (.bl t) M) : OD X (compareOp .Lt) x y M P := by
  unfold cLt at h
  split at h
  · cases h; exact od_by rfl rfl vx vy (od_lt p)
  · cases h
theorem od_cGt (vx : Vw M x dx) (vy : Vw M y dy) (h : cGt dx dy = some t) (p : P (.bl t) M) : OD X (compareOp .Gt) x y M P := by
  unfold cGt at h
  split at h
  · cases h; exact od_by rfl rfl vx vy (od_gt p)
  · cases h
theorem od_cGe (vx : Vw M x dx) (vy : Vw M y dy) (h : cGe dx dy = some t) (p : P (.bl t) M) : OD X (compareOp .GtE) x y M P := by
  unfold cGe at h
  split at h
  · cases h; exact od_by rfl rfl vx vy (od_ge p)
  · cases h
/-- == of data; a list that changes against data by its content -/
def isLst : D → Bool
  | .lst _ => true
  | _ => false
/-- lists of ints of any size against [] -/
def intsB : List D → Bool
  | [] => true
  | .int _ :: ds => intsB ds
  | _ => false
def nilB : D → D → Bool
  | .lst ds, .lst [] => intsB ds
  | _, _ => false
def empB : D → Bool
  | .lst ds => ds.isEmpty
  | _ => false
theorem intsB_eq : ∀ {ds : List D}, intsB ds = true → ∃ ns : List Int, ds = ns.map D.int
  | [], _ => ⟨[], rfl⟩
  | .int i :: ds, h => by
    obtain ⟨ns, e⟩ := intsB_eq (ds := ds) h
    exact ⟨i :: ns, by rw [e]; rfl⟩
theorem intsB_map : ∀ ns : List Int, intsB (ns.map D.int) = true
  | [] => rfl
  | n :: ns => intsB_map ns
/-- lists of unlike lengths; a tuple against the empty one -/
def lenB : D → D → Bool
  | .lst ds, .lst es => ds.length != es.length
  | .tup (_ :: _), .tup [] => true
  | _, _ => false
def strsL : D → Option (List Str)
  | .lst ds => ds.mapM fun d => match d with
    | .str z => some z
    | _ => none
  | _ => none
theorem strsL_eq {d : D} {xs : List Str} (h : strsL d = some xs) : d = .lst (xs.map D.str) := by
  have main : ∀ (ds : List D) (xs : List Str), (ds.mapM fun d => match d with | .str z => some z | _ => none) = some xs → ds = xs.map D.str := by
    intro ds
    induction ds with
    | nil => intro xs h; cases h; rfl
    | cons d ds ih =>
      intro xs h
      rw [List.mapM_cons] at h
      obtain ⟨z, h1, h2⟩ := Option.bind_eq_some_iff.mp h
      obtain ⟨zs, h3, h4⟩ := Option.bind_eq_some_iff.mp h2
      cases h4
      rw [List.map_cons, ← ih zs h3]
      cases d <;> first | (cases h1; rfl) | cases h1
  cases d <;> first
    | (rename_i ds; exact congrArg D.lst (main ds xs h))
    | cases h
theorem strsL_map {xs : List Str} : strsL (.lst (xs.map D.str)) = some xs := by
  show ((xs.map D.str).mapM fun d => match d with | .str z => some z | _ => none) = some xs
  induction xs with
  | nil => rfl
  | cons x xs ih => rw [List.map_cons, List.mapM_cons, ih]; rfl
theorem all_eq {xs ys : List Str} (hl : xs.length = ys.length) : ((List.range xs.length).all fun j => xs.getD j Str.empty == ys.getD j Str.empty) = decide (xs = ys) := by
  by_cases h : xs = ys
  · subst h
    rw [decide_eq_true rfl, List.all_eq_true]
    intro j _
    simp
  · rw [decide_eq_false h, List.all_eq_false]
    by_cases g : ∃ j, j < xs.length ∧ xs.getD j Str.empty ≠ ys.getD j Str.empty
    · obtain ⟨j, h1, h2⟩ := g
      exact ⟨j, List.mem_range.mpr h1, by simpa using h2⟩
    · refine absurd (List.ext_getElem hl fun j h1 h2 => ?_) h
      have e : xs.getD j Str.empty = ys.getD j Str.empty := Decidable.byContradiction fun q => g ⟨j, h1, q⟩
      rw [List.getD_eq_getElem?_getD, List.getD_eq_getElem?_getD, List.getElem?_eq_getElem h1, List.getElem?_eq_getElem h2] at e
      exact e
theorem vals_strT {xs : List Str} {us : List Value} (r : Vals (xs.map V.str) us) : us.length = xs.length ∧ ∀ j (h : j < us.length), ∃ t, us[j] = .str (xs.getD j Str.empty) t := by
  induction xs generalizing us with
  | nil => cases r; exact ⟨rfl, fun j h => absurd h (Nat.not_lt_zero _)⟩
  | cons x xs ih =>
    cases r with
    | cons r1 r2 =>
      obtain ⟨t, rfl⟩ := r1
      obtain ⟨h1, h2⟩ := ih r2
      refine ⟨by simp [h1], fun j h => ?_⟩
      cases j with
      | zero => exact ⟨t, rfl⟩
      | succ j =>
        obtain ⟨t2, e⟩ := h2 j (by simpa using h)
        exact ⟨t2, by simpa using e⟩
theorem op_strsEq (hu : X.A.units + 64 < cLine) : OpR X (compareOp .Eq) (fun x y H Q => ∃ (a b : Addr) (xs ys : List Str), x = .ref a ∧ y = .ref b ∧ H a = some (.lst (xs.map V.str)) ∧ H b = some (.lst (ys.map V.str)) ∧ xs.length = ys.length ∧ Q (.bl (decide (xs = ys))) H) := by
  intro pins s σ H x y v u Q I rx ry ⟨a, b, xs, ys, e1, e2, h1, h2, hn, q⟩
  subst e1 e2
  cases (show v = Value.ref a from rx)
  cases (show u = Value.ref b from ry)
  obtain ⟨us, r1, p1, _⟩ := I.list (SqL.of h1)
  obtain ⟨ws, r2, p2, _⟩ := I.list (SqL.of h2)
  obtain ⟨l1, g1⟩ := vals_strT r1
  obtain ⟨l2, g2⟩ := vals_strT r2
  refine SeqAt.RcAt.lists (e := fun j => xs.getD j Str.empty == ys.getD j Str.empty) p1.isList p2.isList (by rw [List.size_toArray, List.size_toArray, l1, l2, hn]) (by omega) (fun j h3 h4 => ?_) _ _ _ _ ?_
  · obtain ⟨t1, e1⟩ := g1 j (by simpa using h3)
    obtain ⟨t2, e2⟩ := g2 j (by simpa using h4)
    rw [show us.toArray[j] = us[j]'(by simpa using h3) from by simp, show ws.toArray[j] = ws[j]'(by simpa using h4) from by simp, e1, e2]
    exact SeqAt.EqAt.str_str _ _ _ _
  · rw [List.size_toArray, l1, all_eq hn]
    exact ⟨.bl _, H, I, rfl, q⟩
theorem op_strsNe (hu : X.A.units + 64 < cLine) : OpR X (compareOp .NotEq) (fun x y H Q => ∃ (a b : Addr) (xs ys : List Str), x = .ref a ∧ y = .ref b ∧ H a = some (.lst (xs.map V.str)) ∧ H b = some (.lst (ys.map V.str)) ∧ xs.length = ys.length ∧ Q (.bl (!decide (xs = ys))) H) := by
  intro pins s σ H x y v u Q I rx ry ⟨a, b, xs, ys, e1, e2, h1, h2, hn, q⟩
  subst e1 e2
  cases (show v = Value.ref a from rx)
  cases (show u = Value.ref b from ry)
  obtain ⟨us, r1, p1, _⟩ := I.list (SqL.of h1)
  obtain ⟨ws, r2, p2, _⟩ := I.list (SqL.of h2)
  obtain ⟨l1, g1⟩ := vals_strT r1
  obtain ⟨l2, g2⟩ := vals_strT r2
  refine SeqAt.RcNeAt.lists (e := fun j => xs.getD j Str.empty == ys.getD j Str.empty) p1.isList p2.isList (by rw [List.size_toArray, List.size_toArray, l1, l2, hn]) (by omega) (fun j h3 h4 => ?_) _ _ _ _ ?_
  · obtain ⟨t1, e1⟩ := g1 j (by simpa using h3)
    obtain ⟨t2, e2⟩ := g2 j (by simpa using h4)
    rw [show us.toArray[j] = us[j]'(by simpa using h3) from by simp, show ws.toArray[j] = ws[j]'(by simpa using h4) from by simp, e1, e2]
    exact SeqAt.EqAt.str_str _ _ _ _
  · rw [List.size_toArray, l1, all_eq hn]
    exact ⟨.bl _, H, I, rfl, q⟩
def cEq (a b : D) : Option Bool :=
  if sc a b = true then some (sceq a b) else if nilB a b = true then some (empB a) else match chk (good a ∧ good b ∧ dep a ≤ 50 ∧ dep b ≤ 50) (eqD a b) with
    | some t => some t
    | none => if lenB a b = true then some false else match strsL a, strsL b with
      | some xs, some ys => some (decide (xs = ys))
      | _, _ => none
theorem op_lenEq (hu : X.A.units + 64 < cLine) : OpR X (compareOp .Eq) (fun x y H Q => ∃ a b xs ys, x = .ref a ∧ y = .ref b ∧ H a = some (.lst xs) ∧ H b = some (.lst ys) ∧ xs.length ≠ ys.length ∧ Q (.bl false) H) := by
  intro pins s σ H x y v u Q I rx ry ⟨a, b, xs, ys, e1, e2, h1, h2, hn, q⟩
  subst e1 e2
  cases (show v = Value.ref a from rx)
  cases (show u = Value.ref b from ry)
  obtain ⟨us, r1, p1, _⟩ := I.list (SqL.of h1)
  obtain ⟨ws, r2, p2, _⟩ := I.list (SqL.of h2)
  refine SeqAt.RcAt.lists_lengths p1.isList p2.isList ?_ (by omega) _ _ _ _ ⟨.bl false, H, I, rfl, q⟩
  rw [List.size_toArray, List.size_toArray, ← r1.length, ← r2.length]
  simpa using hn
theorem op_lenNe (hu : X.A.units + 64 < cLine) : OpR X (compareOp .NotEq) (fun x y H Q => ∃ a b xs ys, x = .ref a ∧ y = .ref b ∧ H a = some (.lst xs) ∧ H b = some (.lst ys) ∧ xs.length ≠ ys.length ∧ Q (.bl true) H) := by
  intro pins s σ H x y v u Q I rx ry ⟨a, b, xs, ys, e1, e2, h1, h2, hn, q⟩
  subst e1 e2
  cases (show v = Value.ref a from rx)
  cases (show u = Value.ref b from ry)
  obtain ⟨us, r1, p1, _⟩ := I.list (SqL.of h1)
  obtain ⟨ws, r2, p2, _⟩ := I.list (SqL.of h2)
  refine SeqAt.RcNeAt.lists_lengths p1.isList p2.isList ?_ (by omega) _ _ _ _ ⟨.bl true, H, I, rfl, q⟩
  rw [List.size_toArray, List.size_toArray, ← r1.length, ← r2.length]
  simpa using hn
theorem op_tupNilEq (hu : X.A.units + 64 < cLine) : OpR X (compareOp .Eq) (fun x y H Q => ∃ a b xs, x = .ref a ∧ y = .ref b ∧ SqT X.K H a xs ∧ SqT X.K H b [] ∧ xs ≠ [] ∧ Q (.bl false) H) := by
  intro pins s σ H x y v u Q I rx ry ⟨a, b, xs, e1, e2, h1, h2, hn, q⟩
  subst e1 e2
  cases (show v = Value.ref a from rx)
  cases (show u = Value.ref b from ry)
  obtain ⟨us, r1, p1, _⟩ := I.tuple h1
  obtain ⟨ws, r2, p2, _⟩ := I.tuple h2
  cases r2
  have hl := r1.length
  have hne : us.length ≠ 0 := fun z => hn (List.eq_nil_of_length_eq_zero (by omega))
  have key := SeqAt.RcAt.tuples (A := X.A) (e := fun _ => true) (show s.heap.IsTuple a us.toArray from p1) (show s.heap.IsTuple b ([] : List Value).toArray from p2) (by omega) (fun j h1 h2 => absurd h2 (by simp))
  rw [show ((List.range (min us.toArray.size ([] : List Value).toArray.size)).all (fun _ => true) && us.toArray.size == ([] : List Value).toArray.size) = false by simp; exact fun z => hne (by rw [z]; rfl)] at key
  exact key _ _ _ _ ⟨.bl false, H, I, rfl, q⟩
theorem op_tupNilNe (hu : X.A.units + 64 < cLine) : OpR X (compareOp .NotEq) (fun x y H Q => ∃ a b xs, x = .ref a ∧ y = .ref b ∧ SqT X.K H a xs ∧ SqT X.K H b [] ∧ xs ≠ [] ∧ Q (.bl true) H) := by
  intro pins s σ H x y v u Q I rx ry ⟨a, b, xs, e1, e2, h1, h2, hn, q⟩
  subst e1 e2
  cases (show v = Value.ref a from rx)
  cases (show u = Value.ref b from ry)
  obtain ⟨us, r1, p1, _⟩ := I.tuple h1
  obtain ⟨ws, r2, p2, _⟩ := I.tuple h2
  cases r2
  have hl := r1.length
  have hne : us.length ≠ 0 := fun z => hn (List.eq_nil_of_length_eq_zero (by omega))
  have key := SeqAt.RcNeAt.tuples (A := X.A) (e := fun _ => true) (show s.heap.IsTuple a us.toArray from p1) (show s.heap.IsTuple b ([] : List Value).toArray from p2) (by omega) (fun j h1 h2 => absurd h2 (by simp))
  rw [show (!((List.range (min us.toArray.size ([] : List Value).toArray.size)).all (fun _ => true) && us.toArray.size == ([] : List Value).toArray.size)) = true by simp; exact fun z => hne (by rw [z]; rfl)] at key
  exact key _ _ _ _ ⟨.bl true, H, I, rfl, q⟩
theorem tupnil_at {v w : V} {d : D} {ds : List D} (vx : Vw M x (.tup (d :: ds))) (vy : Vw M y (.tup [])) (o : Ok K F M H) (rx : Rp K F v x) (ry : Rp K F w y) :
    ∃ a b xs, v = .ref a ∧ w = .ref b ∧ SqT K H a xs ∧ SqT K H b [] ∧ xs ≠ [] := by
  cases vx.rp rfl o rx with
  | tup h1 k1 =>
    cases vy.rp rfl o ry with
    | tup h2 k2 =>
      cases k2
      exact ⟨_, _, _, rfl, rfl, same_t o.ex h1, same_t o.ex h2, fun z => by rw [z] at k1; cases k1⟩
theorem cEq_inv {a b : D} {t : Bool} (h : (match chk (good a ∧ good b ∧ dep a ≤ 50 ∧ dep b ≤ 50) (eqD a b) with
    | some t => some t
    | none => if lenB a b = true then some false else match strsL a, strsL b with
      | some xs, some ys => some (decide (xs = ys))
      | _, _ => none) = some t) : ((good a ∧ good b ∧ dep a ≤ 50 ∧ dep b ≤ 50) ∧ t = eqD a b) ∨ (t = false ∧ ((∃ ds es, a = .lst ds ∧ b = .lst es ∧ ds.length ≠ es.length) ∨ ∃ d ds, a = .tup (d :: ds) ∧ b = .tup [])) ∨
      ∃ xs ys : List Str, a = .lst (xs.map D.str) ∧ b = .lst (ys.map D.str) ∧ xs.length = ys.length ∧ t = decide (xs = ys) := by
  split at h
  · rename_i t' e
    cases h
    obtain ⟨g, e⟩ := chk_inv e
    exact .inl ⟨g, by rw [e]⟩
  · split at h
    · rename_i hl
      cases h
      refine .inr (.inl ⟨rfl, ?_⟩)
      unfold lenB at hl
      split at hl
      · exact .inl ⟨_, _, rfl, rfl, by simpa using hl⟩
      · exact .inr ⟨_, _, rfl, rfl⟩
      · cases hl
    · rename_i hl
      split at h
      · rename_i xs ys h1 h2
        cases h
        have e1 := strsL_eq h1
        have e2 := strsL_eq h2
        subst e1 e2
        refine .inr (.inr ⟨xs, ys, rfl, rfl, ?_, rfl⟩)
        simpa [lenB] using hl
      · cases h
theorem strs_at {v w : V} {xs ys : List Str} (vx : Vw M x (.lst (xs.map D.str))) (vy : Vw M y (.lst (ys.map D.str))) (o : Ok K F M H) (rx : Rp K F v x) (ry : Rp K F w y) :
    ∃ a b, v = .ref a ∧ w = .ref b ∧ H a = some (.lst (xs.map V.str)) ∧ H b = some (.lst (ys.map V.str)) := by
  obtain ⟨q, us, rfl, h1, r1⟩ := vx.sl.get o rx
  obtain ⟨q2, ws, rfl, h2, r2⟩ := vy.sl.get o ry
  rw [Rps.strs r1] at h1
  rw [Rps.strs r2] at h2
  exact ⟨q, q2, rfl, rfl, h1, h2⟩
theorem lenat_v {v w : V} {ds es : List D} (vx : Vw M x (.lst ds)) (vy : Vw M y (.lst es)) (o : Ok K F M H) (rx : Rp K F v x) (ry : Rp K F w y) (hn : ds.length ≠ es.length) :
    ∃ a b xs ys, v = .ref a ∧ w = .ref b ∧ H a = some (.lst xs) ∧ H b = some (.lst ys) ∧ xs.length ≠ ys.length := by
  obtain ⟨q, xs, rfl, h1, r1⟩ := vx.sl.get o rx
  obtain ⟨q2, ys, rfl, h2, r2⟩ := vy.sl.get o ry
  exact ⟨q, q2, xs, ys, rfl, rfl, h1, h2, by rw [r1.length, r2.length]; exact hn⟩
theorem nil_dp {v w : V} (h : nilB dx dy = true) (vx : Vw M x dx) (vy : Vw M y dy) (o : Ok K F M H) (rx : Rp K F v x) (ry : Rp K F w y) :
    ∃ z1, Dp K H v z1 ∧ Dp K H w (.list []) ∧ SeqAt.shaped z1 = true ∧ SeqAt.shaped (.list []) = true ∧ PyData.eqv z1 (.list []) = empB dx := by
  unfold nilB at h
  split at h
  · obtain ⟨ns, rfl⟩ := intsB_eq h
    obtain ⟨q, xs, rfl, h1, r1⟩ := vx.sl.get o rx
    obtain ⟨q2, ys, rfl, h2, r2⟩ := vy.sl.get o ry
    have e2 : ys = [] := by cases r2; rfl
    subst e2
    refine ⟨.list (ns.map PyData.int), .lst (SqL.of h1) (r1.dps o.ex (pyds_ints ns)), .lst (SqL.of h2) .nil, shaped_ints ns, shaped_ints [], ?_⟩
    cases ns with
    | nil => simp [PyData.eqv, PyData.eqvAll, empB]
    | cons n ns => simp [PyData.eqv, PyData.eqvAll, empB]
  · cases h
theorem sc_imm (h : sc dx dy = true) : imm dx = true ∧ imm dy = true := by
  cases dx <;> cases dy <;> first | exact ⟨rfl, rfl⟩ | cases h
theorem Vw.dp {v : V} (w : Vw M x dx) (g : good dx) (o : Ok K F M H) (r : Rp K F v x) : Dp K H v (pyd dx) := by
  cases w with
  | id => exact r.dp o.ex (good_py g)
  | ad h hf =>
    obtain ⟨_, hm⟩ := o.mt _ _ h
    cases dx with
    | lst ds =>
      obtain ⟨xs, h1, h2⟩ := hm
      cases r
      rw [pyd]
      exact .lst (SqL.of h1) (h2.dps o.ex (goods_py (by simpa [good] using g)))
    | _ => first | exact hm.elim | exact g.elim
theorem od_cEq (hu : X.A.units + 64 < cLine) (vx : Vw M x dx) (vy : Vw M y dy) (h : cEq dx dy = some t) (p : P (.bl t) M) : OD X (compareOp .Eq) x y M P := by
  unfold cEq at h
  split at h
  · rename_i hs
    cases h
    exact od_by (sc_imm hs).1 (sc_imm hs).2 vx vy (od_eq hs p)
  split at h
  · rename_i hs
    cases h
    refine ⟨_, op_eqD hu, fun F H v u Q o rx ry k => ?_⟩
    obtain ⟨z1, g1, g2, s1, s2, e⟩ := nil_dp hs vx vy o rx ry
    exact ⟨_, _, g1, g2, s1, s2, by rw [e]; exact k.here p o (.bl _)⟩
  rcases cEq_inv h with ⟨⟨g1, g2, d1, d2⟩, rfl⟩ | ⟨rfl, ⟨ds, es, rfl, rfl, hn⟩ | ⟨d, ds, rfl, rfl⟩⟩ | ⟨xs, ys, rfl, rfl, hn, rfl⟩
  rotate_left
  rotate_left
  rotate_left
  · refine ⟨_, op_strsEq hu, fun F H v u Q o rx ry k => ?_⟩
    obtain ⟨a, b, e1, e2, h1, h2⟩ := strs_at vx vy o rx ry
    exact ⟨a, b, xs, ys, e1, e2, h1, h2, hn, k.here p o (.bl _)⟩
  rotate_left
  · refine ⟨_, op_lenEq hu, fun F H v u Q o rx ry k => ?_⟩
    obtain ⟨a, b, xs, ys, e1, e2, h1, h2, h3⟩ := lenat_v vx vy o rx ry hn
    exact ⟨a, b, xs, ys, e1, e2, h1, h2, h3, k.here p o (.bl _)⟩
  · refine ⟨_, op_tupNilEq hu, fun F H v u Q o rx ry k => ?_⟩
    obtain ⟨a, b, xs, e1, e2, h1, h2, h3⟩ := tupnil_at vx vy o rx ry
    exact ⟨a, b, xs, e1, e2, h1, h2, h3, k.here p o (.bl _)⟩
  · exact ⟨_, op_eqD hu, fun F H v u Q o rx ry k => ⟨_, _, vx.dp g1 o rx, vy.dp g2 o ry, shaped_good g1 d1, shaped_good g2 d2, k.here p o (.bl _)⟩⟩
def cNe (a b : D) : Option Bool := (cEq a b).map (!·)
theorem od_cNe (hu : X.A.units + 64 < cLine) (vx : Vw M x dx) (vy : Vw M y dy) (h : cNe dx dy = some t) (p : P (.bl t) M) : OD X (compareOp .NotEq) x y M P := by
  unfold cNe at h
  obtain ⟨t2, h', e'⟩ := Option.map_eq_some_iff.mp h
  subst e'
  clear h
  have h := h'
  unfold cEq at h
  split at h
  · rename_i hs
    cases h
    exact od_by (sc_imm hs).1 (sc_imm hs).2 vx vy (od_ne hs p)
  split at h
  · rename_i hs
    cases h
    refine ⟨_, op_neD hu, fun F H v u Q o rx ry k => ?_⟩
    obtain ⟨z1, g1, g2, s1, s2, e⟩ := nil_dp hs vx vy o rx ry
    exact ⟨_, _, g1, g2, s1, s2, by rw [e]; exact k.here p o (.bl _)⟩
  rcases cEq_inv h with ⟨⟨g1, g2, d1, d2⟩, rfl⟩ | ⟨rfl, ⟨ds, es, rfl, rfl, hn⟩ | ⟨d, ds, rfl, rfl⟩⟩ | ⟨xs, ys, rfl, rfl, hn, rfl⟩
  rotate_left
  rotate_left
  rotate_left
  · refine ⟨_, op_strsNe hu, fun F H v u Q o rx ry k => ?_⟩
    obtain ⟨a, b, e1, e2, h1, h2⟩ := strs_at vx vy o rx ry
    exact ⟨a, b, xs, ys, e1, e2, h1, h2, hn, k.here p o (.bl _)⟩
  rotate_left
  · refine ⟨_, op_lenNe hu, fun F H v u Q o rx ry k => ?_⟩
    obtain ⟨a, b, xs, ys, e1, e2, h1, h2, h3⟩ := lenat_v vx vy o rx ry hn
    exact ⟨a, b, xs, ys, e1, e2, h1, h2, h3, k.here p o (.bl _)⟩
  · refine ⟨_, op_tupNilNe hu, fun F H v u Q o rx ry k => ?_⟩
    obtain ⟨a, b, xs, e1, e2, h1, h2, h3⟩ := tupnil_at vx vy o rx ry
    exact ⟨a, b, xs, e1, e2, h1, h2, h3, k.here p o (.bl _)⟩
  · exact ⟨_, op_neD hu, fun F H v u Q o rx ry k => ⟨_, _, vx.dp g1 o rx, vy.dp g2 o ry, shaped_good g1 d1, shaped_good g2 d2, k.here p o (.bl _)⟩⟩
/-- is, is not: with None; of bools -/
def isNonD : D → Option Bool
  | .non => some true
  | .int _ => some false
  | .bl _ => some false
  | .str _ => some false
  | .tup _ => some false
  | .lst _ => some false
  | .ins _ _ => some false
  | .dct _ => some false
  | .exn _ _ => some false
  | _ => none
def cIs : D → D → Option Bool
  | .bl a, .bl b => some (decide (a = b))
  | x, .non => isNonD x
  | _, _ => none
def cIsnt (a b : D) : Option Bool := (cIs a b).map (!·)
/-- flat data as values -/
def flD : D → Option V
  | .non => some .non
  | .bl b => some (.bl b)
  | .int i => some (.int i)
  | .str z => some (.str z)
  | _ => none
def flDs : List D → Option (List V)
  | [] => some []
  | d :: ds => (flD d).bind fun v => (flDs ds).map fun vs => v :: vs
theorem flDs_ints : ∀ ns : List Int, flDs (ns.map D.int) = some (ns.map V.int)
  | [] => rfl
  | n :: ns => by rw [List.map_cons, flDs, flDs_ints ns]; rfl
def itemsD : D → Option (List D)
  | .lst ds => some ds
  | .tup ds => some ds
  | _ => none
theorem items_eq {d : D} {ds : List D} (h : itemsD d = some ds) : d = .lst ds ∨ d = .tup ds := by
  cases d <;> cases h
  · exact .inr rfl
  · exact .inl rfl
/-- x in c: flat x among flat items; a sign in a text; a key in a dict -/
def cIn (a c : D) : Option Bool := match a, c with
  | .str y, .str z => match y.cps.toList with
    | [n] => some (decide (n ∈ z.cps.toList))
    | _ => none
  | a, c => (flD a).bind fun v => (itemsD c).bind fun ds => (flDs ds).bind fun vs => some (inV v vs)
def cNin (a c : D) : Option Bool := (cIn a c).map (!·)
def dTru : D → Option Bool
  | .non => some false
  | .bl b => some b
  | .int i => some (i != 0)
  | .str y => chk (y.length ≤ 1000000) ((y.length : Int) != 0)
  | .lst ds => some (!ds.isEmpty)
  | .tup ds => some (!ds.isEmpty)
  | _ => none
theorem rps_empty {xs : List V} {ds : List D} (r : Rps K F xs ds) : xs.isEmpty = ds.isEmpty := by cases r <;> rfl
theorem Vw.tru {v : V} (w : Vw M x dx) (h : dTru dx = some t) (o : Ok K F M H) (r : Rp K F v x) : TruV K v H t := by
  unfold dTru at h
  split at h
  · have r := w.rp rfl o r; cases r; cases h; rfl
  · have r := w.rp rfl o r; cases r; cases h; rfl
  · have r := w.rp rfl o r; cases r; cases h; rfl
  · have r := w.rp rfl o r; cases r
    obtain ⟨h1, rfl⟩ := chk_inv h
    exact ⟨by rw [sizeLine_eq]; omega, rfl⟩
  · cases h
    obtain ⟨q, xs, rfl, h1, r1⟩ := w.sl.get o r
    exact .inl ⟨xs, SqL.of h1, by rw [rps_empty r1]⟩
  · cases h
    have r := w.rp rfl o r
    cases r with
    | tup h1 r1 => exact .inr (.inl ⟨_, same_t o.ex h1, by rw [rps_empty r1]⟩)
  · cases h
theorem tx_tru {PB : Bool → Mem → Prop} (h : EX X J e ρ M fun x M1 => ∃ dx t, Vw M1 x dx ∧ dTru dx = some t ∧ PB t M1) (he : ∀ whole, isTrue e X.env whole = (do let v ← whole; standAt e.pos; holding [v] (truthy v)) := by intro _; rfl) : TX X J e ρ M PB :=
  tx_of (pt_truth pe_any he) fun F σ H Q st k => h.go st fun d v M1 F1 H1 p e1 o1 r1 => by
    obtain ⟨dx, t, w, g, p⟩ := p
    exact ⟨t, w.tru g o1 r1, k _ _ _ _ p e1 o1⟩
theorem ex_orT {rest : List Expr} (h : EX X J a ρ M fun x M1 => ∃ dx t, Vw M1 x dx ∧ dTru dx = some t ∧ (t = false → EX X J (.BoolOp .Or (b :: rest) pos) ρ M1 P) ∧ (t = true → P x M1)) : EX X J (.BoolOp .Or (a :: b :: rest) pos) ρ M P :=
  ex_of (pe_orT pe_any pe_any) fun F σ H Q st k => h.go st fun d v M1 F1 H1 p e1 o1 r1 => by
    obtain ⟨dx, t, w, g, p⟩ := p
    refine ⟨t, w.tru g o1 r1, ?_⟩
    cases t with
    | true => exact iteT (k _ _ _ _ _ (p.2 rfl) e1 o1 r1)
    | false => exact iteF ((p.1 rfl).go (st.to e1 o1) (k.to e1))
/-- what is known of the end is shown once -/
theorem ex_fix (v : D) (M1 : Mem) (h : EX X J e ρ M fun d M' => d = v ∧ M' = M1) (k : P v M1) : EX X J e ρ M P := h.imp fun d M' q => by rw [q.1, q.2]; exact k
theorem tx_fix {PB : Bool → Mem → Prop} (v : Bool) (M1 : Mem) (h : TX X J e ρ M fun d M' => d = v ∧ M' = M1) (k : PB v M1) : TX X J e ρ M PB := h.imp fun d M' q => by rw [q.1, q.2]; exact k
def dIx : D → D → Option D
  | .lst ds, .int i => atI ds i
  | .tup ds, .int i => atI ds i
  | .str z, .int i => (atI z.cps.toList i).bind fun n => chk (z.length ≤ 1000000) (.str ⟨#[n]⟩)
  | _, _ => none
theorem id_dIx (vx : Vw M x dx) (vy : Vw M y dy) (h : dIx dx dy = some z) (p : P z M) : ID X x y M P := by
  unfold dIx at h
  split at h
  · rename_i ds i
    obtain ⟨r, h1, h2⟩ := id_seq (X := X) vx.sq h p
    exact ⟨r, h1, fun F H v u Q o rx ry k => h2 F H v u Q o rx (vy.rp rfl o ry) k⟩
  · rename_i ds i
    obtain ⟨r, h1, h2⟩ := id_seq (X := X) (.tup : Sq M (.tup ds) ds) h p
    exact ⟨r, h1, fun F H v u Q o rx ry k => h2 F H v u Q o (vx.rp rfl o rx) (vy.rp rfl o ry) k⟩
  · obtain ⟨n, h1, h⟩ := Option.bind_eq_some_iff.mp h
    obtain ⟨h2, rfl⟩ := chk_inv h
    obtain ⟨r, g1, g2⟩ := id_str (X := X) h2 h1 p
    exact ⟨r, g1, fun F H v u Q o rx ry k => g2 F H v u Q o (vx.rp rfl o rx) (vy.rp rfl o ry) k⟩
  · cases h
/-- a slice's end -/
def dEnd : D → Option Int
  | .int i => some i
  | _ => none
theorem ox_d {PO' : Option Int → Mem → Prop} (h : EX X J e ρ M fun x M1 => ∃ dx i, Vw M1 x dx ∧ dEnd dx = some i ∧ PO' (some i) M1) : OX X J (some e) ρ M PO' := fun F σ H Q st k => ⟨_, po_some pe_any, h.go st fun d v M1 F1 H1 p e1 o1 r1 => by
  obtain ⟨dx, i, w, g, p⟩ := p
  unfold dEnd at g
  split at g
  · cases g
    have r2 := w.rp rfl o1 r1
    cases r2
    exact ⟨_, rfl, k _ _ _ _ p e1 o1⟩
  · cases g⟩
def dCut (d : D) (l u : Option Int) : Option D := match d, l, u with
  | .lst ds, l, u => some (.lst (cutD ds l u))
  | .tup ds, l, u => some (.tup (cutD ds l u))
  | .str z, l, u => chk (z.cps.toList.length ≤ 1000000) (.str (S (cutA z.cps.toList l u)))
  | .scr ns, none, some (.ofNat k) => some (.lst ((ns.take k).map D.int))
  | _, _, _ => none
theorem sd_by {l u : Option Int} (w : Vw M x dx) (hz : imm dx = true) (h : SD X dx l u M P) : SD X x l u M P := by
  obtain ⟨r, h1, h2⟩ := h
  exact ⟨r, h1, fun F H v Q o rx k => h2 F H v Q o (w.rp hz o rx) k⟩
theorem sd_dCut {l u : Option Int} (w : Vw M x dx) (h : dCut dx l u = some z) (p : P z M) : SD X x l u M P := by
  unfold dCut at h
  split at h
  · cases h; exact sd_list w.sl p
  · cases h; exact sd_by w rfl (sd_tupA p)
  · obtain ⟨h1, rfl⟩ := chk_inv h; exact sd_by w rfl (sd_str h1 p)
  · cases h; exact sd_by w rfl (sd_scr p)
  · cases h
theorem cd_by {f : Value} (w : Vw M x dx) (hz : imm dx = true) (h : CD X f [dx] M P) : CD X f [x] M P := by
  obtain ⟨r, h1, h2⟩ := h
  exact ⟨r, h1, fun F H vs Q o rs k => by
    cases rs with
    | cons r1 rs => exact h2 F H _ Q o (.cons (w.rp hz o r1) rs) k⟩
theorem cd_by2 {f : Value} (w : Vw M x dx) (hz : imm dx = true) (w2 : Vw M y dy) (hz2 : imm dy = true) (h : CD X f [dx, dy] M P) : CD X f [x, y] M P := by
  obtain ⟨r, h1, h2⟩ := h
  exact ⟨r, h1, fun F H vs Q o rs k => by
    cases rs with
    | cons r1 rs =>
      cases rs with
      | cons r2 rs => exact h2 F H _ Q o (.cons (w.rp hz o r1) (.cons (w2.rp hz2 o r2) rs)) k⟩
def dLen : D → Option D
  | .lst ds => some (.int (ds.length : Int))
  | .tup ds => some (.int (ds.length : Int))
  | .str z => chk (z.length ≤ 1000000) (.int (z.length : Int))
  | _ => none
theorem cd_dLen (w : Vw M x dx) (h : dLen dx = some z) (p : P z M) : CD X (.builtin "len") [x] M P := by
  unfold dLen at h
  split at h
  · cases h; exact cd_len w.sq p
  · cases h; exact cd_by w rfl (cd_len .tup p)
  · obtain ⟨h1, rfl⟩ := chk_inv h; exact cd_by w rfl (cd_lenS h1 p)
  · cases h
def dAbs : D → Option D
  | .int t => some (.int (if t < 0 then -t else t))
  | _ => none
theorem cd_dAbs (w : Vw M x dx) (h : dAbs dx = some z) (p : P z M) : CD X (.builtin "abs") [x] M P := by
  unfold dAbs at h
  split at h
  · cases h; exact cd_by w rfl (cd_abs p)
  · cases h
def dInt : D → Option D
  | .int t => some (.int t)
  | .bl t => some (.int (if t = true then 1 else 0))
  | .str a => (PySem.intText? a).bind fun n => chk (a.length ≤ 640) (.int n)
  | _ => none
theorem cd_intS {a : Str} {n : Int} (hn : PySem.intText? a = some n) (hl : a.length ≤ 640) (q : P (.int n) M) : CD X (.type "int") [.str a] M P :=
  ⟨_, call_int_str, fun F H vs Q o r k => by
    cases r with
    | cons h1 r =>
      cases r
      cases h1
      exact ⟨a, n, rfl, hn, hl, k.here q o (.int _)⟩⟩
theorem cd_dInt (w : Vw M x dx) (h : dInt dx = some z) (p : P z M) : CD X (.type "int") [x] M P := by
  unfold dInt at h
  split at h
  · cases h; exact cd_by w rfl (cd_intI p)
  · cases h; exact cd_by w rfl (cd_intB p)
  · obtain ⟨n, hn, h⟩ := Option.bind_eq_some_iff.mp h
    obtain ⟨hl, rfl⟩ := chk_inv h
    exact cd_by w rfl (cd_intS hn hl p)
  · cases h
def dStr : D → Option D
  | .int i => chk (i.natAbs.log2 < 1920) (.str (toString i))
  | _ => none
/-- list(x), tuple(x) -/
def lList : D → Option (List D)
  | .lst ds => some ds
  | .tup ds => some ds
  | .str z => chk (z.cps.toList.length ≤ 1000000) (signs z)
  | _ => none
theorem cd_lList {l : List D} (hc : X.calm = true) (w : Vw M x dx) (h : lList dx = some l) (p : P (.lst l) M) : CD X (.type "list") [x] M P := by
  unfold lList at h
  split at h
  · cases h; exact cd_list w.sq p
  · cases h; exact cd_by w rfl (cd_list .tup p)
  · obtain ⟨h1, rfl⟩ := chk_inv h; exact cd_by w rfl (cd_listS hc h1 p)
  · cases h
def lListM : D → Option (List D)
  | .lst ds => some ds
  | .tup ds => some ds
  | _ => none
theorem cd_lTuple {l : List D} (hc : X.calm = true) (w : Vw M x dx) (h : lList dx = some l) (p : P (.tup l) M) : CD X (.type "tuple") [x] M P := by
  unfold lList at h
  split at h
  · cases h; exact cd_tuple w.sl p
  · cases h; exact cd_by w rfl (cd_tupleT p)
  · obtain ⟨h1, rfl⟩ := chk_inv h; exact cd_by w rfl (cd_tupleS hc h1 p)
  · cases h
/-- lists of ints, of bools -/
def intsD : List D → Option (List Int)
  | [] => some []
  | .int i :: ds => (intsD ds).map fun l => i :: l
  | _ => none
theorem ints_eq : ∀ {ds : List D} {ns : List Int}, intsD ds = some ns → ds = ns.map D.int
  | [], _, h => by cases h; rfl
  | .int i :: ds, _, h => by
    rw [intsD] at h
    obtain ⟨l, h1, rfl⟩ := Option.map_eq_some_iff.mp h
    rw [ints_eq h1]; rfl
theorem intsD_map : ∀ ns : List Int, intsD (ns.map D.int) = some ns
  | [] => rfl
  | n :: ns => by rw [List.map_cons, intsD, intsD_map ns]; rfl
def blsD : List D → Option (List Bool)
  | [] => some []
  | .bl i :: ds => (blsD ds).map fun l => i :: l
  | _ => none
theorem blsD_map : ∀ ns : List Bool, blsD (ns.map D.bl) = some ns
  | [] => rfl
  | n :: ns => by rw [List.map_cons, blsD, blsD_map ns]; rfl
def lstD : D → Option (List D)
  | .lst ds => some ds
  | _ => none
theorem lstD_eq {d : D} {ds : List D} (h : lstD d = some ds) : d = .lst ds := by cases d <;> cases h; rfl
def maxI : List Int → Int
  | [] => 0
  | n :: ns => ns.foldl max n
def minI : List Int → Int
  | [] => 0
  | n :: ns => ns.foldl min n
def dMax (d : D) : Option D := (lstD d).bind fun ds => (intsD ds).bind fun ns => chk (0 < ns.length) (.int (maxI ns))
def dMin (d : D) : Option D := (lstD d).bind fun ds => (intsD ds).bind fun ns => chk (0 < ns.length) (.int (minI ns))
def dSum (d : D) : Option D := (lstD d).bind fun ds => (intsD ds).bind fun ns => some (.int ns.sum)
def dAll (d : D) : Option D := (lstD d).bind fun ds => (blsD ds).bind fun ns => some (.bl (ns.all id))
def dAny (d : D) : Option D := (lstD d).bind fun ds => (blsD ds).bind fun ns => some (.bl (ns.any id))
def dMax2 : D → D → Option D
  | .int i, .int j => some (.int (if j > i then j else i))
  | _, _ => none
def dMin2 : D → D → Option D
  | .int i, .int j => some (.int (if j < i then j else i))
  | _, _ => none
theorem cd_dMax2 (hc : X.calm = true) (w : Vw M x dx) (w2 : Vw M y dy) (h : dMax2 dx dy = some z) (p : P z M) : CD X (.builtin "max") [x, y] M P := by
  unfold dMax2 at h
  split at h
  · cases h; exact cd_by2 w rfl w2 rfl (cd_max2 hc p)
  · cases h
/-- repr of data without dicts -/
def dRepr (d : D) : Option D := chk (good d ∧ wt d ≤ 16000000 ∧ dep d ≤ 50) (.str (txt d))
/-- isinstance with a built-in class -/
def dIsi (n : String) (d : D) : Option Bool := chk (plain d = true) (isi n d)
end
end
end DX
namespace ZMix
open PySem PySem.Spec L2 PyProof.Rows
def SeqK : Bool → Heap → Addr → Array Value → Prop
  | true, h, a, its => h.IsTuple a its
  | false, h, a, its => h.IsList a its
def WalkK : Bool → Heap → Addr → Addr → Nat → Prop
  | true, h, it, a, i => h.IsTupleIter it a i
  | false, h, it, a, i => h.IsListIter it a i
def SqK : Bool → PySem.W.Frag → Hp → Addr → List V → Prop
  | true, K, H, a, xs => SqT K H a xs
  | false, K, H, a, xs => SqL K H a xs
def objK : Bool → Addr → Obj
  | true, a => { cls := .type "tuple_iterator", data := .fields #[.ref a, .int 0 0] }
  | false, a => { cls := .type "list_iterator", data := .fields #[.ref a, .int 0 0] }
theorem walkK_at {t : Bool} {h h' : Heap} {it a : Addr} {i : Nat} (w : WalkK t h it a i) (k : ∀ o, h.get? it = some o → h'.get? it = some o) : WalkK t h' it a i := by
  cases t with
  | true => exact Heap.IsTupleIter.at w k
  | false => exact Heap.IsListIter.at w k
theorem walkK_o {t : Bool} {h : Heap} {it a : Addr} {i : Nat} (w : WalkK t h it a i) : ∃ o, h.get? it = some o ∧ ∃ f, o.data = .fields f := by
  cases t with
  | true => obtain ⟨o, h1, _, h2⟩ := w; exact ⟨o, h1, _, h2⟩
  | false => obtain ⟨o, h1, _, h2⟩ := w; exact ⟨o, h1, _, h2⟩
theorem walkK_new {t : Bool} {h : Heap} {it a : Addr} (g : h.get? it = some (objK t a)) : WalkK t h it a 0 := by
  cases t with
  | true => exact ⟨_, g, rfl, rfl⟩
  | false => exact ⟨_, g, rfl, rfl⟩
theorem drawsK (t : Bool) {prog : Program} {w : World} {A : Around} (hh : A.handled = none) (it a : Addr) (hne : a ≠ it) (its : Array Value) :
    Draws prog w A it [it, a] its.size (fun i v => its[i]? = some v) (fun i h => WalkK t h it a i ∧ SeqK t h a its) := by
  cases t with
  | true => exact Draws.tuple hh it a hne its
  | false => exact Draws.list hh it a hne its
theorem beginsK (t : Bool) (a : Addr) (its : Array Value) : Begins (.ref a) (objK t a) fun h => SeqK t h a its := by
  cases t with
  | true => exact begins_tuple a its
  | false => exact begins_list a its
theorem sqK_inv {t : Bool} {X : Cx} {pins : List (Addr × Obj)} {σ : L2.St} {H : Hp} {s : Shared} {a : Addr} {xs : List V} (I : Inv X pins σ H s) (q : SqK t X.K H a xs) :
    ∃ its : List Value, Vals xs its ∧ SeqK t s.heap a its.toArray ∧ a < s.heap.objs.size := by
  cases t with
  | true => obtain ⟨its, rv, p, _⟩ := I.tuple q; exact ⟨its, rv, p, p.lt⟩
  | false => obtain ⟨its, rv, p, _⟩ := I.list q; exact ⟨its, rv, p.isList, p.lt⟩
theorem sqK_inj {t : Bool} {X : Cx} {pins : List (Addr × Obj)} {σ : L2.St} {H : Hp} {s : Shared} {a : Addr} {xs ys : List V} (I : Inv X pins σ H s) (q : SqK t X.K H a xs) (q2 : SqK t X.K H a ys) : xs = ys := by
  cases t with
  | true => exact I.tuple_inj q q2
  | false => exact I.list_inj q q2
/-- both walked side by side, in new pairs -/
def ItM (t u : Bool) (K : PySem.W.Frag) (a b : Addr) : It :=
  ⟨fun i H => ∃ xs ys : List V, ∃ x y : V, SqK t K H a xs ∧ SqK u K H b ys ∧ xs[i]? = some x ∧ ys[i]? = some y,
   fun i H v H' => ∃ n : Addr, ∃ x y : V, v = .ref n ∧ H n = none ∧ H' = upd H n (.tup [x, y]) ∧ (∀ xs, SqK t K H a xs → xs[i]? = some x) ∧ (∀ ys, SqK u K H b ys → ys[i]? = some y),
   fun i H => ∃ xs ys : List V, SqK t K H a xs ∧ SqK u K H b ys ∧ i ≤ xs.length ∧ i ≤ ys.length ∧ (i = xs.length ∨ i = ys.length)⟩
structure Far (z TI TO i1 i2 a b : Addr) : Prop where
  s : ZipSep2 z TI TO i1 i2 [i1, a] [i2, b]
  a1 : a ≠ i1
  b1 : b ≠ i2
  i12 : i1 ≠ i2
theorem turnM {P : Program} {w : World} {K : PySem.W.Frag} {elts : List Expr} {kk : Nat} {tpos : Pos} (t u : Bool) {a b z TI TO i1 i2 : Addr} (D : Far z TI TO i1 i2 a b) :
    Turn P w K (.Tuple elts kk tpos) (ItM t u K a b) [z, TI, TO, i1, i2] z
      (fun i h => IsZip h z TI TO .none ∧ IsTupOf2 h TI (.ref i1) (.ref i2) ∧ (∃ x y, IsTupOf2 h TO x y) ∧ WalkK t h i1 a i ∧ WalkK u h i2 b i) where
  mem := by simp
  obj := fun i h st c hc => by
    obtain ⟨hz, hT, ⟨x, y, hO⟩, w1, w2⟩ := st
    obtain ⟨o1, e1, f1, d1⟩ := walkK_o w1
    obtain ⟨o2, e2, f2, d2⟩ := walkK_o w2
    rcases (show c = z ∨ c = TI ∨ c = TO ∨ c = i1 ∨ c = i2 by simpa using hc) with q | q | q | q | q <;> rw [q]
    · exact ⟨_, hz, fun v g => nomatch g⟩
    · exact ⟨_, hT, fun v g => nomatch g⟩
    · exact ⟨_, hO, fun v g => nomatch g⟩
    · exact ⟨o1, e1, fun v g => by rw [d1] at g; cases g⟩
    · exact ⟨o2, e2, fun v g => by rw [d2] at g; cases g⟩
  keep := fun i h h' st k => by
    obtain ⟨hz, hT, ⟨x, y, hO⟩, w1, w2⟩ := st
    exact ⟨k z (by simp) _ hz, k TI (by simp) _ hT, ⟨x, y, k TO (by simp) _ hO⟩, walkK_at w1 (k i1 (by simp)), walkK_at w2 (k i2 (by simp))⟩
  item := by
    intro X hP hw hK hc i pins s σ H E I hf st hg
    subst hP hw hK
    obtain ⟨hz, hT, ⟨x0, y0, hO⟩, w1, w2⟩ := st
    obtain ⟨xs, ys, x, y, hqx, hqy, hx, hy⟩ := hg
    obtain ⟨its, rv, p, _⟩ := sqK_inv I hqx
    obtain ⟨jts, rw2, p2, _⟩ := sqK_inv I hqy
    obtain ⟨v, hv, rv1⟩ := rv.get hx
    obtain ⟨v2, hv2, rv2⟩ := rw2.get hy
    have hzl : z < s.heap.objs.size := Heap.lt_size hz
    have n1 : i < its.toArray.size := by simpa using (List.getElem?_eq_some_iff.mp hv).1
    have n2 : i < jts.toArray.size := by simpa using (List.getElem?_eq_some_iff.mp hv2).1
    have hh : X.A.in1.handled = none := I.ok.hd hc
    refine wpAny_pyNext_zipD2_item D.s (drawsK t (prog := X.prog) (w := X.w) hh i1 a D.a1 its.toArray) (drawsK u hh i2 b D.b1 jts.toArray) hz hT hO ⟨w1, p⟩ ⟨w2, p2⟩ n1 n2 fun y1 y2 h' tk g1 g2 z' O' k1 k2 hN hsz hk => ?_
    obtain rfl : v = y1 := Option.some.inj ((by simpa using hv : its.toArray[i]? = some v).symm.trans g1)
    obtain rfl : v2 = y2 := Option.some.inj ((by simpa using hv2 : jts.toArray[i]? = some v2).symm.trans g2)
    refine ⟨_, rfl, wpAny_letOwnedTupleGo_zip (s := { s with heap := h', toks := tk }) z' fun h'' z'' sb => ?_⟩
    have hN2 : h''.get? s.heap.objs.size = some { cls := .type "tuple", data := .seq #[v, v2] } := (sb.2 _ (Nat.ne_of_gt hzl)).trans hN
    have new : ObjOk X.prog X.w (upd H s.heap.objs.size (.tup [x, y])) h'' s.heap.objs.size (.tup [x, y]) :=
      ⟨by show 2 ≤ sizeLine; decide, [v, v2], .cons rv1 (.cons rv2 .nil), ⟨_, hN2, rfl, _, rfl⟩⟩
    have out : ∀ c o, c ∉ [z, TI, TO, i1, i2] → s.heap.get? c = some o → h''.get? c = some o := fun c o hb q => by
      have hb' : c ≠ z ∧ c ≠ TI ∧ c ≠ TO ∧ c ≠ i1 ∧ c ≠ i2 := by simpa using hb
      exact (sb.2 c hb'.1).trans (hk c o hb'.1 hb'.2.2.1 hb'.2.2.2.1 hb'.2.2.2.2 q)
    have I1 : Inv X pins σ (upd H s.heap.objs.size (.tup [x, y])) { s with heap := h'', toks := tk } :=
      I.turnedNew (ch := [z, TI, TO, i1, i2]) out hf (Nat.le_refl _) new
    refine ⟨.ref s.heap.objs.size, _, I1, rfl, ⟨_, x, y, rfl, I.hok.fresh (Nat.le_refl _), rfl, fun l hl => (sqK_inj I hl hqx).symm ▸ hx, fun l hl => (sqK_inj I hl hqy).symm ▸ hy⟩, ⟨z'', ?_, ⟨v, v2, ?_⟩, ?_, ?_⟩, fun c hcm => ?_⟩
    · exact (sb.2 _ D.s.TIz).trans (hk _ _ D.s.TIz D.s.TITO D.s.TIi1 D.s.TIi2 hT)
    · exact (sb.2 _ D.s.TOz).trans O'
    · exact walkK_at k1.1 fun o q => (sb.2 _ D.s.zi1.symm).trans q
    · exact walkK_at k2.1 fun o q => (sb.2 _ D.s.zi2.symm).trans q
    · have hlt : c < s.heap.objs.size := by
        obtain ⟨_, e1, _⟩ := walkK_o w1
        obtain ⟨_, e2, _⟩ := walkK_o w2
        rcases (show c = z ∨ c = TI ∨ c = TO ∨ c = i1 ∨ c = i2 by simpa using hcm) with q | q | q | q | q <;> rw [q]
        · exact hzl
        · exact Heap.lt_size hT
        · exact Heap.lt_size hO
        · exact Heap.lt_size e1
        · exact Heap.lt_size e2
      rw [upd_ne (Nat.ne_of_lt hlt)]
      exact (hf c hcm).1
  done := by
    intro X hP hw hK hc i pins s σ H E I hf st hg
    subst hP hw hK
    obtain ⟨hz, hT, ⟨x0, y0, hO⟩, w1, w2⟩ := st
    obtain ⟨xs, ys, hqx, hqy, m1, m2, m3⟩ := hg
    obtain ⟨its, rv, p, _⟩ := sqK_inv I hqx
    obtain ⟨jts, rw2, p2, _⟩ := sqK_inv I hqy
    have hl1 := rv.length
    have hl2 := rw2.length
    have hh : X.A.in1.handled = none := I.ok.hd hc
    refine wpAny_pyNext_zipD2_end D.s (drawsK t (prog := X.prog) (w := X.w) hh i1 a D.a1 its.toArray) (drawsK u hh i2 b D.b1 jts.toArray) hz hT hO ⟨w1, p⟩ ⟨w2, p2⟩ (by simp; omega) (by simp; omega) (by simp; omega) fun h' tk hk => ⟨rfl, I.turnedL (t' := tk) (ch := [z, TI, TO, i1, i2]) (fun c o hb q => ?_) hf⟩
    have hb' : c ≠ z ∧ c ≠ TI ∧ c ≠ TO ∧ c ≠ i1 ∧ c ≠ i2 := by simpa using hb
    exact hk c o hb'.1 hb'.2.2.1 hb'.2.2.2.1 hb'.2.2.2.2 q
  self := fun A i s Q E st h => wpAny_pyIter_zip st.1 h
def iZipM (t u : Bool) (K : PySem.W.Frag) (ta : TA) : TI := fun σ H R => ta σ H fun vs H1 => ∃ a b : Addr, ∃ xs ys : List V, vs = [.ref a, .ref b] ∧ SqK t K H1 a xs ∧ SqK u K H1 b ys ∧ R (ItM t u K a b) H1
theorem pi_zipM (t u : Bool) {X : Cx} {e1 e2 : Expr} {ta : TA} {p pos tpos : Pos} {elts : List Expr} {kk : Nat} (hg : Gl X "zip") (hm : X.mg "zip" = none) (ha : PA X [e1, e2] ta)
    (hs : starEach [e1, e2] X.env = (false, eval e1 X.env) :: starEach [e2] X.env := by rfl) (hpl : (backTo pos (starEach [e2] X.env)).any (·.1) = false := by rfl) :
    PI X (.Tuple elts kk tpos) (.Call (.Name "zip" p) [e1, e2] [] pos) (iZipM t u X.K ta) := by
  refine ⟨fun pins s σ H R I h => ?_⟩
  refine Call_ (ld_blt I hg hm boot_zip (PyProof.Rows.callWith_type1 (thn (ha.run pos pins s σ H _ I h) fun us s1 ⟨vs, H1, I1, r1, q1⟩ => ?_) hs hpl))
  obtain ⟨a, b, xs, ys, ex, hqx, hqy, q⟩ := q1
  subst ex
  cases r1 with
  | cons r rr =>
    cases rr with
    | cons r2 rr =>
      cases rr
      cases r
      cases r2
      obtain ⟨its, rv, g1, la⟩ := sqK_inv I1 hqx
      obtain ⟨jts, rw2, g2, lb⟩ := sqK_inv I1 hqy
      refine zip_begins2 (beginsK t a its.toArray) (beginsK u b jts.toArray) g1 g2 fun h' hz hT hO ho1 ho2 hsz hk => wpAny_pyIter_zip hz ?_
      have I2 : Inv X pins σ H1 { s1 with heap := h' } := I1.kept (t' := s1.toks) hk
      refine ⟨s1.heap.objs.size + 4, [s1.heap.objs.size + 4, s1.heap.objs.size + 2, s1.heap.objs.size + 3, s1.heap.objs.size, s1.heap.objs.size + 1], _, _, H1, rfl, I2,
        turnM t u (a := a) (b := b) (z := s1.heap.objs.size + 4) (TI := s1.heap.objs.size + 2) (TO := s1.heap.objs.size + 3) (i1 := s1.heap.objs.size) (i2 := s1.heap.objs.size + 1) ⟨?_, Nat.ne_of_lt la, Nat.ne_of_lt (Nat.lt_succ_of_lt lb), (Nat.succ_ne_self _).symm⟩, ⟨hz, hT, ⟨_, _, hO⟩, walkK_new ho1, walkK_new ho2⟩, fun c hcm => ?_, q⟩
      · have na : ∀ k : Nat, a ≠ s1.heap.objs.size + k := fun k => Nat.ne_of_lt (Nat.lt_of_lt_of_le la (Nat.le_add_right _ _))
        have nb : ∀ k : Nat, b ≠ s1.heap.objs.size + k := fun k => Nat.ne_of_lt (Nat.lt_of_lt_of_le lb (Nat.le_add_right _ _))
        have nb0 : b ≠ s1.heap.objs.size := nb 0
        have na0 : a ≠ s1.heap.objs.size := na 0
        constructor <;> simp [(na _).symm, (nb _).symm, nb0.symm, na0.symm, Addr]
      · have hle : s1.heap.objs.size ≤ c := by
          rcases (show c = s1.heap.objs.size + 4 ∨ c = s1.heap.objs.size + 2 ∨ c = s1.heap.objs.size + 3 ∨ c = s1.heap.objs.size ∨ c = s1.heap.objs.size + 1 by simpa using hcm) with g | g | g | g | g <;> rw [g] <;> first | exact Nat.le_add_right _ _ | exact Nat.le_refl _
        exact I1.fpOk hle (I1.hok.fresh hle)
end ZMix
namespace DX
open PySem PySem.Spec L2 ZMix
variable {X : Cx} {J : Gh} {M : Mem} {F : Hp} {K : PySem.W.Frag} {ρ : DEnv} {a b : Expr} {p pos : Pos}
theorem sqK_ex {t : Bool} {H : Hp} {q : Addr} {xs : List V} (e : Same F H) (h : SqK t K F q xs) : SqK t K H q xs := by
  cases t with
  | true => exact same_t e h
  | false => exact same_l e h
theorem wk_zipM (t u : Bool) {q r : Addr} {xs ys : List V} {ds es : List D} (h : SqK t K F q xs) (g : SqK u K F r ys) (hx : Rps K F xs ds) (hy : Rps K F ys es) : Wk K F (ItM t u K q r) (zipD ds es) := by
  have lx := hx.length
  have ly := hy.length
  refine ⟨fun i H hi s => ?_, fun H s => ⟨xs, ys, sqK_ex s h, sqK_ex s g, ?_⟩, fun i d H x H' F1 M hd s o y => ?_⟩
  · rw [zipD_len] at hi
    exact ⟨xs, ys, xs[i]'(by omega), ys[i]'(by omega), sqK_ex s h, sqK_ex s g, by simp, by simp⟩
  · rw [zipD_len]; omega
  · obtain ⟨n, v1, v2, rfl, hn, rfl, c1, c2⟩ := y
    obtain ⟨d1, d2, g1, g2, rfl⟩ := zipD_at hd
    obtain ⟨w1, k1, k2⟩ := hx.get g1
    obtain ⟨w2, k3, k4⟩ := hy.get g2
    obtain rfl : w1 = v1 := Option.some.inj (k1.symm.trans (c1 xs (sqK_ex o.ex (sqK_ex s h))))
    obtain rfl : w2 = v2 := Option.some.inj (k3.symm.trans (c2 ys (sqK_ex o.ex (sqK_ex s g))))
    exact pair_new (x := d1) (y := d2) o hn (k2.mono s) (k4.mono s)
theorem ix_zipTL {elts : List Expr} {kk : Nat} {tpos : Pos} {P : List D → Mem → Prop} (hm : X.mg "zip" = none) (h : AX X J [a, b] ρ M fun ws M2 => ∃ ds es : List D, ws = [.tup ds, .lst es] ∧ P (zipD ds es) M2) (hg : Gl X "zip" := by rfl)
    (hs : starEach [a, b] X.env = (false, eval a X.env) :: starEach [b] X.env := by rfl) (hpl : (backTo pos (starEach [b] X.env)).any (·.1) = false := by rfl) : IX X J (.Tuple elts kk tpos) (.Call (.Name "zip" p) [a, b] [] pos) ρ M P :=
  ix_of (pi_zipM true false hg hm pa_any hs hpl) fun F σ H R s k => h.go s fun ws vs M2 F2 H2 q e1 o2 r1 => by
    obtain ⟨ds, es, rfl, q2⟩ := q
    cases r1 with
    | cons h1 r1 =>
      cases r1 with
      | cons h2 r1 =>
        cases r1
        cases h1 with
        | tup h1 k1 =>
          cases h2 with
          | lst h2 k2 => exact ⟨_, _, _, _, rfl, same_t o2.ex h1, SqL.of (o2.ex _ _ h2), k _ _ M2 F2 H2 q2 e1 o2 (wk_zipM true false h1 (SqL.of h2) k1 k2)⟩
theorem ix_zipLT {elts : List Expr} {kk : Nat} {tpos : Pos} {P : List D → Mem → Prop} (hm : X.mg "zip" = none) (h : AX X J [a, b] ρ M fun ws M2 => ∃ ds es : List D, ws = [.lst ds, .tup es] ∧ P (zipD ds es) M2) (hg : Gl X "zip" := by rfl)
    (hs : starEach [a, b] X.env = (false, eval a X.env) :: starEach [b] X.env := by rfl) (hpl : (backTo pos (starEach [b] X.env)).any (·.1) = false := by rfl) : IX X J (.Tuple elts kk tpos) (.Call (.Name "zip" p) [a, b] [] pos) ρ M P :=
  ix_of (pi_zipM false true hg hm pa_any hs hpl) fun F σ H R s k => h.go s fun ws vs M2 F2 H2 q e1 o2 r1 => by
    obtain ⟨ds, es, rfl, q2⟩ := q
    cases r1 with
    | cons h1 r1 =>
      cases r1 with
      | cons h2 r1 =>
        cases r1
        cases h1 with
        | lst h1 k1 =>
          cases h2 with
          | tup h2 k2 => exact ⟨_, _, _, _, rfl, SqL.of (o2.ex _ _ h1), same_t o2.ex h2, k _ _ M2 F2 H2 q2 e1 o2 (wk_zipM false true (SqL.of h1) h2 k1 k2)⟩
end DX
namespace DX
open PySem PySem.Spec L2 SX
noncomputable section
inductive Ctl (S R : Type) where
  | go (s : S) | brk (s : S) | ret (r : R)
def foldO {S : Type} (f : S → D → Option S) : S → List D → Option S
  | s, [] => some s
  | s, x :: xs => (f s x).bind fun s' => foldO f s' xs
/-- how a loop that may be left ends: brk never -/
def loopC {S R : Type} (f : S → D → Option (Ctl S R)) : S → List D → Option (Ctl S R)
  | s, [] => some (.go s)
  | s, x :: xs => (f s x).bind fun
    | .go s' => loopC f s' xs
    | .brk s' => some (.go s')
    | .ret r => some (.ret r)
def ctl {S R T : Type} (c : Ctl S R) (f : S → Option T) (g : R → Option T) : Option T := match c with
  | .go s => f s
  | .brk s => f s
  | .ret r => g r
theorem ctl_retS {S R : Type} {c : Ctl S R} {f : S → Option R} {v z : R} (h : ctl c f (fun v => some v) = some z) (e : c = .ret v) : some v = some z := by subst e; exact h
theorem ctl_retR {S R T : Type} {c : Ctl S R} {f : S → Option (Ctl T R)} {v : R} {z : Ctl T R} (h : ctl c f (fun v => some (.ret v)) = some z) (e : c = .ret v) : some (.ret v) = some z := by subst e; exact h
theorem ctl_go {S R T : Type} {c : Ctl S R} {f : S → Option T} {g : R → Option T} {v : S} {z : T} (h : ctl c f g = some z) (e : c = .go v) : f v = some z := by subst e; exact h
def whileO {S : Type} (c : S → Option Bool) (f : S → Option S) : Nat → S → Option S
  | 0, _ => none
  | n + 1, s => (c s).bind fun t => if t = true then (f s).bind fun s' => whileO c f n s' else some s
def mapO (f : D → Option D) : List D → Option (List D)
  | [] => some []
  | x :: xs => (f x).bind fun y => (mapO f xs).map fun ys => y :: ys
def filtO (f : D → Option (Option D)) : List D → Option (List D)
  | [] => some []
  | x :: xs => (f x).bind fun o => (filtO f xs).map fun ys => match o with
    | some y => y :: ys
    | none => ys
def mapS {S : Type} (f : S → D → Option (D × S)) : S → List D → Option (List D × S)
  | s, [] => some ([], s)
  | s, x :: xs => (f s x).bind fun p => (mapS f p.2 xs).map fun q => (p.1 :: q.1, q.2)
def filtS {S : Type} (f : S → D → Option (Option D × S)) : S → List D → Option (List D × S)
  | s, [] => some ([], s)
  | s, x :: xs => (f s x).bind fun p => (filtS f p.2 xs).map fun q => (match p.1 with
    | some y => y :: q.1
    | none => q.1, q.2)
/-- the tuple's parts -/
def un1 : D → Option D
  | .tup [a] => some a
  | _ => none
def un2 : D → Option (D × D)
  | .tup [a, b] => some (a, b)
  | _ => none
def un3 : D → Option (D × D × D)
  | .tup [a, b, c] => some (a, b, c)
  | _ => none
def un4 : D → Option (D × D × D × D)
  | .tup [a, b, c, d] => some (a, b, c, d)
  | _ => none
def un5 : D → Option (D × D × D × D × D)
  | .tup [a, b, c, d, e] => some (a, b, c, d, e)
  | _ => none
theorem un2_eq {d : D} {p : D × D} (h : un2 d = some p) : d = .tup [p.1, p.2] := by unfold un2 at h; split at h <;> cases h; rfl
/-- what is walked -/
def dIter : D → Option (List D)
  | .lst ds => some ds
  | .tup ds => some ds
  | .str z => some (signs z)
  | _ => none
def dZip : D → D → Option (List D)
  | .lst a, .lst b => some (zipD a b)
  | .tup a, .tup b => some (zipD a b)
  | .tup a, .lst b => some (zipD a b)
  | .lst a, .tup b => some (zipD a b)
  | _, _ => none
def dEnum : D → Option (List D)
  | .lst a => some (enumD 0 a)
  | .tup a => some (enumD 0 a)
  | _ => none
def dRange : List D → Option (List D)
  | [.int j] => chk (-1000000 ≤ j ∧ j ≤ 1000000) (rngD 0 j.toNat)
  | [.int i, .int j] => chk ((0 ≤ i ∧ i ≤ 1000000) ∧ -1000000 ≤ j ∧ j ≤ 1000000) (rngD i (j - i).toNat)
  | [.int i, .int j, .int c] => if c = -1 then chk ((-1000000 ≤ i ∧ i ≤ 1000000) ∧ -1000000 ≤ j ∧ j ≤ 1000000) (rngC i (-1) (i - j).toNat)
    else chk ((-1000000 ≤ i ∧ i ≤ 1000000) ∧ (-1000000 ≤ j ∧ j ≤ 1000000) ∧ 1 ≤ c ∧ c ≤ 1000) (rngC i c (cntP i j c))
  | _ => none
/-- x[i] = v; x.pop(i); x.pop() -/
def lSet (l : List D) (i v : D) : Option (List D) := match i with
  | .int n => (ixN l.length n).map fun m => l.set m v
  | _ => none
def lPopAt (l : List D) (i : D) : Option (D × List D) := match i with
  | .int n => (chk (-(2 ^ 62) ≤ n ∧ n < 2 ^ 62) ()).bind fun _ => (ixN l.length n).bind fun m => (l[m]?).map fun v => (v, l.eraseIdx m)
  | _ => none
def lPop (l : List D) : Option (D × List D) := (l[l.length - 1]?).map fun v => (v, l.dropLast)
def dJoin (z d : D) : Option D := match z, itemsD d with
  | .str z, some ds => chk (AllS ds ∧ sizeJ ds + ds.length * z.length ≤ 16777216) (.str (Txt.join z (ds.map toS)))
  | _, _ => none
section
variable {X : Cx} {J : Gh} {e a b c o : Expr} {es : List Expr} {ρ ρ' : DEnv} {M M' M0 M1 : Mem} {F F' H H' : Hp} {σ : L2.St} {B : Bd} {K : PySem.W.Frag} {pos p apos cpos : Pos} {x y dx dy z : D} {P : D → Mem → Prop} {t : Bool}
theorem up_none {a b : Addr} {d : D} (h : up M a d b = none) : a ≠ b ∧ M b = none := by
  unfold up at h
  split at h
  · cases h
  · rename_i q; exact ⟨fun e => q e.symm, h⟩
theorem nn {a b : Addr} {d : D} (q : a ≠ b) (h : M b = none) : up M a d b = none := by rw [up_ne (Ne.symm q)]; exact h
theorem sub_refl : Sub M M := fun _ _ h => h
theorem sub_drop {a : Addr} {d : D} (s : Sub M0 M1) (h : M1 a = none) : Sub M0 (up M1 a d) := fun b d' q => by
  have q1 := s b d' q
  rw [up_ne (fun e => by rw [e, h] at q1; cases q1)]; exact q1
theorem sub_keep {a : Addr} {d : D} (s : Sub M0 M1) : Sub (up M0 a d) (up M1 a d) := fun b d' q => by
  unfold up at q ⊢
  split at q
  · rename_i e; rw [if_pos e]; exact q
  · rename_i e; rw [if_neg e]; exact s b d' q
theorem subx_here {p : Addr} {d : D} (h : M p = none) : SubX p M (up M p d) := fun a d' q => by
  have : a ≠ p := fun e => by rw [e, h] at q; cases q
  exact ⟨this, by rw [up_ne this]; exact q⟩
theorem ex_less (h : EX X J e ρ M fun d M1 => ∃ M0, Sub M0 M1 ∧ P d M0) : EX X J e ρ M P :=
  ex_of h fun F σ H Q st k => ⟨F, st, fun d v M' F' H' q e1 o1 r1 => by
    obtain ⟨M0, s, q⟩ := q
    exact k d v M0 F' H' q e1 (o1.sub s) r1⟩
theorem gx_less {sts : List Stmt} (s : Sub M0 M) (h : GX X J sts ρ M0 B) : GX X J sts ρ M B :=
  ⟨fun pins sh σ H E I ⟨F, st, k⟩ => h.run pins sh σ H E I ⟨F, ⟨st.en, st.ok.sub s, st.gh⟩, k⟩⟩
theorem gx_frzA {sts : List Stmt} {p : Addr} {d : D} (i : Nat) (hi : DX.look ρ i = some (.adr p)) (hp : M p = some d) (sx : SubX p M0 M) (h : GX X J sts (DX.put ρ i d) M0 B) (hf : frzD d = true := by rfl) : GX X J sts ρ M B :=
  ⟨fun pins s σ H E I ⟨F, st, k⟩ => by
    obtain ⟨u, hu⟩ := (st.ok.mt p _ hp).2.there
    obtain ⟨s1, o4⟩ := st.ok.frz sx hp hu
    exact h.run pins s σ H E I ⟨_, ⟨(st.en.mono s1).frz hi ((st.ok.mt p _ hp).2.rp hu s1 upd_same hf), o4, J.mono _ _ s1 st.gh⟩, ⟨fun F' σ' H' ρ' M' q z1 z2 z3 => k.nx F' σ' H' ρ' M' q (s1.trans z1) z2 z3, k.rt.to s1, fun F' σ' H' ρ' M' q z1 z2 z3 => k.bk F' σ' H' ρ' M' q (s1.trans z1) z2 z3, fun F' σ' H' ρ' M' q z1 z2 z3 => k.ct F' σ' H' ρ' M' q (s1.trans z1) z2 z3⟩⟩⟩
theorem ret0 {v r : D} (e : v = r) (k : P r M) : P v M := by subst e; exact k
theorem ret1 {v : D} {r : D × List D} {l : List D} {W : D → Mem} (e : (v, l) = r) (k : P r.1 (W (.lst r.2))) : P v (W (.lst l)) := by subst e; exact k
theorem as_eq {tg : Expr} {d d' : D} {Q : DEnv → Prop} (e : d = d') (h : AsD X tg d' ρ Q) : AsD X tg d ρ Q := by subst e; exact h
theorem asb_eq {scope : Scope} {vs : List Nat} {tg : Expr} {d d' : D} {Q : DEnv → Prop} (e : d = d') (h : AsB X scope vs tg d' ρ Q) : AsB X scope vs tg d ρ Q := by subst e; exact h
theorem ix_seqU {tg : Expr} {v : D} {ds : List D} {M2 : Mem} {P : List D → Mem → Prop} (h : EX X J e ρ M fun d M' => d = v ∧ M' = M2) (hv : dIter v = some ds) (k : P ds M2) : IX X J tg e ρ M P := by
  cases v <;> cases hv
  · exact ix_str (h.imp fun d M' q => ⟨_, q.1, by rw [q.2]; exact k⟩)
  · exact ix_tup (h.imp fun d M' q => ⟨_, q.1, by rw [q.2]; exact k⟩)
  · exact ix_lst (h.imp fun d M' q => ⟨_, q.1, by rw [q.2]; exact k⟩)
theorem ix_zipU {elts : List Expr} {kk : Nat} {tpos : Pos} {v w : D} {ds : List D} {M2 : Mem} {P : List D → Mem → Prop} (hm : X.mg "zip" = none) (h : AX X J [a, b] ρ M fun ws M' => ws = [v, w] ∧ M' = M2) (hv : dZip v w = some ds) (k : P ds M2) (hg : Gl X "zip" := by rfl)
    (hs : starEach [a, b] X.env = (false, eval a X.env) :: starEach [b] X.env := by rfl) (hpl : (backTo pos (starEach [b] X.env)).any (·.1) = false := by rfl) : IX X J (.Tuple elts kk tpos) (.Call (.Name "zip" p) [a, b] [] pos) ρ M P := by
  unfold dZip at hv
  split at hv
  · cases hv; exact ix_zip hm (h.imp fun d M' q => ⟨_, _, _, _, q.1, .lst, by rw [q.2]; exact k⟩) hg hs hpl
  · cases hv; exact ix_zip hm (h.imp fun d M' q => ⟨_, _, _, _, q.1, .tup, by rw [q.2]; exact k⟩) hg hs hpl
  · cases hv; exact ix_zipTL hm (h.imp fun d M' q => ⟨_, _, q.1, by rw [q.2]; exact k⟩) hg hs hpl
  · cases hv; exact ix_zipLT hm (h.imp fun d M' q => ⟨_, _, q.1, by rw [q.2]; exact k⟩) hg hs hpl
  · cases hv
theorem ix_range1U {tg : Expr} {v : D} {ds : List D} {M2 : Mem} {P : List D → Mem → Prop} (hm : X.mg "range" = none) (h : AX X J [a] ρ M fun ws M' => ws = [v] ∧ M' = M2) (hv : dRange [v] = some ds) (k : P ds M2) (hg : Gl X "range" := by rfl)
    (hs : starEach [a] X.env = [(false, eval a X.env)] := by rfl) : IX X J tg (.Call (.Name "range" p) [a] [] pos) ρ M P := by
  cases v <;> first | (cases hv; done) | skip
  obtain ⟨h1, rfl⟩ := chk_inv hv
  exact ix_range1 hm (h.imp fun d M' q => ⟨_, q.1, ⟨by omega, by omega⟩, by rw [q.2]; exact k⟩) hg hs
theorem ix_range2U {tg : Expr} {v w : D} {ds : List D} {M2 : Mem} {P : List D → Mem → Prop} (hm : X.mg "range" = none) (h : AX X J [a, b] ρ M fun ws M' => ws = [v, w] ∧ M' = M2) (hv : dRange [v, w] = some ds) (k : P ds M2) (hg : Gl X "range" := by rfl)
    (hs : starEach [a, b] X.env = [(false, eval a X.env), (false, eval b X.env)] := by rfl) (hs2 : starEach [b] X.env = [(false, eval b X.env)] := by rfl) : IX X J tg (.Call (.Name "range" p) [a, b] [] pos) ρ M P := by
  cases v <;> first | (cases hv; done) | skip
  cases w <;> first | (cases hv; done) | skip
  obtain ⟨h1, rfl⟩ := chk_inv hv
  exact ix_range2 hm (h.imp fun d M' q => ⟨_, _, q.1, ⟨by omega, by omega, by omega, by omega⟩, by rw [q.2]; exact k⟩) hg hs hs2
theorem ix_range3U {tg : Expr} {v w : D} {ds : List D} {M2 : Mem} {P : List D → Mem → Prop} (hm : X.mg "range" = none) (h : AX X J [a, b, c] ρ M fun ws M' => ws = [v, w, .int (-1)] ∧ M' = M2) (hv : dRange [v, w, .int (-1)] = some ds) (k : P ds M2) (hg : Gl X "range" := by rfl)
    (hs : starEach [a, b, c] X.env = (false, eval a X.env) :: starEach [b, c] X.env := by rfl) (hpl : (backTo pos (starEach [b, c] X.env)).any (·.1) = false := by rfl) : IX X J tg (.Call (.Name "range" p) [a, b, c] [] pos) ρ M P := by
  cases v <;> first | (cases hv; done) | skip
  cases w <;> first | (cases hv; done) | skip
  unfold dRange at hv
  dsimp only at hv
  rw [if_pos rfl] at hv
  obtain ⟨h1, rfl⟩ := chk_inv hv
  exact ix_range3 hm (h.imp fun d M' q => ⟨_, _, q.1, h1, by rw [q.2]; exact k⟩) hg hs hpl
section
variable {S R : Type} {xs : List D} {tg : Expr} {stm : List Stmt}
theorem drop_at {i : Nat} {d : D} (h : xs[i]? = some d) : xs.drop i = d :: xs.drop (i + 1) := by
  have hi : i < xs.length := by
    by_cases q : i < xs.length
    · exact q
    · rw [List.getElem?_eq_none (by omega)] at h; cases h
  rw [List.getElem?_eq_getElem hi] at h
  cases h
  exact List.drop_eq_getElem_cons hi
theorem forF {f : S → D → Option S} {s0 sN : S} (hl : foldO f s0 xs = some sN) (V : S → DEnv → Mem → Prop) (h0 : V s0 ρ M)
    (hs : ∀ d s s', f s d = some s' → ∀ ρ' M', V s ρ' M' → AsD X tg d ρ' fun ρ2 => GX X J stm ρ2 M' ⟨V s', B.rt, B.nx, V s'⟩) (hd : ∀ ρ' M', V sN ρ' M' → B.nx ρ' M') :
    ∃ Wd : Nat → DEnv → Mem → Prop, Wd 0 ρ M ∧ (∀ i d ρ' M', xs[i]? = some d → Wd i ρ' M' → AsD X tg d ρ' fun ρ2 => GX X J stm ρ2 M' ⟨Wd (i + 1), B.rt, B.nx, Wd (i + 1)⟩) ∧ ∀ ρ' M', Wd xs.length ρ' M' → B.nx ρ' M' := by
  refine ⟨fun i ρ' M' => ∃ s, foldO f s (xs.drop i) = some sN ∧ V s ρ' M', ⟨s0, hl, h0⟩, fun i d ρ' M' hi ⟨s, h1, h2⟩ => ?_, fun ρ' M' ⟨s, h1, h2⟩ => ?_⟩
  · rw [drop_at hi, foldO] at h1
    obtain ⟨s', h3, h4⟩ := Option.bind_eq_some_iff.mp h1
    obtain ⟨g, hg, h⟩ := hs d s s' h3 ρ' M' h2
    exact ⟨g, hg, fun F M v σ H Q o r en k => h F M v σ H Q o r en fun σ' ρ2 q en2 => k σ' ρ2 (q.imp (fun _ _ z => ⟨s', h4, z⟩) (fun _ _ z => z) (fun _ _ z => z) (fun _ _ z => ⟨s', h4, z⟩)) en2⟩
  · rw [List.drop_length, foldO] at h1
    cases h1
    exact hd ρ' M' h2
theorem forC {f : S → D → Option (Ctl S R)} {s0 : S} {c : Ctl S R} (hl : loopC f s0 xs = some c) (V : S → DEnv → Mem → Prop) (h0 : V s0 ρ M)
    (hs : ∀ d s b, f s d = some b → (∀ r, b = .ret r → c = .ret r) → ∀ ρ' M', V s ρ' M' → AsD X tg d ρ' fun ρ2 => GX X J stm ρ2 M' ⟨fun ρ M => ∃ s', b = .go s' ∧ V s' ρ M, B.rt, fun ρ M => ∃ s', b = .brk s' ∧ V s' ρ M, fun ρ M => ∃ s', b = .go s' ∧ V s' ρ M⟩)
    (hd : ∀ s', c = .go s' → ∀ ρ' M', V s' ρ' M' → B.nx ρ' M') :
    ∃ Wd : Nat → DEnv → Mem → Prop, Wd 0 ρ M ∧ (∀ i d ρ' M', xs[i]? = some d → Wd i ρ' M' → AsD X tg d ρ' fun ρ2 => GX X J stm ρ2 M' ⟨Wd (i + 1), B.rt, B.nx, Wd (i + 1)⟩) ∧ ∀ ρ' M', Wd xs.length ρ' M' → B.nx ρ' M' := by
  refine ⟨fun i ρ' M' => ∃ s, loopC f s (xs.drop i) = some c ∧ V s ρ' M', ⟨s0, hl, h0⟩, fun i d ρ' M' hi ⟨s, h1, h2⟩ => ?_, fun ρ' M' ⟨s, h1, h2⟩ => ?_⟩
  · rw [drop_at hi, loopC] at h1
    obtain ⟨b, h3, h4⟩ := Option.bind_eq_some_iff.mp h1
    obtain ⟨g, hg, h⟩ := hs d s b h3 (fun r e => by subst e; cases h4; rfl) ρ' M' h2
    refine ⟨g, hg, fun F M v σ H Q o r en k => h F M v σ H Q o r en fun σ' ρ2 q en2 => k σ' ρ2 (q.imp (fun _ _ z => ?_) (fun _ _ z => z) (fun _ _ z => ?_) (fun _ _ z => ?_)) en2⟩
    · obtain ⟨s', e, z⟩ := z; subst e; exact ⟨s', h4, z⟩
    · obtain ⟨s', e, z⟩ := z; subst e; exact hd s' (so h4).symm _ _ z
    · obtain ⟨s', e, z⟩ := z; subst e; exact ⟨s', h4, z⟩
  · rw [List.drop_length, loopC] at h1
    exact hd s (so h1).symm ρ' M' h2
end
section
variable {S : Type} {scope : Scope} {tg elt : Expr} {ifs : List Expr} {vs : List Nat} {xs ys : List D}
theorem len_at {i : Nat} {d : D} (h : xs[i]? = some d) : i < xs.length := by
  by_cases q : i < xs.length
  · exact q
  · rw [List.getElem?_eq_none (by omega)] at h; cases h
theorem lcF {f : D → Option D} (hl : mapO f xs = some ys) (hz : xs.length ≤ 1000000)
    (hs : ∀ d y acc Dl, f d = some y → M Dl = none → AsB X scope vs tg d (cuts ρ vs) fun ρ2 => EXb X J scope elt ρ2 (up M Dl (.lst acc)) fun y' M3 => y' = y ∧ M3 = up M Dl (.lst acc)) (k : P (.lst ys) M) : LcW X J scope vs tg [] elt ρ P xs M := by
  refine ⟨fun i acc M' => M' = M ∧ acc.length = i ∧ ∃ r, mapO f (xs.drop i) = some r ∧ acc ++ r = ys, ⟨rfl, rfl, ys, hl, rfl⟩, fun i d acc M' Dl hi ⟨e, ha, r, h1, h2⟩ hD => ?_, fun acc M' ⟨e, ha, r, h1, h2⟩ => ?_⟩
  · subst e
    have hi2 := len_at hi
    refine ⟨by omega, ?_⟩
    rw [drop_at hi, mapO] at h1
    obtain ⟨y, h3, h1⟩ := Option.bind_eq_some_iff.mp h1
    obtain ⟨r', h4, rfl⟩ := Option.map_eq_some_iff.mp h1
    obtain ⟨g, hg, h⟩ := hs d y acc Dl h3 hD
    refine ⟨g, hg, fun F M v σ H Q o r en k => h F M v σ H Q o r en fun σ' ρ2 q en2 w => k σ' ρ2 ?_ en2 w⟩
    refine txb_nil ⟨fun _ => fun s H C cl fp => (q s H C cl fp).imp fun y' M3 z => ?_, fun h => nomatch h⟩
    obtain ⟨rfl, rfl⟩ := z
    exact ⟨M', hD, rfl, rfl, by rw [List.length_append, ha]; rfl, r', h4, by rw [List.append_assoc]; exact h2⟩
  · rw [List.drop_length, mapO] at h1
    cases h1
    subst e
    rw [List.append_nil] at h2
    subst h2
    exact k
end
def strD : D → Option Str
  | .str z => some z
  | _ => none
theorem strD_eq {d : D} {z : Str} (h : strD d = some z) : d = .str z := by cases d <;> cases h; rfl
def dJoinS (z : Str) (d : D) : Option D := (itemsD d).bind fun ds => chk (AllS ds ∧ sizeJ ds + ds.length * z.length ≤ 16777216) (.str (Txt.join z (ds.map toS)))
theorem jn {z : Str} {y dy r : D} (w : Vw M y dy) (h : dJoinS z dy = some r) (p : P r M) : ∃ ds, Sq M y ds ∧ AllS ds ∧ sizeJ ds + ds.length * z.length ≤ 16777216 ∧ P (.str (Txt.join z (ds.map toS))) M := by
  obtain ⟨ds, h1, h⟩ := Option.bind_eq_some_iff.mp h
  obtain ⟨⟨h2, h3⟩, rfl⟩ := chk_inv h
  refine ⟨ds, ?_, h2, h3, p⟩
  rcases items_eq h1 with rfl | rfl
  · exact w.sq
  · cases w with
    | id => exact .tup
    | ad q hf => cases hf
def lExt (l : List D) (v : D) : Option (List D) := (lstD v).bind fun es => chk (l.length + es.length ≤ 1000000) (l ++ es)
theorem g1_setIxF {tp : Pos} (h : EX X J e ρ M fun y M1 => EX X J o ρ M1 fun d M2 => EX X J a ρ M2 fun i M3 => ∃ q l f l', d = .adr q ∧ At M3 q (.lst l) f ∧ lSet l i y = some l' ∧ B.nx ρ (f (.lst l')))
    (hs : swapsWithSole [.Subscript o a tp] e pos.line X.env = pure false := by rfl) (hw : swappedStores [.Subscript o a tp] e X.env = pure none := by rfl)
    (h1 : (assignEach [.Subscript o a tp] X.env).map (·.2) = [assign (.Subscript o a tp) X.env] := by rfl)
    (ha : ∀ v, assign (.Subscript o a tp) X.env v = (do let ov ← holding [v] (eval o X.env); let iv ← holding [v, ov] (eval a X.env); standAt tp; holding [v, ov, iv] (setItem ov iv v); release [v, ov, iv] []) := by intro _; rfl) : G1 X J (.Assign [.Subscript o a tp] e pos) ρ M B :=
  g1_setIx (h.imp fun y M1 q => q.imp fun d M2 q => q.imp fun i M3 q => by
    obtain ⟨q, l, f, l', e1, hA, h1, k⟩ := q
    unfold lSet at h1
    split at h1
    · obtain ⟨m, h2, rfl⟩ := Option.map_eq_some_iff.mp h1
      exact ⟨q, l, f, _, m, e1, rfl, hA, h2, k⟩
    · cases h1) hs hw h1 ha
end
end
end DX
namespace DX
open PySem PySem.Spec L2 SX
noncomputable section
def iOp (f : Int → Int → Int) : D → D → Option D
  | .int i, .int j => some (.int (f i j))
  | _, _ => none
theorem iOp_eq {f : Int → Int → Int} {a b z : D} (h : iOp f a b = some z) : ∃ i j, a = .int i ∧ b = .int j ∧ z = .int (f i j) := by
  unfold iOp at h
  split at h
  · cases h; exact ⟨_, _, rfl, rfl, rfl⟩
  · cases h
def keyD : D → Option Key
  | .int i => some (.inl i)
  | .str z => some (.inr z)
  | _ => none
theorem keyD_eq {d : D} {k : Key} (h : keyD d = some k) : d = kD k := by cases d <;> cases h <;> rfl
def dctD : D → Option (List (Key × D))
  | .dct l => some l
  | _ => none
theorem dctD_eq {d : D} {l : List (Key × D)} (h : dctD d = some l) : d = .dct l := by cases d <;> cases h; rfl
def kvsD : List D → Option (List (Key × D))
  | [] => some []
  | .tup [a, b] :: ds => (keyD a).bind fun k => (kvsD ds).map fun l => (k, b) :: l
  | _ => none
theorem kvs_eq : ∀ {ds : List D} {l : List (Key × D)}, kvsD ds = some l → ds = prsD l := by
  intro ds
  induction ds with
  | nil => intro l h; cases h; rfl
  | cons d ds ih =>
    intro l h
    unfold kvsD at h
    split at h
    · rename_i e; cases e
    · rename_i a b ds' e
      cases e
      obtain ⟨k, h1, h⟩ := Option.bind_eq_some_iff.mp h
      obtain ⟨l', h2, rfl⟩ := Option.map_eq_some_iff.mp h
      rw [ih h2, keyD_eq h1]; rfl
    · cases h
section
variable {X : Cx} {J : Gh} {e a b c o : Expr} {es : List Expr} {ρ ρ' : DEnv} {M M' M0 M1 : Mem} {F F' H H' : Hp} {σ : L2.St} {B : Bd} {K : PySem.W.Frag} {pos p apos cpos : Pos} {x y dx dy z : D} {P : D → Mem → Prop} {t : Bool}
theorem g1_augF {x : Str} {op : Operator} {f : Int → Int → Int} (ho : PIp X op (ipI f)) (i : Nat) {u : D} (hu : look ρ i = some u) (h : EX X J e ρ M fun d M1 => ∃ z, iOp f u d = some z ∧ B.nx (put ρ i z) M1)
    (hN : X.N.Nodup := by rfl) (hi : X.N[i]? = some x := by rfl) (hx : Loc X.env.scope x := by first | exact Or.inl rfl | exact Or.inr rfl) (hf : X.fn x = true ∨ X.env.scope.names.lookup x = some .local := by first | exact .inl rfl | exact .inr rfl) :
    G1 X J (.AugAssign (.Name x p) op e pos) ρ M B := by
  cases u with
  | int v =>
    refine g1_aug ho i ⟨v, hu, h.imp fun d M1 q => ?_⟩ hN hi hx hf
    obtain ⟨z, h1, q⟩ := q
    obtain ⟨i', j', e1, rfl, rfl⟩ := iOp_eq h1
    cases e1
    exact ⟨_, rfl, q⟩
  | _ => 
    refine g1_of (ps_aug hN hi hx pe_any ho hf) fun F σ H E s k => ?_
    obtain ⟨v0, h1, h2⟩ := s.en.look hu
    refine ⟨_, h1, h.go s fun d v M1 F1 H1 q e1 o1 r1 => ?_⟩
    obtain ⟨z, h1, q⟩ := q
    obtain ⟨i', j', e2, _, _⟩ := iOp_eq h1
    cases e2
theorem cd_dictK {l : List D} {kvs : List (Key × D)} (h : kvsD l = some kvs) (q : P (.dct (mergeD [] kvs)) M) (hc : X.calm = true := by rfl) : CD X (.type "dict") [.stup l] M P := by
  rw [kvs_eq h]; exact cd_dict hc q
def dLstrip (z : Str) : D → Option D
  | .str y => chk (z.length ≤ 1000000) (.str (Txt.lstripChars z y))
  | _ => none
theorem cwS {M : Model} {A : Around} {E : Value → Shared → Prop} {s : Shared} {f : Value} {first : List Value} {pos : Pos} {Q : Value → Shared → Prop} {Ph : Heap → Prop} {args : List (Bool × Sem Value)} {kw : List (Option Str × Sem Value)} (hst : (args.any (·.1) || kw.any (·.1.isNone)) = true)
    (hk : ∀ h, Ph h → ∃ k, (k = Keeper.frame ∨ k = Keeper.machine ∨ k = Keeper.boundFrame) ∧ PySem.W.Looks M h (keeperOf f) k)
    (h : wpAny M A (evalArgs f true args kw) (fun a s1 => Ph s1.heap ∧ wpAny M A (call f (first ++ a.pos) a.kw) Q E s1) E s) : wpAny M A (callWith pos f first args kw) Q E s := by
  unfold callWith
  refine wpAny_bind (wpAny_holding (wpAny_mono h (fun a s1 g => wpAny_bind (wpAny_standAt ?_)) fun _ _ x => x))
  obtain ⟨k, hk', L⟩ := hk _ g.1
  simp only [hst]
  refine wpAny_bind (L.here ?_)
  have fin : ∀ {z : Sem Value}, wpAny M A z Q E s1 → wpAny M A (z >>= fun r => holding [r] point >>= fun _ => pure r) Q E s1 := by
    intro z hz
    exact wpAny_bind (wpAny_mono hz (fun r s2 hr => wpAny_bind (wpAny_holding (wpAny_point (wpAny_pure hr)))) fun _ _ x => x)
  rcases hk' with rfl | rfl | rfl
  · refine fin ?_
    show wpAny M A (callMarked _ f (first ++ a.pos) a.kw) Q E s1
    unfold callMarked
    exact Calls.wpAny_keep g.2
  · exact fin (wpAny_operating g.2)
  · exact fin (wpAny_operating g.2)
theorem ex_joinF (h : EX X J o ρ M fun d M1 => ∃ z, d = .str z ∧ EX X J e ρ M1 fun d2 M2 => ∃ dy r, Vw M2 d2 dy ∧ dJoinS z dy = some r ∧ P r M2)
    (hbase : attributeBase o "join" X.env (eval o X.env) = eval o X.env := by rfl)
    (few : ((backTo cpos (starEach [e] X.env)).all (fun x => !x.1) && (backToKw cpos (keywordEach [] X.env)).all (fun x => x.1.isSome) && decide ([e].length + ([] : List Keyword).length + (if ([] : List Keyword).isEmpty then 0 else 1) < 30)) = true := by rfl)
    (line : (apos.endLine == cpos.line) = true := by rfl) (hst : starEach [e] X.env = (false, eval e X.env) :: starEach [] X.env := by rfl) (hpl : (backTo cpos (starEach [] X.env)).any (·.1) = false := by rfl) :
    EX X J (.Call (.Attribute o "join" apos) [e] [] cpos) ρ M P :=
  ex_join (h.imp fun d M1 q => by
    obtain ⟨z, e1, q⟩ := q
    exact ⟨z, e1, q.imp fun d2 M2 q => by
      obtain ⟨dy, r, w, h1, k⟩ := q
      exact jn w h1 k⟩) (hbase := hbase) (hline := line) (hs := hst)
end
end
end DX
namespace DX
open PySem PySem.Spec L2
open PyProof.Rows hiding St
section
variable {X : Cx} {J : Gh} {e a b c o : Expr} {es : List Expr} {ρ : DEnv} {M : Mem} {F F' H H' : Hp} {σ : St} {K : PySem.W.Frag} {pos p q apos cpos : Pos} {P : D → Mem → Prop}
/-- the numbers, each once -/
def difI : List Int → List Int
  | [] => []
  | n :: ns => if n ∈ ns then difI ns else n :: difI ns
def tDif (K : PySem.W.Frag) (ta : TE) : TE := fun σ H Q => ta σ H fun x H1 => ∃ l : Addr, ∃ ns : List Int, x = .ref l ∧ (SqL K H1 l (ns.map V.int) ∨ SqT K H1 l (ns.map V.int)) ∧ ns.length ≤ 4000 ∧ Q (.int ((difI ns).length : Nat)) H1
/-- len(set(x)) -/
noncomputable def dLenSet : D → Option D
  | .lst ds => (intsD ds).bind fun ns => chk (ns.length ≤ 4000) (.int ((difI ns).length : Int))
  | .tup ds => (intsD ds).bind fun ns => chk (ns.length ≤ 4000) (.int ((difI ns).length : Int))
  | _ => none
/-- x[::-1] -/
def dRev : D → Option D
  | .lst ds => some (.lst ds.reverse)
  | .tup ds => some (.tup ds.reverse)
  | _ => none
end
end DX
namespace DX
open PySem PySem.Spec L2
open PyProof.Rows hiding St
section
variable {X : Cx} {J : Gh} {e a b c o : Expr} {es : List Expr} {ρ : DEnv} {M : Mem} {F F' H H' : Hp} {σ : St} {K : PySem.W.Frag} {pos p q apos cpos : Pos} {P : D → Mem → Prop} {f : Str}
/-- e.f, a field of an instance of one of the classes L -/
def dFld (L : List Addr) (f : Str) : D → Option D
  | .ins C gs => if C ∈ L then gs.lookup f else none
  | _ => none
/-- e.f, a constant of the class: for each class its value -/
def dCon (L : List (Addr × D)) (f : Str) : D → Option D
  | .ins C gs => if gs.lookup f = none then L.lookup C else none
  | _ => none
end
end DX
namespace DX
open PySem PySem.Spec L2 PyProof.Rows StX
abbrev TrB := List D → Mem → (D → Mem → Prop) → RX → Prop
def BodyX (pg : Program) (w : World) (K : PySem.W.Frag) (mg : Str → Option Value) (base : Heap) (gd : Bool) (k : Nat) (f : Addr) (qual : Str) (body : List Stmt) (scope : Scope) (N ps : List Str) (T : TrB) : Prop :=
  ∀ (cdv : Value), CodeAt K f cdv → ∀ (A : Around) (outer : List PySem.Env) (s : Shared) (H F0 : Hp) (E : XK) (ds : List D) (M : Mem) (P : D → Mem → Prop) (R : RX), (gd = true → A.guards = some []) → Room k (A.deeper (PyProof.Rows.envOfC qual scope s.heap.objs.size f cdv)) → T ds M P R →
      Lets (cxOf (L2.CX pg w) pg w K mg base N qual scope f cdv A outer s H E) (ghF F0) (fun C gs _ M' => R C gs M') →
      PassesOwn (model pg w) (cxOf (L2.CX pg w) pg w K mg base N qual scope f cdv A outer s H E).A (cxOf (L2.CX pg w) pg w K mg base N qual scope f cdv A outer s H E).env (cxOf (L2.CX pg w) pg w K mg base N qual scope f cdv A outer s H E).xe →
      Kx K F0 R E →
      GX (cxOf (L2.CX pg w) pg w K mg base N qual scope f cdv A outer s H E) (ghF F0) body (startD (N.length - ps.length) ds) M ⟨fun _ M' => P .non M', P, fun _ _ => False, fun _ _ => False⟩
section
variable {pg : Program} {w : World} {K : PySem.W.Frag} {mg : Str → Option Value} {base : Heap} {x qual : Str} {params : Arguments} {body : List Stmt} {scope : Scope} {kws : List (Str × V)} {f : Addr} {fd : FuncData} {N pn : List Str} {pv : Str} {k : Nat} {T : TrB} {gd : Bool}
theorem lets_body {F0 : Hp} {R : RX} {E : XK} {cdv : Value} {A : Around} {outer : List PySem.Env} {s : Shared} {H : Hp} (kx : Kx K F0 R E) :
    Lets (cxOf (L2.CX pg w) pg w K mg base N qual scope f cdv A outer s H E) (ghF F0) (fun C gs _ M' => R C gs M') :=
  ⟨fun cls d _ H => E cls d H, takes_of rfl rfl rfl rfl, fun cls d σ H' F ρ M C gs st x r => kx C gs M F H' cls d r st.gh st.ok x⟩
theorem body_runX {ps : List Str} (B : BodyX pg w K mg base gd k f qual body scope N ps T) (cdv : Value) (hcv : CodeAt K f cdv) {A : Around} {outer : List PySem.Env} {s2 : Shared} {H2 F : Hp} {M : Mem} {ds : List D} {vs : List V} {P : D → Mem → Prop} {R : RX} {Q : VK} {E : XK}
    (hg : gd = true → A.guards = some []) (hr : Room k (A.deeper (PyProof.Rows.envOfC qual scope s2.heap.objs.size f cdv))) (hl : vs.length = ps.length) (o : Ok K F M H2) (rd : Rps K F vs ds) (t : T ds M P R) (kt : Kt K F P Q) (kx : Kx K F R E) :
    ∃ t, PSs (cxOf (L2.CX pg w) pg w K mg base N qual scope f cdv A outer s2 H2 E) body t ∧ t { nx := fun _ H' => Q .non H', rt := Q } (L2.start N vs) H2 := by
  have hb := B cdv hcv A outer s2 H2 F E ds M P R hg hr t (lets_body kx) (passes_of rfl) kx
  refine ⟨_, hb, F, ⟨?_, o, Same.refl F⟩, ⟨fun F' σ' H' ρ' M' p e en o' => kt _ _ _ _ _ p e o' .non, kt, fun F' σ' H' ρ' M' p => p.elim, fun F' σ' H' ρ' M' p => p.elim⟩⟩
  unfold L2.start
  rw [hl]
  exact En.start _ rd
end
end DX
namespace DX
open PySem PySem.Spec L2 PyProof.Rows StX
section
variable {pg : Program} {w : World} {K : PySem.W.Frag} {mg : Str → Option Value} {base : Heap} {x qual : Str} {params : Arguments} {body : List Stmt} {scope : Scope} {kws : List (Str × V)} {f : Addr} {fd : FuncData} {N pn : List Str} {pv : Str} {k : Nat} {T : TrB} {gd : Bool}
/-- no defaults by place: values, keywords, keyword-only defaults -/
theorem fn_kwX (F : FunD K x qual params body scope [] kws f fd) (S : FnScope N pn scope) (B : BodyX pg w K mg base gd k f qual body scope N pn T) (np : Nat) (ks : List Str) (ms : List (Str × V)) (mds : List D) (ix : List Nat)
    (hms : ∀ q ∈ ms, q ∈ kws) (hmd : ∀ F, Rps K F (ms.map (·.2)) mds)
    (h : ∀ (kV : Value) (D : Addr) (doc pm : Value) (an : Option Addr) (cdv ct : Value) (us mv ws : List Value), (kws ≠ [] → kV = .ref D) → us.length = np → mv.length = ms.length → ws.length = ks.length →
      KwChainE D (fun t => t = pure (pn.zip (pick (us ++ (mv ++ ws)) ix))) ((ms.map (·.1)).zip mv) (bindArgs (PySem.W.fnOf x qual params body scope .none kV doc pm an cdv ct) ⟨us, ks.zip ws⟩))
    (hix : ∀ (us mv ws : List V), us.length = np → mv.length = ms.length → ws.length = ks.length → (pick (us ++ (mv ++ ws)) ix).length = pn.length) :
    FnX pg w K mg base gd (k + 1) f ks (fun ds zs M P R => ds.length = np ∧ zs.length = ks.length ∧ T (pick (ds ++ (mds ++ zs)) ix) M P R) := by
  obtain ⟨oc, od, dV, kV, doc, pm, an, cdv, ct, osl, rfl, lk, hcd, hD, hK⟩ := F.ex
  obtain rfl : dV = .none := by
    rcases hD with ⟨_, e⟩ | ⟨e, _⟩
    · exact e
    · exact absurd rfl e
  obtain ⟨D, hkV, hq⟩ : ∃ D : Addr, (kws ≠ [] → kV = .ref D) ∧ ∀ q ∈ kws, ∃ u, PySem.W.nsIn K D q.1 = some (some u) ∧ RelV q.2 u := by
    rcases hK with e | ⟨D, e, hq⟩
    · exact ⟨0, fun z => absurd e z, fun q hq => by rw [e] at hq; cases hq⟩
    · exact ⟨D, fun _ => e, hq⟩
  obtain ⟨mv, hml, rmv, hmk⟩ := kwd_vals (ms := ms) fun q hm => hq q (hms q hm)
  refine ⟨fun A outer s H F0 M ds zs P R us ws vs xs Q E hg hr e0 rv rx hw o rd rz t kt kx => ?_⟩
  obtain ⟨hd0, hzl, t⟩ := t
  have l1 : us.length = np := by rw [← rv.length, rd.length]; exact hd0
  have lm : mv.length = ms.length := hml
  have vl : (pick (vs ++ (ms.map (·.2) ++ xs)) ix).length = pn.length := hix _ _ _ (by rw [rv.length]; exact l1) (by rw [List.length_map]) (by rw [rx.length]; exact hw)
  have vr : Vals (pick (vs ++ (ms.map (·.2) ++ xs)) ix) (pick (us ++ (mv ++ ws)) ix) := pick_vals (rv.append (rmv.append rx)) ix
  refine run_bnd (CX := L2.CX pg w) (E := E) lk hcd S hr e0 (G := fun ys H2 => ys = pick (vs ++ (ms.map (·.2) ++ xs)) ix ∧ H2 = H) (fun A' Ex Q' hh => ?_) fun s2 H2 ys ⟨ey, eH⟩ hr' => ?_
  · refine KwChainE.run (K := K) (e0.mod.kin.keeps fun b o e => (e0.bs b o e).1) (fun t et => ?_) (fun q hq => hmk q hq) (h kV D doc pm an cdv ct us mv ws hkV l1 lm hw)
    subst et
    exact wpAny_pure (hh s H _ _ e0 Un.refl rfl (fun e s' z => z) vr vl ⟨rfl, rfl⟩)
  · subst ey eH
    exact body_runX B cdv ⟨_, _, _, _, lk, rfl⟩ hg hr' vl o (pick_rps (rd.append ((hmd _).append rz)) ix) t kt kx
/-- a star parameter -/
theorem fn_starX (F : FunD K x qual params body scope [] kws f fd) (S : FnScope N (pn ++ [pv]) scope) (B : BodyX pg w K mg base gd k f qual body scope N (pn ++ [pv]) T) (np : Nat) (ks : List Str) (ms : List (Str × V)) (mds : List D) (ix : List Nat)
    (hms : ∀ q ∈ ms, q ∈ kws) (hmd : ∀ F, Rps K F (ms.map (·.2)) mds) (tp : List D → D) (htp : tp = .tup ∨ tp = .stup) (r0 : Bool)
    (h : ∀ (kV : Value) (D : Addr) (doc pm : Value) (an : Option Addr) (cdv ct : Value) (us rest mv ws : List Value), (kws ≠ [] → kV = .ref D) → (r0 = true → rest = []) → us.length = np → mv.length = ms.length → ws.length = ks.length →
      KwChainE D (fun t => t = (newTuple rest >>= fun t => pure (pn.zip (pick (us ++ (mv ++ ws)) ix) ++ [(pv, t)]))) ((ms.map (·.1)).zip mv) (bindArgs (PySem.W.fnOf x qual params body scope .none kV doc pm an cdv ct) ⟨us ++ rest, ks.zip ws⟩))
    (hix : ∀ (us mv ws : List V), us.length = np → mv.length = ms.length → ws.length = ks.length → (pick (us ++ (mv ++ ws)) ix).length = pn.length) :
    FnX pg w K mg base gd (k + 1) f ks (fun ds zs M P R => ∃ d0 dr, ds = d0 ++ dr ∧ d0.length = np ∧ zs.length = ks.length ∧ dr.length ≤ 1000000 ∧ (r0 = true → dr = []) ∧ T (pick (d0 ++ (mds ++ zs)) ix ++ [tp dr]) M P R) := by
  obtain ⟨oc, od, dV, kV, doc, pm, an, cdv, ct, osl, rfl, lk, hcd, hD, hK⟩ := F.ex
  obtain rfl : dV = .none := by
    rcases hD with ⟨_, e⟩ | ⟨e, _⟩
    · exact e
    · exact absurd rfl e
  obtain ⟨D, hkV, hq⟩ : ∃ D : Addr, (kws ≠ [] → kV = .ref D) ∧ ∀ q ∈ kws, ∃ u, PySem.W.nsIn K D q.1 = some (some u) ∧ RelV q.2 u := by
    rcases hK with e | ⟨D, e, hq⟩
    · exact ⟨0, fun z => absurd e z, fun q hq => by rw [e] at hq; cases hq⟩
    · exact ⟨D, fun _ => e, hq⟩
  obtain ⟨mv, hml, rmv, hmk⟩ := kwd_vals (ms := ms) fun q hm => hq q (hms q hm)
  refine ⟨fun A outer s H F0 M ds zs P R us0 ws vs xs Q E hg hr e0 rv rx hw o rd rz t kt kx => ?_⟩
  obtain ⟨d0, dr, rfl, hd0, hzl, hdr, hd00, t⟩ := t
  obtain ⟨v1, v2, rfl, rd1, rd2⟩ := Rps.split rd
  obtain ⟨us, rest, rfl, r1, r2⟩ := vals_split rv
  have l1 : us.length = np := by rw [← r1.length, rd1.length]; exact hd0
  have hz : rest.length ≤ sizeLine := by rw [← r2.length, rd2.length, sizeLine_eq]; omega
  have hn : H s.heap.objs.size = Option.none := e0.hok.fresh (Nat.le_refl _)
  have lm : mv.length = ms.length := hml
  have vl : (pick (v1 ++ (ms.map (·.2) ++ xs)) ix).length = pn.length := hix _ _ _ (by rw [r1.length]; exact l1) (by rw [List.length_map]) (by rw [rx.length]; exact hw)
  have vr : Vals (pick (v1 ++ (ms.map (·.2) ++ xs)) ix) (pick (us ++ (mv ++ ws)) ix) := pick_vals (r1.append (rmv.append rx)) ix
  refine run_bnd (CX := L2.CX pg w) (E := E) lk hcd S hr e0 (G := fun ys H2 => ∃ p, H p = Option.none ∧ ys = pick (v1 ++ (ms.map (·.2) ++ xs)) ix ++ [V.ref p] ∧ H2 = upd H p (.frz { cls := .type "tuple", data := .seq rest.toArray } (.tup v2))) (fun A' Ex Q' hh => ?_) fun s2 H2 ys ⟨p, hp, ey, eH⟩ hr' => ?_
  · refine KwChainE.run (K := K) (e0.mod.kin.keeps fun b o e => (e0.bs b o e).1) (fun t et => ?_) (fun q hq => hmk q hq) (h kV D doc pm an cdv ct us rest mv ws hkV (fun z => List.eq_nil_of_length_eq_zero (by rw [← r2.length, rd2.length, hd00 z]; rfl)) l1 lm hw)
    subst et
    refine wpAny_bind (wpAny_newTuple (wpAny_pure ?_) hz)
    have new : ObjOk pg w (upd H s.heap.objs.size (.frz { cls := .type "tuple", data := .seq rest.toArray } (.tup v2))) (s.heap.push ({ cls := .type "tuple", data := .seq rest.toArray } : Obj)) s.heap.objs.size (.frz { cls := .type "tuple", data := .seq rest.toArray } (.tup v2)) := ⟨Heap.get?_push_size _ rfl, by rw [r2.length]; exact hz, rest, r2, ⟨_, Heap.get?_push_size _ rfl, rfl, _, rfl⟩⟩
    have un := un_laid (fs := frs outer) (s := s) (o := ({ cls := .type "tuple", data := .seq rest.toArray } : Obj)) (u := .frz { cls := .type "tuple", data := .seq rest.toArray } (.tup v2)) hn
    have z := hh _ _ (pick (v1 ++ (ms.map (·.2) ++ xs)) ix ++ [V.ref s.heap.objs.size]) (pick (us ++ (mv ++ ws)) ix ++ [Value.ref s.heap.objs.size]) (env0_laid e0 new) un rfl (fun e s' z => cxUp outer s H _ _ E e s' un (fun b o q => Heap.get?_push_of_some _ q) (by rfl) z) (vr.append (.cons rfl .nil))
      (by rw [List.length_append, List.length_append, vl] <;> rfl) ⟨_, hn, rfl, rfl⟩
    rw [List.zip_append (by rw [← vr.length, vl])] at z
    exact z
  · subst ey eH
    have k0 := o.fixSame (o := .frz { cls := .type "tuple", data := .seq rest.toArray } (.tup v2)) hp
    have rt : Rp K (upd F0 p (.frz { cls := .type "tuple", data := .seq rest.toArray } (.tup v2))) (.ref p) (tp dr) := by
      rcases htp with e | e <;> rw [e]
      · exact .tup (.inl (.inr ⟨_, upd_same⟩)) (rd2.mono k0)
      · exact .stup upd_same ⟨rfl, rfl⟩ (rd2.mono k0)
    refine body_runX B cdv ⟨_, _, _, _, lk, rfl⟩ hg hr' (by rw [List.length_append, List.length_append, vl] <;> rfl) (o.fix hp) ((pick_rps ((rd1.mono k0).append ((hmd _).append (rz.mono k0))) ix).append (.cons rt .nil)) t (kt.to k0) (kx.to k0)
end
end DX
namespace DX
open PySem PySem.Spec L2 PyProof.Rows StX
section
variable {X : Cx} {J : Gh} {e a b o : Expr} {es : List Expr} {kws : List Keyword} {ks : List Str} {ρ : DEnv} {M M1 M2 : Mem} {F F' H H' : Hp} {σ : L2.St} {K : PySem.W.Frag} {pos p apos : Pos} {x m f : Str} {P : D → Mem → Prop} {PA : List D → List D → Mem → Prop} {RR : Addr → List (Str × D) → DEnv → Mem → Prop}
theorem ev_a (h : AX X J (e :: es) ρ M fun ds M1 => KX X J kws ρ M1 fun zs M2 => zs.length = ks.length ∧ PA ds zs M2) (hall : (backToKw pos (keywordEach kws X.env)).all (·.1.isSome) = true := by rfl) (hks : (backToKw pos (keywordEach kws X.env)).filterMap (·.1) = ks := by rfl)
    (he : starEach (e :: es) X.env = (false, eval e X.env) :: starEach es X.env := by rfl) : EvA X J pos (e :: es) kws ks ρ M PA := by
  intro fv pins σ H F s Qa I st k
  refine PyProof.Rows.evalArgs_kw2 hall (thn ((pa_any (X := X) (es := e :: es)).run pos pins s σ H (fun vs H1 => ∃ F1 M1 ds, Same F F1 ∧ Ok X.K F1 M1 H1 ∧ Rps X.K F1 vs ds ∧ KX X J kws ρ M1 fun zs M2 => zs.length = ks.length ∧ PA ds zs M2) I
    (h.go st fun ds vs M1 F1 H1 q e1 o1 r1 => ⟨F1, M1, ds, e1, o1, r1, q⟩)) fun us s1 ⟨vs, H1, I1, r, F1, M1, ds, e1, o1, rd, q⟩ => ?_) he
  refine thn ((pk_any (X := X) (kws := kws)).run pos pins s1 σ H1 (fun xs H2 => ∃ F2 M2 zs, Same F1 F2 ∧ Ok X.K F2 M2 H2 ∧ Rps X.K F2 xs zs ∧ zs.length = ks.length ∧ PA ds zs M2) I1 (q.go (st.to e1 o1) fun zs xs M2 F2 H2 q2 e2 o2 r2 => ⟨F2, M2, zs, e2, o2, r2, q2.1, q2.2⟩)) fun ws s2 ⟨xs, H2, I2, rx, F2, M2, zs, e2, o2, rz, hl, t⟩ => ?_
  rw [hks]
  exact k us ws vs xs ds zs F2 M2 H2 s2 I2 (e1.trans e2) o2 r rx (rd.mono e2) rz hl t
theorem ev_0 (h : KX X J kws ρ M fun zs M2 => zs.length = ks.length ∧ PA [] zs M2) (hall : (backToKw pos (keywordEach kws X.env)).all (·.1.isSome) = true := by rfl) (hks : (backToKw pos (keywordEach kws X.env)).filterMap (·.1) = ks := by rfl) : EvA X J pos [] kws ks ρ M PA := by
  intro fv pins σ H F s Qa I st k
  refine PyProof.Rows.evalArgs_kw2_nil hall (thn ((pk_any (X := X) (kws := kws)).run pos pins s σ H (fun xs H2 => ∃ F2 M2 zs, Same F F2 ∧ Ok X.K F2 M2 H2 ∧ Rps X.K F2 xs zs ∧ zs.length = ks.length ∧ PA [] zs M2) I (h.go st fun zs xs M2 F2 H2 q2 e2 o2 r2 => ⟨F2, M2, zs, e2, o2, r2, q2.1, q2.2⟩)) fun ws s2 ⟨xs, H2, I2, rx, F2, M2, zs, e2, o2, rz, hl, t⟩ => ?_)
  rw [hks]
  exact k [] ws [] xs [] zs F2 M2 H2 s2 I2 e2 o2 .nil rx .nil rz hl t
end
end DX
namespace DX
open PySem PySem.Spec L2 PyProof.Rows StX
/-- what a context lets out, told where the names are known -/
def Rof (RR : Addr → List (Str × D) → DEnv → Mem → Prop) (ρ : DEnv) : RX := fun C gs M' => ∃ M2, Sub M2 M' ∧ RR C gs ρ M2
section
variable {X : Cx} {J : Gh} {e a b o : Expr} {es : List Expr} {kws : List Keyword} {ks : List Str} {ρ : DEnv} {M M1 M2 : Mem} {F F' H H' : Hp} {σ : L2.St} {K : PySem.W.Frag} {pos p apos : Pos} {x m f : Str} {P : D → Mem → Prop} {RR : Addr → List (Str × D) → DEnv → Mem → Prop}
theorem run_fnX {k : Nat} {gd : Bool} {g : Addr} {T : TrX} {pins : List (Addr × Obj)} {s : Shared} {Q : VK} {us ws : List Value} {vs xs : List V} {ds zs : List D} (G : FnX X.prog X.w X.K X.mg X.base gd k g ks T) (L : Lets X J RR) (hg : gd = true → X.A.guards = some []) (hr : Room k X.A)
    (I : L2.Inv X pins σ H s) (st : Sts X.K J F σ H ρ M) (r : Vals vs us) (rx : Vals xs ws) (hw : zs.length = ks.length) (rd : Rps X.K F vs ds) (rz : Rps X.K F xs zs) (t : T ds zs M P (Rof RR ρ)) (kt : Kt X.K F P Q) :
    wpAny (model X.prog X.w) X.A (call (.ref g) us (ks.zip ws)) (EP X pins σ Q) X.xe s := by
  obtain ⟨W, tk, hW⟩ := L.ex
  refine wpAny_call (codeAny_mono (G.go X.A X.stack s H F M ds zs P (Rof RR ρ) us ws vs xs Q (fun cls d H' => W cls d σ H') hg hr I.env0 r rx (by rw [← rx.length, rz.length]; exact hw) st.ok rd rz t kt (fun C gs M' F' H' cls d q e o x => ?_)) fun res s' end_ => ?_)
  · obtain ⟨M2, sb, q⟩ := q
    exact hW _ _ _ _ _ _ _ _ _ ⟨st.en.mono e, o.sub sb, J.mono _ _ e st.gh⟩ x q
  · match res, end_ with
    | .error _, end_ => exact tk _ _ (XE.of_call I (fun _ _ _ h => h) end_)
    | .ok (.ret _), end_ => exact I.after end_
    | .ok .next, end_ => exact end_.elim
    | .ok .brk, end_ => exact end_.elim
    | .ok .cont, end_ => exact end_.elim
theorem cwAny {Mo : Model} {A : Around} {E : Value → Shared → Prop} {s : Shared} {fv : Value} {first : List Value} {Q : Value → Shared → Prop} {Ph : Heap → Prop} {args : List (Bool × Sem Value)} {kw : List (Option Str × Sem Value)}
    (hk : ∀ h, Ph h → ∃ k, (k = Keeper.frame ∨ k = Keeper.machine ∨ k = Keeper.boundFrame) ∧ PySem.W.Looks Mo h (keeperOf fv) k)
    (h : wpAny Mo A (evalArgs fv true args kw) (fun a s1 => Ph s1.heap ∧ wpAny Mo A (call fv (first ++ a.pos) a.kw) Q E s1) E s) : wpAny Mo A (callWith pos fv first args kw) Q E s := by
  cases hst : (args.any (·.1) || kw.any (·.1.isNone)) with
  | false => exact PySem.W.callWith_of hst hk h
  | true => exact cwS hst hk h
/-- f(..) -/
theorem ex_callX {k : Nat} {gd : Bool} {g : Addr} {T : TrX} (G : FnX X.prog X.w X.K X.mg X.base gd k g ks T) (L : Lets X J RR) (hgd : gd = true → X.A.guards = some []) (hr : Room k X.A) (hm : X.mg x = some (.ref g)) (hk : PySem.W.keepIn X.K (.ref g) = true)
    (h : EvA X J pos es kws ks ρ M fun ds zs M1 => T ds zs M1 P (Rof RR ρ)) (hg : Gl X x := by rfl) (hdb : (x == ("__debug__" : Str)) = false := by decide) : EX X J (.Call (.Name x p) es kws pos) ρ M P := by
  refine ⟨fun pins s σ H Q I ⟨F, st, kt⟩ => ?_⟩
  refine wpAny_Call_Name_kw (ld_glob I hg hm ?_ hdb)
  refine cwAny (PySem.W.keeps_K hk) (h _ pins σ H F s _ I st fun us ws vs xs ds zs F2 M2 H2 s2 I2 e2 o2 r rx rd rz hl t => ⟨I2.kIn, ?_⟩)
  exact run_fnX G L hgd hr I2 (st.to e2 o2) r rx hl rd rz t (kt.to e2)
/-- what is made by C(..) -/
def TMkX (C : Addr) (T : TrX) (ds zs : List D) (M : Mem) (P : D → Mem → Prop) (R : RX) : Prop := ∀ a, M a = none → T (.adr a :: ds) zs (up M a (.ins C [])) (fun d M2 => d = .non ∧ ∃ gs M0, M0 a = none ∧ M2 = up M0 a (.ins C gs) ∧ P (.ins C gs) M0) R
end
end DX
namespace DX
open PySem PySem.Spec L2 PyProof.Rows StX
section
variable {prog : Program} {w : World} {A : Around} {E : Value → Shared → Prop} {s : Shared} {K : PySem.W.Frag} {x C L f : Addr} {h₀ : Heap} {m : Str → Option Value} {ox : Obj} {od : Option Obj} {b tb : Value}
end
def SpXR (K : PySem.W.Frag) (T : TrX) : Sp := fun vs H Q E => ∃ F M ds P R, Ok K F M H ∧ Rps K F vs ds ∧ T ds [] M P R ∧ Kt K F P Q ∧ Kx K F R E
theorem fnR_ofX {pg : Program} {w : World} {K : PySem.W.Frag} {mg : Str → Option Value} {base : Heap} {k : Nat} {g : Addr} {T : TrX} (G : FnX pg w K mg base false k g [] T) : FnR pg w K mg base (L2.CX pg w) k g (SpXR K T) := by
  intro A outer s H us vs Q E hr e0 r ⟨F, M, ds, P, R, o, rd, t, kt, kx⟩
  exact G.go A outer s H F M ds [] P R us [] vs [] Q E (fun z => nomatch z) hr e0 r .nil rfl o rd .nil t kt kx
theorem pass_no {X : Cx} : Passes (L2.CX X.prog X.w) X (fun _ _ _ => False) := fun pins σ H s e s' I c => takes_no e s' (XE.of_call (W := fun _ _ _ _ => False) I (fun _ _ _ h => h) c)
/-- who may be asked: the class, its names -/
def clsD (L : List (Addr × List Str)) : D → Option Addr
  | .ins C gs => if (C, gs.map (·.1)) ∈ L then some C else none
  | _ => none
section
variable {X : Cx} {J : Gh} {e a b o : Expr} {es : List Expr} {kws : List Keyword} {ks : List Str} {ρ : DEnv} {M M1 M2 : Mem} {F F' H H' : Hp} {σ : L2.St} {K : PySem.W.Frag} {pos p apos : Pos} {x m f : Str} {P : D → Mem → Prop} {RR : Addr → List (Str × D) → DEnv → Mem → Prop}
end
end DX
namespace DX
open PySem PySem.Spec L2 PyProof.Rows StX
section
variable {X : Cx} {J : Gh} {e a b o : Expr} {es : List Expr} {kws : List Keyword} {ks : List Str} {ρ : DEnv} {M M1 M2 : Mem} {F F' H H' : Hp} {σ : L2.St} {K : PySem.W.Frag} {pos p apos : Pos} {x m f : Str} {P : D → Mem → Prop} {RR : Addr → List (Str × D) → DEnv → Mem → Prop}
end
end DX
namespace DX
open PySem PySem.Spec L2 PyProof.Rows StX
open PySem.W PySem.Calls Builtin Builtin.ObjectAttr in
section
variable {prog : Program} {w : World} {A : Around} {E : Value → Shared → Prop} {R : Result → Shared → Prop} {hp : Heap} {g : Array GenState} {d : Drawn} {t : Nat} {os : OsState} {K : PySem.W.Frag} {name : Str} {tk : Tok} {v : Value} {x C dx : Addr} {fv : Array Value} {B : String} {bmB : List Value}
end
end DX
namespace DX
open PySem PySem.Spec L2 PyProof.Rows StX
structure OexG (newId : String) (bmB : List Value) (K : PySem.W.Frag) (C : Addr) : Prop where
  cls : ∃ nm q N bs bm sn sub ab col dd k0 k1 k2 k3 k5, K.lookup C = some (excClassObj nm q C N bs bm true sn sub ab col dd k0 k1 k2 k3 k5 newId) ∧ PySem.W.excTail bmB bm = true
  sa : PySem.W.findIn K (.ref C) "__setattr__" = some (some (.builtin "object.__setattr__"))
  exC : PySem.W.subIn K (.ref C) (.type "BaseException") = some true
  tyC : PySem.W.typeIn K (.ref C) = some (.type "type")
  kC : PySem.W.keepIn K (.ref C) = true
  ov : PySem.W.excOver K C bmB = true
  hd : PySem.W.hasDictIn K C = true
/-- a built-in error class over which own ones stand -/
structure Bas (newId : String) (bmB : List Value) : Prop where
  ex : ∃ B initId, ExcBaseFacts B newId initId bmB ∧ StoreFacts B bmB "object.__setattr__" "object"
abbrev mroV : List Value := [.type "ValueError", .type "Exception", .type "BaseException", .type "object"]
abbrev mroL : List Value := [.type "LookupError", .type "Exception", .type "BaseException", .type "object"]
abbrev mroO : List Value := [.type "OverflowError", .type "ArithmeticError", .type "Exception", .type "BaseException", .type "object"]
section
variable {X : Cx} {pins : List (Addr × Obj)} {σ : L2.St} {H : Hp} {s : Shared} {a C dx : Addr} {f : Str} {y : V} {u : Value} {fs : List (Str × V)} {Q : Unit → Shared → Prop} {E : Value → Shared → Prop} {A : Around} {newId : String} {bmB : List Value}
end
/-- self.f = e, self an error that is being made -/
def tOstG (newId : String) (bmB : List Value) (K : PySem.W.Frag) (f : Str) (to te : TE) : TS := fun D σ H => te σ H fun y H1 => to σ H1 fun x H2 => ∃ a C : Addr, x = .ref a ∧ OexG newId bmB K C ∧ Bas newId bmB ∧ PySem.W.findIn K (.ref C) f = some none ∧
  ((H2 a = some (exo a C none) ∧ ∀ dx, H2 dx = none → dx ≠ a → D.nx σ (upd (upd H2 dx (exd dx [(f, y)])) a (exo a C (some dx)))) ∨
    ∃ (dx : Addr) (fs : List (Str × V)), H2 a = some (exo a C (some dx)) ∧ H2 dx = some (exd dx fs) ∧ fs.length ≤ 900 ∧ D.nx σ (upd H2 dx (exd dx ((f, y) :: fs))))
section
variable {X : Cx} {o e : Expr} {es : List Expr} {to te : TE} {ta : TA} {f : Str} {p p' p1 p2 pos : Pos} {newId : String} {bmB : List Value}
end
end DX
namespace DX
open PySem PySem.Spec L2 PyProof.Rows StX
def spI1 (C : Addr) (f : Str) : Sp := fun vs H Q _ => ∃ a y, vs = [.ref a, y] ∧ H a = some (exo a C none) ∧ ∀ dx, H dx = none → dx ≠ a → Q .non (upd (upd H dx (exd dx [(f, y)])) a (exo a C (some dx)))
def spI2 (C : Addr) (f1 f2 : Str) : Sp := fun vs H Q _ => ∃ a y z, vs = [.ref a, y, z] ∧ H a = some (exo a C none) ∧ ∀ dx, H dx = none → dx ≠ a → Q .non (upd (upd (upd H dx (exd dx [(f1, y)])) a (exo a C (some dx))) dx (exd dx [(f2, z), (f1, y)]))
section
variable {P : Program} {w : World} {K : PySem.W.Frag} {mg : Str → Option Value} {base : Heap} {x qual : Str} {params : Arguments} {body : List Stmt} {scope : Scope} {g C : Addr} {fd : FuncData} {newId : String} {bmB : List Value} {CX : CXT} {sf v1 v2 f1 f2 : Str}
end
section
variable {X : Cx} {J : Gh} {e a b o : Expr} {es : List Expr} {ρ : DEnv} {M M1 M2 : Mem} {F F' H H' : Hp} {σ : L2.St} {K : PySem.W.Frag} {pos p rpos : Pos} {x f f1 f2 : Str} {B : Bd} {RR : Addr → List (Str × D) → DEnv → Mem → Prop} {newId : String} {bmB : List Value} {C g : Addr} {fd : FuncData} {ps : List Str}
end
end DX
namespace DX
open PySem PySem.Spec L2 PyProof.Rows StX
section
variable {prog : Program} {w : World} {A : Around} {E : Value → Shared → Prop} {s : Shared} {K : PySem.W.Frag} {x C : Addr} {ox : Obj} {od : Option Obj}
end
section
variable {X : Cx} {J : Gh} {e a b o : Expr} {es : List Expr} {ρ : DEnv} {M M1 M2 : Mem} {F F' H H' : Hp} {σ : L2.St} {K : PySem.W.Frag} {pos p rpos : Pos} {x f : Str} {P : D → Mem → Prop} {C : Addr}
/-- what a caught error is: of the classes subs, by the classes L that may come -/
def isiE (L subs : List Addr) : D → Option Bool
  | .exn C _ => if C ∈ L then some (decide (C ∈ subs)) else none
  | d => if plain d = true then some false else none
end
end DX
namespace DX
open PySem PySem.Spec L2 PyProof.Rows StX
/-- what an except clause asks: of which classes -/
def ExT (X : Cx) (t : Expr) (cs : List Value) : Prop := ∀ (a : Addr) (pins : List (Addr × Obj)) (σ : L2.St) (H : Hp) (s : Shared) (e : Addr) (cls : Value) (b : Bool) (Q : Bool → Shared → Prop) (E : Value → Shared → Prop),
  L2.Inv { X with A := X.A.mark (some (.ref a)), calm := false, xe := fun _ _ => False } pins σ H s → PySem.W.Looks (model X.prog X.w) s.heap (typeOf (.ref e)) cls → PySem.W.exmAny X.K cls cs = some b →
  (∀ h', (∀ q o, s.heap.get? q = some o → h'.get? q = some o) → Q b { s with heap := h' }) →
  wpAny (model X.prog X.w) (X.A.mark (some (.ref a))) (eval t X.env) (fun c s1 => wpAny (model X.prog X.w) (X.A.mark (some (.ref a))) (excMatches (.ref e) c) Q E s1) E s
section
variable {X : Cx} {x1 x2 x3 : Str} {C1 C2 C3 : Addr} {p1 p2 p3 tpos : Pos} {kk : Nat}
end
/-- the suite's context: the error stands as a thing of ours -/
abbrev sui (X : Cx) (a : Addr) : Cx := { X with A := X.A.mark (some (.ref a)), calm := false, xe := fun _ _ => False }
section
variable {X : Cx} {J : Gh} {ρ : DEnv} {M : Mem} {F H : Hp} {σ : L2.St} {s : Shared} {pins : List (Addr × Obj)} {B : Bd} {RR : Addr → List (Str × D) → DEnv → Mem → Prop} {a C : Addr} {d : Option Addr}
end
end DX
namespace DX
open PySem PySem.Spec L2 PyProof.Rows StX
section
variable {X : Cx} {J : Gh} {ρ : DEnv} {M : Mem} {B : Bd} {RR : Addr → List (Str × D) → DEnv → Mem → Prop}
def Bd.cuts (B : Bd) (i : Nat) : Bd := ⟨fun ρ' M' => B.nx (cut ρ' i) M', B.rt, fun ρ' M' => B.bk (cut ρ' i) M', fun ρ' M' => B.ct (cut ρ' i) M'⟩
/-- what the body may let out -/
def RTry (X : Cx) (cs : List Value) (i : Nat) (suite : List Stmt) (B : Bd) (RR : Addr → List (Str × D) → DEnv → Mem → Prop) : Addr → List (Str × D) → DEnv → Mem → Prop :=
  fun C gs ρ' M' => C ≠ 0 ∧ ∃ b, PySem.W.exmAny X.K (.ref C) cs = some b ∧ (b = true → ∀ (a : Addr) (J2 : Gh), GX (sui X a) J2 suite (put ρ' i (.exn C gs)) M' (B.cuts i)) ∧ (b = false → RR C gs ρ' M')
end
end DX
namespace DX
open PySem PySem.Spec L2 PyProof.Rows StX
abbrev Er := Addr × List (Str × D)
def Zk (K : PySem.W.Frag) : Str → Addr := fun x => He.ga K x
def exC {A B : Type} (r : Except Er A) (ke : Er → Option B) (kv : A → Option B) : Option B := match r with
  | .error e => ke e
  | .ok v => kv v
def resX {A : Type} (r : Except Er A) (p : A → Prop) (q : Er → Prop) : Prop := match r with
  | .error e => q e
  | .ok v => p v
/-- an instance of the class C that has no field m of its own -/
def mthC (C : Addr) (m : Str) (d : D) : Option (List (Str × D)) := (isC C d).bind fun gs => if gs.lookup m = none then some gs else none
def insA : D → Option Unit
  | .ins _ _ => some ()
  | _ => none
def blD : D → Option Bool
  | .bl b => some b
  | _ => none
def natD : D → Option Int
  | .int i => if 0 ≤ i ∧ i < 2 ^ 63 then some i else none
  | _ => none
def txtD : D → Option Str
  | .str y => some y
  | _ => none
/-- the other side of a comparison -/
def othD (L : List Addr) (d : D) : Option Unit := if plain d = true then some () else match d with
  | .ins C _ => if C ∈ L then some () else none
  | _ => none
/-- isinstance(o, C), C an own class that is no error -/
def isiC (C : Addr) (d : D) : Option Bool := match d with
  | .ins C' _ => if C' = C then some true else none
  | d => if plain d = true then some false else none
section
variable {X : Cx} {M : Mem} {P : D → Mem → Prop}
end
/-- a field of a caught error of one of the classes L -/
def xflD (L : List Addr) (f : Str) : D → Option D
  | .exn C gs => if C ∈ L then gs.lookup f else none
  | _ => none
section
variable {X : Cx} {J : Gh} {e : Expr} {ρ : DEnv} {M : Mem} {pos : Pos} {f : Str} {P : D → Mem → Prop}
end
structure ErrC (newId : String) (bmB : List Value) (K : PySem.W.Frag) (C : Str) : Prop where
  oex : OexG newId bmB K (He.ga K C)
  ini : PySem.W.findIn K (.ref (He.ga K C)) "__init__" = some (some (.ref (He.fAd K (C, some "__init__"))))
  fn : PySem.W.typeIn K (.ref (He.fAd K (C, some "__init__"))) = some (.type "function")
  nz : He.ga K C ≠ 0
def oexB (newId : String) (bmB : List Value) (K : PySem.W.Frag) (C : Addr) : Bool :=
  PySem.W.excInitIn K C bmB newId && (He.eqO (PySem.W.findIn K (.ref C) "__setattr__") (some (some (.builtin "object.__setattr__"))) && (decide (PySem.W.subIn K (.ref C) (.type "BaseException") = some true) && (decide (PySem.W.typeIn K (.ref C) = some (.type "type")) &&
    (PySem.W.keepIn K (.ref C) && (PySem.W.excOver K C bmB && PySem.W.hasDictIn K C)))))
def errB (newId : String) (bmB : List Value) (K : PySem.W.Frag) (C : Str) : Bool :=
  oexB newId bmB K (He.ga K C) && (He.eqO (PySem.W.findIn K (.ref (He.ga K C)) "__init__") (some (some (.ref (He.fAd K (C, some "__init__"))))) && (decide (PySem.W.typeIn K (.ref (He.fAd K (C, some "__init__"))) = some (.type "function")) && decide (He.ga K C ≠ 0)))
/-- a property of each of some classes, checked -/
def allB (K : PySem.W.Frag) (L : List Str) (p : Addr → Bool) : Bool := L.all fun x => p (He.ga K x)
def excB (K : PySem.W.Frag) (C : Addr) : Bool :=
  He.eqO (PySem.W.findIn K (.ref C) "__getattribute__") (some (some (.builtin "BaseException.__getattribute__"))) && (He.eqO (PySem.W.findIn K (.ref C) "__getattr__") (some none) && (decide (PySem.W.subIn K (.ref C) (.type "BaseException") = some true) && (PySem.W.hasDictIn K C &&
    (He.eqO (PySem.W.findIn K (.ref C) "__class__") (some (some (.builtin "object.__class__"))) && (He.eqO (PySem.W.specialIn K (.builtin "object.__class__") "__get__") (some (some (.builtin "getset_descriptor.__get__"))) &&
      (decide (PySem.W.takesIn K (.builtin "object.__class__") = some true) && decide (PySem.W.mroIn K C (.type "object") = some true)))))))
end DX
namespace DX
open PySem PySem.Spec L2 PyProof.Rows StX
theorem no_err {pg : Program} {w : World} {outer : List PySem.Env} {H : Hp} {s s' : Shared} {er : Value} (h : L2.CX pg w outer H s (fun _ _ _ => False) er s') : False := by
  obtain ⟨_, _, _, _, _, _, _, _, _, _, _, _, _, z⟩ := h
section
variable {X : Cx} {J : Gh} {e a b : Expr} {ρ : DEnv} {M : Mem} {pos p rpos : Pos} {f f1 f2 : Str} {B : Bd} {RR : Addr → List (Str × D) → DEnv → Mem → Prop} {newId : String} {bmB : List Value} {C : Str} {fd : FuncData} {qual : Str} {params : Arguments} {body : List Stmt} {scope : Scope} {s1 v1 v2 : Str}
end
end DX
namespace DX
open PySem PySem.Spec L2 PyProof.Rows StX
section
variable {X : Cx} {J : Gh} {e o : Expr} {ρ : DEnv} {M : Mem} {pos fp : Pos} {f : Str} {B : Bd}
end
end DX
namespace DX
open PySem PySem.Spec L2 PyProof.Rows StX
section
variable {X : Cx} {J : Gh} {e a b o : Expr} {es : List Expr} {ρ : DEnv} {M M1 : Mem} {F F' H H' : Hp} {σ : L2.St} {K : PySem.W.Frag} {pos p : Pos} {f x : Str} {P : D → Mem → Prop}
def unl2 : D → Option (D × D)
  | .lst [a, b] => some (a, b)
  | _ => none
def unl3 : D → Option (D × D × D)
  | .lst [a, b, c] => some (a, b, c)
  | _ => none
def unl4 : D → Option (D × D × D × D)
  | .lst [a, b, c, d] => some (a, b, c, d)
  | _ => none
/-- repr of data, dicts among them -/
noncomputable def dReprR (d : D) : Option D := chk (shw d = true ∧ (pydR d).showable = true ∧ (pydR d).depth ≤ 60 ∧ (pydR d).shown.length ≤ 16000000) (.str (txtR d))
theorem cd_dReprR {d z : D} (hS : sysB X.K = true) (hg : X.A.guards = some []) (hu : X.A.units + 64 < cLine) (h : dReprR d = some z) (q : P z M) : CD X (.builtin "repr") [d] M P := by
  obtain ⟨⟨h1, h2, h3, h4⟩, rfl⟩ := chk_inv h
  exact cd_reprR hS hg hu ⟨h1, h2, h3, h4⟩ q
/-- what {..} shows -/
noncomputable def fmtD : D → Option Str
  | .str y => chk (y.length ≤ 1000000) y
  | .int i => chk (i.natAbs.log2 < 1920) (toString i)
  | _ => none
/-- the parts of an f-string -/
def JX (X : Cx) (J : Gh) (es : List Expr) (acc : Str) (ρ : DEnv) (M : Mem) (P : Str → Mem → Prop) : Prop :=
  ∀ F H σ Q, Sts X.K J F σ H ρ M → (∀ out M' F' H', P out M' → Same F F' → Ok X.K F' M' H' → Q out H') → tJs (es.map (tE X)) acc σ H Q
end
def cvalB (K : PySem.W.Frag) (C f : Str) (i : Int) : Bool := PySem.W.readsIn K (He.ga K C) (.type "type") && (He.eqO (PySem.W.specialIn K (.ref (He.ga K C)) "__getattribute__") (some (some (.builtin "type.__getattribute__"))) && match PySem.W.findCls K (.ref (He.ga K C)) (.type "type") f with
  | some (.val (.int j t)) => decide (j = i)
  | _ => false)
end DX
namespace DX
open PySem PySem.Spec L2 PyProof.Rows StX
noncomputable def dIsiT (ns : List String) (d : D) : Option Bool := chk (plain d = true) (ns.any fun m => isi m d)
section
variable {X : Cx} {M : Mem} {P : D → Mem → Prop}
end
def conSB (K : PySem.W.Frag) (C f x : Str) : Bool := match PySem.W.findIn K (.ref (He.ga K C)) f with
  | some (some (.str y t)) => decide (y = x) && He.eqO (PySem.W.specialIn K (.str y t) "__get__") (some none)
  | _ => false
def cvalSB (K : PySem.W.Frag) (C f x : Str) : Bool := PySem.W.readsIn K (He.ga K C) (.type "type") && (He.eqO (PySem.W.specialIn K (.ref (He.ga K C)) "__getattribute__") (some (some (.builtin "type.__getattribute__"))) && match PySem.W.findCls K (.ref (He.ga K C)) (.type "type") f with
  | some (.val (.str y t)) => decide (y = x)
  | _ => false)
end DX
namespace DX
open PySem PySem.Spec L2 PyProof.Rows StX LamX
def TbM (K : PySem.W.Frag) (tl : TbL) (M : Mem) : Prop := ∀ x ∈ tl, M (ctA K x.1).2 = some (.tbl x.2)
section
variable {K : PySem.W.Frag} {F H : Hp} {M : Mem}
/-- a table grows by a code object -/
theorem Ok.grow (k : Ok K F M H) {P c : Addr} {q : Str} {ps : Array Value} {p1 : Pos} (hM : M P = some (.tbl q)) (hP : H P = some (.tbl ps)) (hc : H c = none) :
    Same F (upd F c (CodeO c q)) ∧ Ok K (upd F c (CodeO c q)) M (upd (upd H P (.tbl (ps ++ #[rawInt p1.line, rawInt p1.col, .ref c]))) c (CodeO c q)) := by
  obtain ⟨nF, nM⟩ := k.nn hc
  have sm : Same F (upd F c (CodeO c q)) := same_new nF
  obtain ⟨fP, ps', hP', tr, ht⟩ := k.mt P _ hM
  rw [hP] at hP'; cases hP'
  have nPc : P ≠ c := ne_of_none hP hc
  refine ⟨sm, fun b u e => ?_, fun b d e => ?_⟩
  · by_cases hb : b = c
    · subst hb; rw [upd_same] at e ⊢; exact e
    · rw [upd_ne hb] at e ⊢
      rw [upd_ne (ne_of_none e fP)]
      exact k.ex b u e
  · have hb : b ≠ c := fun z => by rw [z, nM] at e; cases e
    obtain ⟨m1, m2⟩ := k.mt b d e
    refine ⟨by rw [upd_ne hb]; exact m1, ?_⟩
    by_cases hp : b = P
    · subst hp
      rw [hM] at e; cases e
      refine ⟨_, by rw [upd_ne hb, upd_same], ?_, fun pos cv z => ?_⟩
      · have el : (ps ++ #[rawInt p1.line, rawInt p1.col, Value.ref c]).toList = ps.toList ++ [rawInt p1.line, rawInt p1.col, .ref c] := by simp
        rw [el]; exact PySem.TriplesOk_snoc _ _ _ _ tr
      · have el : (ps ++ #[rawInt p1.line, rawInt p1.col, Value.ref c]).toList = ps.toList ++ [rawInt p1.line, rawInt p1.col, .ref c] := by simp
        rw [el] at z
        rcases among_app _ tr z with z | z
        · obtain ⟨c0, h1, h2⟩ := ht pos cv z
          exact ⟨c0, h1, sm _ _ h2⟩
        · exact ⟨c, z, upd_same⟩
    · exact m2.mono sm (by rw [upd_ne hb, upd_ne hp])
end
section
variable {X : Cx} {pins : List (Addr × Obj)} {σ : L2.St} {H F : Hp} {M : Mem} {s : Shared}
abbrev lamO (X : Cx) (params : Arguments) (body : Expr) (scope : Scope) (pm : Value) (c' : Addr) (ctv : Value) : Obj :=
  PySem.W.kla_obj "<lambda>" (X.env.qual ++ "<lambda>") params body scope (cloFrom X.env.cells scope.names []) pm c' ctv
/-- what the call of a name that holds the lambda does, in the def that got it -/
def LamAt (Z : Cx) (a : Str) (i : Nat) (f : Addr) (F0 : Hp) (M : Mem) (T : (D → Mem → Prop) → RX → Prop) : Prop :=
  ∀ (pn : List (Addr × Obj)) (xe : Value → Shared → Prop) (J : Gh) (ρ : DEnv) (P : D → Mem → Prop) (RR : Addr → List (Str × D) → DEnv → Mem → Prop) (p1 p2 : Pos), (∀ F, J.p F → Same F0 F) → Lets (Z.tr pn xe) J RR → look ρ i = some (.adr f) → T P (Rof RR ρ) → EX (Z.tr pn xe) J (.Call (.Name a p1) [] [] p2) ρ M P
end
/-- the body of a def that gets a lambda (its one parameter a) and calls it -/
def BodyL (pg : Program) (w : World) (K : PySem.W.Frag) (mg : Str → Option Value) (base : Heap) (gd : Bool) (k : Nat) (g : Addr) (qual : Str) (body : List Stmt) (scope : Scope) (N : List Str) (a : Str) (T' : ((D → Mem → Prop) → RX → Prop) → Mem → (D → Mem → Prop) → Prop) : Prop :=
  ∀ (cdv : Value) (A : Around) (outer : List PySem.Env) (s : Shared) (H F0 : Hp) (E : XK) (f : Addr) (M : Mem) (T : (D → Mem → Prop) → RX → Prop) (P : D → Mem → Prop), (gd = true → A.guards = some []) → Room k (A.deeper (envOfC qual scope s.heap.objs.size g cdv)) → T' T M P →
    LamAt (cxOf (L2.CX pg w) pg w K mg base N qual scope g cdv A outer s H E) a 0 f F0 M T →
    PassesOwn (model pg w) (cxOf (L2.CX pg w) pg w K mg base N qual scope g cdv A outer s H E).A (cxOf (L2.CX pg w) pg w K mg base N qual scope g cdv A outer s H E).env (cxOf (L2.CX pg w) pg w K mg base N qual scope g cdv A outer s H E).xe →
    GX (cxOf (L2.CX pg w) pg w K mg base N qual scope g cdv A outer s H E) (ghF F0) body (startD (N.length - 1) [.adr f]) M ⟨fun _ M' => P .non M', P, fun _ _ => False, fun _ _ => False⟩
section
variable {X : Cx} {J : Gh} {ρ : DEnv} {M : Mem} {P : D → Mem → Prop} {x a qg : Str} {g c Pt : Addr} {k kb : Nat} {gd : Bool} {pg : Arguments} {bg : List Stmt} {sg : Scope} {fd : FuncData} {Ng : List Str} {params : Arguments} {body : Expr} {scope : Scope} {p lpos pos : Pos}
  {T : (D → Mem → Prop) → RX → Prop} {T' : ((D → Mem → Prop) → RX → Prop) → Mem → (D → Mem → Prop) → Prop}
end
end DX
namespace DX
open PySem PySem.Spec L2 PyProof.Rows StX LamX
/-- the names of the lambdas, at their tables -/
def tbMem (K : PySem.W.Frag) (tl : TbL) : Mem := fun a => (tl.find? fun x => (ctA K x.1).2 == a).map fun x => .tbl x.2
theorem tbMem_ok {K : PySem.W.Frag} {tl : TbL} (h : tbOne K tl = true) : TbM K tl (tbMem K tl) := fun x hx => by
  have := List.all_eq_true.mp h x hx
  unfold tbMem
  cases e : tl.find? fun y => (ctA K y.1).2 == (ctA K x.1).2 with
  | none => rw [e] at this; cases this
  | some y => rw [e] at this; rw [Option.map_some, of_decide_eq_true this]
theorem tbMem_in {K : PySem.W.Frag} {tl : TbL} {a : Addr} {d : D} (h : tbMem K tl a = some d) : ∃ x ∈ tl, (ctA K x.1).2 = a ∧ d = .tbl x.2 := by
  unfold tbMem at h
  cases e : tl.find? fun y => (ctA K y.1).2 == a with
  | none => rw [e] at h; cases h
  | some y =>
    rw [e] at h; cases h
    have hy := List.find?_some e
    exact ⟨y, List.mem_of_find?_eq_some e, beq_iff_eq.mp hy, rfl⟩
theorem law_startT {T : TrX} {K : PySem.W.Frag} {tl : TbL} {H : Hp} {a : Addr} {ns : List Int} (h1 : tbOne K tl = true) (hS : SqL K H a (ns.map V.int)) (hT : ∀ x ∈ tl, H (ctA K x.1).2 = some (.tbl #[])) (ht : ∀ M, TbM K tl M → T [.scr ns] [] M (fun d _ => d = .bl true) noX) :
    ∃ F M ds, Ok K F M H ∧ Rps K F [.ref a] ds ∧ T ds [] M (fun d _ => d = .bl true) noX := by
  have nT : ∀ b, (∀ x ∈ tl, (ctA K x.1).2 ≠ b) → hid K tl H b = H b := fun b h => if_neg (fun z => by
    obtain ⟨x, hx, e⟩ := List.any_eq_true.mp z
    exact h x hx (beq_iff_eq.mp e))
  refine ⟨hid K tl H, tbMem K tl, [.scr ns], ⟨fun b u e => ?_, fun b d e => ?_⟩, .cons (.scr ?_) .nil, ht _ (tbMem_ok h1)⟩
  · unfold hid at e
    split at e
    · cases e
    · exact e
  · obtain ⟨x, hx, rfl, rfl⟩ := tbMem_in e
    have hh : (tl.any fun y => (ctA K y.1).2 == (ctA K x.1).2) = true := List.any_eq_true.mpr ⟨x, hx, beq_iff_eq.mpr rfl⟩
    refine ⟨if_pos hh, #[], hT x hx, trivial, fun pos cv z => ?_⟩
    have z : codeAmong pos [] = some cv := z
    simp [codeAmong] at z
  · rcases hS with hS | hS
    · refine .inl ?_
      rcases hS with hS | ⟨o, hS⟩
      · exact .inl ((nT a fun x hx e => by rw [← e, hT x hx] at hS; cases hS).trans hS)
      · exact .inr ⟨o, (nT a fun x hx e => by rw [← e, hT x hx] at hS; cases hS).trans hS⟩
    · exact .inr hS
theorem law_goT {pg : Program} {w : World} {K : PySem.W.Frag} {mg mb : Str → Option Value} {k : Nat} {fa a : Addr} {T : TrX} {s1 : Shared} {vs : List Value} {ns : List Int} {tn : TbN}
    (KX : K.In s1.heap) (gN : s1.heap.Ns mainGlobals mg) (bN : s1.heap.Ns builtinsNs mb) (bA : ∀ y : Str, y ≠ "__name__" → mb y = bootBuiltins y) (lim : s1.heap.NoLimit) (gens : s1.gens = #[])
    (bM : ∃ (bm : Addr) (ob : Obj), mg "__builtins__" = some (.ref bm) ∧ bm ≠ builtinsNs ∧ s1.heap.get? bm = some ob ∧ ob.cls = .type "module" ∧ ob.dict = some builtinsNs ∧ ob.data = .plain) (TK : TbK K tn s1.heap)
    (ha : s1.heap.get? a = some { cls := .type "list", data := .seq vs.toArray }) (hi : PyProof.Rows.IntsAre vs ns) (hl : ns.length ≤ sizeLine) (hr : Room k callerA)
    (G : ∀ base : Heap, K.In base → base.Ns mainGlobals mg → (∀ x ∈ tn, TabB base mg (ctA K x).1 (ctA K x).2) → FnX pg w K mg base true k fa [] T)
    (ht : ∀ H : Hp, SqL K H a (ns.map V.int) → (∀ x ∈ tn, H (ctA K x).2 = some (.tbl #[])) → ∃ F M ds, Ok K F M H ∧ Rps K F [.ref a] ds ∧ T ds [] M (fun d _ => d = .bl true) noX) :
    codeAny (model pg w) callerA (.call (.ref fa) ⟨[.ref a], []⟩) (fun r s' => r = .ok (.ret (.bool true)) ∧ OldK s1.heap s'.heap ∧ s'.os = s1.os ∧ PyProof.Rows.AllBare s'.gens) s1 := by
  have vals := vals_ints hi
  let isP : Addr → Prop := fun b => ∃ x ∈ tn, (ctA K x).2 = b
  have tabAt : ∀ {b}, isP b → s1.heap.get? b = some { cls := .none, data := .fields #[] } := fun ⟨x, hx, e⟩ => e ▸ (TK.ex x hx).2.1
  have tabK : ∀ {b}, isP b → K.lookup b = none := fun ⟨x, hx, e⟩ => e ▸ (TK.ex x hx).2.2
  have naP : ¬ isP a := fun z => by
    have q := tabAt z
    rw [ha] at q
    have q : Data.seq vs.toArray _ = Data.fields #[] := congrArg Obj.data (Option.some.inj q)
    cases q
  have main : ∀ H : Hp, (∀ b u, H b = some u → (b = a ∧ K.lookup a = none ∧ u = .frz { cls := .type "list", data := .seq vs.toArray } (.lst (ns.map V.int))) ∨ (isP b ∧ u = .tbl #[])) → (∀ b, isP b → H b = some (.tbl #[])) → SqL K H a (ns.map V.int) → L2.HOk pg w H s1.heap →
      codeAny (model pg w) callerA (.call (.ref fa) ⟨[.ref a], []⟩) (fun r s' => r = .ok (.ret (.bool true)) ∧ OldK s1.heap s'.heap ∧ s'.os = s1.os ∧ PyProof.Rows.AllBare s'.gens) s1 := by
    intro H only tabs seq hok
    have seen : ∀ {b : Addr} {ob : Obj}, s1.heap.get? b = some ob → (∀ l n, ob.data ≠ .seq l n) → ob.data ≠ .fields #[] → (hidT s1.heap H).get? b = some ob := by
      intro b ob e n1 n2
      refine hidT_get e ?_
      cases q : H b with
      | none => rfl
      | some u =>
        rcases only b u q with ⟨rfl, _, _⟩ | ⟨z, _⟩
        · rw [ha] at e; cases e
          exact absurd rfl (n1 _ _)
        · rw [tabAt z] at e; cases e
          exact absurd rfl n2
    have kept : ∀ {b : Addr} {m : Str → Option Value}, s1.heap.Ns b m → (hidT s1.heap H).Ns b m := by
      rintro b m ⟨ob, es, ep, h1, h2, h3⟩
      exact ⟨ob, es, ep, seen h1 (fun l n z => by rw [h2] at z; cases z) (fun z => by rw [h2] at z; cases z), h2, h3⟩
    have kin : K.In (hidT s1.heap H) := by
      intro b ob h1
      refine hidT_get (KX b ob h1) ?_
      cases q : H b with
      | none => rfl
      | some u =>
        rcases only b u q with ⟨rfl, h2, _⟩ | ⟨z, _⟩
        · rw [h2] at h1; cases h1
        · rw [tabK z] at h1; cases h1
    have tb : ∀ x ∈ tn, TabB (hidT s1.heap H) mg (ctA K x).1 (ctA K x).2 := fun x hx => by
      obtain ⟨C, hP, _⟩ := TK.ex x hx
      obtain ⟨oc, us, fl, tf, fg, tg, bf, tx, tt, c1, c2, c3, c4, c5⟩ := C
      refine ⟨⟨oc, us, fl, tf, fg, tg, bf, tx, tt, seen c1 (fun l n z => by rw [c3] at z; cases z) (fun z => by rw [c3] at z; cases z; simp at c4), c2, c3, c4, c5⟩, ?_, fun z => ?_⟩
      · obtain ⟨bm, ob, m1, m2, m3, m4, m5, m6⟩ := bM
        refine ⟨bm, ob, m1, m2, fun z => ?_, fun z => ?_, seen m3 (fun l n z => by rw [m6] at z; cases z) (fun z => by rw [m6] at z; cases z), m4, m5, m6⟩
        · obtain ⟨o2, es, ep, g1, g2, _⟩ := gN
          rw [z, g1] at m3; cases m3
          rw [g2] at m6; cases m6
        · rw [z, hP] at m3; cases m3
          cases m6
      · obtain ⟨o2, es, ep, g1, g2, _⟩ := gN
        rw [z, hP] at g1; cases g1
        cases g2
    have start_ : Env0 pg w K mg (hidT s1.heap H) callerA [] s1 H :=
      ⟨rfl, ⟨kin, kept gN, ⟨mb, kept bN, bA⟩, let ⟨mc, z1, z2⟩ := lim; ⟨mc, kept z1, z2⟩⟩, fun b ob z => of_hidT z, Nat.le_of_eq (hidT_size _ _), trivial, fun b z => (List.not_mem_nil z).elim, hok, .of_eq gens⟩
    obtain ⟨F, M, ds, o, rd, t⟩ := ht H seq fun x hx => tabs _ ⟨x, hx, rfl⟩
    refine codeAny_mono ((G _ kin (kept gN) tb).go callerA [] s1 H F M ds [] _ noX [.ref a] [] [.ref a] [] (fun v _ => v = .bl true) (fun _ _ _ => False) (fun _ => rfl) hr start_ (.cons rfl .nil) .nil rfl o rd .nil t (fun d v M' F' H' z1 _ _ z2 => by subst z1; cases z2; rfl) Kx.no) fun res s' end_ => ?_
    match res, end_ with
    | .error _, end_ => exact (no_err end_).elim
    | .ok .next, end_ => exact end_.elim
    | .ok .brk, end_ => exact end_.elim
    | .ok .cont, end_ => exact end_.elim
    | .ok (.ret u), ⟨v, H', h1, h2, h3, h4, h5, h6⟩ =>
      subst h6
      cases (show u = Value.bool true from h5)
      have now : ∀ b ob, s1.heap.get? b = some ob → s'.heap.get? b = some ob ∨ (isP b ∧ ∃ more : Array Value, s'.heap.get? b = some { cls := .none, data := .fields more }) := fun b ob z => by
        cases q : H b with
        | none => exact .inl (h3.keep b ob z q List.not_mem_nil List.not_mem_nil)
        | some u =>
          rcases only b u q with ⟨rfl, _, rfl⟩ | ⟨hp, rfl⟩
          · obtain ⟨e1, _⟩ := h4 b _ (h3.frzs b _ _ q)
            rw [ha] at z; cases z
            exact .inl e1
          · obtain ⟨more, e⟩ := h3.tbls b #[] q
            exact .inr ⟨hp, _, h4 b _ e⟩
      refine ⟨rfl, ⟨fun b ob z => ?_, fun b ob z => ?_⟩, h1, h2⟩
      · rcases now b ob z with e | ⟨⟨x, hx, rfl⟩, more, e⟩
        · exact .inl e
        · obtain ⟨C, hP, _⟩ := TK.ex x hx
          rw [hP] at z; cases z
          exact .inr (.inl ⟨(C.tab hP).isCodeTable, rfl, #[], more, rfl, by rw [Array.empty_append]; exact e⟩)
      · rcases now b ob z with e | ⟨_, more, e⟩
        · exact ⟨_, e⟩
        · exact ⟨_, e⟩
  classical
  cases q : K.lookup a with
  | some ob =>
    have e1 := KX a ob q
    rw [ha] at e1; cases e1
    have own : ∀ b u, (if isP b then some (HO.tbl #[]) else none) = some u → isP b ∧ u = .tbl #[] := fun b u z => by
      by_cases e : isP b
      · rw [if_pos e] at z; cases z; exact ⟨e, rfl⟩
      · rw [if_neg e] at z; cases z
    refine main (fun b => if isP b then some (.tbl #[]) else none) (fun b u z => .inr (own b u z)) (fun b z => if_pos z) (.inr ⟨_, vs.toArray, _, q, rfl, rfl, rfl, by simpa [hi.length] using hl, by simpa using vals⟩) fun b u z => ?_
    obtain ⟨h1, rfl⟩ := own b u z
    exact tabAt h1
  | none =>
    have own : ∀ b u, (if b = a then some (HO.frz { cls := .type "list", data := .seq vs.toArray } (.lst (ns.map V.int))) else if isP b then some (HO.tbl #[]) else none) = some u → (b = a ∧ u = .frz { cls := .type "list", data := .seq vs.toArray } (.lst (ns.map V.int))) ∨ (isP b ∧ u = .tbl #[]) := by
      intro b u z
      by_cases e : b = a
      · rw [if_pos e] at z; cases z; exact .inl ⟨e, rfl⟩
      · rw [if_neg e] at z
        by_cases e2 : isP b
        · rw [if_pos e2] at z; cases z; exact .inr ⟨e2, rfl⟩
        · rw [if_neg e2] at z; cases z
    refine main (fun b => if b = a then some (.frz { cls := .type "list", data := .seq vs.toArray } (.lst (ns.map V.int))) else if isP b then some (.tbl #[]) else none) (fun b u z => (own b u z).imp (fun z => ⟨z.1, q, z.2⟩) id) (fun b z => (if_neg (fun e : b = a => naP (by rw [e] at z; exact z))).trans (if_pos z)) (.inl (.inr ⟨_, if_pos rfl⟩)) fun b u z => ?_
    rcases own b u z with ⟨rfl, rfl⟩ | ⟨h1, rfl⟩
    · exact ⟨ha, by rw [List.length_map]; exact hl, vs, _, vals, ha⟩
    · exact tabAt h1
theorem walk_ofT {l : PySem.W.OpenLaw} {k : Nat} {q : Program} {loose : List Str} {XP : (Str → Option Value) → Heap → Prop} {YP : World → Heap → Prop} {d : DefRec} {tn : TbN} (hn : l.most = some 63) (hdf : d.params.defaults = []) (hr : Room k callerA)
    (G : ∀ (w : World) (mg : Str → Option Value) (fa : Addr) (h : Heap), YP w h → h.Ns mainGlobals mg → mg d.name = some (.ref fa) →
      ∃ (K : PySem.W.Frag) (T : TrX), K.In h ∧ TbK K tn h ∧
        (∀ (H : Hp) (a : Addr) (ns : List Int), ns.length ≤ 63 → SqL K H a (ns.map V.int) → (∀ x ∈ tn, H (ctA K x).2 = some (.tbl #[])) → ∃ F M ds, Ok K F M H ∧ Rps K F [.ref a] ds ∧ T ds [] M (fun d _ => d = .bl true) noX) ∧
        ∀ base : Heap, K.In base → base.Ns mainGlobals mg → (∀ x ∈ tn, TabB base mg (ctA K x).1 (ctA K x).2) → FnX l.prog w K mg base true k fa [] T) :
    PySem.W.WalkO q loose XP YP l.row.toRowW d [] (fun f vs => PySem.call f vs) :=
  Att.attach_call hn hdf fun w s0 s1 mg mb fa o pm cd doc a vs ns Gr Y ho hd hcd hmg hobj hints hlen hgens => by
    obtain ⟨K, T, KX, TK, ht, hF⟩ := G w mg fa _ Y Gr.T.g hmg
    exact law_goT KX Gr.T.g Gr.T.b Gr.T.builtins Gr.T.nolimit hgens Gr.T.bmain TK hobj hints (Nat.le_trans hlen (by decide)) hr hF fun H hS hP => ht H a ns hlen hS hP
theorem lookT_eq {n : Nat} {fa : List He.Fa} {fn : List He.DefD} {pr : List PrD} {ex : PySem.W.Frag → Bool} {tl : TbL} {g : Addr → Option Obj} {s : Shared} (h : ∀ a, g a = s.heap.get? a) : lookT fa fn pr ex tl n g = (hookT n fa fn pr ex tl).obs s := by
  have e : g = s.heap.get? := funext h
  subst e
  rfl
end DX
namespace DX
open PySem PySem.Spec L2 PyProof.Rows StX
noncomputable def dLower : D → Option D
  | .str z => chk (z.length ≤ 1000000) (.str (Txt.lower z))
  | _ => none
def unstD : D → D
  | .stup ds => .tup ds
  | d => d
def stupD : D → Option (List D)
  | .stup ds => some ds
  | _ => none
section
variable {X : Cx} {J : Gh} {e o : Expr} {ρ : DEnv} {M : Mem} {P : D → Mem → Prop} {pos apos cpos : Pos} {k : Nat} {K : PySem.W.Frag} {F : Hp}
end
end DX
namespace ZipL
open PySem PySem.Spec L2 PyProof.Rows
section
variable {prog : Program} {w : World} {A : Around} {R : Result → Shared → Prop} {z TI TO i1 i2 l1 l2 S : Addr} {xs ys : Array Value}
end
section
variable {prog : Program} {w : World} {A : Around} {R : Result → Shared → Prop} {E : Value → Shared → Prop} {s : Shared} {z TI TO i1 i2 l1 l2 S : Addr} {xs ys : Array Value}
end
def zH : Hp → List (Addr × V × V) → Hp
  | H, [] => H
  | H, (T, x, y) :: r => zH (upd H T (.tup [x, y])) r
def FrL : Hp → List (Addr × V × V) → Prop
  | _, [] => True
  | H, (T, x, y) :: r => H T = none ∧ FrL (upd H T (.tup [x, y])) r
section
variable {X : Cx} {pins : List (Addr × Obj)} {σ : L2.St} {H H' : Hp} {s : Shared} {h' : Heap}
end
def tLZ (K : PySem.W.Frag) (ta : TA) : TE := fun σ H Q => ta σ H fun vs H1 => ∃ a b xs ys, vs = [.ref a, .ref b] ∧ SqL K H1 a xs ∧ SqL K H1 b ys ∧
  ∀ (l : List (Addr × V × V)) (S : Addr), l.map (·.2) = xs.zip ys → FrL H1 l → zH H1 l S = none → Q (.ref S) (upd (zH H1 l) S (.lst (l.map fun t => V.ref t.1)))
end ZipL
namespace DX
open PySem PySem.Spec L2 PyProof.Rows ZipL
section
variable {X : Cx} {J : Gh} {M : Mem} {F : Hp} {K : PySem.W.Frag} {ρ : DEnv} {a b : Expr} {p pos p' pos' : Pos} {P : D → Mem → Prop}
def dZipL : D → D → Option (List D)
  | .lst ds, .lst es => some (zipD ds es)
  | _, _ => none
end
end DX
namespace EnK
open PySem PySem.Spec L2 PyProof.Rows
section
variable {M : Model} {A : Around} {E : Value → Shared → Prop} {s : Shared} {env : Env}
end
/-- the tuple at a, its items in new pairs, counted from k -/
def IteK (K : PySem.W.Frag) (a : Addr) (k : Nat) : It :=
  ⟨fun i H => ∃ (xs : List V) (x : V), SqT K H a xs ∧ xs[i]? = some x, fun i H v H' => ∃ T x, v = .ref T ∧ H T = none ∧ H' = upd H T (.tup [.int (k + i : Nat), x]) ∧ ∀ xs, SqT K H a xs → xs[i]? = some x, fun i H => ∃ xs : List V, SqT K H a xs ∧ xs.length ≤ i⟩
def iEnumK (K : PySem.W.Frag) (ta tk : TA) : TI := fun σ H R => ta σ H fun vs H1 => tk σ H1 fun zs H2 => ∃ a xs, ∃ k : Nat, vs = [.ref a] ∧ zs = [.int (k : Int)] ∧ k < 1000000 ∧ SqT K H2 a xs ∧ R (IteK K a k) H2
end EnK
namespace DX
open PySem PySem.Spec L2 EnK
def dEnumK : D → D → Option (List D)
  | .tup ds, .int k => if 0 ≤ k ∧ k < 1000000 then some (enumD k.toNat ds) else none
  | _, _ => none
section
variable {X : Cx} {J : Gh} {M : Mem} {F : Hp} {K : PySem.W.Frag} {ρ : DEnv} {a b : Expr} {p pos kp : Pos}
end
end DX
namespace DX
open PySem PySem.Spec L2 PyProof.Rows
def isFl : D → Bool
  | .int _ => true
  | .str _ => true
  | _ => false
def isI (i : Int) : D → Bool
  | .int j => decide (j = i)
  | _ => false
def isSt (z : Str) : D → Bool
  | .str w => decide (w = z)
  | _ => false
def isBl : D → Bool
  | .bl _ => true
  | _ => false
def isB (b : Bool) : D → Bool
  | .bl c => c == b
  | _ => false
def dLidx : D → D → Option D
  | .lst ds, .bl b => if ds.all isBl = true then (ds.findIdx? (isB b)).map fun (j : Nat) => .int (j : Int) else none
  | .lst ds, .str z => if ds.all isFl = true then (ds.findIdx? (isSt z)).map fun (j : Nat) => .int (j : Int) else none
  | .lst ds, .int i => if ds.all isFl = true then (ds.findIdx? (isI i)).map fun (j : Nat) => .int (j : Int) else none
  | _, _ => none
section
variable {X : Cx} {J : Gh} {M : Mem} {ρ : DEnv} {o e : Expr} {apos cpos : Pos} {P : D → Mem → Prop}
end
end DX
namespace DX
open PySem PySem.Spec L2 PyProof.Rows
section
variable {X : Cx} {J : Gh} {e o : Expr} {es : List Expr} {ρ ρ' : DEnv} {M M0 M1 : Mem} {F F' H H' : Hp} {σ : L2.St} {P : D → Mem → Prop} {K : PySem.W.Frag} {pos apos cpos : Pos}
def Mz : Mem := fun _ => none
def flatD : D → Bool
  | .int _ => true
  | .bl _ => true
  | .str _ => true
  | .non => true
  | _ => false
noncomputable def dLcnt : D → D → Option D
  | .lst ds, y => chk (goods ds ∧ good y ∧ dep y ≤ 50) (.int ((ds.countP fun z => eqD z y : Nat) : Int))
  | _, _ => none
end
end DX
namespace DX
open PySem PySem.Spec L2 PyProof.Rows StX LamX
/-- no instance changes here -/
def NoIns (M : Mem) : Prop := ∀ a C gs, M a ≠ some (.ins C gs)
mutual
/-- without lists and dicts -/
def lf : D → Bool
  | .non => true
  | .bl _ => true
  | .int _ => true
  | .str _ => true
  | .tup ds => lfs ds
  | .stup ds => lfs ds
  | .ins _ gs => lfk gs
  | _ => false
def lfs : List D → Bool
  | [] => true
  | d :: ds => lf d && lfs ds
def lfk : List (Str × D) → Bool
  | [] => true
  | (_, d) :: ds => lf d && lfk ds
end
structure Keeps (K : PySem.W.Frag) (F F2 : Hp) : Prop where
  t : ∀ a xs, SqT K F a xs → SqT K F2 a xs
  i : ∀ a C dx fs, F a = some (.ins C dx fs) → F2 a = some (.ins C dx fs)
  s : ∀ a o xs, F a = some (.frz o (.tup xs)) → F2 a = some (.frz o (.tup xs))
section
variable {K : PySem.W.Frag} {F F2 : Hp}
mutual
theorem rp_lf (h : Keeps K F F2) : ∀ (d : D) (v : V), lf d = true → Rp K F v d → Rp K F2 v d
  | .non, _, _, .non => .non
  | .bl b, _, _, .bl _ => .bl _
  | .int i, _, _, .int _ => .int _
  | .str x, _, _, .str _ => .str _
  | .tup ds, _, q, .tup h1 h2 => .tup (h.t _ _ h1) (rps_lf h ds _ (by rw [lf] at q; exact q) h2)
  | .stup ds, _, q, .stup h1 h2 h3 => .stup (h.s _ _ _ h1) h2 (rps_lf h ds _ (by rw [lf] at q; exact q) h3)
  | .stup [], _, _, .stupK h1 h2 => .stupK h1 h2
  | .ins C gs, _, q, .ins h1 h2 => .ins (h.i _ _ _ _ h1) (rfs_lf h gs _ (by rw [lf] at q; exact q) h2)
  | .lst _, _, q, _ => by simp [lf] at q
  | .dct _, _, q, _ => by simp [lf] at q
  | .adr _, _, q, _ => by simp [lf] at q
  | .ty _, _, q, _ => by simp [lf] at q
  | .scr _, _, q, _ => by simp [lf] at q
  | .exn _ _, _, q, _ => by simp [lf] at q
  | .tbl _, _, q, _ => by simp [lf] at q
  | .dtx _, _, q, _ => by simp [lf] at q
theorem rps_lf (h : Keeps K F F2) : ∀ (ds : List D) (vs : List V), lfs ds = true → Rps K F vs ds → Rps K F2 vs ds
  | [], _, _, .nil => .nil
  | d :: ds, _, q, .cons h1 h2 => by
    rw [lfs, Bool.and_eq_true] at q
    exact .cons (rp_lf h d _ q.1 h1) (rps_lf h ds _ q.2 h2)
theorem rfs_lf (h : Keeps K F F2) : ∀ (ds : List (Str × D)) (vs : List (Str × V)), lfk ds = true → Rfs K F vs ds → Rfs K F2 vs ds
  | [], _, _, .nil => .nil
  | (x, d) :: ds, _, q, .cons h1 h2 => by
    rw [lfk, Bool.and_eq_true] at q
    exact .cons (rp_lf h d _ q.1 h1) (rfs_lf h ds _ q.2 h2)
end
end
section
variable {X : Cx} {J : Gh} {e : Expr} {ρ ρ' : DEnv} {M : Mem} {F F' H H' : Hp} {P : D → Mem → Prop} {K : PySem.W.Frag}
/-- what was held still may change again -/
def freeF (F' : Hp) (M : Mem) : Hp := fun a => if (M a).isSome = true then none else F' a
theorem free_eq {a : Addr} (h : M a = none) : freeF F' M a = F' a := by unfold freeF; rw [h]; rfl
theorem still_kind (k : Ok K F M H) (e : Same (stillF F H M) F') {a : Addr} {d : D} (h : M a = some d) : ∃ u, F' a = some u ∧ H a = some u ∧ Mt K F H a d := by
  obtain ⟨_, m2⟩ := k.mt a d h
  obtain ⟨u, hu⟩ := m2.there
  exact ⟨u, e _ _ (show stillF F H M a = some u by unfold stillF; rw [h]; exact hu), hu, m2⟩
theorem free_same (k : Ok K F M H) (e : Same (stillF F H M) F') : Same F (freeF F' M) := fun a u h => by
  have : M a = none := by
    cases hm : M a with
    | none => rfl
    | some d => rw [(k.mt a d hm).1] at h; cases h
  rw [free_eq this]
  exact e _ _ (still_same k _ _ h)
theorem free_ok (k : Ok K F M H) (e : Same (stillF F H M) F') {M' : Mem} (k' : Ok K F' M' H') : Ok K (freeF F' M) M H' := by
  refine ⟨fun a u h => ?_, fun a d hd => ?_⟩
  · cases hm : M a with
    | none => rw [free_eq hm] at h; exact k'.ex _ _ h
    | some d => unfold freeF at h; rw [hm] at h; cases h
  · obtain ⟨u, h1, h2, h3⟩ := still_kind k e hd
    refine ⟨by unfold freeF; rw [hd]; rfl, h3.mono (free_same k e) ((k'.ex _ _ h1).trans h2.symm)⟩
end
end DX
namespace DX
open PySem PySem.Spec L2 PyProof.Rows StX LamX
/-- the instances that change here are of these classes -/
def InsIn (L : List Addr) (M : Mem) : Prop := ∀ a C gs, M a = some (.ins C gs) → C ∈ L
mutual
/-- without lists and dicts, and without instances of these classes -/
def lfN (L : List Addr) : D → Bool
  | .non => true
  | .bl _ => true
  | .int _ => true
  | .str _ => true
  | .tup ds => lfsN L ds
  | .stup ds => lfsN L ds
  | .ins C gs => decide (C ∉ L) && lfkN L gs
  | _ => false
def lfsN (L : List Addr) : List D → Bool
  | [] => true
  | d :: ds => lfN L d && lfsN L ds
def lfkN (L : List Addr) : List (Str × D) → Bool
  | [] => true
  | (_, d) :: ds => lfN L d && lfkN L ds
end
structure KeepsN (L : List Addr) (K : PySem.W.Frag) (F F2 : Hp) : Prop where
  t : ∀ a xs, SqT K F a xs → SqT K F2 a xs
  i : ∀ a C dx fs, C ∉ L → F a = some (.ins C dx fs) → F2 a = some (.ins C dx fs)
  s : ∀ a o xs, F a = some (.frz o (.tup xs)) → F2 a = some (.frz o (.tup xs))
section
variable {K : PySem.W.Frag} {F F2 : Hp} {L : List Addr}
mutual
theorem rp_lfN (h : KeepsN L K F F2) : ∀ (d : D) (v : V), lfN L d = true → Rp K F v d → Rp K F2 v d
  | .non, _, _, .non => .non
  | .bl b, _, _, .bl _ => .bl _
  | .int i, _, _, .int _ => .int _
  | .str x, _, _, .str _ => .str _
  | .tup ds, _, q, .tup h1 h2 => .tup (h.t _ _ h1) (rps_lfN h ds _ (by rw [lfN] at q; exact q) h2)
  | .stup ds, _, q, .stup h1 h2 h3 => .stup (h.s _ _ _ h1) h2 (rps_lfN h ds _ (by rw [lfN] at q; exact q) h3)
  | .stup [], _, _, .stupK h1 h2 => .stupK h1 h2
  | .ins C gs, _, q, .ins h1 h2 => by
    rw [lfN, Bool.and_eq_true] at q
    exact .ins (h.i _ _ _ _ (of_decide_eq_true q.1) h1) (rfs_lfN h gs _ q.2 h2)
  | .lst _, _, q, _ => by simp [lfN] at q
  | .dct _, _, q, _ => by simp [lfN] at q
  | .adr _, _, q, _ => by simp [lfN] at q
  | .ty _, _, q, _ => by simp [lfN] at q
  | .scr _, _, q, _ => by simp [lfN] at q
  | .exn _ _, _, q, _ => by simp [lfN] at q
  | .tbl _, _, q, _ => by simp [lfN] at q
  | .dtx _, _, q, _ => by simp [lfN] at q
theorem rps_lfN (h : KeepsN L K F F2) : ∀ (ds : List D) (vs : List V), lfsN L ds = true → Rps K F vs ds → Rps K F2 vs ds
  | [], _, _, .nil => .nil
  | d :: ds, _, q, .cons h1 h2 => by
    rw [lfsN, Bool.and_eq_true] at q
    exact .cons (rp_lfN h d _ q.1 h1) (rps_lfN h ds _ q.2 h2)
theorem rfs_lfN (h : KeepsN L K F F2) : ∀ (ds : List (Str × D)) (vs : List (Str × V)), lfkN L ds = true → Rfs K F vs ds → Rfs K F2 vs ds
  | [], _, _, .nil => .nil
  | (x, d) :: ds, _, q, .cons h1 h2 => by
    rw [lfkN, Bool.and_eq_true] at q
    exact .cons (rp_lfN h d _ q.1 h1) (rfs_lfN h ds _ q.2 h2)
end
end
section
variable {X : Cx} {J : Gh} {e o : Expr} {es : List Expr} {kws : List Keyword} {ks : List Str} {ρ ρ' : DEnv} {M : Mem} {F F' H H' : Hp} {P : D → Mem → Prop} {K : PySem.W.Frag} {L : List Addr} {pos fp p : Pos} {x f : Str} {σ : L2.St} {B : Bd} {RR : Addr → List (Str × D) → DEnv → Mem → Prop}
def TMkM (C : Addr) (T : TrX) (ds zs : List D) (M : Mem) (P : D → Mem → Prop) (R : RX) : Prop := ∀ a, M a = none → T (.adr a :: ds) zs (up M a (.ins C [])) (fun d M2 => d = .non ∧ P (.adr a) M2) R
end
end DX
namespace DX
open PySem PySem.Spec L2 PyProof.Rows StX LamX
section
variable {K : PySem.W.Frag} {F F2 : Hp} {L : List Addr}
end
/-- what changes here holds no instance of these classes -/
def NoIc (L : List Addr) (M : Mem) : Prop := ∀ a d, M a = some d → (∃ ds, d = .lst ds ∧ noIs L ds = true) ∨ ∃ q, d = .tbl q
def Bare (M : Mem) : Prop := ∀ a d, M a = some d → ∃ q, d = .tbl q
section
variable {X : Cx} {J : Gh} {e : Expr} {ρ : DEnv} {M M0 : Mem} {P : D → Mem → Prop} {L : List Addr}
/-- M1 is M0 and what stands at p -/
def InsX (p : Addr) (M0 M1 : Mem) : Prop := ∀ a, a ≠ p → M1 a = M0 a
def rmF (F : Hp) (p : Addr) : Hp := fun a => if a = p then none else F a
end
section
variable {X : Cx} {M : Mem} {P : D → Mem → Prop}
end
end DX
namespace DX
open PySem PySem.Spec L2 PyProof.Rows StX LamX
section
variable {X : Cx} {J : Gh} {ρ ρ' : DEnv} {M M0 : Mem} {P : D → Mem → Prop} {L : List Addr} {x : Str} {pos : Pos} {K : PySem.W.Frag} {F F2 : Hp} {σ : L2.St} {st : Stmt} {rest : List Stmt} {B : Bd}
/-- what comes behind -/
abbrev HoldNx (X : Cx) (J : Gh) (L : List Addr) (p C : Addr) (gs : List (Str × D)) (rest : List Stmt) (B : Bd) (ρ' : DEnv) (M' : Mem) : Prop := ∃ ρ2, NoE L ρ' ρ2 ∧ NoIc L M' ∧ ∃ M2, InsX p M' M2 ∧ M2 p = some (.ins C gs) ∧ GX X J rest ρ2 M2 B
end
section
variable {X : Cx} {M : Mem} {P : D → Mem → Prop} {x dx : D}
def lCut (d : D) (l u : Option Int) : Option (List D) := match d with
  | .lst ds => some (cutD ds l u)
  | _ => none
end
section
variable {X : Cx} {J : Gh} {e o : Expr} {es : List Expr} {kws : List Keyword} {ks : List Str} {ρ : DEnv} {M : Mem} {P : D → Mem → Prop} {pos : Pos} {RR : Addr → List (Str × D) → DEnv → Mem → Prop}
end
end DX
namespace DX
open PySem PySem.Spec L2 PyProof.Rows StX
open Sem (wp)
section
variable {prog : Program} {w : World} {A : Around} {E : Value → Shared → Prop} {s : Shared}
end
def gStar (X : Cx) (k : Nat) (t : TGs) : TG := fun v σ H Q => ∃ a xs, v = .ref a ∧ SqL X.K H a xs ∧ k ≤ xs.length ∧ ∀ q, H q = none → t (xs.take k ++ [.ref q]) σ (upd H q (.lst (xs.drop k))) Q
section
variable {X : Cx} {pos : Pos} {es : List Expr}
end
end DX
namespace DX
open PySem PySem.Spec L2 PyProof.Rows StX
noncomputable section
def dSplit : D → D → Option D
  | .str x, .str y => chk ((y.length == 0) = false ∧ x.length ≤ 1000000) (.lst ((Txt.split x y).map D.str))
  | _, _ => none
/-- int(x), of a text too -/
def dIntT : D → Option D
  | .str x => (PySem.intText? x).bind fun n => chk (x.length ≤ 640) (.int n)
  | d => dInt d
end
def stD1 : D → Option (D × D)
  | .lst (a :: r) => some (a, .lst r)
  | _ => none
def stD2 : D → Option (D × D × D)
  | .lst (a :: b :: r) => some (a, b, .lst r)
  | _ => none
/-- the first k, then the list of the rest -/
def stD (k : Nat) : D → Option (List D)
  | .lst ds => if k ≤ ds.length then some (ds.take k ++ [.lst (ds.drop k)]) else none
  | _ => none
section
variable {X : Cx} {J : Gh} {e o : Expr} {es : List Expr} {ρ : DEnv} {M : Mem} {P : D → Mem → Prop} {B : Bd} {pos apos cpos : Pos} {K : PySem.W.Frag} {F : Hp} {x dx dy z : D}
end
end DX
namespace DX
open PySem PySem.Spec L2 PyProof.Rows StX
def clsIs (C : Addr) : D → Bool
  | .ins C' _ => decide (C' = C)
  | _ => false
def isU (L : List Addr) : D → Option (List (Str × D))
  | .ins C gs => if C ∈ L then some gs else none
  | _ => none
/-- the other side of a comparison -/
def othU (L : List (Addr × Addr)) (x d : D) : Option Unit := if plain d = true then some () else match x, d with
  | .ins C _, .ins C' _ => if (C, C') ∈ L then some () else none
  | _, _ => none
def mthU (L : List Addr) (m : Str) (d : D) : Option (List (Str × D)) := (isU L d).bind fun gs => if gs.lookup m = none then some gs else none
/-- for each class of L the def that is meant -/
def UFn (pg : Program) (w : World) (K : PySem.W.Frag) (mg : Str → Option Value) (base : Heap) (gd : Bool) (ks : List Str) (k : Nat) (L : List Addr) (W : Addr → Addr → Prop) (TU : TrX) : Prop :=
  ∀ C ∈ L, ∃ (g : Addr) (T : TrX), W C g ∧ FnX pg w K mg base gd k g ks T ∧ ∀ gs ds zs M P R, TU (.ins C gs :: ds) zs M P R → T (.ins C gs :: ds) zs M P R
section
variable {X : Cx} {J : Gh} {e a b o : Expr} {es : List Expr} {kws : List Keyword} {ks : List Str} {ρ : DEnv} {M M1 M2 : Mem} {F F' H H' : Hp} {σ : L2.St} {K : PySem.W.Frag} {pos p apos : Pos} {x m f : Str} {P : D → Mem → Prop} {PA PA' : List D → List D → Mem → Prop} {RR : Addr → List (Str × D) → DEnv → Mem → Prop} {L : List Addr} {TU : TrX} {k : Nat}
/-- isinstance(o, C) for values of some own classes: what is told of each -/
def isiL (L : List (Addr × Bool)) (d : D) : Option Bool := match d with
  | .ins C' _ => L.lookup C'
  | d => if plain d = true then some false else none
end
end DX
namespace DX
open PySem PySem.Spec L2 PyProof.Rows StX
/-- what is asked of a specification -/
structure ColS (sp : Str) (f : Builtin.Float.FormatSpec) (W : Nat) : Prop where
  ne : (sp.length == 0) = false
  few : sp.length ≤ 10
  asc : ((sp.cps.toList.drop 1).any (· ≥ 128) || (sp.cps.getD 0 0 ≥ 128 && !([60, 62, 61, 94] : List Nat).contains (sp.cps.getD 1 0))) = false
  ps : ∀ name, Builtin.Float.parseFormatSpec sp.cps.toList name 62 = .ok f
  ty : f.type.getD (if (sp.cps.back? == some 0) = true then 0 else 100) = 100
  pr : f.precision = none
  nz : f.noNeg0 = false
  al : f.alt = false
  wi : f.width = some W
  sm : W ≤ 100
  gr : f.grouping = none
  sg : f.sign = none
  fi : f.fill = 32
  an : f.align = 62
/-- {x:>4} -/
noncomputable def fmtW (d : D) (sp : Str) : Option Str := match d with
  | .int i => chk (i.natAbs.log2 < 1920) (intSpecTextOf sp i)
  | _ => none
section
variable {X : Cx} {J : Gh} {e sp1 : Expr} {ρ : DEnv} {M : Mem} {P : D → Mem → Prop} {pos p2 : Pos} {sp : Str}
end
end DX
namespace DX
open PySem PySem.Spec L2
open PyProof.Rows hiding St
section
variable {X : Cx} {J : Gh} {e a b o : Expr} {es : List Expr} {ρ : DEnv} {M M1 : Mem} {F F' H H' : Hp} {σ : St} {K : PySem.W.Frag} {pos p apos : Pos} {x m f : Str} {P : D → Mem → Prop} {B : Bd}
/-- d[k] -/
def dGetK (kvs : List (Key × D)) (d : D) : Option D := (keyD d).bind fun k => valD kvs k
/-- k in d -/
def dInK (kvs : List (Key × D)) (d : D) : Option Bool := (keyD d).map fun k => (valD kvs k).isSome
/-- d[k] = v -/
noncomputable def dPutK (kvs : List (Key × D)) (d v : D) : Option (List (Key × D)) := (keyD d).bind fun k => chk (kvs.length < 1000000) (putD kvs k v)
end
def mapKO (f : D → Option (Key × D)) : List D → Option (List (Key × D))
  | [] => some []
  | d :: ds => (f d).bind fun p => (mapKO f ds).map fun r => p :: r
section
variable {X : Cx} {J : Gh} {ρ : DEnv} {M : Mem} {F F' H H' : Hp} {σ : St} {K : PySem.W.Frag} {pos p : Pos} {P : D → Mem → Prop}
variable {scope : Scope} {tg iter kx vx : Expr}
/-- {kx: vx for tg in iter}: the pairs one by one, nothing else changes -/
def DcW (X : Cx) (J : Gh) (scope : Scope) (vs : List Nat) (tg kx vx : Expr) (ρ : DEnv) (PE : List (Key × D) → Mem → Prop) (ds : List D) (M1 : Mem) : Prop := ∃ (f : D → Option (Key × D)) (ps : List (Key × D)), mapKO f ds = some ps ∧ ds.length ≤ 1000000 ∧
  (∀ d kv acc Dl, f d = some kv → M1 Dl = none → AsB X scope vs tg d (cuts ρ vs) fun ρ2 => EXb X J scope kx ρ2 (up M1 Dl (.dct acc)) fun y M3 => y = kD kv.1 ∧ M3 = up M1 Dl (.dct acc) ∧ EXb X J scope vx ρ2 (up M1 Dl (.dct acc)) fun z M4 => z = kv.2 ∧ M4 = up M1 Dl (.dct acc)) ∧ PE (mergeD [] ps) M1
variable {B : Bd}
end
end DX
namespace DX
open PySem PySem.Spec L2
open PyProof.Rows hiding St
section
variable {X : Cx} {J : Gh} {ρ : DEnv} {M M1 : Mem} {F F' H H' : Hp} {σ : St} {K : PySem.W.Frag} {P : D → Mem → Prop}
def dDictL (d : D) : Option (List (Key × D)) := (lstD d).bind fun l => (kvsD l).bind fun kv => some (mergeD [] kv)
end
end DX
namespace DX
open PySem PySem.Spec L2 PyProof.Rows StX
/-- a def that says super(): it has captured its class Dc in the cell cc -/
structure FunC (K : PySem.W.Frag) (x qual : Str) (params : Arguments) (body : List Stmt) (scope : Scope) (dvs : List V) (file : Str) (f c cc Dc : Addr) : Prop where
  ex : ∃ (oc : Value) (od : Option Addr) (dV kV doc pm : Value) (an : Option Addr) (ct : Value) (osl : Array (Option Value)),
    K.lookup f = some ⟨oc, od, .func (PySem.W.ksFn x qual params body scope dV kV doc pm an (.ref c) ct cc), osl⟩ ∧ PySem.W.codeIn K (.ref c) qual = true ∧ DflV K dV dvs
  kp : PySem.W.keepIn K (.ref f) = true
  cell : ∃ (cl : Value) (cld : Option Addr) (csl : Array (Option Value)), K.lookup cc = some ⟨cl, cld, .cell (some (.ref Dc)), csl⟩
  code : ∃ (cl : Value) (cld : Option Addr) (vs : Array Value) (csl : Array (Option Value)) (tf : Tok), K.lookup c = some ⟨cl, cld, .fields vs, csl⟩ ∧ vs[2]? = some (.str file tf)
  cls : ∃ cd, PySem.W.clsIn K Dc = some cd
/-- how super() finds the name in an instance of C -/
structure SupOf (K : PySem.W.Frag) (C Dc : Addr) (name : Str) (g : Addr) : Prop where
  at_ : PySem.W.ks_superIn K C Dc name = some (some (.ref g))
  ty : PySem.W.typeIn K (.ref g) = some (.type "function")
  fi : PySem.W.fnIn K g = true
  sub : PySem.W.mroIn K C (.ref Dc) = some true
  opq : PySem.W.nsIn K cStatics "thirdparty.any" = some none
/-- what the program says of super and of its own file -/
structure SupP (pg : Program) (file : Str) : Prop where
  file : ((pg.main.file : Str) == file) = true
  top : (pg.main.scope.names.lookup ("super" : Str)).isSome = false
def GXA (X : Cx) (J : Gh) (b0 : List Stmt) (st : List Stmt) (ρ : DEnv) (M : Mem) (B : Bd) : Prop :=
  ∀ (pins : List (Addr × Obj)) (s : Shared) (σ : L2.St) (H : Hp) (E : Ends), L2.Inv X pins σ H s → tSd X.K J ρ M B E σ H → PySem.wpAt (model X.prog X.w) X.A (.func b0 X.env) (execs st X.env) (SP X pins E) X.xe s
section
variable {X : Cx} {J : Gh} {e : Expr} {es : List Expr} {rest b0 : List Stmt} {ρ : DEnv} {M : Mem} {B : Bd} {p0 p1 apos pos spos : Pos} {RR : Addr → List (Str × D) → DEnv → Mem → Prop}
end
section
variable {pg : Program} {w : World} {K : PySem.W.Frag} {mg : Str → Option Value} {base : Heap} {x qual file : Str} {params : Arguments} {body : List Stmt} {scope : Scope} {f c cc Dc : Addr} {N pn : List Str} {k : Nat} {T : TrB}
abbrev nfS (x qual : Str) (params : Arguments) (body : List Stmt) (scope : Scope) (c cc : Addr) : NdefX.NF := ⟨x, qual, params, body, scope, [("__class__", cc)], c⟩
abbrev cxS (pg : Program) (w : World) (K : PySem.W.Frag) (mg : Str → Option Value) (base : Heap) (N : List Str) (x qual : Str) (params : Arguments) (body : List Stmt) (scope : Scope) (f c cc : Addr) (A : Around) (outer : List PySem.Env) (s : Shared) (H : Hp) (E : XK) : Cx :=
  NdefX.ncx (L2.CX pg w) pg w K mg base N (nfS x qual params body scope c cc) f A outer s H E
def BodyS (pg : Program) (w : World) (K : PySem.W.Frag) (mg : Str → Option Value) (base : Heap) (k : Nat) (x qual : Str) (params : Arguments) (body : List Stmt) (scope : Scope) (f c cc : Addr) (N ps : List Str) (T : TrB) : Prop :=
  ∀ (A : Around) (outer : List PySem.Env) (s : Shared) (H F0 : Hp) (E : XK) (ds : List D) (M : Mem) (P : D → Mem → Prop) (R : RX), Room k (A.deeper (NdefX.envF (nfS x qual params body scope c cc) f s.heap.objs.size)) → T ds M P R →
      Lets (cxS pg w K mg base N x qual params body scope f c cc A outer s H E) (ghF F0) (fun C gs _ M' => R C gs M') →
      PassesOwn (model pg w) (cxS pg w K mg base N x qual params body scope f c cc A outer s H E).A (cxS pg w K mg base N x qual params body scope f c cc A outer s H E).env (cxS pg w K mg base N x qual params body scope f c cc A outer s H E).xe →
      Kx K F0 R E →
      GXA (cxS pg w K mg base N x qual params body scope f c cc A outer s H E) (ghF F0) body body (startD (N.length - ps.length) ds) M ⟨fun _ M' => P .non M', P, fun _ _ => False, fun _ _ => False⟩
end
end DX
namespace DX
open PySem PySem.Spec L2 PyProof.Rows StX
/-- its code, the cell that it has captured, the class in the cell -/
def supA (K : PySem.W.Frag) (a : Addr) : Addr × Addr × Addr := match K.lookup a with
  | some ⟨_, _, .func fd, _⟩ => (match fd.code with
    | .ref c => (match fd.closure with
      | [(_, cc)] => (match K.lookup cc with
        | some ⟨_, _, .cell (some (.ref D)), _⟩ => (c, cc, D)
        | _ => (0, 0, 0))
      | _ => (0, 0, 0))
    | _ => (0, 0, 0))
  | _ => (0, 0, 0)
def fileB (file : Str) : Option Value → Bool
  | some (.str fl _) => decide (fl = file)
  | _ => false
def supB (K : PySem.W.Frag) (a : Addr) (q file : Str) (dvs : List V) : Bool :=
  PySem.W.keepIn K (.ref a) && ((match K.lookup a with
    | some ⟨_, _, .func fd, _⟩ => decide (fd.code = .ref (supA K a).1) && (PySem.W.codeIn K fd.code q && (decide (fd.closure = [(("__class__" : Str), (supA K a).2.1)]) && He.dflB K fd.defaults dvs))
    | _ => false) && ((match K.lookup (supA K a).2.1 with
      | some ⟨_, _, .cell (some v), _⟩ => decide (v = .ref (supA K a).2.2)
      | _ => false) && ((match K.lookup (supA K a).1 with
        | some ⟨_, _, .fields vs, _⟩ => fileB file vs[2]?
        | _ => false) && (PySem.W.clsIn K (supA K a).2.2).isSome)))
/-- how super() finds a name, looked at -/
def supO (K : PySem.W.Frag) (C Dc : Addr) (name : Str) (g : Addr) : Bool :=
  He.eqO (PySem.W.ks_superIn K C Dc name) (some (some (.ref g))) && (decide (PySem.W.typeIn K (.ref g) = some (.type "function")) && (PySem.W.fnIn K g && (decide (PySem.W.mroIn K C (.ref Dc) = some true) && He.eqO (PySem.W.nsIn K cStatics "thirdparty.any") (some none))))
/-- an empty tuple -/
def tup0B (K : PySem.W.Frag) (a : Addr) : Bool := match K.lookup a with
  | some ⟨.type c, none, .seq its _, _⟩ => decide (c = "tuple") && decide (its.toList = [])
  | _ => false
end DX
namespace DX
open PySem PySem.Spec L2 GenW
open PyProof.Rows hiding St
section
variable {M : Model} {A : Around} {R : GenEnd} {Y : Protocol} {n : Nat} {s₀ : Shared} {c : Code} {fs : List Frame} {s : Shared} {env : Env}
  {K : Flow → Sem PySem.Fin} {J : Value → Sem PySem.Fin} {gd : Bool → Bool} {lv : List Value → List Value}
end
section
variable {prog : Program} {w : World} {A : Around} {R : GenEnd} {Y : Protocol} {n : Nat} {s₀ : Shared} {fs : List Frame} {s : Shared} {env : Env}
abbrev noted (env : Env) (e : Value) : Sem PySem.Fin := (do noteFrame e env; theTreesLotGoes e : Sem Unit).wrap (fun _ => .raise e) .raise id id
end
section
variable {X : Cx}
def tGIf (tc : TT) (ta tb : TGn) : TGn := fun D ys σ H => tc σ H fun b H1 => if b = true then ta D ys σ H1 else tb D ys σ H1
def tGFor (wi : TI) (g : TG) (tb : TGn) : TGn := fun D ys σ H => wi σ H fun J H1 => ∃ W : Nat → Nat → List V → St → Hp → Prop, (∃ m, W 0 m ys σ H1) ∧ ∀ i m ys σ H, W i m ys σ H →
  (J.stop i H ∧ D.nx ys σ H) ∨ (J.go i H ∧ ∃ N : List V → St → Hp → Prop, (∀ ys' σ' H', N ys' σ' H' → ∃ m', m' < m ∧ W (i + 1) m' ys' σ' H') ∧ ∀ x H', J.yld i H x H' → g x σ H' fun σ2 H2 => tb { D with nx := N, ct := N, bk := D.nx } ys σ2 H2)
end
end DX
namespace DX
open PySem PySem.Spec L2 GenW
open PyProof.Rows hiding St
def GBd.thn (B : GBd) (nx : List D → DEnv → Mem → Prop) : GBd := { B with nx := nx }
section
variable {X : Cx} {J : Gh} {e a b c : Expr} {es : List Expr} {st : Stmt} {rest sts : List Stmt} {ys : List D} {ρ ρ' : DEnv} {M M0 M' : Mem} {F F' H H' : Hp} {σ : St} {B : GBd} {K : PySem.W.Frag} {pos p yp : Pos} {E : GEnds}
end
abbrev TrG := List D → Mem → (List D → Mem → Prop) → Prop
abbrev TrGX := List D → List D → Mem → (List D → Mem → Prop) → Prop
structure GFnX (pg : Program) (w : World) (K : PySem.W.Frag) (mg : Str → Option Value) (base : Heap) (k : Nat) (f : Addr) (ks : List Str) (T : TrGX) : Prop where
  go : ∀ (A : Around) (outer : List PySem.Env) (s : Shared) (H F : Hp) (M : Mem) (ds zs : List D) (cont : List D → Mem → Prop) (us ws : List Value) (vs xs : List V) (Q : List V → Hp → Prop), Room k A → Env0 pg w K mg base A outer s H → Vals vs us → Vals xs ws → ws.length = ks.length →
    Ok K F M H → Rps K F vs ds → Rps K F xs zs → T ds zs M cont → (∀ ys vys M' F' H', cont ys M' → Same F F' → Ok K F' M' H' → Rps K F' vys ys → Q vys H') →
    codeAny (model pg w) A (.call (.ref f) ⟨us, ks.zip ws⟩) (fun r s' => match r with | .ok (.ret u) => GMade pg w k outer H s [] Q noK u s' | _ => False) s
def GBodyX (pg : Program) (w : World) (K : PySem.W.Frag) (mg : Str → Option Value) (base : Heap) (k : Nat) (f : Addr) (qual : Str) (body : List Stmt) (scope : Scope) (N ps : List Str) (T : TrG) : Prop :=
  ∀ (cdv : Value), CodeAt K f cdv → ∀ (A : Around) (outer : List PySem.Env) (s : Shared) (H F0 : Hp) (pn : List (Addr × Obj)) (ds : List D) (M : Mem) (cont : List D → Mem → Prop), Room k (A.deeper (PyProof.Rows.envOfC qual scope s.heap.objs.size f cdv)) → T ds M cont →
    PassesOwn (model pg w) (gcxOf pg w K mg base N qual scope f cdv A outer s H noK pn).A (gcxOf pg w K mg base N qual scope f cdv A outer s H noK pn).env (gcxOf pg w K mg base N qual scope f cdv A outer s H noK pn).xe →
    GGX (gcxOf pg w K mg base N qual scope f cdv A outer s H noK pn) (ghF F0) body [] (startD (N.length - ps.length) ds) M ⟨fun ys _ M' => cont ys M', fun ys d M' => d = .non ∧ cont ys M', fun _ _ _ => False, fun _ _ _ => False⟩
section
variable {pg : Program} {w : World} {K : PySem.W.Frag} {mg : Str → Option Value} {base : Heap} {x qual : Str} {params : Arguments} {body : List Stmt} {scope : Scope} {kws : List (Str × V)} {f : Addr} {fd : FuncData} {N pn : List Str} {k : Nat} {T : TrG}
end
section
variable {X : Cx} {J : Gh} {es : List Expr} {kws : List Keyword} {ks : List Str} {ρ : DEnv} {M : Mem} {pos pos' p p1 : Pos} {x : Str} {P : D → Mem → Prop} {k : Nat} {f : Addr} {T : TrGX}
end
end DX
namespace TupF
open PySem PySem.Spec L2 PyProof.Rows DX
def tTupF (t : TA) : TE := fun σ H Q => t σ H fun xs H1 => xs.length ≤ sizeLine ∧ ∀ p (ob : Obj), H1 p = none → (ob.cls = .type "tuple" ∧ ob.dict = none) → Q (.ref p) (upd H1 p (.frz ob (.tup xs)))
end TupF
namespace DX
open PySem PySem.Spec L2 PyProof.Rows StX
section
variable {X : Cx} {J : Gh} {es : List Expr} {ρ : DEnv} {M : Mem} {P : D → Mem → Prop} {pos : Pos} {k : Nat} {x dx : D}
/-- tuple(x) for a list, or a tuple whose object is known -/
def sTup : D → Option (List D)
  | .lst ds => some ds
  | .stup ds => some ds
  | _ => none
@[simp] theorem sTup_l {l : List D} : sTup (.lst l) = some l := rfl
@[simp] theorem sTup_s {l : List D} : sTup (.stup l) = some l := rfl
@[simp] theorem unstD_s {l : List D} : unstD (.stup l) = .tup l := rfl
@[simp] theorem unstD_l {l : List D} : unstD (.lst l) = .lst l := rfl
@[simp] theorem unstD_t {l : List D} : unstD (.tup l) = .tup l := rfl
end
end DX
namespace DX
open PySem PySem.Spec L2 PyProof.Rows
noncomputable def cInG (a : D) : D → Option Bool
  | .lst ds => chk (good a ∧ good (.lst ds) ∧ dep a ≤ 50 ∧ dep (.lst ds) ≤ 50) (ds.any fun z => eqD z a)
  | _ => none
noncomputable def cNinG (a c : D) : Option Bool := (cInG a c).map (!·)
section
variable {X : Cx} {M : Mem} {x y dx dy : D} {t : Bool} {P : D → Mem → Prop}
end
end DX
namespace DX
open PySem PySem.Spec L2 PyProof.Rows StX
section
variable {prog : Program} {w : World} {A : Around} {E : Value → Shared → Prop} {s : Shared} {K : PySem.W.Frag} {x y C C' L f : Addr} {h₀ : Heap} {m : Str → Option Value} {ox oy : Obj} {od od' : Option Obj}
end
section
variable {X : Cx} {J : Gh} {M : Mem} {P : D → Mem → Prop}
/-- a text's index of a text -/
def dSidx : D → D → Option D
  | .str z, .str y => match Builtin.Str.occurrences z y 0 z.length 1 with
    | i :: _ => some (.int ((i : Nat) : Int))
    | [] => none
  | _, _ => none
end
end DX
namespace TupNe
open PySem PySem.SeqAt
open AutoSeq1 (wpAny_loadPart')
open MeetsSeq MeetsSeq2 MeetsSeq3 SeqRoads2
section
variable {prog : Program} {w : World} {A : Around} {R : Result → Shared → Prop}
end
section
variable {prog : Program} {w : World} {A : Around} {E : Value → Shared → Prop} {s : Shared}
end
end TupNe
namespace DX
open PySem PySem.Spec L2 PyProof.Rows StX
section
variable {X : Cx} {J : Gh} {M : Mem} {P : D → Mem → Prop} {pins : List (Addr × Obj)} {σ : L2.St} {F : Hp} {k : Nat} {C g : Addr} {T : TrX}
/-- behind some calls that make objects alone -/
def IvX (X : Cx) (pins : List (Addr × Obj)) (σ : L2.St) (F : Hp) (M : Mem) (s' : Shared) : Prop := ∃ H' F', L2.Inv X pins σ H' s' ∧ Same F F' ∧ Ok X.K F' M H'
theorem turnX (G : FnX X.prog X.w X.K X.mg X.base false k g [] T) (hm : Meth X.K C "__eq__" g) {A : Around} (sb : L2.Sub X k A) {x y : V} {u v : Value} {gs hs : List (Str × D)} (rx : Rp X.K F x (.ins C gs)) (ry : Rp X.K F y (.ins C hs)) (ru : RelV x u) (rv : RelV y v)
    (t : T [.ins C gs, .ins C hs] [] M (fun d M2 => d = .bl true ∧ M2 = M) noX) {s : Shared} (q : IvX X pins σ F M s) : wpAny (model X.prog X.w) A (eqBool u v) (fun r s2 => r = true ∧ IvX X pins σ F M s2) X.xe s := by
  obtain ⟨H, F1, I, e1, o⟩ := q
  have rx1 := rx.mono e1
  have ry1 := ry.mono e1
  cases rx with
  | @ins a _ dx fs _ h1 _ =>
    cases ry with
    | @ins b _ dy fs' _ h2 _ =>
      obtain rfl : u = Value.ref a := ru
      obtain rfl : v = Value.ref b := rv
      have h1 := o.ex _ _ (e1 _ _ h1)
      have h2 := o.ex _ _ (e1 _ _ h2)
      by_cases hab : a = b
      · subst hab
        exact SeqAt.EqAt.same (A := A) (s := s) (.ref a) X.prog X.w X.xe _ ⟨rfl, H, F1, I, e1, o⟩
      · obtain ⟨ox, od, J0, _⟩ := insC_at (X := X) I (.inr ⟨dx, fs, h1⟩)
        obtain ⟨oy, od', J1, _⟩ := insC_at (X := X) I (.inr ⟨dy, fs', h2⟩)
        obtain ⟨m, hF⟩ := I.fr
        refine GQ.eqBool_refG hab ?_
        refine PySem.W.cmp_K (op := .Eq) (tb := .ref C) sb.room.units0 hF I.ok.mod.kin J0 J1.type (by simp [PySem.W.notFirst]) hm.at_ hm.fn ?_
        have e0 : Env0 X.prog X.w X.K X.mg X.base A X.stack s H := by
          have e := I.env0
          exact ⟨by rw [sb.fr]; exact e.frames, e.mod, e.bs, e.bsz, e.funs, e.frf, e.hok, e.bare⟩
        refine wpAny_call (codeAny_mono (fnR_ofX G A X.stack s H [.ref a, .ref b] [V.ref a, V.ref b] (fun v H' => v = .bl true ∧ ∃ F', Same F F' ∧ Ok X.K F' M H') (fun _ _ _ => False) sb.room e0 (.cons rfl (.cons rfl .nil)) ⟨F1, M, _, _, noX, o, .cons rx1 (.cons ry1 .nil), t, fun d v M' F' H' q e o' r => ?_, Kx.no⟩) fun res s' end_ => ?_)
        · obtain ⟨rfl, rfl⟩ := q
          cases r
          exact ⟨rfl, F', e1.trans e, o'⟩
        · match res, end_ with
          | .error e, end_ => exact pass_no pins σ H s e s' I end_
          | .ok (.ret _), end_ =>
            obtain ⟨z, H', I', rz, rfl, F', e', o'⟩ := I.after end_
            cases rz
            exact ⟨true, rfl, rfl, H', F', I', e', o'⟩
          | .ok .next, end_ => exact end_.elim
          | .ok .brk, end_ => exact end_.elim
          | .ok .cont, end_ => exact end_.elim
/-- one by one the same, by f -/
def eqAllT (f : D → D → Option Unit) : List D → List D → Option Unit
  | [], [] => some ()
  | a :: as, b :: bs => (f a b).bind fun _ => eqAllT f as bs
  | _, _ => none
def itemsT : D → Option (List D)
  | .tup ds => some ds
  | _ => none
end
end DX
namespace DX
open PySem PySem.Spec
section
variable {prog : Program} {w : World} {M : Model} {A : Around} {E : Value → Shared → Prop} {R : Result → Shared → Prop} {h : Heap} {g : Array GenState} {d : Drawn} {t : Nat} {os : OsState} {kw : List (Str × Value)}
variable {nm q : Str} {C N : Addr} {bs bm bmB : List Value} {hdct : Bool} {sn : List Str} {sub : List Value} {ab : Bool} {col : Option Bool} {dd : Option Addr} {k0 k1 k2 k3 k5 : Option Value} {B newId initId : String}
end
open L2 PyProof.Rows StX
section
variable {X : Cx} {J : Gh} {e a b o : Expr} {es : List Expr} {kws : List Keyword} {ks : List Str} {ρ : DEnv} {M M1 M2 : Mem} {F F' H H1 H' : Hp} {σ : L2.St} {K : PySem.W.Frag} {pos p rpos : Pos} {x f f1 f2 : Str} {newId : String} {bmB : List Value} {C g : Addr} {fd : FuncData} {ps : List Str} {P : D → Mem → Prop} {pins : List (Addr × Obj)} {s : Shared}
/-- the arguments by place, by name, two by name the other way round -/
structure Sel (gs : {α : Type} → List α → List α → List α) : Prop where
  v : ∀ {vs : List V} {us : List Value} {xs : List V} {ws : List Value}, Vals vs us → Vals xs ws → Vals (gs vs xs) (gs us ws)
  r : ∀ {K : PySem.W.Frag} {F : Hp} {vs xs : List V} {ds zs : List D}, Rps K F vs ds → Rps K F xs zs → Rps K F (gs vs xs) (gs ds zs)
def selP {α : Type} (a b : List α) : List α := a
def selK {α : Type} (a b : List α) : List α := b
def selR {α : Type} (a b : List α) : List α := match b with
  | [x, y] => [y, x]
  | l => l
/-- an own error class without an own __init__ -/
structure ErrN (newId : String) (bmB : List Value) (K : PySem.W.Frag) (C : Str) : Prop where
  exc : PySem.W.excIn K (He.ga K C) bmB newId = true
  kC : PySem.W.keepIn K (.ref (He.ga K C)) = true
  exC : PySem.W.subIn K (.ref (He.ga K C)) (.type "BaseException") = some true
  tyC : PySem.W.typeIn K (.ref (He.ga K C)) = some (.type "type")
  nz : He.ga K C ≠ 0
def errNB (newId : String) (bmB : List Value) (K : PySem.W.Frag) (C : Str) : Bool :=
  PySem.W.excIn K (He.ga K C) bmB newId && (PySem.W.keepIn K (.ref (He.ga K C)) && (decide (PySem.W.subIn K (.ref (He.ga K C)) (.type "BaseException") = some true) && ((decide (PySem.W.typeIn K (.ref (He.ga K C)) = some (.type "type")) && decide (He.ga K C ≠ 0)))))
end
end DX
namespace DX
open PySem PySem.Spec L2
def revD (L : List (Addr × Addr)) (x y : D) : Bool := match x, y with
  | .ins C _, .ins C' _ => decide ((C, C') ∈ L)
  | _, _ => false
def eqUD (L : List Addr) (Lr Lo : List (Addr × Addr)) (f : D → D → Option D) (x y : D) : Option Bool :=
  if revD Lr x y = true then (isU L y).bind fun _ => (f y x).bind blD else (isU L x).bind fun _ => (othU Lo x y).bind fun _ => (f x y).bind blD
section
variable {X : Cx} {J : Gh} {M : Mem} {P : D → Mem → Prop}
end
end DX
namespace EnZ
open PySem PySem.Spec L2 PyProof.Rows
open PySem.W (kdx_alive)
abbrev ZipF (h : Heap) (z TI TO : Addr) (f0 : Value) (f : Bool) : Prop :=
  h.get? z = some { cls := .type "zip", dict := none, data := .fields #[f0, .bool f, .bool false, .ref TI, .ref TO], slots := #[] }
section
variable {prog : Program} {w : World} {A : Around} {E : Value → Shared → Prop} {s : Shared} {z TI TO i1 i2 : Addr} {fp1 fp2 : List Addr} {n1 n2 i : Nat} {P1 P2 : Nat → Value → Prop} {St1 St2 : Nat → Heap → Prop} {a1 a2 f0 : Value} {f : Bool}
def Free (h : Heap) (f0 : Value) : Prop := f0 = .none ∨ ∃ T : Addr, f0 = rawInt T ∧ h.get? T = none
end
open ZMix
/-- both walked side by side and counted -/
def ItE (t u : Bool) (K : PySem.W.Frag) (a b : Addr) : It :=
  ⟨fun i H => ∃ xs ys : List V, ∃ x y : V, SqK t K H a xs ∧ SqK u K H b ys ∧ xs[i]? = some x ∧ ys[i]? = some y ∧ xs.length = ys.length,
   fun i H v H' => ∃ n m : Addr, ∃ x y : V, v = .ref m ∧ H n = none ∧ m ≠ n ∧ H m = none ∧ H' = upd (upd H n (.tup [x, y])) m (.tup [.int (i : Nat), .ref n]) ∧ (∀ xs, SqK t K H a xs → xs[i]? = some x) ∧ (∀ ys, SqK u K H b ys → ys[i]? = some y),
   fun i H => ∃ xs ys : List V, SqK t K H a xs ∧ SqK u K H b ys ∧ i = xs.length ∧ xs.length = ys.length⟩
structure ApartE (e z TI TO i1 i2 a b : Addr) : Prop where
  ez : e ≠ z
  eTI : e ≠ TI
  eTO : e ≠ TO
  ei1 : e ≠ i1
  ei2 : e ≠ i2
  ea : e ≠ a
  eb : e ≠ b
def iEnZ (t u : Bool) (K : PySem.W.Frag) (ta : TA) : TI := fun σ H R => ta σ H fun vs H1 => ∃ a b : Addr, ∃ xs ys : List V, vs = [.ref a, .ref b] ∧ SqK t K H1 a xs ∧ SqK u K H1 b ys ∧ R (ItE t u K a b) H1
end EnZ
namespace DX
open PySem PySem.Spec L2 ZMix EnZ
variable {X : Cx} {J : Gh} {M : Mem} {F : Hp} {K : PySem.W.Frag} {ρ : DEnv} {a b : Expr} {p p' pos pos' : Pos}
noncomputable def dEnZ (v w : D) : Option (List D) := match v, w with
  | .tup a, .tup b => chk (a.length = b.length) (enumD 0 (zipD a b))
  | _, _ => none
end DX
namespace DX
open PySem PySem.Spec L2 PyProof.Rows
section
variable {X : Cx} {J : Gh} {ρ : DEnv} {M : Mem} {P : D → Mem → Prop} {x : Str} {pos pos2 pos3 : Pos}
end
end DX
namespace DX
open PySem PySem.Spec L2
def keyT : D → Option (List Int)
  | .tup ds => intsD ds
  | .stup ds => intsD ds
  | _ => none
def intV : D → Option Int
  | .int i => some i
  | _ => none
/-- d[k], k in d, d[k] = v (k not there), d.setdefault(k, v) -/
def dGetX (kvs : KXT) (d : D) : Option D := (keyT d).bind fun k => (atX kvs k).map D.int
def dInX (kvs : KXT) (d : D) : Option Bool := (keyT d).map fun k => (atX kvs k).isSome
noncomputable def dPutX (kvs : KXT) (d v : D) : Option KXT := (keyT d).bind fun k => (intV v).bind fun i => chk (kvs.length < 1000000 ∧ atX kvs k = none) (kvs ++ [(k, i)])
noncomputable def dSetX (kvs : KXT) (d v : D) : Option (D × KXT) := (keyT d).bind fun k => (intV v).bind fun i => chk (kvs.length < 1000000) (match atX kvs k with | some x => (.int x, kvs) | none => (.int i, kvs ++ [(k, i)]))
section
variable {K : PySem.W.Frag} {F F' H H' : Hp} {M : Mem}
theorem XR.keys {es : DTK.TE3} {kvs : KXT} (r : XR K F es kvs) : ∀ p ∈ es, SqT K F p.2.1 (p.1.map V.int) := by
  unfold XR at r
  induction r with
  | nil => intro p hp; cases hp
  | cons h t ih =>
    intro p hp
    rcases List.mem_cons.mp hp with rfl | hp
    · exact h.2.1
    · exact ih p hp
theorem keyT_rp {d : D} {ks : List Int} {v : V} (h : keyT d = some ks) (r : Rp K F v d) : ∃ b, v = .ref b ∧ SqT K F b (ks.map V.int) := by
  unfold keyT at h
  split at h
  · have := ints_eq h; subst this
    cases r with
    | tup h1 r => have := Rps.ints r; subst this; exact ⟨_, rfl, h1⟩
  · have := ints_eq h; subst this
    rename_i e
    generalize hg : ks.map D.int = gs at r
    cases r with
    | stup h1 c r => subst hg; have := Rps.ints r; subst this; exact ⟨_, rfl, .inl (.inr ⟨_, h1⟩)⟩
    | stupK h1 c =>
      obtain rfl : ks = [] := List.map_eq_nil_iff.mp hg
      obtain ⟨c1, c2, n, c3⟩ := c
      exact ⟨_, rfl, .inr ⟨_, #[], n, h1, c1, c3, Nat.zero_le _, .nil⟩⟩
  · cases h
end
section
variable {X : Cx} {J : Gh} {e a b o : Expr} {es : List Expr} {ρ : DEnv} {M M1 : Mem} {F F' H H' : Hp} {σ : St} {K : PySem.W.Frag} {pos p apos cpos : Pos} {x m f : Str} {P : D → Mem → Prop} {B : Bd}
/-- {}, to hold tuples as keys -/
def tDNewX : TE := fun _ H Q => ∀ p, H p = none → Q (.ref p) (upd H p (DTK.DTX p []))
/-- d[k] -/
def tDGetX' (K : PySem.W.Frag) (td ty : TE) : TE := fun σ H Q => td σ H fun x H1 => ty σ H1 fun y H2 => ∃ (a b : Addr) (es : DTK.TE3) (ks : List Int) (v : V), x = .ref a ∧ y = .ref b ∧ H2 a = some (DTK.DTX a es) ∧ (∀ p ∈ es, SqT K H2 p.2.1 (p.1.map V.int)) ∧ SqT K H2 b (ks.map V.int) ∧ DTK.atV es ks = some v ∧ Q v H2
/-- d[k] = v, k not there -/
def sDPutX (K : PySem.W.Frag) (td ty tv : TE) : TS := fun D σ H => tv σ H fun v H1 => td σ H1 fun x H2 => ty σ H2 fun y H3 => ∃ (a b : Addr) (es : DTK.TE3) (ks : List Int), x = .ref a ∧ y = .ref b ∧ H3 a = some (DTK.DTX a es) ∧ (∀ p ∈ es, SqT K H3 p.2.1 (p.1.map V.int)) ∧ SqT K H3 b (ks.map V.int) ∧ es.length < sizeLine ∧ DTK.atV es ks = none ∧ D.nx σ (upd H3 a (DTK.DTX a (es ++ [(ks, b, v)])))
theorem XR.snoc {es : DTK.TE3} {kvs : KXT} {ks : List Int} {bb : Addr} {i : Int} (r : XR K F es kvs) (h : SqT K F bb (ks.map V.int)) : XR K F (es ++ [(ks, bb, V.int i)]) (kvs ++ [(ks, i)]) := Paired.snoc r ⟨rfl, h, rfl⟩
/-- d.setdefault(k, v) -/
def tDSetX (K : PySem.W.Frag) (td ty tx : TE) : TE := fun σ H Q => td σ H fun x H1 => ∃ (a : Addr) (es1 : DTK.TE3), x = .ref a ∧ H1 a = some (DTK.DTX a es1) ∧ (∀ p ∈ es1, SqT K H1 p.2.1 (p.1.map V.int)) ∧ ty σ H1 fun y H2 => tx σ H2 fun z H3 => ∃ (b : Addr) (es : DTK.TE3) (ks : List Int), y = .ref b ∧ H3 a = some (DTK.DTX a es) ∧ (∀ p ∈ es, SqT K H3 p.2.1 (p.1.map V.int)) ∧ SqT K H3 b (ks.map V.int) ∧ es.length < sizeLine ∧
  (∀ v, DTK.atV es ks = some v → Q v H3) ∧ (DTK.atV es ks = none → Q z (upd H3 a (DTK.DTX a (es ++ [(ks, b, z)]))))
end
end DX
namespace LstNe
open PySem PySem.SeqAt
open AutoSeq1 (wpAny_loadPart')
open MeetsSeq MeetsSeq2 MeetsSeq3 SeqRoads2
section
variable {prog : Program} {w : World} {A : Around} {R : Result → Shared → Prop}
end
section
variable {prog : Program} {w : World} {A : Around} {E : Value → Shared → Prop} {s : Shared}
end
end LstNe
namespace DX
open PySem PySem.Spec L2 PyProof.Rows StX
/-- two instances of one class of L, equal by f -/
noncomputable def eqOU (L : List Addr) (f : D → D → Option D) (a b : D) : Option Unit := match a, b with
  | .ins C gs, .ins C' hs => (chk (C = C' ∧ C ∈ L) ()).bind fun _ => (f (.ins C gs) (.ins C' hs)).bind fun v => match v with
    | .bl true => some ()
    | _ => none
  | _, _ => none
noncomputable def eqLf (L : List Addr) (f : D → D → Option D) (a b : D) : Option Unit := match a, b with
  | .tup as, .tup bs => (intsD as).bind fun x => (intsD bs).bind fun y => chk (x = y) ()
  | a, b => eqOU L f a b
noncomputable def eqL2 (L : List Addr) (f : D → D → Option D) (a b : D) : Option Unit := match a, b with
  | .lst as, .lst bs => eqAllT (eqLf L f) as bs
  | a, b => eqLf L f a b
noncomputable def neD (L : List Addr) (f : D → D → Option D) (a b : D) : Option Unit := match a, b with
  | .lst as, .lst bs => eqAllT (eqL2 L f) as bs
  | _, _ => none
section
variable {X : Cx} {J : Gh} {M : Mem} {P : D → Mem → Prop} {pins : List (Addr × Obj)} {σ : L2.St} {F : Hp} {k : Nat} {L : List Addr} {TU : TrX} {f : D → D → Option D}
abbrev UEq (X : Cx) (k : Nat) (L : List Addr) (TU : TrX) : Prop := UFn X.prog X.w X.K X.mg X.base false [] k L (fun C g => Meth X.K C "__eq__" g ∧ PySem.W.findIn X.K (.ref C) "__ne__" = some (some (.builtin "object.__ne__")) ∧ PySem.W.mroIn X.K C (.type "object") = some true) TU
noncomputable def neNT (L : List Addr) (f : D → D → Option D) (a b : D) : Option Bool := match neD L f a b with
  | some _ => some false
  | none => cNe a b
end
end DX
namespace EnL
open PySem PySem.Spec L2 PyProof.Rows
open EnK
/-- the list at a, its items in new pairs, counted from k -/
def IteKL (K : PySem.W.Frag) (a : Addr) (k : Nat) : It :=
  ⟨fun i H => ∃ (xs : List V) (x : V), SqL K H a xs ∧ xs[i]? = some x, fun i H v H' => ∃ T x, v = .ref T ∧ H T = none ∧ H' = upd H T (.tup [.int (k + i : Nat), x]) ∧ ∀ xs, SqL K H a xs → xs[i]? = some x, fun i H => ∃ xs : List V, SqL K H a xs ∧ xs.length ≤ i⟩
def iEnumKL (K : PySem.W.Frag) (ta tk : TA) : TI := fun σ H R => ta σ H fun vs H1 => tk σ H1 fun zs H2 => ∃ a xs, ∃ k : Nat, vs = [.ref a] ∧ zs = [.int (k : Int)] ∧ k < 1000000 ∧ SqL K H2 a xs ∧ R (IteKL K a k) H2
end EnL
namespace DX
open PySem PySem.Spec L2 EnL
def dEnumKA : D → D → Option (List D)
  | .tup ds, .int k => if 0 ≤ k ∧ k < 1000000 then some (enumD k.toNat ds) else none
  | .lst ds, .int k => if 0 ≤ k ∧ k < 1000000 then some (enumD k.toNat ds) else none
  | _, _ => none
section
variable {X : Cx} {J : Gh} {M : Mem} {F : Hp} {K : PySem.W.Frag} {ρ : DEnv} {a b : Expr} {p pos kp : Pos}
end
end DX
namespace DX
open PySem PySem.Spec L2
def whileC {S R : Type} (c : S → Option Bool) (f : S → Option (Ctl S R)) : Nat → S → Option (Ctl S R)
  | 0, _ => none
  | n + 1, s => (c s).bind fun t => if t = true then (f s).bind fun
    | .go s' => whileC c f n s'
    | .brk s' => some (.go s')
    | .ret r => some (.ret r) else some (.go s)
section
variable {S R : Type} {X : Cx} {J : Gh} {M : Mem} {B : Bd} {ρ : DEnv} {stm : List Stmt} {pos : Pos}
end
end DX
namespace DX
open PySem PySem.Spec L2 PyProof.Rows StX
section
variable {X : Cx} {J : Gh} {ρ : DEnv} {M : Mem} {pos p rpos : Pos} {B : Bd} {RR : Addr → List (Str × D) → DEnv → Mem → Prop} {newId : String} {bmB : List Value}
end
end DX
namespace DX
open PySem PySem.Spec L2
end DX
namespace DX
open PySem PySem.Spec L2
/-- one of two, by the place -/
def pick2 {A : Type} (i : D) (a b : Option A) : Option A := match i with
  | .int k => if k = 0 then a else if k = 1 then b else none
  | _ => none
end DX
namespace DX
open PySem PySem.Spec L2 PyProof.Rows
section
variable {X : Cx} {J : Gh} {o : Expr} {ρ : DEnv} {M : Mem} {P : D → Mem → Prop} {apos cpos : Pos}
theorem Rps.dropLast {K : PySem.W.Frag} {F : Hp} {v : List V} {d : List D} (h : Rps K F v d) : Rps K F v.dropLast d.dropLast := by
  have := h.eraseIdx (v.length - 1)
  rw [List.eraseIdx_length_sub_one, h.length, List.eraseIdx_length_sub_one] at this
  exact this
end
end DX
namespace DX
open PySem PySem.Spec L2 PyProof.Rows StX LamX
def lamS1B (sc scope : Scope) (N : List Str) (a : Str) : Bool :=
  (decide (scope.kind = .function) && (!scope.isCoroutine && !scope.isGenerator)) && (decide (scope.names.lookup a = some .local) && (!decide (a ∈ N) && scope.names.all fun y => (!decide (y.2 = .local) || decide (y.1 = a)) && (!decide (y.2 = .cell) && (!decide (y.2 = .free) || (decide (sc.names.lookup y.1 = some .cell) || decide (sc.names.lookup y.1 = some .free))))))
/-- the lambda's body, entered at s from the frames outer; its parameter stands behind the maker's names -/
def lamCx1 (X : Cx) (A : Around) (outer : List PySem.Env) (s : Shared) (H : Hp) (E : XK) (scope : Scope) (f c' : Addr) (a : Str) : Cx := { lamCx X A outer s H E scope f c' with N := X.N ++ [a] }
theorem En.snoc {K : PySem.W.Frag} {F : Hp} {v : V} {d : D} (r : Rp K F v d) : ∀ {σ : L2.St} {ρ : DEnv}, En K F σ ρ → En K F (σ ++ [some v]) (ρ ++ [some d])
  | _, _, .nil => .cons (fun x q => ⟨v, rfl, by cases q; exact r⟩) .nil
  | _, _, .cons h t => .cons h (En.snoc r t)
section
variable {X : Cx} {pins : List (Addr × Obj)} {σ : L2.St} {H HZ F : Hp} {M : Mem} {s s1 : Shared}
end
section
variable {X : Cx} {pins : List (Addr × Obj)} {σ : L2.St} {H F : Hp} {M : Mem} {s : Shared}
/-- what the lambda's body does, wherever it is called -/
abbrev LBody (X : Cx) (gl : Bool) (kb : Nat) (scope : Scope) (a : Str) (body : Expr) (ρ : DEnv) (T : TL) : Prop :=
  ∀ (A : Around) (outer : List PySem.Env) (s : Shared) (H : Hp) (E : XK) (f c' : Addr) (J : Gh) (d : D) (N : Mem) (P : D → Mem → Prop) (R : RX), (gl = true → A.guards = some []) → Room kb (A.deeper (lamEnv X scope s.heap.objs.size f c')) → Lets (lamCx1 X A outer s H E scope f c' a) J (fun C gs _ M' => R C gs M') → T d N P R →
    EX (lamCx1 X A outer s H E scope f c' a) J body (ρ ++ [some d]) N P
end
section
variable {pg : Program} {w : World} {K : PySem.W.Frag} {mg : Str → Option Value} {base : Heap} {x qual : Str} {params : Arguments} {body : List Stmt} {scope : Scope} {kws : List (Str × V)} {f g : Addr} {fd : FuncData} {N ps : List Str} {k kb : Nat} {gd gl : Bool}
end
end DX
namespace DX
open PySem PySem.Spec L2 PyProof.Rows StX LamX
abbrev TrC := Addr → TL → TrB
abbrev TrCX := Addr → TL → TrX
section
variable {pg : Program} {w : World} {K : PySem.W.Frag} {mg : Str → Option Value} {base : Heap} {x qual : Str} {params : Arguments} {body : List Stmt} {scope : Scope} {kws : List (Str × V)} {f : Addr} {fd : FuncData} {N ps : List Str} {k kb : Nat} {gd : Bool}
def BodyC (pg : Program) (w : World) (K : PySem.W.Frag) (mg : Str → Option Value) (base : Heap) (gd : Bool) (kb k : Nat) (f : Addr) (qual : Str) (body : List Stmt) (scope : Scope) (N ps : List Str) (T : TrC) : Prop :=
  ∀ (cdv : Value), CodeAt K f cdv → ∀ (A : Around) (outer : List PySem.Env) (s : Shared) (H F0 : Hp) (E : XK) (ds : List D) (M : Mem) (P : D → Mem → Prop) (R : RX) (cf : Addr) (TT : TL), (gd = true → A.guards = some []) → Room k (A.deeper (PyProof.Rows.envOfC qual scope s.heap.objs.size f cdv)) → Callee pg w K mg base gd kb cf F0 TT outer s H → T cf TT ds M P R →
      Lets (cxOf (L2.CX pg w) pg w K mg base N qual scope f cdv A outer s H E) (ghF F0) (fun C gs _ M' => R C gs M') →
      PassesOwn (model pg w) (cxOf (L2.CX pg w) pg w K mg base N qual scope f cdv A outer s H E).A (cxOf (L2.CX pg w) pg w K mg base N qual scope f cdv A outer s H E).env (cxOf (L2.CX pg w) pg w K mg base N qual scope f cdv A outer s H E).xe →
      Kx K F0 R E →
      GX (cxOf (L2.CX pg w) pg w K mg base N qual scope f cdv A outer s H E) (ghF F0) body (startD (N.length - ps.length) ds) M ⟨fun _ M' => P .non M', P, fun _ _ => False, fun _ _ => False⟩
structure FnC (pg : Program) (w : World) (K : PySem.W.Frag) (mg : Str → Option Value) (base : Heap) (gd : Bool) (kb k : Nat) (f : Addr) (ks : List Str) (T : TrCX) : Prop where
  go : ∀ (A : Around) (outer : List PySem.Env) (s : Shared) (H F : Hp) (M : Mem) (ds zs : List D) (P : D → Mem → Prop) (R : RX) (us ws : List Value) (vs xs : List V) (Q : VK) (E : XK) (cf : Addr) (TT : TL), (gd = true → A.guards = some []) → Room k A → Env0 pg w K mg base A outer s H →
    Vals vs us → Vals xs ws → ws.length = ks.length → Ok K F M H → Rps K F vs ds → Rps K F xs zs → Callee pg w K mg base gd kb cf F TT outer s H → T cf TT ds zs M P R → Kt K F P Q → Kx K F R E → codeAny (model pg w) A (.call (.ref f) ⟨us, ks.zip ws⟩) (CR (L2.CX pg w) outer pg w H s Q E) s
end
section
variable {X : Cx} {J : Gh} {e : Expr} {kws : List Keyword} {ks : List Str} {ρ : DEnv} {M M1 M2 : Mem} {F F' H H' : Hp} {σ : L2.St} {pos p lpos : Pos} {x a : Str} {P : D → Mem → Prop} {RR : Addr → List (Str × D) → DEnv → Mem → Prop} {gd : Bool} {k kb : Nat} {g c Pt : Addr} {T : TrCX} {TT : TL} {params : Arguments} {body : Expr} {scope : Scope}
end
end DX
namespace DX
open PySem PySem.Spec L2
/-- more stands above, the same for all contents -/
inductive Ov {S : Type} : (S → Mem) → (S → Mem) → Prop
  | refl {W : S → Mem} : Ov W W
  | up {W W1 : S → Mem} {a : Addr} {d : D} : Ov W W1 → (∀ z, W1 z a = none) → Ov W (fun z => up (W1 z) a d)
/-- f: what the lambda gives, and leaves in the list at p -/
def TLst (f : D → List D → Option (D × List D)) (p : Addr) : TL := fun d N P R => ∃ (W : D → Mem) (s : List D) (r : D × List D), (∀ z, At (W z) p z W) ∧ N = W (.lst s) ∧ f d s = some r ∧ P r.1 (W (.lst r.2))
end DX
namespace DX
open PySem PySem.Spec L2 GenW StX
open PyProof.Rows hiding St
section
variable {X : Cx} {J : Gh} {o e : Expr} {es : List Expr} {kws : List Keyword} {ks : List Str} {ρ ρ' : DEnv} {M : Mem} {pos pos' p apos : Pos} {m : Str} {P : D → Mem → Prop} {k : Nat} {L : List Addr}
end
end DX
namespace DX
open PySem PySem.Spec L2 StX
section
variable {X : Cx} {J : Gh} {e : Expr} {ρ ρ' : DEnv} {M : Mem} {P : D → Mem → Prop} {L : List Addr} {F F' H H' : Hp} {K : PySem.W.Frag}
end
end DX
namespace DX
open PySem PySem.Spec L2 PyProof.Rows GQ
section
variable {prog : Program} {w : World} {A : Around} {E : Value → Shared → Prop} {Q : Value → Shared → Prop} {s : Shared} {b C dx : Addr} {K : PySem.W.Frag}
end
abbrev TYN7 : List String := ["NoneType", "bool", "int", "str", "tuple", "list", "dict"]
section
variable {X : Cx} {pins : List (Addr × Obj)} {σ : L2.St} {H F : Hp} {M : Mem} {s : Shared} {b C dx : Addr} {d : D} {v : V} {u : Value}
end
end DX
namespace DX
open PySem PySem.Spec L2 PyProof.Rows StX
section
variable {prog : Program} {w : World} {A : Around} {E : Value → Shared → Prop} {s : Shared} {K : PySem.W.Frag} {x y C C' f : Addr} {ox oy : Obj} {od od' : Option Obj} {u b : Value}
end
def eqXU (L : List Addr) (Lr Lo : List (Addr × Addr)) (f : D → D → Option D) (x y : D) : Option Bool :=
  if plain x = true then (isU L y).bind fun _ => (f y x).bind blD else eqUD L Lr Lo f x y
section
variable {X : Cx} {J : Gh} {M : Mem} {P : D → Mem → Prop}
section
variable {k : Nat} {L : List Addr} {Lr Lo : List (Addr × Addr)} {TU : TrX} {f : D → D → Option D} {x y : D} {b : Bool}
abbrev UEqX (X : Cx) (k : Nat) (L : List Addr) (TU : TrX) : Prop := UFn X.prog X.w X.K X.mg X.base false [] k L (fun C g => Meth X.K C "__eq__" g ∧ PySem.W.findIn X.K (.ref C) "__ne__" = some (some (.builtin "object.__ne__")) ∧ PySem.W.mroIn X.K C (.type "object") = some true) TU
end
end
end DX
namespace DX
open PySem PySem.Spec L2 PyProof.Rows StX
abbrev zdE : Addr × List (Str × D) := (0, [(("!" : Str), D.ty "ZeroDivisionError")])
section
variable {X : Cx} {J : Gh} {ρ : DEnv} {M : Mem} {B : Bd} {P : D → Mem → Prop} {RR : Addr → List (Str × D) → DEnv → Mem → Prop}
/-- what the body may let out: an error of an own class, or one of the first clause's -/
def RTry2 (X : Cx) (cs1 cs2 : List Value) (i : Nat) (st1 suite : List Stmt) (B : Bd) (RR : Addr → List (Str × D) → DEnv → Mem → Prop) : Addr → List (Str × D) → DEnv → Mem → Prop :=
  fun C gs ρ' M' => (C ≠ 0 ∧ PySem.W.exmAny X.K (.ref C) cs1 = some false ∧ ∃ b, PySem.W.exmAny X.K (.ref C) cs2 = some b ∧ (b = true → ∀ (a : Addr) (J2 : Gh), GX (sui X a) J2 suite (put ρ' i (.exn C gs)) M' (B.cuts i)) ∧ (b = false → RR C gs ρ' M'))
    ∨ (C = 0 ∧ ∃ n, gs = [(("!" : Str), D.ty n)] ∧ PySem.W.exmAny X.K (.type n) cs1 = some true ∧ ∀ (a : Addr) (J2 : Gh), GX (sui X a) J2 st1 ρ' M' B)
end
def isZ (e : Er) : Bool := decide (e.1 = 0) && match e.2 with
  | [(x, .ty n)] => decide (x = ("!" : Str)) && decide (n = "ZeroDivisionError")
  | _ => false
/-- f: what the lambda gives or lets out, and leaves in the list at p -/
def TLstX (f : D → List D → Option (Except Er D × List D)) (p : Addr) : TL := fun d N P R => ∃ (W : D → Mem) (s : List D) (r : Except Er D × List D), (∀ z, At (W z) p z W) ∧ N = W (.lst s) ∧ f d s = some r ∧ resX r.1 (fun v => P v (W (.lst r.2))) (fun e => R e.1 e.2 (W (.lst r.2)))
end DX
namespace DX
open PySem PySem.Spec L2 PyProof.Rows GQ
section
variable {prog : Program} {w : World} {A : Around} {E : Value → Shared → Prop} {Q : Value → Shared → Prop} {s : Shared}
end
/-- == where a dict may stand on the left of a text -/
noncomputable def cEqS (x y : D) : Option Bool := match x, y with
  | .dct _, .str _ => some false
  | x, y => cEq x y
end DX
namespace DX
/-- what a name holds, perhaps: o is known of it -/
def OptIs (o j : Option D) : Prop := ∀ v, o = some v → j = some v
end DX
namespace DX
open PySem
theorem nf_nil : NF [] := fun _ h => absurd h List.not_mem_nil
section
variable {B : Nat → Option GenState} {a G : Array GenState}
end
abbrev Shared.wg (s : Shared) (G : Array GenState) : Shared := { s with gens := G }
open Sem (wp)
open PyProof.Rows
/-- what Q says of the blocked table, said of the true one -/
def qG {α β : Type} (B : Nat → Option GenState) (Q : α → β → Shared → Prop) : α → β → Shared → Prop := fun x p s => ∃ G, GR B G s.gens ∧ Q x p (Shared.wg s G)
/-- all that stand suspended are blocked -/
noncomputable def blkB (G : Array GenState) : Nat → Option GenState := fun i => match G[i]? with
  | some (.suspended k l c p fs cl) => some (.suspended k l c p fs cl)
  | _ => none
/-- the suspended ones of G0 stand in G as they were -/
def KeptG (G0 G : Array GenState) : Prop := ∀ (i : Nat) (y : GenState), G0[i]? = some y → isSusp y → G[i]? = some y
end DX
namespace GF
open PySem PySem.Spec L2 GenW DX
open Sem (wp)
variable {γ : Type}
section
variable {M : Model} {A : Around} {R : EndG γ} {Y : ProtG γ} {n : Nat} {g : γ} {s₀ : Shared} {c : Code} {fs : List Frame} {s : Shared}
theorem sg_at {p' : Pos} {k : Unit → Sem PySem.Fin} (h : SegG M A R Y n g s₀ c (k ()) fs s) : SegG M A R Y n g s₀ c (.at p' k) fs s :=
  sg_wrap (m := standAt p') (K := k) (J := .raise) (gd := id) (lv := id) (wpAny_standAt h)
theorem sg_call {c' : Code} {h q l} {k : Result → Sem PySem.Fin} (hc : ∀ p, SegG M A R Y n g s₀ c' (M.den c') (.ret k h q l c p [] :: fs) s) : SegG M A R Y n g s₀ c (.call c' h q l k) fs s := by
  rw [sg_iff]
  rintro Γ p rfl hΓ
  obtain ⟨e, s', hr, he⟩ := sg_iff.mp (hc p) (Γ.goto c') p rfl (hΓ.goto c')
  exact ⟨e, s', runs_call_seg hr, he⟩
theorem sg_leaf {k h q l c₁ p₁ kp} (r : Result) (hk : SegG M A R Y n g s₀ c₁ (k r) fs s) : SegG M A R Y n g s₀ c (leafOf r) (.ret k h q l c₁ p₁ kp :: fs) s := by
  rw [sg_iff]
  rintro Γ p rfl hΓ
  obtain ⟨e, s', hr, he⟩ := sg_iff.mp hk (Γ.goto c₁) p₁ rfl (hΓ.goto c₁)
  exact ⟨e, s', Runs.pop r hr, he⟩
theorem sg_again {c' : Code} (hq : c'.quiet = true) (hc : SegG M A R Y n g s₀ c' (M.den c') fs s) : SegG M A R Y n g s₀ c (.pure (.again c')) fs s := by
  rw [sg_iff]
  rintro Γ p rfl hΓ
  obtain ⟨e, s', hr, he⟩ := sg_iff.mp hc (Γ.goto c') p rfl (hΓ.goto c')
  exact ⟨e, s', Runs.head (c₁ := c') (fun _ _ x => .again hq x) hr, he⟩
theorem nf_of_split {fs : List Frame} (h : splitAtGen fs = none) : NF fs := by
  induction fs with
  | nil => exact nf_nil
  | cons f fs ih =>
    cases f with
    | ret k hd q l c p kp =>
      have h2 : splitAtGen fs = none := by
        simp only [splitAtGen, Option.map_eq_none_iff] at h
        exact h
      intro F hF
      rcases List.mem_cons.mp hF with rfl | hF
      · trivial
      · exact ih h2 F hF
    | gen q k l c p => simp only [splitAtGen] at h; cases h
theorem sg_yield {v q l} {k : Resume → Sem PySem.Fin} (hfs : splitAtGen fs = none) (hg : q = false) (hfg : fs.any Frame.guarded = false)
    (h : Y g n s₀ v s fun g' r s'' => SegG M A R Y n g' s'' c (k r) fs s'') : SegG M A R Y (n + 1) g s₀ c (.yield v q l k) fs s := by
  rintro Γ p rfl _
  exact ⟨_, s, Runs.yield' fs hfs, And.intro (by simp [End.quiet, hg, hfg]) ⟨nf_of_split hfs, h⟩⟩
theorem sg_bind_wrap {α β : Type} {m : Sem α} {K : α → Sem β} {K' : β → Sem PySem.Fin} {J : Value → Sem PySem.Fin} {gd lv}
    (h : wpAny M (A.over c fs) m (fun a s' => SegG M A R Y n g s₀ c ((K a).wrap K' J gd lv) fs s') (fun x s' => SegG M A R Y n g s₀ c (J x) fs s') s) : SegG M A R Y n g s₀ c ((m >>= K).wrap K' J gd lv) fs s := by
  rw [Sem.bind_eq_wrap', Sem.wrap_wrap]; exact sg_wrap h
end
section
variable {M : Model} {A : Around} {R : EndG γ} {Y : ProtG γ} {n : Nat} {g : γ} {s₀ : Shared} {c : Code} {fs : List Frame} {s : Shared} {env : Env}
  {K : Flow → Sem PySem.Fin} {J : Value → Sem PySem.Fin} {gd : Bool → Bool} {lv : List Value → List Value}
theorem sg_nil (h : SegG M A R Y n g s₀ c (K .next) fs s) : SegG M A R Y n g s₀ c ((execs [] env).wrap K J gd lv) fs s := h
theorem sg_cons {st : Stmt} {rest : List Stmt} (h : SegG M A R Y n g s₀ c ((exec st env).wrap (fun f => match f with | .next => (execs rest env).wrap K J gd lv | f => K f) J gd lv) fs s) :
    SegG M A R Y n g s₀ c ((execs (st :: rest) env).wrap K J gd lv) fs s := by rw [execs_cons_wrap]; exact h
theorem sg_Yield {e : Expr} {ypos pos : Pos} (hfs : splitAtGen fs = none) (hgd : gd false = false) (hfg : fs.any Frame.guarded = false)
    (h : wpAny M (A.over c fs) (eval e env) (fun v s' => ∀ kap : γ → Resume → Shared → Prop, (∀ g' x s'', (match x with | .ref _ => False | _ => SegG M A R Y n g' s'' c (K .next) fs s'') → kap g' (.send x) s'') → Y g n s₀ v s' kap)
      (fun x s' => SegG M A R Y (n + 1) g s₀ c (J x) fs s') s) (hco : env.scope.isCoroutine = false := by rfl) (hi : interactive env = false := by rfl) :
    SegG M A R Y (n + 1) g s₀ c ((exec (.Expr (.Yield (some e) ypos) pos) env).wrap K J gd lv) fs s := by
  rw [exec_Expr env _ pos hi rfl]
  show SegG M A R Y (n + 1) g s₀ c (.at pos fun _ => ((eval e env >>= fun v => (standAt ypos >>= fun _ => yieldOut env v)) >>= fun x =>
    dropValue (.Yield (some e) ypos) pos x).wrap K J gd lv) fs s
  have hy : ∀ v, yieldOut env v = yieldValue v := fun v => by simp only [yieldOut, hco, Bool.false_eq_true, if_false]
  simp only [hy]
  refine sg_at ?_
  rw [Sem.bind_eq_wrap', Sem.bind_eq_wrap', Sem.wrap_wrap, Sem.wrap_wrap]
  refine sg_wrap (wpAny_mono h (fun v s' h' => ?_) fun _ _ x => x)
  refine sg_at (sg_yield hfs hgd hfg ?_)
  refine h' _ fun g' x s'' hx => ?_
  cases x <;> first | exact hx | exact hx.elim
theorem sg_For {tg iter : Expr} {body : List Stmt} {pos : Pos}
    (h : wpAny M (A.over c fs) (eval iter env) (fun x s1 => wpAny M (A.over c fs) (pyIter x) (fun it s2 => ∀ p, SegG M A R Y n g s₀ (.forLoop tg it body [] env) (M.den (.forLoop tg it body [] env))
      (.ret (fun r => ((match r with | .ok f => (.pure f : Sem Flow) | .error e => .raise e).onRaise (cameBack env)).wrap K J gd lv) none (gd false) (lv []) c p [] :: fs) s2) (fun x s' => SegG M A R Y n g s₀ c (J x) fs s') s1) (fun x s' => SegG M A R Y n g s₀ c (J x) fs s') s)
    (hs : ∀ x, foldedSetIterable iter env x = pure x := by intro _; rfl) :
    SegG M A R Y n g s₀ c ((exec (.For tg iter body [] pos) env).wrap K J gd lv) fs s := by
  rw [exec_For]
  refine sg_bind_wrap (wpAny_standAt ?_)
  refine sg_bind_wrap (wpAny_mono h (fun x s1 h1 => ?_) fun _ _ x => x)
  refine sg_bind_wrap (wpAny_of_eq (hs x) ?_)
  refine sg_bind_wrap (wpAny_standAt ?_)
  refine sg_bind_wrap (wpAny_holding (wpAny_mono h1 (fun it s2 h2 => ?_) fun _ _ x => x))
  exact sg_call h2
end
section
variable {prog : Program} {w : World} {A : Around} {R : EndG γ} {Y : ProtG γ} {n : Nat} {g : γ} {s₀ : Shared} {fs : List Frame} {s : Shared} {env : Env}
theorem sg_block {st : List Stmt} (h : SegG (model prog w) A R Y n g s₀ (.block st env) ((execs st env).wrap (fun f => .pure (.done f)) (noted env) id id) fs s) : SegG (model prog w) A R Y n g s₀ (.block st env) ((model prog w).den (.block st env)) fs s := by
  have e : (do return Fin.done (← (execs st env).onRaise (fun x => do noteFrame x env; theTreesLotGoes x)) : Sem PySem.Fin) = (execs st env).wrap (fun f => .pure (.done f)) (noted env) id id := by
    rw [Sem.bind_eq_wrap', Sem.onRaise_eq_wrap, Sem.wrap_wrap]
    refine Sem.wrap_congr _ _ _ (fun f => rfl) fun e => ?_
    rw [Sem.bind_eq_wrap, Sem.wrap_wrap]
    rfl
  show SegG _ A R Y n g s₀ _ (do return Fin.done (← (execs st env).onRaise (fun x => do noteFrame x env; theTreesLotGoes x))) fs s
  rw [e]
  exact h
theorem sg_forLoop {tg : Expr} {it : Value} {body : List Stmt}
    (h : wpAny (model prog w) (A.over (.forLoop tg it body [] env) fs) (pyNext it) (fun r s' => match r with
        | none => SegG (model prog w) A R Y n g s₀ (.block [] env) ((model prog w).den (.block [] env)) fs s'
        | some v => wpAny (model prog w) (A.over (.forLoop tg it body [] env) fs) (letOwnedTupleGo tg it v) (fun _ s1 => wpAny (model prog w) (A.over (.forLoop tg it body [] env) fs) (assign tg env v) (fun _ s2 =>
            SegG (model prog w) A R Y n g s₀ (.forLoop tg it body [] env) ((execs body env).wrap (fun f => match f with
              | .next | .cont => .pure (.again (.forLoop tg it body [] env))
              | .brk => .pure (.done .next)
              | .ret v => .pure (.done (.ret v))) (noted env) id id) fs s2) (fun x s' => SegG (model prog w) A R Y n g s₀ (.forLoop tg it body [] env) (noted env x) fs s') s1) (fun x s' => SegG (model prog w) A R Y n g s₀ (.forLoop tg it body [] env) (noted env x) fs s') s')
      (fun x s' => SegG (model prog w) A R Y n g s₀ (.forLoop tg it body [] env) (noted env x) fs s') s) :
    SegG (model prog w) A R Y n g s₀ (.forLoop tg it body [] env) ((model prog w).den (.forLoop tg it body [] env)) fs s := by
  show SegG _ A R Y n g s₀ _ ((forTurn tg it body [] env).onRaise (fun x => do noteFrame x env; theTreesLotGoes x)) fs s
  have eJ : (fun e => (do noteFrame e env; theTreesLotGoes e : Sem Unit).bind fun _ => (.raise e : Sem PySem.Fin)) = noted env := by
    funext e
    rw [Sem.bind_eq_wrap]
  unfold forTurn
  rw [Sem.onRaise_eq_wrap, eJ]
  refine sg_bind_wrap (wpAny_standAt ?_)
  refine sg_bind_wrap (wpAny_onRaise (wpAny_mono h (fun r s' hr => ?_) fun _ _ x => wpAny_standAt x))
  cases r with
  | none => exact sg_again rfl hr
  | some v =>
    refine sg_bind_wrap (wpAny_mono hr (fun _ s1 h1 => ?_) fun _ _ x => x)
    refine sg_bind_wrap (wpAny_mono h1 (fun _ s2 h2 => ?_) fun _ _ x => x)
    rw [Sem.bind_eq_wrap', Sem.wrap_wrap]
    rw [Sem.wrap_congr (execs body env) (H := fun e => Sem.wrap Sem.pure (noted env) id id (Sem.raise e)) _ _ (K' := fun f => match f with
              | .next | .cont => .pure (.again (.forLoop tg it body [] env))
              | .brk => .pure (.done .next)
              | .ret v => .pure (.done (.ret v))) (H' := noted env) (fun f => by cases f <;> rfl) (fun e => rfl)]
    exact h2
end
/-- a generator's state goes on so -/
def GoesG (M : Model) (A : Around) (R : EndG γ) (Y : ProtG γ) (n : Nat) (g : γ) (gs : GenState) (r : Resume) (s : Shared) : Prop := match gs with
  | .fresh c => r = .send .none ∧ SegG M A R Y n g s c (M.den c) [] s
  | .suspended k _ c _ fs _ => SegG M A R Y n g s c (k r) fs s
  | _ => False
end GF
namespace GF
open PySem PySem.Spec L2 GenW DX
open PyProof.Rows hiding St
section
variable {Y : Fm} {st : Stmt} {rest : List Stmt}
def t0 : TGg := fun D g ys σ H => D.nx g ys σ H
def tThn (t u : TGg) : TGg := fun D g ys σ H => t { D with nx := fun g' ys' σ' H' => u D g' ys' σ' H' } g ys σ H
/-- a statement that hands out nothing -/
def tPl (Y : Fm) (t : Bs → TS) : TGg := fun D g ys σ H => ∀ b, Y.V b → t b (D.at g ys) σ H
theorem ss_nil : Ss Y [] t0 := by
  refine ⟨fun A ip R n g₀ ys s₀ c fs K J gd lv s σ H D g hn k hI ht => ?_⟩
  exact sg_nil (k.ok n g₀ ys s₀ s .next hn ⟨σ, H, hI, ht⟩)
theorem ss_cons {t u : TGg} (a : S Y st t) (b : Ss Y rest u) : Ss Y (st :: rest) (tThn t u) := by
  refine ⟨fun A ip R n g₀ ys s₀ c fs K J gd lv s σ H D g hn k hI ht => ?_⟩
  refine sg_cons ?_
  refine a.run A ip R n g₀ ys s₀ c fs _ J gd lv s σ H { D with nx := fun g' ys' σ' H' => u D g' ys' σ' H' } g hn ⟨fun n' g' ys' s₀' s' f hn' hs => ?_, k.exc⟩ hI ht
  cases f with
  | next =>
    obtain ⟨σ', H', I', q⟩ := hs
    exact b.run A ip R n' g' ys' s₀' c fs K J gd lv s' σ' H' D g hn' k I' q
  | brk => exact k.ok n' g' ys' s₀' s' .brk hn' hs
  | cont => exact k.ok n' g' ys' s₀' s' .cont hn' hs
  | ret u => exact k.ok n' g' ys' s₀' s' (.ret u) hn' hs
def tYd (Y : Fm) (te : Bs → TE) : TGg := fun D g ys σ H => ys.length < sizeLine ∧ ∀ b, Y.V b → te b σ H fun x H1 => ∃ F, Same g.F F ∧ Y.O ys x H1 F ∧ ∀ b' cp', D.nx ⟨F, b', cp'⟩ (ys ++ [x]) σ H1
theorem s_yield {e : Expr} {yp pos : Pos} {te : Bs → TE} (he : ∀ b, Y.V b → PE (Y.at b) e (te b)) (hco : Y.X.env.scope.isCoroutine = false := by rfl) (hi : interactive Y.X.env = false := by rfl) : S Y (.Expr (.Yield (some e) yp) pos) (tYd Y te) := by
  refine ⟨fun A ip R n g₀ ys s₀ c fs K J gd lv s σ H D g hn k ⟨hb, I, dj⟩ ht => ?_⟩
  obtain ⟨hlt, ht⟩ := ht
  obtain ⟨n, rfl⟩ : ∃ m, n = m + 1 := ⟨n - 1, by omega⟩
  refine sg_Yield g.split g.gd g.guard ?_ hco hi
  rw [g.over]
  refine wpAny_mono ((he _ hb).run _ s σ H _ I (ht _ hb)) (fun v s' hv => ?_) fun x s' hx => k.exc _ g₀ s₀ _ x s' hb hx
  obtain ⟨x, H1, I1, rv, F, sF, o, q⟩ := hv
  intro kap hk
  refine ⟨ys, x, ip, σ, H1, F, hn, rv, ⟨hb, I1, dj⟩, sF, o, fun s'' b' cp' z => hk ⟨F, b', cp'⟩ .none s'' ?_⟩
  refine k.ok n ⟨F, b', cp'⟩ (ys ++ [x]) s'' s'' .next ?_ ⟨σ, H1, z, q b' cp'⟩
  rw [List.length_append, List.length_singleton]; omega
def tIf (Y : Fm) (tc : Bs → TT) (ta tb : TGg) : TGg := fun D g ys σ H => ∀ b, Y.V b → tc b σ H fun t H1 => if t = true then ta D g ys σ H1 else tb D g ys σ H1
theorem c_loop {A : Around} {c c' : Code} {fs : List Frame} {gd : Bool → Bool} {k : Result → Sem PySem.Fin} {l kp : List Value} {p : Pos} (g : C Y A c fs gd) (hw : c'.weight = 0) (hu : c'.cUnits = 0) : C Y A c' (.ret k none (gd false) l c p kp :: fs) id where
  over := (over_loop hw hu).trans g.over
  split := by
    show (splitAtGen fs).map _ = none
    rw [g.split]; rfl
  guard := by
    show (gd false || fs.any Frame.guarded) = false
    rw [g.gd, g.guard]; rfl
  gd := rfl
theorem c_back {A : Around} {ip : List (Addr × Obj)} {R : EndG Gst} {c : Code} {fs : List Frame} {K : Flow → Sem PySem.Fin} {J : Value → Sem PySem.Fin} {gd : Bool → Bool} {lv : List Value → List Value} {D : GE} {n : Nat} {g₀ : Gst} {s₀ s : Shared} {e : Value} {b : Bs}
    (g : C Y A c fs gd) (k : KF Y ip A R c fs K J D) (hb : Y.V b) (h : cameBackBy (model Y.X.prog Y.X.w) Y.X.A Y.X.env (Y.xe b) e s) :
    SegG (model Y.X.prog Y.X.w) A R (Yp Y) n g₀ s₀ c (((Sem.raise e : Sem Flow).onRaise (cameBack Y.X.env)).wrap K J gd lv) fs s := by
  show SegG _ _ _ _ _ _ _ _ (((cameBack Y.X.env e).bind fun _ => (Sem.raise e : Sem Flow)).wrap K J gd lv) _ _
  rw [Sem.bind_eq_wrap, Sem.wrap_wrap]
  refine sg_wrap ?_
  rw [g.over]
  exact wpAny_mono h (fun _ s' hx => k.exc n g₀ s₀ b e s' hb hx) fun x s' hx => k.exc n g₀ s₀ b x s' hb hx
def tFor (Y : Fm) (wi : Bs → TI) (g : Bs → TG) (tb : TGg) : TGg := fun D g₀ ys σ H => ∀ b, Y.V b → wi b σ H fun J H1 => ∃ W : Nat → Nat → Gst → List L2.V → St → Hp → Prop, (∃ m, W 0 m g₀ ys σ H1) ∧ ∀ i m g₁ ys σ H, W i m g₁ ys σ H →
  (J.stop i H ∧ D.nx g₁ ys σ H) ∨ (J.go i H ∧ ∃ N : Gst → List L2.V → St → Hp → Prop, (∀ g' ys' σ' H', N g' ys' σ' H' → ∃ m', m' < m ∧ W (i + 1) m' g' ys' σ' H') ∧ ∀ x H', J.yld i H x H' → ∀ b', Y.V b' → g b' x σ H' fun σ2 H2 => tb { D with nx := N, ct := N, bk := D.nx } g₁ ys σ2 H2)
theorem s_for {tg iter : Expr} {body : List Stmt} {wi : Bs → TI} {g : Bs → TG} {tb : TGg} {pos : Pos} (ok : Y.Ok) (hc : Y.X.calm = true) (hi : ∀ b, Y.V b → PI (Y.at b) tg iter (wi b)) (hg : ∀ b, Y.V b → PG (Y.at b) tg (g b)) (hb : Ss Y body tb)
    (hs : ∀ x, foldedSetIterable iter Y.X.env x = pure x := by intro _; rfl) : S Y (.For tg iter body [] pos) (tFor Y wi g tb) := by
  refine ⟨fun A ip R n g₀ ys s₀ c fs K J gd lv s σ H D gc hn k ⟨hV, I0, dj⟩ ht => ?_⟩
  refine sg_For ?_ hs
  rw [gc.over]
  refine wpAny_mono ((hi _ hV).run _ s σ H _ I0 (ht _ hV)) (fun v s1 h1 => wpAny_mono h1 (fun itv s2 h2 => ?_) fun x s' hx => k.exc n g₀ s₀ _ x s' hV hx) fun x s' hx => k.exc n g₀ s₀ _ x s' hV hx
  obtain ⟨it, fp, tn, JJ, H2, e, I2, T, st2, f2, W, ⟨m0, w0⟩, turn⟩ := h2
  subst e
  intro p
  have stat : ∀ {H' : Hp} {g' : Gst}, Y.V g'.b → (∀ p ∈ g'.cp, ∀ q ∈ fp, q ≠ p.1) → (∀ q ∈ fp, H' q = none) → ∀ q ∈ fp, FpOk (Y.at g'.b) (g'.cp ++ ip) H' q := fun {H' g'} hb' dj' hn q hq => by
    obtain ⟨_, h1, h2, h3, h4, h5⟩ := f2 q hq
    refine ⟨hn q hq, h1, h2, ?_, h4, fun p hp => ?_⟩
    rotate_left
    · rcases List.mem_append.mp hp with hp | hp
      · exact h5 p (List.mem_append_left _ hp)
      · rcases List.mem_append.mp hp with hp | hp
        · exact (dj' p hp q hq).symm
        · exact h5 p (List.mem_append_right _ (List.mem_append_right _ hp))
    have e1 : (Y.at g₀.b).s_0.heap.objs.size = (Y.at g'.b).s_0.heap.objs.size := (ok.sz g₀.b hV).trans (ok.sz g'.b hb').symm
    rcases h3 with h3 | h3
    · exact .inl h3
    · exact .inr (by rw [← e1]; exact h3)
  have gl := fun (kk : Result → Sem PySem.Fin) => c_loop (k := kk) (c' := .forLoop tg (.ref it) body [] Y.X.env) (l := lv []) (kp := []) (p := p) gc rfl rfl
  have ee : ∀ (n : Nat) (g₀ : Gst) (s₀ : Shared) (b : Bs) (x : Value) (s' : Shared), Y.V b → Y.xe b x s' → SegG (model Y.X.prog Y.X.w) A R (Yp Y) n g₀ s₀ (.forLoop tg (.ref it) body [] Y.X.env) (noted Y.X.env x)
      (.ret (fun r => ((match r with | .ok f => (.pure f : Sem Flow) | .error e => .raise e).onRaise (cameBack Y.X.env)).wrap K J gd lv) none (gd false) (lv []) c p [] :: fs) s' := fun n g₀ s₀ b x s' hb hx => by
    refine sg_wrap ?_
    rw [(gl _).over]
    refine wpAny_bind (wpAny_mono (ok.own b hb x s' hx) (fun _ s'' hcb => wpAny_theTreesLotGoes ?_) fun y s'' hcb => ?_)
    · exact sg_leaf (.error x) (c_back gc k hb hcb)
    · exact sg_leaf (.error y) (c_back gc k hb hcb)
  have loop : ∀ (m n : Nat) (g₁ : Gst) (ys : List L2.V) (s₀ s3 : Shared) (i : Nat) (σ3 : St) (H3 : Hp), n + ys.length = sizeLine → W i m g₁ ys σ3 H3 → I Y g₁ ip σ3 H3 s3 → (∀ p ∈ g₁.cp, ∀ q ∈ fp, q ≠ p.1) → tn i s3.heap → (∀ b ∈ fp, H3 b = none) →
      SegG (model Y.X.prog Y.X.w) A R (Yp Y) n g₁ s₀ (.forLoop tg (.ref it) body [] Y.X.env) ((model Y.X.prog Y.X.w).den (.forLoop tg (.ref it) body [] Y.X.env))
        (.ret (fun r => ((match r with | .ok f => (.pure f : Sem Flow) | .error e => .raise e).onRaise (cameBack Y.X.env)).wrap K J gd lv) none (gd false) (lv []) c p [] :: fs) s3 := by
    intro m
    induction m using Nat.strongRecOn with
    | ind m ih =>
      intro n g₁ ys s₀ s3 i σ3 H3 hn w3 hI3 df3 st3 fr3
      obtain ⟨hb3, I3, dj3⟩ := hI3
      refine sg_forLoop ?_
      rw [(gl _).over]
      rcases turn i m g₁ ys σ3 H3 w3 with ⟨stop, qn⟩ | ⟨go, N, hN, step⟩
      · refine wpAny_mono (T.done (Y.at g₁.b) rfl rfl rfl hc i _ s3 σ3 H3 (Y.xe g₁.b) I3 (stat hb3 df3 fr3) st3 stop) (fun r s4 h4 => ?_) fun x s' hx => ee n g₁ s₀ _ x s' hb3 hx
        obtain ⟨hr, I4⟩ := h4
        subst hr
        refine sg_block (sg_nil ?_)
        exact sg_leaf (.ok .next) (k.ok n g₁ ys s₀ s4 .next hn ⟨σ3, H3, ⟨hb3, I4, dj3⟩, qn⟩)
      · refine wpAny_mono (T.item (Y.at g₁.b) rfl rfl rfl hc i _ s3 σ3 H3 (Y.xe g₁.b) I3 (stat hb3 df3 fr3) st3 go) (fun r s4 h4 => ?_) fun x s' hx => ee n g₁ s₀ _ x s' hb3 hx
        obtain ⟨u, hr, h4⟩ := h4
        subst hr
        refine wpAny_mono h4 (fun _ s5 h5 => ?_) fun x s' hx => ee n g₁ s₀ _ x s' hb3 hx
        obtain ⟨x, H5, I5, r5, y5, st5, fr5⟩ := h5
        have I5' := I5.pinned (stat hb3 df3 fr5) (T.obj _ _ st5)
        refine wpAny_mono ((hg _ hb3).run _ s5 σ3 H5 x u _ I5' r5 (step x H5 y5 _ hb3)) (fun _ s6 h6 => ?_) fun x s' hx => ee n g₁ s₀ _ x s' hb3 hx
        obtain ⟨σ6, H6, I6, q6⟩ := h6
        have djb : ∀ p ∈ g₁.cp, ∀ q ∈ ip ++ pinsAt fp s5.heap, q.1 ≠ p.1 := fun p hp q hq => by
          rcases List.mem_append.mp hq with hq | hq
          · exact dj3 p hp q hq
          · exact df3 p hp _ (of_pinsAt hq).1
        have unp : ∀ {g7 : Gst} {σ7 : St} {H7 : Hp} {s7 : Shared}, I Y g7 (ip ++ pinsAt fp s5.heap) σ7 H7 s7 → I Y g7 ip σ7 H7 s7 ∧ (∀ p ∈ g7.cp, ∀ q ∈ fp, q ≠ p.1) ∧ tn (i + 1) s7.heap ∧ ∀ b ∈ fp, H7 b = none := fun {g7 σ7 H7 s7} h7 => by
          obtain ⟨hb7, I7, dj7⟩ := h7
          rw [← List.append_assoc] at I7
          refine ⟨⟨hb7, I7.unpinned, fun p hp q hq => dj7 p hp q (List.mem_append_left _ hq)⟩, fun p hp q hq => ?_, T.keep _ _ _ st5 fun b hb o e => (I7.pin (b, o) (List.mem_append_right _ (List.mem_append_right _ (mem_pinsAt hb e)))).1, fun b hb => ?_⟩
          · obtain ⟨o, e, d⟩ := T.obj _ _ st5 q hq
            exact dj7 p hp (q, o) (List.mem_append_right _ (mem_pinsAt hq e))
          obtain ⟨o, e, d⟩ := T.obj _ _ st5 b hb
          exact (I7.pin (b, o) (List.mem_append_right _ (List.mem_append_right _ (mem_pinsAt hb e)))).2.1
        have glb := gl (fun r => ((match r with | .ok f => (.pure f : Sem Flow) | .error e => .raise e).onRaise (cameBack Y.X.env)).wrap K J gd lv)
        refine hb.run A (ip ++ pinsAt fp s5.heap) R n g₁ ys s₀ _ _ _ _ id id s6 σ6 H6 { D with nx := N, ct := N, bk := D.nx } glb hn ⟨fun n' g' ys' s₀' s7 f hn' hs => ?_, fun n' g' s₀' b x s7 hb hx => ee n' g' s₀' b x s7 hb hx⟩ ⟨hb3, by rw [← List.append_assoc]; exact I6, djb⟩ q6
        cases f with
        | next =>
          obtain ⟨σ7, H7, I7, n7⟩ := hs
          obtain ⟨m', hm, w7⟩ := hN g' ys' σ7 H7 n7
          obtain ⟨g7, d7, t7, f7⟩ := unp I7
          exact sg_again rfl (ih m' hm n' g' ys' s₀' s7 (i + 1) σ7 H7 hn' w7 g7 d7 t7 f7)
        | cont =>
          obtain ⟨σ7, H7, I7, n7⟩ := hs
          obtain ⟨m', hm, w7⟩ := hN g' ys' σ7 H7 n7
          obtain ⟨g7, d7, t7, f7⟩ := unp I7
          exact sg_again rfl (ih m' hm n' g' ys' s₀' s7 (i + 1) σ7 H7 hn' w7 g7 d7 t7 f7)
        | brk =>
          obtain ⟨σ7, H7, I7, q7⟩ := hs
          exact sg_leaf (.ok .next) (k.ok n' g' ys' s₀' s7 .next hn' ⟨σ7, H7, (unp I7).1, q7⟩)
        | ret v =>
          obtain ⟨v7, σ7, H7, I7, rv7, q7⟩ := hs
          exact sg_leaf (.ok (.ret v)) (k.ok n' g' ys' s₀' s7 (.ret v) hn' ⟨v7, σ7, H7, (unp I7).1, rv7, q7⟩)
  exact loop m0 n g₀ ys s₀ s2 0 σ H2 hn w0 ⟨hV, I2, dj⟩ (fun p hp q hq => ((f2 q hq).2.2.2.2.2 p (List.mem_append_right _ (List.mem_append_left _ hp))).symm) st2 (fun b hb => (f2 b hb).1)
end
end GF
namespace GF
open PySem PySem.Spec L2 GenW DX
open PyProof.Rows hiding St
section
variable {Y : Fm} {J : Gh} {e a b c : Expr} {es : List Expr} {st : Stmt} {rest sts : List Stmt} {ys ds : List D} {ρ ρ' : DEnv} {M M0 M' : Mem} {F F' H H' : Hp} {σ : St} {B : GBd} {K : PySem.W.Frag} {pos p yp : Pos} {E : GE} {g : Gst}
theorem ss_any : Ss Y sts (tAs Y sts) := ⟨fun A ip R n g₀ vs s₀ c fs K J gd lv s σ H D g hn kk hI ⟨t, h, q⟩ => h.run A ip R n g₀ vs s₀ c fs K J gd lv s σ H D g hn kk hI q⟩
theorem s_any : S Y st (tA1 Y st) := ⟨fun A ip R n g₀ vs s₀ c fs K J gd lv s σ H D g hn kk hI ⟨t, h, q⟩ => h.run A ip R n g₀ vs s₀ c fs K J gd lv s σ H D g hn kk hI q⟩
theorem g1_of {t : TGg} (h : S Y st t) (k : ∀ F (g : Gst) vs σ H E, Same g.F F → Sts Y.X.K J F σ H ρ M → Rps Y.X.K F vs ys → KGg Y.X.K F B E → t E g vs σ H) : G1 Y J st ys ρ M B :=
  ⟨fun A ip R n g₀ vs s₀ c fs K J gd lv s σ H D g hn kk hI ⟨F, sg, st, r, q⟩ => h.run A ip R n g₀ vs s₀ c fs K J gd lv s σ H D g hn kk hI (k F g₀ vs σ H D sg st r q)⟩
theorem gf_nil (h : B.nx ys ρ M) : GX Y J [] ys ρ M B := gx_of ss_nil fun F g vs σ H E sg st r k => k.nx g F σ H ρ M ys vs h (Same.refl F) sg st.en st.ok r
theorem gf_seq (h : G1 Y J st ys ρ M (B.thn fun ys' ρ' M' => GX Y J rest ys' ρ' M' B)) : GX Y J (st :: rest) ys ρ M B :=
  gx_of (ss_cons s_any ss_any) fun F g vs σ H E sg s r k => h.go sg s r
    ⟨fun g' F' σ' H' ρ' M' ys' vs' q e eg en o r' => GX.go q eg ⟨en, o, J.mono _ _ e s.gh⟩ r' (k.to e), k.rt, k.bk, k.ct⟩
theorem pre_at {d : D} (h : (ys ++ [d]) <+: ds) : ds[ys.length]? = some d := by
  obtain ⟨t, rfl⟩ := h
  rw [List.append_assoc, List.getElem?_append_right (Nat.le_refl _), Nat.sub_self]
  rfl
theorem gf_yield (hO : Y.O = OD Y.X.K ds) (hl : ys.length < 1000000) (h : ∀ b, Y.V b → EX (Y.at b) J e ρ M fun d M1 => (ys ++ [d]) <+: ds ∧ B.nx (ys ++ [d]) ρ M1) (hco : Y.X.env.scope.isCoroutine = false := by rfl) (hi : interactive Y.X.env = false := by rfl) : G1 Y J (.Expr (.Yield (some e) yp) pos) ys ρ M B :=
  g1_of (s_yield (fun b _ => pe_any) hco hi) fun F g vs σ H E sg st r k => ⟨by have := r.length; rw [sizeLine_eq]; omega, fun b hb => (h b hb).go st fun d v M1 F1 H1 ⟨hp, q⟩ e1 o1 rd =>
    ⟨F1, sg.trans e1, by rw [hO]; exact ⟨M1, d, o1, rd, by rw [r.length]; exact pre_at hp⟩, fun b' cp' => k.nx ⟨F1, b', cp'⟩ F1 σ H1 ρ M1 (ys ++ [d]) (vs ++ [v]) q e1 (Same.refl _) (st.en.mono e1) o1 ((r.mono e1).append (.cons rd .nil))⟩⟩
theorem gf_for {tg iter : Expr} {body : List Stmt} (ok : Y.Ok) (hc : Y.X.calm = true)
    (h : ∀ b, Y.V b → IX (Y.at b) J tg iter ρ M fun ds M1 => ∃ Wd : Nat → List D → DEnv → Mem → Prop, Wd 0 ys ρ M1 ∧
      (∀ i d ys' ρ' M', ds[i]? = some d → Wd i ys' ρ' M' → ∀ b', Y.V b' → AsD (Y.at b') tg d ρ' fun ρ2 => GX Y J body ys' ρ2 M' ⟨Wd (i + 1), B.rt, B.nx, Wd (i + 1)⟩) ∧ ∀ ys' ρ' M', Wd ds.length ys' ρ' M' → B.nx ys' ρ' M')
    (hs : ∀ x, foldedSetIterable iter Y.X.env x = pure x := by intro _; rfl) : G1 Y J (.For tg iter body [] pos) ys ρ M B :=
  g1_of (s_for ok hc (fun b _ => pi_any) (fun b _ => pg_any) ss_any hs) fun F g vs σ H E sg s r k b hb => (h b hb).go s fun ds I M1 F1 H1 ⟨Wd, h0, hs, hd⟩ e1 o1 w => by
    refine ⟨fun i m (g' : Gst) vs σ H => m = ds.length - i ∧ i ≤ ds.length ∧ ∃ F' ρ' M' ys', Same F1 F' ∧ Same g'.F F' ∧ Sts Y.X.K J F' σ H ρ' M' ∧ Rps Y.X.K F' vs ys' ∧ Wd i ys' ρ' M', ⟨ds.length, by simp, Nat.zero_le _, F1, ρ, M1, ys, Same.refl _, sg.trans e1, s.to e1 o1, r.mono e1, h0⟩, ?_⟩
    rintro i m g' vs' σ' H' ⟨rfl, hi, F', ρ', M', ys', e2, sg2, s2, r2, q⟩
    by_cases hlt : i < ds.length
    · refine .inr ⟨w.goes i H' hlt (e2.trans s2.ok.ex), _, fun g3 vs3 σ3 H3 n3 => n3, fun x H3 y b' hb' => ?_⟩
      obtain ⟨F3, e3, o3, r3⟩ := w.yields i ds[i] H' x H3 F' M' (by simp [hlt]) e2 s2.ok y
      refine asd_go (hs i ds[i] ys' ρ' M' (by simp [hlt]) q b' hb') o3 r3 (s2.en.mono e3) fun σ4 ρ4 q4 en4 => GX.go q4 (sg2.trans e3) ⟨en4, o3, J.mono _ _ e3 s2.gh⟩ (r2.mono e3) ?_
      have nxt : ∀ (g5 : Gst) F' σ' H' ρ' M' ys' vs', Wd (i + 1) ys' ρ' M' → Same F3 F' → Same g5.F F' → En Y.X.K F' σ' ρ' → DX.Ok Y.X.K F' M' H' → Rps Y.X.K F' vs' ys' → ∃ m', m' < ds.length - i ∧ m' = ds.length - (i + 1) ∧ i + 1 ≤ ds.length ∧ ∃ F' ρ' M' ys', Same F1 F' ∧ Same g5.F F' ∧ Sts Y.X.K J F' σ' H' ρ' M' ∧ Rps Y.X.K F' vs' ys' ∧ Wd (i + 1) ys' ρ' M' :=
        fun g5 F5 σ5 H5 ρ5 M5 ys5 vs5 q5 e5 eg5 en5 o5 r5 => ⟨_, by omega, rfl, hlt, F5, ρ5, M5, ys5, (e2.trans e3).trans e5, eg5, ⟨en5, o5, J.mono _ _ (e3.trans e5) s2.gh⟩, r5, q5⟩
      have kt := k.to ((e1.trans e2).trans e3)
      exact ⟨nxt, kt.rt, fun g5 F5 σ5 H5 ρ5 M5 ys5 vs5 q5 e5 eg5 en5 o5 r5 => k.nx g5 F5 σ5 H5 ρ5 M5 ys5 vs5 q5 (((e1.trans e2).trans e3).trans e5) eg5 en5 o5 r5, nxt⟩
    · have e : i = ds.length := by omega
      subst e
      exact .inl ⟨w.stops H' (e2.trans s2.ok.ex), k.nx g' F' σ' H' ρ' M' ys' vs' (hd ys' ρ' M' q) (e1.trans e2) sg2 s2.en s2.ok r2⟩
end
end GF
namespace GF
open PySem PySem.Spec L2 GenW DX
open PyProof.Rows hiding St
section
variable (pg : Program) (w : World) (K : PySem.W.Frag) (mg : Str → Option Value) (base : Heap) (N : List Str) (qual : Str) (scope : Scope) (f : Addr) (cdv : Value) (A : Around) (outer : List PySem.Env) (s : Shared) (H : Hp) (pn : List (Addr × Obj)) (ds : List D)
end
section
variable {pg : Program} {w : World} {K : PySem.W.Frag} {mg : Str → Option Value} {base : Heap} {N ps : List Str} {qual : Str} {scope : Scope} {f : Addr} {cdv : Value} {A : Around} {outer : List PySem.Env} {s : Shared} {H : Hp} {pn : List (Addr × Obj)} {ds : List D} {b : Bs}
theorem fam_at (h : b.1.heap.objs.size = s.heap.objs.size) : (famOf pg w K mg base N qual scope f cdv A outer s H pn ds).at b = gcxOf pg w K mg base N qual scope f cdv A outer b.1 b.2 noK pn := by
  show rb _ _ b = _
  unfold rb famOf gcxOf cxOf
  simp only [h]
theorem fam_ok : (famOf pg w K mg base N qual scope f cdv A outer s H pn ds).Ok where
  sz := fun b hb => hb
  own := fun b hb => by
    have e := fam_at (pg := pg) (w := w) (K := K) (mg := mg) (base := base) (N := N) (qual := qual) (scope := scope) (f := f) (cdv := cdv) (A := A) (outer := outer) (s := s) (H := H) (pn := pn) (ds := ds) (b := b) hb
    show PassesOwn (model pg w) ((famOf pg w K mg base N qual scope f cdv A outer s H pn ds).at b).A ((famOf pg w K mg base N qual scope f cdv A outer s H pn ds).at b).env ((famOf pg w K mg base N qual scope f cdv A outer s H pn ds).at b).xe
    rw [e]
    exact owns_gcx
end
end GF
namespace GF
open PySem PySem.Spec L2 GenW DX
open PyProof.Rows hiding St
def cutH (h : Heap) (n : Nat) : Heap := { h with objs := h.objs.extract 0 n }
theorem cut_size {h : Heap} {n : Nat} (hn : n ≤ h.objs.size) : (cutH h n).objs.size = n := by
  show (h.objs.extract 0 n).size = n
  rw [Array.size_extract]; omega
theorem cut_get {h : Heap} {n b : Nat} (hb : b < n) (hn : n ≤ h.objs.size) : (cutH h n).get? b = h.get? b := by
  have e : (h.objs.extract 0 n)[b]? = h.objs[b]? := by
    rw [Array.getElem?_extract, if_pos (by omega), Nat.zero_add]
  unfold Heap.get? cutH
  dsimp only
  rw [e]
theorem cut_of {h : Heap} {n b : Nat} {o : Obj} (hn : n ≤ h.objs.size) (e : (cutH h n).get? b = some o) : b < n ∧ h.get? b = some o := by
  have hb : b < n := by have := Heap.lt_size e; rwa [cut_size hn] at this
  exact ⟨hb, by rw [← cut_get hb hn]; exact e⟩
theorem ff_cut {h0 h2 base : Heap} {n : Nat} (e0 : h0.objs.size = n) (hn : n ≤ h2.objs.size) : ∀ {l : List PySem.Env}, h0.FunFrames base l → h2.FunFrames base l → (cutH h2 n).FunFrames base l
  | [], _, _ => trivial
  | env :: l, h, g => by
    obtain ⟨k1, ⟨L, o, f1, b1, g1, d1⟩, r1⟩ := h
    obtain ⟨k2, ⟨L2, o2, f2, b2, g2, d2⟩, r2⟩ := g
    have e : L2 = L := Option.some.inj (f2.symm.trans f1)
    subst e
    have hL : L2 < n := by
      have q := Heap.lt_size g1
      rw [e0] at q; exact q
    exact ⟨k1, ⟨L2, o2, f1, b2, by rw [cut_get hL hn]; exact g2, d2⟩, ff_cut e0 hn r1 r2⟩
theorem I.wake {Y : Fm} {g : Gst} {F : Hp} {cp ip : List (Addr × Obj)} {σ : St} {H : Hp} {s1 s2 : Shared} (ok : Y.Ok) (hV : ∀ b : Bs, b.1.heap.objs.size = Y.n0 → Y.V b) (hex : Y.X.ex = []) (h : I Y g ip σ H s1) (os : s2.os = s1.os) (ag : AllBare s2.gens) (sz : Y.n0 ≤ s2.heap.objs.size)
    (priv : ∀ b o, (b = Y.X.env.locals ∨ (∃ x, Y.X.env.cells.lookup x = some b) ∨ (∃ p ∈ Y.X.pn ++ ip, p.1 = b)) → s1.heap.get? b = some o → s2.heap.get? b = some o) (hok : HOk Y.X.prog Y.X.w H s2.heap)
    (hbs : ∀ b o, Y.X.base.get? b = some o → s2.heap.get? b = some o) (fr : s2.heap.FunFrames Y.X.base Y.X.outer) (hcp : ∀ p ∈ cp, s2.heap.get? p.1 = some p.2 ∧ H p.1 = none ∧ p.1 ≠ Y.X.env.locals ∧ p.1 ∉ Y.X.fs ∧ ∀ v, p.2.data ≠ .cell v) (dj : ∀ p ∈ cp, ∀ q ∈ ip, q.1 ≠ p.1) : I Y ⟨F, ({ s2 with heap := cutH s2.heap Y.n0 }, H), cp⟩ ip σ H s2 := by
  obtain ⟨hb, I1, _⟩ := h
  have e0 : g.b.1.heap.objs.size = Y.n0 := ok.sz _ hb
  have nex : ∀ a, a ∉ Y.X.ex := fun a m => by rw [hex] at m; cases m
  have cs : (cutH s2.heap Y.n0).objs.size = Y.n0 := cut_size sz
  refine ⟨hV _ cs, ?_, dj⟩
  have k := I1.ok
  have lt0 : ∀ a o, Y.X.base.get? a = some o → a < Y.n0 := fun a o q => by
    have z := Heap.lt_size (k.bs a o q).1
    have e1 : (Y.at g.b).s_0.heap.objs.size = Y.n0 := e0
    rw [e1] at z; exact z
  refine ⟨⟨k.mod, k.kind, k.glob, k.blt, ?_, k.inj, k.has, fun x c h1 h2 => ?_, k.hd, k.frames, k.stk, k.exf, fun a o q => ⟨?_, ?_⟩, ?_, k.noex, k.exfs, ff_cut e0 sz k.funs fr, fun a ha => ?_⟩, rfl, ag, ⟨fun a o q _ _ _ => (cut_of sz q).2, fun a o q _ _ _ => ⟨o.slots, (cut_of sz q).2⟩, fun a o q n _ => n, fun a o q _ => ⟨o, (cut_of sz q).2⟩, fun a xs z => z, fun a o v z => z, fun a ps z => ⟨#[], ?_⟩⟩, ?_, fun x c q => ?_, I1.free, I1.freeC, fun p hp => ?_, hok, I1.len⟩
  · show (cutH s2.heap Y.n0).objs.size ≤ _
    rw [cs, ← e0]; exact k.above
  · show (cutH s2.heap Y.n0).objs.size ≤ _
    rw [cs, ← e0]; exact k.cab x c h1 h2
  · show (cutH s2.heap Y.n0).get? a = some o
    rw [cut_get (lt0 a o q) sz]; exact hbs a o q
  · exact (I1.bs a o q).2
  · show _ ≤ (cutH s2.heap Y.n0).objs.size
    rw [cs, ← e0]; exact k.bsz
  · obtain ⟨_, o, ho, _⟩ := k.funs.mem ha
    exact I1.base.free a o ho (k.frf a ha) (nex a)
  · have z : H a = some (.tbl ps) := z
    rw [z]; simp
  · obtain ⟨m, ⟨o, es, ep, q1, q2⟩, q3⟩ := I1.loc
    refine ⟨m, ⟨o, es, ep, priv _ _ (.inl rfl) q1, q2⟩, fun i x v h1 h2 h3 => ?_⟩
    obtain ⟨u, ru, lk⟩ := q3 i x v h1 h2 h3
    refine ⟨u, ru, ?_⟩
    rcases lk with lk | ⟨kd, c, hc, oc, g1, g2⟩
    · exact .inl lk
    · exact .inr ⟨kd, c, hc, oc, priv _ _ (.inr (.inl ⟨x, hc⟩)) g1, g2⟩
  · obtain ⟨v, oc, g1, g2⟩ := I1.cell x c q
    exact ⟨v, oc, priv _ _ (.inr (.inl ⟨x, q⟩)) g1, g2⟩
  · rcases List.mem_append.mp hp with hp | hp
    rotate_left
    · rcases List.mem_append.mp hp with hp | hp
      · exact hcp p hp
      · obtain ⟨h1, h2, h3, h4, h5⟩ := I1.pin p (List.mem_append_right _ (List.mem_append_right _ hp))
        exact ⟨priv _ _ (.inr (.inr ⟨p, List.mem_append_right _ hp, rfl⟩)) h1, h2, h3, h4, h5⟩
    have hp0 := hp
    replace hp : p ∈ Y.X.pn ++ ip := List.mem_append_left _ hp
    obtain ⟨h1, h2, h3, h4, h5⟩ := I1.pin p (List.mem_append_left _ hp0)
    exact ⟨priv _ _ (.inr (.inr ⟨p, hp, rfl⟩)) h1, h2, h3, h4, h5⟩
end GF
namespace GF
open PySem PySem.Spec L2 GenW DX
open PyProof.Rows hiding St
/-- what the call gives: a generator that has begun nothing, and its family -/
def MadeY (pg : Program) (w : World) (K : PySem.W.Frag) (k : Nat) (outer : List PySem.Env) (H F : Hp) (s : Shared) (ds : List D) (u : Value) (s' : Shared) : Prop :=
  ∃ (a : Addr) (go : Obj) (g : Nat) (c : Code), u = .ref a ∧ s.heap.objs.size ≤ a ∧ a < s'.heap.objs.size ∧ s'.heap.IsGen a g ∧ s'.heap.get? a = some go ∧ s'.gens[g]? = some (.fresh c) ∧ g = s.gens.size ∧ s'.os = s.os ∧ AllBare s'.gens ∧ s'.heap.NoLimit ∧ (∀ b o, s.heap.get? b = some o → s'.heap.get? b = some o) ∧
    ∀ (A : Around), Room k A → A.frames = some outer → ∃ (Y : Fm) (σ : St), Y.Ok ∧ (∀ b : Bs, b.1.heap.objs.size = Y.n0 → Y.V b) ∧ Y.X.ex = [] ∧ Y.n0 = s.heap.objs.size ∧ Y.X.prog = pg ∧ Y.X.w = w ∧ Y.X.K = K ∧ Y.X.outer = outer ∧ Y.O = OD K ds ∧ Y.X.pn = [(a, go)] ∧
      s.heap.objs.size ≤ Y.X.env.locals ∧ Y.X.env.locals < s'.heap.objs.size ∧ (∀ x b, Y.X.env.cells.lookup x = some b → s.heap.objs.size ≤ b ∧ b < s'.heap.objs.size) ∧ I Y ⟨F, (s, H), []⟩ [] σ H s' ∧
      ∀ b' cp' s2, I Y ⟨F, b', cp'⟩ [] σ H s2 → SegG (model pg w) A (REnd Y K ds.length) (Yp Y) sizeLine ⟨F, b', cp'⟩ s2 c ((model pg w).den c) [] s2
section
variable {pg : Program} {w : World} {K : PySem.W.Frag} {mg : Str → Option Value} {base : Heap} {N ps : List Str} {qual name : Str} {params : Arguments} {body : List Stmt} {scope : Scope} {f : Addr} {cdv dV kV doc pm ct oc : Value} {an od : Option Addr} {osl : Array (Option Value)} {k : Nat} {T : List D → List D → Prop}
theorem call_Y (lk : K.lookup f = some ⟨oc, od, .func (PySem.W.fnOf name qual params body scope dV kV doc pm an cdv ct), osl⟩) (hcd : PySem.W.codeIn K cdv qual = true) (hca : CodeAt K f cdv) (S : GScope N ps scope) (B : GBodyY pg w K mg base k f qual body scope N ps T)
    {A : Around} {outer : List PySem.Env} {s : Shared} {H F : Hp} {M : Mem} {args : Args} {us : List Value} {vs : List L2.V} {as ds : List D} (hr : Room (k + 1) A) (e0 : Env0 pg w K mg base A outer s H) (hb : BindsTo s (PySem.W.fnOf name qual params body scope dV kV doc pm an cdv ct) args (ps.zip us)) (r : Vals vs us)
    (hl : vs.length = ps.length) (o : DX.Ok K F M H) (ra : Rps K F vs as) (t : T as ds) :
    codeAny (model pg w) A (.call (.ref f) args) (fun r s' => match r with | .ok (.ret u) => MadeY pg w K (k + 1) outer H F s ds u s' | _ => False) s := by
  have KX : K.In s.heap := e0.mod.kin.keeps fun b o e => (e0.bs b o e).1
  have lim : s.heap.NoLimit := e0.mod.nolimit.keeps fun b o e => (e0.bs b o e).1
  have hkind : ∀ y ∈ ps.zip us, scope.names.lookup y.1 = some .local ∨ (scope.names.lookup y.1 = some .cell ∧ ((cellsFrom (s.heap.objs.size + 1) scope.names []).lookup y.1).isSome = true) := fun ⟨n, v⟩ hy => by
    rcases S.par n (List.of_mem_zip hy).1 with q | q
    · exact .inl q
    · exact .inr ⟨q, PySem.W.cellsFrom_some _ _ _ (.inl q)⟩
  refine codeAny_call_generator hr.depth (KX _ _ lk) rfl S.co S.gen rfl (PySem.W.codeRec_of KX hcd) (hb _ _ _ _ ?_)
  refine wpAny_newFunctionEnv_cells S.kind hkind fun env he s1 x => ?_
  subst he
  have lim1 : s1.heap.NoLimit := lim.keeps x.toInCall.keep
  refine ⟨lim1, ?_⟩
  obtain ⟨h1, tk, es1, hk1⟩ := x.done
  have os1 : s1.os = s.os := by rw [es1]
  have gen1 : s1.gens = s.gens := by rw [es1]
  have lt1 : s.heap.objs.size < s1.heap.objs.size := x.toInCall.ns.lt
  have sz1 : s.heap.objs.size ≤ s1.heap.objs.size := Nat.le_of_lt lt1
  have kp1 : ∀ b o, s.heap.get? b = some o → s1.heap.get? b = some o := x.toInCall.keep
  have main : ∀ (go : Obj) (nm qn : Value) (tk2 : Nat), go.cls = .type "generator" → go.data = .fields #[.int s1.gens.size 0, nm, qn] → go.slots = #[] → (∀ h : Heap, (h.push go).get? h.objs.size = some go) →
      MadeY pg w K (k + 1) outer H F s ds (.ref s1.heap.objs.size) { s1 with gens := s1.gens.push (.fresh (.func body (envOfC qual scope s.heap.objs.size f cdv))), toks := tk2, heap := s1.heap.push go } := by
    intro go nm qn tk2 hgc hgd0 hgs hgp
    have hpushed : (s1.heap.push go).get? s1.heap.objs.size = some go := hgp _
    have psz : (s1.heap.push go).objs.size = s1.heap.objs.size + 1 := Heap.size_push ..
    have kpp : ∀ b o, s1.heap.get? b = some o → (s1.heap.push go).get? b = some o := fun b o e => Heap.get?_push_of_some _ e
    have bare1 : AllBare (s1.gens.push (.fresh (.func body (envOfC qual scope s.heap.objs.size f cdv)))) := AllBare.push (by rw [gen1]; exact e0.bare) rfl
    refine ⟨s1.heap.objs.size, go, s1.gens.size, _, rfl, sz1, ?_, ⟨go, nm, qn, hpushed, hgc, hgd0, hgs⟩, hpushed, Array.getElem?_push_size .., by rw [gen1], os1, bare1, lim1.keeps kpp, fun b o e => kpp b o (kp1 b o e), ?_⟩
    · show _ < (s1.heap.push _).objs.size
      rw [psz]; exact Nat.lt_succ_self _
    intro Aw hrw hfr
    have e0w : Env0 pg w K mg base Aw outer s H := ⟨hfr, e0.mod, e0.bs, e0.bsz, e0.funs, e0.frf, e0.hok, e0.bare⟩
    have I1 : Inv (gcxOf pg w K mg base N qual scope f cdv Aw outer s H noK []) [] (L2.start N vs) H s1 := inv_startG S hrw.hd e0w hl r x
    have I2 : Inv (gcxOf pg w K mg base N qual scope f cdv Aw outer s H noK []) [] (L2.start N vs) H { s1 with gens := s1.gens.push (.fresh (.func body (envOfC qual scope s.heap.objs.size f cdv))), toks := tk2, heap := s1.heap.push go } :=
      I1.call' (ch := []) rfl (Un.kept kpp) (I1.hok.kept kpp) bare1 fun b z => by simp at z
    have young : H s1.heap.objs.size = none ∧ s1.heap.objs.size ≠ s.heap.objs.size ∧ s1.heap.objs.size ∉ frs outer := ⟨I1.hok.fresh (Nat.le_refl _), Nat.ne_of_gt lt1, I1.nofs (Nat.le_refl _)⟩
    have I3 : Inv (gcxOf pg w K mg base N qual scope f cdv Aw outer s H noK [(s1.heap.objs.size, go)]) [] (L2.start N vs) H { s1 with gens := s1.gens.push (.fresh (.func body (envOfC qual scope s.heap.objs.size f cdv))), toks := tk2, heap := s1.heap.push go } :=
      Inv.pinnedG I2 fun p hp => by
        rw [List.append_nil] at hp
        rw [List.mem_singleton.mp hp]
        exact ⟨hpushed, young.1, young.2.1, young.2.2, fun v q => by rw [hgd0] at q; cases q⟩
    refine ⟨famOf pg w K mg base N qual scope f cdv Aw outer s H [(s1.heap.objs.size, go)] ds, L2.start N vs, fam_ok, fun b hb => hb, rfl, rfl, rfl, rfl, rfl, rfl, rfl, rfl, Nat.le_refl _, ?_, fun y c hc => ⟨Nat.le_of_lt (x.above y c (PySem.mem_of_lookup hc)), ?_⟩, ⟨rfl, ?_, fun p hp => absurd hp List.not_mem_nil⟩, fun b' cp' s2 h2 => first (g0 := ⟨F, b', cp'⟩) B hca (hrw.deeper _) t hl o ra h2⟩
    · show s.heap.objs.size < (s1.heap.push go).objs.size
      rw [psz]; exact Nat.lt_succ_of_lt lt1
    · obtain ⟨v, oc, g1, _⟩ := I1.cell y c hc
      have := Heap.lt_size g1
      show c < (s1.heap.push go).objs.size
      rw [psz]; exact Nat.lt_succ_of_lt this
    · exact I3
  exact main _ _ _ _ rfl rfl rfl fun h => Heap.get?_push_size _ rfl
end
end GF
namespace GF
open PySem PySem.Spec L2 GenW DX
open Sem (wp)
/-- how it goes on behind the item -/
def nextG {γ : Type} (M : Model) (A : Around) (R : EndG γ) (Y : ProtG γ) : Nat → GenState → γ → Resume → Shared → Prop
  | 0, _, _, _, _ => False
  | m + 1, gs, g, r, s => GoesG M A R Y m g gs r s
section
variable {γ : Type} {M : Model}
theorem resumeG {A : Around} {R : EndG γ} {Y : ProtG γ} {n : Nat} {E : Value → Shared → Prop} {s : Shared} {i : Nat} {g : γ} {gs : GenState} {r : Resume} {l : List Value} {α : Type} {k : GenResult → Sem α} {Q : α → Shared → Prop} (hg : s.gens[i]? = some gs)
    (hgo : GoesG M A R Y n g gs r (s.setGen i .running)) (hR : ∀ x s₁, R g n (s.setGen i .running) x s₁ → wpAny M A (k (End.ret x).result) Q E (s₁.setGen i .finished))
    (hY : ∀ v s₁ gs', gs'.bare = true → isSusp gs' → ngS gs' → Y g (n - 1) (s.setGen i .running) v s₁ (nextG M A R Y n gs') → wpAny M A (k (.yielded v)) Q E (s₁.setGen i gs')) :
    wpAny M A (.resume i r l k) Q E s := by
  intro Γ p hΓ
  rw [Sem.wp_resume]
  have hB : ∀ c, (Γ.wake c p).Woken A := fun c => hΓ.wake c p
  have fin : ∀ e₁ s₁, SegE R Y n (SegG.next M A R Y n) g (s.setGen i .running) e₁ s₁ → wp M Γ (k e₁.result) (fun a _ s' => Q a s') (fun e _ s' => E e s') p (s₁.setGen i e₁.genState) := by
    intro e₁ s₁ he
    cases e₁ with
    | ret x => exact hR x s₁ he Γ p hΓ
    | susp v q₀ l₀ k₀ c₀ p₀ fs₀ =>
      refine hY v s₁ _ (End.bare_of_quiet he.1) trivial he.2.1 ?_ Γ p hΓ
      cases n with
      | zero => exact he.2.2
      | succ m => exact he.2.2
  have hqt : ∀ e₁ s₁, SegE R Y n (SegG.next M A R Y n) g (s.setGen i .running) e₁ s₁ → e₁.quiet = true := by
    intro e₁ s₁ he
    cases e₁ with
    | ret x => rfl
    | susp v q₀ l₀ k₀ c₀ p₀ fs₀ => exact he.1
  cases gs with
  | fresh c =>
    obtain ⟨rfl, hs⟩ := hgo
    obtain ⟨e₁, s₁, hr, he⟩ := sg_iff.mp hs (Γ.wake c p) p rfl (hB c)
    exact ⟨_, _, by unfold Wakes; rw [hg]; exact ⟨e₁, s₁, hr, hqt e₁ s₁ he, rfl, rfl⟩, fin e₁ s₁ he⟩
  | suspended k₀ l₀ c₀ p₀ fs₀ cl =>
    obtain ⟨e₁, s₁, hr, he⟩ := sg_iff.mp hgo (Γ.wake c₀ p) p₀ rfl (hB c₀)
    exact ⟨_, _, by unfold Wakes; rw [hg]; exact ⟨e₁, s₁, hr, hqt e₁ s₁ he, rfl, rfl⟩, fin e₁ s₁ he⟩
  | running => exact hgo.elim
  | finished => exact hgo.elim
end
section
variable {γ : Type} {prog : Program} {w : World} {A : Around} {E : Value → Shared → Prop} {s : Shared}
/-- next(g) in a loop's turn -/
theorem pyNextG {a : Addr} {i n : Nat} {g : γ} {gs : GenState} {R : EndG γ} {Y : ProtG γ} {Q : Option Value → Shared → Prop} (hh : A.handled = none) (hl : s.heap.NoLimit) (hroom : A.depth < recursionLimit) (hg : s.heap.IsGen a i) (hgs : s.gens[i]? = some gs)
    (hgo : GoesG (model prog w) A.in1 R Y n g gs (.send .none) (s.setGen i .running))
    (hY : ∀ v s₁ gs', gs'.bare = true → isSusp gs' → ngS gs' → Y g (n - 1) (s.setGen i .running) v s₁ (nextG (model prog w) A.in1 R Y n gs') → Q (some v) (s₁.setGen i gs'))
    (hR : ∀ x s₁, R g n (s.setGen i .running) x s₁ → (x = .ok (.ret .none) ∨ x = .ok .next) ∧ ∀ h', (∀ b o, s₁.heap.get? b = some o → h'.get? b = some o) → Q none { s₁.setGen i .finished with heap := h' }) :
    wpAny (model prog w) A (pyNext (.ref a)) Q E s := by
  unfold pyNext
  refine wpAny_bind (wpAny_attempt (wpAny_callSpecial?_slot (name := Str.ofString "__next__") hg.typeIs slot_gen_next
    (wpAny_call_entry slot_gen_next hg.typeIs entry_gen_next ?_ (args_gen_next _))))
  show wpAny _ A.in1 (Builtin.Generator.genWake (.ref a) (.send .none)) _ _ s
  unfold Builtin.Generator.genWake
  refine wpAny_bind (wpAny_holding (wpAny_genNumber hg (wpAny_bind (wpAny_genState hgs ?_))))
  cases gs with
  | running => exact hgo.elim
  | finished => exact hgo.elim
  | _ =>
    refine wpAny_bind (wpAny_roomToWake hl hroom ?_)
    show wpAny _ A.in1 (.resume i (.send .none) [] _) _ _ s
    refine resumeG hgs hgo (fun x s₁ hx => ?_) (fun v s₁ gs' hb hsu hng hv => ?_)
    · obtain ⟨hx1, hp⟩ := hR x s₁ hx
      have e : (End.ret x).result = .returned .none := by
        rcases hx1 with rfl | rfl <;> rfl
      rw [e]
      show wpAny _ A.in1 (newExc (.type "StopIteration") [] >>= _) _ _ _
      refine wpAny_bind ?_
      simp only [newExc, newTuple]
      refine wpAny_bind (wpAny_newObj_type ?_ (by size_fits))
      refine wpAny_bind (m := firstArgMember _ _) (wpAny_of_eq (a := Value.none) (by first | rfl | (simp only [firstArgMember]; rfl)) ?_)
      refine wpAny_newObj_type ?_ (by size_fits)
      simp only [raiseNew]
      refine wpAny_bind (wpAny_bind (wpAny_handled ?_))
      first | rw [show A.in1.handled = none from hh] | rw [hh]
      refine wpAny_throw ?_
      refine wpAny_bind (wpAny_isInstance (T := "StopIteration") (b := true) ⟨_, Heap.get?_push_size _ rfl, rfl⟩ isSubtype_stop ?_)
      exact wpAny_pure (hp _ fun b o hb => Heap.get?_push_of_some _ (Heap.get?_push_of_some _ hb))
    · exact wpAny_pure ⟨v, rfl, wpAny_pure (hY v s₁ gs' hb hsu hng hv)⟩
end
end GF
namespace GF
open DX
def Ext (f : List D → Option (List D)) : Prop := ∀ ys r, f ys = some r → ys <+: r
theorem ext_foldO {step : List D → D → Option (List D)} (h : ∀ x, Ext fun ys => step ys x) : ∀ {xs : List D}, Ext fun ys => foldO step ys xs
  | [], ys, r, e => by cases e; exact List.prefix_refl _
  | x :: xs, ys, r, e => by
    obtain ⟨y1, e1, e2⟩ := Option.bind_eq_some_iff.mp (show (step ys x).bind (fun s => foldO step s xs) = some r from e)
    exact (h x ys y1 e1).trans (ext_foldO h y1 r e2)
/-- an item is the next one of all that comes -/
theorem Ext.pre {k : List D → Option (List D)} {ys ds : List D} (h : Ext k) (e : k ys = some ds) : ys <+: ds := h ys ds e
end GF
namespace GF
open PySem PySem.Spec L2 DX
open Classical in
/-- what is frozen, the dicts of frozen instances, tuples -/
noncomputable def cutF (F H : Hp) : Hp := fun b => match H b with
  | some (.tup xs) => some (.tup xs)
  | some (.own a) => if F b = none ∧ F a = none then none else some (.own a)
  | o => if F b = none then none else o
end GF
namespace GF
open PySem PySem.Spec L2 GenW DX
open PyProof.Rows hiding St
section
variable {pg : Program} {w : World} {K : PySem.W.Frag} {mg : Str → Option Value} {base : Heap} {N pn : List Str} {qual x : Str} {params : Arguments} {body : List Stmt} {scope : Scope} {f : Addr} {fd : FuncData} {k : Nat} {T : List D → List D → Prop}
/-- f(..), f a generator def: what it hands out is what T says of the arguments -/
structure GFnY (pg : Program) (w : World) (K : PySem.W.Frag) (mg : Str → Option Value) (base : Heap) (k : Nat) (f : Addr) (ks : List Str) (T : List D → List D → List D → Prop) : Prop where
  go : ∀ (A : Around) (outer : List PySem.Env) (s : Shared) (H F : Hp) (M : Mem) (as zs ds : List D) (us ws : List Value) (vs xs : List L2.V), Room k A → Env0 pg w K mg base A outer s H → Vals vs us → Vals xs ws → ws.length = ks.length →
    DX.Ok K F M H → Rps K F vs as → Rps K F xs zs → T as zs ds → codeAny (model pg w) A (.call (.ref f) ⟨us, ks.zip ws⟩) (fun r s' => match r with | .ok (.ret u) => MadeY pg w K k outer (cutF F H) F s ds u s' | _ => False) s
end
end GF
namespace GF
open PySem PySem.Spec L2 DX
theorem mrg_same {F1 Fc H1 Hc : Hp} (s1 : Same F1 H1) (sc : Same Fc Hc) (ov : ∀ a o, Fc a = some o → H1 a = none ∨ H1 a = some o) : Same (mrg F1 Fc) (mrg H1 Hc) := fun a o e => by
  cases q : F1 a with
  | some u => rw [mrg_l q] at e; cases e; exact mrg_l (s1 a _ q)
  | none =>
    rw [mrg_r q] at e
    rcases ov a o e with n | n
    · rw [mrg_r n]; exact sc a o e
    · exact mrg_l n
theorem mrg_ext {F1 Fc : Hp} (ov : ∀ a o, Fc a = some o → F1 a = none ∨ F1 a = some o) : Same Fc (mrg F1 Fc) := fun a o e => by
  rcases ov a o e with n | n
  · rw [mrg_r n]; exact e
  · exact mrg_l n
theorem mrg_extl {F1 Fc : Hp} : Same F1 (mrg F1 Fc) := fun a o e => mrg_l e
/-- the consumer's own lists are apart from what the generator tracks -/
theorem mrg_ok {K : PySem.W.Frag} {F1 Fc H1 Hc : Hp} {M1 M : Mem} (o1 : DX.Ok K F1 M1 H1) (oc : DX.Ok K Fc M Hc) (ov : ∀ a o, Fc a = some o → H1 a = none ∨ H1 a = some o) (ovF : ∀ a o, Fc a = some o → F1 a = none ∨ F1 a = some o) (ap : ∀ a d, M a = some d → H1 a = none) : DX.Ok K (mrg F1 Fc) M (mrg H1 Hc) := by
  refine ⟨mrg_same o1.ex oc.ex ov, fun a d e => ?_⟩
  obtain ⟨n, m⟩ := oc.mt a d e
  have h1 := ap a d e
  have f1 : F1 a = none := by
    cases q : F1 a with
    | none => rfl
    | some u => have := o1.ex a u q; rw [h1] at this; cases this
  exact ⟨by rw [mrg_r f1]; exact n, m.mono (mrg_ext ovF) (mrg_r h1)⟩
end GF
namespace GF
open PySem PySem.Spec L2 GenW DX
open PyProof.Rows hiding St
section
variable {P : Program} {w : World} {H H' : Hp} {h h' : Heap} {a : Addr} {o : HO}
end
section
variable {K : PySem.W.Frag} {F : Hp}
end
theorem cutG_tup {F H : Hp} {b : Addr} {xs : List V} (h : H b = some (.tup xs)) : cutG F H b = some (.tup xs) := by unfold cutG; rw [h]
theorem cutG_own {F H : Hp} {a b : Addr} (h : H b = some (.own a)) (q : Owns F a b) : cutG F H b = some (.own a) := by unfold cutG; rw [h]; exact if_pos q
theorem cutG_same {F H : Hp} (s : Same (noOwn F) H) : Same (noOwn F) (cutG (noOwn F) H) := fun a o e => by
  have h := s a o e
  have n : noOwn F a ≠ none := by rw [e]; simp
  have no := (noOwn_of e).2
  unfold cutG
  rw [h]
  cases o <;> first
    | rfl
    | exact if_neg n
    | exact absurd rfl (no _)
theorem cutG_none {F H : Hp} {b : Addr} (h : H b = none) : cutG F H b = none := by
  cases q : cutG F H b with
  | none => rfl
  | some o => rw [cutG_le q] at h; cases h
theorem cutG_hok {pg : Program} {w : World} {F H : Hp} {h : Heap} (s : Same F H) (k : HOk pg w H h) : HOk pg w (cutG F H) h := fun b o e => by
  have x := k b o (cutG_le e)
  refine stay2 x (fun _ _ _ q => q) (fun c hd q => ?_) fun c xs q => cutG_tup q
  rcases cutG_kind e with ⟨xs, rfl⟩ | ⟨a, rfl, _⟩ | n
  · cases hd
  · cases hd
  · refine cutG_own q ⟨o, ?_, hd⟩
    cases z : F b with
    | none => exact absurd z n
    | some u =>
      have := s b u z
      rw [cutG_le e] at this
      rw [Option.some.inj this]
theorem cutG_ok {K : PySem.W.Frag} {F H : Hp} {M : Mem} (o : DX.Ok K F M H) : DX.Ok K (noOwn F) (fun _ => none) (cutG (noOwn F) H) := ⟨cutG_same (noOwn_same o.ex), fun a d e => by cases e⟩
theorem env0_cutG {pg : Program} {w : World} {K : PySem.W.Frag} {mg : Str → Option Value} {base : Heap} {A : Around} {outer : List PySem.Env} {s : Shared} {H F : Hp} (e0 : Env0 pg w K mg base A outer s H) (sm : Same F H) : Env0 pg w K mg base A outer s (cutG F H) :=
  ⟨e0.frames, e0.mod, fun b o q => ⟨(e0.bs b o q).1, cutG_none (e0.bs b o q).2⟩, e0.bsz, e0.funs, fun b q => cutG_none (e0.frf b q), cutG_hok sm e0.hok, e0.bare⟩
section
variable {pg : Program} {w : World} {K : PySem.W.Frag} {mg : Str → Option Value} {base : Heap} {N pn : List Str} {qual x : Str} {params : Arguments} {body : List Stmt} {scope : Scope} {f : Addr} {fd : FuncData} {k : Nat} {T : List D → List D → Prop}
/-- f(..), f a generator def: what it hands out is what T says of the arguments -/
structure GFnZ (pg : Program) (w : World) (K : PySem.W.Frag) (mg : Str → Option Value) (base : Heap) (k : Nat) (f : Addr) (ks : List Str) (T : List D → List D → List D → Prop) : Prop where
  go : ∀ (A : Around) (outer : List PySem.Env) (s : Shared) (H F : Hp) (M : Mem) (as zs ds : List D) (us ws : List Value) (vs xs : List L2.V), Room k A → Env0 pg w K mg base A outer s H → Vals vs us → Vals xs ws → ws.length = ks.length →
    DX.Ok K F M H → Rps K F vs as → Rps K F xs zs → T as zs ds → codeAny (model pg w) A (.call (.ref f) ⟨us, ks.zip ws⟩) (fun r s' => match r with | .ok (.ret u) => MadeY pg w K k outer (cutG (noOwn F) H) (noOwn F) s ds u s' | _ => False) s
theorem gfn_Z (FD : FunD K x qual params body scope [] [] f fd) (S : GScope N pn scope) (B : GBodyY pg w K mg base k f qual body scope N pn T) (np : Nat) (ks : List Str) (ix : List Nat)
    (h : ∀ (kV doc pm : Value) (an : Option Addr) (cdv ct : Value) (us ws : List Value), us.length = np → ws.length = ks.length → bindArgs (PySem.W.fnOf x qual params body scope .none kV doc pm an cdv ct) ⟨us, ks.zip ws⟩ = pure (pn.zip (pick (us ++ ws) ix)))
    (hix : ∀ (us ws : List L2.V), us.length = np → ws.length = ks.length → (pick (us ++ ws) ix).length = pn.length) :
    GFnZ pg w K mg base (k + 1) f ks (fun as zs ds => as.length = np ∧ zs.length = ks.length ∧ T (pick (as ++ zs) ix) ds) := by
  obtain ⟨oc, od, dV, kV, doc, pm, an, cdv, ct, osl, rfl, lk, hcd, hD, hK⟩ := FD.ex
  obtain rfl : dV = .none := by
    rcases hD with ⟨_, e⟩ | ⟨e, _⟩
    · exact e
    · exact absurd rfl e
  refine ⟨fun A outer s H F M as zs ds us ws vs xs hr e0 rv rx hw o rd rz t => ?_⟩
  obtain ⟨hd0, hzl, t⟩ := t
  have l1 : us.length = np := by rw [← rv.length, rd.length]; exact hd0
  have vl : (pick (vs ++ xs) ix).length = pn.length := hix _ _ (by rw [rv.length]; exact l1) (by rw [rx.length]; exact hw)
  refine call_Y lk hcd ⟨_, _, _, _, lk, rfl⟩ S B hr (env0_cutG e0 (noOwn_same o.ex)) (us := pick (us ++ ws) ix) (vs := pick (vs ++ xs) ix) (fun M' A' Q' E' hq => ?_) (pick_vals (rv.append rx) ix) vl (cutG_ok o) (pick_rps ((Rps.noOwn rd).append (Rps.noOwn rz)) ix) t
  rw [h kV doc pm an cdv ct us ws l1 hw]
  exact wpAny_pure hq
end
end GF
namespace GF
open PySem PySem.Spec L2 GenW DX
open PyProof.Rows hiding St
section
variable {c : CsP} {ds : List D} {Fg Hg F1 H1 : Hp} {acc : List L2.V} {s s1 : Shared}
/-- behind a turn of the generator -/
theorem LX.seg (l : LX c ds Fg Hg acc s) (k : c.Ok) (hf : Same Fg F1) (fg : Same F1 H1) (u : Un (frs c.stk) [] Hg H1 (cutH s.heap c.n0) s1.heap) (hk : HOk c.pg c.w H1 s1.heap) (hos : s1.os = c.os) (hg : AllBare s1.gens) (hsz : c.n0 ≤ s1.heap.objs.size)
    (pD : H1 c.D = none) (pC : H1 c.C = none) (keepD : ∀ o, s.heap.get? c.D = some o → s1.heap.get? c.D = some o) (keepC : ∀ o, s.heap.get? c.C = some o → s1.heap.get? c.C = some o) : LX c ds F1 H1 acc s1 := by
  have cg : ∀ {b : Addr} {o : Obj}, b < c.n0 → s.heap.get? b = some o → (cutH s.heap c.n0).get? b = some o := fun hb e => by rw [cut_get hb l.sz]; exact e
  have f0 := l.f0.trans hf
  have tup : ∀ b xs, c.Hs b = some (.tup xs) → H1 b = some (.tup xs) := fun b xs e => u.tups b xs (l.tup b xs e)
  have dm : ∀ {b : Addr} {o : HO}, c.H0 b = some o → H1 b = some o := fun e => dom_in k f0 fg hk tup e
  have nn : ∀ {b : Addr} {o : HO}, H1 b = none → c.Hs b = some o → Hg b = none := fun {b o} n e => by
    cases q : c.H0 b with
    | none => exact l.none0 k e q
    | some v => rw [dm q] at n; cases n
  refine ⟨f0, fg, hk, tup, fun b o hb e n => ?_, fun b o hb e => ?_, fun b o n e => ?_, pD, pC, ?_, l.rps.mono hf, l.le, ?_, hos, hg, hsz⟩
  · obtain ⟨h1, ⟨sl, h2⟩, h3⟩ := l.old b o hb e n
    have g := cg hb h2
    refine ⟨u.free b _ g h1 (by simp), ?_, fun hx => u.keep b o (cg hb (h3 hx)) h1 hx (by simp)⟩
    obtain ⟨sl2, g2⟩ := u.any g h1 (by simp)
    exact ⟨sl2, g2⟩
  · obtain ⟨o', e'⟩ := l.there b o hb e
    exact u.there b o' (cg hb e') (by simp)
  · have n0 := nn n e
    have nofr : ∀ {x : Addr} {v : HO}, c.Hs x = some v → x ∉ frs c.stk := fun q z => by rw [(k.hst _ z).1] at q; cases q
    refine stay2 (l.hb b o n0 e) (fun x v hx g => ?_) (fun x hd q => ?_) fun x xs q => ?_
    · rcases hx with rfl | ⟨hd, q⟩
      · exact u.keep x v (cg (k.hH _ _ e) g) n0 (nofr e) (by simp)
      · obtain ⟨e1, n1⟩ := l.dict k n0 e hd
        exact u.keep x v (cg (k.hH _ _ e1) g) n1 (nofr e1) (by simp)
    · obtain ⟨e1, n1⟩ := l.dict k n0 e hd
      obtain ⟨v, hv⟩ := k.at4 e1
      obtain ⟨o', g'⟩ := l.there x v (k.hH _ _ e1) hv
      rw [mrg_r (u.free x o' (cg (k.hH _ _ e1) g') n1 (by simp))]
      exact e1
    · cases y : Hg x with
      | some v =>
        rw [mrg_l y] at q
        cases q
        exact mrg_l (u.tups x xs y)
      | none =>
        rw [mrg_r y] at q
        have := l.tup x xs q
        rw [y] at this; cases this
  · obtain ⟨its, n, r, e⟩ := l.lst
    exact ⟨its, n, r, keepD _ e⟩
  · obtain ⟨m, o, es, ep, e, r⟩ := l.ns
    exact ⟨m, o, es, ep, keepC _ e, r⟩
end
end GF
namespace GF
open PySem PySem.Spec L2 GenW DX
open PyProof.Rows hiding St
structure Gok (c : CsP) (Y : Fm) (ds : List D) (a : Addr) (gi : Nat) (go : Obj) : Prop where
  ok : Y.Ok
  hV : ∀ b : Bs, b.1.heap.objs.size = Y.n0 → Y.V b
  hex : Y.X.ex = []
  n0 : Y.n0 = c.n0
  pg : Y.X.prog = c.pg
  w : Y.X.w = c.w
  outer : Y.X.outer = c.stk
  O : Y.O = OD c.K ds
  pn : Y.X.pn = [(a, go)]
  gen : ∀ h : Heap, h.get? a = some go → h.IsGen a gi
  aD : a ≠ c.D
  aC : a ≠ c.C
  lD : Y.X.env.locals ≠ c.D
  lC : Y.X.env.locals ≠ c.C
  cD : ∀ x b, Y.X.env.cells.lookup x = some b → b ≠ c.D ∧ b ≠ c.C
/-- the generator stands ready, the consumer's two objects pinned -/
def Rdy (c : CsP) (Y : Fm) (A : Around) (ds : List D) (gi : Nat) (i : Nat) (Fg Hg : Hp) (s : Shared) : Prop :=
  ∃ (ip : List (Addr × Obj)) (σ : L2.St) (oD oC : Obj) (gs : GenState) (n : Nat), n + i = sizeLine ∧ s.gens[gi]? = some gs ∧ s.heap.get? c.D = some oD ∧ s.heap.get? c.C = some oC ∧ I Y ⟨Fg, ({ s with heap := cutH s.heap Y.n0 }, Hg), [(c.D, oD), (c.C, oC)]⟩ ip σ Hg s ∧
    GoesG (model c.pg c.w) A.in1 (REnd Y c.K ds.length) (Yp Y) n ⟨Fg, ({ s with heap := cutH s.heap Y.n0 }, Hg), [(c.D, oD), (c.C, oC)]⟩ gs (.send .none) (s.setGen gi .running)
theorem ff_keep {h h' base : Heap} : ∀ {l : List PySem.Env}, (∀ b ∈ frs l, ∀ o, h.get? b = some o → h'.get? b = some o) → h.FunFrames base l → h'.FunFrames base l
  | [], _, _ => trivial
  | env :: l, k, hh => by
    obtain ⟨k1, ⟨L, o, f1, b1, g1, d1⟩, r1⟩ := hh
    refine ⟨k1, ⟨L, o, f1, b1, k L ?_ o g1, d1⟩, ff_keep (fun b hb => k b ?_) r1⟩
    · unfold frs; rw [List.filterMap_cons, f1]; exact List.mem_cons_self
    · unfold frs; rw [List.filterMap_cons, f1]; exact List.mem_cons_of_mem _ hb
theorem I_run {Y : Fm} {g : Gst} {ip : List (Addr × Obj)} {σ : L2.St} {H : Hp} {s : Shared} {i : Nat} (h : I Y g ip σ H s) (x : GenState) (hx : x.bare = true) : I Y g ip σ H (s.setGen i x) := by
  obtain ⟨hb, I1, dj⟩ := h
  exact ⟨hb, ⟨I1.ok, I1.os, allBare_setGen I1.bare hx, I1.base, I1.loc, I1.cell, I1.free, I1.freeC, I1.pin, I1.hok, I1.len⟩, dj⟩
section
variable {c : CsP} {Y : Fm} {ds : List D} {a : Addr} {gi : Nat} {go : Obj} {Fg Hg F1 H1 : Hp} {acc : List L2.V} {s s1 s2 : Shared} {g0 : Gst} {ip : List (Addr × Obj)} {σ : L2.St}
theorem LX.setGen (l : LX c ds Fg Hg acc s) (x : GenState) (hx : x.bare = true) : LX c ds Fg Hg acc (s.setGen gi x) :=
  ⟨l.f0, l.fg, l.hk, l.tup, l.old, l.there, l.hb, l.nD, l.nC, l.lst, l.rps, l.le, l.ns, l.os, allBare_setGen l.bare hx, l.sz⟩
theorem wakeX (k : c.Ok) (G : Gok c Y ds a gi go) (I0 : I Y g0 ip σ Hg s1) (hip : ∀ q ∈ ip, q.1 ≠ c.D ∧ q.1 ≠ c.C) (l : LX c ds Fg Hg acc s2) (kp : ∀ b o, b ≠ c.D → b ≠ c.C → s1.heap.get? b = some o → s2.heap.get? b = some o) (hos : s2.os = s1.os) :
    ∃ oD oC, s2.heap.get? c.D = some oD ∧ s2.heap.get? c.C = some oC ∧ I Y ⟨Fg, ({ s2 with heap := cutH s2.heap Y.n0 }, Hg), [(c.D, oD), (c.C, oC)]⟩ ip σ Hg s2 := by
  obtain ⟨its, n, rv, eD⟩ := l.lst
  obtain ⟨m, oC, es, ep, eC, dC, _⟩ := l.ns
  refine ⟨_, oC, eD, eC, ?_⟩
  obtain ⟨hb, I1, dj0⟩ := id I0
  have e0 : g0.b.1.heap.objs.size = Y.n0 := G.ok.sz _ hb
  have ne : ∀ {b : Addr}, b < c.n0 → b ≠ c.D ∧ b ≠ c.C := fun hb => ⟨Nat.ne_of_lt (Nat.lt_of_lt_of_le hb k.hD), Nat.ne_of_lt (Nat.lt_of_lt_of_le hb k.hC)⟩
  have lt0 : ∀ b o, Y.X.base.get? b = some o → b < c.n0 := fun b o q => by
    have z := Heap.lt_size (I1.ok.bs b o q).1
    have e1 : (Y.at g0.b).s_0.heap.objs.size = Y.n0 := e0
    rw [e1, G.n0] at z; exact z
  refine I.wake G.ok G.hV G.hex I0 hos l.bare (by rw [G.n0]; exact l.sz) (fun b o hp e => ?_) (by rw [G.pg, G.w]; exact l.hk) (fun b o e => ?_) ?_ (fun p hp => ?_) fun p hp q hq => ?_
  · have : b ≠ c.D ∧ b ≠ c.C := by
      rcases hp with rfl | ⟨x, hx⟩ | ⟨p, hp, rfl⟩
      · exact ⟨G.lD, G.lC⟩
      · exact G.cD x b hx
      · rcases List.mem_append.mp hp with hp | hp
        · rw [G.pn, List.mem_singleton] at hp
          subst hp
          exact ⟨G.aD, G.aC⟩
        · exact hip p hp
    exact kp b o this.1 this.2 e
  · have z := lt0 b o e
    exact kp b o (ne z).1 (ne z).2 (I1.bk b o e)
  · refine ff_keep (fun b hb o e => ?_) I1.funs
    have hb' : b ∈ frs c.stk := by rw [← G.outer]; exact hb
    have z := (k.hst b hb').2
    exact kp b o (ne z).1 (ne z).2 e
  · have nfs : ∀ {x : Addr}, c.n0 ≤ x → x ∉ Y.X.fs := fun hx hm => by
      have hm : _ ∈ frs Y.X.outer := hm
      rw [G.outer] at hm
      exact absurd (k.hst _ hm).2 (Nat.not_lt.mpr hx)
    rcases List.mem_cons.mp hp with rfl | hp
    · exact ⟨eD, l.nD, G.lD.symm, nfs k.hD, fun v z => nomatch z⟩
    · rw [List.mem_singleton] at hp
      subst hp
      exact ⟨eC, l.nC, G.lC.symm, nfs k.hC, fun v z => by rw [dC] at z; cases z⟩
  · have h := hip q hq
    rcases List.mem_cons.mp hp with rfl | hp
    · exact h.1
    · rw [List.mem_singleton] at hp
      subst hp
      exact h.2
/-- behind an item: what goes on, once the generator is woken -/
def Slp (c : CsP) (Y : Fm) (A : Around) (ds : List D) (gi : Nat) (i : Nat) (F1 H1 : Hp) (s : Shared) : Prop :=
  ∃ (g0 : Gst) (ip : List (Addr × Obj)) (σ : L2.St) (gs : GenState) (m : Nat) (s1 : Shared), m + (i + 1) = sizeLine ∧ s.gens[gi]? = some gs ∧ I Y g0 ip σ H1 s1 ∧ s1.heap = s.heap ∧ s1.os = s.os ∧ (∀ q ∈ ip, q.1 ≠ c.D ∧ q.1 ≠ c.C) ∧ ∀ s2 b' cp', I Y ⟨F1, b', cp'⟩ ip σ H1 s2 → GoesG (model c.pg c.w) A.in1 (REnd Y c.K ds.length) (Yp Y) m ⟨F1, b', cp'⟩ gs (.send .none) s2
theorem turnX {A : Around} {E : Value → Shared → Prop} (k : c.Ok) (G : Gok c Y ds a gi go) (hh : A.handled = none) (hd : A.depth < recursionLimit) (hl : s.heap.NoLimit) (l : LX c ds Fg Hg acc s) (r : Rdy c Y A ds gi acc.length Fg Hg s) :
    wpAny (model c.pg c.w) A (pyNext (.ref a)) (fun r s' => match r with
      | none => ∃ F1 H1, acc.length = ds.length ∧ acc.length ≤ sizeLine ∧ LX c ds F1 H1 acc s'
      | some v => ∃ x d F1 H1, RelV x v ∧ ds[acc.length]? = some d ∧ Rp c.K F1 x d ∧ LX c ds F1 H1 acc s' ∧ Slp c Y A ds gi acc.length F1 H1 s') E s := by
  obtain ⟨ip, σ, oD, oC, gs, n, hn, hgs, eD, eC, hI, hgo⟩ := r
  have hgl : gi < s.gens.size := (Array.getElem?_eq_some_iff.mp hgs).1
  have gen : s.heap.IsGen a gi := by
    obtain ⟨_, I1, _⟩ := id hI
    refine G.gen _ (I1.pin (a, go) (List.mem_append_left _ ?_)).1
    show (a, go) ∈ Y.X.pn
    rw [G.pn]; exact List.mem_singleton.mpr rfl
  have seg : ∀ {ip' : List (Addr × Obj)} {σ' : L2.St} {H' F' : Hp} {s' : Shared}, I Y ⟨Fg, ({ s with heap := cutH s.heap Y.n0 }, Hg), [(c.D, oD), (c.C, oC)]⟩ ip' σ' H' s' → Same Fg F' → Same F' H' → LX c ds F' H' acc s' ∧ ∀ q ∈ ip', q.1 ≠ c.D ∧ q.1 ≠ c.C := fun {ip' σ' H' F' s'} hI' e1 e2 => by
    obtain ⟨hb', I', dj'⟩ := hI'
    have un := I'.base
    have un : Un (frs Y.X.outer) Y.X.ex Hg H' (cutH s.heap Y.n0) s'.heap := un
    rw [G.outer, G.hex, G.n0] at un
    have hk := I'.hok
    have hk : HOk Y.X.prog Y.X.w H' s'.heap := hk
    rw [G.pg, G.w] at hk
    have pin : ∀ p ∈ [(c.D, oD), (c.C, oC)], s'.heap.get? p.1 = some p.2 ∧ H' p.1 = none := fun p hp => by
      obtain ⟨q1, q2, _⟩ := I'.pin p (List.mem_append_right _ (List.mem_append_left _ hp))
      exact ⟨q1, q2⟩
    have pD := pin (c.D, oD) List.mem_cons_self
    have pC := pin (c.C, oC) (List.mem_cons_of_mem _ List.mem_cons_self)
    have hsz : c.n0 ≤ s'.heap.objs.size := Nat.le_trans k.hD (Nat.le_of_lt (Heap.lt_size pD.1))
    refine ⟨l.seg k e1 e2 un hk (I'.os.trans l.os) I'.bare hsz pD.2 pC.2 (fun o e => ?_) fun o e => ?_, fun q hq => ⟨dj' (c.D, oD) List.mem_cons_self q hq, dj' (c.C, oC) (List.mem_cons_of_mem _ List.mem_cons_self) q hq⟩⟩
    · rw [eD] at e; cases e; exact pD.1
    · rw [eC] at e; cases e; exact pC.1
  refine wpAny_gsz (n := gi + 1) hgl (pyNextG hh hl hd gen hgs hgo (fun v s₁ gs' hb hsu hng hv hsz => ?_) fun x s₁ hx => ?_)
  · obtain ⟨ys, x, ip', σ', H', F', hn', rv, hI', sm, hO, kap⟩ := hv
    have hO : Y.O ys x H' F' := hO
    rw [G.O] at hO
    obtain ⟨M', d, ok', rp, hd'⟩ := hO
    obtain ⟨l1, hip⟩ := seg hI' sm ok'.ex
    have hsz1 : gi < s₁.gens.size := by
      have q : (s₁.setGen gi gs').gens.size = s₁.gens.size := setGen_size _ _ _
      have hsz' : gi + 1 ≤ (s₁.setGen gi gs').gens.size := hsz
      omega
    cases n with
    | zero => exact (kap s₁ _ _ (by
        have := I.wake G.ok G.hV G.hex (F := F') (cp := []) hI' rfl l1.bare (by rw [G.n0]; exact l1.sz) (fun _ _ _ z => z) (by obtain ⟨_, I', _⟩ := id hI'; exact I'.hok) (fun b o e => by obtain ⟨_, I', _⟩ := id hI'; exact I'.bk b o e) (by obtain ⟨_, I', _⟩ := id hI'; exact I'.funs) (fun p hp => nomatch hp) fun p hp => nomatch hp
        exact this)).elim
    | succ m =>
      have hn' : m + 1 + ys.length = sizeLine := hn'
      have ely : ys.length = acc.length := by omega
      rw [ely] at hd'
      exact ⟨x, d, F', H', rv, hd', rp, l1.setGen gs' hb, _, ip', σ', gs', m, s₁, by omega, setGen_at hsz1, hI', rfl, rfl, hip, fun s2 b' cp' h2 => kap s2 b' cp' h2⟩
  · obtain ⟨hx1, ys, ip', σ', H', F', M', hn', el, hI', sm, ok'⟩ := hx
    refine ⟨hx1, fun h' hk hsz => ?_⟩
    obtain ⟨l1, _⟩ := seg hI' sm ok'.ex
    refine ⟨F', H', by omega, by omega, ?_⟩
    refine (l1.setGen (gi := gi) .finished rfl).same k (fun b o _ _ e => hk b o e) rfl (allBare_setGen l1.bare rfl) ?_ ?_ l1.rps l1.le
    · obtain ⟨its, n', r1, e⟩ := l1.lst
      exact ⟨its, n', r1, hk _ _ e⟩
    · obtain ⟨m, o, es, ep, e, r1⟩ := l1.ns
      exact ⟨m, o, es, ep, hk _ _ e, r1⟩
end
end GF
namespace GF
open PySem PySem.Spec L2 GenW DX
open PyProof.Rows hiding St
theorem rps_snoc {K : PySem.W.Frag} {F : Hp} {acc : List L2.V} {ds : List D} {x : L2.V} {d : D} (r : Rps K F acc (ds.take acc.length)) (hd : ds[acc.length]? = some d) (rx : Rp K F x d) : Rps K F (acc ++ [x]) (ds.take (acc ++ [x]).length) := by
  have e : ds.take (acc ++ [x]).length = ds.take acc.length ++ [d] := by
    obtain ⟨h1, h2⟩ := List.getElem?_eq_some_iff.mp hd
    rw [List.length_append, List.length_singleton, List.take_succ, hd]; rfl
  rw [e]
  exact r.append (.cons rx .nil)
section
variable {c : CsP} {Y : Fm} {ds : List D} {a : Addr} {gi : Nat} {go : Obj} {Fg Hg : Hp} {acc : List L2.V} {s : Shared} {A : Around} {x : Str} {px py pos : Pos} {iter : Expr} {scope : Scope} {ce : PySem.Env} {R : Result → Shared → Prop}
theorem loopX (k : c.Ok) (G : Gok c Y ds a gi go) (hh : A.handled = none) (hd : A.depth < recursionLimit) (hdb : (x == ("__debug__" : Str)) = false) (hL : ce.locals = c.C) (hk : ce.scope.kind = .function) (hx : ce.kindOf x = some .local)
    (hend : ∀ F1 H1 acc s', acc.length = ds.length → acc.length ≤ sizeLine → LX c ds F1 H1 acc s' → R (.ok .next) s') (l : LX c ds Fg Hg acc s) (r : Rdy c Y A ds gi acc.length Fg Hg s) :
    codeAny (model c.pg c.w) A (.compLoop (.ListComp (.Name x px) [⟨.Name x py, iter, [], 0⟩] scope pos) 0 (.ref a) (.ref c.D) ce) R s := by
  refine compLoop_any (fun n s' => ∃ acc Fg Hg, n = ds.length - acc.length ∧ LX c ds Fg Hg acc s' ∧ Rdy c Y A ds gi acc.length Fg Hg s') ?_ _ ⟨acc, Fg, Hg, rfl, l, r⟩
  rintro n s5 ⟨acc, Fg, Hg, rfl, l, r⟩
  have nl : s5.heap.NoLimit := by
    obtain ⟨_, _, _, _, _, _, _, _, _, _, ⟨_, I1, _⟩, _⟩ := id r
    exact I1.nolimit
  refine thnF (turnX k G hh hd nl l r) fun v s6 h6 => ?_
  cases v with
  | none =>
    obtain ⟨F1, H1, e, ez, l1⟩ := h6
    exact hend F1 H1 acc s6 e ez l1
  | some v =>
    obtain ⟨y, d, F1, H1, rv, hdd, rp, l1, sl⟩ := h6
    have hlt : acc.length < ds.length := (List.getElem?_eq_some_iff.mp hdd).1
    show wpAny _ _ (pure ()) _ _ _
    refine wpAny_pure ?_
    obtain ⟨m, hns⟩ := l1.ns
    have hns : s6.heap.Ns ce.locals m := by rw [hL]; exact hns
    refine wpAny_assign_Name (wpAny_storeName_local hx hns (fun h7 hn7 hs7 => ?_) (by rw [hk]; rfl))
    refine wpAny_tests_nil ?_
    rw [if_pos rfl, eval_Name ce x px hdb]
    refine wpAny_bind (wpAny_standAt (wpAny_loadName_local hk hx hn7 (v := v) (by simp) ?_))
    obtain ⟨its, cn, r1, eD⟩ := l1.lst
    have eD7 : h7.get? c.D = some { cls := .type "list", data := .seq its.toArray cn } := (hs7.2 c.D (by rw [hL]; exact k.hDC)).trans eD
    have sz : its.toArray.size ≤ sizeLine := by
      rw [List.size_toArray, ← r1.length]
      obtain ⟨_, _, _, _, _, mm, z, _⟩ := sl
      omega
    refine append_at (s := { s6 with heap := h7, toks := s6.toks + 1 }) (hsz := sz) eD7 fun h8 hs8 e8 => ?_
    have kp : ∀ b o, b ≠ c.D → b ≠ c.C → s6.heap.get? b = some o → h8.get? b = some o := fun b o n1 n2 e => (hs8.2 b n1).trans ((hs7.2 b (by rw [hL]; exact n2)).trans e)
    have ns8 : h8.Ns c.C (fun z => if z = x then some v else m z) := by
      rw [← hL]
      exact hn7.sameBut hs8 (by rw [hL]; exact Ne.symm k.hDC)
    have l2 : LX c ds F1 H1 (acc ++ [y]) { s6 with heap := h8, toks := s6.toks + 1 } := by
      refine l1.same k kp rfl l1.bare ⟨its ++ [v], cn + 1, r1.append (.cons rv .nil), ?_⟩ ⟨_, ns8⟩ (rps_snoc l1.rps hdd rp) (by rw [List.length_append, List.length_singleton]; exact hlt)
      rw [e8]; simp
    obtain ⟨g0, ip, σ, gs, mm, s1, hm, hgs, hI, eh, eo, hip, go'⟩ := sl
    obtain ⟨oD, oC, e1, e2, I2⟩ := wakeX (s2 := { s6 with heap := h8, toks := s6.toks + 1 }) k G hI hip l2 (fun b o n1 n2 e => kp b o n1 n2 (by rw [← eh]; exact e)) eo.symm
    refine ⟨_, ?_, acc ++ [y], F1, H1, rfl, l2, ip, σ, oD, oC, gs, mm, ?_, hgs, e1, e2, I2, go' _ _ _ (I_run I2 .running rfl)⟩
    · rw [List.length_append, List.length_singleton]; omega
    · rw [List.length_append, List.length_singleton]; exact hm
end
end GF
namespace GF
open PySem PySem.Spec L2 GenW DX
open PyProof.Rows hiding St
theorem pushCells_no : ∀ {names : List (Str × NameKind)} (h : Heap), (∀ y ∈ names, y.2 ≠ .cell) → pushCells h names = h
  | [], _, _ => rfl
  | (n, k) :: r, h, q => by
    have hk : ¬ (k == NameKind.cell) = true := fun z => q (n, k) List.mem_cons_self (by simpa using z)
    unfold pushCells
    rw [if_neg hk]
    exact pushCells_no h fun y hy => q y (List.mem_cons_of_mem _ hy)
theorem mt_kind {K : PySem.W.Frag} {F H : Hp} {a : Addr} {d : D} (m : Mt K F H a d) : ∃ o, H a = some o ∧ (∀ xs, o ≠ .tup xs) ∧ ∀ x, o ≠ .own x := by
  cases d <;> first
    | exact m.elim
    | (obtain ⟨_, h, _⟩ := m; exact ⟨_, h, (fun _ z => nomatch z), (fun _ z => nomatch z)⟩)
    | (obtain ⟨_, _, h, _⟩ := m; exact ⟨_, h, (fun _ z => nomatch z), (fun _ z => nomatch z)⟩)
theorem mrg_le {H1 H2 : Hp} (h : ∀ b o, H1 b = some o → H2 b = some o) : mrg H1 H2 = H2 := by
  funext b
  cases q : H1 b with
  | some o => rw [mrg_l q, h b o q]
  | none => rw [mrg_r q]
section
variable {c : CsP} {Y : Fm} {ds : List D} {a : Addr} {gi : Nat} {go : Obj} {Fg Hg F1 H1 : Hp} {acc : List L2.V} {s : Shared}
/-- behind the walk: what is tracked, frozen -/
theorem LX.fin_hok (l : LX c ds F1 H1 acc s) (k : c.Ok) (hz : acc.length ≤ sizeLine) : HOk c.pg c.w (mrg H1 (upd c.Hs c.D (.lst acc))) s.heap := fun b o e => by
  have nHD : c.Hs c.D = none := by
    cases q : c.Hs c.D with
    | none => rfl
    | some u => exact absurd (k.hH _ _ q) (Nat.not_lt.mpr k.hD)
  cases q : H1 b with
  | some u =>
    rw [mrg_l q] at e
    cases e
    exact (l.hk b _ q).stay (fun _ _ _ z => z) (fun _ z => mrg_l z) fun _ _ z => mrg_l z
  | none =>
    rw [mrg_r q] at e
    by_cases hb : b = c.D
    · subst hb
      rw [upd_same] at e
      cases e
      obtain ⟨its, n, r, eD⟩ := l.lst
      exact ⟨hz, its, n, r, eD⟩
    · rw [upd_ne hb] at e
      have ne : ∀ {x : Addr} {o' : HO}, mrg H1 c.Hs x = some o' → mrg H1 (upd c.Hs c.D (.lst acc)) x = some o' := fun {x o'} z => by
        cases y : H1 x with
        | some v => rw [mrg_l y] at z ⊢; exact z
        | none =>
          rw [mrg_r y] at z ⊢
          rw [upd_ne fun w => by rw [w, nHD] at z; cases z]
          exact z
      exact stay2 (l.hb b o q e) (fun _ _ _ z => z) (fun _ _ z => ne z) fun _ _ z => ne z
theorem LX.fin_ok (l : LX c ds F1 H1 acc s) (k : c.Ok) {M : Mem} (o : DX.Ok c.K c.Fs M c.Hs) : DX.Ok c.K (mrg F1 (upd c.Fs c.D (.lst acc))) M (mrg H1 (upd c.Hs c.D (.lst acc))) ∧ Same c.Fs (mrg F1 (upd c.Fs c.D (.lst acc))) ∧
    (acc.length = ds.length → Rp c.K (mrg F1 (upd c.Fs c.D (.lst acc))) (.ref c.D) (.lst ds)) := by
  have nHD : c.Hs c.D = none := by
    cases q : c.Hs c.D with
    | none => rfl
    | some u => exact absurd (k.hH _ _ q) (Nat.not_lt.mpr k.hD)
  have oc := o.fix (o := .lst acc) nHD
  have ov : ∀ b u, upd c.Fs c.D (.lst acc) b = some u → H1 b = none ∨ H1 b = some u := fun b u e => by
    by_cases hb : b = c.D
    · subst hb; exact .inl l.nD
    · rw [upd_ne hb] at e
      exact l.dom k (o.ex b u e)
  have ovF : ∀ b u, upd c.Fs c.D (.lst acc) b = some u → F1 b = none ∨ F1 b = some u := fun b u e => by
    cases q : F1 b with
    | none => exact .inl rfl
    | some v =>
      have h1 := l.fg b v q
      rcases ov b u e with n | n
      · rw [h1] at n; cases n
      · rw [h1] at n
        exact .inr n
  refine ⟨mrg_ok ⟨l.fg, fun _ _ z => nomatch z⟩ oc ov ovF (M1 := fun _ => none) fun b d e => ?_, (o.fixSame nHD).trans (mrg_ext ovF), fun hl => ?_⟩
  · obtain ⟨nF, m⟩ := o.mt b d e
    obtain ⟨u, hu, n1, n2⟩ := mt_kind m
    refine l.none0 k hu ?_
    cases q : c.H0 b with
    | none => rfl
    | some v =>
      have e1 := cutG_le q
      rw [hu] at e1
      cases e1
      rcases cutG_kind q with ⟨xs, z⟩ | ⟨x, z, _⟩ | z
      · exact absurd z (n1 xs)
      · exact absurd z (n2 x)
      · cases y : noOwn c.Fs b with
        | none => exact absurd y z
        | some w =>
          have := (noOwn_of y).1
          rw [nF] at this; cases this
  · have nF : F1 c.D = none := by
      cases q : F1 c.D with
      | none => rfl
      | some v => have := l.fg _ _ q; rw [l.nD] at this; cases this
    have r := l.rps
    rw [hl, List.take_length] at r
    exact .lst (by rw [mrg_r nF]; exact upd_same) (r.mono mrg_extl)
end
section
variable {X : Cx} {J : Gh} {es : List Expr} {kws : List Keyword} {ks : List Str} {ρ : DEnv} {M : Mem} {pos pos' pos2 p1 px py : Pos} {x f : Str} {P : D → Mem → Prop} {k : Nat} {fa : Addr} {T : List D → List D → List D → Prop} {scope : Scope} {use : Option (Value → Sem Unit)} {Qf : Value → Shared → Prop}
  {pins : List (Addr × Obj)} {s : Shared} {σ : L2.St} {H F : Hp}
theorem gc_core (I : Inv X pins σ H s) (st : Sts X.K J F σ H ρ M) (G : GFnZ X.prog X.w X.K X.mg X.base k fa ks T) (hr : Room (k + 1) X.A) (hm : X.mg f = some (.ref fa)) (hk : PySem.W.keepIn X.K (.ref fa) = true)
    (h : EvA X J pos' es kws ks ρ M fun as zs M1 => ∃ ds, T as zs ds ∧ P (.lst ds) M1) (hkind : scope.kind = .function) (hall : ∀ y ∈ scope.names, y.2 = .local) (hx : scope.names.lookup x = some .local) (huq : ∀ y ∈ scope.names, scope.names.lookup y.1 = some y.2)
    (hxd : (x == ("__debug__" : Str)) = false)
    (hRR : ∀ D C s' m H' F' M1 ds, Inv X pins σ H' s' → P (.lst ds) M1 → Same F F' → DX.Ok X.K F' M1 H' → Rp X.K F' (.ref D) (.lst ds) → s'.heap.Ns C m → FpOk X pins H' C → compPost (model X.prog X.w) X.A X.xe use Qf (.ref D) C (.ok .next) s')
    (hg : Gl X f) (hdb : (f == ("__debug__" : Str)) = false) (hs : ∀ v, foldedSetIterable (.Call (.Name f p1) es kws pos') X.env v = pure v := by intro _; rfl) :
    wpAny (model X.prog X.w) X.A (comprehension (.ListComp (.Name x px) [⟨.Name x py, .Call (.Name f p1) es kws pos', [], 0⟩] scope pos) scope X.env pos2 (newList []) false (eval (.Call (.Name f p1) es kws pos') X.env) use) Qf X.xe s := by
  have hfree : ∀ y ∈ scope.names, y.2 = .free → ∃ c, X.env.cells.lookup y.1 = some c := fun y hy e => by rw [hall y hy] at e; cases e
  refine wpAny_comprehension_free (use := use) rfl hs (closure_ok hfree) hkind (fun y hy e => by rw [huq y hy, e]) ?_
  refine wpAny_Call_Name_kw (ld_glob I hg hm ?_ hdb)
  refine cwAny (PySem.W.keeps_K hk) (h _ pins σ H F s _ I st fun us ws vs xs as zs F2 M2 H2 s2 I2 e2 o2 r rx rd rz hl t => ⟨I2.kIn, ?_⟩)
  obtain ⟨ds, t, hP⟩ := t
  refine wpAny_call (codeAny_mono (G.go X.A X.stack s2 H2 F2 M2 as zs ds us ws vs xs (hr.mono (by omega)) I2.env0 r rx (by rw [← rx.length, rz.length]; exact hl) o2 rd rz t) fun rr s3 hq => ?_)
  cases rr with
  | error e => exact False.elim hq
  | ok fl =>
  cases fl with
  | next => exact False.elim hq
  | brk => exact False.elim hq
  | cont => exact False.elim hq
  | ret u =>
  have hq : MadeY X.prog X.w X.K k X.stack (cutG (noOwn F2) H2) (noOwn F2) s2 ds u s3 := hq
  obtain ⟨a, go, gi, cde, rfl, ha1, ha2, gen3, hgo3, hgs3, egi, os3, bare3, nl3, kp3, mk⟩ := hq
  refine wpAny_pyIter_gen gen3 ?_
  refine wpAny_newObj_type (newEnv_comp ?_) (by show 0 ≤ sizeLine; decide)
  rw [pushCells_no _ fun y hy e => by rw [hall y hy] at e; cases e]
  have sz23 : s2.heap.objs.size ≤ s3.heap.objs.size := Nat.le_trans ha1 (Nat.le_of_lt ha2)
  have I3 : Inv X pins σ H2 s3 := I2.call' (ch := []) os3 (Un.kept kp3) (I2.hok.kept kp3) bare3 fun b z => by simp at z
  have hDn : H2 s3.heap.objs.size = none := I3.hok.fresh (Nat.le_refl _)
  have I3D : Inv X pins σ (upd H2 s3.heap.objs.size (.lst [])) { s3 with heap := s3.heap.push { cls := .type "list", data := .seq ([] : List Value).toArray } } := by
    refine I3.laid (t' := s3.toks) (fun b o e => Heap.get?_push_of_some _ e) (Nat.le_refl _) ⟨Nat.zero_le _, [], 0, .nil, ?_⟩
    exact Heap.get?_push_size _ rfl
  have I4 : Inv X pins σ (upd H2 s3.heap.objs.size (.lst [])) { s3 with heap := (s3.heap.push { cls := .type "list", data := .seq ([] : List Value).toArray }).push { cls := .type "dict", data := .dict #[] } } := I3D.kept (t' := s3.toks) fun b o e => Heap.get?_push_of_some _ e
  have szD : (s3.heap.push { cls := .type "list", data := .seq ([] : List Value).toArray }).objs.size = s3.heap.objs.size + 1 := Heap.size_push ..
  have szC : ((s3.heap.push { cls := .type "list", data := .seq ([] : List Value).toArray }).push { cls := .type "dict", data := .dict #[] }).objs.size = s3.heap.objs.size + 2 := by rw [Heap.size_push, szD]
  have kp34 : ∀ b o, s3.heap.get? b = some o → ((s3.heap.push { cls := .type "list", data := .seq ([] : List Value).toArray }).push { cls := .type "dict", data := .dict #[] }).get? b = some o := fun b o e => Heap.get?_push_of_some _ (Heap.get?_push_of_some _ e)
  have getD4 : ((s3.heap.push { cls := .type "list", data := .seq ([] : List Value).toArray }).push { cls := .type "dict", data := .dict #[] }).get? s3.heap.objs.size = some { cls := .type "list", data := .seq ([] : List Value).toArray } := Heap.get?_push_of_some _ (Heap.get?_push_size _ rfl)
  have nsC4 : ((s3.heap.push { cls := .type "list", data := .seq ([] : List Value).toArray }).push { cls := .type "dict", data := .dict #[] }).Ns (s3.heap.objs.size + 1) (fun _ => none) := by rw [← szD]; exact Heap.Ns.new ..
  generalize hh4 : (s3.heap.push { cls := .type "list", data := .seq ([] : List Value).toArray }).push { cls := .type "dict", data := .dict #[] } = h4 at I4 szC kp34 getD4 nsC4 ⊢
  have hst : ∀ b ∈ frs X.stack, b < s2.heap.objs.size := fun b hb => by
    obtain ⟨_, o, ho, _⟩ := I2.stack.mem hb
    exact Heap.lt_size ho
  -- what is known at the walk's start
  let c : CsP := ⟨X.prog, X.w, X.K, X.stack, s2.heap.objs.size, h4, F2, H2, s3.heap.objs.size, s3.heap.objs.size + 1, s2.os⟩
  have kc : c.Ok := ⟨fun b o e => I2.hok.lt e, I2.hok.kept fun b o e => kp34 b o (kp3 b o e), o2.ex, fun b hb => ⟨I2.stkFree b hb, hst b hb⟩, sz23, Nat.le_succ_of_le sz23, Nat.ne_of_lt (Nat.lt_succ_self _)⟩
  obtain ⟨Y, σ0, yok, yV, yex, yn0, ypg, yw, yK, yout, yO, ypn, yl1, yl2, ycl, yI, yseg⟩ := mk X.A.in1 (by exact hr.in1) I2.ok.frames
  have gk : Gok c Y ds a gi go := ⟨yok, yV, yex, yn0, ypg, yw, yout, yO, ypn, fun h' e => by
    obtain ⟨o', nm, qn, e1, r1⟩ := gen3
    rw [hgo3] at e1
    cases e1
    exact ⟨_, nm, qn, e, r1⟩, Nat.ne_of_lt ha2, Nat.ne_of_lt (Nat.lt_succ_of_lt ha2), Nat.ne_of_lt yl2, Nat.ne_of_lt (Nat.lt_succ_of_lt yl2), fun y b e => ⟨Nat.ne_of_lt (ycl y b e).2, Nat.ne_of_lt (Nat.lt_succ_of_lt (ycl y b e).2)⟩⟩
  have sm0 : Same (noOwn F2) (cutG (noOwn F2) H2) := cutG_same (noOwn_same o2.ex)
  have hk0 : HOk X.prog X.w (cutG (noOwn F2) H2) h4 := cutG_hok (noOwn_same o2.ex) kc.hk
  have l0 : LX c ds (noOwn F2) (cutG (noOwn F2) H2) [] { s3 with heap := h4 } := by
    refine ⟨Same.refl _, sm0, hk0, fun b ys e => cutG_tup e, fun b o _ e n => ⟨n, ⟨o.slots, e⟩, fun _ => e⟩, fun b o _ e => ⟨o, e⟩, fun b o n e => ?_, cutG_none hDn, cutG_none (I3D.hok.fresh (Nat.le_of_eq szD) |> fun z => by rwa [upd_ne (Nat.succ_ne_self _)] at z), ⟨[], 0, .nil, getD4⟩, .nil, Nat.zero_le _, ⟨_, nsC4⟩, os3, bare3, ?_⟩
    · rw [mrg_le fun _ _ z => cutG_le z]
      exact kc.hk b o e
    · show s2.heap.objs.size ≤ h4.objs.size
      rw [szC]; omega
  obtain ⟨oD, oC, eD, eC, IY⟩ := wakeX (s2 := { s3 with heap := h4 }) kc gk yI (fun _ z => nomatch z) l0 (fun b o _ _ e => kp34 b o e) rfl
  have r0 : Rdy c Y X.A ds gi ([] : List L2.V).length (noOwn F2) (cutG (noOwn F2) H2) { s3 with heap := h4 } :=
    ⟨[], σ0, oD, oC, _, sizeLine, rfl, hgs3, eD, eC, IY, rfl, yseg _ _ _ (I_run IY .running rfl)⟩
  have hd : X.A.depth < recursionLimit := by have := hr.dp; omega
  have gen4 : h4.IsGen a gi := gk.gen _ (kp34 a go hgo3)
  have loop := loopX (c := c) (A := X.A) (px := px) (py := py) (pos := pos) (iter := .Call (.Name f p1) es kws pos') (scope := scope) (ce := compEnvC scope (cellsFrom (s3.heap.objs.size + 1 + 1) scope.names (cloFrom X.env.cells scope.names [])) (s3.heap.objs.size + 1) X.env)
    (R := compPost (model X.prog X.w) X.A X.xe use Qf (.ref s3.heap.objs.size) (s3.heap.objs.size + 1)) kc gk hr.hd hd hxd rfl hkind (lookup_relabel_local hx) (fun F1 H1 acc s' el hz l => ?_) l0 r0
  · rw [← szD] at loop
    exact codeAny_compStart_list loop (wpAny_pyIter_gen gen4 loop)
  · obtain ⟨okE, smE, rpE⟩ := l.fin_ok kc o2
    have hokE := l.fin_hok kc hz
    have nC : mrg H1 (upd H2 s3.heap.objs.size (.lst acc)) (s3.heap.objs.size + 1) = none := by
      rw [mrg_r l.nC, upd_ne (Nat.succ_ne_self _)]
      exact I3.hok.fresh (Nat.le_succ _)
    have IE : Inv X pins σ (mrg H1 (upd H2 s3.heap.objs.size (.lst acc))) s' := by
      refine I4.call' (ch := (List.range h4.objs.size).filter fun b => decide (s2.heap.objs.size ≤ b ∧ b ≠ s3.heap.objs.size)) (l.os.trans os3.symm) ?_ hokE l.bare fun b hb => ?_
      · have small : ∀ {b : Addr} {o : Obj}, h4.get? b = some o → b ∉ (List.range h4.objs.size).filter (fun b => decide (s2.heap.objs.size ≤ b ∧ b ≠ s3.heap.objs.size)) → b < s2.heap.objs.size ∨ b = s3.heap.objs.size := fun {b o} e n => by
          by_cases h1 : b < s2.heap.objs.size
          · exact .inl h1
          · by_cases h2 : b = s3.heap.objs.size
            · exact .inr h2
            · exact (n (List.mem_filter.mpr ⟨List.mem_range.mpr (Heap.lt_size e), by simp only [decide_eq_true_eq]; exact ⟨Nat.not_lt.mp h1, h2⟩⟩)).elim
        have free1 : ∀ {b : Addr}, upd H2 s3.heap.objs.size (.lst []) b = none → b ≠ s3.heap.objs.size ∧ H2 b = none := fun {b} n => by
          have hb : b ≠ s3.heap.objs.size := fun z => by rw [z, upd_same] at n; cases n
          rw [upd_ne hb] at n
          exact ⟨hb, n⟩
        have old : ∀ {b : Addr} {o : Obj}, h4.get? b = some o → upd H2 s3.heap.objs.size (.lst []) b = none → b ∉ (List.range h4.objs.size).filter (fun b => decide (s2.heap.objs.size ≤ b ∧ b ≠ s3.heap.objs.size)) → H1 b = none ∧ (∃ sl, s'.heap.get? b = some { o with slots := sl }) ∧ (b ∉ frs X.stack → s'.heap.get? b = some o) := fun {b o} e n hx => by
          obtain ⟨hb, n2⟩ := free1 n
          rcases small e hx with h1 | h1
          · exact l.old b o h1 e (cutG_none n2)
          · exact absurd h1 hb
        have stay : ∀ {b : Addr} {u : HO}, upd H2 s3.heap.objs.size (.lst []) b = some u → b ≠ s3.heap.objs.size → mrg H1 (upd H2 s3.heap.objs.size (.lst acc)) b = some u := fun {b u} e hb => by
          rw [upd_ne hb] at e
          have := l.all kc e
          cases y : H1 b with
          | some v => rw [mrg_l y] at this ⊢; exact this
          | none => rw [mrg_r y, upd_ne hb]; exact e
        refine ⟨fun b o e n hf hx => (old e n hx).2.2 hf, fun b o e n hf hx => (old e n hx).2.1, fun b o e n hx => ?_, fun b o e hx => ?_, fun b ys e => ?_, fun b o ys e => ?_, fun b ps e => ⟨#[], ?_⟩⟩
        · obtain ⟨hb, n2⟩ := free1 n
          rw [mrg_r (old e n hx).1, upd_ne hb]
          exact n2
        · rcases small e hx with h1 | h1
          · exact l.there b o h1 e
          · obtain ⟨its, n, _, eD'⟩ := l.lst
            rw [h1]; exact ⟨_, eD'⟩
        · exact stay e fun z => by rw [z, upd_same] at e; cases e
        · exact stay e fun z => by rw [z, upd_same] at e; cases e
        · rw [Array.append_empty]
          exact stay e fun z => by rw [z, upd_same] at e; cases e
      · obtain ⟨_, hb⟩ := List.mem_filter.mp hb
        simp only [decide_eq_true_eq] at hb
        have hb := hb.1
        refine ⟨.inr (Nat.le_trans I2.sz hb), Nat.ne_of_gt (Nat.lt_of_lt_of_le I2.lt hb), fun y cc e z => ?_, fun p hp z => ?_⟩
        · obtain ⟨v, q⟩ := I2.cell y cc e
          exact absurd (Nat.lt_of_lt_of_le q.lt (by rw [z]; exact hb)) (Nat.lt_irrefl _)
        · exact absurd (Nat.lt_of_lt_of_le (Heap.lt_size (I2.pin p hp).1) (by rw [z]; exact hb)) (Nat.lt_irrefl _)
    obtain ⟨m, hn⟩ := l.ns
    exact hRR s3.heap.objs.size (s3.heap.objs.size + 1) s' m _ _ M2 ds IE hP (e2.trans smE) okE (rpE el) hn (I3D.fpOk (Nat.le_of_eq szD) nC)
end
end GF
namespace GF
open PySem PySem.Spec L2 GenW DX
open PyProof.Rows hiding St
section
variable {γ : Type} {M : Model} {A : Around} {R : EndG γ} {Yq : ProtG γ} {n : Nat} {g : γ} {s₀ : Shared} {c : Code} {fs : List Frame} {s : Shared}
theorem sg_bind {α : Type} {m : Sem α} {K : α → Sem PySem.Fin} (h : wpAny M (A.over c fs) m (fun a s' => SegG M A R Yq n g s₀ c (K a) fs s') (fun x s' => SegG M A R Yq n g s₀ c (.raise x) fs s') s) : SegG M A R Yq n g s₀ c (m >>= K) fs s := by
  rw [Sem.bind_eq_wrap']; exact sg_wrap h
theorem sg_bind2 {α β δ : Type} {m : Sem α} {f : α → Sem β} {f2 : β → Sem δ} {K : δ → Sem PySem.Fin} {J : Value → Sem PySem.Fin} {gd : Bool → Bool} {lv : List Value → List Value}
    (h : wpAny M (A.over c fs) m (fun a s' => SegG M A R Yq n g s₀ c ((f a).wrap (fun b => (f2 b).wrap K J gd lv) J gd lv) fs s') (fun x s' => SegG M A R Yq n g s₀ c (J x) fs s') s) :
    SegG M A R Yq n g s₀ c (((m >>= f) >>= f2).wrap K J gd lv) fs s := by
  rw [Sem.bind_eq_wrap' (m >>= f) f2, Sem.wrap_wrap]
  exact sg_bind_wrap h
end
section
variable {prog : Program} {w : World} {A : Around} {E : Value → Shared → Prop} {s : Shared}
theorem special_list_item {it t : Addr} {i : Nat} {items : Array Value} {x : Value} {Q : Option Value → Shared → Prop} (hit : s.heap.IsListIter it t i) (ht : s.heap.IsList t items) (hx : items[i]? = some x)
    (hQ : ∀ h', h'.IsListIter it t (i + 1) → Heap.SameBut it s.heap h' → Q (some x) { s with heap := h' }) : wpAny (model prog w) A (callSpecial? (.ref it) "__next__") Q E s := by
  obtain ⟨o, ho, hc, hd⟩ := id hit
  obtain ⟨ol, hol, _, nl, hdl⟩ := ht
  refine wpAny_callSpecial?_slot (name := Str.ofString "__next__") hit.typeIs slot_listiter_next (wpAny_call_entry slot_listiter_next hit.typeIs entry_listiter_next ?_ (args_listiter_next _))
  show wpAny _ _ (field (.ref it) 0 >>= _) _ _ s
  refine wpAny_bind (wpAny_field ho hd (x := .ref t) rfl ?_)
  show wpAny _ _ (if (Value.ref t == Value.none) = true then _ else _) _ _ s
  rw [if_neg (show ¬ ((Value.ref t == Value.none) = true) from Bool.false_ne_true)]
  show wpAny _ _ (field (.ref it) 1 >>= _) _ _ s
  refine wpAny_bind (wpAny_field ho hd (x := .int i 0) rfl ?_)
  show wpAny _ _ (seqItems? (.ref t) >>= _) _ _ s
  refine wpAny_bind (wpAny_seqItems hol hdl ?_)
  simp only [Int.toNat_natCast, hx]
  refine wpAny_bind (wpAny_setField ho hd (by simp) (wpAny_pure ⟨x, rfl, hQ _ ?_ (Heap.SameBut.update ..)⟩))
  exact ⟨_, Heap.get?_update_self _ ho (Obj.isFreed_of_fields (Obj.data_mapFields hd _)), (Obj.cls_mapFields ..).trans hc, by
    rw [Obj.data_mapFields hd]; simp [rawInt]⟩
theorem special_list_end {it t : Addr} {i : Nat} {items : Array Value} {Q : Option Value → Shared → Prop} (hh : A.handled = none) (hit : s.heap.IsListIter it t i) (ht : s.heap.IsList t items) (hx : items[i]? = none)
    (hE : ∀ e h', StopX e h' → Heap.ExtBut it s.heap h' → E e { s with heap := h' }) : wpAny (model prog w) A (callSpecial? (.ref it) "__next__") Q E s := by
  obtain ⟨o, ho, hc, hd⟩ := id hit
  obtain ⟨ol, hol, _, nl, hdl⟩ := ht
  refine wpAny_callSpecial?_slot (name := Str.ofString "__next__") hit.typeIs slot_listiter_next (wpAny_call_entry slot_listiter_next hit.typeIs entry_listiter_next ?_ (args_listiter_next _))
  show wpAny _ _ (field (.ref it) 0 >>= _) _ _ s
  refine wpAny_bind (wpAny_field ho hd (x := .ref t) rfl ?_)
  show wpAny _ _ (if (Value.ref t == Value.none) = true then _ else _) _ _ s
  rw [if_neg (show ¬ ((Value.ref t == Value.none) = true) from Bool.false_ne_true)]
  show wpAny _ _ (field (.ref it) 1 >>= _) _ _ s
  refine wpAny_bind (wpAny_field ho hd (x := .int i 0) rfl ?_)
  show wpAny _ _ (seqItems? (.ref t) >>= _) _ _ s
  refine wpAny_bind (wpAny_seqItems hol hdl ?_)
  simp only [Int.toNat_natCast, hx]
  refine wpAny_bind (wpAny_rule (wpAny_bind (wpAny_setField ho hd (by simp) ?_)))
  show wpAny _ _ (newExc (.type "StopIteration") [] >>= _) _ _ _
  refine wpAny_bind ?_
  simp only [newExc, newTuple]
  refine wpAny_bind (wpAny_newObj_type ?_ (by size_fits))
  refine wpAny_bind (m := firstArgMember _ _) (wpAny_of_eq (a := Value.none) (by first | rfl | (simp only [firstArgMember]; rfl)) ?_)
  refine wpAny_newObj_type ?_ (by size_fits)
  simp only [raiseNew]
  refine wpAny_bind (wpAny_handled ?_)
  first | rw [show A.in1.handled = none from hh] | rw [hh]
  refine wpAny_bind (wpAny_pure (wpAny_throw ?_))
  refine hE _ _ ⟨_, _, _, rfl, Heap.get?_push_size _ rfl, rfl, rfl, ?_⟩ (((Heap.SameBut.update ..).extBut.push _).push _)
  first
    | rfl
    | (rw [Array.getElem?_append_left (by decide)]; rfl)
    | kernel_rfl
end
theorem close_list : typeLookup (.type "list_iterator") "close" = pure none := by rw [typeLookup_type, builtinLookup_eq_fast]; kernel_rfl
section
variable {Y : Fm} {e : Expr} {yp pos : Pos} {te : Bs → TE}
/-- the turns -/
theorem sg_yf {ip : List (Addr × Obj)} {A : Around} {R : EndG Gst} {fs : List Frame} {it a : Addr} {xs ys : List L2.V} {σ : L2.St} {H F : Hp} (ok : Y.Ok) (hpi : ∀ p ∈ Y.X.pn ++ ip, p.1 ≠ it) (hn0 : Y.n0 ≤ it) (hL : it ≠ Y.X.env.locals) (hcell : ∀ x c, Y.X.env.cells.lookup x = some c → c ≠ it) (hH : H it = none) (ha : H a = some (.lst xs))
    (hfs : it ∉ Y.X.fs) (ho : (A.over (.builtin "proto.yield_from" ⟨[.ref it, .bool false, .none], []⟩) fs).handled = none) (hsp : splitAtGen fs = none) (hgd : fs.any Frame.guarded = false) (hle : ys.length + xs.length ≤ sizeLine)
    (hY : ∀ j x, xs[j]? = some x → Y.O (ys ++ xs.take j) x H F)
    (hend : ∀ (n : Nat) (g : Gst) (s₀ s : Shared), n + (ys ++ xs).length = sizeLine → Same g.F F → I Y g ip σ H s → SegG (model Y.X.prog Y.X.w) A R (Yp Y) n g s₀ (.builtin "proto.yield_from" ⟨[.ref it, .bool false, .none], []⟩) (.pure (.done (.ret .none))) fs s) :
    ∀ (r j n : Nat) (g : Gst) (s₀ s : Shared), j + r = xs.length → n + (ys.length + j) = sizeLine → Same g.F F → (∀ p ∈ g.cp, p.1 ≠ it) → I Y g ip σ H s → s.heap.IsListIter it a j →
      SegG (model Y.X.prog Y.X.w) A R (Yp Y) n g s₀ (.builtin "proto.yield_from" ⟨[.ref it, .bool false, .none], []⟩) ((model Y.X.prog Y.X.w).den (.builtin "proto.yield_from" ⟨[.ref it, .bool false, .none], []⟩)) fs s := by
  have turned : ∀ {g : Gst} {s : Shared} {h' : Heap}, (∀ p ∈ g.cp, p.1 ≠ it) → I Y g ip σ H s → (∀ b o, b ≠ it → s.heap.get? b = some o → h'.get? b = some o) → I Y g ip σ H { s with heap := h' } := fun {g s h'} hcp hI hk => by
    obtain ⟨hb, I1, dj⟩ := hI
    refine ⟨hb, I1.turned (t' := s.toks) (it := it) hk hH hL (.inr ?_) hcell fun p hp => ?_, dj⟩
    · show g.b.1.heap.objs.size ≤ it
      rw [ok.sz _ hb]; exact hn0
    · rcases List.mem_append.mp hp with hp | hp
      · exact hpi p (List.mem_append_left _ hp)
      · rcases List.mem_append.mp hp with hp | hp
        · exact hcp p hp
        · exact hpi p (List.mem_append_right _ hp)
  have lst : ∀ {g : Gst} {s : Shared}, I Y g ip σ H s → ∃ its : List Value, Vals xs its ∧ s.heap.IsList a its.toArray := fun {g s} hI => by
    obtain ⟨_, I1, _⟩ := hI
    obtain ⟨_, its, n, r, e⟩ := I1.hok a _ ha
    exact ⟨its, r, _, e, rfl, n, rfl⟩
  intro r
  induction r with
  | zero =>
    intro j n g s₀ s hj hn hg hcp hI hst
    have hj' : j = xs.length := by omega
    subst hj'
    obtain ⟨its, rv, hl⟩ := lst hI
    have hnone : its.toArray[xs.length]? = none := by
      have e := rv.length
      have e2 : its[xs.length]? = none := List.getElem?_eq_none_iff.mpr (by omega)
      simpa using e2
    rw [den_yf (X := Y.X)]
    unfold Builtin.«proto.yield_from»
    try dsimp only
    refine sg_bind (wpAny_pure ?_)
    try dsimp only
    refine sg_bind (wpAny_attempt (wpAny_holding ?_))
    rw [if_neg Bool.false_ne_true, if_pos (show (Value.none == Value.none) = true from rfl)]
    refine wpAny_bind (wpAny_rule (wpAny_bind ?_))
    refine special_list_end ho hst hl hnone fun e h' hS hk => ?_
    obtain ⟨ea, o, vs, rfl, hoa, hcls, hdat, h5⟩ := hS
    try dsimp only
    refine sg_bind (wpAny_endsTurn hoa hcls ?_)
    try dsimp only
    rw [if_pos rfl]
    first
      | refine sg_bind (wpAny_rule ?_)
      | (rw [if_neg Bool.false_ne_true]; refine sg_bind (wpAny_rule ?_))
      | (rw [if_neg Bool.false_ne_true]; refine sg_bind (wpAny_pure ?_); refine sg_bind (wpAny_rule ?_))
    refine sg_bind (wpAny_field hoa hdat h5 ?_)
    exact hend n g s₀ _ (by rw [List.length_append]; exact hn) hg (turned hcp hI fun b o hb e => hk b o hb e)
  | succ r ih =>
    intro j n g s₀ s hj hn hg hcp hI hst
    have hjl : j < xs.length := by omega
    obtain ⟨x, hx⟩ : ∃ x, xs[j]? = some x := ⟨xs[j], List.getElem?_eq_getElem hjl⟩
    obtain ⟨n, rfl⟩ : ∃ m, n = m + 1 := ⟨n - 1, by omega⟩
    have htl : (xs.take j).length = j := by rw [List.length_take]; omega
    obtain ⟨its, rvs, hl⟩ := lst hI
    obtain ⟨v, hv, rv⟩ := rvs.get hx
    rw [den_yf (X := Y.X)]
    unfold Builtin.«proto.yield_from»
    try dsimp only
    refine sg_bind (wpAny_pure ?_)
    try dsimp only
    refine sg_bind (wpAny_attempt (wpAny_holding ?_))
    rw [if_neg Bool.false_ne_true, if_pos (show (Value.none == Value.none) = true from rfl)]
    refine wpAny_bind (wpAny_rule (wpAny_bind ?_))
    refine special_list_item hst hl (x := v) (by simpa using hv) fun h' hst' hs => ?_
    have hk : ∀ b o, b ≠ it → s.heap.get? b = some o → h'.get? b = some o := fun b o hb e => hs.extBut b o hb e
    have hI' := turned hcp hI hk
    obtain ⟨oi, hoi, hoc, hod⟩ := id hst'
    refine wpAny_pure ?_
    try dsimp only
    refine sg_bind (wpAny_typeOf (T := "list_iterator") ⟨oi, hoi, hoc⟩ ?_)
    try dsimp only
    first
      | (refine sg_bind (wpAny_of_eq close_list ?_); refine sg_bind (wpAny_pure ?_))
      | refine sg_bind (wpAny_bind (wpAny_of_eq close_list (wpAny_pure ?_)))
      | refine sg_bind (wpAny_of_eq close_list ?_)
    try dsimp only
    refine sg_bind (wpAny_sleptOver hoi hoc (by decide) ?_)
    refine sg_yield hsp rfl hgd ?_
    have hI2 : I Y g (ip ++ [(it, oi)]) σ H { s with heap := h' } := by
      obtain ⟨hb, I1, dj⟩ := hI'
      have hit : h'.get? it = some oi ∧ H it = none ∧ it ≠ Y.X.env.locals ∧ it ∉ Y.X.fs ∧ ∀ v, oi.data ≠ .cell v := ⟨hoi, hH, hL, hfs, fun v z => by rw [hod] at z; cases z⟩
      refine ⟨hb, I1.pins_of fun p hp => ?_, fun p hp q hq => ?_⟩
      · rcases List.mem_append.mp hp with hp | hp
        · exact I1.pin p (List.mem_append_right _ (List.mem_append_left _ hp))
        · rcases List.mem_append.mp hp with hp | hp
          · exact I1.pin p (List.mem_append_right _ (List.mem_append_right _ hp))
          · rw [List.mem_singleton] at hp
            subst hp
            exact hit
      · rcases List.mem_append.mp hq with hq | hq
        · exact dj p hp q hq
        · rw [List.mem_singleton] at hq
          subst hq
          exact (hcp p hp).symm
    refine ⟨ys ++ xs.take j, x, ip ++ [(it, oi)], σ, H, F, ?_, rv, hI2, hg, hY j x hx, fun s'' b' cp' z => ?_⟩
    · rw [List.length_append, htl]; exact hn
    obtain ⟨hb3, I3, dj3⟩ := z
    have p3 := I3.pin (it, oi) (List.mem_append_right _ (List.mem_append_right _ (List.mem_append_right _ (List.mem_singleton.mpr rfl))))
    have hI3 : I Y ⟨F, b', cp'⟩ ip σ H s'' := ⟨hb3, I3.pins_of fun p hp => I3.pin p (List.mem_append_right _ ((List.mem_append.mp hp).elim (fun q => List.mem_append_left _ q) fun q => List.mem_append_right _ (List.mem_append_left _ q))), fun p hp q hq => dj3 p hp q (List.mem_append_left _ hq)⟩
    have hst3 : s''.heap.IsListIter it a (j + 1) := ⟨oi, p3.1, hoc, hod⟩
    show SegG _ _ _ _ n (⟨F, b', cp'⟩ : Gst) s'' _ (Builtin.Generator.sleptOver (.ref it) false >>= fun _ => _) fs s''
    refine sg_bind (wpAny_sleptOver p3.1 hoc (by decide) ?_)
    try dsimp only
    refine sg_bind (wpAny_pure ?_)
    refine sg_again (plainId_quiet plain_yf _) (ih (j + 1) n ⟨F, b', cp'⟩ s'' s'' (by omega) (by omega) (Same.refl F) (fun p hp => (dj3 p hp (it, oi) (List.mem_append_right _ (List.mem_singleton.mpr rfl))).symm) hI3 hst3)
def tFr (Y : Fm) (te : Bs → TE) : TGg := fun D g ys σ H => ∀ b, Y.V b → te b σ H fun x H1 => ∃ a xs F, x = .ref a ∧ H1 a = some (.lst xs) ∧ Same g.F F ∧ ys.length + xs.length ≤ sizeLine ∧ (∀ j x, xs[j]? = some x → Y.O (ys ++ xs.take j) x H1 F) ∧ ∀ g', Same g'.F F → D.nx g' (ys ++ xs) σ H1
theorem s_yieldFrom (ok : Y.Ok) (he : ∀ b, Y.V b → PE (Y.at b) e (te b)) (hc : Y.X.calm = true) (hi : interactive Y.X.env = false := by rfl) : S Y (.Expr (.YieldFrom e yp) pos) (tFr Y te) := by
  refine ⟨fun A ip R n g₀ ys s₀ c fs K J gd lv s σ H D g hn k ⟨hb, I0, dj⟩ ht => ?_⟩
  have hhd : Y.X.A.handled = none := I0.ok.hd hc
  rw [exec_Expr Y.X.env _ pos hi rfl]
  show SegG _ _ _ _ n g₀ s₀ c (.at pos fun _ => ((eval e Y.X.env >>= fun v => (standAt yp >>= fun _ => yieldFrom Y.X.env v)) >>= fun x => dropValue (.YieldFrom e yp) pos x).wrap K J gd lv) fs s
  refine sg_at ?_
  refine sg_bind2 ?_
  rw [g.over]
  refine wpAny_mono ((he _ hb).run _ s σ H _ I0 (ht _ hb)) (fun v s1 hv => ?_) fun x s' hx => k.exc n g₀ s₀ _ x s' hb hx
  obtain ⟨x, H1, I1, r1, a, xs, F, rfl, ha, sF, hle, hO, hnx⟩ := hv
  obtain rfl : v = Value.ref a := r1
  obtain ⟨_, its, cn, rits, ea⟩ := I1.hok a _ ha
  have hl : s1.heap.IsList a its.toArray := ⟨_, ea, rfl, cn, rfl⟩
  refine sg_at ?_
  show SegG _ _ _ _ n g₀ s₀ c ((yieldFrom Y.X.env (.ref a)).wrap (fun b => (dropValue (.YieldFrom e yp) pos b).wrap K J gd lv) J gd lv) fs s1
  unfold yieldFrom
  refine sg_bind_wrap (wpAny_typeOf (T := "list") hl.typeIs ?_)
  rw [if_neg (show ¬ ((Value.type "list" == Value.type "coroutine") = true) by decide)]
  refine sg_bind_wrap (wpAny_holding ?_)
  rw [g.over]
  refine wpAny_pyIter_list hl ?_
  have ksz : ∀ b o, s1.heap.get? b = some o → b ≠ s1.heap.objs.size := fun b o e => Nat.ne_of_lt (Heap.lt_size e)
  have kp : ∀ b o, s1.heap.get? b = some o → (s1.heap.push { cls := .type "list_iterator", data := .fields #[.ref a, .int 0 0] }).get? b = some o := fun b o e => Heap.get?_push_of_some _ e
  have I2 := I1.kept (t' := s1.toks) kp
  have hsz : Y.n0 ≤ s1.heap.objs.size := by
    have := I1.sz
    have e0 : g₀.b.1.heap.objs.size = Y.n0 := ok.sz _ hb
    have this : g₀.b.1.heap.objs.size ≤ s1.heap.objs.size := this
    rw [e0] at this; exact this
  have npin : ∀ p ∈ Y.X.pn ++ (g₀.cp ++ ip), p.1 ≠ s1.heap.objs.size := fun p hp => ksz p.1 _ (I1.pin p hp).1
  refine sg_call fun p => ?_
  refine sg_yf (xs := xs) (ys := ys) (F := F) ok (fun p hp => npin p ?_) hsz (Nat.ne_of_gt I1.lt) (fun y c hy => ?_) (I1.hok.fresh (Nat.le_refl _)) ha (I1.nofs (Nat.le_refl _)) ?_ ?_ ?_ hle hO (fun n' g' s₀' s' hn' hg' hG => ?_) xs.length 0 n g₀ s₀ _ (Nat.zero_add _) hn sF (fun p hp => npin p (List.mem_append_right _ (List.mem_append_left _ hp))) ⟨hb, I2, dj⟩ ⟨_, Heap.get?_push_size _ rfl, rfl, rfl⟩
  · rcases List.mem_append.mp hp with hp | hp
    · exact List.mem_append_left _ hp
    · exact List.mem_append_right _ (List.mem_append_right _ hp)
  · obtain ⟨v, o, ho, _⟩ := I1.cell y c hy
    exact ksz c o ho
  · show (A.over c fs).handled = none
    rw [g.over]; exact hhd
  · show (splitAtGen fs).map _ = none
    rw [g.split]; rfl
  · show (gd false || fs.any Frame.guarded) = false
    rw [g.gd, g.guard]; rfl
  · exact sg_leaf (.ok (.ret .none)) (k.ok n' g' (ys ++ xs) s₀' s' .next hn' ⟨σ, H1, hG, hnx g' hg'⟩)
end
section
variable {Y : Fm} {J : Gh} {e : Expr} {yp pos : Pos} {ys ds : List D} {ρ : DEnv} {M : Mem} {B : GBd}
theorem gf_yieldFrom (ok : Y.Ok) (hc : Y.X.calm = true) (hO : Y.O = OD Y.X.K ds) (h : ∀ b, Y.V b → EX (Y.at b) J e ρ M fun d M1 => ∃ zs, d = .lst zs ∧ ys.length + zs.length ≤ 1000000 ∧ (ys ++ zs) <+: ds ∧ B.nx (ys ++ zs) ρ M1) (hi : interactive Y.X.env = false := by rfl) : G1 Y J (.Expr (.YieldFrom e yp) pos) ys ρ M B :=
  g1_of (s_yieldFrom ok (fun b _ => pe_any) hc hi) fun F g vs σ H E sg st r k b hb => (h b hb).go st fun d v M1 F1 H1 ⟨zs, ed, hl, hp, q⟩ e1 o1 rd => by
    subst ed
    cases rd with
    | lst ha rz =>
      have lz := rz.length
      refine ⟨_, _, F1, rfl, o1.ex _ _ ha, sg.trans e1, by rw [sizeLine_eq, r.length, lz]; omega, fun j x hx => ?_, fun g' hg' => k.nx g' F1 σ H1 ρ M1 (ys ++ zs) _ q e1 hg' (st.en.mono e1) o1 ((r.mono e1).append rz)⟩
      rw [hO]
      obtain ⟨dj, hdj, rj⟩ : ∃ dj, zs[j]? = some dj ∧ Rp Y.X.K F1 x dj := rz.getV hx
      refine ⟨M1, dj, o1, rj, ?_⟩
      have hjl := (List.getElem?_eq_some_iff.mp hx).1
      rw [List.length_append, List.length_take, r.length, Nat.min_eq_left (Nat.le_of_lt hjl)]
      obtain ⟨t, rfl⟩ := hp
      rw [List.append_assoc, List.getElem?_append_right (Nat.le_add_right _ _), Nat.add_sub_cancel_left, List.getElem?_append_left (by rw [← lz]; exact hjl)]
      exact hdj
end
end GF
namespace GF
open PySem PySem.Spec L2 GenW DX
open PyProof.Rows hiding St
def gcC (scope : Scope) (x : Str) : Bool :=
  (match scope.kind with | .function => true | _ => false) && (scope.names.all fun y => (match y.2 with | .local => true | _ => false) && decide (scope.names.lookup y.1 = some y.2)) && decide (scope.names.lookup x = some .local)
theorem gcC_ok {scope : Scope} {x : Str} (h : gcC scope x = true) : scope.kind = .function ∧ (∀ y ∈ scope.names, y.2 = .local) ∧ scope.names.lookup x = some .local ∧ ∀ y ∈ scope.names, scope.names.lookup y.1 = some y.2 := by
  unfold gcC at h
  simp only [Bool.and_eq_true, List.all_eq_true, decide_eq_true_eq] at h
  obtain ⟨⟨h1, h2⟩, h3⟩ := h
  refine ⟨?_, fun y hy => ?_, h3, fun y hy => (h2 y hy).2⟩
  · split at h1
    · assumption
    · cases h1
  · have q := (h2 y hy).1
    split at q
    · assumption
    · cases q
section
variable {X : Cx} {J : Gh} {es : List Expr} {kws : List Keyword} {ks : List Str} {ρ : DEnv} {M : Mem} {pos pos' p1 px py : Pos} {x f : Str} {P : D → Mem → Prop} {k : Nat} {fa : Addr} {T : List D → List D → List D → Prop} {scope : Scope} {B : Bd}
theorem ex_gc (G : GFnZ X.prog X.w X.K X.mg X.base k fa ks T) (hr : Room (k + 1) X.A) (hm : X.mg f = some (.ref fa)) (hk : PySem.W.keepIn X.K (.ref fa) = true)
    (h : EvA X J pos' es kws ks ρ M fun as zs M1 => ∃ ds, T as zs ds ∧ P (.lst ds) M1) (hC : gcC scope x = true := by rfl) (hxd : (x == ("__debug__" : Str)) = false := by decide) (hg : Gl X f := by rfl) (hdb : (f == ("__debug__" : Str)) = false := by decide)
    (hs : ∀ v, foldedSetIterable (.Call (.Name f p1) es kws pos') X.env v = pure v := by intro _; rfl) :
    EX X J (.ListComp (.Name x px) [⟨.Name x py, .Call (.Name f p1) es kws pos', [], 0⟩] scope pos) ρ M P := by
  obtain ⟨c1, c2, c3, c4⟩ := gcC_ok hC
  refine ⟨fun pins s σ H Q I ⟨F, st, kt⟩ => ?_⟩
  rw [eval_ListComp]
  refine gc_core I st G hr hm hk h c1 c2 c3 c4 hxd (fun D C s' m H' F' M1 ds I' hP e o r hn fp => ⟨m, hn, fun h'' sb => ?_⟩) hg hdb hs
  obtain ⟨f0, f1, f2, f3, f4, f5⟩ := fp
  exact ⟨.ref D, H', I'.turned (t' := s'.toks) (fun b o hb e => (sb.2 b hb).trans e) f0 f1 f3 f4 f5, rfl, kt _ _ _ _ _ hP e o r⟩
theorem g1_gc {y : Str} {py' : Pos} {spos : Pos} (i : Nat) (G : GFnZ X.prog X.w X.K X.mg X.base k fa ks T) (hr : Room (k + 1) X.A) (hm : X.mg f = some (.ref fa)) (hk : PySem.W.keepIn X.K (.ref fa) = true)
    (h : EvA X J pos' es kws ks ρ M fun as zs M1 => ∃ ds, T as zs ds ∧ B.nx (put ρ i (.lst ds)) M1) (hN : X.N.Nodup := by rfl) (hy : X.N[i]? = some y := by rfl) (hyl : X.env.scope.names.lookup y = some .local := by rfl)
    (hsw : swapsWith (.ListComp (.Name x px) [⟨.Name x py, .Call (.Name f p1) es kws pos', [], 0⟩] scope pos) (some (.Name y py')) spos.line X.env = pure true := by rfl) (hC : gcC scope x = true := by rfl) (hxd : (x == ("__debug__" : Str)) = false := by decide) (hg : Gl X f := by rfl) (hdb : (f == ("__debug__" : Str)) = false := by decide)
    (hs : ∀ v, foldedSetIterable (.Call (.Name f p1) es kws pos') X.env v = pure v := by intro _; rfl) :
    DX.G1 X J (.Assign [.Name y py'] (.ListComp (.Name x px) [⟨.Name x py, .Call (.Name f p1) es kws pos', [], 0⟩] scope pos) spos) ρ M B := by
  obtain ⟨c1, c2, c3, c4⟩ := gcC_ok hC
  refine ⟨fun pins s σ H D I ⟨F, st, kd⟩ => ?_⟩
  rw [exec_Assign_Name_used _ _ _ _ hsw]
  refine wpAny_bind (wpAny_standAt (wpAny_bind ?_))
  refine wpAny_bind (thn (gc_core (use := some (assign (.Name y py') X.env)) (Qf := fun _ s' => SP X pins D .next s') (P := fun d M1 => B.nx (put ρ i d) M1) I st G hr hm hk h c1 c2 c3 c4 hxd (fun L C s' m H' F' M1 ds I' hP e o r hn fp => ?_) hg hdb hs) fun _ s' hq => wpAny_pure (wpAny_pure hq))
  show wpAny _ _ (assign (.Name y py') X.env (.ref L)) _ _ _
  refine wpAny_assign_Name (store_ok2 (v := V.ref L) I' hN hy (.inl hyl) rfl (fun s2 I2 ⟨a, sb, ha⟩ => ?_) (.inr hyl))
  obtain ⟨f0, f1, f2, f3, f4, f5⟩ := fp
  have haC : C ≠ a := by
    rcases ha with z | z
    · rw [z]; exact f1
    · exact fun e => f4 y a z e.symm
  refine ⟨m, hn.sameBut sb haC, fun h3 sb3 => ?_⟩
  exact ⟨_, H', I2.turned (t' := s2.toks) (fun b o hb e => (sb3.2 b hb).trans e) f0 f1 f3 f4 f5, kd.nx F' _ H' _ M1 hP e ((st.en.mono e).put i r) o⟩
end
end GF
namespace GF
open PySem PySem.Spec L2 GenW DX
open PyProof.Rows hiding St
section
variable {pg : Program} {w : World} {K : PySem.W.Frag} {mg : Str → Option Value} {base : Heap} {N pn : List Str} {qual x : Str} {params : Arguments} {body : List Stmt} {scope : Scope} {kws : List (Str × L2.V)} {f : Addr} {fd : FuncData} {k : Nat} {T : List D → List D → Prop}
theorem gfn_ZK (FD : FunD K x qual params body scope [] kws f fd) (S : GScope N pn scope) (B : GBodyY pg w K mg base k f qual body scope N pn T) (np : Nat) (ks : List Str) (ms : List (Str × L2.V)) (mds : List D) (ix : List Nat)
    (hms : ∀ q ∈ ms, q ∈ kws) (hmd : ∀ F, Rps K F (ms.map (·.2)) mds)
    (h : ∀ (kV : Value) (D : Addr) (doc pm : Value) (an : Option Addr) (cdv ct : Value) (us mv ws : List Value), (kws ≠ [] → kV = .ref D) → us.length = np → mv.length = ms.length → ws.length = ks.length →
      KwChainE D (fun t => t = pure (pn.zip (pick (us ++ (mv ++ ws)) ix))) ((ms.map (·.1)).zip mv) (bindArgs (PySem.W.fnOf x qual params body scope .none kV doc pm an cdv ct) ⟨us, ks.zip ws⟩))
    (hix : ∀ (us mv ws : List L2.V), us.length = np → mv.length = ms.length → ws.length = ks.length → (pick (us ++ (mv ++ ws)) ix).length = pn.length) :
    GFnZ pg w K mg base (k + 1) f ks (fun as zs ds => as.length = np ∧ zs.length = ks.length ∧ T (pick (as ++ (mds ++ zs)) ix) ds) := by
  obtain ⟨oc, od, dV, kV, doc, pm, an, cdv, ct, osl, rfl, lk, hcd, hD, hK⟩ := FD.ex
  obtain rfl : dV = .none := by
    rcases hD with ⟨_, e⟩ | ⟨e, _⟩
    · exact e
    · exact absurd rfl e
  obtain ⟨D, hkV, hq⟩ : ∃ D : Addr, (kws ≠ [] → kV = .ref D) ∧ ∀ q ∈ kws, ∃ u, PySem.W.nsIn K D q.1 = some (some u) ∧ RelV q.2 u := by
    rcases hK with e | ⟨D, e, hq⟩
    · exact ⟨0, fun z => absurd e z, fun q hq => by rw [e] at hq; cases hq⟩
    · exact ⟨D, fun _ => e, hq⟩
  obtain ⟨mv, hml, rmv, hmk⟩ := kwd_vals (ms := ms) fun q hm => hq q (hms q hm)
  refine ⟨fun A outer s H F M as zs ds us ws vs xs hr e0 rv rx hw o rd rz t => ?_⟩
  obtain ⟨hd0, hzl, t⟩ := t
  have l1 : us.length = np := by rw [← rv.length, rd.length]; exact hd0
  have lm : mv.length = ms.length := hml
  have vl : (pick (vs ++ (ms.map (·.2) ++ xs)) ix).length = pn.length := hix _ _ _ (by rw [rv.length]; exact l1) (by rw [List.length_map]) (by rw [rx.length]; exact hw)
  have vr : Vals (pick (vs ++ (ms.map (·.2) ++ xs)) ix) (pick (us ++ (mv ++ ws)) ix) := pick_vals (rv.append (rmv.append rx)) ix
  refine call_Y lk hcd ⟨_, _, _, _, lk, rfl⟩ S B hr (env0_cutG e0 (noOwn_same o.ex)) (us := pick (us ++ (mv ++ ws)) ix) (vs := pick (vs ++ (ms.map (·.2) ++ xs)) ix) (fun M' A' Q' E' hq => ?_) vr vl (cutG_ok o) (pick_rps ((Rps.noOwn rd).append ((hmd _).append (Rps.noOwn rz))) ix) t
  refine KwChainE.run (K := K) (e0.mod.kin.keeps fun b o e => (e0.bs b o e).1) (fun t et => ?_) (fun q hq => hmk q hq) (h kV D doc pm an cdv ct us mv ws hkV l1 lm hw)
  subst et
  exact wpAny_pure hq
end
theorem pre_refl {ys : List D} : ys <+: ys := List.prefix_refl _
theorem pre_snoc {ys zs ws : List D} (h : ys <+: zs) : ys <+: zs ++ ws := h.trans (List.prefix_append _ _)
theorem ext_end {g : List D → List D} (h : ∀ ys, ys <+: g ys) : Ext fun ys => some (g ys) := fun ys r e => by cases e; exact h ys
theorem ext_bnd {α : Type} {o : List D → Option α} {k : α → List D → Option (List D)} (h : ∀ a, Ext (k a)) : Ext fun ys => (o ys).bind fun a => k a ys := fun ys r e => by
  obtain ⟨a, _, e⟩ := Option.bind_eq_some_iff.mp e
  exact h a ys r e
theorem ext_if {c : List D → Prop} [∀ ys, Decidable (c ys)] {f g : List D → Option (List D)} (hf : Ext f) (hg : Ext g) : Ext fun ys => if c ys then f ys else g ys := fun ys r e => by
  have e : (if c ys then f ys else g ys) = some r := e
  by_cases q : c ys
  · rw [if_pos q] at e; exact hf ys r e
  · rw [if_neg q] at e; exact hg ys r e
theorem ext_loop {step : List D → D → Option (List D)} {g : List D → List D} {xs : List D} {k : List D → Option (List D)} (hg : ∀ ys, ys <+: g ys) (h : ∀ x, Ext fun ys => step ys x) (hk : Ext k) : Ext fun ys => (foldO step (g ys) xs).bind k := fun ys r e => by
  obtain ⟨y1, e1, e2⟩ := Option.bind_eq_some_iff.mp e
  exact ((hg ys).trans (ext_foldO h _ y1 e1)).trans (hk y1 r e2)
section
variable {Y : Fm} {ρ : DEnv} {M : Mem} {B : GBd} {J : Gh}
theorem forGF {tg : Expr} {stm : List Stmt} {xs ds : List D} {f : List D → D → Option (List D)} {y0 yN : List D} (hl : foldO f y0 xs = some yN) (hx : ∀ d, Ext fun ys => f ys d) (hN : yN <+: ds) (V : DEnv → Mem → Prop) (h0 : V ρ M)
    (hs : ∀ d ys ys', f ys d = some ys' → ys' <+: ds → ∀ ρ' M', V ρ' M' → ∀ b', Y.V b' → AsD (Y.at b') tg d ρ' fun ρ2 => GX Y J stm ys ρ2 M' ⟨fun y ρ3 M3 => y = ys' ∧ V ρ3 M3, B.rt, B.nx, fun y ρ3 M3 => y = ys' ∧ V ρ3 M3⟩) (hd : ∀ ρ' M', V ρ' M' → B.nx yN ρ' M') :
    ∃ Wd : Nat → List D → DEnv → Mem → Prop, Wd 0 y0 ρ M ∧ (∀ i d ys' ρ' M', xs[i]? = some d → Wd i ys' ρ' M' → ∀ b', Y.V b' → AsD (Y.at b') tg d ρ' fun ρ2 => GX Y J stm ys' ρ2 M' ⟨Wd (i + 1), B.rt, B.nx, Wd (i + 1)⟩) ∧ ∀ ys' ρ' M', Wd xs.length ys' ρ' M' → B.nx ys' ρ' M' := by
  refine ⟨fun i ys ρ' M' => foldO f ys (xs.drop i) = some yN ∧ V ρ' M', ⟨hl, h0⟩, fun i d ys ρ' M' hi ⟨h1, h2⟩ b' hb' => ?_, fun ys ρ' M' ⟨h1, h2⟩ => ?_⟩
  · rw [drop_at hi, foldO] at h1
    obtain ⟨s', h3, h4⟩ := Option.bind_eq_some_iff.mp h1
    obtain ⟨g, hg, h⟩ := hs d ys s' h3 ((ext_foldO hx _ _ h4).trans hN) ρ' M' h2 b' hb'
    refine ⟨g, hg, fun F M v σ H Q o r en k => h F M v σ H Q o r en fun σ' ρ2 q en2 => k σ' ρ2 ?_ en2⟩
    exact gx_of q fun F g vs σ H E sg st r kk => ⟨F, sg, st, r, fun g' F' σ' H' ρ' M' ys vs z => kk.nx g' F' σ' H' ρ' M' ys vs ⟨by rw [z.1]; exact h4, z.2⟩, kk.rt, kk.bk, fun g' F' σ' H' ρ' M' ys vs z => kk.ct g' F' σ' H' ρ' M' ys vs ⟨by rw [z.1]; exact h4, z.2⟩⟩
  · rw [List.drop_length, foldO] at h1
    cases h1
    exact hd ρ' M' h2
end
end GF
namespace DTK
open PySem PySem.Spec L2 PyProof.Rows
section
variable {X : Cx} {pins : List (Addr × Obj)} {σ : L2.St} {H : Hp} {s : Shared} {a b : Addr} {ks : List Int} {kvs : TE3} {v d : V} {u r : Value} {A : Around} {E : Value → Shared → Prop}
/-- d.get(k, x) -/
theorem dtx_get2 {Q : Value → Shared → Prop} (hu : A.units + 1 < cLine) (I : L2.Inv X pins σ H s) (e : H a = some (DTX a kvs)) (hk : ∀ p ∈ kvs, SqT X.K H p.2.1 (p.1.map V.int)) (eb : SqT X.K H b (ks.map V.int)) (rd : RelV d r) (h : ∀ w' s', L2.Inv X pins σ H s' → RelV ((atV kvs ks).getD d) w' → Q w' s') :
    wpAny (model X.prog X.w) A (call (.builtin "dict.get") [.ref a, .ref b, r]) Q E s := by
  obtain ⟨hz, hd, xs, rr, dd⟩ := dtx_of I e hk
  refine call_meetsIn PySem.F.slot_dict_get dd.typeIs PySem.F.entry_dict_get (PySem.F.args_dict_get_3 _ _ _) (meetsH_dict_get_default (tupleKind (intKind X.prog X.w)) a b hd r) ⟨tupleKind_room_in1 hu, ks, xs, key_ofT I eb, dd, h _ _ (I.tok _) ?_⟩
  have q := ent_at (k := ks) rr
  cases h1 : atV kvs ks with
  | none =>
    rw [h1] at q
    cases h2 : (atKey xs ks).map (·.2) with
    | none => exact rd
    | some z => rw [h2] at q; exact q.elim
  | some y =>
    rw [h1] at q
    cases h2 : (atKey xs ks).map (·.2) with
    | none => rw [h2] at q; exact q.elim
    | some z => rw [h2] at q; exact q
/-- one pair stored while the dict is made -/
theorem dtx_store {Q : Unit → Shared → Prop} (hu : A.units < cLine) (I : L2.Inv X pins σ H s) (e : H a = some (DTX a kvs)) (hk : ∀ p ∈ kvs, SqT X.K H p.2.1 (p.1.map V.int)) (eb : SqT X.K H b (ks.map V.int)) (hl : kvs.length < sizeLine) (rv : RelV v u) (hn : atV kvs ks = none)
    (h : ∀ s', L2.Inv X pins σ (upd H a (DTX a (kvs ++ [(ks, b, v)]))) s' → Q () s') : wpAny (model X.prog X.w) A (dictSet a (.ref b) u) Q E s := by
  obtain ⟨hz, hd, xs, r, dd⟩ := dtx_of I e hk
  have hlen : xs.length = kvs.length := (Paired.length r).symm
  have ra := ent_at (k := ks) r
  have hn2 : atKey xs ks = none := by
    rw [hn] at ra
    cases q : atKey xs ks with
    | none => rfl
    | some x => rw [q] at ra; exact ra.elim
  refine wpAny_dictSet_heap (hsz := by rw [hlen]; exact hz) (knd := tupleKind (intKind X.prog X.w)) hu (key_ofT I eb) dd fun h' dd' hs => h _ ?_
  rw [storedH_new hn2] at dd'
  obtain ⟨o, es, ep, g1, g2⟩ := dd'
  exact d_write I (by rw [e]; exact True.intro) hs ⟨o, g1⟩ (dtx_new (by rw [List.length_append, List.length_singleton]; omega) hd (Paired.snoc r ⟨rfl, rfl, rv⟩) ⟨o, es, ep, g1, g2⟩)
theorem atV_none {k : List Int} : ∀ {es : TE3}, (∀ e ∈ es, e.1 ≠ k) → atV es k = none
  | [], _ => rfl
  | e :: es, h => by
    have ih := atV_none (k := k) (es := es) fun x hx => h x (List.mem_cons_of_mem _ hx)
    unfold atV at *
    rw [List.find?_cons, decide_eq_false (h e List.mem_cons_self)]
    exact ih
/-- all pairs stored -/
theorem dtx_stores (hu : A.units < cLine) : ∀ (es acc : TE3) (ws : List (Value × Value)) (s : Shared) (H : Hp) (Q : PUnit → Shared → Prop), VV (es.map fun e => (V.ref e.2.1, e.2.2)) ws → L2.Inv X pins σ H s → H a = some (DTX a acc) → (∀ p ∈ acc ++ es, SqT X.K H p.2.1 (p.1.map V.int)) → ((acc ++ es).map (·.1)).Nodup → acc.length + es.length < sizeLine →
    (∀ s', L2.Inv X pins σ (upd H a (DTX a (acc ++ es))) s' → Q PUnit.unit s') → wpAny (model X.prog X.w) A (storeAll a ws) Q E s
  | [], acc, ws, s, H, Q, rv, I, e, hk, hn, hl, h => by
    rw [List.map_nil] at rv
    cases rv
    unfold storeAll
    rw [List.forIn_nil]
    refine wpAny_pure (h s ?_)
    have : upd H a (DTX a (acc ++ [])) = H := by
      funext b
      by_cases hb : b = a
      · subst hb; rw [upd_same, List.append_nil, e]
      · rw [upd_ne hb]
    rw [this]; exact I
  | (k, b, v) :: es, acc, ws, s, H, Q, rv, I, e, hk, hn, hl, h => by
    rw [List.map_cons] at rv
    cases rv with
    | @cons p q ps qs h1 t =>
    obtain ⟨q1, q2⟩ := q
    obtain rfl : q1 = Value.ref b := h1.1
    have rv2 : RelV v q2 := h1.2
    rw [List.length_cons] at hl
    have hne : ∀ x ∈ acc, x.1 ≠ k := fun x hx z => by
      rw [List.map_append, List.nodup_append] at hn
      exact hn.2.2 x.1 (List.mem_map.mpr ⟨x, hx, rfl⟩) k (List.mem_map.mpr ⟨(k, b, v), List.mem_cons_self, rfl⟩) z
    unfold storeAll
    rw [List.forIn_cons]
    refine wpAny_bind (wpAny_bind (dtx_store hu I e (fun p hp => hk p (List.mem_append_left _ hp)) (hk _ (List.mem_append_right _ List.mem_cons_self)) (by omega) rv2 (atV_none hne) fun s2 I2 => wpAny_pure ?_))
    have mono : ∀ {x : Addr} {ys : List V}, SqT X.K H x ys → SqT X.K (upd H a (DTX a (acc ++ [(k, b, v)]))) x ys := fun {x ys} z => by
      rcases z with (z | ⟨o, z⟩) | z
      · exact .inl (.inl (by rw [upd_ne fun w => by rw [w, e] at z; cases z]; exact z))
      · exact .inl (.inr ⟨o, by rw [upd_ne fun w => by rw [w, e] at z; cases z]; exact z⟩)
      · exact .inr z
    refine dtx_stores hu es (acc ++ [(k, b, v)]) qs s2 _ Q t I2 upd_same (fun p hp => mono (hk p (by rw [List.append_assoc] at hp; exact hp))) (by rw [List.append_assoc]; exact hn) (by rw [List.length_append, List.length_singleton]; omega) fun s3 I3 => ?_
    rw [upd_upd, List.append_assoc] at I3
    exact h s3 I3
end
end DTK
namespace DX
open PySem PySem.Spec L2
open PyProof.Rows hiding St
def tDispX (K : PySem.W.Frag) (trs : List (TE × TE)) : TE := fun σ H Q => ∀ p, H p = none → tPairs trs σ (upd H p (DTK.DTX p [])) fun ps H2 => H2 p = some (DTK.DTX p []) ∧ ∃ es : DTK.TE3, ps = es.map (fun e => (V.ref e.2.1, e.2.2)) ∧ (∀ e ∈ es, SqT K H2 e.2.1 (e.1.map V.int)) ∧ (es.map (·.1)).Nodup ∧ es.length ≤ 15 ∧ Q (.ref p) (upd H2 p (DTK.DTX p es))
theorem pe_dispX {X : Cx} {pos : Pos} {keys : List (Option Expr)} {values : List Expr} {trs : List (TE × TE)} (hu : X.A.units < cLine) (h : PPs X pos keys values trs) (hall : keys.all (·.isSome) = true) (hl : keys.length = values.length) (h0 : keys ≠ [])
    (h15 : keys.length ≤ 15) : PE X (.Dict keys values pos) (tDispX X.K trs) := by
  refine ⟨fun pins s σ H Q I q => ?_⟩
  have hn := I.hok.fresh (Nat.le_refl s.heap.objs.size)
  have I1 := I.laid (a := s.heap.objs.size) (o := DTK.DTX s.heap.objs.size []) (h' := s.heap.push { cls := .type "dict", data := .dict #[] }) (t' := s.toks) (fun _ _ q => Heap.get?_push_of_some _ q) (Nat.le_refl _) (DTK.dtx_empty (X := X) s.heap I.big)
  refine wpAny_Dict_any hall hl h0 h15 (thn (h.run pins _ σ _ _ I1 (q _ hn)) fun ws s2 ⟨ps, H2, I2, rel, e, es, ep, hk, hnd, hz, q2⟩ => ?_)
  subst ep
  exact DTK.dtx_stores hu es [] ws s2 H2 _ rel I2 e (fun p hp => hk p hp) hnd (by rw [sizeLine_eq, List.length_nil]; omega) fun s3 I3 => ⟨.ref s.heap.objs.size, _, I3, rfl, q2⟩
def tGet2X (K : PySem.W.Frag) (td ty tx : TE) : TE := fun σ H Q => td σ H fun x H1 => ∃ (a : Addr) (es : DTK.TE3), x = .ref a ∧ H1 a = some (DTK.DTX a es) ∧ (∀ p ∈ es, SqT K H1 p.2.1 (p.1.map V.int)) ∧ ty σ H1 fun y H2 => tx σ H2 fun z H3 => ∃ (b : Addr) (ks : List Int), y = .ref b ∧ H3 a = some (DTK.DTX a es) ∧ (∀ p ∈ es, SqT K H3 p.2.1 (p.1.map V.int)) ∧ SqT K H3 b (ks.map V.int) ∧ Q ((DTK.atV es ks).getD z) H3
theorem pe_dget2X {X : Cx} {o a b : Expr} {apos cpos : Pos} {td ty tx : TE} (hu : X.A.units + 1 < cLine) (ho : PE X o td) (he : PE X a ty) (hf : PE X b tx) (m : M2 X o "get" apos a b cpos) : PE X (.Call (.Attribute o "get" apos) [a, b] [] cpos) (tGet2X X.K td ty tx) := by
  refine ⟨fun pins s σ H Q I h => ?_⟩
  refine wpAny_Call_method m.base m.few m.line PySem.F.plainAttrs_dict PySem.F.slot_dict_get PySem.F.type_dict_get (thn (ho.run pins s σ H _ I h) fun u s1 ⟨x, H1, I1, rx, a, es, ex, ea1, hk1, q1⟩ => ?_)
  subst ex
  obtain rfl : u = Value.ref a := rx
  obtain ⟨_, _, xs, _, dd⟩ := DTK.dtx_of I1 ea1 hk1
  refine ⟨dd.typeIs, fun b q => ?_, ?_⟩
  · cases q
    obtain ⟨ob, _, _, h1, h2, _⟩ := dd
    exact ⟨ob, h1, h2.2.1⟩
  rw [m.trees]
  refine Calls.callWith_builtin rfl (Calls.evalArgs_plain (Calls.spliced_cons (thn (he.run pins s1 σ H1 _ I1 q1) fun iv s2 ⟨y, H2, I2, ry, q2⟩ =>
    Calls.spliced_cons (thn (hf.run pins s2 σ H2 _ I2 q2) fun fv s3 ⟨z, H3, I3, rz, bb, ks, ey, ea, hk, eb, q3⟩ => Calls.spliced_nil ?_))))
  subst ey
  obtain rfl : iv = Value.ref bb := ry
  exact DTK.dtx_get2 hu I3 ea hk eb rz fun w' s4 I4 rw' => ⟨_, _, I4, rw', q3⟩
def keysX : List (D × D) → Option (List (List Int × D))
  | [] => some []
  | (k, v) :: l => (keyT k).bind fun ks => (keysX l).map fun r => (ks, v) :: r
noncomputable def litX (l : List (D × D)) : Option (List (List Int × D)) := (keysX l).bind fun qs => chk ((qs.map (·.1)).Nodup ∧ qs.length ≤ 15) qs
theorem ER.keys {K : PySem.W.Frag} {F : Hp} {es : DTK.TE3} {qs : List (List Int × D)} (r : ER K F es qs) : es.map (·.1) = qs.map (·.1) := by
  unfold ER at r
  induction r with
  | nil => rfl
  | cons h t ih => rw [List.map_cons, List.map_cons, h.1, ih]
section
variable {X : Cx} {J : Gh} {a b : Expr} {ρ : DEnv} {M : Mem} {pos apos cpos dpos : Pos} {P : D → Mem → Prop}
/-- the pairs of a display, evaluated from the left -/
def PrX (X : Cx) (J : Gh) (ρ : DEnv) : List Expr → List Expr → Mem → (List (D × D) → Mem → Prop) → Prop
  | k :: ks, v :: vs, M, P => EX X J k ρ M fun y M1 => EX X J v ρ M1 fun z M2 => PrX X J ρ ks vs M2 fun l M3 => P ((y, z) :: l) M3
  | [], [], M, P => P [] M
  | _, _, _, _ => False
def trsX (X : Cx) : List Expr → List Expr → List (TE × TE)
  | k :: ks, v :: vs => (tE X k, tE X v) :: trsX X ks vs
  | _, _ => []
theorem pps_X : ∀ {ks vs : List Expr}, ks.length = vs.length → PPs X pos (ks.map some) vs (trsX X ks vs)
  | [], [], _ => pps_nil
  | k :: ks, v :: vs, h => pps_cons pe_any pe_any (pps_X (Nat.succ.inj h))
  | [], _ :: _, h => nomatch h
  | _ :: _, [], h => nomatch h
theorem prx_go : ∀ {ks vs : List Expr} {M : Mem} {F : Hp} {σ : St} {H : Hp} {P : List (D × D) → Mem → Prop} {Q : List (V × V) → Hp → Prop}, PrX X J ρ ks vs M P → Sts X.K J F σ H ρ M →
    (∀ l ps M' F' H', P l M' → Same F F' → Ok X.K F' M' H' → Paired (fun (p : V × V) (q : D × D) => Rp X.K F' p.1 q.1 ∧ Rp X.K F' p.2 q.2) ps l → Q ps H') → tPairs (trsX X ks vs) σ H Q
  | [], [], M, F, σ, H, P, Q, h, st, k => k [] [] M F H h (Same.refl F) st.ok .nil
  | a :: ks, b :: vs, M, F, σ, H, P, Q, h, st, k => EX.go h st fun y v M1 F1 H1 q1 e1 o1 r1 => EX.go q1 (st.to e1 o1) fun z u M2 F2 H2 q2 e2 o2 r2 =>
      prx_go q2 (st.to (e1.trans e2) o2) fun l ps M3 F3 H3 q3 e3 o3 r3 => k _ _ M3 F3 H3 q3 ((e1.trans e2).trans e3) o3 (.cons ⟨(r1.mono e2).mono e3, r2.mono e3⟩ r3)
  | [], _ :: _, M, F, σ, H, P, Q, h, st, k => h.elim
  | _ :: _, [], M, F, σ, H, P, Q, h, st, k => h.elim
theorem keysX_er {K : PySem.W.Frag} {F : Hp} : ∀ {l : List (D × D)} {ps : List (V × V)} {qs : List (List Int × D)}, keysX l = some qs → Paired (fun (p : V × V) (q : D × D) => Rp K F p.1 q.1 ∧ Rp K F p.2 q.2) ps l → ∃ es : DTK.TE3, ps = es.map (fun e => (V.ref e.2.1, e.2.2)) ∧ ER K F es qs
  | [], _, qs, h, .nil => by cases h; exact ⟨[], rfl, .nil⟩
  | (k, v) :: l, _, qs, h, .cons (a := p) r t => by
    obtain ⟨ks, h1, h2⟩ := Option.bind_eq_some_iff.mp (show (keyT k).bind (fun ks => (keysX l).map fun r => (ks, v) :: r) = some qs from h)
    obtain ⟨rs, h3, rfl⟩ := Option.map_eq_some_iff.mp h2
    obtain ⟨es, rfl, r2⟩ := keysX_er h3 t
    obtain ⟨p1, p2⟩ := p
    obtain ⟨bb, e, sq⟩ := keyT_rp h1 r.1
    obtain rfl : p1 = V.ref bb := e
    exact ⟨(ks, bb, p2) :: es, rfl, .cons ⟨rfl, sq, r.2⟩ r2⟩
def unS : List (Option Expr) → List Expr
  | [] => []
  | some k :: r => k :: unS r
  | none :: r => unS r
theorem prx_nil {P : List (D × D) → Mem → Prop} (h : P [] M) : PrX X J ρ (unS []) [] M P := h
theorem prx_cons {k v : Expr} {keys : List (Option Expr)} {vs : List Expr} {P : List (D × D) → Mem → Prop} (h : EX X J k ρ M fun y M1 => EX X J v ρ M1 fun z M2 => PrX X J ρ (unS keys) vs M2 fun l M3 => P ((y, z) :: l) M3) : PrX X J ρ (unS (some k :: keys)) (v :: vs) M P := h
theorem ex_getLit {keys : List (Option Expr)} {vs : List Expr} (hu : X.A.units + 64 < cLine) (h : ∀ p, M p = none → PrX X J ρ (unS keys) vs (up M p (.dtx [])) fun l M1 => ∃ M3 qs, M3 p = none ∧ M1 = up M3 p (.dtx []) ∧ litX l = some qs ∧ EX X J a ρ M3 fun y M4 => EX X J b ρ M4 fun z M5 => ∃ ks, keyT y = some ks ∧ P ((atP qs ks).getD z) M5)
    (hk : keys = (unS keys).map some := by rfl) (hl : (unS keys).length = vs.length := by rfl) (hl2 : keys.length = vs.length := by rfl) (h0 : keys ≠ [] := by simp) (h15 : keys.length ≤ 15 := by exact Nat.le_of_ble_eq_true rfl) (hall : keys.all (·.isSome) = true := by rfl)
    (hbase : attributeBase (.Dict keys vs dpos) "get" X.env (eval (.Dict keys vs dpos) X.env) = eval (.Dict keys vs dpos) X.env := by rfl)
    (few : ((backTo cpos (starEach [a, b] X.env)).all (fun x => !x.1) && (backToKw cpos (keywordEach [] X.env)).all (fun x => x.1.isSome) && decide ([a, b].length + ([] : List Keyword).length + (if ([] : List Keyword).isEmpty then 0 else 1) < 30)) = true := by rfl)
    (line : (apos.endLine == cpos.line) = true := by rfl) (trees : backTo cpos (starEach [a, b] X.env) = [(false, eval a X.env), (false, eval b X.env)] := by rfl) :
    EX X J (.Call (.Attribute (.Dict keys vs dpos) "get" apos) [a, b] [] cpos) ρ M P :=
  ex_of (pe_dget2X (by omega) (pe_dispX (by omega) (by have z := pps_X (X := X) (pos := dpos) hl; rw [← hk] at z; exact z) hall hl2 h0 h15) pe_any pe_any ⟨hbase, few, line, trees⟩) fun F σ H Q st kt => fun p hp => by
    have hM := st.ok.nn hp
    have o0 : Ok X.K F (up M p (.dtx [])) (upd H p (DTK.DTX p [])) := st.ok.lay hp ⟨[], upd_same, .nil⟩
    refine prx_go (h p hM.2) ⟨st.en, o0, st.gh⟩ fun l ps M1 F1 H1 q1 e1 o1 r1 => ?_
    obtain ⟨M3, qs, hn, rfl, hq, q2⟩ := q1
    obtain ⟨qs', hkx, hc⟩ := Option.bind_eq_some_iff.mp hq
    obtain ⟨⟨hnd, hz⟩, rfl⟩ := chk_inv hc
    obtain ⟨es0, g1, g2⟩ := o1.dtx (p := p) up_same
    cases g2
    have nF : F1 p = none := (o1.mt p _ up_same).1
    obtain ⟨es, rfl, er⟩ := keysX_er hkx r1
    have s2 : Same F1 (upd F1 p (DTK.DTX p es)) := same_new nF
    have o2 : Ok X.K (upd F1 p (DTK.DTX p es)) M3 (upd H1 p (DTK.DTX p es)) := by
      refine ⟨fun x u e => ?_, fun x d e => ?_⟩
      · by_cases hx : x = p
        · subst hx; rw [upd_same] at e ⊢; exact e
        · rw [upd_ne hx] at e ⊢; exact o1.ex x u e
      · have hx : x ≠ p := fun z => by rw [z, hn] at e; cases e
        obtain ⟨n1, m1⟩ := o1.mt x d (by rw [up_ne hx]; exact e)
        exact ⟨by rw [upd_ne hx]; exact n1, m1.mono s2 (upd_ne hx)⟩
    have hlen : es.length = qs'.length := Paired.length er
    refine ⟨g1, es, rfl, fun e he => same_t o1.ex (er.sq e he), by rw [er.keys]; exact hnd, by rw [hlen]; exact hz, p, es, rfl, upd_same, fun e he => same_t o2.ex (same_t s2 (er.sq e he)), ?_⟩
    have st2 : Sts X.K J (upd F1 p (DTK.DTX p es)) σ (upd H1 p (DTK.DTX p es)) ρ M3 := ⟨(st.en.mono e1).mono s2, o2, J.mono _ _ (e1.trans s2) st.gh⟩
    refine q2.go st2 fun y v M4 F3 H3 q3 e3 o3 r3 => q3.go (st2.to e3 o3) fun z u M5 F4 H4 q4 e4 o4 r4 => ?_
    obtain ⟨ks, hk, q4⟩ := q4
    obtain ⟨bb, rfl, sb⟩ := keyT_rp hk (r3.mono e4)
    exact ⟨bb, ks, rfl, o4.ex _ _ (e4 _ _ (e3 _ _ upd_same)), fun e he => same_t o4.ex (same_t (s2.trans (e3.trans e4)) (er.sq e he)), same_t o4.ex sb, kt _ _ _ _ _ q4 (((e1.trans s2).trans e3).trans e4) o4 (ER.at r4 (er.mono (s2.trans (e3.trans e4))))⟩
end
end DX
namespace DX
open PySem PySem.Spec L2 SX
section
variable {i j : Int} {a b : Str} {l m : List D} {x y : D} {p q : Bool}
@[simp] theorem chk_true {α : Type} {x : α} : chk True x = some x := chk_pos trivial
@[simp] theorem dAdd_ii : dAdd (.int i) (.int j) = some (.int (i + j)) := rfl
@[simp] theorem dAdd_ll : dAdd (.lst l) (.lst m) = chk (l.length + m.length ≤ 1000000) (.lst (l ++ m)) := rfl
@[simp] theorem dAdd_tt : dAdd (.tup l) (.tup m) = chk (l.length + m.length ≤ 1000000) (.tup (l ++ m)) := rfl
@[simp] theorem dAdd_ss : dAdd (.str a) (.str b) = chk (a.length + b.length ≤ 1000000) (.str (a ++ b)) := rfl
@[simp] theorem lAdd_ll : lAdd (.lst l) (.lst m) = chk (l.length + m.length ≤ 1000000) (l ++ m) := rfl
@[simp] theorem dSub_ii : dSub (.int i) (.int j) = some (.int (i - j)) := rfl
@[simp] theorem dMul_ii : dMul (.int i) (.int j) = chk (CMul i j) (.int (i * j)) := rfl
@[simp] theorem dMul_li : dMul (.lst l) (.int j) = chk ((-(2 ^ 62) ≤ j ∧ j < 2 ^ 62) ∧ l.length * j.toNat ≤ 1000000) (.lst (List.replicate j.toNat l).flatten) := rfl
@[simp] theorem lMul_li : lMul (.lst l) (.int j) = chk ((-(2 ^ 62) ≤ j ∧ j < 2 ^ 62) ∧ l.length * j.toNat ≤ 1000000) (List.replicate j.toNat l).flatten := rfl
@[simp] theorem dFdiv_ii : dFdiv (.int i) (.int j) = chk (CDiv i j) (.int (i / j)) := rfl
@[simp] theorem dMod_ii : dMod (.int i) (.int j) = chk (0 < j) (.int (i % j)) := rfl
@[simp] theorem dPow_ii : dPow (.int i) (.int j) = chk (CPow i j) (.int (i ^ j.toNat)) := rfl
@[simp] theorem dShl_ii : dShl (.int i) (.int j) = chk (CPow i j) (.int (i * 2 ^ j.toNat)) := rfl
@[simp] theorem dShr_ii : dShr (.int i) (.int j) = chk (0 ≤ j) (.int (i / 2 ^ j.toNat)) := rfl
@[simp] theorem dBand_ii : dBand (.int i) (.int j) = some (.int (Builtin.bitAnd i j)) := rfl
@[simp] theorem dBor_ii : dBor (.int i) (.int j) = some (.int (Builtin.bitOr i j)) := rfl
@[simp] theorem dBxor_ii : dBxor (.int i) (.int j) = some (.int (Builtin.bitXor i j)) := rfl
@[simp] theorem dNeg_i : dNeg (.int i) = some (.int (-i)) := rfl
@[simp] theorem dInv_i : dInv (.int i) = some (.int (Builtin.bitNot i)) := rfl
@[simp] theorem cLt_ii : cLt (.int i) (.int j) = some (decide (i < j)) := rfl
@[simp] theorem cLe_ii : cLe (.int i) (.int j) = some (decide (i ≤ j)) := rfl
@[simp] theorem cGt_ii : cGt (.int i) (.int j) = some (decide (j < i)) := rfl
@[simp] theorem cGe_ii : cGe (.int i) (.int j) = some (decide (j ≤ i)) := rfl
@[simp] theorem cEq_ii : cEq (.int i) (.int j) = some (decide (i = j)) := rfl
@[simp] theorem cEq_bb : cEq (.bl p) (.bl q) = some (decide (p = q)) := rfl
@[simp] theorem cEq_ss : cEq (.str a) (.str b) = some (decide (a = b)) := rfl
@[simp] theorem cEq_si : cEq (.str a) (.int j) = some false := rfl
@[simp] theorem cEq_is : cEq (.int j) (.str a) = some false := rfl
@[simp] theorem cEq_bs : cEq (.bl p) (.str a) = some false := rfl
@[simp] theorem cEq_sb : cEq (.str a) (.bl p) = some false := rfl
@[simp] theorem cEq_nn : cEq .non .non = some true := rfl
@[simp] theorem cEq_ni : cEq .non (.int j) = some false := rfl
@[simp] theorem cEq_in : cEq (.int j) .non = some false := rfl
@[simp] theorem cEq_ns : cEq .non (.str a) = some false := rfl
@[simp] theorem cEq_sn : cEq (.str a) .non = some false := rfl
@[simp] theorem cNe_of {x y : D} : cNe x y = (cEq x y).map (!·) := rfl
@[simp] theorem cNin_of {x y : D} : cNin x y = (cIn x y).map (!·) := rfl
@[simp] theorem cIsnt_of {x y : D} : cIsnt x y = (cIs x y).map (!·) := rfl
@[simp] theorem cIs_bb : cIs (.bl p) (.bl q) = some (decide (p = q)) := rfl
@[simp] theorem cIs_nn : cIs .non .non = some true := rfl
@[simp] theorem cIs_tn : cIs (.tup l) .non = some false := rfl
@[simp] theorem cIs_ln : cIs (.lst l) .non = some false := rfl
@[simp] theorem cIs_in : cIs (.int i) .non = some false := rfl
@[simp] theorem cIs_sn : cIs (.str a) .non = some false := rfl
@[simp] theorem dTru_b : dTru (.bl p) = some p := rfl
@[simp] theorem dTru_i : dTru (.int i) = some (i != 0) := rfl
@[simp] theorem dTru_l : dTru (.lst l) = some (!l.isEmpty) := rfl
@[simp] theorem dTru_t : dTru (.tup l) = some (!l.isEmpty) := rfl
@[simp] theorem dTru_n : dTru .non = some false := rfl
@[simp] theorem dIx_li : dIx (.lst l) (.int i) = atI l i := rfl
@[simp] theorem dIx_ti : dIx (.tup l) (.int i) = atI l i := rfl
@[simp] theorem dIx_si : dIx (.str a) (.int i) = (atI a.cps.toList i).bind fun n => chk (a.length ≤ 1000000) (.str ⟨#[n]⟩) := rfl
@[simp] theorem dEnd_i : dEnd (.int i) = some i := rfl
@[simp] theorem dCut_l {u v : Option Int} : dCut (.lst l) u v = some (.lst (cutD l u v)) := rfl
@[simp] theorem dCut_t {u v : Option Int} : dCut (.tup l) u v = some (.tup (cutD l u v)) := rfl
@[simp] theorem dCut_s {u v : Option Int} : dCut (.str a) u v = chk (a.cps.toList.length ≤ 1000000) (.str (S (cutA a.cps.toList u v))) := rfl
@[simp] theorem dLen_l : dLen (.lst l) = some (.int (l.length : Int)) := rfl
@[simp] theorem dLen_t : dLen (.tup l) = some (.int (l.length : Int)) := rfl
@[simp] theorem dLen_s : dLen (.str a) = chk (a.length ≤ 1000000) (.int (a.length : Int)) := rfl
@[simp] theorem dAbs_i : dAbs (.int i) = some (.int (if i < 0 then -i else i)) := rfl
@[simp] theorem dInt_i : dInt (.int i) = some (.int i) := rfl
@[simp] theorem dInt_b : dInt (.bl p) = some (.int (if p = true then 1 else 0)) := rfl
@[simp] theorem lList_l : lList (.lst l) = some l := rfl
@[simp] theorem lList_t : lList (.tup l) = some l := rfl
@[simp] theorem lListM_l : lListM (.lst l) = some l := rfl
@[simp] theorem lListM_t : lListM (.tup l) = some l := rfl
@[simp] theorem dIter_l : dIter (.lst l) = some l := rfl
@[simp] theorem dIter_t : dIter (.tup l) = some l := rfl
@[simp] theorem dIter_s : dIter (.str a) = some (signs a) := rfl
@[simp] theorem items_l : itemsD (.lst l) = some l := rfl
@[simp] theorem items_t : itemsD (.tup l) = some l := rfl
@[simp] theorem dEnum_l : dEnum (.lst l) = some (enumD 0 l) := rfl
@[simp] theorem dEnum_t : dEnum (.tup l) = some (enumD 0 l) := rfl
@[simp] theorem dZip_l : dZip (.lst l) (.lst m) = some (zipD l m) := rfl
@[simp] theorem dZip_tl : dZip (.tup l) (.lst m) = some (zipD l m) := rfl
@[simp] theorem dZip_lt : dZip (.lst l) (.tup m) = some (zipD l m) := rfl
@[simp] theorem dZip_t : dZip (.tup l) (.tup m) = some (zipD l m) := rfl
@[simp] theorem dRange_1 : dRange [.int j] = chk (-1000000 ≤ j ∧ j ≤ 1000000) (rngD 0 j.toNat) := rfl
@[simp] theorem dRange_2 : dRange [.int i, .int j] = chk ((0 ≤ i ∧ i ≤ 1000000) ∧ -1000000 ≤ j ∧ j ≤ 1000000) (rngD i (j - i).toNat) := rfl
@[simp] theorem dRange_3 : dRange [.int i, .int j, .int (-1)] = chk ((-1000000 ≤ i ∧ i ≤ 1000000) ∧ -1000000 ≤ j ∧ j ≤ 1000000) (rngC i (-1) (i - j).toNat) := by simp only [dRange, if_pos]
@[simp] theorem lSet_i {v : D} : lSet l (.int i) v = (ixN l.length i).map fun m => l.set m v := rfl
@[simp] theorem un1_t : un1 (.tup [x]) = some x := rfl
@[simp] theorem un2_t : un2 (.tup [x, y]) = some (x, y) := rfl
@[simp] theorem un3_t {z : D} : un3 (.tup [x, y, z]) = some (x, y, z) := rfl
@[simp] theorem un4_t {z w : D} : un4 (.tup [x, y, z, w]) = some (x, y, z, w) := rfl
@[simp] theorem iOp_ii {f : Int → Int → Int} : iOp f (.int i) (.int j) = some (.int (f i j)) := rfl
@[simp] theorem strD_s : strD (.str a) = some a := rfl
@[simp] theorem lstD_l : lstD (.lst l) = some l := rfl
@[simp] theorem dctD_d {k : List (Key × D)} : dctD (.dct k) = some k := rfl
@[simp] theorem keyD_i : keyD (.int i) = some (.inl i) := rfl
@[simp] theorem keyD_s : keyD (.str a) = some (.inr a) := rfl
@[simp] theorem dMax2_ii : dMax2 (.int i) (.int j) = some (.int (if j > i then j else i)) := rfl
@[simp] theorem dMin2_ii : dMin2 (.int i) (.int j) = some (.int (if j < i then j else i)) := rfl
@[simp] theorem foldO_nil {S : Type} {f : S → D → Option S} {s : S} : foldO f s [] = some s := rfl
@[simp] theorem foldO_cons {S : Type} {f : S → D → Option S} {s : S} {x : D} {xs : List D} : foldO f s (x :: xs) = (f s x).bind fun s' => foldO f s' xs := rfl
@[simp] theorem mapO_nil {f : D → Option D} : mapO f [] = some [] := rfl
@[simp] theorem mapO_cons {f : D → Option D} {x : D} {xs : List D} : mapO f (x :: xs) = (f x).bind fun y => (mapO f xs).map fun ys => y :: ys := rfl
@[simp] theorem loopC_nil {S R : Type} {f : S → D → Option (Ctl S R)} {s : S} : loopC f s [] = some (.go s) := rfl
@[simp] theorem ctl_g {S R T : Type} {s : S} {f : S → Option T} {g : R → Option T} : ctl (.go s) f g = f s := rfl
@[simp] theorem ctl_r {S R T : Type} {s : R} {f : S → Option T} {g : R → Option T} : ctl (.ret s) f g = g s := rfl
@[simp] theorem dAll_b {bs : List Bool} : dAll (.lst (bs.map D.bl)) = some (.bl (bs.all id)) := by unfold dAll; simp [blsD_map]
@[simp] theorem dAny_b {bs : List Bool} : dAny (.lst (bs.map D.bl)) = some (.bl (bs.any id)) := by unfold dAny; simp [blsD_map]
@[simp] theorem dSum_i {ns : List Int} : dSum (.lst (ns.map D.int)) = some (.int ns.sum) := by unfold dSum; simp [intsD_map]
theorem cIn_ints {ns : List Int} : cIn (.int i) (.lst (ns.map D.int)) = some (decide (i ∈ ns)) := by
  unfold cIn
  simp [flD, flDs_ints, inV_ints]
end
section
variable {α β : Type} {f : D → Option D} {xs : List D}
theorem mapO_of {l : List α} {e : α → D} {g : α → D} (h : ∀ a ∈ l, f (e a) = some (g a)) : mapO f (l.map e) = some (l.map g) := by
  induction l with
  | nil => rfl
  | cons a l ih =>
    rw [List.map_cons, mapO_cons, h a List.mem_cons_self, Option.bind_some, ih fun b hb => h b (List.mem_cons_of_mem _ hb)]
    rfl
/-- a loop that puts one thing behind at each turn -/
theorem foldO_app {f : List D → D → Option (List D)} {l : List α} {e g : α → D} {acc : List D} (h : ∀ a ∈ l, ∀ acc : List D, acc.length < 1000000 → f acc (e a) = some (acc ++ [g a])) (hz : acc.length + l.length ≤ 1000000) : foldO f acc (l.map e) = some (acc ++ l.map g) := by
  induction l generalizing acc with
  | nil => simp
  | cons a l ih =>
    rw [List.length_cons] at hz
    rw [List.map_cons, foldO_cons, h a List.mem_cons_self acc (by omega), Option.bind_some, ih (fun b hb => h b (List.mem_cons_of_mem _ hb)) (by rw [List.length_append, List.length_singleton]; omega)]
    simp
theorem Gives.mk {y : α} {Q : α → Prop} (h : Q y) : Gives (some y) Q := ⟨y, rfl, h⟩
end
end DX
namespace My
open PySem PySem.Spec L2 DX SX
noncomputable section
def F_Lpen (x0 : D) : Option (List D) :=
  (dEnd (D.int 63)).bind fun i1 => (dCut x0 none (some i1)).bind fun v2 => (lList v2).bind fun l3 => some [(D.lst l3), (D.int 0), (D.int 0)]
def F_Ldraw (x0 : List D) (x1 : D) : Option (D × List D) :=
  (dIx (D.lst x0) (D.int 2)).bind fun v2 => (cGt v2 (D.int 0)).bind fun t3 => if t3 = true then (dIx (D.lst x0) (D.int 2)).bind fun v4 => (dMod v4 x1).bind fun v5 => (dIx (D.lst x0) (D.int 2)).bind fun v6 => (dFdiv v6 x1).bind fun v7 => (lSet x0 (D.int 2) v7).bind fun l8 => some (v5, l8) else (dIx (D.lst x0) (D.int 1)).bind fun v9 => (dAdd v9 (D.int 1)).bind fun v10 => (lSet x0 (D.int 1) v10).bind fun l11 => (dMul (D.int 5533) v9).bind fun v12 => (dAdd v12 (D.int 251)).bind fun v13 => ((dIx (D.lst l11) (D.int 0)).bind fun v16 => (cNe v16 (D.lst [])).bind fun t17 => if t17 = true then (dIx (D.lst l11) (D.int 0)).bind fun v18 => (dIx (D.lst l11) (D.int 0)).bind fun v19 => (dLen v19).bind fun v20 => (dMod v9 v20).bind fun v21 => (dIx v18 v21).bind fun v22 => some v22 else some v13).bind fun (r15 : D) => ((dIx (D.lst l11) (D.int 0)).bind fun v25 => (dLen v25).bind fun v26 => (cLt v9 v26).bind fun t27 => if t27 = true then (dAbs r15).bind fun v28 => (dPow (D.int 10) (D.int 18)).bind fun v29 => (cGe v28 v29).bind fun t30 => some t30 else some false).bind fun t31 => if t31 = true then (dAbs r15).bind fun v32 => (dMul (D.int 2) v32).bind fun v33 => (cLt r15 (D.int 0)).bind fun t34 => (dInt (D.bl t34)).bind fun v35 => (dAdd v33 v35).bind fun v36 => (dFdiv v36 x1).bind fun v37 => (lSet l11 (D.int 2) v37).bind fun l38 => (dMod v36 x1).bind fun v39 => some (v39, l38) else (dMod r15 (D.int 2147483563)).bind fun v40 => (dMul (D.int 40709) v9).bind fun v41 => (dAdd v40 v41).bind fun v42 => (dAdd v42 (D.int 29)).bind fun v43 => (dPow v43 (D.int 5)).bind fun v44 => (dMod v44 (D.int 2147483647)).bind fun v45 => (dAdd v9 (D.int 50021)).bind fun v46 => (dMul v45 v46).bind fun v47 => (dMul (D.int 70001) v9).bind fun v48 => (dMul v48 v9).bind fun v49 => (dAdd v47 v49).bind fun v50 => (dAdd v50 (D.int 11)).bind fun v51 => (dPow v51 (D.int 3)).bind fun v52 => (dMod v52 (D.int 2147483587)).bind fun v53 => (dFdiv v53 (D.int 32)).bind fun v54 => (dMod v54 x1).bind fun v55 => some (v55, l11)
def F_trial_with (x0 : D) (x1 : D) (x2 : List D) : Option (D) :=
  (kvsD x2).bind fun k1 => (strD (D.str "")).bind fun s2 => (dRange [x0, (D.int 0), (D.int (-1))]).bind fun l3 => (chk (l3.length ≤ 1000000) ()).bind fun _ => (mapO (fun x5 => (dctD (D.dct (mergeD [] k1))).bind fun k10 => (keyD x5).bind fun k11 => some ((valD k10 k11).getD (D.str "P"))) l3).bind fun y6 => (dJoinS s2 (D.lst y6)).bind fun v12 => (dAdd v12 x1).bind fun v13 => some v13
def F_adder_trials (x0 : D) : Option (D) :=
  (F_trial_with x0 (D.str "G") []).bind fun v1 => (F_trial_with x0 (D.str "K") [(D.tup [(D.int 1), (D.str "G")])]).bind fun v2 => ((dAdd x0 (D.int 1)).bind fun v4 => some ((D.int 2), v4)).bind fun v5 => (dRange [v5.1, v5.2]).bind fun l6 => (foldO (fun (s7 : List D) x9 => (dSub x9 (D.int 1)).bind fun v12 => (F_trial_with x0 (D.str "G") [(D.tup [x9, (D.str "G")]), (D.tup [v12, (D.str "K")])]).bind fun v13 => (chk (s7.length < 1000000) ()).bind fun _ => some (s7 ++ [v13])) [] l6).bind fun (r8 : List D) => (dAdd (D.lst [v1, v2]) (D.lst r8)).bind fun v15 => (F_trial_with x0 (D.str "G") [(D.tup [x0, (D.str "K")])]).bind fun v16 => (dAdd v15 (D.lst [v16])).bind fun v17 => some v17
def F_state_at (x0 : D) (x1 : D) : Option (D) :=
  (dLen x0).bind fun v1 => (dSub v1 (D.int 1)).bind fun v2 => (dSub v2 x1).bind fun v3 => (dIx x0 v3).bind fun v4 => some v4
def F_worth_of (x0 : D) : Option (D) :=
  (dShl (D.int 1) x0).bind fun v1 => some v1
def F_carry_of (x0 : D) : Option (D) :=
  (cEq x0 (D.str "G")).bind fun t1 => (dInt (D.bl t1)).bind fun v2 => some v2
def F_numbers_of (x0 : D) : Option (D) :=
  (dLen x0).bind fun v1 => (dSub v1 (D.int 1)).bind fun v2 => ((dAdd v2 (D.int 1)).bind fun v3 => some ((D.int 1), v3)).bind fun v4 => (dRange [v4.1, v4.2]).bind fun l5 => (foldO (fun (s6 : D × D) x8 => (F_state_at x0 x8).bind fun v11 => ((cNe v11 (D.str "K")).bind fun t14 => if t14 = true then (dSub x8 (D.int 1)).bind fun v15 => (F_worth_of v15).bind fun v16 => (iOp (· + ·) s6.1 v16).bind fun v17 => some v17 else some s6.1).bind fun (r13 : D) => ((cEq v11 (D.str "G")).bind fun t20 => if t20 = true then (dSub x8 (D.int 1)).bind fun v21 => (F_worth_of v21).bind fun v22 => (iOp (· + ·) s6.2 v22).bind fun v23 => some v23 else some s6.2).bind fun (r19 : D) => some (r13, r19)) ((D.int 0), (D.int 0)) l5).bind fun (r7 : D × D) => (F_state_at x0 (D.int 0)).bind fun v24 => (F_carry_of v24).bind fun v25 => some (D.tup [r7.1, r7.2, v25])
def F_made_additions (x0 : D) : Option (List D) :=
  ((F_adder_trials x0).bind fun v1 => some v1).bind fun v2 => (dIter v2).bind fun l3 => (foldO (fun (s4 : List D) x7 => (chk (List.length s4 < 1000000) ()).bind fun _ => (F_numbers_of x7).bind fun v9 => some (s4 ++ [v9])) ([] : List D) l3).bind fun r6 => some r6
def F_Lput (x0 : D) (x1 : D) (x2 : D) : Option (D) :=
  (dMul (D.lst [(D.str "P")]) x0).bind fun v1 => (lAdd v1 (D.lst [x2])).bind fun l2 => (dIter x1).bind fun l4 => (foldO (fun (s5 : List D) x7 => (un2 x7).bind fun p10 => (dSub x0 p10.1).bind fun v11 => (lSet s5 v11 p10.2).bind fun l12 => some l12) l2 l4).bind fun (r6 : List D) => (strD (D.str "")).bind fun s13 => (dJoinS s13 (D.lst r6)).bind fun v14 => some v14
def F_Lstandard (x0 : D) (x1 : D) (x2 : D) : Option (D) :=
  ((dTru x1).bind fun t4 => if t4 = true then ((dAdd x0 (D.int 1)).bind fun v5 => some ((D.int 1), v5)).bind fun v6 => (dRange [v6.1, v6.2]).bind fun l7 => (foldO (fun (s8 : List D) x10 => (F_Lput x0 (D.lst [(D.tup [x10, (D.str "G")])]) (D.str "P")).bind fun v13 => (chk (s8.length < 1000000) ()).bind fun _ => some (s8 ++ [v13])) [] l7).bind fun (r9 : List D) => ((dAdd x0 (D.int 1)).bind fun v15 => some ((D.int 1), v15)).bind fun v16 => (dRange [v16.1, v16.2]).bind fun l17 => (foldO (fun (s18 : List D) x20 => ((cGt x20 (D.int 1)).bind fun t23 => if t23 = true then (dSub x20 (D.int 1)).bind fun v24 => some v24 else some x0).bind fun v26 => (F_Lput x0 (D.lst [(D.tup [x20, (D.str "G")]), (D.tup [v26, (D.str "K")])]) (D.str "P")).bind fun v27 => (chk (s18.length < 1000000) ()).bind fun _ => some (s18 ++ [v27])) r9 l17).bind fun (r19 : List D) => some (D.lst r19) else (F_Lput x0 (D.lst []) (D.str "G")).bind fun v29 => (F_Lput x0 (D.lst [(D.tup [(D.int 1), (D.str "G")])]) (D.str "K")).bind fun v30 => ((dAdd x0 (D.int 1)).bind fun v32 => some ((D.int 2), v32)).bind fun v33 => (dRange [v33.1, v33.2]).bind fun l34 => (foldO (fun (s35 : List D) x37 => (dSub x37 (D.int 1)).bind fun v40 => (F_Lput x0 (D.lst [(D.tup [x37, (D.str "G")]), (D.tup [v40, (D.str "K")])]) (D.str "G")).bind fun v41 => (chk (s35.length < 1000000) ()).bind fun _ => some (s35 ++ [v41])) [v29, v30] l34).bind fun (r36 : List D) => (F_Lput x0 (D.lst [(D.tup [x0, (D.str "K")])]) (D.str "G")).bind fun v43 => (chk (r36.length < 1000000) ()).bind fun _ => some (D.lst (r36 ++ [v43]))).bind fun (r3 : D) => ((dTru x1).bind fun t45 => if t45 = true then some (D.str "P") else some (D.str "K")).bind fun v47 => (F_Lput x0 (D.lst []) v47).bind fun v48 => (dInt x2).bind fun v49 => (dMul (D.lst [v48]) v49).bind fun v50 => (dAdd r3 v50).bind fun v51 => some v51
def F_Lmade_right (x0 : D) : Option (D) :=
  (F_made_additions x0).bind fun v1 => (F_Lstandard x0 (D.bl false) (D.bl false)).bind fun v2 => ((dLen (D.lst v1)).bind fun v5 => (dLen v2).bind fun v6 => (cNe v5 v6).bind fun t7 => if t7 = true then some true else (F_made_additions x0).bind fun v8 => (cNe (D.lst v8) (D.lst v1)).bind fun t9 => some t9).bind fun t10 => if t10 = true then some (D.bl false) else (dZip v2 (D.lst v1)).bind fun l11 => (loopC (fun (s12 : Unit) x14 => (un2 x14).bind fun p17 => (dRange [x0, (D.int 0), (D.int (-1))]).bind fun l18 => (foldO (fun (s19 : D) x21 => (dIx p17.2 (D.int 0)).bind fun v24 => (dSub x21 (D.int 1)).bind fun v25 => (dShr v24 v25).bind fun v26 => (dBand v26 (D.int 1)).bind fun v27 => (dIx p17.2 (D.int 1)).bind fun v28 => (dSub x21 (D.int 1)).bind fun v29 => (dShr v28 v29).bind fun v30 => (dBand v30 (D.int 1)).bind fun v31 => (litX [((D.tup [(D.int 1), (D.int 1)]), (D.str "G")), ((D.tup [(D.int 0), (D.int 0)]), (D.str "K")), ((D.tup [(D.int 1), (D.int 0)]), (D.str "P"))]).bind fun v32 => (keyT (D.tup [v27, v31])).bind fun v33 => (dAdd s19 ((atP v32 v33).getD (D.str "?"))).bind fun v34 => some v34) (D.str "") l18).bind fun (r20 : D) => ((dIx p17.2 (D.int 2)).bind fun v37 => (dIx (D.str "KG") v37).bind fun v38 => (dAdd r20 v38).bind fun v39 => (cNe v39 p17.1).bind fun t40 => if t40 = true then some true else (dIx p17.2 (D.int 0)).bind fun v42 => (dIx p17.2 (D.int 1)).bind fun v43 => (dMax2 v42 v43).bind fun v44 => (dShr v44 x0).bind fun v45 => (cNe v45 (D.int 0)).bind fun t46 => if t46 = true then some true else (dReprR p17.2).bind fun v47 => (lList p17.2).bind fun l48 => (dReprR (D.tup l48)).bind fun v49 => (cNe v47 v49).bind fun t50 => some t50).bind fun t51 => if t51 = true then some (.ret (D.bl false)) else some (.go ())) () l11).bind fun c15 => ctl c15 (fun (r13 : Unit) => some (D.bl true)) (fun v => some v)
def F_ring_trials (x0 : D) : Option (D) :=
  ((dAdd x0 (D.int 1)).bind fun v1 => some ((D.int 1), v1)).bind fun v2 => (dRange [v2.1, v2.2]).bind fun l3 => (chk (l3.length ≤ 1000000) ()).bind fun _ => (mapO (fun x5 => (F_trial_with x0 (D.str "P") [(D.tup [x5, (D.str "G")])]).bind fun v10 => some v10) l3).bind fun y6 => ((dAdd x0 (D.int 1)).bind fun v11 => some ((D.int 1), v11)).bind fun v12 => (dRange [v12.1, v12.2]).bind fun l13 => (chk (l13.length ≤ 1000000) ()).bind fun _ => (mapO (fun x15 => ((dSub x15 (D.int 1)).bind fun v21 => (dTru v21).bind fun t22 => if t22 = true then some v21 else some x0).bind fun v23 => some (D.tup [x15, v23])) l13).bind fun y16 => (dIter (D.lst y16)).bind fun l24 => (chk (l24.length ≤ 1000000) ()).bind fun _ => (mapO (fun x26 => (un2 x26).bind fun p31 => (F_trial_with x0 (D.str "P") [(D.tup [p31.1, (D.str "G")]), (D.tup [p31.2, (D.str "K")])]).bind fun v32 => some v32) l24).bind fun y27 => (dAdd (D.lst y6) (D.lst y27)).bind fun v33 => some v33
def F_trial_list (x0 : D) (x1 : D) (x2 : D) : Option (D) :=
  ((dTru x1).bind fun t1 => if t1 = true then (F_ring_trials x0).bind fun v2 => some v2 else (F_adder_trials x0).bind fun v3 => some v3).bind fun v5 => ((dTru x2).bind fun t6 => if t6 = true then ((dTru x1).bind fun t7 => if t7 = true then some (D.str "P") else some (D.str "K")).bind fun v9 => (F_trial_with x0 v9 []).bind fun v10 => (dAdd v5 (D.lst [v10])).bind fun v11 => some v11 else some v5).bind fun v13 => some v13
def F_standard_trials (x0 : D) (x1 : D) (x2 : D) : Option (List D) :=
  (F_trial_list x0 x1 x2).bind fun v2 => (lstD v2).bind fun l3 => (chk (List.length ([] : List D) + List.length l3 ≤ 1000000) ()).bind fun _ => some (([] : List D) ++ l3)
def F_law (x0 : D) : Option (D) :=
  (F_Lpen x0).bind fun v1 => (dRange [(D.int 6)]).bind fun l3 => (loopC (fun (s4 : List D) x6 => (F_Ldraw s4 (D.int 24)).bind fun v9 => (dAdd (D.int 1) v9.1).bind fun v10 => (F_Ldraw v9.2 (D.int 5)).bind fun v11 => (dIx (D.lst [(D.int 1), (D.int 2), (D.int 3), (D.int 24), v10]) v11.1).bind fun v12 => (some (D.tup [(D.bl false), (D.bl true)])).bind fun v13 => (dIter v13).bind fun l14 => (loopC (fun (s15 : Unit) x17 => (F_standard_trials v12 (D.bl false) x17).bind fun v20 => ((F_Lstandard v12 (D.bl false) x17).bind fun v23 => (cNe (D.lst v20) v23).bind fun t24 => if t24 = true then some true else (dLen (D.lst v20)).bind fun v25 => (dAdd v12 (D.int 2)).bind fun v26 => (dInt x17).bind fun v27 => (dAdd v26 v27).bind fun v28 => (cNe v25 v28).bind fun t29 => some t29).bind fun t30 => if t30 = true then some (.ret (D.bl false)) else ((cGt v12 (D.int 1)).bind fun t34 => if t34 = true then (F_standard_trials v12 (D.bl true) x17).bind fun v35 => ((F_Lstandard v12 (D.bl true) x17).bind fun v38 => (cNe (D.lst v35) v38).bind fun t39 => if t39 = true then some true else (dLen (D.lst v35)).bind fun v40 => (dMul (D.int 2) v12).bind fun v41 => (dInt x17).bind fun v42 => (dAdd v41 v42).bind fun v43 => (cNe v40 v43).bind fun t44 => some t44).bind fun t45 => if t45 = true then some (.ret (D.bl false)) else some (.go (D.lst v35)) else some (.go (D.lst v20))).bind fun c33 => ctl c33 (fun (r32 : D) => some (.go ())) (fun v => some (.ret v))) () l14).bind fun c18 => ctl c18 (fun (r16 : Unit) => (F_Lmade_right v12).bind fun v47 => (dTru v47).bind fun t48 => if (!t48) = true then some (.ret (D.bl false)) else some (.go v11.2)) (fun v => some (.ret v))) v1 l3).bind fun c7 => ctl c7 (fun (r5 : List D) => (F_standard_trials (D.int 2) (D.bl false) (D.bl false)).bind fun v49 => (cEq (D.lst v49) (D.lst [(D.str "PPG"), (D.str "PGK"), (D.str "GKG"), (D.str "KPG")])).bind fun t50 => some (D.bl t50)) (fun v => some v)
end
end My
namespace My
open PySem PySem.Spec L2 DX SX PyProof.Rows StX LamX
theorem ob_eq (s : PySem.W.SharedT) : ob s = hk.obs s.abs := DX.lookT_eq (HandSHeadRun.getT_eq s)
end My
namespace My
open PySem PySem.Spec L2 DX SX
def penL (s : Hs) : List D := [.lst (s.cells.map D.int), .int s.at_, .int s.gr]
theorem ixN_of {n : Nat} {i : Int} (h0 : 0 ≤ i) (h1 : i < n) : ixN n i = some i.toNat := by unfold ixN; rw [if_pos h0, if_pos h1]
theorem atI_of_get {α : Type} {l : List α} {i : Int} {x : α} (h0 : 0 ≤ i) (h : l[i.toNat]? = some x) : atI l i = some x := by
  have : i.toNat < l.length := by
    by_cases q : i.toNat < l.length
    · exact q
    · rw [List.getElem?_eq_none (by omega)] at h; cases h
  unfold atI
  rw [ixN_of h0 (by omega)]
  exact h
theorem nilB_ints {ns : List Int} : cEq (.lst (ns.map D.int)) (.lst []) = some ns.isEmpty := by
  have : sc (.lst (ns.map D.int)) (.lst []) = false := rfl
  unfold cEq
  rw [this]
  simp only [Bool.false_eq_true, if_false]
  rw [show nilB (.lst (ns.map D.int)) (.lst []) = true from intsB_map ns]
  cases ns <;> rfl
theorem cp_mixP {x a c b e : Int} (h : 0 ≤ a ∧ a ≤ 1000000) (hc : 0 ≤ c ∧ c ≤ 200000) (hb : 0 ≤ b ∧ b ≤ 1000000) (he : 0 ≤ e ∧ e ≤ 1000) : CPow (x % 2147483647 * (a + b) + c * a * a + e) 3 := by
  have h1 : 0 ≤ x % 2147483647 := Int.emod_nonneg _ (by decide)
  have h2 : x % 2147483647 < 2147483647 := Int.emod_lt_of_pos _ (by decide)
  have h3 : 0 ≤ x % 2147483647 * (a + b) := Int.mul_nonneg h1 (by omega)
  have h4 : x % 2147483647 * (a + b) ≤ 2147483647 * 2000000 := Int.mul_le_mul (by omega) (by omega) (by omega) (by omega)
  have h5 : 0 ≤ c * a := Int.mul_nonneg hc.1 h.1
  have h6 : c * a ≤ 200000 * 1000000 := Int.mul_le_mul (by omega) (by omega) (by omega) (by omega)
  have h7 : 0 ≤ c * a * a := Int.mul_nonneg h5 h.1
  have h8 : c * a * a ≤ 200000 * 1000000 * 1000000 := Int.mul_le_mul (by omega) (by omega) (by omega) (by omega)
  exact ⟨by omega, by omega, by omega⟩
theorem cmul_small {i j : Int} (h : -(2 ^ 63) ≤ i ∧ i ≤ 2 ^ 63) : CMul i j := .inl ⟨by omega, by omega⟩
theorem cmul_smallr {i j : Int} (h : -(2 ^ 63) ≤ j ∧ j ≤ 2 ^ 63) : CMul i j := .inr ⟨by omega, by omega⟩
theorem fin_take {m b : Int} (hb : 0 < b) : 0 ≤ m % b ∧ m % b < b := ⟨Int.emod_nonneg _ (by omega), Int.emod_lt_of_pos _ hb⟩
theorem pen_set2 {c : D} {a g v : D} : lSet [c, a, g] (.int 2) v = some [c, a, v] := rfl
theorem pen_at0 {c a g : D} : dIx (.lst [c, a, g]) (.int 0) = some c := rfl
theorem pen_at1 {c a g : D} : dIx (.lst [c, a, g]) (.int 1) = some a := rfl
theorem pen_at2 {c a g : D} : dIx (.lst [c, a, g]) (.int 2) = some g := rfl
theorem draw_ok {s : Hs} {n b : Int} (h : HOk s n) (hn : n ≤ 1000000) (hb : 0 < b ∧ b < 1000000000) : Gives (F_Ldraw (penL s) (.int b)) fun q => ∃ k s', q = (.int k, penL s') ∧ 0 ≤ k ∧ k < b ∧ HOk s' (n + 1) := by
  obtain ⟨a0, an, g0⟩ := h
  have hcd : CDiv s.gr b := ⟨hb.1, by omega⟩
  unfold F_Ldraw penL
  rw [pen_at2]
  simp only [Option.bind_some, cGt_ii]
  by_cases hg : (0 : Int) < s.gr
  · rw [if_pos (decide_eq_true hg)]
    simp only [dMod_ii, dFdiv_ii, pen_set2, Option.bind_some, chk_pos hb.1, chk_pos hcd]
    exact .mk ⟨_, ⟨s.cells, s.at_, s.gr / b⟩, rfl, (fin_take hb.1).1, (fin_take hb.1).2, ⟨a0, by show s.at_ ≤ n + 1; omega, Int.ediv_nonneg g0 (by omega)⟩⟩
  rw [if_neg (by simpa using hg)]
  rw [pen_at1]
  simp only [Option.bind_some, dAdd_ii]
  rw [show lSet [D.lst (s.cells.map D.int), .int s.at_, .int s.gr] (.int 1) (.int (s.at_ + 1)) = some [D.lst (s.cells.map D.int), .int (s.at_ + 1), .int s.gr] from rfl]
  have hc1 : CMul 5533 s.at_ := cmul_small (by omega)
  simp only [Option.bind_some, dMul_ii, chk_pos hc1, dAdd_ii, pen_at0, cNe_of, nilB_ints, Option.map_some, dLen_l, List.length_map]
  refine .bind (Gives.imp (Q := fun r => ∃ q : Int, r = D.int q) ?_ fun r hr => ?_)
  · by_cases he : s.cells.isEmpty = true
    · rw [he]; exact .mk ⟨_, rfl⟩
    · have he : s.cells.isEmpty = false := by simpa using he
      have hl : (0 : Int) < (s.cells.length : Int) := by
        cases hcs : s.cells with
        | nil => rw [hcs] at he; cases he
        | cons a l => simp only [List.length_cons]; omega
      rw [he, if_pos (by rfl)]
      simp only [dMod_ii, chk_pos hl, Option.bind_some, dIx_li]
      have e1 := fin_take (m := s.at_) hl
      rw [atI_of_get (x := .int (s.cells.getD (s.at_ % (s.cells.length : Int)).toNat 0)) e1.1 (by rw [List.getElem?_map, List.getD_eq_getElem?_getD, List.getElem?_eq_getElem (by omega)]; rfl)]
      exact .mk ⟨_, rfl⟩
  obtain ⟨q, rfl⟩ := hr
  refine .bind (Gives.imp (Q := fun _ => True) ?_ fun t _ => ?_)
  · simp only [cLt_ii, Option.bind_some]
    split
    · simp only [dAbs_i, dPow_ii, Option.bind_some]
      rw [chk_pos (show CPow 10 18 from ⟨by decide, by decide, by decide⟩)]
      exact .mk trivial
    · exact .mk trivial
  cases t with
  | true =>
    rw [if_pos rfl]
    have hcd : ∀ i, CDiv i b := fun i => ⟨hb.1, by omega⟩
    simp only [dAbs_i, dMul_ii, Option.bind_some, cLt_ii, dInt_b, dAdd_ii, dFdiv_ii, dMod_ii, chk_pos (show CMul 2 (if q < 0 then -q else q) from cmul_small (by decide)), chk_pos (hcd _), chk_pos hb.1, pen_set2]
    have big : (0 : Int) ≤ 2 * (if q < 0 then -q else q) + (if decide (q < 0) = true then 1 else 0) := by
      split <;> split <;> omega
    exact .mk ⟨_, ⟨s.cells, s.at_ + 1, _⟩, rfl, (fin_take hb.1).1, (fin_take hb.1).2, ⟨by show 0 ≤ s.at_ + 1; omega, by show s.at_ + 1 ≤ n + 1; omega, Int.ediv_nonneg big (by omega)⟩⟩
  | false =>
    rw [if_neg (by decide)]
    have p1 : CPow (q % 2147483563 + 40709 * s.at_ + 29) 5 := by
      have := fin_take (m := q) (b := 2147483563) (by decide)
      exact ⟨by omega, by omega, by omega⟩
    have p3 : ∀ z : Int, CMul (z % 2147483647) (s.at_ + 50021) := fun z => by
      have := fin_take (m := z) (b := 2147483647) (by decide)
      exact cmul_small (by omega)
    simp only [dMod_ii, dMul_ii, dAdd_ii, dPow_ii, dFdiv_ii, Option.bind_some, chk_pos (show (0 : Int) < 2147483563 by decide), chk_pos (show (0 : Int) < 2147483647 by decide), chk_pos (show (0 : Int) < 2147483587 by decide), chk_pos (show CMul 40709 s.at_ from cmul_small (by omega)),
      chk_pos (show CMul 70001 s.at_ from cmul_small (by omega)), chk_pos (show CMul (70001 * s.at_) s.at_ from cmul_smallr (by omega)), chk_pos p1, chk_pos (p3 _), chk_pos (cp_mixP (x := _) (a := s.at_) (c := 70001) (b := 50021) (e := 11) ⟨a0, by omega⟩ (by decide) (by decide) (by decide)), chk_pos (show CDiv _ 32 from ⟨by decide, by decide⟩), chk_pos hb.1]
    exact .mk ⟨_, ⟨s.cells, s.at_ + 1, s.gr⟩, rfl, (fin_take hb.1).1, (fin_take hb.1).2, ⟨by show 0 ≤ s.at_ + 1; omega, by show s.at_ + 1 ≤ n + 1; omega, g0⟩⟩
theorem pen_ok (ns : List Int) : F_Lpen (.scr ns) = some (penL ⟨ns.take 63, 0, 0⟩) := rfl
theorem pen_hok (ns : List Int) : HOk ⟨ns.take 63, 0, 0⟩ 0 := ⟨Int.le_refl 0, Int.le_refl 0, Int.le_refl 0⟩
theorem atI_str {l : List Nat} {i : Int} (h : 0 ≤ i ∧ i < (l.length : Int)) : atI (S l).cps.toList i = some (l.getD i.toNat 0) := by
  rw [tl_S]
  exact atI_of_get h.1 (by rw [List.getD_eq_getElem?_getD, List.getElem?_eq_getElem (by omega)]; rfl)
theorem dIx_S {l : List Nat} {i : Int} (h : 0 ≤ i ∧ i < (l.length : Int)) (hl : l.length ≤ 1000000) : dIx (.str (S l)) (.int i) = some (.str (S [l.getD i.toNat 0])) := by
  rw [dIx_si, atI_str h, Option.bind_some, S_len, chk_pos hl]
theorem state_at_ok {l : List Nat} {p : Int} (h : 0 ≤ p ∧ p < (l.length : Int)) (hl : l.length ≤ 1000000) : F_state_at (.str (S l)) (.int p) = some (.str (S [stp l p])) := by
  unfold F_state_at
  simp only [dLen_s, S_len, chk_pos hl, Option.bind_some, dSub_ii]
  rw [dIx_S (by omega) hl, show ((l.length : Int) - 1 - p).toNat = l.length - 1 - p.toNat by omega]
  rfl
theorem S1_eq {c d : Nat} : (S [c] = S [d]) ↔ c = d := by
  constructor
  · intro h
    have := congrArg (fun z : Str => z.cps.toList) h
    simpa using this
  · rintro rfl; rfl
theorem cEq_S1 {c d : Nat} : cEq (.str (S [c])) (.str (S [d])) = some (decide (c = d)) := by
  rw [cEq_ss]; congr 1; exact decide_eq_decide.mpr S1_eq
/-- pairs of positions and letters; the letter at a position, later ones first -/
def kvsOf (pl : List (Int × Nat)) : List (Key × D) := pl.map fun q => (.inl q.1, .str (S [q.2]))
def plookF (pl : List (Int × Nat)) (p : Int) (c : Nat) : Nat := pl.foldl (fun c q => if q.1 = p then q.2 else c) c
def plook (pl : List (Int × Nat)) (p : Int) : Nat := plookF pl p 80
def tw (pl : List (Int × Nat)) (n : Nat) : List Nat := (List.range n).map fun i : Nat => plook pl ((i : Int) + 1)
theorem tw_len {pl : List (Int × Nat)} {n : Nat} : (tw pl n).length = n := by simp [tw]
theorem valD_put {kvs : List (Key × D)} {k k' : Key} {v : D} : valD (putD kvs k v) k' = if k = k' then some v else valD kvs k' := by
  have over : ∀ kvs : List (Key × D), valD (kvs.map fun kv => if kv.1 = k then (kv.1, v) else kv) k' = if k = k' then (valD kvs k').map (fun _ => v) else valD kvs k' := by
    intro kvs
    induction kvs with
    | nil => simp [valD]
    | cons q kvs ih =>
      unfold valD at ih ⊢
      rw [List.map_cons, List.find?_cons, List.find?_cons]
      by_cases h : q.1 = k
      · rw [if_pos h]
        by_cases g : q.1 = k'
        · have : k = k' := by rw [← h]; exact g
          simp [g, this]
        · have : ¬ k = k' := fun z => g (by rw [h]; exact z)
          simp only [this, if_false] at ih ⊢
          simp only [decide_eq_false g]
          exact ih
      · rw [if_neg h]
        by_cases g : q.1 = k'
        · have : ¬ k = k' := fun z => h (by rw [z]; exact g)
          simp [g, this]
        · simp only [decide_eq_false g]
          exact ih
  unfold putD
  by_cases h : (kvs.any fun kv => decide (kv.1 = k)) = true
  · rw [if_pos h, over]
    by_cases g : k = k'
    · rw [if_pos g, if_pos g]
      rw [List.any_eq_true] at h
      obtain ⟨q, hq, hk⟩ := h
      have hk : q.1 = k := of_decide_eq_true hk
      cases e : valD kvs k' with
      | some z => rfl
      | none =>
        unfold valD at e
        rw [Option.map_eq_none_iff, List.find?_eq_none] at e
        exact absurd (e q hq) (by simp [hk, g])
    · rw [if_neg g, if_neg g]
  · rw [if_neg h]
    unfold valD
    rw [List.find?_append]
    by_cases g : k = k'
    · rw [if_pos g]
      have : List.find? (fun kv => decide (kv.1 = k')) kvs = none := by
        rw [List.find?_eq_none]
        intro q hq hk
        exact h (List.any_eq_true.mpr ⟨q, hq, by rw [g]; exact hk⟩)
      rw [this]
      simp [g]
    · rw [if_neg g]
      have : List.find? (fun kv => decide (kv.1 = k')) [(k, v)] = none := by simp [g]
      rw [this, Option.or_none]
theorem get_merge {p : Int} : ∀ (pl : List (Int × Nat)) (kvs : List (Key × D)) (c : Nat), (valD kvs (.inl p)).getD (.str (S [80])) = .str (S [c]) → (valD (mergeD kvs (kvsOf pl)) (.inl p)).getD (.str (S [80])) = .str (S [plookF pl p c])
  | [], _, _, h => h
  | q :: pl, kvs, c, h => by
    have := get_merge pl (putD kvs (.inl q.1) (.str (S [q.2]))) (if q.1 = p then q.2 else c) (by
      rw [valD_put]
      by_cases e : q.1 = p
      · rw [if_pos (by rw [e]), if_pos e]; rfl
      · rw [if_neg (fun z => e (Sum.inl.inj z)), if_neg e]; exact h)
    exact this
theorem get_plook (pl : List (Int × Nat)) (p : Int) : (valD (mergeD [] (kvsOf pl)) (.inl p)).getD (.str (S [80])) = .str (S [plook pl p]) := get_merge pl [] 80 rfl
theorem map_rev {n : Nat} {f : Int → Nat} {m : Int} (h : m = (n : Int)) : (List.range n).map (fun i : Nat => f (m + (i : Int) * (-1))) = ((List.range n).map fun i : Nat => f ((i : Int) + 1)).reverse := by
  apply List.ext_getElem
  · simp
  · intro i h1 h2
    rw [List.getElem_map, List.getElem_reverse, List.getElem_map, List.getElem_range, List.getElem_range]
    simp only [List.length_map, List.length_range] at h1 h2 ⊢
    congr 1
    omega
theorem kvs_back (pl : List (Int × Nat)) : kvsD (prsD (kvsOf pl)) = some (kvsOf pl) := by
  induction pl with
  | nil => rfl
  | cons q pl ih =>
    show kvsD (.tup [.int q.1, .str (S [q.2])] :: prsD (kvsOf pl)) = _
    rw [kvsD, ih]; rfl
theorem dJoin_sgl {L : List Nat} (h : L.length ≤ 1000000) : dJoinS "" (.lst (sgl L)) = some (.str (S L)) := by
  unfold dJoinS
  rw [items_l, Option.bind_some, chk_pos ⟨sgl_all L, by rw [sgl_size]; have : ("" : Str).length = 0 := rfl; rw [this]; omega⟩, join_sgl]
theorem S_cat {a b : List Nat} : S a ++ S b = S (a ++ b) := by
  show Str.mk _ = Str.mk _
  congr 1
  simp
/-- the positions from n down to 1, then position 0 -/
def twS (pl : List (Int × Nat)) (n : Int) (c0 : Nat) : List Nat := (c0 :: tw pl n.toNat).reverse
theorem trial_with_ok {n : Int} {c0 : Nat} {pl : List (Int × Nat)} (hn : 0 ≤ n ∧ n ≤ 1000) : F_trial_with (.int n) (.str (S [c0])) (prsD (kvsOf pl)) = some (.str (S (twS pl n c0))) := by
  unfold F_trial_with
  rw [kvs_back]
  simp only [Option.bind_some, strD_s, dRange_3]
  rw [chk_pos (by omega), Option.bind_some, chk_pos (by rw [rngC_len]; omega), Option.bind_some]
  unfold rngC
  rw [mapO_of (g := fun i : Nat => D.str (S [plook pl (n + (i : Int) * (-1))])) fun i hi => ?_]
  · rw [Option.bind_some, show (List.range (n - 0).toNat).map (fun i : Nat => D.str (S [plook pl (n + (i : Int) * (-1))])) = sgl (tw pl n.toNat).reverse from ?_, dJoin_sgl (by rw [List.length_reverse, tw_len]; omega), Option.bind_some, dAdd_ss, S_len, S_len, chk_pos (by rw [List.length_reverse, tw_len, List.length_singleton]; omega)]
    · rw [Option.bind_some]
      unfold twS
      rw [List.reverse_cons, S_cat]
    · unfold sgl tw
      rw [show (n - 0).toNat = n.toNat by omega, ← map_rev (n := n.toNat) (f := plook pl) (m := n) (by omega), List.map_map]
      rfl
  · simp only [dctD_d, keyD_i, Option.bind_some]
    rw [lit_P, get_plook]
theorem twS_len {pl : List (Int × Nat)} {n : Int} {c0 : Nat} (hn : 0 ≤ n) : ((twS pl n c0).length : Int) = n + 1 := by
  unfold twS
  rw [List.length_reverse, List.length_cons, tw_len]; omega
theorem tw1 {a : Int} {c : Nat} : [D.tup [.int a, .str (S [c])]] = prsD (kvsOf [(a, c)]) := rfl
theorem tw2 {a b : Int} {c d : Nat} : [D.tup [.int a, .str (S [c])], D.tup [.int b, .str (S [d])]] = prsD (kvsOf [(a, c), (b, d)]) := rfl
def zeroC (r : Bool) : Nat := if r = true then 80 else 75
def txD (T : List (List Nat)) : List D := T.map fun t => D.str (S t)
theorem rep_b {b : Bool} {d : D} : (List.replicate (if b = true then (1 : Int) else 0).toNat [d]).flatten = if b = true then [d] else [] := by cases b <;> rfl
theorem rep_sgl : ∀ n : Nat, (List.replicate n [D.str "P"]).flatten = sgl (List.replicate n 80)
  | 0 => rfl
  | n + 1 => by rw [List.replicate_succ, List.flatten_cons, rep_sgl n, List.replicate_succ, lit_P]; rfl
theorem set_sgl {L : List Nat} {i c : Nat} : (sgl L).set i (.str (S [c])) = sgl (L.set i c) := by unfold sgl; rw [List.map_set]
theorem tw_snoc {pl : List (Int × Nat)} {q : Int × Nat} {n : Nat} (hq : 1 ≤ q.1 ∧ q.1 ≤ n) : tw (pl ++ [q]) n = (tw pl n).set (q.1 - 1).toNat q.2 := by
  apply List.ext_getElem?
  intro i
  rw [List.getElem?_set]
  unfold tw
  by_cases hi : i < n
  · rw [List.getElem?_map, List.getElem?_map, List.getElem?_range hi]
    simp only [Option.map_some, List.length_map, List.length_range]
    unfold plook plookF
    rw [List.foldl_append]
    by_cases e : (q.1 - 1).toNat = i
    · rw [if_pos e, if_pos (by omega)]
      simp [show q.1 = (i : Int) + 1 by omega]
    · rw [if_neg e]
      simp [show ¬ q.1 = (i : Int) + 1 by omega]
  · rw [List.getElem?_eq_none (by simp; omega)]
    split
    · rw [if_neg (by simp; omega)]
    · rw [List.getElem?_eq_none (by simp; omega)]
theorem twS_snoc {pl : List (Int × Nat)} {q : Int × Nat} {n : Int} {c0 : Nat} (hq : 1 ≤ q.1 ∧ q.1 ≤ n) : (twS pl n c0).set (n - q.1).toNat q.2 = twS (pl ++ [q]) n c0 := by
  unfold twS
  rw [tw_snoc (by omega)]
  apply List.ext_getElem?
  intro i
  rw [List.getElem?_set]
  have hl : (tw pl n.toNat).length = n.toNat := tw_len
  by_cases hi : i < n.toNat + 1
  · rw [List.getElem?_reverse (by simp [hl]; omega), List.getElem?_reverse (by simp [hl]; omega)]
    simp only [List.length_cons, List.length_set, hl, List.length_reverse]
    by_cases e : (n - q.1).toNat = i
    · rw [if_pos e, if_pos (by omega)]
      rw [show n.toNat + 1 - 1 - i = (q.1 - 1).toNat + 1 by omega, List.getElem?_cons_succ, List.getElem?_set_self (by omega)]
    · rw [if_neg e]
      by_cases h0 : n.toNat + 1 - 1 - i = 0
      · rw [h0]; rfl
      · obtain ⟨j, hj⟩ := Nat.exists_eq_succ_of_ne_zero h0
        rw [hj, List.getElem?_cons_succ, List.getElem?_cons_succ, List.getElem?_set_ne (by omega)]
  · rw [List.getElem?_eq_none (by simp [hl]; omega), List.getElem?_eq_none (by simp [hl]; omega)]
    split
    · rw [if_neg (by simp [hl]; omega)]
    · rfl
theorem twS_nil {n : Int} {c0 : Nat} : twS [] n c0 = List.replicate n.toNat 80 ++ [c0] := by
  unfold twS tw
  rw [show (List.range n.toNat).map (fun i : Nat => plook [] ((i : Int) + 1)) = List.replicate n.toNat 80 from ?_]
  · rw [List.reverse_cons, List.reverse_replicate]
  · apply List.ext_getElem
    · simp
    · intro i h1 h2; simp [plook, plookF]
theorem put_go {n : Int} {c0 : Nat} : ∀ (pl pre : List (Int × Nat)), (∀ q ∈ pl, 1 ≤ q.1 ∧ q.1 ≤ n) → foldO (fun (s5 : List D) x7 => (un2 x7).bind fun p10 => (dSub (.int n) p10.1).bind fun v11 => (lSet s5 v11 p10.2).bind fun l12 => some l12) (sgl (twS pre n c0)) (prsD (kvsOf pl)) = some (sgl (twS (pre ++ pl) n c0))
  | [], pre, _ => by rw [List.append_nil]; rfl
  | q :: pl, pre, h => by
    have hq := h q List.mem_cons_self
    show foldO _ (sgl (twS pre n c0)) (.tup [.int q.1, .str (S [q.2])] :: prsD (kvsOf pl)) = _
    have hl : ((twS pre n c0).length : Int) = n + 1 := twS_len (by omega)
    rw [foldO_cons]
    simp only [un2_t, Option.bind_some, dSub_ii, lSet_i]
    rw [ixN_of (by omega) (by rw [sgl_len]; omega)]
    simp only [Option.map_some, Option.bind_some]
    rw [set_sgl, twS_snoc hq, put_go pl (pre ++ [q]) (fun x hx => h x (List.mem_cons_of_mem _ hx)), List.append_assoc]; rfl
theorem put_ok {n : Int} {c0 : Nat} {pl : List (Int × Nat)} (hn : 1 ≤ n ∧ n ≤ 1000) (h : ∀ q ∈ pl, 1 ≤ q.1 ∧ q.1 ≤ n) : F_Lput (.int n) (.lst (prsD (kvsOf pl))) (.str (S [c0])) = some (.str (S (twS pl n c0))) := by
  unfold F_Lput
  rw [dMul_li, chk_pos ⟨by omega, by simp; omega⟩, rep_sgl]
  simp only [Option.bind_some, lAdd_ll]
  rw [chk_pos (by rw [sgl_len, List.length_replicate]; simp; omega)]
  rw [show sgl (List.replicate n.toNat 80) ++ [D.str (S [c0])] = sgl (twS [] n c0) from by rw [twS_nil, ← sgl_app]; rfl]
  simp only [Option.bind_some, dIter_l]
  rw [put_go pl [] h, List.nil_append]
  simp only [Option.bind_some, strD_s]
  rw [dJoin_sgl (by have := twS_len (pl := pl) (c0 := c0) (n := n) (by omega); omega)]; rfl
/-- the standard trials -/
def stdT (n : Int) (r st : Bool) : List (List Nat) :=
  (if r = true then (upto 1 (n + 1)).map (fun p => twS [(p, 71)] n 80) ++ (upto 1 (n + 1)).map (fun p => twS [(p, 71), (if p > 1 then p - 1 else n, 75)] n 80)
   else [twS [] n 71, twS [(1, 71)] n 75] ++ (upto 2 (n + 1)).map (fun p => twS [(p, 71), (p - 1, 75)] n 71) ++ [twS [(n, 75)] n 71])
  ++ (if st = true then [twS [] n (zeroC r)] else [])
theorem txD_app {a b : List (List Nat)} : txD (a ++ b) = txD a ++ txD b := List.map_append
theorem upto_map {a b : Int} : rngD a (b - a).toNat = (upto a b).map D.int := rngD_upto
theorem std_ok {n : Int} {r st : Bool} (hn : 1 ≤ n ∧ n ≤ 900) : F_Lstandard (.int n) (.bl r) (.bl st) = some (.lst (txD (stdT n r st))) := by
  have fin : ∀ L : List (List Nat), L.length ≤ 10000 → (((dTru (.bl r)).bind fun t45 => if t45 = true then some (D.str "P") else some (D.str "K")).bind fun v47 => (F_Lput (.int n) (D.lst []) v47).bind fun v48 => (dInt (.bl st)).bind fun v49 => (dMul (D.lst [v48]) v49).bind fun v50 => (dAdd (.lst (txD L)) v50).bind fun v51 => some v51) = some (.lst (txD (L ++ (if st = true then [twS [] n (zeroC r)] else [])))) := by
    intro L hL
    rw [dTru_b, Option.bind_some, show (if r = true then some (D.str "P") else some (D.str "K")) = some (.str (S [zeroC r])) from (by cases r <;> rfl), Option.bind_some, show D.lst [] = D.lst (prsD (kvsOf [])) from rfl, put_ok (by omega) (fun q hq => absurd hq List.not_mem_nil), Option.bind_some]
    simp only [dInt_b, Option.bind_some, dMul_li]
    rw [chk_pos ⟨by cases st <;> decide, by cases st <;> simp⟩, Option.bind_some, rep_b, dAdd_ll, chk_pos (by unfold txD; rw [List.length_map]; cases st <;> simp <;> omega), Option.bind_some, txD_app]
    cases st <;> rfl
  unfold F_Lstandard stdT
  cases r with
  | true =>
    rw [dTru_b, Option.bind_some, if_pos rfl]
    simp only [dAdd_ii, Option.bind_some, dRange_2]
    rw [chk_pos (by omega), Option.bind_some, upto_map]
    rw [foldO_app (g := fun p => D.str (S (twS [(p, 71)] n 80))) (fun p hp acc ha => ?_) (by rw [upto_len]; simp; omega)]
    · rw [Option.bind_some, Option.bind_some, foldO_app (g := fun p => D.str (S (twS [(p, 71), (if p > 1 then p - 1 else n, 75)] n 80))) (fun p hp acc ha => ?_) (by simp; rw [upto_len]; omega)]
      · have e : [] ++ (upto 1 (n + 1)).map (fun p => D.str (S (twS [(p, 71)] n 80))) ++ (upto 1 (n + 1)).map (fun p => D.str (S (twS [(p, 71), (if p > 1 then p - 1 else n, 75)] n 80))) = txD ((upto 1 (n + 1)).map (fun p => twS [(p, 71)] n 80) ++ (upto 1 (n + 1)).map (fun p => twS [(p, 71), (if p > 1 then p - 1 else n, 75)] n 80)) := by
          unfold txD; rw [List.map_append, List.map_map, List.map_map]; rfl
        rw [Option.bind_some, e, Option.bind_some]
        exact fin _ (by rw [List.length_append, List.length_map, List.length_map, upto_len]; omega)
      · have := upto_mem hp
        simp only [cGt_ii, Option.bind_some, dSub_ii]
        have e : (if decide ((1 : Int) < p) = true then some (D.int (p - 1)) else some (.int n)) = some (.int (if p > 1 then p - 1 else n)) := by
          by_cases z : 1 < p
          · rw [if_pos (decide_eq_true z), if_pos z]
          · rw [if_neg (by simpa using z), if_neg z]
        rw [e, Option.bind_some, lit_G, lit_K, lit_P, tw2, put_ok (by omega) ?_, Option.bind_some, chk_pos ha]; rfl
        intro q hq
        simp only [List.mem_cons, List.not_mem_nil, or_false] at hq
        rcases hq with rfl | rfl
        · exact ⟨this.1, by omega⟩
        · show 1 ≤ (if p > 1 then p - 1 else n) ∧ (if p > 1 then p - 1 else n) ≤ n
          split <;> omega
    · have := upto_mem hp
      rw [lit_G, lit_P, tw1, put_ok (by omega) ?_, Option.bind_some, chk_pos ha]; rfl
      intro q hq
      rw [List.mem_singleton] at hq
      subst hq
      exact ⟨this.1, by omega⟩
  | false =>
    rw [dTru_b, Option.bind_some, if_neg (by decide)]
    rw [show D.lst [] = D.lst (prsD (kvsOf [])) from rfl, lit_G, lit_K, put_ok (by omega) (fun q hq => absurd hq List.not_mem_nil), Option.bind_some, tw1, put_ok (by omega) (fun q hq => by rw [List.mem_singleton] at hq; subst hq; exact ⟨by omega, by omega⟩), Option.bind_some]
    simp only [dAdd_ii, Option.bind_some, dRange_2]
    rw [chk_pos (by omega), Option.bind_some, upto_map]
    rw [foldO_app (g := fun p => D.str (S (twS [(p, 71), (p - 1, 75)] n 71))) (fun p hp acc ha => ?_) (by rw [upto_len]; simp; omega)]
    · rw [Option.bind_some, tw1, put_ok (by omega) (fun q hq => by rw [List.mem_singleton] at hq; subst hq; exact ⟨by omega, by omega⟩), Option.bind_some, chk_pos (by simp; rw [upto_len]; omega), Option.bind_some]
      have e : [D.str (S (twS [] n 71)), .str (S (twS [(1, 71)] n 75))] ++ (upto 2 (n + 1)).map (fun p => D.str (S (twS [(p, 71), (p - 1, 75)] n 71))) ++ [.str (S (twS [(n, 75)] n 71))] = txD ([twS [] n 71, twS [(1, 71)] n 75] ++ (upto 2 (n + 1)).map (fun p => twS [(p, 71), (p - 1, 75)] n 71) ++ [twS [(n, 75)] n 71]) := by
        unfold txD; rw [List.map_append, List.map_append, List.map_map]; rfl
      rw [e, Option.bind_some]
      have := fin ([twS [] n 71, twS [(1, 71)] n 75] ++ (upto 2 (n + 1)).map (fun p => twS [(p, 71), (p - 1, 75)] n 71) ++ [twS [(n, 75)] n 71]) (by simp; rw [upto_len]; omega)
      rw [lit_P, lit_K] at this
      exact this
    · have := upto_mem hp
      simp only [dSub_ii, Option.bind_some]
      rw [tw2, put_ok (by omega) ?_, Option.bind_some, chk_pos ha]; rfl
      intro q hq
      simp only [List.mem_cons, List.not_mem_nil, or_false] at hq
      rcases hq with rfl | rfl
      · exact ⟨by omega, by omega⟩
      · exact ⟨by show 1 ≤ p - 1; omega, by show p - 1 ≤ n; omega⟩
theorem goods_map {α : Type} {f : α → D} : ∀ {l : List α}, (∀ a ∈ l, good (f a)) → goods (l.map f)
  | [], _ => trivial
  | a :: l, h => ⟨h a List.mem_cons_self, goods_map fun b hb => h b (List.mem_cons_of_mem _ hb)⟩
theorem deps_map {α : Type} {f : α → D} {k : Nat} : ∀ {l : List α}, (∀ a ∈ l, dep (f a) ≤ k) → deps (l.map f) ≤ k
  | [], _ => Nat.zero_le _
  | a :: l, h => by
    rw [List.map_cons, deps]
    exact Nat.max_le.mpr ⟨h a List.mem_cons_self, deps_map fun b hb => h b (List.mem_cons_of_mem _ hb)⟩
theorem cEq_good {a b : D} (hs : sc a b = false) (hn : nilB a b = false) (ha : good a) (hb : good b) (da : dep a ≤ 50) (db : dep b ≤ 50) : cEq a b = some (eqD a b) := by
  unfold cEq
  rw [hs, hn]
  simp only [Bool.false_eq_true, if_false]
  rw [chk_pos ⟨ha, hb, da, db⟩]
theorem eqD_nil {ds : List D} : eqD (.lst ds) (.lst []) = ds.isEmpty := by
  cases ds with
  | nil => simp [eqD, pyd, pyds, PyData.eqv, PyData.eqvAll]
  | cons d ds => simp [eqD, pyd, pyds, PyData.eqv, PyData.eqvAll]
/-- a loop that is never left -/
theorem gives_loop {S R : Type} {f : S → D → Option (Ctl S R)} {xs : List D} {s : S} (I : Nat → S → Prop) (h0 : I 0 s) (h : ∀ i x s, xs[i]? = some x → I i s → Gives (f s x) fun c => ∃ s', c = .go s' ∧ I (i + 1) s') : Gives (loopC f s xs) fun c => ∃ s', c = .go s' ∧ I xs.length s' := by
  induction xs generalizing s I with
  | nil => exact ⟨.go s, rfl, s, rfl, h0⟩
  | cons x xs ih =>
    rw [loopC]
    refine .bind ((h 0 x s rfl h0).imp fun c hc => ?_)
    obtain ⟨s', rfl, h1⟩ := hc
    exact ih (fun i => I (i + 1)) h1 fun i y s2 hy => h (i + 1) y s2 (by simpa using hy)
theorem reprR_good {d : D} (h : good d) (hw : wt d ≤ 16000000) (hd : dep d ≤ 50) : dReprR d = some (.str (txtR d)) := by
  have e := (good_R h).1
  refine chk_pos ⟨(good_R h).2, by rw [e]; exact good_show h, ?_, ?_⟩
  · rw [e]; have := dep_py h; omega
  · rw [e]; have := wt_py h; omega
/-- a list against the empty one, whatever stands in it -/
theorem cEq_nilq {ds : List D} : cEq (.lst ds) (.lst []) = some ds.isEmpty := by
  have hs : sc (.lst ds) (.lst []) = false := rfl
  unfold cEq
  rw [hs]
  simp only [Bool.false_eq_true, if_false]
  split
  · rfl
  · split
    · rename_i t e
      obtain ⟨_, e⟩ := chk_inv e
      rw [← e, eqD_nil]
    · rename_i h
      cases ds with
      | nil => exact absurd rfl (by assumption : ¬ nilB (.lst []) (.lst []) = true)
      | cons d ds => rfl
theorem cEq_strs {xs : List Str} : cEq (.lst (xs.map D.str)) (.lst (xs.map D.str)) = some true := by
  cases xs with
  | nil => rfl
  | cons x xs =>
    have hs : sc (.lst ((x :: xs).map D.str)) (.lst ((x :: xs).map D.str)) = false := rfl
    have hn : nilB (.lst ((x :: xs).map D.str)) (.lst ((x :: xs).map D.str)) = false := rfl
    unfold cEq
    rw [hs, hn]
    simp only [Bool.false_eq_true, if_false]
    split
    · rename_i t e
      obtain ⟨g, e⟩ := chk_inv e
      rw [← e, eqD_refl g.1]
    · rw [strsL_map]
      simp [lenB]
theorem worth_ok {n : Int} (h : 0 ≤ n ∧ n ≤ 100) : F_worth_of (.int n) = some (.int (2 ^ n.toNat)) := by
  unfold F_worth_of
  rw [dShl_ii, chk_pos (show CPow 1 n from ⟨by omega, by omega, by decide⟩), Option.bind_some, Int.one_mul]
def refused (Z : Str → Addr) (a b c : Bool) (x y z : D) : Option D := if a = true then if b = true then if c = true then none else some z else some y else some x
/-- the error with the refused value, or what is answered -/
def erN (Z : Str → Addr) (o : Option D) (v : D) : Except Er D := match o with
  | some u => .error (Z "InvalidNumber", [("value", u)])
  | none => .ok v
theorem fold_ix {S : Type} {f : S → D → Option S} (g : Nat → S) : ∀ {xs : List D} {k : Nat}, (∀ i x, xs[i]? = some x → f (g (k + i)) x = some (g (k + i + 1))) → foldO f (g k) xs = some (g (k + xs.length))
  | [], k, _ => rfl
  | x :: xs, k, h => by
    have h0 := h 0 x rfl
    rw [Nat.add_zero] at h0
    rw [foldO_cons, h0, Option.bind_some, fold_ix g (k := k + 1) fun i y hy => by
      have := h (i + 1) y (by simpa using hy)
      rwa [show k + 1 + i = k + (i + 1) by omega], List.length_cons, show k + 1 + xs.length = k + (xs.length + 1) by omega]
theorem fold_ix0 {S : Type} {f : S → D → Option S} {xs : List D} {s : S} (g : Nat → S) (h0 : s = g 0) (h : ∀ i x, xs[i]? = some x → f (g i) x = some (g (i + 1))) : foldO f s xs = some (g xs.length) := by
  have := fold_ix (f := f) (xs := xs) (k := 0) g fun i x hx => by rw [Nat.zero_add]; exact h i x hx
  rw [Nat.zero_add] at this
  rw [h0]
  exact this
theorem stp_revS {L : List Nat} {p : Int} (h : 0 ≤ p ∧ p < (L.length : Int)) : stp L.reverse p = L.getD p.toNat 0 := by
  unfold stp
  rw [List.length_reverse, List.getD_eq_getElem?_getD, List.getD_eq_getElem?_getD, List.getElem?_reverse (by omega)]
  congr 2
  omega
theorem band_1 {i : Int} : Builtin.bitAnd i 1 = i % 2 := by
  have h := PySem.W.kbt_mask i 1
  simpa using h
def bt (a : Int) (i : Nat) : Int := a / 2 ^ i % 2
theorem pow2 {i : Nat} : (0 : Int) < 2 ^ i := by
  have : 0 < 2 ^ i := Nat.pow_pos (by decide : 0 < 2)
  have e : ((2 : Int) ^ i) = ((2 ^ i : Nat) : Int) := by simp
  omega
def sumv (f : Nat → Int) : Nat → Int
  | 0 => 0
  | k + 1 => sumv f k + 2 ^ k * f k
theorem sumv_b {f : Nat → Int} (h : ∀ k, f k = 0 ∨ f k = 1) : ∀ n : Nat, 0 ≤ sumv f n ∧ sumv f n < 2 ^ n
  | 0 => ⟨Int.le_refl _, by show (0 : Int) < 2 ^ 0; decide⟩
  | n + 1 => by
    have := sumv_b h n
    have p := pow2 (i := n)
    rw [sumv, Int.pow_succ]
    rcases h n with e | e <;> rw [e] <;> omega
def bitS (c : Nat) : Int := if c = 71 then 1 else 0
theorem carryof_bit {c : Nat} : F_carry_of (.str (S [c])) = some (.int (bitS c)) := by
  unfold F_carry_of
  rw [lit_G, cEq_S1, Option.bind_some, dInt_b, Option.bind_some]
  unfold bitS
  simp
theorem stp_low {L : List Nat} {c : Nat} : stp (c :: L).reverse 0 = c := by rw [stp_revS (by simp)]; rfl
theorem stp_up {L : List Nat} {c i : Nat} (h : i < L.length) : stp (c :: L).reverse ((i : Int) + 1) = L.getD i 0 := by
  rw [stp_revS (by simp; omega), show ((i : Int) + 1).toNat = i + 1 by omega]
  rfl
theorem sumv_acc {f : Nat → Int} : ∀ n : Nat, sumv f n = DX.acc f n
  | 0 => rfl
  | n + 1 => by rw [sumv, DX.acc, sumv_acc n]
theorem bt_sumv {f : Nat → Int} (h : ∀ k, f k = 0 ∨ f k = 1) {n k : Nat} (hk : k < n) : bt (sumv f n) k = f k := by
  unfold bt
  rw [sumv_acc]
  exact DX.acc_bit (fun i => by have := h i; omega) n k hk
/-- the first number has a 1 where the state is not K, the second where it is G -/
def nA (L : List Nat) (k : Nat) : Int := if L.getD k 0 = 75 then 0 else 1
def nB (L : List Nat) (k : Nat) : Int := if L.getD k 0 = 71 then 1 else 0
theorem nA01 {L : List Nat} (k : Nat) : nA L k = 0 ∨ nA L k = 1 := by unfold nA; split <;> simp
theorem nB01 {L : List Nat} (k : Nat) : nB L k = 0 ∨ nB L k = 1 := by unfold nB; split <;> simp
theorem rngD_at {a : Int} {m i : Nat} {x : D} (h : (rngD a m)[i]? = some x) : i < m ∧ x = .int (a + (i : Int)) := by
  have hi := (List.getElem?_eq_some_iff.mp h).1
  rw [rngD_len] at hi
  refine ⟨hi, ?_⟩
  unfold rngD at h
  rw [List.getElem?_map, List.getElem?_range hi] at h
  cases h; rfl
theorem numbersof_ok {L : List Nat} {c0 : Nat} (hL : L.length ≤ 24) : F_numbers_of (.str (S (c0 :: L).reverse)) = some (.tup [.int (sumv (nA L) L.length), .int (sumv (nB L) L.length), .int (bitS c0)]) := by
  have hlen : (c0 :: L).reverse.length = L.length + 1 := by rw [List.length_reverse, List.length_cons]
  unfold F_numbers_of
  rw [dLen_s, S_len, chk_pos (by omega), Option.bind_some, dSub_ii, Option.bind_some, dAdd_ii, Option.bind_some, Option.bind_some]
  dsimp only
  rw [dRange_2, chk_pos (by omega), Option.bind_some, show (((c0 :: L).reverse.length : Nat) : Int) - 1 + 1 - 1 = (L.length : Int) by omega, Int.toNat_natCast]
  rw [fold_ix0 (s := (D.int 0, D.int 0)) (fun k => (D.int (sumv (nA L) k), D.int (sumv (nB L) k))) rfl fun i x hx => ?_]
  · rw [Option.bind_some, rngD_len, state_at_ok (by omega) (by omega), Option.bind_some, stp_low, carryof_bit, Option.bind_some]
  · have hx2 := rngD_at hx
    obtain ⟨hi, rfl⟩ := hx2
    have es : stp (c0 :: L).reverse (1 + (i : Int)) = L.getD i 0 := by rw [Int.add_comm]; exact stp_up hi
    have ew : F_worth_of (.int (1 + (i : Int) - 1)) = some (.int (2 ^ i)) := by
      rw [show 1 + (i : Int) - 1 = (i : Int) by omega, worth_ok (by omega), Int.toNat_natCast]
    dsimp only
    rw [state_at_ok (by omega) (by omega), Option.bind_some, es, lit_K, lit_G]
    simp only [cNe_of, cEq_S1, Option.map_some, Option.bind_some, dSub_ii, ew, iOp_ii]
    show _ = some (D.int (sumv (nA L) i + 2 ^ i * nA L i), D.int (sumv (nB L) i + 2 ^ i * nB L i))
    have hA : nA L i = if L.getD i 0 = 75 then 0 else 1 := rfl
    have hB : nB L i = if L.getD i 0 = 71 then 1 else 0 := rfl
    by_cases q1 : L.getD i 0 = 75
    · rw [decide_eq_true q1, if_neg (by decide), Option.bind_some, hA, if_pos q1, decide_eq_false (by rw [q1]; decide), if_neg (by decide), Option.bind_some, hB, if_neg (by rw [q1]; decide)]
      simp
    · rw [decide_eq_false q1, if_pos (by decide), Option.bind_some, hA, if_neg q1]
      by_cases q2 : L.getD i 0 = 71
      · rw [decide_eq_true q2, if_pos (by decide), Option.bind_some, hB, if_pos q2]
        simp
      · rw [decide_eq_false q2, if_neg (by decide), Option.bind_some, hB, if_neg q2]
        simp
theorem foldO_appU {f : List D → D → Option (List D)} {l : List Int} {g : Int → D} {acc : List D} (h : ∀ a ∈ l, ∀ acc : List D, acc.length < 1000000 → f acc (.int a) = some (acc ++ [g a])) (hz : acc.length + l.length ≤ 1000000) : foldO f acc (l.map D.int) = some (acc ++ l.map g) := foldO_app (e := D.int) h hz
theorem txD_map {α : Type} {l : List α} {f : α → List Nat} : txD (l.map f) = l.map fun a => D.str (S (f a)) := by unfold txD; rw [List.map_map]; rfl
theorem txD_len {T : List (List Nat)} : (txD T).length = T.length := by unfold txD; rw [List.length_map]
theorem tr0 {n : Int} {c0 : Nat} (hn : 0 ≤ n ∧ n ≤ 1000) : F_trial_with (.int n) (.str (S [c0])) [] = some (.str (S (twS [] n c0))) := trial_with_ok (pl := []) hn
theorem tr1 {n a : Int} {c0 c : Nat} (hn : 0 ≤ n ∧ n ≤ 1000) : F_trial_with (.int n) (.str (S [c0])) [D.tup [.int a, .str (S [c])]] = some (.str (S (twS [(a, c)] n c0))) := trial_with_ok (pl := [(a, c)]) hn
theorem tr2 {n a b : Int} {c0 c d : Nat} (hn : 0 ≤ n ∧ n ≤ 1000) : F_trial_with (.int n) (.str (S [c0])) [D.tup [.int a, .str (S [c])], D.tup [.int b, .str (S [d])]] = some (.str (S (twS [(a, c), (b, d)] n c0))) := trial_with_ok (pl := [(a, c), (b, d)]) hn
theorem adder_trials_ok {n : Int} (hn : 1 ≤ n ∧ n ≤ 900) : F_adder_trials (.int n) = some (.lst (txD (stdT n false false))) := by
  unfold F_adder_trials stdT
  rw [lit_G, lit_K, tr0 (by omega), Option.bind_some, tr1 (by omega), Option.bind_some]
  simp only [dAdd_ii, Option.bind_some, dRange_2]
  rw [chk_pos (by omega), Option.bind_some, upto_map]
  rw [foldO_appU (g := fun p => D.str (S (twS [(p, 71), (p - 1, 75)] n 71))) (fun p hp acc ha => ?_) (by rw [upto_len]; simp; omega)]
  · rw [Option.bind_some, List.nil_append, dAdd_ll, chk_pos (by simp; rw [upto_len]; omega), Option.bind_some, tr1 (by omega), Option.bind_some, dAdd_ll, chk_pos (by simp; rw [upto_len]; omega), Option.bind_some]
    have e : [D.str (S (twS [] n 71)), .str (S (twS [(1, 71)] n 75))] ++ (upto 2 (n + 1)).map (fun p => D.str (S (twS [(p, 71), (p - 1, 75)] n 71))) ++ [.str (S (twS [(n, 75)] n 71))] = txD ([twS [] n 71, twS [(1, 71)] n 75] ++ (upto 2 (n + 1)).map (fun p => twS [(p, 71), (p - 1, 75)] n 71) ++ [twS [(n, 75)] n 71]) := by
      unfold txD; rw [List.map_append, List.map_append, List.map_map]; rfl
    rw [e]
    simp
  · have := upto_mem hp
    simp only [dSub_ii, Option.bind_some]
    rw [tr2 (by omega), Option.bind_some, chk_pos ha]; rfl
theorem ring_trials_ok {n : Int} (hn : 1 ≤ n ∧ n ≤ 900) : F_ring_trials (.int n) = some (.lst (txD (stdT n true false))) := by
  unfold F_ring_trials stdT
  simp only [dAdd_ii, Option.bind_some, dRange_2]
  rw [chk_pos (by omega), Option.bind_some, upto_map, chk_pos (by rw [List.length_map, upto_len]; omega), Option.bind_some]
  rw [mapO_of (g := fun p : Int => D.str (S (twS [(p, 71)] n 80))) fun p hp => by rw [lit_P, lit_G, tr1 (by omega), Option.bind_some], Option.bind_some, Option.bind_some, chk_pos (by rw [List.length_map, upto_len]; omega), Option.bind_some]
  rw [mapO_of (g := fun p : Int => D.tup [.int p, .int (if p > 1 then p - 1 else n)]) fun p hp => ?_, Option.bind_some, dIter_l, Option.bind_some, chk_pos (by rw [List.length_map, upto_len]; omega), Option.bind_some]
  · rw [mapO_of (g := fun p : Int => D.str (S (twS [(p, 71), (if p > 1 then p - 1 else n, 75)] n 80))) fun p hp => by
      simp only [un2_t, Option.bind_some]
      rw [lit_P, lit_G, lit_K, tr2 (by omega), Option.bind_some], Option.bind_some, dAdd_ll, chk_pos (by simp; rw [upto_len]; omega), Option.bind_some]
    have e : (upto 1 (n + 1)).map (fun p => D.str (S (twS [(p, 71)] n 80))) ++ (upto 1 (n + 1)).map (fun p => D.str (S (twS [(p, 71), (if p > 1 then p - 1 else n, 75)] n 80))) = txD ((upto 1 (n + 1)).map (fun p => twS [(p, 71)] n 80) ++ (upto 1 (n + 1)).map (fun p => twS [(p, 71), (if p > 1 then p - 1 else n, 75)] n 80)) := by
      unfold txD; rw [List.map_append, List.map_map, List.map_map]; rfl
    rw [e]
    simp
  · have := upto_mem hp
    simp only [dSub_ii, Option.bind_some]
    by_cases z : p > 1
    · rw [show dTru (D.int (p - 1)) = some true from by simp [dTru]; omega, Option.bind_some, if_pos rfl, if_pos z]; rfl
    · rw [show dTru (D.int (p - 1)) = some false from by simp [dTru]; omega, Option.bind_some, if_neg (by decide), if_neg z]; rfl
theorem stdT_len {n : Int} {r st : Bool} (hn : 1 ≤ n) : ((stdT n r st).length : Int) = (if r = true then 2 * n else n + 2) + (if st = true then 1 else 0) := by
  unfold stdT
  cases r <;> cases st <;> simp [upto_len] <;> omega
theorem stdT_st {n : Int} {r st : Bool} : stdT n r st = stdT n r false ++ (if st = true then [twS [] n (zeroC r)] else []) := by
  unfold stdT
  cases st <;> simp
theorem trial_list_ok {n : Int} {r st : Bool} (hn : 1 ≤ n ∧ n ≤ 900) : F_trial_list (.int n) (.bl r) (.bl st) = some (.lst (txD (stdT n r st))) := by
  have e0 : ((dTru (.bl r)).bind fun t1 => if t1 = true then (F_ring_trials (.int n)).bind fun v2 => some v2 else (F_adder_trials (.int n)).bind fun v3 => some v3) = some (.lst (txD (stdT n r false))) := by
    rw [dTru_b, Option.bind_some]
    cases r with
    | true => rw [if_pos rfl, ring_trials_ok hn]; rfl
    | false => rw [if_neg (by decide), adder_trials_ok hn]; rfl
  have hl := stdT_len (n := n) (r := r) (st := false) hn.1
  unfold F_trial_list
  rw [e0, Option.bind_some]
  cases st with
  | false => rw [dTru_b, Option.bind_some, if_neg (by decide), Option.bind_some]
  | true =>
    rw [stdT_st (st := true), dTru_b, Option.bind_some, if_pos rfl, dTru_b, Option.bind_some, show (if r = true then some (D.str "P") else some (D.str "K")) = some (.str (S [zeroC r])) from (by cases r <;> rfl), Option.bind_some, tr0 (by omega), Option.bind_some, dAdd_ll,
      chk_pos (by
        rw [txD_len, List.length_singleton]
        have : (if r = true then 2 * n else n + 2) ≤ 3000 := by split <;> omega
        simp only [Bool.false_eq_true, if_false] at hl
        omega), Option.bind_some, Option.bind_some, if_pos rfl]
    unfold txD; rw [List.map_append]; rfl
theorem standard_ok {n : Int} {r st : Bool} (hn : 1 ≤ n ∧ n ≤ 900) : F_standard_trials (.int n) (.bl r) (.bl st) = some (txD (stdT n r st)) := by
  have hl := stdT_len (n := n) (r := r) (st := st) hn.1
  unfold F_standard_trials
  rw [trial_list_ok hn, Option.bind_some]
  show (chk ((([] : List D).length + (txD (stdT n r st)).length) ≤ 1000000) ()).bind (fun _ => some (([] : List D) ++ txD (stdT n r st))) = _
  rw [chk_pos (by
    rw [txD_len, List.length_nil]
    have : (if r = true then 2 * n else n + 2) ≤ 3000 := by split <;> omega
    have : (if st = true then (1 : Int) else 0) ≤ 1 := by split <;> omega
    omega), Option.bind_some, List.nil_append]
theorem cNe_tx {T : List (List Nat)} : cNe (.lst (txD T)) (.lst (txD T)) = some false := by
  have e : txD T = (T.map S).map D.str := by unfold txD; rw [List.map_map]; rfl
  rw [cNe_of, e, cEq_strs]; rfl
theorem zip_maps {α : Type} {f g : α → D} : ∀ {l : List α}, zipD (l.map f) (l.map g) = l.map fun k => D.tup [f k, g k]
  | [] => by simp [zipD]
  | a :: l => by rw [List.map_cons, List.map_cons, zipD, zip_maps]; rfl
theorem loopC_goS {α S R : Type} {f : S → D → Option (Ctl S R)} {s : S} {e : α → D} : ∀ {l : List α}, (∀ a ∈ l, f s (e a) = some (.go s)) → loopC f s (l.map e) = some (.go s)
  | [], _ => rfl
  | a :: l, h => by
    rw [List.map_cons, loopC, h a List.mem_cons_self, Option.bind_some]
    exact loopC_goS fun b hb => h b (List.mem_cons_of_mem _ hb)
theorem cEq_goods {X : List D} (g : goods X) (d : deps X ≤ 40) : cEq (.lst X) (.lst X) = some true := by
  cases X with
  | nil => rw [cEq_nilq]; rfl
  | cons x X => rw [cEq_good (a := .lst (x :: X)) (b := .lst (x :: X)) rfl rfl g g (by rw [dep]; omega) (by rw [dep]; omega), eqD_refl (d := .lst (x :: X)) g]
abbrev Mk : Type := List (Int × Nat) × Nat
def stdP (n : Int) : List Mk := [([], 71), ([(1, 71)], 75)] ++ (upto 2 (n + 1)).map (fun p => ([(p, 71), (p - 1, 75)], 71)) ++ [([(n, 75)], 71)]
theorem stdT_P {n : Int} : stdT n false false = (stdP n).map fun q => twS q.1 n q.2 := by
  unfold stdT stdP
  simp
def GKq (c : Nat) : Prop := c = 71 ∨ c = 75
def letQ (c : Nat) : Prop := c = 71 ∨ c = 75 ∨ c = 80
def MkOk (q : Mk) : Prop := (∀ x ∈ q.1, GKq x.2) ∧ GKq q.2
theorem stdP_ok {n : Int} : ∀ q ∈ stdP n, MkOk q := by
  intro q hq
  unfold stdP at hq
  rcases List.mem_append.mp hq with hq | hq
  · rcases List.mem_append.mp hq with hq | hq
    · simp only [List.mem_cons, List.not_mem_nil, or_false] at hq
      rcases hq with rfl | rfl
      · exact ⟨fun x hx => absurd hx List.not_mem_nil, .inl rfl⟩
      · exact ⟨fun x hx => by rw [List.mem_singleton] at hx; subst hx; exact .inl rfl, .inr rfl⟩
    · obtain ⟨p, _, rfl⟩ := List.mem_map.mp hq
      refine ⟨fun x hx => ?_, .inl rfl⟩
      simp only [List.mem_cons, List.not_mem_nil, or_false] at hx
      rcases hx with rfl | rfl
      · exact .inl rfl
      · exact .inr rfl
  · rw [List.mem_singleton] at hq
    subst hq
    exact ⟨fun x hx => by rw [List.mem_singleton] at hx; subst hx; exact .inr rfl, .inl rfl⟩
theorem tw_let {pl : List (Int × Nat)} {n : Nat} (h : ∀ q ∈ pl, GKq q.2) : ∀ c ∈ tw pl n, letQ c := by
  intro c hc
  unfold tw at hc
  obtain ⟨i, _, rfl⟩ := List.mem_map.mp hc
  unfold plook plookF
  have : ∀ (pl : List (Int × Nat)) (d : Nat), letQ d → (∀ q ∈ pl, GKq q.2) → letQ (pl.foldl (fun c q => if q.1 = (i : Int) + 1 then q.2 else c) d) := by
    intro pl
    induction pl with
    | nil => intro d hd _; exact hd
    | cons q pl ih =>
      intro d hd h
      rw [List.foldl_cons]
      refine ih _ ?_ fun x hx => h x (List.mem_cons_of_mem _ hx)
      split
      · exact (h q List.mem_cons_self).imp id .inl
      · exact hd
  exact this pl 80 (.inr (.inr rfl)) h
def rowL (L : List Nat) (c0 : Nat) : D := .tup [.int (sumv (nA L) L.length), .int (sumv (nB L) L.length), .int (bitS c0)]
def rowQ (n : Int) (q : Mk) : D := rowL (tw q.1 n.toNat) q.2
theorem stdP_len {n : Int} (hn : 1 ≤ n) : ((stdP n).length : Int) = n + 2 := by
  unfold stdP
  simp [upto_len]; omega
theorem made_ok {n : Int} (hn : 1 ≤ n ∧ n ≤ 24) : F_made_additions (.int n) = some ((stdP n).map (rowQ n)) := by
  have hl := stdP_len hn.1
  unfold F_made_additions
  rw [adder_trials_ok (by omega), Option.bind_some, Option.bind_some, dIter_l, Option.bind_some, stdT_P, txD_map, foldO_app (g := rowQ n) (fun q hq acc ha => ?_) (by rw [List.length_nil]; omega), Option.bind_some, List.nil_append]
  rw [chk_pos ha, Option.bind_some]
  unfold twS
  rw [numbersof_ok (by rw [tw_len]; omega), Option.bind_some]
  rfl
theorem rowQ_good {n : Int} (hn : 1 ≤ n ∧ n ≤ 24) {L : List Nat} (hL : L.length ≤ 24) {c0 : Nat} : good (rowL L c0) := by
  have q24 : 2 ^ L.length ≤ 2 ^ 24 := Nat.pow_le_pow_right (by decide) hL
  have q25 : ((2 : Int) ^ L.length) = ((2 ^ L.length : Nat) : Int) := by simp
  have p24 : (2 : Int) ^ L.length ≤ 2 ^ 24 := by
    have e : (2 : Int) ^ 24 = ((2 ^ 24 : Nat) : Int) := by simp
    rw [q25, e]; omega
  have a := sumv_b (f := nA L) nA01 L.length
  have b := sumv_b (f := nB L) nB01 L.length
  have e24 : (2 : Int) ^ 24 = 16777216 := by decide
  have b01 : bitS c0 = 0 ∨ bitS c0 = 1 := by unfold bitS; split <;> simp
  refine ⟨(show -(2 ^ 200) ≤ sumv (nA L) L.length ∧ sumv (nA L) L.length ≤ 2 ^ 200 by omega), (show -(2 ^ 200) ≤ sumv (nB L) L.length ∧ sumv (nB L) L.length ≤ 2 ^ 200 by omega), (show -(2 ^ 200) ≤ bitS c0 ∧ bitS c0 ≤ 2 ^ 200 by rcases b01 with z | z <;> rw [z] <;> decide), trivial⟩
def litQ : List (List Int × D) := [([1, 1], .str "G"), ([0, 0], .str "K"), ([1, 0], .str "P")]
theorem lit_ok : litX [((D.tup [(D.int 1), (D.int 1)]), (D.str "G")), ((D.tup [(D.int 0), (D.int 0)]), (D.str "K")), ((D.tup [(D.int 1), (D.int 0)]), (D.str "P"))] = some litQ := by
  show chk ((litQ.map (·.1)).Nodup ∧ litQ.length ≤ 15) litQ = _
  exact chk_pos ⟨by decide, by decide⟩
theorem key_ok {a b : Int} : keyT (.tup [.int a, .int b]) = some [a, b] := rfl
theorem lit_at {L : List Nat} {i : Nat} (h : letQ (L.getD i 0)) : (atP litQ [nA L i, nB L i]).getD (D.str "?") = .str (S [L.getD i 0]) := by
  unfold nA nB
  rcases h with e | e | e <;> rw [e]
  · exact congrArg D.str lit_G
  · exact congrArg D.str lit_K
  · exact congrArg D.str lit_P
theorem take_rev {L : List Nat} {k : Nat} (hk : k < L.length) : L.reverse.take (k + 1) = L.reverse.take k ++ [L.getD (L.length - 1 - k) 0] := by
  rw [List.take_succ, List.getElem?_reverse hk, List.getD_eq_getElem?_getD, List.getElem?_eq_getElem (by omega)]
  rfl
theorem bits_text {L : List Nat} {c0 : Nat} (hL : L.length ≤ 24) (hs : ∀ c ∈ L, letQ c) : ((dRange [(.int (L.length : Int)), (D.int 0), (D.int (-1))]).bind fun l18 => (foldO (fun (s19 : D) x21 => (dIx (rowL L c0) (D.int 0)).bind fun v24 => (dSub x21 (D.int 1)).bind fun v25 => (dShr v24 v25).bind fun v26 => (dBand v26 (D.int 1)).bind fun v27 => (dIx (rowL L c0) (D.int 1)).bind fun v28 => (dSub x21 (D.int 1)).bind fun v29 => (dShr v28 v29).bind fun v30 => (dBand v30 (D.int 1)).bind fun v31 => (litX [((D.tup [(D.int 1), (D.int 1)]), (D.str "G")), ((D.tup [(D.int 0), (D.int 0)]), (D.str "K")), ((D.tup [(D.int 1), (D.int 0)]), (D.str "P"))]).bind fun v32 => (keyT (D.tup [v27, v31])).bind fun v33 => (dAdd s19 ((atP v32 v33).getD (D.str "?"))).bind fun v34 => some v34) (D.str "") l18)) = some (.str (S L.reverse)) := by
  rw [dRange_3, chk_pos (by omega), Option.bind_some]
  rw [fold_ix0 (s := D.str "") (fun k => D.str (S (L.reverse.take k))) rfl fun k x hx => ?_]
  · rw [rngC_len, show ((L.length : Int) - 0).toNat = L.length by omega, List.take_of_length_le (by rw [List.length_reverse]; exact Nat.le_refl _)]
  · obtain ⟨hk, rfl⟩ := rngC_at hx
    have hk : k < L.length := by omega
    have hi : L.length - 1 - k < L.length := by omega
    have e0 : dIx (rowL L c0) (D.int 0) = some (.int (sumv (nA L) L.length)) := rfl
    have e1 : dIx (rowL L c0) (D.int 1) = some (.int (sumv (nB L) L.length)) := rfl
    have et : ((L.length : Int) + (k : Int) * (-1) - 1).toNat = L.length - 1 - k := by omega
    have bA := bt_sumv (f := nA L) nA01 hi
    have bB := bt_sumv (f := nB L) nB01 hi
    unfold bt at bA bB
    rw [e0, Option.bind_some, dSub_ii, Option.bind_some, dShr_ii, chk_pos (by omega), Option.bind_some, dBand_ii, Option.bind_some, e1, Option.bind_some, Option.bind_some, dShr_ii, chk_pos (by omega), Option.bind_some, dBand_ii, Option.bind_some, lit_ok, Option.bind_some, band_1, band_1, et, bA, bB, key_ok, Option.bind_some]
    rw [lit_at (hs _ (by rw [List.getD_eq_getElem?_getD, List.getElem?_eq_getElem hi]; exact List.getElem_mem hi)), dAdd_ss, S_cat, S_len, S_len, chk_pos (by rw [List.length_take, List.length_reverse, List.length_singleton]; omega), Option.bind_some, take_rev hk]
theorem gof {α β : Type} {o : Option α} {a : α} {f : α → Option β} {Q : β → Prop} (e : o = some a) (h : Gives (f a) Q) : Gives o fun a => Gives (f a) Q := ⟨a, e, h⟩
theorem bigs {L : List Nat} : (if sumv (nB L) L.length > sumv (nA L) L.length then sumv (nB L) L.length else sumv (nA L) L.length) / 2 ^ L.length = 0 := by
  have a := sumv_b (f := nA L) nA01 L.length
  have b := sumv_b (f := nB L) nB01 L.length
  split
  · exact Int.ediv_eq_zero_of_lt b.1 b.2
  · exact Int.ediv_eq_zero_of_lt a.1 a.2
theorem last_ok {c0 : Nat} (h : GKq c0) : dIx (.str "KG") (.int (bitS c0)) = some (.str (S [c0])) := by
  have e : ("KG" : Str) = S [75, 71] := by decide
  rw [e]
  rcases h with rfl | rfl
  · rw [show bitS 71 = 1 from rfl, dIx_S ⟨by decide, by decide⟩ (by decide)]; rfl
  · rw [show bitS 75 = 0 from rfl, dIx_S ⟨by decide, by decide⟩ (by decide)]; rfl
theorem made_right_ok {n : Int} (hn : 1 ≤ n ∧ n ≤ 24) : F_Lmade_right (.int n) = some (.bl true) := by
  have hl := stdP_len hn.1
  have gd : goods ((stdP n).map (rowQ n)) := goods_map fun q hq => rowQ_good hn (by rw [tw_len]; omega)
  have dp : deps ((stdP n).map (rowQ n)) ≤ 40 := Nat.le_trans (deps_map (k := 1) fun q hq => by simp [rowQ, rowL, dep, deps]) (by decide)
  unfold F_Lmade_right
  rw [made_ok hn, Option.bind_some, std_ok (by omega), Option.bind_some, dLen_l, Option.bind_some, dLen_l, Option.bind_some, List.length_map, txD_len, stdT_P, List.length_map, cNe_of, cEq_ii, decide_eq_true rfl]
  simp only [Option.map_some, Option.bind_some, Bool.not_true, Bool.false_eq_true, if_false]
  rw [cNe_of, cEq_goods gd dp]
  simp only [Option.map_some, Option.bind_some, Bool.not_true, Bool.false_eq_true, if_false]
  rw [txD_map, dZip_l, zip_maps, Option.bind_some, loopC_goS fun q hq => ?_]
  · rfl
  · obtain ⟨h1, h2⟩ := stdP_ok q hq
    have et : twS q.1 n q.2 = (tw q.1 n.toNat).reverse ++ [q.2] := by unfold twS; rw [List.reverse_cons]
    have en : n.toNat = (tw q.1 n.toNat).length := by rw [tw_len]
    have hs := tw_let (n := n.toNat) h1
    rw [un2_t, Option.bind_some, et]
    dsimp only
    unfold rowQ
    generalize tw q.1 n.toNat = L at en hs
    have hL : L.length ≤ 24 := by omega
    have bt := bits_text (c0 := q.2) hL hs
    rw [show (L.length : Int) = n by omega] at bt
    obtain ⟨l, el, ef⟩ := Option.bind_eq_some_iff.mp bt
    rw [el, Option.bind_some, ef, Option.bind_some]
    have e2 : dIx (rowL L q.2) (D.int 2) = some (.int (bitS q.2)) := rfl
    have e0 : dIx (rowL L q.2) (D.int 0) = some (.int (sumv (nA L) L.length)) := rfl
    have e1 : dIx (rowL L q.2) (D.int 1) = some (.int (sumv (nB L) L.length)) := rfl
    have er := reprR_good (d := rowL L q.2) (rowQ_good hn hL) (by simp [rowL, wt, wts]) (by simp [rowL, dep, deps])
    have ell : lList (rowL L q.2) = some [.int (sumv (nA L) L.length), .int (sumv (nB L) L.length), .int (bitS q.2)] := rfl
    have es : D.tup [.int (sumv (nA L) L.length), .int (sumv (nB L) L.length), .int (bitS q.2)] = rowL L q.2 := rfl
    rw [e2, Option.bind_some, last_ok h2, Option.bind_some, dAdd_ss, S_cat, S_len, S_len, chk_pos (by rw [List.length_reverse, List.length_singleton]; omega), Option.bind_some, cNe_of, cEq_ss, decide_eq_true rfl]
    simp only [Option.map_some, Option.bind_some, Bool.not_true, Bool.false_eq_true, if_false]
    rw [e0, Option.bind_some, e1, Option.bind_some, dMax2_ii, Option.bind_some, dShr_ii, chk_pos (by omega), Option.bind_some, en, bigs, cNe_of, cEq_ii, decide_eq_true rfl]
    simp only [Option.map_some, Option.bind_some, Bool.not_true, Bool.false_eq_true, if_false]
    rw [er, Option.bind_some, ell, Option.bind_some, es, er, Option.bind_some, cNe_of, cEq_ss, decide_eq_true rfl]
    rfl
theorem std4 : txD (stdT 2 false false) = (["PPG", "PGK", "GKG", "KPG"] : List Str).map D.str := by rfl
theorem std_fine {n : Int} {r st : Bool} {z : Int} (hn : 1 ≤ n ∧ n ≤ 24) (hz : z = if r = true then 2 * n else n + 2) : ((F_Lstandard (.int n) (.bl r) (.bl st)).bind fun v23 => (cNe (D.lst (txD (stdT n r st))) v23).bind fun t24 => if t24 = true then some true else (dLen (D.lst (txD (stdT n r st)))).bind fun v25 => (some (D.int z)).bind fun v26 => (dInt (.bl st)).bind fun v27 => (dAdd v26 v27).bind fun v28 => (cNe v25 v28).bind fun t29 => some t29) = some false := by
  have hl := stdT_len (n := n) (r := r) (st := st) hn.1
  rw [std_ok (by omega), Option.bind_some, cNe_tx, Option.bind_some, if_neg (by decide), dLen_l, Option.bind_some, Option.bind_some, dInt_b, Option.bind_some, dAdd_ii, Option.bind_some, cNe_of, cEq_ii, txD_len, hl, hz, decide_eq_true rfl]
  rfl
theorem law_true (ns : List Int) : F_law (.scr ns) = some (.bl true) := by
  suffices h : Gives (F_law (.scr ns)) fun d => d = .bl true by
    obtain ⟨d, e, rfl⟩ := h
    exact e
  unfold F_law
  rw [pen_ok, Option.bind_some, dRange_1, chk_pos (by decide), Option.bind_some]
  refine .bind ((gives_loop (fun i s => ∃ s', s = penL s' ∧ HOk s' (2 * (i : Int))) ⟨_, rfl, pen_hok ns⟩ fun i x s hx hI => ?_).imp fun c hc => ?_)
  · obtain ⟨s0, rfl, h0⟩ := hI
    obtain ⟨hi, rfl⟩ := rngD_at hx
    have hi : i < 6 := hi
    refine .bind ((draw_ok h0 (by omega) (by omega)).imp fun q hq => ?_)
    obtain ⟨w, s1, rfl, w0, w1, h1⟩ := hq
    refine .bind (gof dAdd_ii ?_)
    refine .bind ((draw_ok h1 (by omega) (by omega)).imp fun q hq => ?_)
    obtain ⟨u, s2, rfl, u0, u1, h2⟩ := hq
    dsimp only
    obtain ⟨n, en, n1, n2⟩ : ∃ n : Int, dIx (D.lst [(D.int 1), (D.int 2), (D.int 3), (D.int 24), .int (1 + w)]) (.int u) = some (.int n) ∧ 1 ≤ n ∧ n ≤ 24 := by
      have : u = 0 ∨ u = 1 ∨ u = 2 ∨ u = 3 ∨ u = 4 := by omega
      rcases this with rfl | rfl | rfl | rfl | rfl
      · exact ⟨1, rfl, by decide, by decide⟩
      · exact ⟨2, rfl, by decide, by decide⟩
      · exact ⟨3, rfl, by decide, by decide⟩
      · exact ⟨24, rfl, by decide, by decide⟩
      · exact ⟨1 + w, rfl, by omega, by omega⟩
    refine .bind (gof en ?_)
    refine .bind (gof rfl ?_)
    refine .bind (gof dIter_t ?_)
    have inner : ∀ st : Bool, ((F_standard_trials (.int n) (D.bl false) (.bl st)).bind fun v20 => ((F_Lstandard (.int n) (D.bl false) (.bl st)).bind fun v23 => (cNe (D.lst v20) v23).bind fun t24 => if t24 = true then some true else (dLen (D.lst v20)).bind fun v25 => (dAdd (.int n) (D.int 2)).bind fun v26 => (dInt (.bl st)).bind fun v27 => (dAdd v26 v27).bind fun v28 => (cNe v25 v28).bind fun t29 => some t29).bind fun t30 => if t30 = true then some (Ctl.ret (D.bl false)) else ((cGt (.int n) (D.int 1)).bind fun t34 => if t34 = true then (F_standard_trials (.int n) (D.bl true) (.bl st)).bind fun v35 => ((F_Lstandard (.int n) (D.bl true) (.bl st)).bind fun v38 => (cNe (D.lst v35) v38).bind fun t39 => if t39 = true then some true else (dLen (D.lst v35)).bind fun v40 => (dMul (D.int 2) (.int n)).bind fun v41 => (dInt (.bl st)).bind fun v42 => (dAdd v41 v42).bind fun v43 => (cNe v40 v43).bind fun t44 => some t44).bind fun t45 => if t45 = true then some (Ctl.ret (D.bl false)) else some (Ctl.go (D.lst v35)) else some (Ctl.go (D.lst v20))).bind fun c33 => ctl c33 (fun (r32 : D) => some (Ctl.go ())) (fun v => some (.ret v))) = some (Ctl.go ()) := by
      intro st
      have a := std_fine (n := n) (r := false) (st := st) (z := n + 2) ⟨n1, n2⟩ rfl
      have b := std_fine (n := n) (r := true) (st := st) (z := 2 * n) ⟨n1, n2⟩ rfl
      rw [standard_ok (by omega), Option.bind_some, dAdd_ii, a, Option.bind_some, if_neg (by decide), cGt_ii, Option.bind_some]
      by_cases q : 1 < n
      · rw [if_pos (decide_eq_true q), standard_ok (by omega), Option.bind_some, dMul_ii, chk_pos (cmul_small ⟨by decide, by decide⟩), b, Option.bind_some, if_neg (by decide)]; rfl
      · rw [if_neg (by simpa using q)]; rfl
    have both : loopC (fun (s15 : Unit) x17 => (F_standard_trials (.int n) (D.bl false) x17).bind fun v20 => ((F_Lstandard (.int n) (D.bl false) x17).bind fun v23 => (cNe (D.lst v20) v23).bind fun t24 => if t24 = true then some true else (dLen (D.lst v20)).bind fun v25 => (dAdd (.int n) (D.int 2)).bind fun v26 => (dInt x17).bind fun v27 => (dAdd v26 v27).bind fun v28 => (cNe v25 v28).bind fun t29 => some t29).bind fun t30 => if t30 = true then some (Ctl.ret (D.bl false)) else ((cGt (.int n) (D.int 1)).bind fun t34 => if t34 = true then (F_standard_trials (.int n) (D.bl true) x17).bind fun v35 => ((F_Lstandard (.int n) (D.bl true) x17).bind fun v38 => (cNe (D.lst v35) v38).bind fun t39 => if t39 = true then some true else (dLen (D.lst v35)).bind fun v40 => (dMul (D.int 2) (.int n)).bind fun v41 => (dInt x17).bind fun v42 => (dAdd v41 v42).bind fun v43 => (cNe v40 v43).bind fun t44 => some t44).bind fun t45 => if t45 = true then some (Ctl.ret (D.bl false)) else some (Ctl.go (D.lst v35)) else some (Ctl.go (D.lst v20))).bind fun c33 => ctl c33 (fun (r32 : D) => some (Ctl.go ())) (fun v => some (.ret v))) () [(D.bl false), (D.bl true)] = some (Ctl.go ()) :=
      loopC_goS (e := D.bl) (l := [false, true]) fun st _ => inner st
    refine .bind (gof both ?_)
    refine .bind (gof (made_right_ok ⟨n1, n2⟩) ?_)
    refine .bind (gof dTru_b ?_)
    rw [if_neg (by decide)]
    exact .mk ⟨_, rfl, s2, rfl, h2.mono (by omega)⟩
  · obtain ⟨s', rfl, _⟩ := hc
    show Gives ((F_standard_trials (D.int 2) (D.bl false) (D.bl false)).bind _) _
    rw [standard_ok (by decide), Option.bind_some, std4]
    have e4 : D.lst [(D.str "PPG"), (D.str "PGK"), (D.str "GKG"), (D.str "KPG")] = .lst ((["PPG", "PGK", "GKG", "KPG"] : List Str).map D.str) := rfl
    rw [e4, cEq_strs]
    exact .mk rfl
end My
namespace My
open PySem PySem.Spec L2 DX SX PyProof.Rows StX LamX
theorem sc_Lpen : FnScope ["_law_script"] ["_law_script"] (defScope s_Lpen) := ⟨rfl, rfl, rfl, by decide +kernel, rfl, by decide +kernel, by decide +kernel⟩
theorem sc_Ldraw : FnScope ["_law_pen_here", "_law_bound", "_law_digit", "_law_at", "_law_cell", "_law_great", "_law_mixed"] ["_law_pen_here", "_law_bound"] (defScope s_Ldraw) := ⟨rfl, rfl, rfl, by decide +kernel, rfl, by decide +kernel, by decide +kernel⟩
theorem sc_trial_with : FnScope ["n", "zero", "placed", "given", "position"] ["n", "zero", "placed"] (defScope s_trial_with) := ⟨rfl, rfl, rfl, by decide +kernel, rfl, by decide +kernel, by decide +kernel⟩
theorem sc_adder_trials : FnScope ["n", "first", "middle", "position"] ["n"] (defScope s_adder_trials) := ⟨rfl, rfl, rfl, by decide +kernel, rfl, by decide +kernel, by decide +kernel⟩
theorem sc_state_at : FnScope ["trial", "position"] ["trial", "position"] (defScope s_state_at) := ⟨rfl, rfl, rfl, by decide +kernel, rfl, by decide +kernel, by decide +kernel⟩
theorem sc_worth_of : FnScope ["n"] ["n"] (defScope s_worth_of) := ⟨rfl, rfl, rfl, by decide +kernel, rfl, by decide +kernel, by decide +kernel⟩
theorem sc_carry_of : FnScope ["state"] ["state"] (defScope s_carry_of) := ⟨rfl, rfl, rfl, by decide +kernel, rfl, by decide +kernel, by decide +kernel⟩
theorem sc_numbers_of : FnScope ["trial", "a", "b", "n", "position", "state"] ["trial"] (defScope s_numbers_of) := ⟨rfl, rfl, rfl, by decide +kernel, rfl, by decide +kernel, by decide +kernel⟩
theorem sc_made_additions : GScope ["n", "trial"] ["n"] (defScope s_made_additions) := ⟨rfl, rfl, rfl, by decide +kernel, rfl, by decide +kernel, by decide +kernel⟩
theorem sc_Lput : FnScope ["_law_size", "_law_marks", "_law_last", "_law_signs", "_law_spot", "_law_sign"] ["_law_size", "_law_marks", "_law_last"] (defScope s_Lput) := ⟨rfl, rfl, rfl, by decide +kernel, rfl, by decide +kernel, by decide +kernel⟩
theorem sc_Lstandard : FnScope ["_law_size", "_law_is_ring", "_law_is_stuck", "_law_found", "_law_spot"] ["_law_size", "_law_is_ring", "_law_is_stuck"] (defScope s_Lstandard) := ⟨rfl, rfl, rfl, by decide +kernel, rfl, by decide +kernel, by decide +kernel⟩
theorem sc_Lmade_right : FnScope ["_law_size", "_law_found", "_law_every", "_law_trial", "_law_row", "_law_bits", "_law_spot", "_law_pair"] ["_law_size"] (defScope s_Lmade_right) := ⟨rfl, rfl, rfl, by decide +kernel, rfl, by decide +kernel, by decide +kernel⟩
theorem sc_ring_trials : FnScope ["n", "alone", "pairs", "position", "high", "low"] ["n"] (defScope s_ring_trials) := ⟨rfl, rfl, rfl, by decide +kernel, rfl, by decide +kernel, by decide +kernel⟩
theorem sc_trial_list : FnScope ["n", "ring", "stuck", "found"] ["n", "ring", "stuck"] (defScope s_trial_list) := ⟨rfl, rfl, rfl, by decide +kernel, rfl, by decide +kernel, by decide +kernel⟩
theorem sc_standard_trials : GScope ["n", "ring", "stuck"] ["n", "ring", "stuck"] (defScope s_standard_trials) := ⟨rfl, rfl, rfl, by decide +kernel, rfl, by decide +kernel, by decide +kernel⟩
theorem sc_law : FnScope ["_law_script", "_law_pen_here", "_law_turn", "_law_size", "_law_is_stuck", "_law_found", "_law_trial"] ["_law_script"] (defScope s_law) := ⟨rfl, rfl, rfl, by decide +kernel, rfl, by decide +kernel, by decide +kernel⟩
structure Txt0 (K : PySem.W.Frag) (mg : Str → Option Value) : Prop where
  d_Lpen : ∃ fd, FunD K "_law_pen" "_law_pen" (defArgs s_Lpen) (defBody s_Lpen) (defScope s_Lpen) [] [] (He.fAd K ("_law_pen", none)) fd
  m_Lpen : mg "_law_pen" = some (.ref (He.fAd K ("_law_pen", none)))
  d_Ldraw : ∃ fd, FunD K "_law_draw" "_law_draw" (defArgs s_Ldraw) (defBody s_Ldraw) (defScope s_Ldraw) [] [] (He.fAd K ("_law_draw", none)) fd
  m_Ldraw : mg "_law_draw" = some (.ref (He.fAd K ("_law_draw", none)))
  d_trial_with : ∃ fd, FunD K "trial_with" "trial_with" (defArgs s_trial_with) (defBody s_trial_with) (defScope s_trial_with) [] [("zero", .str "K")] (He.fAd K ("trial_with", none)) fd
  m_trial_with : mg "trial_with" = some (.ref (He.fAd K ("trial_with", none)))
  d_adder_trials : ∃ fd, FunD K "adder_trials" "adder_trials" (defArgs s_adder_trials) (defBody s_adder_trials) (defScope s_adder_trials) [] [] (He.fAd K ("adder_trials", none)) fd
  m_adder_trials : mg "adder_trials" = some (.ref (He.fAd K ("adder_trials", none)))
  d_state_at : ∃ fd, FunD K "state_at" "state_at" (defArgs s_state_at) (defBody s_state_at) (defScope s_state_at) [] [] (He.fAd K ("state_at", none)) fd
  m_state_at : mg "state_at" = some (.ref (He.fAd K ("state_at", none)))
  d_worth_of : ∃ fd, FunD K "worth_of" "worth_of" (defArgs s_worth_of) (defBody s_worth_of) (defScope s_worth_of) [] [] (He.fAd K ("worth_of", none)) fd
  m_worth_of : mg "worth_of" = some (.ref (He.fAd K ("worth_of", none)))
  d_carry_of : ∃ fd, FunD K "carry_of" "carry_of" (defArgs s_carry_of) (defBody s_carry_of) (defScope s_carry_of) [] [] (He.fAd K ("carry_of", none)) fd
  m_carry_of : mg "carry_of" = some (.ref (He.fAd K ("carry_of", none)))
  d_numbers_of : ∃ fd, FunD K "numbers_of" "numbers_of" (defArgs s_numbers_of) (defBody s_numbers_of) (defScope s_numbers_of) [] [] (He.fAd K ("numbers_of", none)) fd
  m_numbers_of : mg "numbers_of" = some (.ref (He.fAd K ("numbers_of", none)))
  d_made_additions : ∃ fd, FunD K "made_additions" "made_additions" (defArgs s_made_additions) (defBody s_made_additions) (defScope s_made_additions) [] [] (He.fAd K ("made_additions", none)) fd
  m_made_additions : mg "made_additions" = some (.ref (He.fAd K ("made_additions", none)))
  d_Lput : ∃ fd, FunD K "_law_put" "_law_put" (defArgs s_Lput) (defBody s_Lput) (defScope s_Lput) [] [] (He.fAd K ("_law_put", none)) fd
  m_Lput : mg "_law_put" = some (.ref (He.fAd K ("_law_put", none)))
  d_Lstandard : ∃ fd, FunD K "_law_standard" "_law_standard" (defArgs s_Lstandard) (defBody s_Lstandard) (defScope s_Lstandard) [] [] (He.fAd K ("_law_standard", none)) fd
  m_Lstandard : mg "_law_standard" = some (.ref (He.fAd K ("_law_standard", none)))
  d_Lmade_right : ∃ fd, FunD K "_law_made_right" "_law_made_right" (defArgs s_Lmade_right) (defBody s_Lmade_right) (defScope s_Lmade_right) [] [] (He.fAd K ("_law_made_right", none)) fd
  m_Lmade_right : mg "_law_made_right" = some (.ref (He.fAd K ("_law_made_right", none)))
  d_ring_trials : ∃ fd, FunD K "ring_trials" "ring_trials" (defArgs s_ring_trials) (defBody s_ring_trials) (defScope s_ring_trials) [] [] (He.fAd K ("ring_trials", none)) fd
  m_ring_trials : mg "ring_trials" = some (.ref (He.fAd K ("ring_trials", none)))
  d_trial_list : ∃ fd, FunD K "trial_list" "trial_list" (defArgs s_trial_list) (defBody s_trial_list) (defScope s_trial_list) [] [] (He.fAd K ("trial_list", none)) fd
  m_trial_list : mg "trial_list" = some (.ref (He.fAd K ("trial_list", none)))
  d_standard_trials : ∃ fd, FunD K "standard_trials" "standard_trials" (defArgs s_standard_trials) (defBody s_standard_trials) (defScope s_standard_trials) [] [("ring", .bl false), ("stuck", .bl false)] (He.fAd K ("standard_trials", none)) fd
  m_standard_trials : mg "standard_trials" = some (.ref (He.fAd K ("standard_trials", none)))
  d_law : ∃ fd, FunD K "law" "law" (defArgs s_law) (defBody s_law) (defScope s_law) [] [] (He.fAd K ("law", none)) fd
  m_law : mg "law" = some (.ref (He.fAd K ("law", none)))
  b_abs : mg "abs" = none
  b_dict : mg "dict" = none
  b_int : mg "int" = none
  b_len : mg "len" = none
  b_list : mg "list" = none
  b_max : mg "max" = none
  b_range : mg "range" = none
  b_repr : mg "repr" = none
  b_tuple : mg "tuple" = none
  b_zip : mg "zip" = none
  g_GENERATE : ∃ t, mg "GENERATE" = some (.str "G" t)
  g_KILL : ∃ t, mg "KILL" = some (.str "K" t)
  g_PASS : ∃ t, mg "PASS" = some (.str "P" t)
  sys : sysB K = true
structure Txt (K : PySem.W.Frag) (mg : Str → Option Value) (base : Heap) : Prop extends Txt0 K mg where
  tb : ∀ x ∈ tl, LamX.TabB base mg (ctA K x.1).1 (ctA K x.1).2
def tr_Lpen (K : PySem.W.Frag) : TrB := fun ds M P R => ∃ x0 : D, ∃ r : List D, ds = [x0] ∧ F_Lpen x0 = some r ∧ (∀ q, M q = none → P (.adr q) (up M q (.lst r)))
set_option maxHeartbeats 0 in
theorem ok_Lpen {pg : Program} {w : World} {K : PySem.W.Frag} {mg : Str → Option Value} {base : Heap} (T : Txt K mg base) : BodyX pg w K mg base false 2 (He.fAd K ("_law_pen", none)) "_law_pen" (defBody s_Lpen) (defScope s_Lpen) ["_law_script"] ["_law_script"] (tr_Lpen K) := fun cdv hcv A outer s H F0 E ds M P R hgd0 hr t hL hpo kx => by
  obtain ⟨x0, r, rfl, hF, hk⟩ := t
  unfold F_Lpen at hF
  exact gx_seq (g1_ret (ex_less (ex_lstM (ax_cons (ex_ty T.b_list bb_list (ax_cons (ex_slice (ex_var 0 rfl (ox_none (ox_d (ex_int (bi hF fun i1 hi1 hF => ⟨_, _, .id, hi1, bi hF fun v2 hv2 hF => sd_dCut .id hv2 (ax_nil (bi hF fun l3 hl3 hF => cd_lList rfl .id hl3 (ax_cons (ex_int (ax_cons (ex_int (ax_nil (⟨le_b rfl, fun a4 ha4 => have fb_a4 := ha4; ⟨_, (sub_keep sub_refl), (by have e := so hF; cases e; exact hk a4 fb_a4)⟩⟩))))))))⟩))))))))))))
theorem fx_Lpen_1 {pg : Program} {w : World} {K : PySem.W.Frag} {mg : Str → Option Value} {base : Heap} (T : Txt K mg base) : FnX pg w K mg base false 3 (He.fAd K ("_law_pen", none)) ([] : List PySem.Str) (fun ds zs M P R => ds.length = 1 ∧ zs.length = ([] : List PySem.Str).length ∧ tr_Lpen K (pick (ds ++ ([] ++ zs)) [0]) M P R) :=
  fn_kwX T.d_Lpen.choose_spec sc_Lpen (ok_Lpen T) 1 ([] : List PySem.Str) [] [] [0] (by simp) (fun _ => .nil) (fun kV D doc pm an cdv ct us mv ws e h1 h2 h3 => match us, mv, ws, h1, h2, h3 with | [_], [], [], _, _, _ => rfl) (fun us mv ws h1 h2 h3 => match us, mv, ws, h1, h2, h3 with | [_], [], [], _, _, _ => rfl)
def tr_Ldraw (K : PySem.W.Frag) : TrB := fun ds M P R => ∃ (p_0 : Addr) (x0 : List D), ∃ x1 : D, ∃ r : D × List D, ∃ W : D → Mem, ds = [.adr p_0, x1] ∧ M = W (.lst x0) ∧ (∀ z0, At (W z0) p_0 z0 (fun z => W z)) ∧ F_Ldraw x0 x1 = some r ∧ P r.1 (W (.lst r.2))
set_option maxHeartbeats 0 in
theorem ok_Ldraw {pg : Program} {w : World} {K : PySem.W.Frag} {mg : Str → Option Value} {base : Heap} (T : Txt K mg base) : BodyX pg w K mg base false 2 (He.fAd K ("_law_draw", none)) "_law_draw" (defBody s_Ldraw) (defScope s_Ldraw) ["_law_pen_here", "_law_bound", "_law_digit", "_law_at", "_law_cell", "_law_great", "_law_mixed"] ["_law_pen_here", "_law_bound"] (tr_Ldraw K) := fun cdv hcv A outer s H F0 E ds M P R hgd0 hr t hL hpo kx => by
  obtain ⟨p_0, x0, x1, r, W, rfl, rfl, hW0, hF, hk⟩ := t
  unfold F_Ldraw at hF
  refine gx_seq (g1_if (tx_cmp (ex_ix (ex_var 0 rfl (ex_int (bi hF fun v2 hv2 hF => id_dIx (.ad (hW0 _).get rfl) .id hv2 (ex_int (bi hF fun t3 ht3 hF => od_cGt .id .id ht3 (⟨_, rfl, ⟨fun q1 => ?_, fun q1 => ?_⟩⟩)))))))))
  · have hF := iT q1 hF
    refine gx_seq (g1_asg (ex_bin (ex_ix (ex_var 0 rfl (ex_int (bi hF fun v4 hv4 hF => id_dIx (.ad (hW0 _).get rfl) .id hv4 (ex_var 1 rfl (bi hF fun v5 hv5 hF => od_dMod .id .id hv5 (as_name 2 (?_) sc_Ldraw.nd)))))))))
    refine gx_seq (g1_setIxF (ex_bin (ex_ix (ex_var 0 rfl (ex_int (bi hF fun v6 hv6 hF => id_dIx (.ad (hW0 _).get rfl) .id hv6 (ex_var 1 rfl (bi hF fun v7 hv7 hF => od_dFdiv .id .id hv7 (ex_var 0 rfl (ex_int (bi hF fun l8 hl8 hF => ⟨_, _, _, l8, rfl, (hW0 _), hl8, ?_⟩)))))))))))
    exact gx_seq (g1_ret (ex_less (ex_var 2 rfl (⟨_, sub_refl, ret1 (W := W) (so hF) hk⟩))))
  · have hF := iF q1 hF
    refine gx_nil ?_
    show GX _ _ _ _ _ _
    refine gx_seq (g1_asg (ex_ix (ex_var 0 rfl (ex_int (bi hF fun v9 hv9 hF => id_dIx (.ad (hW0 _).get rfl) .id hv9 (as_name 3 (?_) sc_Ldraw.nd))))))
    refine gx_seq (g1_setIxF (ex_bin (ex_var 3 rfl (ex_int (bi hF fun v10 hv10 hF => od_dAdd .id .id hv10 (ex_var 0 rfl (ex_int (bi hF fun l11 hl11 hF => ⟨_, _, _, l11, rfl, (hW0 _), hl11, ?_⟩))))))))
    refine gx_seq (g1_asg (ex_bin (ex_bin (ex_int (ex_var 3 rfl (bi hF fun v12 hv12 hF => od_dMul .id .id hv12 (ex_int (bi hF fun v13 hv13 hF => od_dAdd .id .id hv13 (as_name 4 (?_) sc_Ldraw.nd)))))))))
    refine gx_seq (bi hF fun r15 hF hRr15 => g1_mid (fun ρ' M' => ∃ j0 : Option D, ∃ j1 : Option D, ∃ j2 : Option D, ρ' = [some (.adr p_0), some x1, j0, some v9, some r15, j1, j2] ∧ M' = (W (.lst l11))) (g1_if (tx_cmp (ex_ix (ex_var 0 rfl (ex_int (bi hF fun v16 hv16 hF => id_dIx (.ad (hW0 _).get rfl) .id hv16 (ex_lst (ax_nil (⟨le_b rfl, bi hF fun t17 ht17 hF => od_cNe hr.units .id .id ht17 (⟨_, rfl, ⟨fun q14 => ?_, fun q14 => ?_⟩⟩)⟩))))))))) ?_)
    · have hF := iT q14 hF
      refine gx_seq (g1_asg (ex_ix (ex_ix (ex_var 0 rfl (ex_int (bi hF fun v18 hv18 hF => id_dIx (.ad (hW0 _).get rfl) .id hv18 (ex_bin (ex_var 3 rfl (ex_blt T.b_len bb_len (ax_cons (ex_ix (ex_var 0 rfl (ex_int (bi hF fun v19 hv19 hF => id_dIx (.ad (hW0 _).get rfl) .id hv19 (ax_nil (bi hF fun v20 hv20 hF => cd_dLen .id hv20 (bi hF fun v21 hv21 hF => od_dMod .id .id hv21 (bi hF fun v22 hv22 hF => id_dIx .id .id hv22 (as_name 4 (?_) sc_Ldraw.nd)))))))))))))))))))
      cases hF
      exact gx_nil ⟨_, _, _, rfl, rfl⟩
    · have hF := iF q14 hF
      cases hF
      exact gx_nil ⟨_, _, _, rfl, rfl⟩
    · rintro _ _ ⟨_, _, _, rfl, rfl⟩
      have hF := hRr15
      try dsimp only at hF
      show GX _ _ _ _ _ _
      refine gx_seq (g1_if (bi hF fun t31 ht31 hF => tx_fix t31 (W (.lst l11)) (have hF := ht31; tx_pw (wx_and (tx_cmp (ex_var 3 rfl (ex_blt T.b_len bb_len (ax_cons (ex_ix (ex_var 0 rfl (ex_int (bi hF fun v25 hv25 hF => id_dIx (.ad (hW0 _).get rfl) .id hv25 (ax_nil (bi hF fun v26 hv26 hF => cd_dLen .id hv26 (bi hF fun t27 ht27 hF => od_cLt .id .id ht27 (⟨_, rfl, ⟨fun q24 => have hF := iT q24 hF; wx_and1 (tx_cmp (ex_blt T.b_abs bb_abs (ax_cons (ex_var 4 rfl (ax_nil (bi hF fun v28 hv28 hF => cd_dAbs .id hv28 (ex_bin (ex_int (ex_int (bi hF fun v29 hv29 hF => od_dPow .id .id hv29 (bi hF fun t30 ht30 hF => od_cGe .id .id ht30 (⟨_, rfl, ⟨so hF, rfl⟩⟩)))))))))))), fun q24 => ⟨so (iF q24 hF), rfl⟩⟩⟩)))))))))))))) (⟨fun q23 => ?_, fun q23 => ?_⟩)))
      · have hF := iT q23 hF
        refine gx_seq (g1_asg (ex_bin (ex_bin (ex_int (ex_blt T.b_abs bb_abs (ax_cons (ex_var 4 rfl (ax_nil (bi hF fun v32 hv32 hF => cd_dAbs .id hv32 (bi hF fun v33 hv33 hF => od_dMul .id .id hv33 (ex_ty T.b_int bb_int (ax_cons (ex_cmp (ex_var 4 rfl (ex_int (bi hF fun t34 ht34 hF => od_cLt .id .id ht34 (ax_nil (bi hF fun v35 hv35 hF => cd_dInt .id hv35 (bi hF fun v36 hv36 hF => od_dAdd .id .id hv36 (as_name 5 (?_) sc_Ldraw.nd))))))))))))))))))))
        refine gx_seq (g1_setIxF (ex_bin (ex_var 5 rfl (ex_var 1 rfl (bi hF fun v37 hv37 hF => od_dFdiv .id .id hv37 (ex_var 0 rfl (ex_int (bi hF fun l38 hl38 hF => ⟨_, _, _, l38, rfl, (hW0 _), hl38, ?_⟩))))))))
        exact gx_seq (g1_ret (ex_less (ex_bin (ex_var 5 rfl (ex_var 1 rfl (bi hF fun v39 hv39 hF => od_dMod .id .id hv39 (⟨_, sub_refl, ret1 (W := W) (so hF) hk⟩)))))))
      · have hF := iF q23 hF
        refine gx_nil ?_
        show GX _ _ _ _ _ _
        refine gx_seq (g1_asg (ex_bin (ex_bin (ex_bin (ex_bin (ex_bin (ex_var 4 rfl (ex_int (bi hF fun v40 hv40 hF => od_dMod .id .id hv40 (ex_bin (ex_int (ex_var 3 rfl (bi hF fun v41 hv41 hF => od_dMul .id .id hv41 (bi hF fun v42 hv42 hF => od_dAdd .id .id hv42 (ex_int (bi hF fun v43 hv43 hF => od_dAdd .id .id hv43 (ex_int (bi hF fun v44 hv44 hF => od_dPow .id .id hv44 (ex_int (bi hF fun v45 hv45 hF => od_dMod .id .id hv45 (as_name 6 (?_) sc_Ldraw.nd)))))))))))))))))))))
        refine gx_seq (g1_asg (ex_bin (ex_bin (ex_bin (ex_bin (ex_bin (ex_var 6 rfl (ex_bin (ex_var 3 rfl (ex_int (bi hF fun v46 hv46 hF => od_dAdd .id .id hv46 (bi hF fun v47 hv47 hF => od_dMul .id .id hv47 (ex_bin (ex_bin (ex_int (ex_var 3 rfl (bi hF fun v48 hv48 hF => od_dMul .id .id hv48 (ex_var 3 rfl (bi hF fun v49 hv49 hF => od_dMul .id .id hv49 (bi hF fun v50 hv50 hF => od_dAdd .id .id hv50 (ex_int (bi hF fun v51 hv51 hF => od_dAdd .id .id hv51 (ex_int (bi hF fun v52 hv52 hF => od_dPow .id .id hv52 (ex_int (bi hF fun v53 hv53 hF => od_dMod .id .id hv53 (as_name 6 (?_) sc_Ldraw.nd)))))))))))))))))))))))))))
        exact gx_seq (g1_ret (ex_less (ex_bin (ex_bin (ex_var 6 rfl (ex_int (bi hF fun v54 hv54 hF => od_dFdiv .id .id hv54 (ex_var 1 rfl (bi hF fun v55 hv55 hF => od_dMod .id .id hv55 (⟨_, sub_refl, ret1 (W := W) (so hF) hk⟩))))))))))
theorem fx_Ldraw_2 {pg : Program} {w : World} {K : PySem.W.Frag} {mg : Str → Option Value} {base : Heap} (T : Txt K mg base) : FnX pg w K mg base false 3 (He.fAd K ("_law_draw", none)) ([] : List PySem.Str) (fun ds zs M P R => ds.length = 2 ∧ zs.length = ([] : List PySem.Str).length ∧ tr_Ldraw K (pick (ds ++ ([] ++ zs)) [0, 1]) M P R) :=
  fn_kwX T.d_Ldraw.choose_spec sc_Ldraw (ok_Ldraw T) 2 ([] : List PySem.Str) [] [] [0, 1] (by simp) (fun _ => .nil) (fun kV D doc pm an cdv ct us mv ws e h1 h2 h3 => match us, mv, ws, h1, h2, h3 with | [_, _], [], [], _, _, _ => rfl) (fun us mv ws h1 h2 h3 => match us, mv, ws, h1, h2, h3 with | [_, _], [], [], _, _, _ => rfl)
def tr_trial_with (K : PySem.W.Frag) : TrB := fun ds M P R => ∃ x0 : D, ∃ x1 : D, ∃ x2 : List D, ∃ r : D, ds = [x0, x1, .stup x2] ∧ F_trial_with x0 x1 x2 = some r ∧ P r M
set_option maxHeartbeats 0 in
theorem ok_trial_with {pg : Program} {w : World} {K : PySem.W.Frag} {mg : Str → Option Value} {base : Heap} (T : Txt K mg base) : BodyX pg w K mg base false 2 (He.fAd K ("trial_with", none)) "trial_with" (defBody s_trial_with) (defScope s_trial_with) ["n", "zero", "placed", "given", "position"] ["n", "zero", "placed"] (tr_trial_with K) := fun cdv hcv A outer s H F0 E ds M P R hgd0 hr t hL hpo kx => by
  obtain ⟨x0, x1, x2, r, rfl, hF, hk⟩ := t
  unfold F_trial_with at hF
  refine gx_seq (g1_asg (ex_ty T.b_dict bb_dict (ax_cons (ex_var 2 rfl (ax_nil (bi hF fun k1 hk1 hF => cd_dictK hk1 (as_name 3 (?_) sc_trial_with.nd)))))))
  exact gx_seq (g1_ret (ex_less (ex_bin (ex_joinF (ex_str (bi hF fun s2 hs2 hF => ⟨s2, strD_eq hs2, ex_lc (own := [("position", 4)]) (hN := sc_trial_with.nd) rfl (bi hF fun l3 hl3 hF => ix_range3U (M2 := M) T.b_range (ax_cons (ex_var 0 rfl (ax_cons (ex_int (ax_cons (ex_dNeg (ex_int ⟨_, _, .id, rfl, ax_nil (⟨rfl, rfl⟩)⟩))))))) hl3 (bi hF fun _ hz8 hF => bi hF fun y6 hy6 hF => lcF hy6 (chk_inv hz8).1 (fun x5 _ acc d7 hF hd7 => have fb_d7 := hd7; asb_name 4 (fun _ _ _ _ _ => ex_dget2 hr.units (ex_var 3 rfl (bi hF fun k10 hk10 hF => ⟨k10, dctD_eq hk10, ex_var 4 rfl (bi hF fun k11 hk11 hF => ⟨k11, keyD_eq hk11, ex_gstr T.g_PASS (⟨so hF, rfl⟩)⟩)⟩))) (hN := sc_trial_with.nd)) (bi hF fun v12 hv12 hF => ⟨_, v12, .id, hv12, ex_var 1 rfl (bi hF fun v13 hv13 hF => od_dAdd .id .id hv13 (⟨_, sub_refl, ret0 (so hF) hk⟩))⟩)))⟩))))))
theorem fx_trial_with_1 {pg : Program} {w : World} {K : PySem.W.Frag} {mg : Str → Option Value} {base : Heap} (T : Txt K mg base) : FnX pg w K mg base false 3 (He.fAd K ("trial_with", none)) ([] : List PySem.Str) (fun ds zs M P R => ∃ d0 dr, ds = d0 ++ dr ∧ d0.length = 1 ∧ zs.length = ([] : List PySem.Str).length ∧ dr.length ≤ 1000000 ∧ (false = true → dr = []) ∧ tr_trial_with K (pick (d0 ++ ([D.str "K"] ++ zs)) [0, 1] ++ [D.stup dr]) M P R) :=
  fn_starX (pn := ["n", "zero"]) (pv := "placed") T.d_trial_with.choose_spec sc_trial_with (ok_trial_with T) 1 ([] : List PySem.Str) [("zero", .str "K")] [D.str "K"] [0, 1] (by simp) (fun _ => .cons (.str _) (.nil)) D.stup (.inr rfl) false (fun kV D doc pm an cdv ct us rest mv ws e er h1 h2 h3 => by have e2 := e (by simp); subst e2; exact match us, rest, mv, ws, h1, h2, h3 with | [_], [], [_], [], _, _, _ => ⟨_, _, _, _, _, _, rfl, rfl, rfl⟩ | [_], _ :: _, [_], [], _, _, _ => ⟨_, _, _, _, _, _, rfl, rfl, rfl⟩) (fun us mv ws h1 h2 h3 => match us, mv, ws, h1, h2, h3 with | [_], [_], [], _, _, _ => rfl)
theorem fx_trial_with_1_zero {pg : Program} {w : World} {K : PySem.W.Frag} {mg : Str → Option Value} {base : Heap} (T : Txt K mg base) : FnX pg w K mg base false 3 (He.fAd K ("trial_with", none)) (["zero"] : List PySem.Str) (fun ds zs M P R => ∃ d0 dr, ds = d0 ++ dr ∧ d0.length = 1 ∧ zs.length = (["zero"] : List PySem.Str).length ∧ dr.length ≤ 1000000 ∧ (false = true → dr = []) ∧ tr_trial_with K (pick (d0 ++ ([] ++ zs)) [0, 1] ++ [D.stup dr]) M P R) :=
  fn_starX (pn := ["n", "zero"]) (pv := "placed") T.d_trial_with.choose_spec sc_trial_with (ok_trial_with T) 1 (["zero"] : List PySem.Str) [] [] [0, 1] (by simp) (fun _ => .nil) D.stup (.inr rfl) false (fun kV D doc pm an cdv ct us rest mv ws e er h1 h2 h3 => match us, rest, mv, ws, h1, h2, h3 with | [_], [], [], [_], _, _, _ => rfl | [_], _ :: _, [], [_], _, _, _ => rfl) (fun us mv ws h1 h2 h3 => match us, mv, ws, h1, h2, h3 with | [_], [], [_], _, _, _ => rfl)
def tr_adder_trials (K : PySem.W.Frag) : TrB := fun ds M P R => ∃ x0 : D, ∃ r : D, ds = [x0] ∧ F_adder_trials x0 = some r ∧ P r M
set_option maxHeartbeats 0 in
theorem ok_adder_trials {pg : Program} {w : World} {K : PySem.W.Frag} {mg : Str → Option Value} {base : Heap} (T : Txt K mg base) : BodyX pg w K mg base false 4 (He.fAd K ("adder_trials", none)) "adder_trials" (defBody s_adder_trials) (defScope s_adder_trials) ["n", "first", "middle", "position"] ["n"] (tr_adder_trials K) := fun cdv hcv A outer s H F0 E ds M P R hgd0 hr t hL hpo kx => by
  obtain ⟨x0, r, rfl, hF, hk⟩ := t
  unfold F_adder_trials at hF
  refine gx_seq (g1_asg (ex_lst (ax_cons (ex_callX (fx_trial_with_1_zero T) Lets.no (fun h => nomatch h) (hr.mono (by decide)) T.m_trial_with T.d_trial_with.choose_spec.kp (ev_a (ax_cons (ex_var 0 rfl (ax_nil (kx_cons (ex_gstr T.g_GENERATE (kx_nil (bi hF fun v1 hv1 hF => ⟨rfl, ⟨[_], [], rfl, rfl, rfl, le_b rfl, (fun h => nomatch h), ⟨_, _, _, v1, rfl, hv1, ax_cons (ex_callX (fx_trial_with_1 T) Lets.no (fun h => nomatch h) (hr.mono (by decide)) T.m_trial_with T.d_trial_with.choose_spec.kp (ev_a (ax_cons (ex_var 0 rfl (ax_cons (ex_tup (ax_cons (ex_int (ax_cons (ex_gstr T.g_GENERATE (ax_nil (⟨le_b rfl, ax_nil (kx_nil (bi hF fun v2 hv2 hF => ⟨rfl, ⟨[_], [_], rfl, rfl, rfl, le_b rfl, (fun h => nomatch h), ⟨_, _, _, v2, rfl, hv2, ax_nil (⟨le_b rfl, as_name 1 (?_) sc_adder_trials.nd⟩)⟩⟩⟩))⟩))))))))))))⟩⟩⟩))))))))))))
  refine gx_seq (g1_asg (ex_lstM (ax_nil (⟨le_b rfl, fun a3 ha3 => have fb_a3 := ha3; as_name 2 (?_) sc_adder_trials.nd⟩))))
  refine gx_seq (g1_for hpo rfl (bi hF fun v5 hv5 hF => bi hF fun l6 hl6 hF => ix_range2U (M2 := (up M a3 (.lst []))) T.b_range ((have hF := hv5; ax_cons (ex_int (ax_cons (ex_bin (ex_var 0 rfl (ex_int (bi hF fun v4 hv4 hF => od_dAdd .id .id hv4 (ax_nil ((by cases hF; exact ⟨rfl, rfl⟩))))))))))) hl6 (bi hF fun r8 hlr8 hF => forF hlr8 (fun s7 ρ' M' => ∃ j0 : Option D, ρ' = [some x0, some (D.lst [v1, v2]), some (.adr a3), j0] ∧ M' = (up M a3 (.lst s7))) ⟨_, rfl, rfl⟩ ?_ ?_)))
  · rintro x9 s7 _ hF _ _ ⟨_, rfl, rfl⟩
    try dsimp only at hF
    refine as_name 3 (?_) sc_adder_trials.nd
    refine gx_seq (g1_expr (ex_append (ex_var 2 rfl (⟨_, _, rfl, at0.get, ax_cons (ex_callX (fx_trial_with_1_zero T) Lets.no (fun h => nomatch h) (hr.mono (by decide)) T.m_trial_with T.d_trial_with.choose_spec.kp (ev_a (ax_cons (ex_var 0 rfl (ax_cons (ex_tup (ax_cons (ex_var 3 rfl (ax_cons (ex_gstr T.g_GENERATE (ax_nil (⟨le_b rfl, ax_cons (ex_tup (ax_cons (ex_bin (ex_var 3 rfl (ex_int (bi hF fun v12 hv12 hF => od_dSub .id .id hv12 (ax_cons (ex_gstr T.g_KILL (ax_nil (⟨le_b rfl, ax_nil (kx_cons (ex_gstr T.g_GENERATE (kx_nil (bi hF fun v13 hv13 hF => ⟨rfl, ⟨[_], [_, _], rfl, rfl, rfl, le_b rfl, (fun h => nomatch h), ⟨_, _, _, v13, rfl, hv13, ax_nil (bi hF fun _ h14 hF => ⟨_, _, _, rfl, at0, (chk_inv h14).1, ?_⟩)⟩⟩⟩))))⟩))))))))))⟩))))))))))))⟩))))
    cases hF
    exact gx_nil ⟨_, rfl, rfl⟩
  · rintro _ _ ⟨_, rfl, rfl⟩
    try dsimp only at hF
    show GX _ _ _ _ _ _
    exact gx_seq (g1_ret (ex_less (ex_bin (ex_bin (ex_var 1 rfl (ex_var 2 rfl (bi hF fun v15 hv15 hF => od_dAdd .id (.ad at0.get rfl) hv15 (ex_lst (ax_cons (ex_callX (fx_trial_with_1_zero T) Lets.no (fun h => nomatch h) (hr.mono (by decide)) T.m_trial_with T.d_trial_with.choose_spec.kp (ev_a (ax_cons (ex_var 0 rfl (ax_cons (ex_tup (ax_cons (ex_var 0 rfl (ax_cons (ex_gstr T.g_KILL (ax_nil (⟨le_b rfl, ax_nil (kx_cons (ex_gstr T.g_GENERATE (kx_nil (bi hF fun v16 hv16 hF => ⟨rfl, ⟨[_], [_], rfl, rfl, rfl, le_b rfl, (fun h => nomatch h), ⟨_, _, _, v16, rfl, hv16, ax_nil (⟨le_b rfl, bi hF fun v17 hv17 hF => od_dAdd .id .id hv17 (⟨_, (sub_drop sub_refl fb_a3), ret0 (so hF) hk⟩)⟩)⟩⟩⟩))))⟩)))))))))))))))))))))
theorem fx_adder_trials_1 {pg : Program} {w : World} {K : PySem.W.Frag} {mg : Str → Option Value} {base : Heap} (T : Txt K mg base) : FnX pg w K mg base false 5 (He.fAd K ("adder_trials", none)) ([] : List PySem.Str) (fun ds zs M P R => ds.length = 1 ∧ zs.length = ([] : List PySem.Str).length ∧ tr_adder_trials K (pick (ds ++ ([] ++ zs)) [0]) M P R) :=
  fn_kwX T.d_adder_trials.choose_spec sc_adder_trials (ok_adder_trials T) 1 ([] : List PySem.Str) [] [] [0] (by simp) (fun _ => .nil) (fun kV D doc pm an cdv ct us mv ws e h1 h2 h3 => match us, mv, ws, h1, h2, h3 with | [_], [], [], _, _, _ => rfl) (fun us mv ws h1 h2 h3 => match us, mv, ws, h1, h2, h3 with | [_], [], [], _, _, _ => rfl)
def tr_state_at (K : PySem.W.Frag) : TrB := fun ds M P R => ∃ x0 : D, ∃ x1 : D, ∃ r : D, ds = [x0, x1] ∧ F_state_at x0 x1 = some r ∧ P r M
set_option maxHeartbeats 0 in
theorem ok_state_at {pg : Program} {w : World} {K : PySem.W.Frag} {mg : Str → Option Value} {base : Heap} (T : Txt K mg base) : BodyX pg w K mg base false 2 (He.fAd K ("state_at", none)) "state_at" (defBody s_state_at) (defScope s_state_at) ["trial", "position"] ["trial", "position"] (tr_state_at K) := fun cdv hcv A outer s H F0 E ds M P R hgd0 hr t hL hpo kx => by
  obtain ⟨x0, x1, r, rfl, hF, hk⟩ := t
  unfold F_state_at at hF
  exact gx_seq (g1_ret (ex_less (ex_ix (ex_var 0 rfl (ex_bin (ex_bin (ex_blt T.b_len bb_len (ax_cons (ex_var 0 rfl (ax_nil (bi hF fun v1 hv1 hF => cd_dLen .id hv1 (ex_int (bi hF fun v2 hv2 hF => od_dSub .id .id hv2 (ex_var 1 rfl (bi hF fun v3 hv3 hF => od_dSub .id .id hv3 (bi hF fun v4 hv4 hF => id_dIx .id .id hv4 (⟨_, sub_refl, ret0 (so hF) hk⟩)))))))))))))))))
theorem fx_state_at_2 {pg : Program} {w : World} {K : PySem.W.Frag} {mg : Str → Option Value} {base : Heap} (T : Txt K mg base) : FnX pg w K mg base false 3 (He.fAd K ("state_at", none)) ([] : List PySem.Str) (fun ds zs M P R => ds.length = 2 ∧ zs.length = ([] : List PySem.Str).length ∧ tr_state_at K (pick (ds ++ ([] ++ zs)) [0, 1]) M P R) :=
  fn_kwX T.d_state_at.choose_spec sc_state_at (ok_state_at T) 2 ([] : List PySem.Str) [] [] [0, 1] (by simp) (fun _ => .nil) (fun kV D doc pm an cdv ct us mv ws e h1 h2 h3 => match us, mv, ws, h1, h2, h3 with | [_, _], [], [], _, _, _ => rfl) (fun us mv ws h1 h2 h3 => match us, mv, ws, h1, h2, h3 with | [_, _], [], [], _, _, _ => rfl)
def tr_worth_of (K : PySem.W.Frag) : TrB := fun ds M P R => ∃ x0 : D, ∃ r : D, ds = [x0] ∧ F_worth_of x0 = some r ∧ P r M
set_option maxHeartbeats 0 in
theorem ok_worth_of {pg : Program} {w : World} {K : PySem.W.Frag} {mg : Str → Option Value} {base : Heap} (T : Txt K mg base) : BodyX pg w K mg base false 2 (He.fAd K ("worth_of", none)) "worth_of" (defBody s_worth_of) (defScope s_worth_of) ["n"] ["n"] (tr_worth_of K) := fun cdv hcv A outer s H F0 E ds M P R hgd0 hr t hL hpo kx => by
  obtain ⟨x0, r, rfl, hF, hk⟩ := t
  unfold F_worth_of at hF
  exact gx_seq (g1_ret (ex_less (ex_bin (ex_int (ex_var 0 rfl (bi hF fun v1 hv1 hF => od_dShl .id .id hv1 (⟨_, sub_refl, ret0 (so hF) hk⟩)))))))
theorem fx_worth_of_1 {pg : Program} {w : World} {K : PySem.W.Frag} {mg : Str → Option Value} {base : Heap} (T : Txt K mg base) : FnX pg w K mg base false 3 (He.fAd K ("worth_of", none)) ([] : List PySem.Str) (fun ds zs M P R => ds.length = 1 ∧ zs.length = ([] : List PySem.Str).length ∧ tr_worth_of K (pick (ds ++ ([] ++ zs)) [0]) M P R) :=
  fn_kwX T.d_worth_of.choose_spec sc_worth_of (ok_worth_of T) 1 ([] : List PySem.Str) [] [] [0] (by simp) (fun _ => .nil) (fun kV D doc pm an cdv ct us mv ws e h1 h2 h3 => match us, mv, ws, h1, h2, h3 with | [_], [], [], _, _, _ => rfl) (fun us mv ws h1 h2 h3 => match us, mv, ws, h1, h2, h3 with | [_], [], [], _, _, _ => rfl)
def tr_carry_of (K : PySem.W.Frag) : TrB := fun ds M P R => ∃ x0 : D, ∃ r : D, ds = [x0] ∧ F_carry_of x0 = some r ∧ P r M
set_option maxHeartbeats 0 in
theorem ok_carry_of {pg : Program} {w : World} {K : PySem.W.Frag} {mg : Str → Option Value} {base : Heap} (T : Txt K mg base) : BodyX pg w K mg base false 2 (He.fAd K ("carry_of", none)) "carry_of" (defBody s_carry_of) (defScope s_carry_of) ["state"] ["state"] (tr_carry_of K) := fun cdv hcv A outer s H F0 E ds M P R hgd0 hr t hL hpo kx => by
  obtain ⟨x0, r, rfl, hF, hk⟩ := t
  unfold F_carry_of at hF
  exact gx_seq (g1_ret (ex_less (ex_ty T.b_int bb_int (ax_cons (ex_cmp (ex_var 0 rfl (ex_gstr T.g_GENERATE (bi hF fun t1 ht1 hF => od_cEq hr.units .id .id ht1 (ax_nil (bi hF fun v2 hv2 hF => cd_dInt .id hv2 (⟨_, sub_refl, ret0 (so hF) hk⟩)))))))))))
theorem fx_carry_of_1 {pg : Program} {w : World} {K : PySem.W.Frag} {mg : Str → Option Value} {base : Heap} (T : Txt K mg base) : FnX pg w K mg base false 3 (He.fAd K ("carry_of", none)) ([] : List PySem.Str) (fun ds zs M P R => ds.length = 1 ∧ zs.length = ([] : List PySem.Str).length ∧ tr_carry_of K (pick (ds ++ ([] ++ zs)) [0]) M P R) :=
  fn_kwX T.d_carry_of.choose_spec sc_carry_of (ok_carry_of T) 1 ([] : List PySem.Str) [] [] [0] (by simp) (fun _ => .nil) (fun kV D doc pm an cdv ct us mv ws e h1 h2 h3 => match us, mv, ws, h1, h2, h3 with | [_], [], [], _, _, _ => rfl) (fun us mv ws h1 h2 h3 => match us, mv, ws, h1, h2, h3 with | [_], [], [], _, _, _ => rfl)
def tr_numbers_of (K : PySem.W.Frag) : TrB := fun ds M P R => ∃ x0 : D, ∃ r : D, ds = [x0] ∧ F_numbers_of x0 = some r ∧ P r M
set_option maxHeartbeats 0 in
theorem ok_numbers_of {pg : Program} {w : World} {K : PySem.W.Frag} {mg : Str → Option Value} {base : Heap} (T : Txt K mg base) : BodyX pg w K mg base false 4 (He.fAd K ("numbers_of", none)) "numbers_of" (defBody s_numbers_of) (defScope s_numbers_of) ["trial", "a", "b", "n", "position", "state"] ["trial"] (tr_numbers_of K) := fun cdv hcv A outer s H F0 E ds M P R hgd0 hr t hL hpo kx => by
  obtain ⟨x0, r, rfl, hF, hk⟩ := t
  unfold F_numbers_of at hF
  refine gx_seq (g1_par3 1 2 3 rfl (by decide) (by decide) (by decide) (ax_cons (ex_int (ax_cons (ex_int (ax_cons (ex_bin (ex_blt T.b_len bb_len (ax_cons (ex_var 0 rfl (ax_nil (bi hF fun v1 hv1 hF => cd_dLen .id hv1 (ex_int (bi hF fun v2 hv2 hF => od_dSub .id .id hv2 (ax_nil (⟨_, _, _, rfl, ?_⟩))))))))))))))) sc_numbers_of.nd)
  refine gx_seq (g1_for hpo rfl (bi hF fun v4 hv4 hF => bi hF fun l5 hl5 hF => ix_range2U (M2 := M) T.b_range ((have hF := hv4; ax_cons (ex_int (ax_cons (ex_bin (ex_var 3 rfl (ex_int (bi hF fun v3 hv3 hF => od_dAdd .id .id hv3 (ax_nil ((by cases hF; exact ⟨rfl, rfl⟩))))))))))) hl5 (bi hF fun r7 hlr7 hF => forF hlr7 (fun s6 ρ' M' => ∃ s6_0 : D, ∃ s6_1 : D, ∃ j0 : Option D, ∃ j1 : Option D, s6 = (s6_0, s6_1) ∧ ρ' = [some x0, some s6_0, some s6_1, some v2, j0, j1] ∧ M' = M) ⟨_, _, _, _, rfl, rfl, rfl⟩ ?_ ?_)))
  · rintro x8 s6 _ hF _ M ⟨s6_0, s6_1, _, _, rfl, rfl, rfl⟩
    try dsimp only at hF
    refine as_name 4 (?_) sc_numbers_of.nd
    refine gx_seq (g1_asg (ex_callX (fx_state_at_2 T) Lets.no (fun h => nomatch h) (hr.mono (by decide)) T.m_state_at T.d_state_at.choose_spec.kp (ev_a (ax_cons (ex_var 0 rfl (ax_cons (ex_var 4 rfl (ax_nil (kx_nil (bi hF fun v11 hv11 hF => ⟨rfl, ⟨rfl, rfl, ⟨_, _, v11, rfl, hv11, as_name 5 (?_) sc_numbers_of.nd⟩⟩⟩))))))))))
    refine gx_seq (bi hF fun r13 hF hRr13 => g1_mid (fun ρ' M' => ρ' = [some x0, some r13, some s6_1, some v2, some x8, some v11] ∧ M' = M) (g1_if (tx_cmp (ex_var 5 rfl (ex_gstr T.g_KILL (bi hF fun t14 ht14 hF => od_cNe hr.units .id .id ht14 (⟨_, rfl, ⟨fun q12 => ?_, fun q12 => ?_⟩⟩)))))) ?_)
    · have hF := iT q12 hF
      refine gx_seq (g1_augF ip_add 1 rfl (ex_callX (fx_worth_of_1 T) Lets.no (fun h => nomatch h) (hr.mono (by decide)) T.m_worth_of T.d_worth_of.choose_spec.kp (ev_a (ax_cons (ex_bin (ex_var 4 rfl (ex_int (bi hF fun v15 hv15 hF => od_dSub .id .id hv15 (ax_nil (kx_nil (bi hF fun v16 hv16 hF => ⟨rfl, ⟨rfl, rfl, ⟨_, v16, rfl, hv16, bi hF fun v17 hv17 hF => ⟨_, hv17, ?_⟩⟩⟩⟩)))))))))) sc_numbers_of.nd)
      cases hF
      exact gx_nil ⟨rfl, rfl⟩
    · have hF := iF q12 hF
      cases hF
      exact gx_nil ⟨rfl, rfl⟩
    · rintro _ M ⟨rfl, rfl⟩
      have hF := hRr13
      try dsimp only at hF
      show GX _ _ _ _ _ _
      refine gx_seq (bi hF fun r19 hF hRr19 => g1_mid (fun ρ' M' => ρ' = [some x0, some r13, some r19, some v2, some x8, some v11] ∧ M' = M) (g1_if (tx_cmp (ex_var 5 rfl (ex_gstr T.g_GENERATE (bi hF fun t20 ht20 hF => od_cEq hr.units .id .id ht20 (⟨_, rfl, ⟨fun q18 => ?_, fun q18 => ?_⟩⟩)))))) ?_)
      · have hF := iT q18 hF
        refine gx_seq (g1_augF ip_add 2 rfl (ex_callX (fx_worth_of_1 T) Lets.no (fun h => nomatch h) (hr.mono (by decide)) T.m_worth_of T.d_worth_of.choose_spec.kp (ev_a (ax_cons (ex_bin (ex_var 4 rfl (ex_int (bi hF fun v21 hv21 hF => od_dSub .id .id hv21 (ax_nil (kx_nil (bi hF fun v22 hv22 hF => ⟨rfl, ⟨rfl, rfl, ⟨_, v22, rfl, hv22, bi hF fun v23 hv23 hF => ⟨_, hv23, ?_⟩⟩⟩⟩)))))))))) sc_numbers_of.nd)
        cases hF
        exact gx_nil ⟨rfl, rfl⟩
      · have hF := iF q18 hF
        cases hF
        exact gx_nil ⟨rfl, rfl⟩
      · rintro _ M ⟨rfl, rfl⟩
        have hF := hRr19
        try dsimp only at hF
        show GX _ _ _ _ _ _
        exact gx_nil ⟨_, _, _, _, (so hF).symm, rfl, rfl⟩
  · rintro _ M ⟨r7_0, r7_1, _, _, rfl, rfl, rfl⟩
    try dsimp only at hF
    show GX _ _ _ _ _ _
    exact gx_seq (g1_ret (ex_less (ex_tup (ax_cons (ex_var 1 rfl (ax_cons (ex_var 2 rfl (ax_cons (ex_callX (fx_carry_of_1 T) Lets.no (fun h => nomatch h) (hr.mono (by decide)) T.m_carry_of T.d_carry_of.choose_spec.kp (ev_a (ax_cons (ex_callX (fx_state_at_2 T) Lets.no (fun h => nomatch h) (hr.mono (by decide)) T.m_state_at T.d_state_at.choose_spec.kp (ev_a (ax_cons (ex_var 0 rfl (ax_cons (ex_int (ax_nil (kx_nil (bi hF fun v24 hv24 hF => ⟨rfl, ⟨rfl, rfl, ⟨_, _, v24, rfl, hv24, ax_nil (kx_nil (bi hF fun v25 hv25 hF => ⟨rfl, ⟨rfl, rfl, ⟨_, v25, rfl, hv25, ax_nil (⟨le_b rfl, ⟨_, sub_refl, ret0 (so hF) hk⟩⟩)⟩⟩⟩))⟩⟩⟩))))))))))))))))))))
theorem fx_numbers_of_1 {pg : Program} {w : World} {K : PySem.W.Frag} {mg : Str → Option Value} {base : Heap} (T : Txt K mg base) : FnX pg w K mg base false 5 (He.fAd K ("numbers_of", none)) ([] : List PySem.Str) (fun ds zs M P R => ds.length = 1 ∧ zs.length = ([] : List PySem.Str).length ∧ tr_numbers_of K (pick (ds ++ ([] ++ zs)) [0]) M P R) :=
  fn_kwX T.d_numbers_of.choose_spec sc_numbers_of (ok_numbers_of T) 1 ([] : List PySem.Str) [] [] [0] (by simp) (fun _ => .nil) (fun kV D doc pm an cdv ct us mv ws e h1 h2 h3 => match us, mv, ws, h1, h2, h3 with | [_], [], [], _, _, _ => rfl) (fun us mv ws h1 h2 h3 => match us, mv, ws, h1, h2, h3 with | [_], [], [], _, _, _ => rfl)
def tr_made_additions (K : PySem.W.Frag) : List D → List D → Prop := fun ds r => ∃ x0 : D, ds = [x0] ∧ F_made_additions x0 = some r
set_option maxHeartbeats 0 in
theorem ok_made_additions {pg : Program} {w : World} {K : PySem.W.Frag} {mg : Str → Option Value} {base : Heap} (T : Txt K mg base) : GF.GBodyY pg w K mg base 6 (He.fAd K ("made_additions", none)) "made_additions" (defBody s_made_additions) (defScope s_made_additions) ["n", "trial"] ["n"] (tr_made_additions K) := fun cdv hcv A outer s H F0 pn dsa dsq M hr t => by
  obtain ⟨x0, rfl, hF⟩ := t
  unfold F_made_additions at hF
  have hp : dsq <+: dsq := List.prefix_refl _
  refine GF.gf_seq (GF.gf_for GF.fam_ok rfl fun b_ hb_ => (bi hF fun v2 hv2 hF => bi hF fun l3 hl3 hF => ix_seqU (M2 := M) ((have hF := hv2; ex_callX (fx_adder_trials_1 T) Lets.no (fun h => nomatch h) (hr.mono (by decide)) T.m_adder_trials T.d_adder_trials.choose_spec.kp (ev_a (ax_cons (ex_var 0 rfl (ax_nil (kx_nil (bi hF fun v1 hv1 hF => ⟨rfl, ⟨rfl, rfl, ⟨_, v1, rfl, hv1, ⟨so hF, rfl⟩⟩⟩⟩)))))))) hl3 (bi hF fun r6 hlr6 hF => GF.forGF hlr6 (by intros; repeat' (first | exact GF.pre_refl | refine GF.ext_loop (fun _ => ?_) (fun _ => ?_) ?_ | refine GF.ext_if ?_ ?_ | refine GF.ext_bnd fun _ => ?_ | refine GF.ext_end fun _ => ?_ | refine GF.pre_snoc ?_)) ((GF.Ext.pre (k := fun r6 : List D => some r6) (by intros; repeat' (first | exact GF.pre_refl | refine GF.ext_loop (fun _ => ?_) (fun _ => ?_) ?_ | refine GF.ext_if ?_ ?_ | refine GF.ext_bnd fun _ => ?_ | refine GF.ext_end fun _ => ?_ | refine GF.pre_snoc ?_)) hF).trans hp) (fun ρ' M' => ∃ j0 : Option D, ρ' = [some x0, j0] ∧ M' = M) ⟨_, rfl, rfl⟩ ?_ ?_)))
  · rintro x7 s4 s5 hF hp _ M ⟨_, rfl, rfl⟩ b_ hb_
    try dsimp only at hF
    refine as_name 1 (?_) sc_made_additions.nd
    show GF.GX _ _ _ _ _ _ _
    refine bi hF fun _ h8 hF => GF.gf_seq (GF.gf_yield rfl (chk_inv h8).1 fun b_ hb_ => (ex_callX (fx_numbers_of_1 T) Lets.no (fun h => nomatch h) (hr.mono (by decide)) T.m_numbers_of T.d_numbers_of.choose_spec.kp (ev_a (ax_cons (ex_var 1 rfl (ax_nil (kx_nil (bi hF fun v9 hv9 hF => ⟨rfl, ⟨rfl, rfl, ⟨_, v9, rfl, hv9, ⟨(GF.Ext.pre (k := fun Y_ : List D => some Y_) (by intros; repeat' (first | exact GF.pre_refl | refine GF.ext_loop (fun _ => ?_) (fun _ => ?_) ?_ | refine GF.ext_if ?_ ?_ | refine GF.ext_bnd fun _ => ?_ | refine GF.ext_end fun _ => ?_ | refine GF.pre_snoc ?_)) hF).trans hp, ?_⟩⟩⟩⟩))))))))
    show GF.GX _ _ _ _ _ _ _
    exact GF.gf_nil ⟨so hF, ⟨_, rfl, rfl⟩⟩
  · rintro _ M ⟨_, rfl, rfl⟩
    try dsimp only at hF
    show GF.GX _ _ _ _ _ _ _
    exact GF.gf_nil (so hF)
theorem fx_made_additions_0_n {pg : Program} {w : World} {K : PySem.W.Frag} {mg : Str → Option Value} {base : Heap} (T : Txt K mg base) : GF.GFnZ pg w K mg base 7 (He.fAd K ("made_additions", none)) (["n"] : List PySem.Str) (fun ds zs r => ds.length = 0 ∧ zs.length = (["n"] : List PySem.Str).length ∧ tr_made_additions K (pick (ds ++ zs) [0]) r) :=
  GF.gfn_Z T.d_made_additions.choose_spec sc_made_additions (ok_made_additions T) 0 (["n"] : List PySem.Str) [0] (fun kV doc pm an cdv ct us ws h1 h2 => match us, ws, h1, h2 with | [], [_], _, _ => rfl) (fun us ws h1 h2 => match us, ws, h1, h2 with | [], [_], _, _ => rfl)
theorem fx_made_additions_1 {pg : Program} {w : World} {K : PySem.W.Frag} {mg : Str → Option Value} {base : Heap} (T : Txt K mg base) : GF.GFnZ pg w K mg base 7 (He.fAd K ("made_additions", none)) ([] : List PySem.Str) (fun ds zs r => ds.length = 1 ∧ zs.length = ([] : List PySem.Str).length ∧ tr_made_additions K (pick (ds ++ zs) [0]) r) :=
  GF.gfn_Z T.d_made_additions.choose_spec sc_made_additions (ok_made_additions T) 1 ([] : List PySem.Str) [0] (fun kV doc pm an cdv ct us ws h1 h2 => match us, ws, h1, h2 with | [_], [], _, _ => rfl) (fun us ws h1 h2 => match us, ws, h1, h2 with | [_], [], _, _ => rfl)
def tr_Lput (K : PySem.W.Frag) : TrB := fun ds M P R => ∃ x0 : D, ∃ x1 : D, ∃ x2 : D, ∃ r : D, ds = [x0, x1, x2] ∧ F_Lput x0 x1 x2 = some r ∧ P r M
set_option maxHeartbeats 0 in
theorem ok_Lput {pg : Program} {w : World} {K : PySem.W.Frag} {mg : Str → Option Value} {base : Heap} (T : Txt K mg base) : BodyX pg w K mg base false 2 (He.fAd K ("_law_put", none)) "_law_put" (defBody s_Lput) (defScope s_Lput) ["_law_size", "_law_marks", "_law_last", "_law_signs", "_law_spot", "_law_sign"] ["_law_size", "_law_marks", "_law_last"] (tr_Lput K) := fun cdv hcv A outer s H F0 E ds M P R hgd0 hr t hL hpo kx => by
  obtain ⟨x0, x1, x2, r, rfl, hF, hk⟩ := t
  unfold F_Lput at hF
  refine gx_seq (g1_asg (ex_bin (ex_bin (ex_lst (ax_cons (ex_str (ax_nil (⟨le_b rfl, ex_var 0 rfl (bi hF fun v1 hv1 hF => od_dMul .id .id hv1 (ex_lst (ax_cons (ex_var 2 rfl (ax_nil (⟨le_b rfl, bi hF fun l2 hl2 hF => od_lAdd .id .id hl2 (fun a3 ha3 => have fb_a3 := ha3; as_name 3 (?_) sc_Lput.nd)⟩))))))⟩))))))))
  refine gx_seq (g1_for hpo rfl (bi hF fun l4 hl4 hF => ix_seqU (M2 := (up M a3 (.lst l2))) (ex_var 1 rfl (⟨rfl, rfl⟩)) hl4 (bi hF fun r6 hlr6 hF => forF hlr6 (fun s5 ρ' M' => ∃ j0 : Option D, ∃ j1 : Option D, ρ' = [some x0, some x1, some x2, some (.adr a3), j0, j1] ∧ M' = (up M a3 (.lst s5))) ⟨_, _, rfl, rfl⟩ ?_ ?_)))
  · rintro x7 s5 _ hF _ _ ⟨_, _, rfl, rfl⟩
    try dsimp only at hF
    refine bi hF fun p10 hp10 hF => as_eq (un2_eq hp10) (as_tup rfl rfl (asd_cons (as_name 4 (asd_cons (as_name 5 (asd_nil (?_)) sc_Lput.nd)) sc_Lput.nd)))
    refine gx_seq (g1_setIxF (ex_var 5 rfl (ex_var 3 rfl (ex_bin (ex_var 0 rfl (ex_var 4 rfl (bi hF fun v11 hv11 hF => od_dSub .id .id hv11 (bi hF fun l12 hl12 hF => ⟨_, _, _, l12, rfl, at0, hl12, ?_⟩))))))))
    cases hF
    exact gx_nil ⟨_, _, rfl, rfl⟩
  · rintro _ _ ⟨_, _, rfl, rfl⟩
    try dsimp only at hF
    show GX _ _ _ _ _ _
    exact gx_seq (g1_ret (ex_less (ex_joinF (ex_str (bi hF fun s13 hs13 hF => ⟨s13, strD_eq hs13, ex_var 3 rfl (bi hF fun v14 hv14 hF => ⟨_, v14, (.ad at0.get rfl), hv14, ⟨_, (sub_drop sub_refl fb_a3), ret0 (so hF) hk⟩⟩)⟩)))))
theorem fx_Lput_3 {pg : Program} {w : World} {K : PySem.W.Frag} {mg : Str → Option Value} {base : Heap} (T : Txt K mg base) : FnX pg w K mg base false 3 (He.fAd K ("_law_put", none)) ([] : List PySem.Str) (fun ds zs M P R => ds.length = 3 ∧ zs.length = ([] : List PySem.Str).length ∧ tr_Lput K (pick (ds ++ ([] ++ zs)) [0, 1, 2]) M P R) :=
  fn_kwX T.d_Lput.choose_spec sc_Lput (ok_Lput T) 3 ([] : List PySem.Str) [] [] [0, 1, 2] (by simp) (fun _ => .nil) (fun kV D doc pm an cdv ct us mv ws e h1 h2 h3 => match us, mv, ws, h1, h2, h3 with | [_, _, _], [], [], _, _, _ => rfl) (fun us mv ws h1 h2 h3 => match us, mv, ws, h1, h2, h3 with | [_, _, _], [], [], _, _, _ => rfl)
def tr_Lstandard (K : PySem.W.Frag) : TrB := fun ds M P R => ∃ x0 : D, ∃ x1 : D, ∃ x2 : D, ∃ r : D, ds = [x0, x1, x2] ∧ F_Lstandard x0 x1 x2 = some r ∧ P r M
set_option maxHeartbeats 0 in
theorem ok_Lstandard {pg : Program} {w : World} {K : PySem.W.Frag} {mg : Str → Option Value} {base : Heap} (T : Txt K mg base) : BodyX pg w K mg base false 4 (He.fAd K ("_law_standard", none)) "_law_standard" (defBody s_Lstandard) (defScope s_Lstandard) ["_law_size", "_law_is_ring", "_law_is_stuck", "_law_found", "_law_spot"] ["_law_size", "_law_is_ring", "_law_is_stuck"] (tr_Lstandard K) := fun cdv hcv A outer s H F0 E ds M P R hgd0 hr t hL hpo kx => by
  obtain ⟨x0, x1, x2, r, rfl, hF, hk⟩ := t
  unfold F_Lstandard at hF
  refine gx_seq (g1_asg (ex_lstM (ax_nil (⟨le_b rfl, fun a1 ha1 => have fb_a1 := ha1; as_name 3 (?_) sc_Lstandard.nd⟩))))
  refine gx_seq (bi hF fun r3 hF hRr3 => g1_mid (fun ρ' M' => ∃ j0 : Option D, ρ' = [some x0, some x1, some x2, some r3, j0] ∧ M' = M) (g1_if (tx_tru (ex_var 1 rfl (bi hF fun t4 ht4 hF => ⟨_, _, .id, ht4, ⟨fun q2 => ?_, fun q2 => ?_⟩⟩)))) ?_)
  · have hF := iT q2 hF
    refine gx_seq (g1_for hpo rfl (bi hF fun v6 hv6 hF => bi hF fun l7 hl7 hF => ix_range2U (M2 := (up M a1 (.lst []))) T.b_range ((have hF := hv6; ax_cons (ex_int (ax_cons (ex_bin (ex_var 0 rfl (ex_int (bi hF fun v5 hv5 hF => od_dAdd .id .id hv5 (ax_nil ((by cases hF; exact ⟨rfl, rfl⟩))))))))))) hl7 (bi hF fun r9 hlr9 hF => forF hlr9 (fun s8 ρ' M' => ∃ j0 : Option D, ρ' = [some x0, some x1, some x2, some (.adr a1), j0] ∧ M' = (up M a1 (.lst s8))) ⟨_, rfl, rfl⟩ ?_ ?_)))
    · rintro x10 s8 _ hF _ _ ⟨_, rfl, rfl⟩
      try dsimp only at hF
      refine as_name 4 (?_) sc_Lstandard.nd
      refine gx_seq (g1_expr (ex_append (ex_var 3 rfl (⟨_, _, rfl, at0.get, ax_cons (ex_callX (fx_Lput_3 T) Lets.no (fun h => nomatch h) (hr.mono (by decide)) T.m_Lput T.d_Lput.choose_spec.kp (ev_a (ax_cons (ex_var 0 rfl (ax_cons (ex_lst (ax_cons (ex_tup (ax_cons (ex_var 4 rfl (ax_cons (ex_str (ax_nil (⟨le_b rfl, ax_nil (⟨le_b rfl, ax_cons (ex_str (ax_nil (kx_nil (bi hF fun v13 hv13 hF => ⟨rfl, ⟨rfl, rfl, ⟨_, _, _, v13, rfl, hv13, ax_nil (bi hF fun _ h14 hF => ⟨_, _, _, rfl, at0, (chk_inv h14).1, ?_⟩)⟩⟩⟩))))⟩)⟩))))))))))))))⟩))))
      cases hF
      exact gx_nil ⟨_, rfl, rfl⟩
    · rintro _ _ ⟨_, rfl, rfl⟩
      try dsimp only at hF
      show GX _ _ _ _ _ _
      refine gx_seq (g1_for hpo rfl (bi hF fun v16 hv16 hF => bi hF fun l17 hl17 hF => ix_range2U (M2 := (up M a1 (.lst r9))) T.b_range ((have hF := hv16; ax_cons (ex_int (ax_cons (ex_bin (ex_var 0 rfl (ex_int (bi hF fun v15 hv15 hF => od_dAdd .id .id hv15 (ax_nil ((by cases hF; exact ⟨rfl, rfl⟩))))))))))) hl17 (bi hF fun r19 hlr19 hF => forF hlr19 (fun s18 ρ' M' => ∃ j0 : Option D, ρ' = [some x0, some x1, some x2, some (.adr a1), j0] ∧ M' = (up M a1 (.lst s18))) ⟨_, rfl, rfl⟩ ?_ ?_)))
      · rintro x20 s18 _ hF _ _ ⟨_, rfl, rfl⟩
        try dsimp only at hF
        refine as_name 4 (?_) sc_Lstandard.nd
        refine gx_seq (g1_expr (ex_append (ex_var 3 rfl (⟨_, _, rfl, at0.get, ax_cons (ex_callX (fx_Lput_3 T) Lets.no (fun h => nomatch h) (hr.mono (by decide)) T.m_Lput T.d_Lput.choose_spec.kp (ev_a (ax_cons (ex_var 0 rfl (ax_cons (ex_lst (ax_cons (ex_tup (ax_cons (ex_var 4 rfl (ax_cons (ex_str (ax_nil (⟨le_b rfl, ax_cons (ex_tup (ax_cons (bi hF fun v26 hv26 hF => ex_fix v26 (up M a1 (.lst s18)) (have hF := hv26; ex_if (tx_cmp (ex_var 4 rfl (ex_int (bi hF fun t23 ht23 hF => od_cGt .id .id ht23 (⟨_, rfl, ⟨fun q25 => have hF := iT q25 hF; ex_bin (ex_var 4 rfl (ex_int (bi hF fun v24 hv24 hF => od_dSub .id .id hv24 (⟨so hF, rfl⟩)))), fun q25 => have hF := iF q25 hF; ex_var 0 rfl (⟨so hF, rfl⟩)⟩⟩)))))) (ax_cons (ex_str (ax_nil (⟨le_b rfl, ax_nil (⟨le_b rfl, ax_cons (ex_str (ax_nil (kx_nil (bi hF fun v27 hv27 hF => ⟨rfl, ⟨rfl, rfl, ⟨_, _, _, v27, rfl, hv27, ax_nil (bi hF fun _ h28 hF => ⟨_, _, _, rfl, at0, (chk_inv h28).1, ?_⟩)⟩⟩⟩))))⟩)⟩)))))))⟩))))))))))))))⟩))))
        cases hF
        exact gx_nil ⟨_, rfl, rfl⟩
      · rintro _ _ ⟨_, rfl, rfl⟩
        try dsimp only at hF
        show GX _ _ _ _ _ _
        refine gx_frzA 3 rfl at0.get (subx_here fb_a1) ?_
        show GX _ _ _ _ _ _
        cases hF
        exact gx_nil ⟨_, rfl, rfl⟩
  · have hF := iF q2 hF
    refine gx_seq (g1_asg (ex_lstM (ax_cons (ex_callX (fx_Lput_3 T) Lets.no (fun h => nomatch h) (hr.mono (by decide)) T.m_Lput T.d_Lput.choose_spec.kp (ev_a (ax_cons (ex_var 0 rfl (ax_cons (ex_lst (ax_nil (⟨le_b rfl, ax_cons (ex_str (ax_nil (kx_nil (bi hF fun v29 hv29 hF => ⟨rfl, ⟨rfl, rfl, ⟨_, _, _, v29, rfl, hv29, ax_cons (ex_callX (fx_Lput_3 T) Lets.no (fun h => nomatch h) (hr.mono (by decide)) T.m_Lput T.d_Lput.choose_spec.kp (ev_a (ax_cons (ex_var 0 rfl (ax_cons (ex_lst (ax_cons (ex_tup (ax_cons (ex_int (ax_cons (ex_str (ax_nil (⟨le_b rfl, ax_nil (⟨le_b rfl, ax_cons (ex_str (ax_nil (kx_nil (bi hF fun v30 hv30 hF => ⟨rfl, ⟨rfl, rfl, ⟨_, _, _, v30, rfl, hv30, ax_nil (⟨le_b rfl, fun a31 ha31 => have ne_a1_a31 := (up_none ha31).1; have fb_a31 := (up_none ha31).2; as_name 3 (?_) sc_Lstandard.nd⟩)⟩⟩⟩))))⟩)⟩))))))))))))))⟩⟩⟩))))⟩)))))))))))
    refine gx_seq (g1_for hpo rfl (bi hF fun v33 hv33 hF => bi hF fun l34 hl34 hF => ix_range2U (M2 := (up (up M a1 (.lst [])) a31 (.lst [v29, v30]))) T.b_range ((have hF := hv33; ax_cons (ex_int (ax_cons (ex_bin (ex_var 0 rfl (ex_int (bi hF fun v32 hv32 hF => od_dAdd .id .id hv32 (ax_nil ((by cases hF; exact ⟨rfl, rfl⟩))))))))))) hl34 (bi hF fun r36 hlr36 hF => forF hlr36 (fun s35 ρ' M' => ∃ j0 : Option D, ρ' = [some x0, some x1, some x2, some (.adr a31), j0] ∧ M' = (up (up M a1 (.lst [])) a31 (.lst s35))) ⟨_, rfl, rfl⟩ ?_ ?_)))
    · rintro x37 s35 _ hF _ _ ⟨_, rfl, rfl⟩
      try dsimp only at hF
      refine as_name 4 (?_) sc_Lstandard.nd
      refine gx_seq (g1_expr (ex_append (ex_var 3 rfl (⟨_, _, rfl, at0.get, ax_cons (ex_callX (fx_Lput_3 T) Lets.no (fun h => nomatch h) (hr.mono (by decide)) T.m_Lput T.d_Lput.choose_spec.kp (ev_a (ax_cons (ex_var 0 rfl (ax_cons (ex_lst (ax_cons (ex_tup (ax_cons (ex_var 4 rfl (ax_cons (ex_str (ax_nil (⟨le_b rfl, ax_cons (ex_tup (ax_cons (ex_bin (ex_var 4 rfl (ex_int (bi hF fun v40 hv40 hF => od_dSub .id .id hv40 (ax_cons (ex_str (ax_nil (⟨le_b rfl, ax_nil (⟨le_b rfl, ax_cons (ex_str (ax_nil (kx_nil (bi hF fun v41 hv41 hF => ⟨rfl, ⟨rfl, rfl, ⟨_, _, _, v41, rfl, hv41, ax_nil (bi hF fun _ h42 hF => ⟨_, _, _, rfl, at0, (chk_inv h42).1, ?_⟩)⟩⟩⟩))))⟩)⟩))))))))))⟩))))))))))))))⟩))))
      cases hF
      exact gx_nil ⟨_, rfl, rfl⟩
    · rintro _ _ ⟨_, rfl, rfl⟩
      try dsimp only at hF
      show GX _ _ _ _ _ _
      refine gx_seq (g1_expr (ex_append (ex_var 3 rfl (⟨_, _, rfl, at0.get, ax_cons (ex_callX (fx_Lput_3 T) Lets.no (fun h => nomatch h) (hr.mono (by decide)) T.m_Lput T.d_Lput.choose_spec.kp (ev_a (ax_cons (ex_var 0 rfl (ax_cons (ex_lst (ax_cons (ex_tup (ax_cons (ex_var 0 rfl (ax_cons (ex_str (ax_nil (⟨le_b rfl, ax_nil (⟨le_b rfl, ax_cons (ex_str (ax_nil (kx_nil (bi hF fun v43 hv43 hF => ⟨rfl, ⟨rfl, rfl, ⟨_, _, _, v43, rfl, hv43, ax_nil (bi hF fun _ h44 hF => ⟨_, _, _, rfl, at0, (chk_inv h44).1, ?_⟩)⟩⟩⟩))))⟩)⟩))))))))))))))⟩))))
      refine gx_frzA 3 rfl at0.get (subx_here (nn ne_a1_a31 fb_a31)) ?_
      show GX _ _ _ _ _ _
      refine gx_less (sub_drop sub_refl fb_a1) ?_
      cases hF
      exact gx_nil ⟨_, rfl, rfl⟩
  · rintro _ M ⟨_, rfl, rfl⟩
    have hF := hRr3
    try dsimp only at hF
    show GX _ _ _ _ _ _
    exact gx_seq (g1_ret (ex_less (ex_bin (ex_var 3 rfl (ex_bin (ex_lst (ax_cons (ex_callX (fx_Lput_3 T) Lets.no (fun h => nomatch h) (hr.mono (by decide)) T.m_Lput T.d_Lput.choose_spec.kp (ev_a (ax_cons (ex_var 0 rfl (ax_cons (ex_lst (ax_nil (⟨le_b rfl, ax_cons (bi hF fun v47 hv47 hF => ex_fix v47 M (have hF := hv47; ex_if (tx_tru (ex_var 1 rfl (bi hF fun t45 ht45 hF => ⟨_, _, .id, ht45, ⟨fun q46 => have hF := iT q46 hF; ex_str (⟨so hF, rfl⟩), fun q46 => have hF := iF q46 hF; ex_str (⟨so hF, rfl⟩)⟩⟩)))) (ax_nil (kx_nil (bi hF fun v48 hv48 hF => ⟨rfl, ⟨rfl, rfl, ⟨_, _, _, v48, rfl, hv48, ax_nil (⟨le_b rfl, ex_ty T.b_int bb_int (ax_cons (ex_var 2 rfl (ax_nil (bi hF fun v49 hv49 hF => cd_dInt .id hv49 (bi hF fun v50 hv50 hF => od_dMul .id .id hv50 (bi hF fun v51 hv51 hF => od_dAdd .id .id hv51 (⟨_, sub_refl, ret0 (so hF) hk⟩)))))))⟩)⟩⟩⟩))))⟩)))))))))))))))
theorem fx_Lstandard_3 {pg : Program} {w : World} {K : PySem.W.Frag} {mg : Str → Option Value} {base : Heap} (T : Txt K mg base) : FnX pg w K mg base false 5 (He.fAd K ("_law_standard", none)) ([] : List PySem.Str) (fun ds zs M P R => ds.length = 3 ∧ zs.length = ([] : List PySem.Str).length ∧ tr_Lstandard K (pick (ds ++ ([] ++ zs)) [0, 1, 2]) M P R) :=
  fn_kwX T.d_Lstandard.choose_spec sc_Lstandard (ok_Lstandard T) 3 ([] : List PySem.Str) [] [] [0, 1, 2] (by simp) (fun _ => .nil) (fun kV D doc pm an cdv ct us mv ws e h1 h2 h3 => match us, mv, ws, h1, h2, h3 with | [_, _, _], [], [], _, _, _ => rfl) (fun us mv ws h1 h2 h3 => match us, mv, ws, h1, h2, h3 with | [_, _, _], [], [], _, _, _ => rfl)
def tr_Lmade_right (K : PySem.W.Frag) : TrB := fun ds M P R => ∃ x0 : D, ∃ r : D, ds = [x0] ∧ F_Lmade_right x0 = some r ∧ P r M
set_option maxHeartbeats 0 in
theorem ok_Lmade_right {pg : Program} {w : World} {K : PySem.W.Frag} {mg : Str → Option Value} {base : Heap} (T : Txt K mg base) : BodyX pg w K mg base true 10 (He.fAd K ("_law_made_right", none)) "_law_made_right" (defBody s_Lmade_right) (defScope s_Lmade_right) ["_law_size", "_law_found", "_law_every", "_law_trial", "_law_row", "_law_bits", "_law_spot", "_law_pair"] ["_law_size"] (tr_Lmade_right K) := fun cdv hcv A outer s H F0 E ds M P R hgd0 hr t hL hpo kx => by
  have hgd := hgd0 rfl
  obtain ⟨x0, r, rfl, hF, hk⟩ := t
  unfold F_Lmade_right at hF
  refine gx_seq (GF.g1_gc 1 (fx_made_additions_1 T) (hr.mono (by decide)) T.m_made_additions T.d_made_additions.choose_spec.kp (ev_a (ax_cons (ex_var 0 rfl (ax_nil (kx_nil (bi hF fun v1 hv1 hF => ⟨rfl, ⟨_, ⟨rfl, rfl, ⟨_, rfl, hv1⟩⟩, ?_⟩⟩)))))) (hN := sc_Lmade_right.nd))
  refine gx_seq (g1_asg (ex_callX (fx_Lstandard_3 T) Lets.no (fun h => nomatch h) (hr.mono (by decide)) T.m_Lstandard T.d_Lstandard.choose_spec.kp (ev_a (ax_cons (ex_var 0 rfl (ax_cons (ex_bl (ax_cons (ex_bl (ax_nil (kx_nil (bi hF fun v2 hv2 hF => ⟨rfl, ⟨rfl, rfl, ⟨_, _, _, v2, rfl, hv2, as_name 2 (?_) sc_Lmade_right.nd⟩⟩⟩))))))))))))
  refine gx_seq (g1_if (bi hF fun t10 ht10 hF => tx_fix t10 M (have hF := ht10; tx_pw (wx_or (tx_cmp (ex_blt T.b_len bb_len (ax_cons (ex_var 1 rfl (ax_nil (bi hF fun v5 hv5 hF => cd_dLen .id hv5 (ex_blt T.b_len bb_len (ax_cons (ex_var 2 rfl (ax_nil (bi hF fun v6 hv6 hF => cd_dLen .id hv6 (bi hF fun t7 ht7 hF => od_cNe hr.units .id .id ht7 (⟨_, rfl, ⟨fun q4 => have hF := iF q4 hF; wx_or1 (tx_cmp (GF.ex_gc (fx_made_additions_0_n T) (hr.mono (by decide)) T.m_made_additions T.d_made_additions.choose_spec.kp (ev_0 (kx_cons (ex_var 0 rfl (kx_nil (bi hF fun v8 hv8 hF => ⟨rfl, ⟨_, ⟨rfl, rfl, ⟨_, rfl, hv8⟩⟩, ex_var 1 rfl (bi hF fun t9 ht9 hF => od_cNe hr.units .id .id ht9 (⟨_, rfl, ⟨so hF, rfl⟩⟩))⟩⟩))))))), fun q4 => ⟨so (iT q4 hF), rfl⟩⟩⟩))))))))))))))) (⟨fun q3 => ?_, fun q3 => ?_⟩)))
  · have hF := iT q3 hF
    exact gx_seq (g1_ret (ex_less (ex_bl (⟨_, sub_refl, ret0 (so hF) hk⟩))))
  · have hF := iF q3 hF
    refine gx_nil ?_
    show GX _ _ _ _ _ _
    refine gx_seq (g1_for hpo rfl (bi hF fun l11 hl11 hF => ix_zipU (M2 := M) T.b_zip (ax_cons (ex_var 2 rfl (ax_cons (ex_var 1 rfl (ax_nil (⟨rfl, rfl⟩)))))) hl11 (bi hF fun c15 hlc15 hOc15 => forC hlc15 (fun s12 ρ' M' => ∃ j0 : Option D, ∃ j1 : Option D, ∃ j2 : Option D, ∃ j3 : Option D, ∃ j4 : Option D, ρ' = [some x0, some (D.lst v1), some v2, j0, j1, j2, j3, j4] ∧ M' = M) ⟨_, _, _, _, _, rfl, rfl⟩ ?_ ?_)))
    · rintro x14 s12 b16 hF hbb16 _ M ⟨_, _, _, _, _, rfl, rfl⟩
      try dsimp only at hF
      refine bi hF fun p17 hp17 hF => as_eq (un2_eq hp17) (as_tup rfl rfl (asd_cons (as_name 3 (asd_cons (as_name 4 (asd_nil (?_)) sc_Lmade_right.nd)) sc_Lmade_right.nd)))
      refine gx_seq (g1_asg (ex_str (as_name 5 (?_) sc_Lmade_right.nd)))
      refine gx_seq (g1_for hpo rfl (bi hF fun l18 hl18 hF => ix_range3U (M2 := M) T.b_range (ax_cons (ex_var 0 rfl (ax_cons (ex_int (ax_cons (ex_dNeg (ex_int ⟨_, _, .id, rfl, ax_nil (⟨rfl, rfl⟩)⟩))))))) hl18 (bi hF fun r20 hlr20 hF => forF hlr20 (fun s19 ρ' M' => ∃ j0 : Option D, ∃ j1 : Option D, ρ' = [some x0, some (D.lst v1), some v2, some p17.1, some p17.2, some s19, j0, j1] ∧ M' = M) ⟨_, _, rfl, rfl⟩ ?_ ?_)))
      · rintro x21 s19 _ hF _ M ⟨_, _, rfl, rfl⟩
        try dsimp only at hF
        refine as_name 6 (?_) sc_Lmade_right.nd
        refine gx_seq (g1_asg (ex_tup (ax_cons (ex_bin (ex_bin (ex_ix (ex_var 4 rfl (ex_int (bi hF fun v24 hv24 hF => id_dIx .id .id hv24 (ex_bin (ex_var 6 rfl (ex_int (bi hF fun v25 hv25 hF => od_dSub .id .id hv25 (bi hF fun v26 hv26 hF => od_dShr .id .id hv26 (ex_int (bi hF fun v27 hv27 hF => od_dBand .id .id hv27 (ax_cons (ex_bin (ex_bin (ex_ix (ex_var 4 rfl (ex_int (bi hF fun v28 hv28 hF => id_dIx .id .id hv28 (ex_bin (ex_var 6 rfl (ex_int (bi hF fun v29 hv29 hF => od_dSub .id .id hv29 (bi hF fun v30 hv30 hF => od_dShr .id .id hv30 (ex_int (bi hF fun v31 hv31 hF => od_dBand .id .id hv31 (ax_nil (⟨le_b rfl, as_name 7 (?_) sc_Lmade_right.nd⟩))))))))))))))))))))))))))))))))
        refine gx_seq (g1_asg (ex_bin (ex_var 5 rfl (ex_getLit hr.units (fun p_ hp_ => prx_cons (ex_tup (ax_cons (ex_int (ax_cons (ex_int (ax_nil (⟨le_b rfl, ex_str (prx_cons (ex_tup (ax_cons (ex_int (ax_cons (ex_int (ax_nil (⟨le_b rfl, ex_str (prx_cons (ex_tup (ax_cons (ex_int (ax_cons (ex_int (ax_nil (⟨le_b rfl, ex_str (prx_nil (bi hF fun v32 hv32 hF => ⟨_, v32, hp_, rfl, hv32, ex_var 7 rfl (ex_str (bi hF fun v33 hv33 hF => ⟨v33, hv33, bi hF fun v34 hv34 hF => od_dAdd .id .id hv34 (as_name 5 (?_) sc_Lmade_right.nd)⟩))⟩))⟩))))))))⟩))))))))⟩))))))))))))
        cases hF
        exact gx_nil ⟨_, _, rfl, rfl⟩
      · rintro _ M ⟨_, _, rfl, rfl⟩
        try dsimp only at hF
        show GX _ _ _ _ _ _
        refine gx_seq (g1_if (bi hF fun t51 ht51 hF => tx_fix t51 M (have hF := ht51; tx_pw (wx_or (tx_cmp (ex_bin (ex_var 5 rfl (ex_ix (ex_str (ex_ix (ex_var 4 rfl (ex_int (bi hF fun v37 hv37 hF => id_dIx .id .id hv37 (bi hF fun v38 hv38 hF => id_dIx .id .id hv38 (bi hF fun v39 hv39 hF => od_dAdd .id .id hv39 (ex_var 3 rfl (bi hF fun t40 ht40 hF => od_cNe hr.units .id .id ht40 (⟨_, rfl, ⟨fun q36 => have hF := iF q36 hF; wx_or (tx_cmp (ex_bin (ex_blt T.b_max bb_max (ax_cons (ex_ix (ex_var 4 rfl (ex_int (bi hF fun v42 hv42 hF => id_dIx .id .id hv42 (ax_cons (ex_ix (ex_var 4 rfl (ex_int (bi hF fun v43 hv43 hF => id_dIx .id .id hv43 (ax_nil (bi hF fun v44 hv44 hF => cd_dMax2 rfl .id .id hv44 (ex_var 0 rfl (bi hF fun v45 hv45 hF => od_dShr .id .id hv45 (ex_int (bi hF fun t46 ht46 hF => od_cNe hr.units .id .id ht46 (⟨_, rfl, ⟨fun q41 => have hF := iF q41 hF; wx_or1 (tx_cmp (ex_blt T.b_repr bb_repr (ax_cons (ex_var 4 rfl (ax_nil (bi hF fun v47 hv47 hF => cd_dReprR T.sys hgd hr.units hv47 (ex_blt T.b_repr bb_repr (ax_cons (ex_ty T.b_tuple bb_tuple (ax_cons (ex_var 4 rfl (ax_nil (bi hF fun l48 hl48 hF => cd_lTuple rfl .id hl48 (ax_nil (bi hF fun v49 hv49 hF => cd_dReprR T.sys hgd hr.units hv49 (bi hF fun t50 ht50 hF => od_cNe hr.units .id .id ht50 (⟨_, rfl, ⟨so hF, rfl⟩⟩))))))))))))))))), fun q41 => ⟨so (iT q41 hF), rfl⟩⟩⟩)))))))))))))))))))), fun q36 => ⟨so (iT q36 hF), rfl⟩⟩⟩)))))))))))))))) (⟨fun q35 => ?_, fun q35 => ?_⟩)))
        · have hF := iT q35 hF
          exact gx_seq (g1_ret (ex_less (ex_bl (⟨_, sub_refl, ret0 (so (ctl_retS hOc15 (hbb16 _ (so hF).symm))) hk⟩))))
        · have hF := iF q35 hF
          refine gx_nil ?_
          show GX _ _ _ _ _ _
          exact gx_nil ⟨_, (so hF).symm, ⟨_, _, _, _, _, rfl, rfl⟩⟩
    · rintro r13 hg _ M ⟨_, _, _, _, _, rfl, rfl⟩
      have hF := ctl_go hOc15 hg
      try dsimp only at hF
      show GX _ _ _ _ _ _
      exact gx_seq (g1_ret (ex_less (ex_bl (⟨_, sub_refl, ret0 (so hF) hk⟩))))
theorem fx_Lmade_right_1 {pg : Program} {w : World} {K : PySem.W.Frag} {mg : Str → Option Value} {base : Heap} (T : Txt K mg base) : FnX pg w K mg base true 11 (He.fAd K ("_law_made_right", none)) ([] : List PySem.Str) (fun ds zs M P R => ds.length = 1 ∧ zs.length = ([] : List PySem.Str).length ∧ tr_Lmade_right K (pick (ds ++ ([] ++ zs)) [0]) M P R) :=
  fn_kwX T.d_Lmade_right.choose_spec sc_Lmade_right (ok_Lmade_right T) 1 ([] : List PySem.Str) [] [] [0] (by simp) (fun _ => .nil) (fun kV D doc pm an cdv ct us mv ws e h1 h2 h3 => match us, mv, ws, h1, h2, h3 with | [_], [], [], _, _, _ => rfl) (fun us mv ws h1 h2 h3 => match us, mv, ws, h1, h2, h3 with | [_], [], [], _, _, _ => rfl)
def tr_ring_trials (K : PySem.W.Frag) : TrB := fun ds M P R => ∃ x0 : D, ∃ r : D, ds = [x0] ∧ F_ring_trials x0 = some r ∧ P r M
set_option maxHeartbeats 0 in
theorem ok_ring_trials {pg : Program} {w : World} {K : PySem.W.Frag} {mg : Str → Option Value} {base : Heap} (T : Txt K mg base) : BodyX pg w K mg base false 4 (He.fAd K ("ring_trials", none)) "ring_trials" (defBody s_ring_trials) (defScope s_ring_trials) ["n", "alone", "pairs", "position", "high", "low"] ["n"] (tr_ring_trials K) := fun cdv hcv A outer s H F0 E ds M P R hgd0 hr t hL hpo kx => by
  obtain ⟨x0, r, rfl, hF, hk⟩ := t
  unfold F_ring_trials at hF
  refine gx_seq (g1_lc (own := [("position", 3)]) (hN := sc_ring_trials.nd) 1 rfl (bi hF fun v2 hv2 hF => bi hF fun l3 hl3 hF => ix_range2U (M2 := M) T.b_range ((have hF := hv2; ax_cons (ex_int (ax_cons (ex_bin (ex_var 0 rfl (ex_int (bi hF fun v1 hv1 hF => od_dAdd .id .id hv1 (ax_nil ((by cases hF; exact ⟨rfl, rfl⟩))))))))))) hl3 (bi hF fun _ hz8 hF => bi hF fun y6 hy6 hF => lcF hy6 (chk_inv hz8).1 (fun x5 _ acc d7 hF hd7 => have fb_d7 := hd7; asb_name 3 (fun _ _ _ _ _ => ex_callX (fx_trial_with_1_zero T) Lets.no (fun h => nomatch h) (hr.mono (by decide)) T.m_trial_with T.d_trial_with.choose_spec.kp (ev_a (ax_cons (ex_var 0 rfl (ax_cons (ex_tup (ax_cons (ex_var 3 rfl (ax_cons (ex_gstr T.g_GENERATE (ax_nil (⟨le_b rfl, ax_nil (kx_cons (ex_gstr T.g_PASS (kx_nil (bi hF fun v10 hv10 hF => ⟨rfl, ⟨[_], [_], rfl, rfl, rfl, le_b rfl, (fun h => nomatch h), ⟨_, _, _, v10, rfl, hv10, ⟨so hF, rfl⟩⟩⟩⟩))))⟩)))))))))))) (hN := sc_ring_trials.nd)) (?_))))
  refine gx_seq (g1_lc (own := [("position", 3)]) (hN := sc_ring_trials.nd) 2 rfl (bi hF fun v12 hv12 hF => bi hF fun l13 hl13 hF => ix_range2U (M2 := M) T.b_range ((have hF := hv12; ax_cons (ex_int (ax_cons (ex_bin (ex_var 0 rfl (ex_int (bi hF fun v11 hv11 hF => od_dAdd .id .id hv11 (ax_nil ((by cases hF; exact ⟨rfl, rfl⟩))))))))))) hl13 (bi hF fun _ hz18 hF => bi hF fun y16 hy16 hF => lcF hy16 (chk_inv hz18).1 (fun x15 _ acc d17 hF hd17 => have fb_d17 := hd17; asb_name 3 (fun _ _ _ _ _ => ex_tup (ax_cons (ex_var 3 rfl (ax_cons (bi hF fun v23 hv23 hF => ex_fix v23 (up M d17 (.lst acc)) (have hF := hv23; ex_orT (ex_bin (ex_var 3 rfl (ex_int (bi hF fun v21 hv21 hF => od_dSub .id .id hv21 (bi hF fun t22 ht22 hF => ⟨_, _, .id, ht22, fun q20 => have hF := iF q20 hF; ex_one (ex_var 0 rfl (⟨so hF, rfl⟩)), fun q20 => ⟨so (iT q20 hF), rfl⟩⟩)))))) (ax_nil (⟨le_b rfl, ⟨so hF, rfl⟩⟩))))))) (hN := sc_ring_trials.nd)) (?_))))
  exact gx_seq (g1_ret (ex_less (ex_bin (ex_var 1 rfl (ex_lc (own := [("high", 4), ("low", 5)]) (hN := sc_ring_trials.nd) rfl (bi hF fun l24 hl24 hF => ix_seqU (M2 := M) (ex_var 2 rfl (⟨rfl, rfl⟩)) hl24 (bi hF fun _ hz29 hF => bi hF fun y27 hy27 hF => lcF hy27 (chk_inv hz29).1 (fun x26 _ acc d28 hF hd28 => have fb_d28 := hd28; bi hF fun p31 hp31 hF => asb_eq (un2_eq hp31) (asb_tup rfl (asb_cons (asb_name 4 (asb_cons (asb_name 5 (asb_nil (fun _ _ _ _ _ => ex_callX (fx_trial_with_1_zero T) Lets.no (fun h => nomatch h) (hr.mono (by decide)) T.m_trial_with T.d_trial_with.choose_spec.kp (ev_a (ax_cons (ex_var 0 rfl (ax_cons (ex_tup (ax_cons (ex_var 4 rfl (ax_cons (ex_gstr T.g_GENERATE (ax_nil (⟨le_b rfl, ax_cons (ex_tup (ax_cons (ex_var 5 rfl (ax_cons (ex_gstr T.g_KILL (ax_nil (⟨le_b rfl, ax_nil (kx_cons (ex_gstr T.g_PASS (kx_nil (bi hF fun v32 hv32 hF => ⟨rfl, ⟨[_], [_, _], rfl, rfl, rfl, le_b rfl, (fun h => nomatch h), ⟨_, _, _, v32, rfl, hv32, ⟨so hF, rfl⟩⟩⟩⟩))))⟩)))))))⟩))))))))))))) (hN := sc_ring_trials.nd))) (hN := sc_ring_trials.nd))))) (bi hF fun v33 hv33 hF => od_dAdd .id .id hv33 (⟨_, sub_refl, ret0 (so hF) hk⟩)))))))))
theorem fx_ring_trials_1 {pg : Program} {w : World} {K : PySem.W.Frag} {mg : Str → Option Value} {base : Heap} (T : Txt K mg base) : FnX pg w K mg base false 5 (He.fAd K ("ring_trials", none)) ([] : List PySem.Str) (fun ds zs M P R => ds.length = 1 ∧ zs.length = ([] : List PySem.Str).length ∧ tr_ring_trials K (pick (ds ++ ([] ++ zs)) [0]) M P R) :=
  fn_kwX T.d_ring_trials.choose_spec sc_ring_trials (ok_ring_trials T) 1 ([] : List PySem.Str) [] [] [0] (by simp) (fun _ => .nil) (fun kV D doc pm an cdv ct us mv ws e h1 h2 h3 => match us, mv, ws, h1, h2, h3 with | [_], [], [], _, _, _ => rfl) (fun us mv ws h1 h2 h3 => match us, mv, ws, h1, h2, h3 with | [_], [], [], _, _, _ => rfl)
def tr_trial_list (K : PySem.W.Frag) : TrB := fun ds M P R => ∃ x0 : D, ∃ x1 : D, ∃ x2 : D, ∃ r : D, ds = [x0, x1, x2] ∧ F_trial_list x0 x1 x2 = some r ∧ P r M
set_option maxHeartbeats 0 in
theorem ok_trial_list {pg : Program} {w : World} {K : PySem.W.Frag} {mg : Str → Option Value} {base : Heap} (T : Txt K mg base) : BodyX pg w K mg base false 6 (He.fAd K ("trial_list", none)) "trial_list" (defBody s_trial_list) (defScope s_trial_list) ["n", "ring", "stuck", "found"] ["n", "ring", "stuck"] (tr_trial_list K) := fun cdv hcv A outer s H F0 E ds M P R hgd0 hr t hL hpo kx => by
  obtain ⟨x0, x1, x2, r, rfl, hF, hk⟩ := t
  unfold F_trial_list at hF
  refine gx_seq (g1_asg (bi hF fun v5 hv5 hF => ex_fix v5 M (have hF := hv5; ex_if (tx_tru (ex_var 1 rfl (bi hF fun t1 ht1 hF => ⟨_, _, .id, ht1, ⟨fun q4 => have hF := iT q4 hF; ex_callX (fx_ring_trials_1 T) Lets.no (fun h => nomatch h) (hr.mono (by decide)) T.m_ring_trials T.d_ring_trials.choose_spec.kp (ev_a (ax_cons (ex_var 0 rfl (ax_nil (kx_nil (bi hF fun v2 hv2 hF => ⟨rfl, ⟨rfl, rfl, ⟨_, v2, rfl, hv2, ⟨so hF, rfl⟩⟩⟩⟩)))))), fun q4 => have hF := iF q4 hF; ex_callX (fx_adder_trials_1 T) Lets.no (fun h => nomatch h) (hr.mono (by decide)) T.m_adder_trials T.d_adder_trials.choose_spec.kp (ev_a (ax_cons (ex_var 0 rfl (ax_nil (kx_nil (bi hF fun v3 hv3 hF => ⟨rfl, ⟨rfl, rfl, ⟨_, v3, rfl, hv3, ⟨so hF, rfl⟩⟩⟩⟩))))))⟩⟩)))) (as_name 3 (?_) sc_trial_list.nd)))
  exact gx_seq (g1_ret (ex_less (bi hF fun v13 hv13 hF => ex_fix v13 M (have hF := hv13; ex_if (tx_tru (ex_var 2 rfl (bi hF fun t6 ht6 hF => ⟨_, _, .id, ht6, ⟨fun q12 => have hF := iT q12 hF; ex_bin (ex_var 3 rfl (ex_lst (ax_cons (ex_callX (fx_trial_with_1_zero T) Lets.no (fun h => nomatch h) (hr.mono (by decide)) T.m_trial_with T.d_trial_with.choose_spec.kp (ev_a (ax_cons (ex_var 0 rfl (ax_nil (kx_cons (bi hF fun v9 hv9 hF => ex_fix v9 M (have hF := hv9; ex_if (tx_tru (ex_var 1 rfl (bi hF fun t7 ht7 hF => ⟨_, _, .id, ht7, ⟨fun q8 => have hF := iT q8 hF; ex_gstr T.g_PASS (⟨so hF, rfl⟩), fun q8 => have hF := iF q8 hF; ex_gstr T.g_KILL (⟨so hF, rfl⟩)⟩⟩)))) (kx_nil (bi hF fun v10 hv10 hF => ⟨rfl, ⟨[_], [], rfl, rfl, rfl, le_b rfl, (fun h => nomatch h), ⟨_, _, _, v10, rfl, hv10, ax_nil (⟨le_b rfl, bi hF fun v11 hv11 hF => od_dAdd .id .id hv11 (⟨so hF, rfl⟩)⟩)⟩⟩⟩)))))))))))), fun q12 => have hF := iF q12 hF; ex_var 3 rfl (⟨so hF, rfl⟩)⟩⟩)))) (⟨_, sub_refl, ret0 (so hF) hk⟩))))
theorem fx_trial_list_3 {pg : Program} {w : World} {K : PySem.W.Frag} {mg : Str → Option Value} {base : Heap} (T : Txt K mg base) : FnX pg w K mg base false 7 (He.fAd K ("trial_list", none)) ([] : List PySem.Str) (fun ds zs M P R => ds.length = 3 ∧ zs.length = ([] : List PySem.Str).length ∧ tr_trial_list K (pick (ds ++ ([] ++ zs)) [0, 1, 2]) M P R) :=
  fn_kwX T.d_trial_list.choose_spec sc_trial_list (ok_trial_list T) 3 ([] : List PySem.Str) [] [] [0, 1, 2] (by simp) (fun _ => .nil) (fun kV D doc pm an cdv ct us mv ws e h1 h2 h3 => match us, mv, ws, h1, h2, h3 with | [_, _, _], [], [], _, _, _ => rfl) (fun us mv ws h1 h2 h3 => match us, mv, ws, h1, h2, h3 with | [_, _, _], [], [], _, _, _ => rfl)
def tr_standard_trials (K : PySem.W.Frag) : List D → List D → Prop := fun ds r => ∃ x0 : D, ∃ x1 : D, ∃ x2 : D, ds = [x0, x1, x2] ∧ F_standard_trials x0 x1 x2 = some r
set_option maxHeartbeats 0 in
theorem ok_standard_trials {pg : Program} {w : World} {K : PySem.W.Frag} {mg : Str → Option Value} {base : Heap} (T : Txt K mg base) : GF.GBodyY pg w K mg base 8 (He.fAd K ("standard_trials", none)) "standard_trials" (defBody s_standard_trials) (defScope s_standard_trials) ["n", "ring", "stuck"] ["n", "ring", "stuck"] (tr_standard_trials K) := fun cdv hcv A outer s H F0 pn dsa dsq M hr t => by
  obtain ⟨x0, x1, x2, rfl, hF⟩ := t
  unfold F_standard_trials at hF
  have hp : dsq <+: dsq := List.prefix_refl _
  refine GF.gf_seq (GF.gf_yieldFrom GF.fam_ok rfl rfl fun b_ hb_ => (ex_callX (fx_trial_list_3 T) Lets.no (fun h => nomatch h) (hr.mono (by decide)) T.m_trial_list T.d_trial_list.choose_spec.kp (ev_a (ax_cons (ex_var 0 rfl (ax_cons (ex_var 1 rfl (ax_cons (ex_var 2 rfl (ax_nil (kx_nil (bi hF fun v2 hv2 hF => ⟨rfl, ⟨rfl, rfl, ⟨_, _, _, v2, rfl, hv2, bi hF fun l3 hl3 hF => bi hF fun _ h1 hF => ⟨l3, lstD_eq hl3, (chk_inv h1).1, (GF.Ext.pre (k := fun Y_ : List D => some Y_) (by intros; repeat' (first | exact GF.pre_refl | refine GF.ext_loop (fun _ => ?_) (fun _ => ?_) ?_ | refine GF.ext_if ?_ ?_ | refine GF.ext_bnd fun _ => ?_ | refine GF.ext_end fun _ => ?_ | refine GF.pre_snoc ?_)) hF).trans hp, ?_⟩⟩⟩⟩))))))))))))
  show GF.GX _ _ _ _ _ _ _
  exact GF.gf_nil (so hF)
theorem fx_standard_trials_0_stuck_ring_n {pg : Program} {w : World} {K : PySem.W.Frag} {mg : Str → Option Value} {base : Heap} (T : Txt K mg base) : GF.GFnZ pg w K mg base 9 (He.fAd K ("standard_trials", none)) (["stuck", "ring", "n"] : List PySem.Str) (fun ds zs r => ds.length = 0 ∧ zs.length = (["stuck", "ring", "n"] : List PySem.Str).length ∧ tr_standard_trials K (pick (ds ++ ([] ++ zs)) [2, 1, 0]) r) :=
  GF.gfn_ZK T.d_standard_trials.choose_spec sc_standard_trials (ok_standard_trials T) 0 (["stuck", "ring", "n"] : List PySem.Str) [] [] [2, 1, 0] (by simp) (fun _ => .nil) (fun kV D doc pm an cdv ct us mv ws e h1 h2 h3 => match us, mv, ws, h1, h2, h3 with | [], [], [_, _, _], _, _, _ => rfl) (fun us mv ws h1 h2 h3 => match us, mv, ws, h1, h2, h3 with | [], [], [_, _, _], _, _, _ => rfl)
theorem fx_standard_trials_1 {pg : Program} {w : World} {K : PySem.W.Frag} {mg : Str → Option Value} {base : Heap} (T : Txt K mg base) : GF.GFnZ pg w K mg base 9 (He.fAd K ("standard_trials", none)) ([] : List PySem.Str) (fun ds zs r => ds.length = 1 ∧ zs.length = ([] : List PySem.Str).length ∧ tr_standard_trials K (pick (ds ++ ([D.bl false, D.bl false] ++ zs)) [0, 1, 2]) r) :=
  GF.gfn_ZK T.d_standard_trials.choose_spec sc_standard_trials (ok_standard_trials T) 1 ([] : List PySem.Str) [("ring", .bl false), ("stuck", .bl false)] [D.bl false, D.bl false] [0, 1, 2] (by simp) (fun _ => .cons (.bl _) (.cons (.bl _) (.nil))) (fun kV D doc pm an cdv ct us mv ws e h1 h2 h3 => by have e2 := e (by simp); subst e2; exact match us, mv, ws, h1, h2, h3 with | [_], [_, _], [], _, _, _ => ⟨_, _, _, _, _, _, rfl, rfl, ⟨_, _, _, _, _, _, rfl, rfl, rfl⟩⟩) (fun us mv ws h1 h2 h3 => match us, mv, ws, h1, h2, h3 with | [_], [_, _], [], _, _, _ => rfl)
theorem fx_standard_trials_1_stuck {pg : Program} {w : World} {K : PySem.W.Frag} {mg : Str → Option Value} {base : Heap} (T : Txt K mg base) : GF.GFnZ pg w K mg base 9 (He.fAd K ("standard_trials", none)) (["stuck"] : List PySem.Str) (fun ds zs r => ds.length = 1 ∧ zs.length = (["stuck"] : List PySem.Str).length ∧ tr_standard_trials K (pick (ds ++ ([D.bl false] ++ zs)) [0, 1, 2]) r) :=
  GF.gfn_ZK T.d_standard_trials.choose_spec sc_standard_trials (ok_standard_trials T) 1 (["stuck"] : List PySem.Str) [("ring", .bl false)] [D.bl false] [0, 1, 2] (by simp) (fun _ => .cons (.bl _) (.nil)) (fun kV D doc pm an cdv ct us mv ws e h1 h2 h3 => by have e2 := e (by simp); subst e2; exact match us, mv, ws, h1, h2, h3 with | [_], [_], [_], _, _, _ => ⟨_, _, _, _, _, _, rfl, rfl, rfl⟩) (fun us mv ws h1 h2 h3 => match us, mv, ws, h1, h2, h3 with | [_], [_], [_], _, _, _ => rfl)
def tr_law (K : PySem.W.Frag) : TrB := fun ds M P R => ∃ ns, ds = [.scr ns] ∧ TbM K tl M ∧ F_law (.scr ns) = some (.bl true) ∧ ∀ M', P (.bl true) M'
set_option maxHeartbeats 0 in
theorem ok_law {pg : Program} {w : World} {K : PySem.W.Frag} {mg : Str → Option Value} {base : Heap} (T : Txt K mg base) : BodyX pg w K mg base true 12 (He.fAd K ("law", none)) "law" (defBody s_law) (defScope s_law) ["_law_script", "_law_pen_here", "_law_turn", "_law_size", "_law_is_stuck", "_law_found", "_law_trial"] ["_law_script"] (tr_law K) := fun cdv hcv A outer s H F0 E ds M P R hgd0 hr t hL hpo kx => by
  have hgd := hgd0 rfl
  obtain ⟨ns, rfl, hTM, hF, hk0⟩ := t
  obtain ⟨x0, ex0⟩ : ∃ x0, x0 = D.scr ns := ⟨_, rfl⟩
  obtain ⟨r, er⟩ : ∃ r, r = D.bl true := ⟨_, rfl⟩
  rw [← ex0, ← er] at hF
  rw [← ex0]
  have hk : P r M := by rw [er]; exact hk0 M
  clear hk0
  unfold F_law at hF
  refine gx_seq (g1_asg (ex_callX (fx_Lpen_1 T) Lets.no (fun h => nomatch h) (hr.mono (by decide)) T.m_Lpen T.d_Lpen.choose_spec.kp (ev_a (ax_cons (ex_var 0 rfl (ax_nil (kx_nil (bi hF fun v1 hv1 hF => ⟨rfl, ⟨rfl, rfl, ⟨_, v1, rfl, hv1, fun a2 ha2 => have fb_a2 := ha2; as_name 1 (?_) sc_law.nd⟩⟩⟩))))))))
  refine gx_seq (g1_for hpo rfl (bi hF fun l3 hl3 hF => ix_range1U (M2 := (up M a2 (.lst v1))) T.b_range (ax_cons (ex_int (ax_nil (⟨rfl, rfl⟩)))) hl3 (bi hF fun c7 hlc7 hOc7 => forC hlc7 (fun s4 ρ' M' => ∃ j0 : Option D, ∃ j1 : Option D, ∃ j2 : Option D, ∃ j3 : Option D, ∃ j4 : Option D, ρ' = [some x0, some (.adr a2), j0, j1, j2, j3, j4] ∧ M' = (up M a2 (.lst s4))) ⟨_, _, _, _, _, rfl, rfl⟩ ?_ ?_)))
  · rintro x6 s4 b8 hF hbb8 _ _ ⟨_, _, _, _, _, rfl, rfl⟩
    try dsimp only at hF
    refine as_name 2 (?_) sc_law.nd
    refine gx_seq (g1_asg (ex_ix (ex_lst (ax_cons (ex_int (ax_cons (ex_int (ax_cons (ex_int (ax_cons (ex_int (ax_cons (ex_bin (ex_int (ex_callX (fx_Ldraw_2 T) Lets.no (fun h => nomatch h) (hr.mono (by decide)) T.m_Ldraw T.d_Ldraw.choose_spec.kp (ev_a (ax_cons (ex_var 1 rfl (ax_cons (ex_int (ax_nil (kx_nil (bi hF fun v9 hv9 hF => ⟨rfl, ⟨rfl, rfl, ⟨a2, s4, _, v9, (fun w0 => (up M a2 w0)), rfl, rfl, fun _ => at0, hv9, bi hF fun v10 hv10 hF => od_dAdd .id .id hv10 (ax_nil (⟨le_b rfl, ex_callX (fx_Ldraw_2 T) Lets.no (fun h => nomatch h) (hr.mono (by decide)) T.m_Ldraw T.d_Ldraw.choose_spec.kp (ev_a (ax_cons (ex_var 1 rfl (ax_cons (ex_int (ax_nil (kx_nil (bi hF fun v11 hv11 hF => ⟨rfl, ⟨rfl, rfl, ⟨a2, v9.2, _, v11, (fun w0 => (up M a2 w0)), rfl, rfl, fun _ => at0, hv11, bi hF fun v12 hv12 hF => id_dIx .id .id hv12 (as_name 3 (?_) sc_law.nd)⟩⟩⟩))))))))⟩))⟩⟩⟩)))))))))))))))))))))))
    refine gx_seq (g1_for hpo rfl (bi hF fun v13 hv13 hF => bi hF fun l14 hl14 hF => ix_seqU (M2 := (up M a2 (.lst v11.2))) ((have hF := hv13; ex_tup (ax_cons (ex_bl (ax_cons (ex_bl (ax_nil (⟨le_b rfl, ⟨so hF, rfl⟩⟩)))))))) hl14 (bi hF fun c18 hlc18 hOc18 => forC hlc18 (fun s15 ρ' M' => ∃ j0 : Option D, ∃ j1 : Option D, ∃ j2 : Option D, ρ' = [some x0, some (.adr a2), some x6, some v12, j0, j1, j2] ∧ M' = (up M a2 (.lst v11.2))) ⟨_, _, _, rfl, rfl⟩ ?_ ?_)))
    · rintro x17 s15 b19 hF hbb19 _ _ ⟨_, _, _, rfl, rfl⟩
      try dsimp only at hF
      refine as_name 4 (?_) sc_law.nd
      refine gx_seq (GF.g1_gc 5 (fx_standard_trials_1_stuck T) (hr.mono (by decide)) T.m_standard_trials T.d_standard_trials.choose_spec.kp (ev_a (ax_cons (ex_var 3 rfl (ax_nil (kx_cons (ex_var 4 rfl (kx_nil (bi hF fun v20 hv20 hF => ⟨rfl, ⟨_, ⟨rfl, rfl, ⟨_, _, _, rfl, hv20⟩⟩, ?_⟩⟩)))))))) (hN := sc_law.nd))
      refine gx_seq (g1_if (bi hF fun t30 ht30 hF => tx_fix t30 (up M a2 (.lst v11.2)) (have hF := ht30; tx_pw (wx_or (tx_cmp (ex_var 5 rfl (ex_callX (fx_Lstandard_3 T) Lets.no (fun h => nomatch h) (hr.mono (by decide)) T.m_Lstandard T.d_Lstandard.choose_spec.kp (ev_a (ax_cons (ex_var 3 rfl (ax_cons (ex_bl (ax_cons (ex_var 4 rfl (ax_nil (kx_nil (bi hF fun v23 hv23 hF => ⟨rfl, ⟨rfl, rfl, ⟨_, _, _, v23, rfl, hv23, bi hF fun t24 ht24 hF => od_cNe hr.units .id .id ht24 (⟨_, rfl, ⟨fun q22 => have hF := iF q22 hF; wx_or1 (tx_cmp (ex_blt T.b_len bb_len (ax_cons (ex_var 5 rfl (ax_nil (bi hF fun v25 hv25 hF => cd_dLen .id hv25 (ex_bin (ex_bin (ex_var 3 rfl (ex_int (bi hF fun v26 hv26 hF => od_dAdd .id .id hv26 (ex_ty T.b_int bb_int (ax_cons (ex_var 4 rfl (ax_nil (bi hF fun v27 hv27 hF => cd_dInt .id hv27 (bi hF fun v28 hv28 hF => od_dAdd .id .id hv28 (bi hF fun t29 ht29 hF => od_cNe hr.units .id .id ht29 (⟨_, rfl, ⟨so hF, rfl⟩⟩))))))))))))))))))), fun q22 => ⟨so (iT q22 hF), rfl⟩⟩⟩)⟩⟩⟩))))))))))))))) (⟨fun q21 => ?_, fun q21 => ?_⟩)))
      · have hF := iT q21 hF
        exact gx_seq (g1_ret (ex_less (ex_bl (⟨_, (sub_drop sub_refl fb_a2), ret0 (so (ctl_retS hOc7 (hbb8 _ (so (ctl_retR hOc18 (hbb19 _ (so hF).symm))).symm))) hk⟩))))
      · have hF := iF q21 hF
        refine gx_nil ?_
        show GX _ _ _ _ _ _
        refine gx_seq (bi hF fun c33 hF hRr32 => g1_mid (fun ρ' M' => ∃ r32 : D, c33 = .go r32 ∧ ∃ j0 : Option D, ρ' = [some x0, some (.adr a2), some x6, some v12, some x17, some r32, j0] ∧ M' = (up M a2 (.lst v11.2))) (g1_if (tx_cmp (ex_var 3 rfl (ex_int (bi hF fun t34 ht34 hF => od_cGt .id .id ht34 (⟨_, rfl, ⟨fun q31 => ?_, fun q31 => ?_⟩⟩)))))) ?_)
        · have hF := iT q31 hF
          refine gx_seq (GF.g1_gc 5 (fx_standard_trials_0_stuck_ring_n T) (hr.mono (by decide)) T.m_standard_trials T.d_standard_trials.choose_spec.kp (ev_0 (kx_cons (ex_var 4 rfl (kx_cons (ex_bl (kx_cons (ex_var 3 rfl (kx_nil (bi hF fun v35 hv35 hF => ⟨rfl, ⟨_, ⟨rfl, rfl, ⟨_, _, _, rfl, hv35⟩⟩, ?_⟩⟩))))))))) (hN := sc_law.nd))
          refine gx_seq (g1_if (bi hF fun t45 ht45 hF => tx_fix t45 (up M a2 (.lst v11.2)) (have hF := ht45; tx_pw (wx_or (tx_cmp (ex_var 5 rfl (ex_callX (fx_Lstandard_3 T) Lets.no (fun h => nomatch h) (hr.mono (by decide)) T.m_Lstandard T.d_Lstandard.choose_spec.kp (ev_a (ax_cons (ex_var 3 rfl (ax_cons (ex_bl (ax_cons (ex_var 4 rfl (ax_nil (kx_nil (bi hF fun v38 hv38 hF => ⟨rfl, ⟨rfl, rfl, ⟨_, _, _, v38, rfl, hv38, bi hF fun t39 ht39 hF => od_cNe hr.units .id .id ht39 (⟨_, rfl, ⟨fun q37 => have hF := iF q37 hF; wx_or1 (tx_cmp (ex_blt T.b_len bb_len (ax_cons (ex_var 5 rfl (ax_nil (bi hF fun v40 hv40 hF => cd_dLen .id hv40 (ex_bin (ex_bin (ex_int (ex_var 3 rfl (bi hF fun v41 hv41 hF => od_dMul .id .id hv41 (ex_ty T.b_int bb_int (ax_cons (ex_var 4 rfl (ax_nil (bi hF fun v42 hv42 hF => cd_dInt .id hv42 (bi hF fun v43 hv43 hF => od_dAdd .id .id hv43 (bi hF fun t44 ht44 hF => od_cNe hr.units .id .id ht44 (⟨_, rfl, ⟨so hF, rfl⟩⟩))))))))))))))))))), fun q37 => ⟨so (iT q37 hF), rfl⟩⟩⟩)⟩⟩⟩))))))))))))))) (⟨fun q36 => ?_, fun q36 => ?_⟩)))
          · have hF := iT q36 hF
            exact gx_seq (g1_ret (ex_less (ex_bl (⟨_, (sub_drop sub_refl fb_a2), ret0 (so (ctl_retS hOc7 (hbb8 _ (so (ctl_retR hOc18 (hbb19 _ (so (ctl_retR hRr32 (so hF).symm)).symm))).symm))) hk⟩))))
          · have hF := iF q36 hF
            refine gx_nil ?_
            show GX _ _ _ _ _ _
            exact gx_nil ⟨_, (so hF).symm, ⟨_, rfl, rfl⟩⟩
        · have hF := iF q31 hF
          exact gx_nil ⟨_, (so hF).symm, ⟨_, rfl, rfl⟩⟩
        · rintro _ _ ⟨r32, hg, ⟨_, rfl, rfl⟩⟩
          have hF := ctl_go hRr32 hg
          try dsimp only at hF
          show GX _ _ _ _ _ _
          exact gx_nil ⟨_, (so hF).symm, ⟨_, _, _, rfl, rfl⟩⟩
    · rintro r16 hg _ _ ⟨_, _, _, rfl, rfl⟩
      have hF := ctl_go hOc18 hg
      try dsimp only at hF
      show GX _ _ _ _ _ _
      refine gx_seq (g1_if (tx_not (tx_tru (ex_callX (fx_Lmade_right_1 T) Lets.no (fun _ => hgd) (hr.mono (by decide)) T.m_Lmade_right T.d_Lmade_right.choose_spec.kp (ev_a (ax_cons (ex_var 3 rfl (ax_nil (kx_nil (bi hF fun v47 hv47 hF => ⟨rfl, ⟨rfl, rfl, ⟨_, v47, rfl, hv47, bi hF fun t48 ht48 hF => ⟨_, _, .id, ht48, ⟨fun q46 => ?_, fun q46 => ?_⟩⟩⟩⟩⟩))))))))))
      · have hF := iT q46 hF
        exact gx_seq (g1_ret (ex_less (ex_bl (⟨_, (sub_drop sub_refl fb_a2), ret0 (so (ctl_retS hOc7 (hbb8 _ (so hF).symm))) hk⟩))))
      · have hF := iF q46 hF
        refine gx_nil ?_
        show GX _ _ _ _ _ _
        exact gx_nil ⟨_, (so hF).symm, ⟨_, _, _, _, _, rfl, rfl⟩⟩
  · rintro r5 hg _ _ ⟨_, _, _, _, _, rfl, rfl⟩
    have hF := ctl_go hOc7 hg
    try dsimp only at hF
    show GX _ _ _ _ _ _
    exact gx_seq (g1_ret (ex_less (ex_cmp (GF.ex_gc (fx_standard_trials_1 T) (hr.mono (by decide)) T.m_standard_trials T.d_standard_trials.choose_spec.kp (ev_a (ax_cons (ex_int (ax_nil (kx_nil (bi hF fun v49 hv49 hF => ⟨rfl, ⟨_, ⟨rfl, rfl, ⟨_, _, _, rfl, hv49⟩⟩, ex_lst (ax_cons (ex_str (ax_cons (ex_str (ax_cons (ex_str (ax_cons (ex_str (ax_nil (⟨le_b rfl, bi hF fun t50 ht50 hF => od_cEq hr.units .id .id ht50 (⟨_, (sub_drop sub_refl fb_a2), ret0 (so hF) hk⟩)⟩))))))))))⟩⟩))))))))))
theorem fx_law_1 {pg : Program} {w : World} {K : PySem.W.Frag} {mg : Str → Option Value} {base : Heap} (T : Txt K mg base) : FnX pg w K mg base true 13 (He.fAd K ("law", none)) ([] : List PySem.Str) (fun ds zs M P R => ds.length = 1 ∧ zs.length = ([] : List PySem.Str).length ∧ tr_law K (pick (ds ++ ([] ++ zs)) [0]) M P R) :=
  fn_kwX T.d_law.choose_spec sc_law (ok_law T) 1 ([] : List PySem.Str) [] [] [0] (by simp) (fun _ => .nil) (fun kV D doc pm an cdv ct us mv ws e h1 h2 h3 => match us, mv, ws, h1, h2, h3 with | [_], [], [], _, _, _ => rfl) (fun us mv ws h1 h2 h3 => match us, mv, ws, h1, h2, h3 with | [_], [], [], _, _, _ => rfl)
theorem law_start {K : PySem.W.Frag} {H : Hp} {a : Addr} {ns : List Int}  (hl : ns.length ≤ 63) (h1 : tbOne K tl = true) (hS : SqL K H a (ns.map V.int)) (hT : ∀ x ∈ tl, H (ctA K x.1).2 = some (.tbl #[])) : ∃ F M ds, Ok K F M H ∧ Rps K F [.ref a] ds ∧ ∃ ns, ds = [.scr ns] ∧ TbM K tl M ∧ F_law (.scr ns) = some (.bl true) ∧ ∀ M', (fun (d : D) (_ : Mem) => d = .bl true) (.bl true) M' :=
  DX.law_startT (T := fun ds zs M P R => ∃ ns, ds = [.scr ns] ∧ TbM K tl M ∧ F_law (.scr ns) = some (.bl true) ∧ ∀ M', P (.bl true) M') h1 hS hT fun M tm => ⟨ns, rfl, tm, law_true ns, fun _ => rfl⟩
theorem txt {K : PySem.W.Frag} {h : Heap} {mg : Str → Option Value} (X : K.In h) (G : h.Ns mainGlobals mg) (c : He.SaysD fa fn K) (xq : exq K = true) (cc : DX.SaysP fa fn pr exq K) : Txt0 K mg :=
  ⟨c.def_ 0 (d := dd_Lpen) rfl,
    He.glo_ok X G (c.fact 0 (f := .glo "_law_pen") rfl),
    c.def_ 1 (d := dd_Ldraw) rfl,
    He.glo_ok X G (c.fact 1 (f := .glo "_law_draw") rfl),
    c.def_ 2 (d := dd_trial_with) rfl,
    He.glo_ok X G (c.fact 2 (f := .glo "trial_with") rfl),
    c.def_ 3 (d := dd_adder_trials) rfl,
    He.glo_ok X G (c.fact 3 (f := .glo "adder_trials") rfl),
    c.def_ 4 (d := dd_state_at) rfl,
    He.glo_ok X G (c.fact 4 (f := .glo "state_at") rfl),
    c.def_ 5 (d := dd_worth_of) rfl,
    He.glo_ok X G (c.fact 5 (f := .glo "worth_of") rfl),
    c.def_ 6 (d := dd_carry_of) rfl,
    He.glo_ok X G (c.fact 6 (f := .glo "carry_of") rfl),
    c.def_ 7 (d := dd_numbers_of) rfl,
    He.glo_ok X G (c.fact 7 (f := .glo "numbers_of") rfl),
    c.def_ 8 (d := dd_made_additions) rfl,
    He.glo_ok X G (c.fact 8 (f := .glo "made_additions") rfl),
    c.def_ 9 (d := dd_Lput) rfl,
    He.glo_ok X G (c.fact 9 (f := .glo "_law_put") rfl),
    c.def_ 10 (d := dd_Lstandard) rfl,
    He.glo_ok X G (c.fact 10 (f := .glo "_law_standard") rfl),
    c.def_ 11 (d := dd_Lmade_right) rfl,
    He.glo_ok X G (c.fact 11 (f := .glo "_law_made_right") rfl),
    c.def_ 12 (d := dd_ring_trials) rfl,
    He.glo_ok X G (c.fact 12 (f := .glo "ring_trials") rfl),
    c.def_ 13 (d := dd_trial_list) rfl,
    He.glo_ok X G (c.fact 13 (f := .glo "trial_list") rfl),
    c.def_ 14 (d := dd_standard_trials) rfl,
    He.glo_ok X G (c.fact 14 (f := .glo "standard_trials") rfl),
    c.def_ 15 (d := dd_law) rfl,
    He.glo_ok X G (c.fact 15 (f := .glo "law") rfl),
    He.free_ok X G (c.fact 16 (f := .free "abs") rfl),
    He.free_ok X G (c.fact 17 (f := .free "dict") rfl),
    He.free_ok X G (c.fact 18 (f := .free "int") rfl),
    He.free_ok X G (c.fact 19 (f := .free "len") rfl),
    He.free_ok X G (c.fact 20 (f := .free "list") rfl),
    He.free_ok X G (c.fact 21 (f := .free "max") rfl),
    He.free_ok X G (c.fact 22 (f := .free "range") rfl),
    He.free_ok X G (c.fact 23 (f := .free "repr") rfl),
    He.free_ok X G (c.fact 24 (f := .free "tuple") rfl),
    He.free_ok X G (c.fact 25 (f := .free "zip") rfl),
    He.str_ok X G (c.fact 26 (f := .str "GENERATE" "G") rfl),
    He.str_ok X G (c.fact 27 (f := .str "KILL" "K") rfl),
    He.str_ok X G (c.fact 28 (f := .str "PASS" "P") rfl),
    xq⟩
end My
open PySem PySem.W PySem.Calls PyProof.Rows
set_option maxRecDepth 100000 in
set_option maxHeartbeats 0 in
theorem PySem.Challenge.cw_carryprobe_k27_standard_trials_holds : PySem.Challenge.rw_carryprobe_k27_standard_trials.Holds := by
  w_on; o_law
  refine HandSHeadRun.head_any (r := OpenLaw.row PySem.Challenge.rw_carryprobe_k27_standard_trials) (q := view (OpenLaw.row PySem.Challenge.rw_carryprobe_k27_standard_trials).prog [22]) (H := My.hk) (ob := My.ob) (M := 12000) (loose := My.loose) (d := HandSHeadRun.topDef (OpenLaw.row PySem.Challenge.rw_carryprobe_k27_standard_trials).prog 22) (kwd := []) My.ob_eq
    (by kernel_rfl) (fun s => by kernel_rfl) My.run (by kernel_rfl) (by kernel_rfl) (by kernel_rfl) (by rfl) (by first | assumption | decide +kernel) (by decide +kernel) ⟨rfl, rfl, rfl, rfl, rfl, by decide +kernel⟩ ?hw ?hc
  case hw => w_witness2
  case hc =>
    refine DX.walk_ofT (tn := My.tl.map (·.1)) (l := PySem.Challenge.rw_carryprobe_k27_standard_trials) (k := 13) rfl (by kernel_rfl) ⟨rfl, by decide, by decide⟩ ?G
    intro w mg fa h Y G hmg0
    obtain ⟨K, KX, cc, TK, h1⟩ := Y
    have hmg : mg ("law" : PySem.Str) = some (.ref fa) := by
      have e : (HandSHeadRun.topDef (OpenLaw.row PySem.Challenge.rw_carryprobe_k27_standard_trials).prog 22).name = ("law" : PySem.Str) := by kernel_rfl
      rw [← e]
      exact hmg0
    have T := My.txt KX G cc.says cc.exx cc
    have e := hmg.symm.trans T.m_law
    cases e
    exact ⟨K, _, KX, TK, fun H a ns hl hS hP => (by
      obtain ⟨F, M, ds, o, rd, ns, e, tm, q, k⟩ := My.law_start hl h1 hS fun x hx => hP _ (List.mem_map_of_mem hx)
      subst e
      exact ⟨F, M, _, o, rd, rfl, rfl, ns, rfl, tm, q, fun _ => rfl⟩), fun base _ _ hTB => My.fx_law_1 ⟨T, fun x hx => hTB _ (List.mem_map_of_mem hx)⟩⟩

