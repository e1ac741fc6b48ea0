import PyProof.Rows.All
import Wide.All
import OpenK.AllK
import Wide.FinOn
import HandS.ForMost
import HandS.ForExc
import HandS.Deep
import HandS.Set
import KE.KDictKeyed
import HandS.More
import HandS.ExcInit
import HandS.ExcOwn
import HandS.ExcField
import HandS.FStr
import HandS.HeadHook1
import HandS.Defaults
import HandS.TupAny
import HandS.TupMul
import HandS.Wide
import HandS.Style
import KE.DataEq
import KE.DataCmp
import KE.SortData
import KE.KTupSum
import HandS.IsInst
import HandS.Zip0
import HandS.Walk
import PyProof.Draws
import HandS.Zip
import KE.GoesZip
import HandS.Comp
import HandS.NoneIn
import HandS.Lambda
import HandS.Small
import HandS.Ends
import HandS.EndBits
import HandS.HeadEnd
import HandS.HeadHook3
import HandS.Codes
import HandS.Star
import HandS.Head0
import HandS.Head1
import HandS.Head2
import HandS.HeadHook2
import HandS.HeadHook4
import HandS.TryMany
import PyProof.FitsInt
import PyProof.StrLawsRepr
import HandS.SetFor
import HandS.Strs
import HandS.SetBool
import HandS.DictComp
import HandS.SortKw
import KE.SortKeyHeap
import KE.DataFind
import PySem.Challenge.RW_cutrelays_k04_sendings_in_order
set_option Elab.async false
set_option linter.all false
set_option maxRecDepth 100000
set_option maxHeartbeats 4000000
section
/-! CutBase: pure data, the evaluator's state, how data lies in the abstract heap. -/
namespace Cut
open PySem PySem.Spec PyProof.Rows L2

/-- what the run knows: the written part, the world, the program -/
structure KW where
  K : PySem.W.Frag
  w : World
  P : Program
instance : Coe KW PySem.W.Frag := ⟨KW.K⟩
abbrev _root_.L2.Cx.kw (X : Cx) : KW := ⟨X.K, X.w, X.prog⟩
/-- pure data; ob n: the n-th mutable object of the store -/
inductive D where
  | non | bl (b : Bool) | int (i : Int) | str (x : Str)
  | tup (l : List D) | lst (l : List D) | scr (l : List D) | dct (ks vs : List D) | set (l : List D) | tbl (ks vs : List D) | ob (n : Nat)
  deriving Inhabited

/-- a mutable object -/
inductive Ob where
  | lst (l : List D)
  | dct (ks vs : List D)
  | ins (C : Str) (fs : List (Str × D))
  deriving Inhabited

/-- an exception in flight -/
structure Ex where
  cls : Str
  fs : List (Str × D)

/-- the evaluator's state: the def's slots, the store -/
structure PSt where
  sl : List (Option D)
  ob : List (Option Ob)

inductive Out (α : Type) where
  | ok (a : α) (s : PSt)
  | ex (x : Ex) (s : PSt)
  | bad

/-- what an expression hands on: a value, a new list, a new dict -/
inductive Rv where
  | val (d : D) | fl (l : List D) | fd (ks vs : List D)

def Rv.toD : Rv → D
  | .val d => d
  | .fl l => .lst l
  | .fd ks vs => .dct ks vs

abbrev EM := PSt → Out D
abbrev RM := PSt → Out Rv
abbrev TM := PSt → Out Bool
abbrev AM := PSt → Out (List D)

def Out.bind {α β : Type} (o : Out α) (f : α → PSt → Out β) : Out β :=
  match o with
  | .ok a s => f a s
  | .ex x s => .ex x s
  | .bad => .bad

/-! ### how data lies in the heap -/
/-- a list that is never changed again -/
def FrL (F : Addr → Prop) (H : Hp) (a : Addr) (xs : List V) : Prop := F a ∧ H a = some (.lst xs)
/-- the script -/
def FrS (K : PySem.W.Frag) (H : Hp) (a : Addr) (xs : List V) : Prop := (∃ o, H a = some (.frz o (.lst xs))) ∨ SqL K (fun _ => none) a xs
theorem FrS.sq {K : PySem.W.Frag} {H : Hp} {a : Addr} {xs : List V} (h : FrS K H a xs) : SqL K H a xs := by
  rcases h with h | (h | ⟨o, h⟩) | h
  · exact .inl (.inr h)
  · cases h
  · cases h
  · exact .inr h
/-- a dict with int and text keys that is never changed again -/
def FrD (F : Addr → Prop) (H : Hp) (a : Addr) (kx vx : List V) : Prop :=
  ∃ kvs : List (Key × V), F a ∧ H a = some (.dK kvs) ∧ kx = kvs.map (fun p => kV p.1) ∧ vx = kvs.map (·.2)

/-- a set object of n members -/
def SetLen (h : Heap) (a : Addr) (n : Nat) : Prop := ∃ o es ep t, h.get? a = some o ∧ o.ExactSet ∧ o.data = .set es ep t ∧ t.fits es.size = true ∧ (es.size : Int) < 2 ^ 63 ∧ es.size = n
/-- a set that is never changed again -/
def FrZ (F : Addr → Prop) (H : Hp) (a : Addr) (n : Nat) : Prop := F a ∧ ∃ φ : Heap → Prop, H a = some (.ext φ) ∧ ∀ h, φ h → SetLen h a n

mutual
def D.nk : D → Option NestedKey
  | .non => some .none
  | .bl b => some (.num (if b = true then 1 else 0))
  | .int i => some (.num i)
  | .str x => some (.text x)
  | .tup l => (D.nks l).map .tup
  | _ => none
def D.nks : List D → Option (List NestedKey)
  | [] => some []
  | d :: l => d.nk.bind fun k => (D.nks l).map (k :: ·)
end
/-- a tuple as a dict's key -/
def keyT (d : D) : Option NestedKey := match d with
  | .tup l => (D.nk (.tup l)).bind fun k => if k.depth ≤ 8 then some k else none
  | _ => none
def keysT : List D → Option (List NestedKey)
  | [] => some []
  | d :: l => (keyT d).bind fun k => (keysT l).map (k :: ·)
/-- a dict object whose keys are tuples -/
def TblAt (K : KW) (a : Addr) (es : List (NestedKey × Addr × V)) (h : Heap) : Prop := (a == sysModules) = false ∧ es.length ≤ sizeLine ∧
  ∃ xs : List (NestedKey × Addr × Value), Paired (fun p q => p.1 = q.1 ∧ p.2.1 = q.2.1 ∧ RelV p.2.2 q.2.2) es xs ∧
    ∃ o des ep, h.get? a = some o ∧ o.ExactDict ∧ o.data = .dict des ep ∧ des.toList = xs.map (entryOfKey (nestedKind K.P K.w)) ∧ (xs.map (·.1)).Nodup
def FrT (K : KW) (F : Addr → Prop) (H : Hp) (a : Addr) (es : List (NestedKey × Addr × V)) : Prop := F a ∧ H a = some (.ext (TblAt K a es))

mutual
inductive Den (K : KW) (ι : List Addr) (F : Addr → Prop) (H : Hp) : V → D → Prop
  | non : Den K ι F H .non .non
  | bl (b : Bool) : Den K ι F H (.bl b) (.bl b)
  | int (i : Int) : Den K ι F H (.int i) (.int i)
  | str (x : Str) : Den K ι F H (.str x) (.str x)
  | tup {a : Addr} {xs : List V} {ds : List D} : SqT K H a xs → Dens K ι F H xs ds → Den K ι F H (.ref a) (.tup ds)
  | lst {a : Addr} {xs : List V} {ds : List D} : FrL F H a xs → Dens K ι F H xs ds → Den K ι F H (.ref a) (.lst ds)
  | scr {a : Addr} {xs : List V} {ds : List D} : FrS K H a xs → Dens K ι F H xs ds → Den K ι F H (.ref a) (.scr ds)
  | dct {a : Addr} {kx vx : List V} {ks vs : List D} : FrD F H a kx vx → Dens K ι F H kx ks → Dens K ι F H vx vs → Den K ι F H (.ref a) (.dct ks vs)
  | set {a : Addr} {ds : List D} : FrZ F H a ds.length → Den K ι F H (.ref a) (.set ds)
  | tbl {a : Addr} {es : List (NestedKey × Addr × V)} {ks vs : List D} : FrT K F H a es → keysT ks = some (es.map (·.1)) → Dens K ι F H (es.map fun e => V.ref e.2.1) ks → Dens K ι F H (es.map (·.2.2)) vs → Den K ι F H (.ref a) (.tbl ks vs)
  | ob {a : Addr} {n : Nat} : ι[n]? = some a → Den K ι F H (.ref a) (.ob n)
inductive Dens (K : KW) (ι : List Addr) (F : Addr → Prop) (H : Hp) : List V → List D → Prop
  | nil : Dens K ι F H [] []
  | cons {v : V} {vs : List V} {d : D} {ds : List D} : Den K ι F H v d → Dens K ι F H vs ds → Dens K ι F H (v :: vs) (d :: ds)
end

/-- how a stretch of the run changes the ghost and the heap: objects' addresses, the frozen, the abstract heap -/
structure Ext (ι : List Addr) (F : Addr → Prop) (H : Hp) (ι' : List Addr) (F' : Addr → Prop) (H' : Hp) : Prop where
  pre : ∃ t, ι' = ι ++ t ∧ ∀ a ∈ t, H a = none
  fro : ∀ a, F a → F' a
  newF : ∀ a, F' a → F a ∨ H a = none ∨ a ∈ ι
  keep : ∀ a o, H a = some o → (a ∉ ι ∨ F a) → H' a = some o
  tups : ∀ a xs, H a = some (.tup xs) → H' a = some (.tup xs)
  frzs : ∀ a o u, H a = some (.frz o u) → H' a = some (.frz o u)
  there : ∀ a, H' a = none → H a = none

section
variable {K : KW} {ι ι' ι2 : List Addr} {F F' F2 : Addr → Prop} {H H' H2 : Hp}
theorem Ext.refl : Ext ι F H ι F H := ⟨⟨[], by simp, by simp⟩, fun _ h => h, fun _ h => .inl h, fun _ _ h _ => h, fun _ _ h => h, fun _ _ _ h => h, fun _ h => h⟩
theorem Ext.mem (e : Ext ι F H ι' F' H') {a : Addr} (h : a ∈ ι') : a ∈ ι ∨ H a = none := by
  obtain ⟨t, rfl, ht⟩ := e.pre
  rcases List.mem_append.mp h with h | h
  · exact .inl h
  · exact .inr (ht a h)
theorem Ext.trans (a : Ext ι F H ι' F' H') (b : Ext ι' F' H' ι2 F2 H2) : Ext ι F H ι2 F2 H2 := by
  refine ⟨?_, fun x h => b.fro x (a.fro x h), fun x h => ?_, fun x o h hx => ?_, fun x xs h => b.tups x xs (a.tups x xs h), fun x o u h => b.frzs x o u (a.frzs x o u h), fun x h => a.there x (b.there x h)⟩
  · obtain ⟨t, rfl, ht⟩ := a.pre
    obtain ⟨t2, rfl, ht2⟩ := b.pre
    refine ⟨t ++ t2, by rw [List.append_assoc], fun x hx => ?_⟩
    rcases List.mem_append.mp hx with hx | hx
    · exact ht x hx
    · exact a.there x (ht2 x hx)
  · rcases b.newF x h with h | h | h
    · exact a.newF x h
    · exact .inr (.inl (a.there x h))
    · rcases a.mem h with h | h
      · exact .inr (.inr h)
      · exact .inr (.inl h)
  · refine b.keep x o (a.keep x o h hx) ?_
    rcases hx with hx | hx
    · refine .inl fun hm => ?_
      rcases a.mem hm with z | z
      · exact hx z
      · rw [h] at z; cases z
    · exact .inr (a.fro x hx)
theorem Ext.get (e : Ext ι F H ι' F' H') {n : Nat} {a : Addr} (h : ι[n]? = some a) : ι'[n]? = some a := by
  obtain ⟨t, rfl, _⟩ := e.pre
  rw [List.getElem?_append_left (List.getElem?_eq_some_iff.mp h).1]
  exact h
/-- what data needs of a stretch of the run -/
structure Wx (ι : List Addr) (F : Addr → Prop) (H : Hp) (ι' : List Addr) (F' : Addr → Prop) (H' : Hp) : Prop where
  pre : ∃ t, ι' = ι ++ t
  fro : ∀ a, F a → F' a
  keep : ∀ a o, H a = some o → F a → H' a = some o
  tups : ∀ a xs, H a = some (.tup xs) → H' a = some (.tup xs)
  frzs : ∀ a o u, H a = some (.frz o u) → H' a = some (.frz o u)
theorem Ext.wx (e : Ext ι F H ι' F' H') : Wx ι F H ι' F' H' := ⟨let ⟨t, h, _⟩ := e.pre; ⟨t, h⟩, e.fro, fun a o h f => e.keep a o h (.inr f), e.tups, e.frzs⟩
theorem Wx.refl : Wx ι F H ι F H := Ext.refl.wx
theorem Wx.trans (a : Wx ι F H ι' F' H') (b : Wx ι' F' H' ι2 F2 H2) : Wx ι F H ι2 F2 H2 := by
  obtain ⟨t, h⟩ := a.pre
  obtain ⟨t2, h2⟩ := b.pre
  exact ⟨⟨t ++ t2, by rw [h2, h, List.append_assoc]⟩, fun x z => b.fro x (a.fro x z), fun x o z f => b.keep x o (a.keep x o z f) (a.fro x f), fun x xs z => b.tups x xs (a.tups x xs z), fun x o u z => b.frzs x o u (a.frzs x o u z)⟩
theorem Wx.get (e : Wx ι F H ι' F' H') {n : Nat} {a : Addr} (h : ι[n]? = some a) : ι'[n]? = some a := by
  obtain ⟨t, rfl⟩ := e.pre
  rw [List.getElem?_append_left (List.getElem?_eq_some_iff.mp h).1]
  exact h
theorem SqT.wx (e : Wx ι F H ι' F' H') {a : Addr} {xs : List V} (h : SqT K H a xs) : SqT K H' a xs := by
  rcases h with (h | ⟨o, h⟩) | h
  · exact .inl (.inl (e.tups _ _ h))
  · exact .inl (.inr ⟨o, e.frzs _ _ _ h⟩)
  · exact .inr h
theorem FrL.wx (e : Wx ι F H ι' F' H') {a : Addr} {xs : List V} (h : FrL F H a xs) : FrL F' H' a xs := ⟨e.fro _ h.1, e.keep _ _ h.2 h.1⟩
theorem FrS.wx (e : Wx ι F H ι' F' H') {a : Addr} {xs : List V} (h : FrS K H a xs) : FrS K H' a xs := h.imp (fun ⟨o, h⟩ => ⟨o, e.frzs _ _ _ h⟩) id
theorem FrD.wx (e : Wx ι F H ι' F' H') {a : Addr} {kx vx : List V} (h : FrD F H a kx vx) : FrD F' H' a kx vx := by
  obtain ⟨kvs, f, h, e1, e2⟩ := h
  exact ⟨kvs, e.fro _ f, e.keep _ _ h f, e1, e2⟩
theorem FrT.wx (e : Wx ι F H ι' F' H') {a : Addr} {es : List (NestedKey × Addr × V)} (h : FrT K F H a es) : FrT K F' H' a es := ⟨e.fro _ h.1, e.keep _ _ h.2 h.1⟩
theorem FrZ.wx (e : Wx ι F H ι' F' H') {a : Addr} {n : Nat} (h : FrZ F H a n) : FrZ F' H' a n := by
  obtain ⟨f, φ, h1, h2⟩ := h
  exact ⟨e.fro _ f, φ, e.keep _ _ h1 f, h2⟩
mutual
theorem Den.wx (e : Wx ι F H ι' F' H') : ∀ {v : V} {d : D}, Den K ι F H v d → Den K ι' F' H' v d
  | _, _, .non => .non
  | _, _, .bl b => .bl b
  | _, _, .int i => .int i
  | _, _, .str x => .str x
  | _, _, .tup h hs => .tup (SqT.wx e h) (Dens.wx e hs)
  | _, _, .lst h hs => .lst (h.wx e) (Dens.wx e hs)
  | _, _, .scr h hs => .scr (h.wx e) (Dens.wx e hs)
  | _, _, .dct h h1 h2 => .dct (h.wx e) (Dens.wx e h1) (Dens.wx e h2)
  | _, _, .set h => .set (h.wx e)
  | _, _, .tbl h k h1 h2 => .tbl (h.wx e) k (Dens.wx e h1) (Dens.wx e h2)
  | _, _, .ob h => .ob (e.get h)
theorem Dens.wx (e : Wx ι F H ι' F' H') : ∀ {vs : List V} {ds : List D}, Dens K ι F H vs ds → Dens K ι' F' H' vs ds
  | _, _, .nil => .nil
  | _, _, .cons h hs => .cons (Den.wx e h) (Dens.wx e hs)
end
theorem SqT.ext (e : Ext ι F H ι' F' H') {a : Addr} {xs : List V} (h : SqT K H a xs) : SqT K H' a xs := SqT.wx e.wx h
theorem FrL.ext (e : Ext ι F H ι' F' H') {a : Addr} {xs : List V} (h : FrL F H a xs) : FrL F' H' a xs := h.wx e.wx
theorem FrS.ext (e : Ext ι F H ι' F' H') {a : Addr} {xs : List V} (h : FrS K H a xs) : FrS K H' a xs := h.wx e.wx
theorem FrD.ext (e : Ext ι F H ι' F' H') {a : Addr} {kx vx : List V} (h : FrD F H a kx vx) : FrD F' H' a kx vx := h.wx e.wx
theorem Den.ext (e : Ext ι F H ι' F' H') {v : V} {d : D} (h : Den K ι F H v d) : Den K ι' F' H' v d := h.wx e.wx
theorem Dens.ext (e : Ext ι F H ι' F' H') {vs : List V} {ds : List D} (h : Dens K ι F H vs ds) : Dens K ι' F' H' vs ds := h.wx e.wx
theorem Dens.length {vs : List V} {ds : List D} (h : Dens K ι F H vs ds) : vs.length = ds.length := by
  induction vs generalizing ds with
  | nil => cases h; rfl
  | cons v vs ih => cases h with | cons _ h => simp [ih h]
theorem Dens.get {vs : List V} {ds : List D} (h : Dens K ι F H vs ds) {i : Nat} {d : D} (e : ds[i]? = some d) : ∃ v, vs[i]? = some v ∧ Den K ι F H v d := by
  induction vs generalizing ds i with
  | nil => cases h; simp at e
  | cons v vs ih =>
    cases h with
    | cons h1 h =>
      cases i with
      | zero => simp at e; subst e; exact ⟨v, by simp, h1⟩
      | succ i => simpa using ih h (by simpa using e)
theorem Dens.get' {vs : List V} {ds : List D} (h : Dens K ι F H vs ds) {i : Nat} {v : V} (e : vs[i]? = some v) : ∃ d, ds[i]? = some d ∧ Den K ι F H v d := by
  induction vs generalizing ds i with
  | nil => simp at e
  | cons v vs ih =>
    cases h with
    | cons h1 h =>
      cases i with
      | zero => simp at e; subst e; exact ⟨_, by simp, h1⟩
      | succ i => simpa using ih h (by simpa using e)
theorem Dens.append {vs ws : List V} {ds es : List D} (h : Dens K ι F H vs ds) (h2 : Dens K ι F H ws es) : Dens K ι F H (vs ++ ws) (ds ++ es) := by
  induction vs generalizing ds with
  | nil => cases h; exact h2
  | cons v vs ih => cases h with | cons h1 h => exact .cons h1 (ih h)
theorem Dens.take {vs : List V} {ds : List D} (n : Nat) (h : Dens K ι F H vs ds) : Dens K ι F H (vs.take n) (ds.take n) := by
  induction vs generalizing ds n with
  | nil => cases h; simpa using .nil
  | cons v vs ih =>
    cases h with
    | cons h1 h => cases n with
      | zero => exact .nil
      | succ n => exact .cons h1 (ih n h)
theorem Dens.drop {vs : List V} {ds : List D} (n : Nat) (h : Dens K ι F H vs ds) : Dens K ι F H (vs.drop n) (ds.drop n) := by
  induction vs generalizing ds n with
  | nil => cases h; simpa using .nil
  | cons v vs ih =>
    cases h with
    | cons h1 h => cases n with
      | zero => exact .cons h1 h
      | succ n => exact ih n h
theorem Dens.set {vs : List V} {ds : List D} (i : Nat) {v : V} {d : D} (h : Dens K ι F H vs ds) (h1 : Den K ι F H v d) : Dens K ι F H (vs.set i v) (ds.set i d) := by
  induction vs generalizing ds i with
  | nil => cases h; exact .nil
  | cons w vs ih =>
    cases h with
    | cons h2 h => cases i with
      | zero => exact .cons h1 h
      | succ i => exact .cons h2 (ih i h)
theorem Dens.reverse {vs : List V} {ds : List D} (h : Dens K ι F H vs ds) : Dens K ι F H vs.reverse ds.reverse := by
  induction vs generalizing ds with
  | nil => cases h; exact .nil
  | cons w vs ih => cases h with | cons h2 h => simp only [List.reverse_cons]; exact (ih h).append (.cons h2 .nil)

/-! ### what the state says of slots and heap -/
/-- an object of the store at a -/
def DenO (K : KW) (mg : Str → Option Value) (ι : List Addr) (F : Addr → Prop) (H : Hp) (a : Addr) : Ob → Prop
  | .lst ds => ∃ xs, H a = some (.lst xs) ∧ Dens K ι F H xs ds
  | .dct ks vs => ∃ kvs : List (Key × V), H a = some (.dK kvs) ∧ Dens K ι F H (kvs.map fun p => kV p.1) ks ∧ Dens K ι F H (kvs.map (·.2)) vs
  | .ins C fs => ∃ (cC dx : Addr) (xs : List (Str × V)), mg C = some (.ref cC) ∧ H a = some (.ins cC dx xs) ∧ xs.map (·.1) = fs.map (·.1) ∧ Dens K ι F H (xs.map (·.2)) (fs.map (·.2))
structure ORel (K : KW) (mg : Str → Option Value) (ι : List Addr) (F : Addr → Prop) (ob : List (Option Ob)) (H : Hp) : Prop where
  len : ι.length = ob.length
  nd : ι.Nodup
  obs : ∀ (n : Nat) (o : Ob), ob[n]? = some (some o) → ∃ a, ι[n]? = some a ∧ ¬ F a ∧ DenO K mg ι F H a o
  use : ∀ a, F a → H a ≠ none
  used : ∀ a ∈ ι, H a ≠ none
structure Rel (K : KW) (mg : Str → Option Value) (ι : List Addr) (F : Addr → Prop) (ps : PSt) (σ : L2.St) (H : Hp) : Prop where
  ob : ORel K mg ι F ps.ob H
  sl : ∀ (i : Nat) (d : D), ps.sl[i]? = some (some d) → ∃ v, σ[i]? = some (some v) ∧ Den K ι F H v d
  len : ps.sl.length = σ.length
end
end Cut
end
section
/-! CutJudge: what an outcome promises, the readings, the static context, how readings are put together. -/
namespace Cut
open PySem PySem.Spec PyProof.Rows L2

/-- the heap only grows -/
def Grow (H H' : Hp) : Prop := ∀ a o, H a = some o → H' a = some o
theorem Grow.refl {H : Hp} : Grow H H := fun _ _ h => h
theorem Grow.trans {H H1 H2 : Hp} (a : Grow H H1) (b : Grow H1 H2) : Grow H H2 := fun x o h => b x o (a x o h)
theorem Grow.upd {H : Hp} {p : Addr} {o : HO} (h : H p = none) : Grow H (upd H p o) := fun b x e => by
  rw [upd_ne (ne_of_none e h)]; exact e

section
variable {K : KW} {mg : Str → Option Value} {ι ι' ι0 ι2 : List Addr} {F F' F0 F2 : Addr → Prop} {H H' H0 H2 : Hp} {ps : PSt} {σ : L2.St}
theorem Ext.grow (g : Grow H H') : Ext ι F H ι F H' :=
  ⟨⟨[], by simp, by simp⟩, fun _ h => h, fun _ h => .inl h, fun a o h _ => g a o h, fun a xs h => g a _ h, fun a o u h => g a _ h, fun a h => by
    cases e : H a with
    | none => rfl
    | some o => rw [g a o e] at h; cases h⟩
theorem Den.grow (g : Grow H H') {v : V} {d : D} (h : Den K ι F H v d) : Den K ι F H' v d := h.ext (Ext.grow g)
theorem Dens.grow (g : Grow H H') {v : List V} {d : List D} (h : Dens K ι F H v d) : Dens K ι F H' v d := h.ext (Ext.grow g)
theorem DenO.ext (e : Ext ι F H ι' F' H') {a : Addr} {o : Ob} (h : DenO K mg ι F H a o) (ha : H' a = H a) : DenO K mg ι' F' H' a o := by
  cases o with
  | lst ds => obtain ⟨xs, h1, h2⟩ := h; exact ⟨xs, ha.trans h1, h2.ext e⟩
  | dct ks vs => obtain ⟨kvs, h1, h2, h3⟩ := h; exact ⟨kvs, ha.trans h1, h2.ext e, h3.ext e⟩
  | ins C fs => obtain ⟨cC, dx, xs, h0, h1, h2, h3⟩ := h; exact ⟨cC, dx, xs, h0, ha.trans h1, h2, h3.ext e⟩
theorem ORel.grow {ob : List (Option Ob)} (r : ORel K mg ι F ob H) (g : Grow H H') : ORel K mg ι F ob H' := by
  have same : ∀ a, H a ≠ none → H' a = H a := fun a h => by
    cases e : H a with
    | none => exact absurd e h
    | some o => exact g a o e
  refine ⟨r.len, r.nd, fun n o h => ?_, fun a h => ?_, fun a h => ?_⟩
  · obtain ⟨a, h1, h2, h3⟩ := r.obs n o h
    exact ⟨a, h1, h2, h3.ext (Ext.grow g) (same a (r.used a (List.mem_of_getElem? h1)))⟩
  · rw [same a (r.use a h)]; exact r.use a h
  · rw [same a (r.used a h)]; exact r.used a h
theorem Rel.grow (r : Rel K mg ι F ps σ H) (g : Grow H H') : Rel K mg ι F ps σ H' :=
  ⟨r.ob.grow g, fun i d h => let ⟨v, h1, h2⟩ := r.sl i d h; ⟨v, h1, h2.grow g⟩, r.len⟩
/-- one more address frozen -/
def fz (F : Addr → Prop) (p : Addr) : Addr → Prop := fun a => F a ∨ a = p
theorem Ext.frz (e : Ext ι0 F0 H0 ι F H) {p : Addr} (h0 : H0 p = none) : Ext ι0 F0 H0 ι (fz F p) H :=
  ⟨e.pre, fun a h => .inl (e.fro a h), fun a h => by
    rcases h with h | h
    · exact e.newF a h
    · exact .inr (.inl (h ▸ h0)), e.keep, e.tups, e.frzs, e.there⟩
theorem Ext.fz1 {p : Addr} (hp : H p ≠ none) : (∀ a, F a → fz F p a) := fun _ h => .inl h
mutual
theorem Den.fz {p : Addr} : ∀ {v : V} {d : D}, Den K ι F H v d → Den K ι (fz F p) H v d
  | _, _, .non => .non
  | _, _, .bl b => .bl b
  | _, _, .int i => .int i
  | _, _, .str x => .str x
  | _, _, .tup h hs => .tup h (Dens.fz hs)
  | _, _, .lst h hs => .lst ⟨.inl h.1, h.2⟩ (Dens.fz hs)
  | _, _, .scr h hs => .scr h (Dens.fz hs)
  | _, _, .dct h h1 h2 => .dct (by obtain ⟨kvs, f, h⟩ := h; exact ⟨kvs, .inl f, h⟩) (Dens.fz h1) (Dens.fz h2)
  | _, _, .set h => .set ⟨.inl h.1, h.2⟩
  | _, _, .tbl h k h1 h2 => .tbl ⟨.inl h.1, h.2⟩ k (Dens.fz h1) (Dens.fz h2)
  | _, _, .ob h => .ob h
theorem Dens.fz {p : Addr} : ∀ {vs : List V} {ds : List D}, Dens K ι F H vs ds → Dens K ι (fz F p) H vs ds
  | _, _, .nil => .nil
  | _, _, .cons h hs => .cons (Den.fz h) (Dens.fz hs)
end
theorem ORel.frz {ob : List (Option Ob)} (r : ORel K mg ι F ob H) {p : Addr} (hp : H p ≠ none) (hn : p ∉ ι) : ORel K mg ι (fz F p) ob H := by
  refine ⟨r.len, r.nd, fun n o h => ?_, fun a h => ?_, r.used⟩
  · obtain ⟨a, h1, h2, h3⟩ := r.obs n o h
    refine ⟨a, h1, fun z => ?_, ?_⟩
    · rcases z with z | z
      · exact h2 z
      · exact hn (z ▸ List.mem_of_getElem? h1)
    · cases o with
      | lst ds => obtain ⟨xs, g1, g2⟩ := h3; exact ⟨xs, g1, g2.fz⟩
      | dct ks vs => obtain ⟨kvs, g1, g2, g3⟩ := h3; exact ⟨kvs, g1, g2.fz, g3.fz⟩
      | ins C fs => obtain ⟨cC, dx, xs, g0, g1, g2, g3⟩ := h3; exact ⟨cC, dx, xs, g0, g1, g2, g3.fz⟩
  · rcases h with h | h
    · exact r.use a h
    · exact h ▸ hp
theorem Rel.frz (r : Rel K mg ι F ps σ H) {p : Addr} (hp : H p ≠ none) (hn : p ∉ ι) : Rel K mg ι (fz F p) ps σ H :=
  ⟨r.ob.frz hp hn, fun i d h => let ⟨v, h1, h2⟩ := r.sl i d h; ⟨v, h1, h2.fz⟩, r.len⟩

/-- what an expression hands on, its start's heap H0: a new object stands where nothing stood, and nobody holds it -/
def DenR (K : KW) (ι : List Addr) (F : Addr → Prop) (H0 H : Hp) (v : V) : Rv → Prop
  | .val d => Den K ι F H v d
  | .fl ds => ∃ p xs, v = .ref p ∧ H0 p = none ∧ p ∉ ι ∧ ¬ F p ∧ H p = some (.lst xs) ∧ Dens K ι F H xs ds
  | .fd ks vs => ∃ p, ∃ kvs : List (Key × V), v = .ref p ∧ H0 p = none ∧ p ∉ ι ∧ ¬ F p ∧ H p = some (.dK kvs) ∧ Dens K ι F H (kvs.map fun p => kV p.1) ks ∧ Dens K ι F H (kvs.map (·.2)) vs
theorem DenR.weak {v : V} {r : Rv} (h : DenR K ι F H2 H v r) (t : ∀ a, H2 a = none → H0 a = none) : DenR K ι F H0 H v r := by
  cases r with
  | val d => exact h
  | fl ds => obtain ⟨p, xs, e, h0, h1⟩ := h; exact ⟨p, xs, e, t p h0, h1⟩
  | fd ks vs => obtain ⟨p, xs, e, h0, h1⟩ := h; exact ⟨p, xs, e, t p h0, h1⟩

/-- an exception in flight: its class by the module's name, its fields -/
def DenX (K : KW) (mg : Str → Option Value) (ι : List Addr) (F : Addr → Prop) (H : Hp) (cls : Value) (dd : Option Addr) (x : Ex) : Prop :=
  mg x.cls = some cls ∧ (x.fs = [] ∨ ∃ d xs, dd = some d ∧ H d = some (.xd xs) ∧ ∀ f z, x.fs.lookup f = some z → ∃ v, xs.lookup f = some v ∧ Den K ι F H v z)

/-- what is wanted of an outcome, from where it began -/
def Sat {α β : Type} (K : KW) (mg : Str → Option Value) (W : WX) (R : List Addr → (Addr → Prop) → Hp → Hp → β → α → Prop) (σ : L2.St) (ι : List Addr) (F : Addr → Prop) (H : Hp) (o : Out α) (Q : β → Hp → Prop) : Prop :=
  match o with
  | .ok a ps' => ∀ ι' F' H' b, Ext ι F H ι' F' H' → Rel K mg ι' F' ps' σ H' → R ι' F' H H' b a → Q b H'
  | .ex x ps' => ∀ ι' F' H' cls dd, Ext ι F H ι' F' H' → Rel K mg ι' F' ps' σ H' → DenX K mg ι' F' H' cls dd x → W cls dd σ H'
  | .bad => False
def tO {α β : Type} (K : KW) (mg : Str → Option Value) (W : WX) (R : List Addr → (Addr → Prop) → Hp → Hp → β → α → Prop) (f : PSt → Out α) : L2.St → Hp → (β → Hp → Prop) → Prop :=
  fun σ H Q => ∃ ι F ps, Rel K mg ι F ps σ H ∧ Sat K mg W R σ ι F H (f ps) Q
abbrev rE (K : KW) : List Addr → (Addr → Prop) → Hp → Hp → V → D → Prop := fun ι F _ H v d => Den K ι F H v d
abbrev rR (K : KW) : List Addr → (Addr → Prop) → Hp → Hp → V → Rv → Prop := fun ι F H0 H v r => DenR K ι F H0 H v r
abbrev rT : List Addr → (Addr → Prop) → Hp → Hp → Bool → Bool → Prop := fun _ _ _ _ b a => b = a
abbrev rA (K : KW) : List Addr → (Addr → Prop) → Hp → Hp → List V → List D → Prop := fun ι F _ H v d => Dens K ι F H v d
abbrev tE (K : KW) (mg : Str → Option Value) (W : WX) (f : EM) : TE := tO K mg W (rE K) f
abbrev tR (K : KW) (mg : Str → Option Value) (W : WX) (f : RM) : TE := tO K mg W (rR K) f
abbrev tT (K : KW) (mg : Str → Option Value) (W : WX) (f : TM) : TT := tO K mg W rT f
abbrev tA (K : KW) (mg : Str → Option Value) (W : WX) (f : AM) : TA := tO K mg W (rA K) f

/-- an outcome's promise, further on -/
theorem Sat.on {α β : Type} {W : WX} {R : List Addr → (Addr → Prop) → Hp → Hp → β → α → Prop} (hR : ∀ ι F H1 H2 H b a, (∀ x, H2 x = none → H1 x = none) → R ι F H2 H b a → R ι F H1 H b a)
    {o : Out α} {Q : β → Hp → Prop} (s : Sat K mg W R σ ι F H o Q) (e : Ext ι F H ι' F' H') : Sat K mg W R σ ι' F' H' o Q := by
  cases o with
  | ok a ps' => exact fun ι2 F2 H2 b e2 r h => s ι2 F2 H2 b (e.trans e2) r (hR _ _ _ _ _ _ _ e.there h)
  | ex x ps' => exact fun ι2 F2 H2 cls dd e2 r h => s ι2 F2 H2 cls dd (e.trans e2) r h
  | bad => exact s
/-- the first part of a sequence: what follows starts where it ended -/
theorem Sat.seq {α β γ δ : Type} {W : WX} {R : List Addr → (Addr → Prop) → Hp → Hp → β → α → Prop} {R2 : List Addr → (Addr → Prop) → Hp → Hp → δ → γ → Prop} {o : Out α} {g : α → PSt → Out γ} {Q : δ → Hp → Prop} {Q1 : β → Hp → Prop}
    (s : Sat K mg W R2 σ ι F H (o.bind g) Q)
    (k : ∀ a ps1 ι1 F1 H1 b, Ext ι F H ι1 F1 H1 → Rel K mg ι1 F1 ps1 σ H1 → R ι1 F1 H H1 b a → Sat K mg W R2 σ ι F H (g a ps1) Q → Q1 b H1) : Sat K mg W R σ ι F H o Q1 := by
  cases o with
  | ok a ps' => exact fun ι1 F1 H1 b e r h => k a ps' ι1 F1 H1 b e r h s
  | ex x ps' => exact s
  | bad => exact s
end

/-! ### weaker readings -/
theorem _root_.L2.PE.imp {X : Cx} {e : Expr} {t t' : TE} (h : PE X e t) (i : ∀ σ H Q, t' σ H Q → t σ H Q) : PE X e t' := ⟨fun pins s σ H Q I q => h.run pins s σ H Q I (i σ H Q q)⟩
theorem _root_.L2.PT.imp {X : Cx} {e : Expr} {t t' : TT} (h : PT X e t) (i : ∀ σ H Q, t' σ H Q → t σ H Q) : PT X e t' := ⟨fun pins s σ H Q I q => h.run pins s σ H Q I (i σ H Q q)⟩
theorem _root_.L2.PW.imp {X : Cx} {e : Expr} {t t' : TT} (h : PW X e t) (i : ∀ σ H Q, t' σ H Q → t σ H Q) : PW X e t' := ⟨fun w pins s σ H Q I q => h.run w pins s σ H Q I (i σ H Q q)⟩
theorem _root_.L2.PA.imp {X : Cx} {e : List Expr} {t t' : TA} (h : PA X e t) (i : ∀ σ H Q, t' σ H Q → t σ H Q) : PA X e t' := ⟨fun p pins s σ H Q I q => h.run p pins s σ H Q I (i σ H Q q)⟩
theorem _root_.L2.PS.imp {X : Cx} {e : Stmt} {t t' : TS} (h : PS X e t) (i : ∀ D σ H, t' D σ H → t D σ H) : PS X e t' := ⟨fun pins s σ H D I q => h.run pins s σ H D I (i D σ H q)⟩
theorem _root_.L2.PSs.imp {X : Cx} {e : List Stmt} {t t' : TS} (h : PSs X e t) (i : ∀ D σ H, t' D σ H → t D σ H) : PSs X e t' := ⟨fun pins s σ H D I q => h.run pins s σ H D I (i D σ H q)⟩

/-! ### what a def promises -/
inductive FOut where
  | ok (r : Rv) (ob : List (Option Ob))
  | ex (x : Ex) (ob : List (Option Ob))
  | bad
abbrev FM := List D → List (Option Ob) → FOut
def spD (K : KW) (mg : Str → Option Value) (n : Nat) (f : FM) : Sp := fun vs H Q E => ∃ ι F ob ds, vs.length = n ∧ ORel K mg ι F ob H ∧ Dens K ι F H vs ds ∧
  match f ds ob with
  | .ok r ob' => ∀ ι' F' H' v, Ext ι F H ι' F' H' → ORel K mg ι' F' ob' H' → DenR K ι' F' H H' v r → Q v H'
  | .ex x ob' => ∀ ι' F' H' cls dd, Ext ι F H ι' F' H' → ORel K mg ι' F' ob' H' → DenX K mg ι' F' H' cls dd x → E cls dd H'
  | .bad => False

/-- a def keeps its promise where no repr runs around it -/
structure FnG (P : Program) (w : World) (K : PySem.W.Frag) (mg : Str → Option Value) (base : Heap) (k : Nat) (f : Addr) (fd : FuncData) (ps : List Str) (sp : Sp) : Prop where
  len : ∀ vs H Q E, sp vs H Q E → vs.length = ps.length
  run : ∀ (A : Around) (outer : List Env) (s : Shared) (H : Hp) (args : Args) (us : List Value) (vs : List V) (Q : VK) (E : XK), A.guards = some [] → Room k A → Env0 P w K mg base A outer s H →
    BindsTo s fd args (ps.zip us) → Vals vs us → sp vs H Q E → codeAny (model P w) A (.call (.ref f) args) (CR (L2.CX P w) outer P w H s Q E) s

/-- a def that may be called -/
structure FnI where
  name : Str
  n : Nat
  f : FM
/-- something that the module offers, told to a depth -/
structure FactT where
  p : Program → World → PySem.W.Frag → (Str → Option Value) → Heap → (Nat → Prop) → Prop
  mono : ∀ {P : Program} {w : World} {K : PySem.W.Frag} {mg : Str → Option Value} {base : Heap} {r1 r2 : Nat → Prop}, (∀ j, r1 j → r2 j) → p P w K mg base r1 → p P w K mg base r2
/-- the static context of a def's code, continued -/
structure SI where
  N : List Str
  sc : Scope
  fn : Str → Bool
  calm : Bool
  fs : List FnI
  consts : List (Str × D)
  excs : List Str
  blts : List Str
  kds : List (Str × List (Str × D))
  exs : List (Str × Option Str) := []
  exms : List (Str × Str × Bool) := []
  top : Bool := true
  facts : List FactT := []
/-- what C(place) makes ready: one field -/
def spInit (K : PySem.W.Frag) (C : Addr) (f : Str) : Sp := fun vs H Q _ => ∃ (a : Addr) (i : Int), vs = [.ref a, .int i] ∧ i.natAbs.log2 < 1920 ∧ H a = some (exo a C none) ∧ ∀ d, H d = none → d ≠ a → Q .non (upd (upd H d (exd d [(f, .int i)])) a (exo a C (some d)))
/-- an exception class of the program: made with a text, or with one number that it keeps -/
def ExcAt (P : Program) (w : World) (K : PySem.W.Frag) (mg : Str → Option Value) (base : Heap) (rm : Nat → Prop) (e : Str × Option Str) : Prop :=
  match e.2 with
  | none => ∃ C : Addr, mg e.1 = some (.ref C) ∧ PySem.W.keepIn K (.ref C) = true ∧ PySem.W.excIn K C He.veBase "ValueError.__new__" = true ∧ PySem.W.subIn K (.ref C) (.type "BaseException") = some true ∧ PySem.W.typeIn K (.ref C) = some (.type "type")
  | some f => ∃ (C fI : Addr) (k : Nat) (fd : FuncData) (ps : List Str), mg e.1 = some (.ref C) ∧ OexC K C ∧ XfC K C ∧ PySem.W.findIn K (.ref C) f = some none ∧ PySem.W.findIn K (.ref C) "__init__" = some (some (.ref fI)) ∧ PySem.W.typeIn K (.ref fI) = some (.type "function") ∧
      FnOk P w K mg base (L2.CX P w) k fI fd ps (spInit K C f) ∧ rm (k + 1) ∧ Binds K fd ps []
def ExmAt (K : PySem.W.Frag) (mg : Str → Option Value) (t : Str × Str × Bool) : Prop := ∃ C D : Addr, mg t.1 = some (.ref C) ∧ mg t.2.1 = some (.ref D) ∧ PySem.W.exmOne K (.ref C) (.ref D) = some t.2.2
structure CallOk (X : Cx) (i : FnI) : Prop where
  ex : ∃ (f : Addr) (fd : FuncData) (k : Nat) (ps : List Str), X.mg i.name = some (.ref f) ∧ PySem.W.keepIn X.K (.ref f) = true ∧ Binds X.K fd ps [] ∧ ps.length = i.n ∧ Room k X.A ∧
    FnG X.prog X.w X.K X.mg X.base k f fd ps (spD X.kw X.mg i.n i.f)
structure Sta (X : Cx) (c : SI) : Prop where
  N : X.N = c.N
  nd : c.N.Nodup
  sc : X.env.scope = c.sc
  fn : ∀ x, c.fn x = true → X.fn x = true
  calm : c.calm = true → X.calm = true
  room : c.calm = true → Room 0 X.A
  guards : X.A.guards = some []
  calls : c.calm = true → ∀ i ∈ c.fs, CallOk X i
  cons : ∀ p ∈ c.consts, ∃ u v, X.mg p.1 = some u ∧ RelV v u ∧ ∀ ι F H, Den X.kw ι F H v p.2
  blt : ∀ x ∈ c.blts, X.mg x = none
  kds : ∀ p ∈ c.kds, ∃ a, X.mg p.1 = some (.ref a) ∧ ∀ q ∈ p.2, ∃ v, KDct X.K X.w a q.1 v ∧ ∀ ι F H, Den X.kw ι F H v q.2
  exs : c.calm = true → ∀ e ∈ c.exs, ExcAt X.prog X.w X.K X.mg X.base (fun k => Room k X.A) e
  exms : ∀ t ∈ c.exms, ExmAt X.K X.mg t
  top : c.top = true → X.stack = X.env :: X.outer ∧ X.env.frame = some X.env.locals
  facts : c.calm = true → ∀ φ ∈ c.facts, φ.p X.prog X.w X.K X.mg X.base (fun k => Room k X.A)

def DE (c : SI) (e : Expr) (f : EM) : Prop := ∀ (X : Cx) (W : WX), Sta X c → Takes X W → PE X e (tE X.kw X.mg W f)
def DR (c : SI) (e : Expr) (f : RM) : Prop := ∀ (X : Cx) (W : WX), Sta X c → Takes X W → PE X e (tR X.kw X.mg W f)
def DT (c : SI) (e : Expr) (f : TM) : Prop := ∀ (X : Cx) (W : WX), Sta X c → Takes X W → PT X e (tT X.kw X.mg W f)
def DW (c : SI) (e : Expr) (f : TM) : Prop := ∀ (X : Cx) (W : WX), Sta X c → Takes X W → PW X e (tT X.kw X.mg W f)
def DA (c : SI) (es : List Expr) (f : AM) : Prop := ∀ (X : Cx) (W : WX), Sta X c → Takes X W → PA X es (tA X.kw X.mg W f)

/-! ### names, constants -/
def eVar (i : Nat) : EM := fun s => match s.sl[i]? with
  | some (some d) => .ok d s
  | _ => .bad
def eC (d : D) : EM := fun s => .ok d s
def eFrz (f : RM) : EM := fun s => (f s).bind fun r s1 => .ok r.toD s1
def rVal (f : EM) : RM := fun s => (f s).bind fun d s1 => .ok (.val d) s1
theorem Gl.of {X : Cx} {c : SI} (S : Sta X c) {x : Str} (h : c.sc.names.lookup x = some .globalImplicit) : Gl X x := by
  show X.env.kindOf x = _
  unfold Env.kindOf
  rw [S.sc]; exact h
theorem Vis.of {X : Cx} {c : SI} (S : Sta X c) {x : Str} (h : c.sc.names.lookup x = some .local ∨ c.sc.names.lookup x = some .cell ∨ c.sc.names.lookup x = some .free) : Vis X.env.scope x := by
  rw [S.sc]; exact h
theorem de_var {c : SI} {x : Str} {i : Nat} {pos : Pos} (hi : c.N[i]? = some x) (hv : c.sc.names.lookup x = some .local ∨ c.sc.names.lookup x = some .cell ∨ c.sc.names.lookup x = some .free)
    (hd : (x == ("__debug__" : Str)) = false) (hcd : (x == ("__classdict__" : Str)) = false) : DE c (.Name x pos) (eVar i) := fun X W S tk => by
  refine (pe_var (i := i) (by rw [S.N]; exact hi) (Vis.of S hv) hd hcd).imp fun σ H Q h => ?_
  obtain ⟨ι, F, ps, r, h⟩ := h
  unfold eVar at h
  split at h
  · rename_i d hd
    obtain ⟨v, h1, h2⟩ := r.sl i d hd
    exact ⟨v, h1, h ι F H v Ext.refl r h2⟩
  · exact h.elim
theorem de_glob {c : SI} {x : Str} {d : D} {pos : Pos} (hg : c.sc.names.lookup x = some .globalImplicit) (hd : (x, d) ∈ c.consts) (hb : (x == ("__debug__" : Str)) = false) : DE c (.Name x pos) (eC d) := fun X W S tk => by
  obtain ⟨u, v, hm, rv, hD⟩ := S.cons _ hd
  refine (pe_glob (Gl.of S hg) hm rv hb).imp fun σ H Q h => ?_
  obtain ⟨ι, F, ps, r, h⟩ := h
  exact h ι F H v Ext.refl r (hD ι F H)
theorem de_int {c : SI} {i : Int} {j pos} : DE c (.Constant (.int i) j pos) (eC (.int i)) := fun X W S tk => pe_int.imp fun σ H Q h => by
  obtain ⟨ι, F, ps, r, h⟩ := h
  exact h ι F H _ Ext.refl r (.int i)
theorem de_bl {c : SI} {b : Bool} {j pos} : DE c (.Constant (.bool b) j pos) (eC (.bl b)) := fun X W S tk => pe_bl.imp fun σ H Q h => by
  obtain ⟨ι, F, ps, r, h⟩ := h
  exact h ι F H _ Ext.refl r (.bl b)
theorem de_non {c : SI} {j pos} : DE c (.Constant .none j pos) (eC .non) := fun X W S tk => pe_non.imp fun σ H Q h => by
  obtain ⟨ι, F, ps, r, h⟩ := h
  exact h ι F H _ Ext.refl r .non
theorem de_str {c : SI} {x : Str} {j pos} : DE c (.Constant (.str x) j pos) (eC (.str x)) := fun X W S tk => pe_str.imp fun σ H Q h => by
  obtain ⟨ι, F, ps, r, h⟩ := h
  exact h ι F H _ Ext.refl r (.str x)
/-- a new object is frozen where it is used as a value -/
theorem DR.frz {c : SI} {e : Expr} {f : RM} (h : DR c e f) : DE c e (eFrz f) := fun X W S tk => by
  refine (h X W S tk).imp fun σ H Q q => ?_
  obtain ⟨ι, F, ps, r, q⟩ := q
  refine ⟨ι, F, ps, r, ?_⟩
  refine Sat.seq q fun a ps1 ι1 F1 H1 b e1 r1 h1 s => ?_
  have s : ∀ ι' F' H' b, Ext ι F H ι' F' H' → Rel X.kw X.mg ι' F' ps1 σ H' → Den X.kw ι' F' H' b a.toD → Q b H' := s
  cases a with
  | val d => exact s ι1 F1 H1 b e1 r1 h1
  | fl ds =>
    obtain ⟨p, xs, rfl, h0, hn, hf, hp, hd⟩ := h1
    refine s ι1 (Cut.fz F1 p) H1 _ (e1.frz h0) (r1.frz (by rw [hp]; simp) hn) (.lst ⟨.inr rfl, hp⟩ hd.fz)
  | fd ks vs =>
    obtain ⟨p, kvs, rfl, h0, hn, hf, hp, hk, hv⟩ := h1
    exact s ι1 (Cut.fz F1 p) H1 _ (e1.frz h0) (r1.frz (by rw [hp]; simp) hn) (.dct ⟨kvs, .inr rfl, hp, rfl, rfl⟩ hk.fz hv.fz)
theorem DE.val {c : SI} {e : Expr} {f : EM} (h : DE c e f) : DR c e (rVal f) := fun X W S tk => by
  refine (h X W S tk).imp fun σ H Q q => ?_
  obtain ⟨ι, F, ps, r, q⟩ := q
  exact ⟨ι, F, ps, r, Sat.seq q fun a ps1 ι1 F1 H1 b e1 r1 h1 s => s ι1 F1 H1 b e1 r1 h1⟩

/-! ### argument lists, displays -/
def aNil : AM := fun s => .ok [] s
def aCons (f : EM) (g : AM) : AM := fun s => (f s).bind fun d s1 => (g s1).bind fun ds s2 => .ok (d :: ds) s2
theorem da_nil {c : SI} : DA c [] aNil := fun X W S tk => pa_nil.imp fun σ H Q h => by
  obtain ⟨ι, F, ps, r, h⟩ := h
  exact h ι F H [] Ext.refl r .nil
theorem rE_mono {K : KW} : ∀ (ι : List Addr) (F : Addr → Prop) (H1 H2 H : Hp) (b : V) (a : D), (∀ x, H2 x = none → H1 x = none) → rE K ι F H2 H b a → rE K ι F H1 H b a := fun _ _ _ _ _ _ _ _ h => h
theorem rA_mono {K : KW} : ∀ (ι : List Addr) (F : Addr → Prop) (H1 H2 H : Hp) (b : List V) (a : List D), (∀ x, H2 x = none → H1 x = none) → rA K ι F H2 H b a → rA K ι F H1 H b a := fun _ _ _ _ _ _ _ _ h => h
theorem rT_mono : ∀ (ι : List Addr) (F : Addr → Prop) (H1 H2 H : Hp) (b a : Bool), (∀ x, H2 x = none → H1 x = none) → rT ι F H2 H b a → rT ι F H1 H b a := fun _ _ _ _ _ _ _ _ h => h
theorem rR_mono {K : KW} : ∀ (ι : List Addr) (F : Addr → Prop) (H1 H2 H : Hp) (b : V) (a : Rv), (∀ x, H2 x = none → H1 x = none) → rR K ι F H2 H b a → rR K ι F H1 H b a := fun _ _ _ _ _ _ _ t h => h.weak t
/-- no star -/
def plainArg : Expr → Bool
  | .Starred .. => false
  | _ => true
theorem starEach_plain {e : Expr} {es : List Expr} {env : Env} (h : plainArg e = true) : starEach (e :: es) env = (false, eval e env) :: starEach es env := by
  cases e <;> first | rfl | cases h
theorem da_cons {c : SI} {e : Expr} {es : List Expr} {f : EM} {g : AM} (h1 : DE c e f) (h2 : DA c es g) (hp : plainArg e = true) : DA c (e :: es) (aCons f g) := fun X W S tk => by
  refine (pa_cons (h1 X W S tk) (h2 X W S tk) (starEach_plain hp)).imp fun σ H Q h => ?_
  obtain ⟨ι, F, ps, r, q⟩ := h
  refine ⟨ι, F, ps, r, Sat.seq q fun d ps1 ι1 F1 H1 v e1 r1 d1 s => ?_⟩
  refine ⟨ι1, F1, ps1, r1, Sat.seq (s.on rA_mono e1) fun ds ps2 ι2 F2 H2 vs e2 r2 d2 s => ?_⟩
  exact s ι2 F2 H2 _ e2 r2 (.cons (d1.ext e2) d2)
def eTup (f : AM) : EM := fun s => (f s).bind fun ds s1 => if ds.length ≤ sizeLine then .ok (.tup ds) s1 else .bad
def rLst (f : AM) : RM := fun s => (f s).bind fun ds s1 => if ds.length ≤ sizeLine then .ok (.fl ds) s1 else .bad
theorem not_ref {K : KW} {mg : Str → Option Value} {ι : List Addr} {F : Addr → Prop} {ob : List (Option Ob)} {H : Hp} (r : ORel K mg ι F ob H) {p : Addr} (h : H p = none) : p ∉ ι ∧ ¬ F p :=
  ⟨fun z => r.used p z h, fun z => r.use p z h⟩
theorem de_tup {c : SI} {es : List Expr} {f : AM} {x1 : Nat} {pos : Pos} (h : DA c es f) : DE c (.Tuple es x1 pos) (eTup f) := fun X W S tk => by
  refine (pe_tup (h X W S tk)).imp fun σ H Q h => ?_
  obtain ⟨ι, F, ps, r, q⟩ := h
  refine ⟨ι, F, ps, r, Sat.seq q fun ds ps1 ι1 F1 H1 vs e1 r1 d1 s => ?_⟩
  split at s
  · rename_i hl
    refine ⟨by rw [d1.length]; exact hl, fun p hp => ?_⟩
    have g : Grow H1 (upd H1 p (.tup vs)) := Grow.upd hp
    exact s ι1 F1 _ _ (e1.trans (Ext.grow g)) (r1.grow g) (.tup (.inl (.inl upd_same)) (d1.grow g))
  · exact s.elim
theorem dr_lst {c : SI} {es : List Expr} {f : AM} {pos : Pos} (h : DA c es f) : DR c (.List es pos) (rLst f) := fun X W S tk => by
  refine (pe_lst (h X W S tk)).imp fun σ H Q h => ?_
  obtain ⟨ι, F, ps, r, q⟩ := h
  refine ⟨ι, F, ps, r, Sat.seq q fun ds ps1 ι1 F1 H1 vs e1 r1 d1 s => ?_⟩
  split at s
  · rename_i hl
    refine ⟨by rw [d1.length]; exact hl, fun p hp => ?_⟩
    have g : Grow H1 (upd H1 p (.lst vs)) := Grow.upd hp
    exact s ι1 F1 _ _ (e1.trans (Ext.grow g)) (r1.grow g) ⟨p, vs, rfl, e1.there p hp, (not_ref r1.ob hp).1, (not_ref r1.ob hp).2, upd_same, d1.grow g⟩
  · exact s.elim
end Cut
end
section
/-! CutOps: operators on data. -/
namespace Cut
open PySem PySem.Spec PyProof.Rows L2

/-! ### data as the library has it -/
mutual
/-- no dict, set, script, object within -/
def D.plain : D → Bool
  | .non => true | .bl _ => true | .int _ => true | .str _ => true
  | .tup l => D.plains l
  | .lst l => D.plains l
  | .scr _ => false | .dct _ _ => false | .set _ => false | .tbl _ _ => false | .ob _ => false
def D.plains : List D → Bool
  | [] => true
  | d :: l => d.plain && D.plains l
end
mutual
def D.pd : D → PyData
  | .non => .none | .bl b => .bool b | .int i => .int i | .str x => .str x
  | .tup l => .tuple (D.pds l)
  | .lst l => .list (D.pds l)
  | .scr _ => .none | .dct ks vs => .dict ((D.pds ks).zip (D.pds vs)) | .set _ => .none | .tbl _ _ => .none | .ob _ => .none
def D.pds : List D → List PyData
  | [] => []
  | d :: l => d.pd :: D.pds l
end
mutual
def D.depth : D → Nat
  | .tup l => D.depths l + 1
  | .lst l => D.depths l + 1
  | .dct ks vs => max (D.depths ks) (D.depths vs) + 1
  | .non => 0 | .bl _ => 0 | .int _ => 0 | .str _ => 0 | .scr _ => 0 | .set _ => 0 | .tbl _ _ => 0 | .ob _ => 0
def D.depths : List D → Nat
  | [] => 0
  | d :: l => max d.depth (D.depths l)
end
mutual
/-- == of plain data -/
def D.eqv : D → D → Bool
  | .non, .non => true
  | .bl a, .bl b => a == b
  | .bl a, .int j => (if a then 1 else 0) == j
  | .int i, .bl b => i == (if b then 1 else 0)
  | .int i, .int j => i == j
  | .str x, .str y => x == y
  | .lst xs, .lst ys => D.eqvs xs ys
  | .tup xs, .tup ys => D.eqvs xs ys
  | _, _ => false
def D.eqvs : List D → List D → Bool
  | [], [] => true
  | x :: xs, y :: ys => D.eqv x y && D.eqvs xs ys
  | [], _ :: _ => false
  | _ :: _, [] => false
end
mutual
theorem D.pd_plain : ∀ d : D, d.plain = true → d.pd.plain = true
  | .non, _ => rfl
  | .bl _, _ => rfl
  | .int _, _ => rfl
  | .str _, _ => rfl
  | .tup l, h => by rw [D.pd, PyData.plain]; exact D.pds_plain l (by rw [D.plain] at h; exact h)
  | .lst l, h => by rw [D.pd, PyData.plain]; exact D.pds_plain l (by rw [D.plain] at h; exact h)
  | .scr _, h => by rw [D.plain] at h; cases h
  | .dct _ _, h => by rw [D.plain] at h; cases h
  | .set _, h => by rw [D.plain] at h; cases h
  | .tbl _ _, h => by rw [D.plain] at h; cases h
  | .ob _, h => by rw [D.plain] at h; cases h
theorem D.pds_plain : ∀ l : List D, D.plains l = true → PyData.plainAll (D.pds l) = true
  | [], _ => rfl
  | d :: l, h => by
    rw [D.plains, Bool.and_eq_true] at h
    rw [D.pds, PyData.plainAll, D.pd_plain d h.1, D.pds_plain l h.2]; rfl
end
mutual
theorem D.pd_depth : ∀ d : D, d.plain = true → d.pd.depth = d.depth
  | .non, _ => rfl
  | .bl _, _ => rfl
  | .int _, _ => rfl
  | .str _, _ => rfl
  | .tup l, h => by rw [D.pd, PyData.depth, D.depth, D.pds_depth l (by rw [D.plain] at h; exact h)]
  | .lst l, h => by rw [D.pd, PyData.depth, D.depth, D.pds_depth l (by rw [D.plain] at h; exact h)]
  | .scr _, h => by rw [D.plain] at h; cases h
  | .dct _ _, h => by rw [D.plain] at h; cases h
  | .set _, h => by rw [D.plain] at h; cases h
  | .tbl _ _, h => by rw [D.plain] at h; cases h
  | .ob _, h => by rw [D.plain] at h; cases h
theorem D.pds_depth : ∀ l : List D, D.plains l = true → PyData.depthAll (D.pds l) = D.depths l
  | [], _ => rfl
  | d :: l, h => by
    rw [D.plains, Bool.and_eq_true] at h
    rw [D.pds, PyData.depthAll, D.depths, D.pd_depth d h.1, D.pds_depth l h.2]
end
mutual
theorem D.eqv_pd : ∀ x y : D, x.plain = true → y.plain = true → PyData.eqv x.pd y.pd = D.eqv x y
  | .non, y, _, h => by cases y <;> first | rfl | (rw [D.plain] at h; cases h)
  | .bl _, y, _, h => by cases y <;> first | rfl | (rw [D.plain] at h; cases h)
  | .int _, y, _, h => by cases y <;> first | rfl | (rw [D.plain] at h; cases h)
  | .str _, y, _, h => by cases y <;> first | rfl | (rw [D.plain] at h; cases h)
  | .tup xs, .tup ys, h1, h2 => by
    rw [D.plain] at h1 h2
    rw [D.pd, D.pd, PyData.eqv, D.eqv]; exact D.eqvs_pd xs ys h1 h2
  | .lst xs, .lst ys, h1, h2 => by
    rw [D.plain] at h1 h2
    rw [D.pd, D.pd, PyData.eqv, D.eqv]; exact D.eqvs_pd xs ys h1 h2
  | .tup _, .non, _, _ => by simp [D.pd, PyData.eqv, D.eqv]
  | .tup _, .bl _, _, _ => by simp [D.pd, PyData.eqv, D.eqv]
  | .tup _, .int _, _, _ => by simp [D.pd, PyData.eqv, D.eqv]
  | .tup _, .str _, _, _ => by simp [D.pd, PyData.eqv, D.eqv]
  | .tup _, .lst _, _, _ => by simp [D.pd, PyData.eqv, D.eqv]
  | .lst _, .non, _, _ => by simp [D.pd, PyData.eqv, D.eqv]
  | .lst _, .bl _, _, _ => by simp [D.pd, PyData.eqv, D.eqv]
  | .lst _, .int _, _, _ => by simp [D.pd, PyData.eqv, D.eqv]
  | .lst _, .str _, _, _ => by simp [D.pd, PyData.eqv, D.eqv]
  | .lst _, .tup _, _, _ => by simp [D.pd, PyData.eqv, D.eqv]
  | .tup _, .scr _, _, h => by rw [D.plain] at h; cases h
  | .tup _, .dct _ _, _, h => by rw [D.plain] at h; cases h
  | .tup _, .set _, _, h => by rw [D.plain] at h; cases h
  | .tup _, .tbl _ _, _, h => by rw [D.plain] at h; cases h
  | .tup _, .ob _, _, h => by rw [D.plain] at h; cases h
  | .lst _, .scr _, _, h => by rw [D.plain] at h; cases h
  | .lst _, .dct _ _, _, h => by rw [D.plain] at h; cases h
  | .lst _, .set _, _, h => by rw [D.plain] at h; cases h
  | .lst _, .tbl _ _, _, h => by rw [D.plain] at h; cases h
  | .lst _, .ob _, _, h => by rw [D.plain] at h; cases h
  | .scr _, _, h, _ => by rw [D.plain] at h; cases h
  | .dct _ _, _, h, _ => by rw [D.plain] at h; cases h
  | .set _, _, h, _ => by rw [D.plain] at h; cases h
  | .tbl _ _, _, h, _ => by rw [D.plain] at h; cases h
  | .ob _, _, h, _ => by rw [D.plain] at h; cases h
theorem D.eqvs_pd : ∀ x y : List D, D.plains x = true → D.plains y = true → PyData.eqvAll (D.pds x) (D.pds y) = D.eqvs x y
  | [], [], _, _ => rfl
  | [], _ :: _, _, _ => by simp [D.pds, PyData.eqvAll, D.eqvs]
  | _ :: _, [], _, _ => by simp [D.pds, PyData.eqvAll, D.eqvs]
  | x :: xs, y :: ys, h1, h2 => by
    rw [D.plains, Bool.and_eq_true] at h1 h2
    rw [D.pds, D.pds, PyData.eqvAll, D.eqvs, D.eqv_pd x y h1.1 h2.1, D.eqvs_pd xs ys h1.2 h2.2]
end
mutual
/-- what can be written out: plain data and dicts of it -/
def D.shp : D → Bool
  | .non => true | .bl _ => true | .int _ => true | .str _ => true
  | .tup l => D.shps l
  | .lst l => D.shps l
  | .dct ks vs => D.shps ks && D.shps vs
  | .scr _ => false | .set _ => false | .tbl _ _ => false | .ob _ => false
def D.shps : List D → Bool
  | [] => true
  | d :: l => d.shp && D.shps l
end
mutual
theorem D.shp_of : ∀ d : D, d.plain = true → d.shp = true
  | .non, _ => by rw [D.shp]
  | .bl _, _ => by rw [D.shp]
  | .int _, _ => by rw [D.shp]
  | .str _, _ => by rw [D.shp]
  | .tup l, h => by rw [D.shp]; exact D.shps_of l (by rw [D.plain] at h; exact h)
  | .lst l, h => by rw [D.shp]; exact D.shps_of l (by rw [D.plain] at h; exact h)
  | .scr _, h => by rw [D.plain] at h; cases h
  | .dct _ _, h => by rw [D.plain] at h; cases h
  | .set _, h => by rw [D.plain] at h; cases h
  | .tbl _ _, h => by rw [D.plain] at h; cases h
  | .ob _, h => by rw [D.plain] at h; cases h
theorem D.shps_of : ∀ l : List D, D.plains l = true → D.shps l = true
  | [], _ => by rw [D.shps]
  | d :: l, h => by
    rw [D.plains, Bool.and_eq_true] at h
    rw [D.shps, D.shp_of d h.1, D.shps_of l h.2]; rfl
end
theorem depthKv_le (n : Nat) : ∀ (ks vs : List PyData), PyData.depthAll ks ≤ n → PyData.depthAll vs ≤ n → PyData.depthKv (ks.zip vs) ≤ n
  | [], _, _, _ => by simp [PyData.depthKv]
  | _ :: _, [], _, _ => by simp [PyData.depthKv]
  | k :: ks, v :: vs, h1, h2 => by
    rw [PyData.depthAll] at h1 h2
    have := depthKv_le n ks vs (by omega) (by omega)
    rw [List.zip_cons_cons, PyData.depthKv]
    omega
mutual
theorem D.pd_dle : ∀ d : D, d.shp = true → d.pd.depth ≤ d.depth
  | .non, _ => Nat.le_refl _
  | .bl _, _ => Nat.le_refl _
  | .int _, _ => Nat.le_refl _
  | .str _, _ => Nat.le_refl _
  | .tup l, h => by
    have := D.pds_dle l (by rw [D.shp] at h; exact h)
    rw [D.pd, PyData.depth, D.depth]; omega
  | .lst l, h => by
    have := D.pds_dle l (by rw [D.shp] at h; exact h)
    rw [D.pd, PyData.depth, D.depth]; omega
  | .dct ks vs, h => by
    rw [D.shp, Bool.and_eq_true] at h
    have h1 := D.pds_dle ks h.1
    have h2 := D.pds_dle vs h.2
    rw [D.pd, PyData.depth, D.depth]
    have := depthKv_le (max (D.depths ks) (D.depths vs)) (D.pds ks) (D.pds vs) (by omega) (by omega)
    omega
  | .scr _, h => by rw [D.shp] at h; cases h
  | .set _, h => by rw [D.shp] at h; cases h
  | .tbl _ _, h => by rw [D.shp] at h; cases h
  | .ob _, h => by rw [D.shp] at h; cases h
theorem D.pds_dle : ∀ l : List D, D.shps l = true → PyData.depthAll (D.pds l) ≤ D.depths l
  | [], _ => Nat.le_refl _
  | d :: l, h => by
    rw [D.shps, Bool.and_eq_true] at h
    have h1 := D.pd_dle d h.1
    have h2 := D.pds_dle l h.2
    rw [D.pds, PyData.depthAll, D.depths]; omega
end
section
variable {K : KW} {mg : Str → Option Value} {ι : List Addr} {F : Addr → Prop} {H : Hp}
mutual
theorem Den.dp : ∀ {d : D} {v : V}, Den K ι F H v d → d.plain = true → Dp K H v d.pd
  | .non, _, h, _ => by cases h; exact .non
  | .bl b, _, h, _ => by cases h; exact .bl b
  | .int b, _, h, _ => by cases h; exact .int b
  | .str b, _, h, _ => by cases h; exact .str b
  | .tup l, _, h, p => by
    rw [D.plain] at p
    cases h with | tup h hs => rw [D.pd]; exact .tup h (Dens.dps hs p)
  | .lst l, _, h, p => by
    rw [D.plain] at p
    cases h with | lst h hs => rw [D.pd]; exact .lst (.inl (.inl h.2)) (Dens.dps hs p)
  | .scr _, _, _, h => by rw [D.plain] at h; cases h
  | .dct _ _, _, _, h => by rw [D.plain] at h; cases h
  | .set _, _, _, h => by rw [D.plain] at h; cases h
  | .tbl _ _, _, _, h => by rw [D.plain] at h; cases h
  | .ob _, _, _, h => by rw [D.plain] at h; cases h
theorem Dens.dps : ∀ {l : List D} {vs : List V}, Dens K ι F H vs l → D.plains l = true → DpAll K H vs (D.pds l)
  | [], _, h, _ => by cases h; exact .nil
  | d :: l, _, h, p => by
    rw [D.plains, Bool.and_eq_true] at p
    cases h with | cons h hs => rw [D.pds]; exact .cons (Den.dp h p.1) (Dens.dps hs p.2)
end

/-! ### values that are read: an object of the store may be read, too -/
def look (ob : List (Option Ob)) (d : D) : D :=
  match d with
  | .ob n => match ob[n]? with
    | some (some (.lst ds)) => .lst ds
    | some (some (.dct ks vs)) => .dct ks vs
    | _ => .ob n
  | d => d
def Rdn (K : KW) (ι : List Addr) (F : Addr → Prop) (H : Hp) (v : V) (d : D) : Prop :=
  match d with
  | .lst ds => ∃ a xs, v = .ref a ∧ H a = some (.lst xs) ∧ Dens K ι F H xs ds
  | .dct ks vs => ∃ a, ∃ kvs : List (Key × V), v = .ref a ∧ H a = some (.dK kvs) ∧ Dens K ι F H (kvs.map fun p => kV p.1) ks ∧ Dens K ι F H (kvs.map (·.2)) vs
  | d => Den K ι F H v d
theorem Den.rdn {v : V} {d : D} (h : Den K ι F H v d) : Rdn K ι F H v d := by
  cases h with
  | lst h hs => exact ⟨_, _, rfl, h.2, hs⟩
  | dct h h1 h2 => obtain ⟨kvs, _, h3, rfl, rfl⟩ := h; exact ⟨_, kvs, rfl, h3, h1, h2⟩
  | non => exact .non
  | bl b => exact .bl b
  | int b => exact .int b
  | str b => exact .str b
  | tup h hs => exact .tup h hs
  | scr h hs => exact .scr h hs
  | set h => exact .set h
  | tbl h k h1 h2 => exact .tbl h k h1 h2
  | ob h => exact .ob h
theorem Den.look {v : V} {d : D} {ob : List (Option Ob)} (r : ORel K mg ι F ob H) (h : Den K ι F H v d) : Rdn K ι F H v (look ob d) := by
  cases d with
  | ob n =>
    cases h with
    | @ob a _ h =>
      show Rdn K ι F H (.ref a) (match ob[n]? with
        | some (some (.lst ds)) => .lst ds
        | some (some (.dct ks vs)) => .dct ks vs
        | _ => .ob n)
      split
      · rename_i ds e
        obtain ⟨a', h1, _, h3⟩ := r.obs _ _ e
        rw [h] at h1; cases h1
        obtain ⟨xs, h4, h5⟩ := h3
        exact ⟨a, xs, rfl, h4, h5⟩
      · rename_i ks vs e
        obtain ⟨a', h1, _, h3⟩ := r.obs _ _ e
        rw [h] at h1; cases h1
        obtain ⟨kvs, h4, h5, h6⟩ := h3
        exact ⟨a, kvs, rfl, h4, h5, h6⟩
      · exact .ob h
  | _ => exact h.rdn
theorem Rdn.dp {v : V} {d : D} (h : Rdn K ι F H v d) (p : d.plain = true) : Dp K H v d.pd := by
  cases d with
  | lst ds =>
    obtain ⟨a, xs, rfl, h1, h2⟩ := h
    rw [D.plain] at p
    rw [D.pd]; exact .lst (.inl (.inl h1)) (h2.dps p)
  | dct _ _ => rw [D.plain] at p; cases p
  | _ => exact Den.dp (show Den K ι F H v _ from h) p
end

/-! ### two-place operations -/
def OpOK (X : Cx) (f : Value → Value → Sem Value) (g : D → D → Option Rv) : Prop :=
  ∀ (pins : List (Addr × Obj)) (s : Shared) (σ : L2.St) (H : Hp) (x y : V) (v u : Value) (Q : VK) (ι : List Addr) (F : Addr → Prop) (ob : List (Option Ob)) (dx dy : D) (r : Rv),
    Inv X pins σ H s → RelV x v → RelV y u → ORel X.kw X.mg ι F ob H → Rdn X.kw ι F H x dx → Rdn X.kw ι F H y dy → g dx dy = some r →
    (∀ z H', Grow H H' → DenR X.kw ι F H H' z r → Q z H') → wpAny (model X.prog X.w) X.A (f v u) (EP X pins σ Q) X.xe s
/-- the combinator -/
def rOp (g : D → D → Option Rv) (fa fb : EM) : RM := fun s => (fa s).bind fun dx s1 => (fb s1).bind fun dy s2 =>
  match g (look s2.ob dx) (look s2.ob dy) with
  | some r => .ok r s2
  | none => .bad
theorem op_read {X : Cx} {W : WX} {a b : Expr} {f : Value → Value → Sem Value} {g : D → D → Option Rv} {fa fb : EM} (ha : PE X a (tE X.kw X.mg W fa)) (hb : PE X b (tE X.kw X.mg W fb)) (ho : OpOK X f g)
    {pins : List (Addr × Obj)} {s : Shared} {σ : L2.St} {H : Hp} {Q : VK} (I : Inv X pins σ H s) (h : tR X.kw X.mg W (rOp g fa fb) σ H Q) :
    wpAny (model X.prog X.w) X.A (eval a X.env) (fun v s₁ => wpAny (model X.prog X.w) X.A (eval b X.env) (fun u s₂ => wpAny (model X.prog X.w) X.A (f v u) (EP X pins σ Q) X.xe s₂) X.xe s₁) X.xe s := by
  obtain ⟨ι, F, ps, r, q⟩ := h
  refine binT ha hb (R := fun x y H2 => ∃ ι2 F2 ps2 dx dy rr, Rel X.kw X.mg ι2 F2 ps2 σ H2 ∧ Den X.kw ι2 F2 H2 x dx ∧ Den X.kw ι2 F2 H2 y dy ∧
    g (look ps2.ob dx) (look ps2.ob dy) = some rr ∧ ∀ z H', Grow H2 H' → DenR X.kw ι2 F2 H2 H' z rr → Q z H') I ?_ ?_
  · refine ⟨ι, F, ps, r, Sat.seq q fun dx ps1 ι1 F1 H1 x e1 r1 d1 s => ?_⟩
    refine ⟨ι1, F1, ps1, r1, Sat.seq (s.on rR_mono e1) fun dy ps2 ι2 F2 H2 y e2 r2 d2 s2 => ?_⟩
    split at s2
    · rename_i rr hg
      exact ⟨ι2, F2, ps2, dx, dy, rr, r2, d1.ext e2, d2, hg, fun z H' gr dr => s2 ι2 F2 H' z (e2.trans (Ext.grow gr)) (r2.grow gr) (dr.weak e2.there)⟩
    · exact s2.elim
  · intro v u s2 x y H2 I2 rx ry hq
    obtain ⟨ι2, F2, ps2, dx, dy, rr, r2, dX, dY, hg, q2⟩ := hq
    exact ho pins s2 σ H2 x y v u Q ι2 F2 ps2.ob _ _ rr I2 rx ry r2.ob (dX.look r2.ob) (dY.look r2.ob) hg q2
/-! ### arithmetic -/
/-- below 2 ^ 5000 -/
def wid (i : Int) : Bool := decide (i.natAbs < 2 ^ 5000)
theorem wid_lt {i : Int} (h : wid i = true) : i.natAbs < 2 ^ 5000 := of_decide_eq_true h
def lenOk (n : Nat) : Bool := decide (n ≤ sizeLine)
theorem lenOk_le {n : Nat} (h : lenOk n = true) : n ≤ sizeLine := of_decide_eq_true h
def addD : D → D → Option Rv
  | .int i, .int j => some (.val (.int (i + j)))
  | .str x, .str y => if lenOk (x.length + y.length) then some (.val (.str (x ++ y))) else none
  | .lst xs, .lst ys => if lenOk (xs.length + ys.length) then some (.fl (xs ++ ys)) else none
  | .tup xs, .tup ys => if lenOk (xs.length + ys.length) then some (.val (.tup (xs ++ ys))) else none
  | _, _ => none
def subD : D → D → Option Rv
  | .int i, .int j => some (.val (.int (i - j)))
  | _, _ => none
def mulD : D → D → Option Rv
  | .int i, .int j => if wid i && wid j then some (.val (.int (i * j))) else none
  | .lst xs, .int k => if decide (k ≤ 1000000) && decide (0 ≤ k) && lenOk (xs.length * k.toNat) then some (.fl (List.replicate k.toNat xs).flatten) else none
  | .tup xs, .int k => if decide (2 ≤ k) && decide (k ≤ 1000) && decide (xs.length ≤ 1000) && !xs.isEmpty then some (.val (.tup (List.replicate k.toNat xs).flatten)) else none
  | _, _ => none
def fdivD : D → D → Option Rv
  | .int i, .int j => if decide (0 < j) && wid j then some (.val (.int (i / j))) else none
  | _, _ => none
def modD : D → D → Option Rv
  | .int i, .int j => if decide (0 < j) then some (.val (.int (i % j))) else none
  | _, _ => none
def powD : D → D → Option Rv
  | .int i, .int j => if decide (0 ≤ j) && decide (j ≤ 1000) && decide (i.natAbs < 1000000) then some (.val (.int (i ^ j.toNat))) else none
  | _, _ => none
section
variable {X : Cx}
theorem rdn_int {K : KW} {ι : List Addr} {F : Addr → Prop} {H : Hp} {x : V} {i : Int} (h : Rdn K ι F H x (.int i)) : x = .int i := by
  have h' : Den K ι F H x (.int i) := h
  cases h'; rfl
theorem rdn_str {K : KW} {ι : List Addr} {F : Addr → Prop} {H : Hp} {x : V} {i : Str} (h : Rdn K ι F H x (.str i)) : x = .str i := by
  have h' : Den K ι F H x (.str i) := h
  cases h'; rfl
theorem rdn_bl {K : KW} {ι : List Addr} {F : Addr → Prop} {H : Hp} {x : V} {i : Bool} (h : Rdn K ι F H x (.bl i)) : x = .bl i := by
  have h' : Den K ι F H x (.bl i) := h
  cases h'; rfl
theorem rdn_non {K : KW} {ι : List Addr} {F : Addr → Prop} {H : Hp} {x : V} (h : Rdn K ι F H x .non) : x = .non := by
  have h' : Den K ι F H x .non := h
  cases h'; rfl
theorem rdn_tup {K : KW} {ι : List Addr} {F : Addr → Prop} {H : Hp} {x : V} {l : List D} (h : Rdn K ι F H x (.tup l)) : ∃ a xs, x = .ref a ∧ SqT K H a xs ∧ Dens K ι F H xs l := by
  have h' : Den K ι F H x (.tup l) := h
  cases h' with | tup h1 h2 => exact ⟨_, _, rfl, h1, h2⟩
theorem opok_add : OpOK X (binaryOp .Add) addD := by
  intro pins s σ H x y v u Q ι F ob dx dy r I rx ry ro hx hy hg q
  unfold addD at hg
  split at hg
  · cases hg
    rw [rdn_int hx] at rx; rw [rdn_int hy] at ry
    exact op_add pins s σ H _ _ v u Q I rx ry ⟨_, _, rfl, rfl, q _ H Grow.refl (.int _)⟩
  · rw [rdn_str hx] at rx; rw [rdn_str hy] at ry
    split at hg
    · rename_i hl
      cases hg
      exact op_add_str pins s σ H _ _ v u Q I rx ry ⟨_, _, rfl, rfl, lenOk_le hl, q _ H Grow.refl (.str _)⟩
    · cases hg
  · obtain ⟨a, xs, rfl, ha, da⟩ := hx
    obtain ⟨b, ys, rfl, hb, db⟩ := hy
    split at hg
    · rename_i hl
      cases hg
      refine op_cat pins s σ H _ _ v u Q I rx ry ⟨a, b, xs, ys, rfl, rfl, ha, hb, by rw [da.length, db.length]; exact lenOk_le hl, fun p hp => ?_⟩
      have g : Grow H (upd H p (.lst (xs ++ ys))) := Grow.upd hp
      exact q _ _ g ⟨p, _, rfl, hp, (not_ref ro hp).1, (not_ref ro hp).2, upd_same, (da.append db).grow g⟩
    · cases hg
  · obtain ⟨a, xs, rfl, ha, da⟩ := rdn_tup hx
    obtain ⟨b, ys, rfl, hb, db⟩ := rdn_tup hy
    split at hg
    · rename_i hl
      cases hg
      refine op_catA pins s σ H _ _ v u Q I rx ry ⟨a, b, xs, ys, rfl, rfl, ha, hb, by rw [da.length, db.length]; exact lenOk_le hl, fun e => ?_, fun _ e => ?_, fun _ _ p hp => ?_⟩
      · refine q _ H Grow.refl (.tup hb ?_)
        subst e; cases da; exact db
      · refine q _ H Grow.refl (.tup ha ?_)
        subst e; cases db; rw [List.append_nil]; exact da
      · have g : Grow H (upd H p (.tup (xs ++ ys))) := Grow.upd hp
        exact q _ _ g (.tup (.inl (.inl upd_same)) ((da.append db).grow g))
    · cases hg
  · cases hg
theorem opok_sub : OpOK X (binaryOp .Sub) subD := by
  intro pins s σ H x y v u Q ι F ob dx dy r I rx ry ro hx hy hg q
  unfold subD at hg
  split at hg
  · cases hg
    rw [rdn_int hx] at rx; rw [rdn_int hy] at ry
    exact op_sub pins s σ H _ _ v u Q I rx ry ⟨_, _, rfl, rfl, q _ H Grow.refl (.int _)⟩
  · cases hg
theorem Dens.flat {K : KW} {ι : List Addr} {F : Addr → Prop} {H : Hp} {xs : List V} {ds : List D} (h : Dens K ι F H xs ds) : ∀ n : Nat, Dens K ι F H (List.replicate n xs).flatten (List.replicate n ds).flatten
  | 0 => .nil
  | n + 1 => by
    rw [List.replicate_succ, List.replicate_succ, List.flatten_cons, List.flatten_cons]
    exact h.append (Dens.flat h n)
theorem opok_mul : OpOK X (binaryOp .Mult) mulD := by
  intro pins s σ H x y v u Q ι F ob dx dy r I rx ry ro hx hy hg q
  unfold mulD at hg
  split at hg
  · split at hg
    · rename_i hw
      rw [Bool.and_eq_true] at hw
      cases hg
      rw [rdn_int hx] at rx; rw [rdn_int hy] at ry
      exact op_mulW pins s σ H _ _ v u Q I rx ry ⟨_, _, rfl, rfl, wide_mul (wid_lt hw.1) (wid_lt hw.2) (by decide) (by decide) (by decide), q _ H Grow.refl (.int _)⟩
    · cases hg
  · split at hg
    · rename_i k hw
      simp only [Bool.and_eq_true, decide_eq_true_eq] at hw
      cases hg
      obtain ⟨a, xs, rfl, ha, da⟩ := hx
      rw [rdn_int hy] at ry
      refine op_rep pins s σ H _ _ v u Q I rx ry ⟨a, _, xs, rfl, rfl, ha, by omega, by omega, by rw [da.length]; exact lenOk_le hw.2, fun p hp => ?_⟩
      have g : Grow H (upd H p (.lst (List.replicate k.toNat xs).flatten)) := Grow.upd hp
      exact q _ _ g ⟨p, _, rfl, hp, (not_ref ro hp).1, (not_ref ro hp).2, upd_same, (da.flat _).grow g⟩
    · cases hg
  · split at hg
    · rename_i xs' k hw
      simp only [Bool.and_eq_true, decide_eq_true_eq] at hw
      cases hg
      obtain ⟨a, xs, rfl, ha, da⟩ := rdn_tup hx
      rw [rdn_int hy] at ry
      have hne : xs ≠ [] := fun e => by
        subst e; cases da
        simp at hw
      refine op_repT pins s σ H _ _ v u Q I rx ry ⟨a, _, xs, rfl, rfl, ha, hne, hw.1.1.1, hw.1.1.2, by rw [da.length]; exact hw.1.2, fun p hp => ?_⟩
      have g : Grow H (upd H p (.tup (List.replicate k.toNat xs).flatten)) := Grow.upd hp
      exact q _ _ g (.tup (.inl (.inl upd_same)) ((da.flat _).grow g))
    · cases hg
  · cases hg
theorem opok_fdiv : OpOK X (binaryOp .FloorDiv) fdivD := by
  intro pins s σ H x y v u Q ι F ob dx dy r I rx ry ro hx hy hg q
  unfold fdivD at hg
  split at hg
  · split at hg
    · rename_i hw
      rw [Bool.and_eq_true, decide_eq_true_eq] at hw
      cases hg
      rw [rdn_int hx] at rx; rw [rdn_int hy] at ry
      exact op_fdivW pins s σ H _ _ v u Q I rx ry ⟨_, _, rfl, rfl, wide_div hw.1 (wid_lt hw.2) (by decide) (by decide), q _ H Grow.refl (.int _)⟩
    · cases hg
  · cases hg
theorem opok_mod : OpOK X (binaryOp .Mod) modD := by
  intro pins s σ H x y v u Q ι F ob dx dy r I rx ry ro hx hy hg q
  unfold modD at hg
  split at hg
  · split at hg
    · rename_i hw
      rw [decide_eq_true_eq] at hw
      cases hg
      rw [rdn_int hx] at rx; rw [rdn_int hy] at ry
      exact op_mod pins s σ H _ _ v u Q I rx ry ⟨_, _, rfl, rfl, hw, q _ H Grow.refl (.int _)⟩
    · cases hg
  · cases hg
theorem opok_pow : OpOK X (binaryOp .Pow) powD := by
  intro pins s σ H x y v u Q ι F ob dx dy r I rx ry ro hx hy hg q
  unfold powD at hg
  split at hg
  · split at hg
    · rename_i hw
      simp only [Bool.and_eq_true, decide_eq_true_eq] at hw
      cases hg
      rw [rdn_int hx] at rx; rw [rdn_int hy] at ry
      exact op_pow pins s σ H _ _ v u Q I rx ry ⟨_, _, rfl, rfl, ⟨hw.1.1, by omega, by omega⟩, q _ H Grow.refl (.int _)⟩
    · cases hg
  · cases hg
/-! ### comparisons -/
def eqOk (x y : D) : Bool := x.plain && y.plain && decide (min x.depth y.depth ≤ 60)
def eqD (x y : D) : Option Rv := if eqOk x y then some (.val (.bl (D.eqv x y))) else none
def neD (x y : D) : Option Rv := if eqOk x y then some (.val (.bl (!D.eqv x y))) else none
/-- two data that can be ordered -/
def ordOk (x y : D) : Bool := x.plain && (y.plain && (PySem.W.alike x.pd y.pd && (!(match x with | .non => true | _ => false) && decide (min x.depth y.depth ≤ 60))))
def ltD : D → D → Option Rv
  | .int i, .int j => some (.val (.bl (decide (i < j))))
  | x, y => if ordOk x y then some (.val (.bl (PySem.W.dataLt x.pd y.pd))) else none
def leD : D → D → Option Rv
  | .int i, .int j => some (.val (.bl (decide (i ≤ j))))
  | x, y => if ordOk x y then some (.val (.bl (!PySem.W.dataLt y.pd x.pd))) else none
def gtD : D → D → Option Rv
  | .int i, .int j => some (.val (.bl (decide (j < i))))
  | x, y => if ordOk x y then some (.val (.bl (PySem.W.dataLt y.pd x.pd))) else none
def geD : D → D → Option Rv
  | .int i, .int j => some (.val (.bl (decide (j ≤ i))))
  | x, y => if ordOk x y then some (.val (.bl (!PySem.W.dataLt x.pd y.pd))) else none
def inOk (x : D) (l : List D) : Bool := x.plain && D.plains l && decide (min (D.depths l) x.depth ≤ 60)
def memD (x : D) (l : List D) : Bool := l.any fun y => D.eqv y x
def inStr (x y : Str) : Bool := !(Builtin.Str.occurrences y x 0 y.length 1).isEmpty
def inD (x y : D) : Option Bool := match y with
  | .tup l => if inOk x l then some (memD x l) else none
  | .lst l => if inOk x l then some (memD x l) else none
  | .str y => match x with
    | .str x => some (inStr x y)
    | _ => none
  | _ => none
def isD (x y : D) : Option Bool := match y with
  | .non => match x with
    | .non => some true
    | _ => some false
  | .bl b => match x with
    | .bl a => some (decide (a = b))
    | _ => none
  | _ => none
def yesD (g : D → D → Option Bool) (x y : D) : Option Rv := (g x y).map fun b => .val (.bl b)
def notD (g : D → D → Option Bool) (x y : D) : Option Rv := (g x y).map fun b => .val (.bl (!b))
theorem opok_eq (hu : X.A.units + 64 < cLine) : OpOK X (compareOp .Eq) eqD := by
  intro pins s σ H x y v u Q ι F ob dx dy r I rx ry ro hx hy hg q
  unfold eqD at hg
  split at hg
  · rename_i ho
    cases hg
    unfold eqOk at ho
    simp only [Bool.and_eq_true, decide_eq_true_eq] at ho
    obtain ⟨as, r1⟩ := Dp.reads I dx.pd x v (hx.dp ho.1.1) rx
    obtain ⟨bs, r2⟩ := Dp.reads I dy.pd y u (hy.dp ho.1.2) ry
    refine SeqAt.eq_plain r1 r2 (D.pd_plain _ ho.1.1) (D.pd_plain _ ho.1.2) (by rw [D.pd_depth _ ho.1.1, D.pd_depth _ ho.1.2]; omega) ⟨.bl _, H, I, rfl, ?_⟩
    rw [D.eqv_pd _ _ ho.1.1 ho.1.2]
    exact q _ H Grow.refl (.bl _)
  · cases hg
theorem opok_ne (hu : X.A.units + 64 < cLine) : OpOK X (compareOp .NotEq) neD := by
  intro pins s σ H x y v u Q ι F ob dx dy r I rx ry ro hx hy hg q
  unfold neD at hg
  split at hg
  · rename_i ho
    cases hg
    unfold eqOk at ho
    simp only [Bool.and_eq_true, decide_eq_true_eq] at ho
    obtain ⟨as, r1⟩ := Dp.reads I dx.pd x v (hx.dp ho.1.1) rx
    obtain ⟨bs, r2⟩ := Dp.reads I dy.pd y u (hy.dp ho.1.2) ry
    refine SeqAt.ne_plain r1 r2 (D.pd_plain _ ho.1.1) (D.pd_plain _ ho.1.2) (by rw [D.pd_depth _ ho.1.1, D.pd_depth _ ho.1.2]; omega) ⟨.bl _, H, I, rfl, ?_⟩
    rw [D.eqv_pd _ _ ho.1.1 ho.1.2]
    exact q _ H Grow.refl (.bl _)
  · cases hg
theorem ordOk_ok {x y : D} (h : ordOk x y = true) : x.plain = true ∧ y.plain = true ∧ PySem.W.alike x.pd y.pd = true ∧ x.pd ≠ .none ∧ min x.depth y.depth ≤ 60 := by
  unfold ordOk at h
  simp only [Bool.and_eq_true, decide_eq_true_eq] at h
  obtain ⟨h1, h2, h3, h4, h5⟩ := h
  refine ⟨h1, h2, h3, fun e => ?_, h5⟩
  cases x with
  | non => simp at h4
  | scr _ => simp [D.plain] at h1
  | set _ => simp [D.plain] at h1
  | tbl _ _ => simp [D.plain] at h1
  | ob _ => simp [D.plain] at h1
  | _ => simp [D.pd] at e
theorem opok_lt (hu : X.A.units + 64 < cLine) : OpOK X (compareOp .Lt) ltD := by
  intro pins s σ H x y v u Q ι F ob dx dy r I rx ry ro hx hy hg q
  unfold ltD at hg
  split at hg
  · cases hg
    rw [rdn_int hx] at rx; rw [rdn_int hy] at ry
    exact op_lt pins s σ H _ _ v u Q I rx ry ⟨_, _, rfl, rfl, q _ H Grow.refl (.bl _)⟩
  · split at hg
    · rename_i ho
      cases hg
      obtain ⟨p1, p2, p3, p4, p5⟩ := ordOk_ok ho
      obtain ⟨as, r1⟩ := Dp.reads I dx.pd x v (hx.dp p1) rx
      obtain ⟨bs, r2⟩ := Dp.reads I dy.pd y u (hy.dp p2) ry
      refine PySem.W.lt_data r1 r2 p3 p4 (by rw [D.pd_depth _ p1, D.pd_depth _ p2]; omega) ⟨.bl _, H, I, rfl, q _ H Grow.refl (.bl _)⟩
    · cases hg
theorem opok_le (hu : X.A.units + 64 < cLine) : OpOK X (compareOp .LtE) leD := by
  intro pins s σ H x y v u Q ι F ob dx dy r I rx ry ro hx hy hg q
  unfold leD at hg
  split at hg
  · cases hg
    rw [rdn_int hx] at rx; rw [rdn_int hy] at ry
    exact op_le pins s σ H _ _ v u Q I rx ry ⟨_, _, rfl, rfl, q _ H Grow.refl (.bl _)⟩
  · split at hg
    · rename_i ho
      cases hg
      obtain ⟨p1, p2, p3, p4, p5⟩ := ordOk_ok ho
      obtain ⟨as, r1⟩ := Dp.reads I dx.pd x v (hx.dp p1) rx
      obtain ⟨bs, r2⟩ := Dp.reads I dy.pd y u (hy.dp p2) ry
      refine PySem.W.le_data r1 r2 p3 p4 (by rw [D.pd_depth _ p1, D.pd_depth _ p2]; omega) ⟨.bl _, H, I, rfl, q _ H Grow.refl (.bl _)⟩
    · cases hg
theorem opok_gt (hu : X.A.units + 64 < cLine) : OpOK X (compareOp .Gt) gtD := by
  intro pins s σ H x y v u Q ι F ob dx dy r I rx ry ro hx hy hg q
  unfold gtD at hg
  split at hg
  · cases hg
    rw [rdn_int hx] at rx; rw [rdn_int hy] at ry
    exact op_gt pins s σ H _ _ v u Q I rx ry ⟨_, _, rfl, rfl, q _ H Grow.refl (.bl _)⟩
  · split at hg
    · rename_i ho
      cases hg
      obtain ⟨p1, p2, p3, p4, p5⟩ := ordOk_ok ho
      obtain ⟨as, r1⟩ := Dp.reads I dx.pd x v (hx.dp p1) rx
      obtain ⟨bs, r2⟩ := Dp.reads I dy.pd y u (hy.dp p2) ry
      refine PySem.W.gt_data r1 r2 p3 p4 (by rw [D.pd_depth _ p1, D.pd_depth _ p2]; omega) ⟨.bl _, H, I, rfl, q _ H Grow.refl (.bl _)⟩
    · cases hg
theorem opok_ge (hu : X.A.units + 64 < cLine) : OpOK X (compareOp .GtE) geD := by
  intro pins s σ H x y v u Q ι F ob dx dy r I rx ry ro hx hy hg q
  unfold geD at hg
  split at hg
  · cases hg
    rw [rdn_int hx] at rx; rw [rdn_int hy] at ry
    exact op_ge pins s σ H _ _ v u Q I rx ry ⟨_, _, rfl, rfl, q _ H Grow.refl (.bl _)⟩
  · split at hg
    · rename_i ho
      cases hg
      obtain ⟨p1, p2, p3, p4, p5⟩ := ordOk_ok ho
      obtain ⟨as, r1⟩ := Dp.reads I dx.pd x v (hx.dp p1) rx
      obtain ⟨bs, r2⟩ := Dp.reads I dy.pd y u (hy.dp p2) ry
      refine PySem.W.ge_data r1 r2 p3 p4 (by rw [D.pd_depth _ p1, D.pd_depth _ p2]; omega) ⟨.bl _, H, I, rfl, q _ H Grow.refl (.bl _)⟩
    · cases hg
theorem memD_pd {d : D} (hd : d.plain = true) : ∀ l : List D, D.plains l = true → ((D.pds l).any fun y => PyData.eqv y d.pd) = memD d l
  | [], _ => rfl
  | x :: l, h => by
    rw [D.plains, Bool.and_eq_true] at h
    unfold memD
    rw [D.pds, List.any_cons, List.any_cons, D.eqv_pd x d h.1 hd, memD_pd hd l h.2]
    rfl
theorem opok_in (hu : X.A.units + 64 < cLine) : OpOK X (compareOp .In) (yesD inD) := by
  intro pins s σ H x y v u Q ι F ob dx dy r I rx ry ro hx hy hg q
  unfold yesD inD at hg
  split at hg
  · rename_i l
    split at hg
    · rename_i ho
      cases hg
      unfold inOk at ho
      simp only [Bool.and_eq_true, decide_eq_true_eq] at ho
      have hp : (D.tup l).plain = true := by rw [D.plain]; exact ho.1.2
      obtain ⟨as, r1⟩ := Dp.reads I dx.pd x v (hx.dp ho.1.1) rx
      obtain ⟨bs, r2⟩ := Dp.reads I _ y u (hy.dp hp) ry
      rw [D.pd] at r2
      refine SeqAt.in_tuple_data r2 r1 (D.pds_plain _ ho.1.2) (D.pd_plain _ ho.1.1) (by rw [D.pd_depth _ ho.1.1, D.pds_depth _ ho.1.2]; omega) ⟨.bl _, H, I, rfl, ?_⟩
      rw [memD_pd ho.1.1 l ho.1.2]
      exact q _ H Grow.refl (.bl _)
    · cases hg
  · rename_i l
    split at hg
    · rename_i ho
      cases hg
      unfold inOk at ho
      simp only [Bool.and_eq_true, decide_eq_true_eq] at ho
      have hp : (D.lst l).plain = true := by rw [D.plain]; exact ho.1.2
      obtain ⟨as, r1⟩ := Dp.reads I dx.pd x v (hx.dp ho.1.1) rx
      obtain ⟨bs, r2⟩ := Dp.reads I _ y u (hy.dp hp) ry
      rw [D.pd] at r2
      refine SeqAt.in_list_data r2 r1 (D.pds_plain _ ho.1.2) (D.pd_plain _ ho.1.1) (by rw [D.pd_depth _ ho.1.1, D.pds_depth _ ho.1.2]; omega) ⟨.bl _, H, I, rfl, ?_⟩
      rw [memD_pd ho.1.1 l ho.1.2]
      exact q _ H Grow.refl (.bl _)
    · cases hg
  · split at hg
    · cases hg
      rw [rdn_str hx] at rx; rw [rdn_str hy] at ry
      exact op_in_str pins s σ H _ _ v u Q I rx ry ⟨_, _, rfl, rfl, q _ H Grow.refl (.bl _)⟩
    · cases hg
  · cases hg
theorem opok_nin (hu : X.A.units + 64 < cLine) : OpOK X (compareOp .NotIn) (notD inD) := by
  intro pins s σ H x y v u Q ι F ob dx dy r I rx ry ro hx hy hg q
  unfold notD inD at hg
  split at hg
  · rename_i l
    split at hg
    · rename_i ho
      cases hg
      unfold inOk at ho
      simp only [Bool.and_eq_true, decide_eq_true_eq] at ho
      have hp : (D.tup l).plain = true := by rw [D.plain]; exact ho.1.2
      obtain ⟨as, r1⟩ := Dp.reads I dx.pd x v (hx.dp ho.1.1) rx
      obtain ⟨bs, r2⟩ := Dp.reads I _ y u (hy.dp hp) ry
      rw [D.pd] at r2
      refine SeqAt.notIn_tuple_data r2 r1 (D.pds_plain _ ho.1.2) (D.pd_plain _ ho.1.1) (by rw [D.pd_depth _ ho.1.1, D.pds_depth _ ho.1.2]; omega) ⟨.bl _, H, I, rfl, ?_⟩
      rw [memD_pd ho.1.1 l ho.1.2]
      exact q _ H Grow.refl (.bl _)
    · cases hg
  · rename_i l
    split at hg
    · rename_i ho
      cases hg
      unfold inOk at ho
      simp only [Bool.and_eq_true, decide_eq_true_eq] at ho
      have hp : (D.lst l).plain = true := by rw [D.plain]; exact ho.1.2
      obtain ⟨as, r1⟩ := Dp.reads I dx.pd x v (hx.dp ho.1.1) rx
      obtain ⟨bs, r2⟩ := Dp.reads I _ y u (hy.dp hp) ry
      rw [D.pd] at r2
      refine SeqAt.notIn_list_data r2 r1 (D.pds_plain _ ho.1.2) (D.pd_plain _ ho.1.1) (by rw [D.pd_depth _ ho.1.1, D.pds_depth _ ho.1.2]; omega) ⟨.bl _, H, I, rfl, ?_⟩
      rw [memD_pd ho.1.1 l ho.1.2]
      exact q _ H Grow.refl (.bl _)
    · cases hg
  · split at hg
    · cases hg
      rw [rdn_str hx] at rx; rw [rdn_str hy] at ry
      exact op_notin_str pins s σ H _ _ v u Q I rx ry ⟨_, _, rfl, rfl, q _ H Grow.refl (.bl _)⟩
    · cases hg
  · cases hg
theorem rdn_ne_non {K : KW} {ι : List Addr} {F : Addr → Prop} {H : Hp} {x : V} {d : D} (h : Rdn K ι F H x d) (hd : d ≠ .non) : x ≠ .non := by
  rintro rfl
  cases d with
  | lst l => obtain ⟨a, xs, e, _⟩ := h; cases e
  | dct k w => obtain ⟨a, xs, e, _⟩ := h; cases e
  | non => exact hd rfl
  | bl b => have h' : Den K ι F H .non _ := h; cases h'
  | int b => have h' : Den K ι F H .non _ := h; cases h'
  | str b => have h' : Den K ι F H .non _ := h; cases h'
  | tup b => have h' : Den K ι F H .non _ := h; cases h'
  | scr b => have h' : Den K ι F H .non _ := h; cases h'
  | set b => have h' : Den K ι F H .non _ := h; cases h'
  | tbl b b2 => have h' : Den K ι F H .non _ := h; cases h'
  | ob b => have h' : Den K ι F H .non _ := h; cases h'
theorem opok_is : OpOK X (compareOp .Is) (yesD isD) := by
  intro pins s σ H x y v u Q ι F ob dx dy r I rx ry ro hx hy hg q
  unfold yesD isD at hg
  split at hg
  · rw [rdn_non hy] at ry
    split at hg
    · cases hg
      rw [rdn_non hx] at rx
      exact op_isN pins s σ H _ _ v u Q I rx ry ⟨rfl, q _ H Grow.refl (.bl _)⟩
    · rename_i hn
      cases hg
      refine op_isN pins s σ H _ _ v u Q I rx ry ⟨rfl, ?_⟩
      rw [decide_eq_false (rdn_ne_non hx (fun e => hn e))]
      exact q _ H Grow.refl (.bl _)
  · split at hg
    · cases hg
      rw [rdn_bl hx] at rx; rw [rdn_bl hy] at ry
      exact op_isBl pins s σ H _ _ v u Q I rx ry ⟨_, _, rfl, rfl, q _ H Grow.refl (.bl _)⟩
    · cases hg
  · cases hg
theorem opok_nis : OpOK X (compareOp .IsNot) (notD isD) := by
  intro pins s σ H x y v u Q ι F ob dx dy r I rx ry ro hx hy hg q
  unfold notD isD at hg
  split at hg
  · rw [rdn_non hy] at ry
    split at hg
    · cases hg
      rw [rdn_non hx] at rx
      exact op_notN pins s σ H _ _ v u Q I rx ry ⟨rfl, q _ H Grow.refl (.bl _)⟩
    · rename_i hn
      cases hg
      refine op_notN pins s σ H _ _ v u Q I rx ry ⟨rfl, ?_⟩
      rw [decide_eq_false (rdn_ne_non hx (fun e => hn e))]
      exact q _ H Grow.refl (.bl _)
  · split at hg
    · cases hg
      rw [rdn_bl hx] at rx; rw [rdn_bl hy] at ry
      exact op_notBl pins s σ H _ _ v u Q I rx ry ⟨_, _, rfl, rfl, q _ H Grow.refl (.bl _)⟩
    · cases hg
  · cases hg
end
theorem dr_bin {c : SI} {a b : Expr} {op : Operator} {g : D → D → Option Rv} {fa fb : EM} {pos : Pos} (ho : ∀ X, Sta X c → OpOK X (binaryOp op) g) (ha : DE c a fa) (hb : DE c b fb) : DR c (.BinOp a op b pos) (rOp g fa fb) := fun X W S tk =>
  ⟨fun pins s σ H Q I h => wpAny_BinOp (op_read (ha X W S tk) (hb X W S tk) (ho X S) I h)⟩
theorem dr_cmp {c : SI} {a b : Expr} {op : CmpOp} {g : D → D → Option Rv} {fa fb : EM} {pos : Pos} (ho : ∀ X, Sta X c → OpOK X (compareOp op) g) (ha : DE c a fa) (hb : DE c b fb) (hm : behindInMarks op b = false) : DR c (.Compare a [op] [b] pos) (rOp g fa fb) := fun X W S tk =>
  ⟨fun pins s σ H Q I h => wpAny_Compare1 (op_read (ha X W S tk) (hb X W S tk) (ho X S) I h) hm⟩
end Cut
end
section
/-! CutExpr: tests, and, or, not, chains, conditional expressions, subscripts, slices. -/
namespace Cut
open PySem PySem.Spec PyProof.Rows L2

/-! ### tests -/
def truD : D → Option Bool
  | .bl b => some b
  | .non => some false
  | .int i => some (i != 0)
  | .lst l => some !l.isEmpty
  | .tup l => some !l.isEmpty
  | _ => none
def tTru (f : EM) : TM := fun s => (f s).bind fun d s1 => match truD (look s1.ob d) with
  | some b => .ok b s1
  | none => .bad
def plainTest : Expr → Bool
  | .UnaryOp .. => false | .BoolOp .. => false | .IfExp .. => false | .Compare .. => false
  | _ => true
theorem plainTest_ok {e : Expr} {env : Env} (h : plainTest e = true) (whole : Sem Value) : isTrue e env whole = (do let v ← whole; standAt e.pos; holding [v] (truthy v)) := by
  cases e <;> first | rfl | cases h
theorem Dens.isEmpty {K : KW} {ι : List Addr} {F : Addr → Prop} {H : Hp} {xs : List V} {ds : List D} (h : Dens K ι F H xs ds) : xs.isEmpty = ds.isEmpty := by
  cases h <;> rfl
theorem dt_val {c : SI} {e : Expr} {f : EM} (h : DE c e f) (hp : plainTest e = true) : DT c e (tTru f) := fun X W S tk => by
  refine (pt_truth (h X W S tk) (plainTest_ok hp)).imp fun σ H Q h => ?_
  obtain ⟨ι, F, ps, r, q⟩ := h
  refine ⟨ι, F, ps, r, Sat.seq q fun d ps1 ι1 F1 H1 v e1 r1 d1 s => ?_⟩
  have hd := d1.look r1.ob
  generalize look ps1.ob d = dd at s hd
  unfold truD at s
  split at s
  · rename_i b hb
    refine ⟨b, ?_, s ι1 F1 H1 _ e1 r1 rfl⟩
    split at hb
    · cases hb; rw [rdn_bl hd]; rfl
    · cases hb; rw [rdn_non hd]; rfl
    · cases hb; rw [rdn_int hd]; rfl
    · cases hb
      obtain ⟨a, xs, rfl, ha, da⟩ := hd
      exact .inl ⟨xs, .inl (.inl ha), by rw [da.isEmpty]⟩
    · cases hb
      obtain ⟨a, xs, rfl, ha, da⟩ := rdn_tup hd
      exact .inr (.inl ⟨xs, ha, by rw [da.isEmpty]⟩)
    · cases hb
  · exact s.elim
/-- a value that is True or False, as a test -/
def tB (f : RM) : TM := fun s => (f s).bind fun r s1 => match r with
  | .val (.bl b) => .ok b s1
  | _ => .bad
theorem tB_read {K : KW} {mg : Str → Option Value} {W : WX} {f : RM} {σ : L2.St} {H : Hp} {Q : Bool → Hp → Prop} (h : tT K mg W (tB f) σ H Q) : tR K mg W f σ H fun z H' => ∃ k, z = .bl k ∧ Q k H' := by
  obtain ⟨ι, F, ps, r, q⟩ := h
  refine ⟨ι, F, ps, r, Sat.seq q fun d ps1 ι1 F1 H1 v e1 r1 d1 s => ?_⟩
  split at s
  · have d1 : Den K ι1 F1 H1 v (.bl _) := d1
    cases d1
    exact ⟨_, rfl, s ι1 F1 H1 _ e1 r1 rfl⟩
  · exact s.elim
theorem dt_cmp {c : SI} {a b : Expr} {op : CmpOp} {g : D → D → Option Rv} {fa fb : EM} {pos : Pos} (ho : ∀ X, Sta X c → OpOK X (compareOp op) g) (ha : DE c a fa) (hb : DE c b fb) (hm : behindInMarks op b = false) : DT c (.Compare a [op] [b] pos) (tB (rOp g fa fb)) := fun X W S tk =>
  ⟨fun pins s σ H Q I h => by
    refine wpAny_isTrue_Compare1 (thn (op_read (Q := fun z H' => ∃ k, z = .bl k ∧ Q k H') (ha X W S tk) (hb X W S tk) (ho X S) I (tB_read h)) fun v s1 h1 => thn h1 fun u s2 h2 => thn h2 fun z s3 ⟨x, H1, I1, r1, k, e, q⟩ => ?_) hm
    subst e
    cases r1
    exact wpAny_truthy_bool ⟨H1, I1, q⟩⟩
/-! ### chains -/
def rChain (g g' : D → D → Option Rv) (fa fb fc : EM) : RM := fun s => (fa s).bind fun dx s1 => (fb s1).bind fun dy s2 =>
  match g (look s2.ob dx) (look s2.ob dy) with
  | some (.val (.bl true)) => (fc s2).bind fun dz s3 => match g' (look s3.ob dy) (look s3.ob dz) with
    | some r => .ok r s3
    | none => .bad
  | some (.val (.bl false)) => .ok (.val (.bl false)) s2
  | _ => .bad
/-- an operation's reading, by data -/
def rD (X : Cx) (g : D → D → Option Rv) : R2 := fun x y H Q => ∃ ι F ob dx dy r, ORel X.kw X.mg ι F ob H ∧ Rdn X.kw ι F H x dx ∧ Rdn X.kw ι F H y dy ∧ g dx dy = some r ∧ ∀ z H', Grow H H' → DenR X.kw ι F H H' z r → Q z H'
theorem OpOK.r {X : Cx} {f : Value → Value → Sem Value} {g : D → D → Option Rv} (h : OpOK X f g) : OpR X f (rD X g) := by
  intro pins s σ H x y v u Q I rx ry q
  obtain ⟨ι, F, ob, dx, dy, r, ro, hx, hy, hg, q⟩ := q
  exact h pins s σ H x y v u Q ι F ob dx dy r I rx ry ro hx hy hg q
theorem chain_read {X : Cx} {W : WX} {g g' : D → D → Option Rv} {fa fb fc : EM} {σ : L2.St} {H : Hp} {Q : VK} (h : tR X.kw X.mg W (rChain g g' fa fb fc) σ H Q) :
    tChain (rD X g) (rD X g') (tE X.kw X.mg W fa) (tE X.kw X.mg W fb) (tE X.kw X.mg W fc) σ H Q := by
  obtain ⟨ι, F, ps, r, q⟩ := h
  refine ⟨ι, F, ps, r, Sat.seq q fun dx ps1 ι1 F1 H1 x e1 r1 d1 s => ?_⟩
  refine ⟨ι1, F1, ps1, r1, Sat.seq (s.on rR_mono e1) fun dy ps2 ι2 F2 H2 y e2 r2 d2 s2 => ?_⟩
  have d1' := d1.ext e2
  refine ⟨ι2, F2, ps2.ob, look ps2.ob dx, look ps2.ob dy, ?_⟩
  split at s2
  · rename_i hg
    refine ⟨_, r2.ob, d1'.look r2.ob, d2.look r2.ob, hg, fun z H' gr dz => ?_⟩
    have dz : Den X.kw ι2 F2 H' z (.bl true) := dz
    cases dz
    refine ⟨true, rfl, ?_⟩
    rw [if_pos rfl]
    refine ⟨ι2, F2, ps2, r2.grow gr, Sat.seq (s2.on rR_mono (e2.trans (Ext.grow gr))) fun dz ps3 ι3 F3 H3 w e3 r3 d3 s3 => ?_⟩
    have d2' := (d2.grow gr).ext e3
    split at s3
    · rename_i rr hg3
      exact ⟨ι3, F3, ps3.ob, _, _, rr, r3.ob, d2'.look r3.ob, d3.look r3.ob, hg3, fun z H' gr' dr => s3 ι3 F3 H' z (e3.trans (Ext.grow gr')) (r3.grow gr') (dr.weak e3.there)⟩
    · exact s3.elim
  · rename_i hg
    refine ⟨_, r2.ob, d1'.look r2.ob, d2.look r2.ob, hg, fun z H' gr dz => ?_⟩
    have dz : Den X.kw ι2 F2 H' z (.bl false) := dz
    cases dz
    refine ⟨false, rfl, ?_⟩
    rw [if_neg Bool.false_ne_true]
    exact s2 ι2 F2 H' _ (e2.trans (Ext.grow gr)) (r2.grow gr) (Den.bl false)
  · exact s2.elim
theorem dr_chain {c : SI} {a b d : Expr} {op op' : CmpOp} {g g' : D → D → Option Rv} {fa fb fc : EM} {pos : Pos} (ho : ∀ X, Sta X c → OpOK X (compareOp op) g) (ho' : ∀ X, Sta X c → OpOK X (compareOp op') g') (ha : DE c a fa) (hb : DE c b fb) (hc : DE c d fc)
    (hm : lastMarks [op, op'] [b, d] = false) : DR c (.Compare a [op, op'] [b, d] pos) (rChain g g' fa fb fc) := fun X W S tk =>
  (pe_chain (ho X S).r (ho' X S).r (ha X W S tk) (hb X W S tk) (hc X W S tk) hm).imp fun σ H Q h => chain_read h
theorem dt_chain {c : SI} {a b d : Expr} {op op' : CmpOp} {g g' : D → D → Option Rv} {fa fb fc : EM} {pos : Pos} (ho : ∀ X, Sta X c → OpOK X (compareOp op) g) (ho' : ∀ X, Sta X c → OpOK X (compareOp op') g') (ha : DE c a fa) (hb : DE c b fb) (hc : DE c d fc)
    (hm : lastMarks [op, op'] [b, d] = false) : DT c (.Compare a [op, op'] [b, d] pos) (tB (rChain g g' fa fb fc)) := fun X W S tk =>
  (pt_chain (ho X S).r (ho' X S).r (ha X W S tk) (hb X W S tk) (hc X W S tk) hm).imp fun σ H Q h => chain_read (tB_read h)
/-! ### and, or, not -/
def tAnd2 (f g : TM) : TM := fun s => (f s).bind fun b s1 => if b = true then g s1 else .ok false s1
def tOr2 (f g : TM) : TM := fun s => (f s).bind fun b s1 => if b = true then .ok true s1 else g s1
def tNot1 (f : TM) : TM := fun s => (f s).bind fun b s1 => .ok (!b) s1
theorem dw_one {c : SI} {a : Expr} {op : BoolOp} {f : TM} {pos : Pos} (h : DT c a f) : DW c (.BoolOp op [a] pos) f := fun X W S tk => by
  cases op with
  | And => exact pw_and1 (h X W S tk)
  | Or => exact pw_or1 (h X W S tk)
theorem dw_and {c : SI} {a b : Expr} {rest : List Expr} {f g : TM} {pos : Pos} (h1 : DT c a f) (h2 : DW c (.BoolOp .And (b :: rest) pos) g) : DW c (.BoolOp .And (a :: b :: rest) pos) (tAnd2 f g) := fun X W S tk =>
  (pw_and (h1 X W S tk) (h2 X W S tk)).imp fun σ H Q h => by
    obtain ⟨ι, F, ps, r, q⟩ := h
    refine ⟨ι, F, ps, r, Sat.seq q fun b ps1 ι1 F1 H1 b' e1 r1 d1 s => ?_⟩
    have d1 : b' = b := d1
    subst d1
    cases b' with
    | true => exact ⟨ι1, F1, ps1, r1, Sat.on rT_mono s e1⟩
    | false => exact s ι1 F1 H1 _ e1 r1 rfl
theorem dw_or {c : SI} {a b : Expr} {rest : List Expr} {f g : TM} {pos : Pos} (h1 : DT c a f) (h2 : DW c (.BoolOp .Or (b :: rest) pos) g) : DW c (.BoolOp .Or (a :: b :: rest) pos) (tOr2 f g) := fun X W S tk =>
  (pw_or (h1 X W S tk) (h2 X W S tk)).imp fun σ H Q h => by
    obtain ⟨ι, F, ps, r, q⟩ := h
    refine ⟨ι, F, ps, r, Sat.seq q fun b ps1 ι1 F1 H1 b' e1 r1 d1 s => ?_⟩
    have d1 : b' = b := d1
    subst d1
    cases b' with
    | false => exact ⟨ι1, F1, ps1, r1, Sat.on rT_mono s e1⟩
    | true => exact s ι1 F1 H1 _ e1 r1 rfl
theorem DW.dt {c : SI} {e : Expr} {f : TM} (h : DW c e f) : DT c e f := fun X W S tk => (h X W S tk).pt
theorem dt_not {c : SI} {a : Expr} {f : TM} {pos : Pos} (h : DT c a f) : DT c (.UnaryOp .Not a pos) (tNot1 f) := fun X W S tk =>
  (pt_not (h X W S tk)).imp fun σ H Q h => by
    obtain ⟨ι, F, ps, r, q⟩ := h
    refine ⟨ι, F, ps, r, Sat.seq q fun b ps1 ι1 F1 H1 b' e1 r1 d1 s => ?_⟩
    have d1 : b' = b := d1
    subst d1
    exact s ι1 F1 H1 _ e1 r1 rfl
/-! ### as values -/
def eAnd (f g : EM) : EM := fun s => (f s).bind fun d s1 => match d with
  | .bl true => g s1
  | .bl false => .ok (.bl false) s1
  | _ => .bad
def eOr (f g : EM) : EM := fun s => (f s).bind fun d s1 => match d with
  | .bl true => .ok (.bl true) s1
  | .bl false => g s1
  | _ => .bad
def eNot (f : EM) : EM := fun s => (f s).bind fun d s1 => match d with
  | .bl b => .ok (.bl (!b)) s1
  | _ => .bad
def eIf (t : TM) (f g : EM) : EM := fun s => (t s).bind fun b s1 => if b = true then f s1 else g s1
def rIf (t : TM) (f g : RM) : RM := fun s => (t s).bind fun b s1 => if b = true then f s1 else g s1
theorem de_one {c : SI} {a : Expr} {op : BoolOp} {f : EM} {pos : Pos} (h : DE c a f) : DE c (.BoolOp op [a] pos) f := fun X W S tk => pe_one (h X W S tk)
theorem de_and {c : SI} {a b : Expr} {rest : List Expr} {f g : EM} {pos : Pos} (h1 : DE c a f) (h2 : DE c (.BoolOp .And (b :: rest) pos) g) : DE c (.BoolOp .And (a :: b :: rest) pos) (eAnd f g) := fun X W S tk =>
  (pe_and (h1 X W S tk) (h2 X W S tk)).imp fun σ H Q h => by
    obtain ⟨ι, F, ps, r, q⟩ := h
    refine ⟨ι, F, ps, r, Sat.seq q fun d ps1 ι1 F1 H1 v e1 r1 d1 s => ?_⟩
    split at s
    · cases d1
      refine ⟨true, rfl, ?_⟩
      rw [if_pos rfl]
      exact ⟨ι1, F1, ps1, r1, Sat.on rE_mono s e1⟩
    · cases d1
      refine ⟨false, rfl, ?_⟩
      rw [if_neg Bool.false_ne_true]
      exact s ι1 F1 H1 _ e1 r1 (.bl false)
    · exact s.elim
theorem de_or {c : SI} {a b : Expr} {rest : List Expr} {f g : EM} {pos : Pos} (h1 : DE c a f) (h2 : DE c (.BoolOp .Or (b :: rest) pos) g) : DE c (.BoolOp .Or (a :: b :: rest) pos) (eOr f g) := fun X W S tk =>
  (pe_or (h1 X W S tk) (h2 X W S tk)).imp fun σ H Q h => by
    obtain ⟨ι, F, ps, r, q⟩ := h
    refine ⟨ι, F, ps, r, Sat.seq q fun d ps1 ι1 F1 H1 v e1 r1 d1 s => ?_⟩
    split at s
    · cases d1
      refine ⟨true, rfl, ?_⟩
      rw [if_pos rfl]
      exact s ι1 F1 H1 _ e1 r1 (.bl true)
    · cases d1
      refine ⟨false, rfl, ?_⟩
      rw [if_neg Bool.false_ne_true]
      exact ⟨ι1, F1, ps1, r1, Sat.on rE_mono s e1⟩
    · exact s.elim
theorem de_not {c : SI} {a : Expr} {f : EM} {pos : Pos} (h : DE c a f) : DE c (.UnaryOp .Not a pos) (eNot f) := fun X W S tk =>
  (pe_not (h X W S tk)).imp fun σ H Q h => by
    obtain ⟨ι, F, ps, r, q⟩ := h
    refine ⟨ι, F, ps, r, Sat.seq q fun d ps1 ι1 F1 H1 v e1 r1 d1 s => ?_⟩
    split at s
    · cases d1
      exact ⟨_, rfl, s ι1 F1 H1 _ e1 r1 (.bl _)⟩
    · exact s.elim
theorem de_if {c : SI} {t a b : Expr} {ft : TM} {fa fb : EM} {pos : Pos} (ht : DT c t ft) (ha : DE c a fa) (hb : DE c b fb) : DE c (.IfExp t a b pos) (eIf ft fa fb) := fun X W S tk =>
  (pe_ifExp (ht X W S tk) (ha X W S tk) (hb X W S tk)).imp fun σ H Q h => by
    obtain ⟨ι, F, ps, r, q⟩ := h
    refine ⟨ι, F, ps, r, Sat.seq q fun b ps1 ι1 F1 H1 b' e1 r1 d1 s => ?_⟩
    have d1 : b' = b := d1
    subst d1
    split <;> rename_i hb
    · rw [if_pos hb] at s; exact ⟨ι1, F1, ps1, r1, Sat.on rE_mono s e1⟩
    · rw [if_neg hb] at s; exact ⟨ι1, F1, ps1, r1, Sat.on rE_mono s e1⟩
theorem dr_if {c : SI} {t a b : Expr} {ft : TM} {fa fb : RM} {pos : Pos} (ht : DT c t ft) (ha : DR c a fa) (hb : DR c b fb) : DR c (.IfExp t a b pos) (rIf ft fa fb) := fun X W S tk =>
  (pe_ifExp (ht X W S tk) (ha X W S tk) (hb X W S tk)).imp fun σ H Q h => by
    obtain ⟨ι, F, ps, r, q⟩ := h
    refine ⟨ι, F, ps, r, Sat.seq q fun b ps1 ι1 F1 H1 b' e1 r1 d1 s => ?_⟩
    have d1 : b' = b := d1
    subst d1
    split <;> rename_i hb
    · rw [if_pos hb] at s; exact ⟨ι1, F1, ps1, r1, Sat.on rR_mono s e1⟩
    · rw [if_neg hb] at s; exact ⟨ι1, F1, ps1, r1, Sat.on rR_mono s e1⟩
/-- -e -/
def eNeg (f : EM) : EM := fun s => (f s).bind fun d s1 => match d with
  | .int i => .ok (.int (-i)) s1
  | _ => .bad
theorem de_neg {c : SI} {a : Expr} {f : EM} {pos : Pos} (h : DE c a f) : DE c (.UnaryOp .USub a pos) (eNeg f) := fun X W S tk =>
  (pe_un un_neg (h X W S tk)).imp fun σ H Q h => by
    obtain ⟨ι, F, ps, r, q⟩ := h
    refine ⟨ι, F, ps, r, Sat.seq q fun d ps1 ι1 F1 H1 v e1 r1 d1 s => ?_⟩
    split at s
    · cases d1
      exact ⟨_, rfl, s ι1 F1 H1 _ e1 r1 (.int _)⟩
    · exact s.elim
/-! ### subscripts -/
def keyD : D → Option Key
  | .int i => some (.inl i)
  | .str x => some (.inr x)
  | _ => none
/-- the value under a key -/
def getK : List D → List D → Key → Option D
  | k :: ks, v :: vs, key => if keyD k = some key then some v else getK ks vs key
  | _, _, _ => none
theorem keyD_of {K : KW} {ι : List Addr} {F : Addr → Prop} {H : Hp} {k : Key} {d : D} (h : Den K ι F H (kV k) d) : keyD d = some k := by
  cases k with
  | inl i =>
    have h : Den K ι F H (.int i) d := h
    cases h; rfl
  | inr i =>
    have h : Den K ι F H (.str i) d := h
    cases h; rfl
theorem kV_of {K : KW} {ι : List Addr} {F : Addr → Prop} {H : Hp} {k : Key} {d : D} {y : V} (h : Rdn K ι F H y d) (e : keyD d = some k) : y = kV k := by
  cases d with
  | int i => cases e; exact rdn_int h
  | str i => cases e; exact rdn_str h
  | _ => cases e
theorem getK_valV {K : KW} {ι : List Addr} {F : Addr → Prop} {H : Hp} (key : Key) : ∀ {kvs : List (Key × V)} {ks vs : List D}, Dens K ι F H (kvs.map fun p => kV p.1) ks → Dens K ι F H (kvs.map (·.2)) vs →
    (∃ v d, valV kvs key = some v ∧ getK ks vs key = some d ∧ Den K ι F H v d) ∨ (valV kvs key = none ∧ getK ks vs key = none)
  | [], _, _, h1, h2 => by
    have h1 : Dens K ι F H [] _ := h1
    cases h1
    exact .inr ⟨rfl, rfl⟩
  | (k, v) :: kvs, _, _, h1, h2 => by
    have h1 : Dens K ι F H (kV k :: kvs.map fun p => kV p.1) _ := h1
    have h2 : Dens K ι F H (v :: kvs.map (·.2)) _ := h2
    cases h1 with
    | cons a1 b1 =>
      cases h2 with
      | cons a2 b2 =>
        have ek := keyD_of a1
        unfold getK
        rw [ek]
        by_cases hk : k = key
        · subst hk
          refine .inl ⟨v, _, ?_, if_pos rfl, a2⟩
          unfold valV
          rw [List.find?_cons_of_pos (by simp)]
          rfl
        · have e1 : valV ((k, v) :: kvs) key = valV kvs key := by
            unfold valV
            rw [List.find?_cons_of_neg (by simpa using hk)]
          rw [e1, if_neg (fun z => hk (Option.some.inj z))]
          exact getK_valV key b1 b2
def ixD (x y : D) : Option Rv := match x, y with
  | .lst l, .int i => (atI l i).map .val
  | .tup l, .int i => (atI l i).map .val
  | .str z, .int i => if lenOk z.length then (atI z.cps.toList i).map fun c => .val (.str ⟨#[c]⟩) else none
  | .dct ks vs, k => ((keyD k).bind fun key => getK ks vs key).map .val
  | _, _ => none
theorem Dens.at {K : KW} {ι : List Addr} {F : Addr → Prop} {H : Hp} {xs : List V} {ds : List D} (h : Dens K ι F H xs ds) {i : Int} {d : D} (e : atI ds i = some d) : ∃ v, atI xs i = some v ∧ Den K ι F H v d := by
  unfold atI at e ⊢
  rw [h.length]
  cases hx : ixN ds.length i with
  | none => rw [hx] at e; cases e
  | some j =>
    rw [hx] at e
    exact h.get (by simpa using e)
def plainIx : Expr → Bool
  | .Slice .. => false
  | _ => true
theorem plainIx_ok {b : Expr} (h : plainIx b = true) : PlainIx b := by
  intro o i
  cases b <;> first | rfl | cases h
theorem ixok {X : Cx} (hu : X.A.units + 1 < cLine) : IxR X (rD X ixD) := by
  intro value slice pins s σ H x y v u Q I rx ry h hs
  obtain ⟨ι, F, ob, dx, dy, r, ro, hx, hy, hg, q⟩ := h
  unfold ixD at hg
  split at hg
  · rename_i l i
    obtain ⟨a, xs, rfl, ha, da⟩ := hx
    cases hat : atI l i with
    | none => rw [hat] at hg; cases hg
    | some d =>
      rw [hat] at hg; cases hg
      obtain ⟨w, hw, hd⟩ := da.at hat
      exact ix_list value slice pins s σ H _ y v u Q I rx ry ⟨a, xs, i, w, rfl, rdn_int hy, .inl (.inl ha), hw, q w H Grow.refl hd⟩ hs
  · rename_i l i
    obtain ⟨a, xs, rfl, ha, da⟩ := rdn_tup hx
    cases hat : atI l i with
    | none => rw [hat] at hg; cases hg
    | some d =>
      rw [hat] at hg; cases hg
      obtain ⟨w, hw, hd⟩ := da.at hat
      exact ix_tup value slice pins s σ H _ y v u Q I rx ry ⟨a, xs, i, w, rfl, rdn_int hy, ha, hw, q w H Grow.refl hd⟩ hs
  · rename_i z i
    split at hg
    · rename_i hl
      cases hat : atI z.cps.toList i with
      | none => rw [hat] at hg; cases hg
      | some d =>
        rw [hat] at hg; cases hg
        exact ix_str value slice pins s σ H x y v u Q I rx ry ⟨z, i, d, rdn_str hx, rdn_int hy, lenOk_le hl, hat, q _ H Grow.refl (.str _)⟩ hs
    · cases hg
  · rename_i ks vs
    obtain ⟨a, kvs, rfl, ha, dk, dv⟩ := hx
    cases hk : keyD dy with
    | none => rw [hk] at hg; cases hg
    | some key =>
      rw [hk] at hg
      have hg : (getK ks vs key).map Rv.val = some r := hg
      rcases getK_valV key dk dv with ⟨w, d, h1, h2, h3⟩ | ⟨h1, h2⟩
      · rw [h2] at hg; cases hg
        obtain rfl : v = Value.ref a := rx
        have g : DGet H a y (some w) := .inl ⟨kvs, key, .inl ha, kV_of hy hk, h1.symm⟩
        exact tail_any (dict_typeIs I g) PySem.F.slot_dict_getitem.lookup (d_getItem hu I g ry fun w' s3 I3 rw' => ⟨w, H, I3, rw', q w H Grow.refl h3⟩) hs
      · rw [h2] at hg; cases hg
  · cases hg
theorem op_readR {X : Cx} {W : WX} {g : D → D → Option Rv} {fa fb : EM} {σ : L2.St} {H : Hp} {Q : VK} (h : tR X.kw X.mg W (rOp g fa fb) σ H Q) : tOp (rD X g) (tE X.kw X.mg W fa) (tE X.kw X.mg W fb) σ H Q := by
  obtain ⟨ι, F, ps, r, q⟩ := h
  refine ⟨ι, F, ps, r, Sat.seq q fun dx ps1 ι1 F1 H1 x e1 r1 d1 s => ?_⟩
  refine ⟨ι1, F1, ps1, r1, Sat.seq (s.on rR_mono e1) fun dy ps2 ι2 F2 H2 y e2 r2 d2 s2 => ?_⟩
  split at s2
  · rename_i rr hg
    exact ⟨ι2, F2, ps2.ob, _, _, rr, r2.ob, (d1.ext e2).look r2.ob, d2.look r2.ob, hg, fun z H' gr dr => s2 ι2 F2 H' z (e2.trans (Ext.grow gr)) (r2.grow gr) (dr.weak e2.there)⟩
  · exact s2.elim
theorem dr_ix {c : SI} {a b : Expr} {fa fb : EM} {pos : Pos} (hc : c.calm = true) (ha : DE c a fa) (hb : DE c b fb) (hp : plainIx b = true) : DR c (.Subscript a b pos) (rOp ixD fa fb) := fun X W S tk =>
  (pe_ix (ixok (by have := (S.room hc).un; omega)) (ha X W S tk) (hb X W S tk) (plainIx_ok hp)).imp fun σ H Q h => op_readR h
/-! ### slices -/
abbrev OM := PSt → Out (Option Int)
def oNone : OM := fun s => .ok none s
def oSome (f : EM) : OM := fun s => (f s).bind fun d s1 => match d with
  | .int i => .ok (some i) s1
  | _ => .bad
abbrev rO : List Addr → (Addr → Prop) → Hp → Hp → Option Int → Option Int → Prop := fun _ _ _ _ b a => b = a
def DO (c : SI) (e : Option Expr) (f : OM) : Prop := ∀ (X : Cx) (W : WX), Sta X c → Takes X W → PO X e (tO X.kw X.mg W rO f)
theorem _root_.L2.PO.imp {X : Cx} {e : Option Expr} {t t' : L2.TO} (h : PO X e t) (i : ∀ σ H Q, t' σ H Q → t σ H Q) : PO X e t' := ⟨fun pins s σ H Q I q => h.run pins s σ H Q I (i σ H Q q)⟩
theorem do_none {c : SI} : DO c none oNone := fun X W S tk => po_none.imp fun σ H Q h => by
  obtain ⟨ι, F, ps, r, q⟩ := h
  exact q ι F H none Ext.refl r rfl
theorem do_some {c : SI} {e : Expr} {f : EM} (h : DE c e f) : DO c (some e) (oSome f) := fun X W S tk => (po_some (h X W S tk)).imp fun σ H Q h => by
  obtain ⟨ι, F, ps, r, q⟩ := h
  refine ⟨ι, F, ps, r, Sat.seq q fun d ps1 ι1 F1 H1 v e1 r1 d1 s => ?_⟩
  split at s
  · cases d1
    exact ⟨_, rfl, s ι1 F1 H1 _ e1 r1 rfl⟩
  · exact s.elim
def cut {α : Type} (l : List α) (lo hi : Option Int) : List α := (l.drop (HT.sIx l.length 0 lo)).take (HT.sIx l.length l.length hi - HT.sIx l.length 0 lo)
def sliceD (x : D) (lo hi : Option Int) : Option Rv := match x with
  | .lst l => some (.fl (cut l lo hi))
  | .scr l => some (.fl (cut l lo hi))
  | .tup l => some (.val (.tup (cut l lo hi)))
  | .str z => if lenOk z.length then some (.val (.str (cutS z lo hi))) else none
  | _ => none
def rSlice (f : EM) (l h : OM) : RM := fun s => (f s).bind fun d s1 => (l s1).bind fun lo s2 => (h s2).bind fun hi s3 => match sliceD (look s3.ob d) lo hi with
  | some r => .ok r s3
  | none => .bad
theorem Dens.cut {K : KW} {ι : List Addr} {F : Addr → Prop} {H : Hp} {xs : List V} {ds : List D} (h : Dens K ι F H xs ds) (lo hi : Option Int) : Dens K ι F H (cutV xs lo hi) (Cut.cut ds lo hi) := by
  unfold cutV Cut.cut
  rw [h.length]
  exact (h.drop _).take _
theorem cut_all {α : Type} (l : List α) (lo hi : Option Int) (h : HT.sIx l.length 0 lo = 0 ∧ HT.sIx l.length l.length hi = l.length) : cut l lo hi = l := by
  unfold cut
  rw [h.1, h.2, List.drop_zero, Nat.sub_zero, List.take_length]
def rSlD (X : Cx) : V → Option Int → Option Int → Hp → VK → Prop := fun x lo hi H Q => ∃ ι F ob dx r, ORel X.kw X.mg ι F ob H ∧ Rdn X.kw ι F H x dx ∧ sliceD dx lo hi = some r ∧ ∀ z H', Grow H H' → DenR X.kw ι F H H' z r → Q z H'
theorem slok {X : Cx} : SlR X (rSlD X) := by
  intro pins s σ H x v vl vu lo hi sl Q I rx hs pl pu h
  obtain ⟨ι, F, ob, dx, r, ro, hx, hg, q⟩ := h
  unfold sliceD at hg
  split at hg
  · cases hg
    obtain ⟨a, xs, rfl, ha, da⟩ := hx
    refine sl_list pins s σ H _ v vl vu lo hi sl Q I rx hs pl pu ⟨a, xs, rfl, .inl (.inl ha), fun p hp => ?_⟩
    have g : Grow H (upd H p (.lst (cutV xs lo hi))) := Grow.upd hp
    exact q _ _ g ⟨p, _, rfl, hp, (not_ref ro hp).1, (not_ref ro hp).2, upd_same, (da.cut lo hi).grow g⟩
  · cases hg
    have hx : Den X.kw ι F H x (.scr _) := hx
    cases hx with
    | @scr a xs _ h1 h2 =>
      refine sl_list pins s σ H _ v vl vu lo hi sl Q I rx hs pl pu ⟨a, xs, rfl, h1.sq, fun p hp => ?_⟩
      have g : Grow H (upd H p (.lst (cutV xs lo hi))) := Grow.upd hp
      exact q _ _ g ⟨p, _, rfl, hp, (not_ref ro hp).1, (not_ref ro hp).2, upd_same, (h2.cut lo hi).grow g⟩
  · cases hg
    obtain ⟨a, xs, rfl, ha, da⟩ := rdn_tup hx
    refine sl_tupA pins s σ H _ v vl vu lo hi sl Q I rx hs pl pu ⟨a, xs, rfl, ha, fun e => ?_, fun e p hp => ?_⟩
    · refine q _ H Grow.refl (.tup ha ?_)
      rw [cut_all _ _ _ (by rw [da.length] at e; exact e)]
      exact da
    · have g : Grow H (upd H p (.tup (cutV xs lo hi))) := Grow.upd hp
      exact q _ _ g (.tup (.inl (.inl upd_same)) ((da.cut lo hi).grow g))
  · split at hg
    · rename_i hl
      cases hg
      exact sl_str pins s σ H _ v vl vu lo hi sl Q I rx hs pl pu ⟨_, rdn_str hx, lenOk_le hl, q _ H Grow.refl (.str _)⟩
    · cases hg
  · cases hg
theorem rO_mono : ∀ (ι : List Addr) (F : Addr → Prop) (H1 H2 H : Hp) (b a : Option Int), (∀ x, H2 x = none → H1 x = none) → rO ι F H2 H b a → rO ι F H1 H b a := fun _ _ _ _ _ _ _ _ h => h
theorem dr_slice {c : SI} {e : Expr} {lo hi : Option Expr} {f : EM} {l h : OM} {p2 pos : Pos} (he : DE c e f) (hl : DO c lo l) (hh : DO c hi h) : DR c (.Subscript e (.Slice lo hi none p2) pos) (rSlice f l h) := fun X W S tk =>
  (pe_slice slok (he X W S tk) (hl X W S tk) (hh X W S tk)).imp fun σ H Q q => by
    obtain ⟨ι, F, ps, r, q⟩ := q
    refine ⟨ι, F, ps, r, Sat.seq q fun d ps1 ι1 F1 H1 v e1 r1 d1 s => ?_⟩
    refine ⟨ι1, F1, ps1, r1, Sat.seq (s.on rR_mono e1) fun lo ps2 ι2 F2 H2 lo' e2 r2 d2 s2 => ?_⟩
    have d2 : lo' = lo := d2
    subst d2
    refine ⟨ι2, F2, ps2, r2, Sat.seq (s2.on rR_mono e2) fun hi ps3 ι3 F3 H3 hi' e3 r3 d3 s3 => ?_⟩
    have d3 : hi' = hi := d3
    subst d3
    split at s3
    · rename_i rr hg
      exact ⟨ι3, F3, ps3.ob, _, rr, r3.ob, ((d1.ext e2).ext e3).look r3.ob, hg, fun z H' gr dr => s3 ι3 F3 H' z (e3.trans (Ext.grow gr)) (r3.grow gr) (dr.weak e3.there)⟩
    · exact s3.elim
end Cut
end
section
/-! CutCall: calls of built-ins and of defs. -/
namespace Cut
open PySem PySem.Spec PyProof.Rows L2

inductive Rdns (K : KW) (ι : List Addr) (F : Addr → Prop) (H : Hp) : List V → List D → Prop
  | nil : Rdns K ι F H [] []
  | cons {v : V} {vs : List V} {d : D} {ds : List D} : Rdn K ι F H v d → Rdns K ι F H vs ds → Rdns K ι F H (v :: vs) (d :: ds)
theorem Dens.looks {K : KW} {mg : Str → Option Value} {ι : List Addr} {F : Addr → Prop} {H : Hp} {ob : List (Option Ob)} (r : ORel K mg ι F ob H) {vs : List V} {ds : List D} (h : Dens K ι F H vs ds) : Rdns K ι F H vs (ds.map (look ob)) := by
  induction vs generalizing ds with
  | nil => cases h; exact .nil
  | cons v vs ih => cases h with | cons h1 h2 => exact .cons (h1.look r) (ih h2)
def CallOK (X : Cx) (f : Value) (g : List D → Option Rv) : Prop :=
  ∀ (pins : List (Addr × Obj)) (s : Shared) (σ : L2.St) (H : Hp) (xs : List V) (us : List Value) (Q : VK) (ι : List Addr) (F : Addr → Prop) (ob : List (Option Ob)) (ds : List D) (r : Rv),
    Inv X pins σ H s → Vals xs us → ORel X.kw X.mg ι F ob H → Rdns X.kw ι F H xs ds → g ds = some r →
    (∀ z H', Grow H H' → DenR X.kw ι F H H' z r → Q z H') → wpAny (model X.prog X.w) X.A (call f us) (EP X pins σ Q) X.xe s
def rDs (X : Cx) (g : List D → Option Rv) : List V → Hp → VK → Prop := fun xs H Q => ∃ ι F ob ds r, ORel X.kw X.mg ι F ob H ∧ Rdns X.kw ι F H xs ds ∧ g ds = some r ∧ ∀ z H', Grow H H' → DenR X.kw ι F H H' z r → Q z H'
theorem CallOK.r {X : Cx} {f : Value} {g : List D → Option Rv} (h : CallOK X f g) : CallR X f (rDs X g) := by
  intro pins s σ H xs us Q I rx q
  obtain ⟨ι, F, ob, ds, r, ro, hx, hg, q⟩ := q
  exact h pins s σ H xs us Q ι F ob ds r I rx ro hx hg q
/-- the combinator -/
def rB (g : List D → Option Rv) (as : AM) : RM := fun s => (as s).bind fun ds s1 => match g (ds.map (look s1.ob)) with
  | some r => .ok r s1
  | none => .bad
theorem rB_read {X : Cx} {W : WX} {g : List D → Option Rv} {as : AM} {σ : L2.St} {H : Hp} {Q : VK} (h : tR X.kw X.mg W (rB g as) σ H Q) : tCB (rDs X g) (tA X.kw X.mg W as) σ H Q := by
  obtain ⟨ι, F, ps, r, q⟩ := h
  refine ⟨ι, F, ps, r, Sat.seq q fun ds ps1 ι1 F1 H1 vs e1 r1 d1 s => ?_⟩
  split at s
  · rename_i rr hg
    exact ⟨ι1, F1, ps1.ob, _, rr, r1.ob, d1.looks r1.ob, hg, fun z H' gr dr => s ι1 F1 H' z (e1.trans (Ext.grow gr)) (r1.grow gr) (dr.weak e1.there)⟩
  · exact s.elim
theorem plainTail {e : Expr} {es : List Expr} {env : Env} (h : (e :: es).all plainArg = true) (pos : Pos) : (backTo pos (starEach es env)).any (·.1) = false := by
  rw [List.all_cons, Bool.and_eq_true] at h
  have k : ∀ l : List Expr, l.all plainArg = true → (backTo pos (starEach l env)).any (·.1) = false := by
    intro l
    induction l with
    | nil => intro _; rfl
    | cons x l ih =>
      intro hl
      rw [List.all_cons, Bool.and_eq_true] at hl
      rw [starEach_plain hl.1]
      have := ih hl.2
      simpa [backTo] using this
  exact k es h.2
theorem dr_callB {c : SI} {x : Str} {id : String} {e : Expr} {es : List Expr} {g : List D → Option Rv} {as : AM} {p pos : Pos} (hc : ∀ X, Sta X c → CallOK X (.builtin id) g) (hg : c.sc.names.lookup x = some .globalImplicit) (hm : x ∈ c.blts) (hv : bootBuiltins x = some (.builtin id))
    (ha : DA c (e :: es) as) (hp : (e :: es).all plainArg = true) (hn : x ≠ "__name__") (hdb : (x == ("__debug__" : Str)) = false) : DR c (.Call (.Name x p) (e :: es) [] pos) (rB g as) := fun X W S tk =>
  (pe_callB (hc X S).r (Gl.of S hg) (S.blt x hm) hv (ha X W S tk) hn hdb (starEach_plain (by rw [List.all_cons, Bool.and_eq_true] at hp; exact hp.1)) (plainTail hp pos)).imp fun σ H Q h => rB_read h
theorem dr_callTy {c : SI} {x : Str} {T : String} {e : Expr} {es : List Expr} {g : List D → Option Rv} {as : AM} {p pos : Pos} (hc : ∀ X, Sta X c → CallOK X (.type T) g) (hg : c.sc.names.lookup x = some .globalImplicit) (hm : x ∈ c.blts) (hv : bootBuiltins x = some (.type T))
    (ha : DA c (e :: es) as) (hp : (e :: es).all plainArg = true) (hn : x ≠ "__name__") (hdb : (x == ("__debug__" : Str)) = false) : DR c (.Call (.Name x p) (e :: es) [] pos) (rB g as) := fun X W S tk =>
  (pe_callTy (hc X S).r (Gl.of S hg) (S.blt x hm) hv (ha X W S tk) hn hdb (starEach_plain (by rw [List.all_cons, Bool.and_eq_true] at hp; exact hp.1)) (plainTail hp pos)).imp fun σ H Q h => rB_read h
/-! ### the built-ins -/
def intsD : List D → Option (List Int)
  | [] => some []
  | .int i :: l => (intsD l).map (i :: ·)
  | _ :: _ => none
def blsD : List D → Option (List Bool)
  | [] => some []
  | .bl i :: l => (blsD l).map (i :: ·)
  | _ :: _ => none
def lenD : List D → Option Rv
  | [.lst l] => some (.val (.int l.length))
  | [.tup l] => some (.val (.int l.length))
  | [.scr l] => some (.val (.int l.length))
  | [.dct ks _] => some (.val (.int ks.length))
  | [.set l] => some (.val (.int l.length))
  | [.str z] => if lenOk z.length then some (.val (.int z.length)) else none
  | _ => none
def absD : List D → Option Rv
  | [.int i] => some (.val (.int (if i < 0 then -i else i)))
  | _ => none
def intD : List D → Option Rv
  | [.int i] => some (.val (.int i))
  | [.bl b] => some (.val (.int (if b then 1 else 0)))
  | _ => none
def greatest : Int → List Int → Int
  | m, [] => m
  | m, i :: l => greatest (if i > m then i else m) l
def smallest : Int → List Int → Int
  | m, [] => m
  | m, i :: l => smallest (if i < m then i else m) l
def maxD : List D → Option Rv
  | [.int i, .int j] => some (.val (.int (if j > i then j else i)))
  | [.lst l] => match intsD l with
    | some (i :: ns) => some (.val (.int (greatest i ns)))
    | _ => none
  | _ => none
def minD : List D → Option Rv
  | [.int i, .int j] => some (.val (.int (if j < i then j else i)))
  | [.lst l] => match intsD l with
    | some (i :: ns) => some (.val (.int (smallest i ns)))
    | _ => none
  | _ => none
def allD : List D → Option Rv
  | [.lst l] => (blsD l).map fun bs => .val (.bl (bs.all id))
  | _ => none
def anyD : List D → Option Rv
  | [.lst l] => (blsD l).map fun bs => .val (.bl (bs.any id))
  | _ => none
def tupleD : List D → Option Rv
  | [.lst l] => some (.val (.tup l))
  | [.tup l] => some (.val (.tup l))
  | _ => none
def listD : List D → Option Rv
  | [.lst l] => some (.fl l)
  | [.tup l] => some (.fl l)
  | [.scr l] => some (.fl l)
  | _ => none
def sumD : List D → Option Rv
  | [.lst l] => (intsD l).map fun ns => .val (.int ns.sum)
  | [.tup l] => (intsD l).map fun ns => .val (.int ns.sum)
  | _ => none
section
variable {X : Cx} {K : KW} {ι : List Addr} {F : Addr → Prop} {H : Hp}
theorem rdns1 {xs : List V} {d : D} (h : Rdns K ι F H xs [d]) : ∃ x, xs = [x] ∧ Rdn K ι F H x d := by
  cases h with | cons h1 h2 => cases h2; exact ⟨_, rfl, h1⟩
theorem rdns2 {xs : List V} {d e : D} (h : Rdns K ι F H xs [d, e]) : ∃ x y, xs = [x, y] ∧ Rdn K ι F H x d ∧ Rdn K ι F H y e := by
  cases h with | cons h1 h2 => cases h2 with | cons h2 h3 => cases h3; exact ⟨_, _, rfl, h1, h2⟩
theorem rdn_scr {x : V} {l : List D} (h : Rdn K ι F H x (.scr l)) : ∃ a xs, x = .ref a ∧ FrS K H a xs ∧ Dens K ι F H xs l := by
  have h' : Den K ι F H x (.scr l) := h
  cases h' with | scr h1 h2 => exact ⟨_, _, rfl, h1, h2⟩
theorem dens_ints : ∀ {l : List D} {xs : List V} {ns : List Int}, Dens K ι F H xs l → intsD l = some ns → xs = ns.map V.int
  | [], _, _, h, e => by cases e; cases h; rfl
  | .int i :: l, _, ns, h, e => by
    unfold intsD at e
    cases e1 : intsD l with
    | none => rw [e1] at e; cases e
    | some ms =>
      rw [e1] at e; cases e
      cases h with | cons h1 h2 => cases h1; rw [dens_ints h2 e1]; rfl
  | .non :: _, _, _, _, e => by cases e
  | .bl _ :: _, _, _, _, e => by cases e
  | .str _ :: _, _, _, _, e => by cases e
  | .tup _ :: _, _, _, _, e => by cases e
  | .lst _ :: _, _, _, _, e => by cases e
  | .scr _ :: _, _, _, _, e => by cases e
  | .dct _ _ :: _, _, _, _, e => by cases e
  | .set _ :: _, _, _, _, e => by cases e
  | .tbl _ _ :: _, _, _, _, e => by cases e
  | .ob _ :: _, _, _, _, e => by cases e
theorem dens_bls : ∀ {l : List D} {xs : List V} {ns : List Bool}, Dens K ι F H xs l → blsD l = some ns → xs = ns.map V.bl
  | [], _, _, h, e => by cases e; cases h; rfl
  | .bl i :: l, _, ns, h, e => by
    unfold blsD at e
    cases e1 : blsD l with
    | none => rw [e1] at e; cases e
    | some ms =>
      rw [e1] at e; cases e
      cases h with | cons h1 h2 => cases h1; rw [dens_bls h2 e1]; rfl
  | .non :: _, _, _, _, e => by cases e
  | .int _ :: _, _, _, _, e => by cases e
  | .str _ :: _, _, _, _, e => by cases e
  | .tup _ :: _, _, _, _, e => by cases e
  | .lst _ :: _, _, _, _, e => by cases e
  | .scr _ :: _, _, _, _, e => by cases e
  | .dct _ _ :: _, _, _, _, e => by cases e
  | .set _ :: _, _, _, _, e => by cases e
  | .tbl _ _ :: _, _, _, _, e => by cases e
  | .ob _ :: _, _, _, _, e => by cases e
theorem callok_len : CallOK X (.builtin "len") lenD := by
  intro pins s σ H xs us Q ι F ob ds r I rx ro hx hg q
  unfold lenD at hg
  split at hg
  · cases hg
    obtain ⟨x, rfl, a, ys, rfl, ha, da⟩ := rdns1 hx
    exact call_len pins s σ H _ us Q I rx ⟨_, _, rfl, .inl ⟨ys, .inl (.inl ha), rfl⟩, by rw [da.length]; exact q _ H Grow.refl (.int _)⟩
  · cases hg
    obtain ⟨x, rfl, hz⟩ := rdns1 hx
    obtain ⟨a, ys, rfl, ha, da⟩ := rdn_tup hz
    exact call_len pins s σ H _ us Q I rx ⟨_, _, rfl, .inr ⟨ys, ha, rfl⟩, by rw [da.length]; exact q _ H Grow.refl (.int _)⟩
  · cases hg
    obtain ⟨x, rfl, hz⟩ := rdns1 hx
    obtain ⟨a, ys, rfl, ha, da⟩ := rdn_scr hz
    exact call_len pins s σ H _ us Q I rx ⟨_, _, rfl, .inl ⟨ys, ha.sq, rfl⟩, by rw [da.length]; exact q _ H Grow.refl (.int _)⟩
  · cases hg
    obtain ⟨x, rfl, a, kvs, rfl, ha, da, _⟩ := rdns1 hx
    refine call_lenD pins s σ H _ us Q I rx ⟨_, kvs, rfl, ha, ?_⟩
    have := da.length
    rw [List.length_map] at this
    rw [this]; exact q _ H Grow.refl (.int _)
  · cases hg
    obtain ⟨x, rfl, hz⟩ := rdns1 hx
    have hz : Den X.kw ι F H x (.set _) := hz
    cases hz with
    | set h =>
      obtain ⟨_, φ, ha, hφ⟩ := h
      obtain ⟨o, es, ep, t, ho, hex, hd, hf, hb, hn⟩ := hφ _ (I.hok _ _ ha).1
      rw [Vals.ref1 rx]
      exact call_len_set ho hex hd hf hb ⟨.int _, H, I.tok _, ⟨_, by rw [hn]⟩, q _ H Grow.refl (.int _)⟩
  · split at hg
    · rename_i hl
      cases hg
      obtain ⟨x, rfl, hz⟩ := rdns1 hx
      rw [rdn_str hz] at rx
      exact call_len pins s σ H _ us Q I rx ⟨_, _, rfl, ⟨lenOk_le hl, rfl⟩, q _ H Grow.refl (.int _)⟩
    · cases hg
  · cases hg
theorem callok_abs : CallOK X (.builtin "abs") absD := by
  intro pins s σ H xs us Q ι F ob ds r I rx ro hx hg q
  unfold absD at hg
  split at hg
  · cases hg
    obtain ⟨x, rfl, hz⟩ := rdns1 hx
    rw [rdn_int hz] at rx
    exact call_abs pins s σ H _ us Q I rx ⟨_, rfl, q _ H Grow.refl (.int _)⟩
  · cases hg
theorem callok_int : CallOK X (.type "int") intD := by
  intro pins s σ H xs us Q ι F ob ds r I rx ro hx hg q
  unfold intD at hg
  split at hg
  · cases hg
    obtain ⟨x, rfl, hz⟩ := rdns1 hx
    rw [rdn_int hz] at rx
    exact call_int1 pins s σ H _ us Q I rx (.inl ⟨_, rfl, q _ H Grow.refl (.int _)⟩)
  · cases hg
    obtain ⟨x, rfl, hz⟩ := rdns1 hx
    rw [rdn_bl hz] at rx
    exact call_int1 pins s σ H _ us Q I rx (.inr ⟨_, rfl, q _ H Grow.refl (.int _)⟩)
  · cases hg
theorem greatest_is : ∀ (l : List Int) (m : Int), (greatest m l = m ∨ greatest m l ∈ l) ∧ m ≤ greatest m l ∧ ∀ y ∈ l, y ≤ greatest m l
  | [], m => ⟨.inl rfl, Int.le_refl m, fun y h => by cases h⟩
  | i :: l, m => by
    have ih := greatest_is l (if i > m then i else m)
    unfold greatest
    by_cases h : i > m
    · rw [if_pos h] at ih ⊢
      refine ⟨.inr ?_, by omega, fun y hy => ?_⟩
      · rcases ih.1 with e | e
        · rw [e]; exact List.mem_cons_self
        · exact List.mem_cons_of_mem _ e
      · rcases List.mem_cons.mp hy with e | e
        · rw [e]; exact ih.2.1
        · exact ih.2.2 y e
    · rw [if_neg h] at ih ⊢
      refine ⟨?_, ih.2.1, fun y hy => ?_⟩
      · rcases ih.1 with e | e
        · exact .inl e
        · exact .inr (List.mem_cons_of_mem _ e)
      · rcases List.mem_cons.mp hy with e | e
        · rw [e]; omega
        · exact ih.2.2 y e
theorem smallest_is : ∀ (l : List Int) (m : Int), (smallest m l = m ∨ smallest m l ∈ l) ∧ smallest m l ≤ m ∧ ∀ y ∈ l, smallest m l ≤ y
  | [], m => ⟨.inl rfl, Int.le_refl m, fun y h => by cases h⟩
  | i :: l, m => by
    have ih := smallest_is l (if i < m then i else m)
    unfold smallest
    by_cases h : i < m
    · rw [if_pos h] at ih ⊢
      refine ⟨.inr ?_, by omega, fun y hy => ?_⟩
      · rcases ih.1 with e | e
        · rw [e]; exact List.mem_cons_self
        · exact List.mem_cons_of_mem _ e
      · rcases List.mem_cons.mp hy with e | e
        · rw [e]; exact ih.2.1
        · exact ih.2.2 y e
    · rw [if_neg h] at ih ⊢
      refine ⟨?_, ih.2.1, fun y hy => ?_⟩
      · rcases ih.1 with e | e
        · exact .inl e
        · exact .inr (List.mem_cons_of_mem _ e)
      · rcases List.mem_cons.mp hy with e | e
        · rw [e]; omega
        · exact ih.2.2 y e
theorem greatest_eq {l : List Int} {i m : Int} (h1 : m ∈ i :: l) (h2 : ∀ y ∈ i :: l, y ≤ m) : m = greatest i l := by
  obtain ⟨a, b, c⟩ := greatest_is l i
  have h3 : greatest i l ≤ m := h2 _ (by rcases a with e | e; (rw [e]; exact List.mem_cons_self); exact List.mem_cons_of_mem _ e)
  have h4 : m ≤ greatest i l := by
    rcases List.mem_cons.mp h1 with e | e
    · rw [e]; exact b
    · exact c m e
  omega
theorem smallest_eq {l : List Int} {i m : Int} (h1 : m ∈ i :: l) (h2 : ∀ y ∈ i :: l, m ≤ y) : m = smallest i l := by
  obtain ⟨a, b, c⟩ := smallest_is l i
  have h3 : m ≤ smallest i l := h2 _ (by rcases a with e | e; (rw [e]; exact List.mem_cons_self); exact List.mem_cons_of_mem _ e)
  have h4 : smallest i l ≤ m := by
    rcases List.mem_cons.mp h1 with e | e
    · rw [e]; exact b
    · exact c m e
  omega
theorem callok_max (hc : X.calm = true) : CallOK X (.builtin "max") maxD := by
  intro pins s σ H xs us Q ι F ob ds r I rx ro hx hg q
  unfold maxD at hg
  split at hg
  · cases hg
    obtain ⟨x, y, rfl, hz, hy⟩ := rdns2 hx
    rw [rdn_int hz, rdn_int hy] at rx
    exact call_max2 hc pins s σ H _ us Q I rx ⟨_, _, rfl, q _ H Grow.refl (.int _)⟩
  · obtain ⟨x, rfl, a, ys, rfl, ha, da⟩ := rdns1 hx
    split at hg
    · rename_i i ns e
      cases hg
      have e2 := dens_ints da e
      subst e2
      refine cr_max hc pins s σ H _ us Q I rx ⟨a, i :: ns, rfl, .inl (.inl ha), by simp, fun m h1 h2 => ?_⟩
      rw [greatest_eq h1 h2]
      exact q _ H Grow.refl (.int _)
    · cases hg
  · cases hg
theorem callok_min (hc : X.calm = true) : CallOK X (.builtin "min") minD := by
  intro pins s σ H xs us Q ι F ob ds r I rx ro hx hg q
  unfold minD at hg
  split at hg
  · cases hg
    obtain ⟨x, y, rfl, hz, hy⟩ := rdns2 hx
    rw [rdn_int hz, rdn_int hy] at rx
    exact call_min2 hc pins s σ H _ us Q I rx ⟨_, _, rfl, q _ H Grow.refl (.int _)⟩
  · obtain ⟨x, rfl, a, ys, rfl, ha, da⟩ := rdns1 hx
    split at hg
    · rename_i i ns e
      cases hg
      have e2 := dens_ints da e
      subst e2
      refine cr_min hc pins s σ H _ us Q I rx ⟨a, i :: ns, rfl, .inl (.inl ha), by simp, fun m h1 h2 => ?_⟩
      rw [smallest_eq h1 h2]
      exact q _ H Grow.refl (.int _)
    · cases hg
  · cases hg
theorem callok_all (hc : X.calm = true) : CallOK X (.builtin "all") allD := by
  intro pins s σ H xs us Q ι F ob ds r I rx ro hx hg q
  unfold allD at hg
  split at hg
  · obtain ⟨x, rfl, a, ys, rfl, ha, da⟩ := rdns1 hx
    rename_i l
    cases e : blsD l with
    | none => rw [e] at hg; cases hg
    | some bs =>
      rw [e] at hg; cases hg
      have e2 := dens_bls da e
      subst e2
      exact cr_all hc pins s σ H _ us Q I rx ⟨a, bs, rfl, .inl (.inl ha), q _ H Grow.refl (.bl _)⟩
  · cases hg
theorem callok_any (hc : X.calm = true) : CallOK X (.builtin "any") anyD := by
  intro pins s σ H xs us Q ι F ob ds r I rx ro hx hg q
  unfold anyD at hg
  split at hg
  · obtain ⟨x, rfl, a, ys, rfl, ha, da⟩ := rdns1 hx
    rename_i l
    cases e : blsD l with
    | none => rw [e] at hg; cases hg
    | some bs =>
      rw [e] at hg; cases hg
      have e2 := dens_bls da e
      subst e2
      exact cr_any hc pins s σ H _ us Q I rx ⟨a, bs, rfl, .inl (.inl ha), q _ H Grow.refl (.bl _)⟩
  · cases hg
theorem callok_sum (hc : X.calm = true) : CallOK X (.builtin "sum") sumD := by
  intro pins s σ H xs us Q ι F ob ds r I rx ro hx hg q
  unfold sumD at hg
  split at hg
  · obtain ⟨x, rfl, a, ys, rfl, ha, da⟩ := rdns1 hx
    rename_i l
    cases e : intsD l with
    | none => rw [e] at hg; cases hg
    | some bs =>
      rw [e] at hg; cases hg
      have e2 := dens_ints da e
      subst e2
      exact cr_sum hc pins s σ H _ us Q I rx ⟨a, bs, rfl, .inl (.inl ha), q _ H Grow.refl (.int _)⟩
  · obtain ⟨x, rfl, hz⟩ := rdns1 hx
    rename_i l
    obtain ⟨a, ys, rfl, ha, da⟩ := rdn_tup hz
    cases e : intsD l with
    | none => rw [e] at hg; cases hg
    | some bs =>
      rw [e] at hg; cases hg
      have e2 := dens_ints da e
      subst e2
      obtain ⟨its, rv, p, _⟩ := I.tuple ha
      rw [Vals.ref1 rx]
      obtain ⟨ws, hw⟩ := rv.ints.allInts.items
      have hn : numsOf (intItems ws).toList = bs := by rw [← hw]; exact rv.ints.numsOf
      rw [nums_intItems] at hn
      have p' : s.heap.IsTuple a its.toArray := p
      rw [hw] at p'
      refine PySem.W.ktm_sumG (I.ok.hd hc) p' fun h' tk t' hk => ?_
      refine ⟨.int _, H, I.kept hk, ⟨t', rfl⟩, ?_⟩
      have hp : preSum (numAt ws) ws.size = bs.sum := by rw [preSum_eq, List.take_of_length_le (by simp), hn]
      rw [hp]
      exact q _ H Grow.refl (.int _)
  · cases hg
theorem callok_tuple : CallOK X (.type "tuple") tupleD := by
  intro pins s σ H xs us Q ι F ob ds r I rx ro hx hg q
  unfold tupleD at hg
  split at hg
  · cases hg
    obtain ⟨x, rfl, a, ys, rfl, ha, da⟩ := rdns1 hx
    refine call_tuple_of pins s σ H _ us Q I rx ⟨a, ys, rfl, .inl ⟨.inl (.inl ha), fun p hp => ?_⟩⟩
    have g : Grow H (upd H p (.tup ys)) := Grow.upd hp
    exact q _ _ g (.tup (.inl (.inl upd_same)) (da.grow g))
  · cases hg
    obtain ⟨x, rfl, hz⟩ := rdns1 hx
    obtain ⟨a, ys, rfl, ha, da⟩ := rdn_tup hz
    exact call_tuple_of pins s σ H _ us Q I rx ⟨a, ys, rfl, .inr ⟨ha, q _ H Grow.refl (.tup ha da)⟩⟩
  · cases hg
theorem callok_list : CallOK X (.type "list") listD := by
  intro pins s σ H xs us Q ι F ob ds r I rx ro hx hg q
  have fin : ∀ {ys : List V} {l : List D}, Dens X.kw ι F H ys l → r = .fl l → ∀ p, H p = none → Q (.ref p) (upd H p (.lst ys)) := fun {ys l} d e p hp => by
    subst e
    have g : Grow H (upd H p (.lst ys)) := Grow.upd hp
    exact q _ _ g ⟨p, _, rfl, hp, (not_ref ro hp).1, (not_ref ro hp).2, upd_same, d.grow g⟩
  unfold listD at hg
  split at hg
  · cases hg
    obtain ⟨x, rfl, a, ys, rfl, ha, da⟩ := rdns1 hx
    exact call_list_of pins s σ H _ us Q I rx ⟨a, ys, rfl, .inl (.inl (.inl ha)), fin da rfl⟩
  · cases hg
    obtain ⟨x, rfl, hz⟩ := rdns1 hx
    obtain ⟨a, ys, rfl, ha, da⟩ := rdn_tup hz
    exact call_list_of pins s σ H _ us Q I rx ⟨a, ys, rfl, .inr ha, fin da rfl⟩
  · cases hg
    obtain ⟨x, rfl, hz⟩ := rdns1 hx
    obtain ⟨a, ys, rfl, ha, da⟩ := rdn_scr hz
    exact call_list_of pins s σ H _ us Q I rx ⟨a, ys, rfl, .inl ha.sq, fin da rfl⟩
  · cases hg
/-! ### repr -/
def reprD : List D → Option Rv
  | [d] => if d.shp && d.pd.showable && decide (d.depth ≤ 60) && lenOk d.pd.shown.length then some (.val (.str d.pd.shown)) else none
  | _ => none
end
/-! ### calls of defs -/
def rCall (f : FM) (as : AM) : RM := fun s => (as s).bind fun ds s1 => match f ds s1.ob with
  | .ok r ob' => .ok r { s1 with ob := ob' }
  | .ex x ob' => .ex x { s1 with ob := ob' }
  | .bad => .bad
theorem Rel.call {K : KW} {mg : Str → Option Value} {ι ι' : List Addr} {F F' : Addr → Prop} {ps : PSt} {σ : L2.St} {H H' : Hp} {ob' : List (Option Ob)} (r : Rel K mg ι F ps σ H) (e : Ext ι F H ι' F' H') (o : ORel K mg ι' F' ob' H') :
    Rel K mg ι' F' { ps with ob := ob' } σ H' := ⟨o, fun i d h => let ⟨v, h1, h2⟩ := r.sl i d h; ⟨v, h1, h2.ext e⟩, r.len⟩
theorem run_fnG {X : Cx} {W : WX} {k : Nat} {f : Addr} {fd : FuncData} {ps : List Str} {sp : Sp} (F : FnG X.prog X.w X.K X.mg X.base k f fd ps sp) (tk : Takes X W) (hg : X.A.guards = some []) (hr : Room k X.A) (hb : Binds X.K fd ps [])
    {pins : List (Addr × Obj)} {s : Shared} {σ : L2.St} {H : Hp} {Q : VK} {us : List Value} {vs : List V} (I : Inv X pins σ H s) (r : Vals vs us) (h : sp vs H Q (fun cls dd H' => W cls dd σ H')) :
    wpAny (model X.prog X.w) X.A (call (.ref f) us) (EP X pins σ Q) X.xe s := by
  have hl : us.length = ps.length := by
    rw [← r.length]
    exact F.len _ _ _ _ h
  have b := hb s us I.kIn (by rw [List.append_nil]; exact hl)
  rw [List.append_nil] at b
  refine wpAny_call (codeAny_mono (F.run X.A X.stack s H ⟨us, []⟩ us vs Q _ hg hr I.env0 b r h) fun res s' hq => ?_)
  match res, hq with
  | .error e, hq => exact passAt (W := W) tk σ pins H s e s' I hq
  | .ok (.ret u), hq => exact I.after hq
  | .ok .next, hq => exact hq.elim
  | .ok .brk, hq => exact hq.elim
  | .ok .cont, hq => exact hq.elim
theorem call_read {X : Cx} {W : WX} {n : Nat} {f : FM} {as : AM} (hn : ∀ s ds s', as s = .ok ds s' → ds.length = n) {σ : L2.St} {H : Hp} {Q : VK} (h : tR X.kw X.mg W (rCall f as) σ H Q) :
    tA X.kw X.mg W as σ H fun vs H1 => spD X.kw X.mg n f vs H1 Q (fun cls dd H' => W cls dd σ H') := by
  obtain ⟨ι, F, ps, r, q⟩ := h
  refine ⟨ι, F, ps, r, ?_⟩
  unfold rCall at q
  cases ea : as ps with
  | bad => rw [ea] at q; exact q
  | ex x s => rw [ea] at q; exact q
  | ok ds ps1 =>
    rw [ea] at q
    intro ι1 F1 H1 vs e1 r1 d1
    refine ⟨ι1, F1, ps1.ob, ds, by rw [d1.length]; exact hn _ _ _ ea, r1.ob, d1, ?_⟩
    have q : Sat X.kw X.mg W (rR X.kw) σ ι F H (match f ds ps1.ob with
      | .ok r ob' => .ok r { ps1 with ob := ob' }
      | .ex x ob' => .ex x { ps1 with ob := ob' }
      | .bad => .bad) Q := q
    cases ef : f ds ps1.ob with
    | bad => rw [ef] at q; exact q
    | ok rr ob' =>
      rw [ef] at q
      exact fun ι' F' H' v e' o' dr => q ι' F' H' v (e1.trans e') (r1.call e' o') (dr.weak e1.there)
    | ex x ob' =>
      rw [ef] at q
      exact fun ι' F' H' cls dd e' o' dx => q ι' F' H' cls dd (e1.trans e') (r1.call e' o') dx
theorem dr_call {c : SI} {i : FnI} {e : Expr} {es : List Expr} {as : AM} {p pos : Pos} (hc : c.calm = true) (hi : i ∈ c.fs) (hg : c.sc.names.lookup i.name = some .globalImplicit) (ha : DA c (e :: es) as) (hp : (e :: es).all plainArg = true)
    (hn : ∀ s ds s', as s = .ok ds s' → ds.length = i.n) (hdb : (i.name == ("__debug__" : Str)) = false) : DR c (.Call (.Name i.name p) (e :: es) [] pos) (rCall i.f as) := fun X W S tk => by
  obtain ⟨f, fd, k, ps, hm, hk, hb, hl, hr, F⟩ := (S.calls hc i hi).ex
  refine ⟨fun pins s σ H Q I h => ?_⟩
  refine wpAny_Call_Name_kw (ld_glob I (Gl.of S hg) hm ?_ hdb)
  refine PySem.W.callWith_K (h₀ := X.base) I.ok.mod.kin hk (thn ((ha X W S tk).run pos pins s σ H _ I (call_read hn h)) fun us s1 ⟨vs, H1, I1, r, q⟩ => ⟨I1.kIn, ?_⟩) (starEach_plain (by rw [List.all_cons, Bool.and_eq_true] at hp; exact hp.1)) (plainTail hp pos)
  exact run_fnG F tk S.guards hr hb I1 r q
theorem dr_call0 {c : SI} {i : FnI} {p pos : Pos} (hc : c.calm = true) (hi : i ∈ c.fs) (hn : i.n = 0) (hg : c.sc.names.lookup i.name = some .globalImplicit) (hdb : (i.name == ("__debug__" : Str)) = false) : DR c (.Call (.Name i.name p) [] [] pos) (rCall i.f aNil) := fun X W S tk => by
  obtain ⟨f, fd, k, ps, hm, hk, hb, hl, hr, F⟩ := (S.calls hc i hi).ex
  refine ⟨fun pins s σ H Q I h => ?_⟩
  refine wpAny_Call_Name_kw (ld_glob I (Gl.of S hg) hm ?_ hdb)
  obtain ⟨ι, F', ps', r, q⟩ := call_read (n := i.n) (fun s ds s' e => by cases e; exact hn.symm) h
  exact PySem.W.callWith_K0 I.kIn hk (run_fnG (us := []) F tk S.guards hr hb I .nil (q ι F' H [] Ext.refl r .nil))
theorem aNil_len : ∀ s ds s', aNil s = .ok ds s' → ds.length = 0 := fun s ds s' e => by cases e; rfl
theorem aCons_len {f : EM} {g : AM} {n : Nat} (h : ∀ s ds s', g s = .ok ds s' → ds.length = n) : ∀ s ds s', aCons f g s = .ok ds s' → ds.length = n + 1 := fun s ds s' e => by
  unfold aCons at e
  cases e1 : f s with
  | bad => rw [e1] at e; cases e
  | ex x t => rw [e1] at e; cases e
  | ok d s1 =>
    rw [e1] at e
    have e : (g s1).bind (fun ds s2 => Out.ok (d :: ds) s2) = .ok ds s' := e
    cases e2 : g s1 with
    | bad => rw [e2] at e; cases e
    | ex x t => rw [e2] at e; cases e
    | ok es s2 =>
      rw [e2] at e
      cases e
      simp [h _ _ _ e2]
end Cut
end
section
/-! CutCall2: repr, isinstance. -/
namespace Cut
open PySem PySem.Spec PyProof.Rows L2

theorem pairs_vals {P : Program} {w : World} : ∀ {kvs : List (Key × V)} {vs : List (Key × Value)} {es : List DictEntry}, KV kvs vs → Pairs (mixKind P w) es vs → Vals (kvs.map fun p => kV p.1) (es.map (·.key)) ∧ Vals (kvs.map (·.2)) (es.map (·.val))
  | [], _, _, r, p => by
    cases r
    cases p
    exact ⟨.nil, .nil⟩
  | (k, v) :: kvs, _, _, r, p => by
    cases r with
    | @cons _ q _ _ hq t =>
      cases p with
      | @cons e _ es _ h1 h2 h3 =>
        obtain ⟨i1, i2⟩ := pairs_vals t h3
        refine ⟨.cons ?_ i1, .cons ?_ i2⟩
        · have hk : keyIs q.1 e.key = true := h1
          have hq1 : k = q.1 := hq.1
          rw [← hq1] at hk
          rcases keyIs_shape hk with ⟨i, t, rfl, e2⟩ | ⟨x, t, rfl, e2⟩
          · show RelV (.int i) e.key
            rw [e2]; exact ⟨t, rfl⟩
          · show RelV (.str x) e.key
            rw [e2]; exact ⟨t, rfl⟩
        · show RelV v e.val
          rw [h2]; exact hq.2
/-- how a value is written out: what it is, how it stands within another, how it stands alone -/
structure Shw (P : Program) (w : World) (h : Heap) (u : Value) (d : PyData) : Prop where
  is : ∃ as, Reads h u d as
  deep : ∃ bs, ReadAtMost h d.depth bs ∧ ReprK P w bs h d.depth u d.shown
  top : ∀ a, u = .ref a → ∃ T idr, ShowsBy P w h a d T idr
structure Shws (P : Program) (w : World) (h : Heap) (us : List Value) (ds : List PyData) : Prop where
  is : ∃ as, ReadsAll h us ds as
  deep : ∃ bs, ReadAtMost h (PyData.depthAll ds) bs ∧ ReprAllK P w bs h (PyData.depthAll ds) us (PyData.shownAll ds)
section
variable {P : Program} {w : World} {h : Heap} {a : Addr} {o : Obj}
theorem Shws.nil : Shws P w h [] [] := ⟨⟨_, .nil⟩, [], (fun _ z => nomatch z), .nil⟩
theorem Shws.cons {u : Value} {us : List Value} {d : PyData} {ds : List PyData} (x : Shw P w h u d) (y : Shws P w h us ds) : Shws P w h (u :: us) (d :: ds) := by
  obtain ⟨as, r⟩ := x.is
  obtain ⟨as', r'⟩ := y.is
  obtain ⟨b1, m1, k1⟩ := x.deep
  obtain ⟨b2, m2, k2⟩ := y.deep
  have l1 : d.depth ≤ PyData.depthAll (d :: ds) := by rw [PyData.depthAll]; exact Nat.le_max_left _ _
  have l2 : PyData.depthAll ds ≤ PyData.depthAll (d :: ds) := by rw [PyData.depthAll]; exact Nat.le_max_right _ _
  refine ⟨⟨_, .cons r r'⟩, b1 ++ b2, (m1.mono l1).append (m2.mono l2), ?_⟩
  rw [PyData.shownAll]
  exact .cons ((k1.level_le l1).more fun b z => List.mem_append_left _ z) (k2.more_le (fun b z => List.mem_append_right _ z) l2)
theorem Shw.atom {u : Value} {d : PyData} (hr : Reads h u d []) (hi : ReprIs P w u d.shown) (hn : ∀ a, u ≠ .ref a) : Shw P w h u d :=
  ⟨⟨_, hr⟩, ⟨[], (fun _ z => nomatch z), .of_is hi _ _ _⟩, fun a e => absurd e (hn a)⟩
theorem Shws.lst {vs : Array Value} {n : Nat} {ds : List PyData} (x : Shws P w h vs.toList ds) (g : h.get? a = some o) (hc : o.cls = .type "list") (hd : o.data = .seq vs n) (hz : (PyData.list ds).shown.length ≤ sizeLine) : Shw P w h (.ref a) (.list ds) := by
  obtain ⟨as, r⟩ := x.is
  obtain ⟨bs, m, k⟩ := x.deep
  have R : Reads h (.ref a) (.list ds) (a :: as) := Reads.list g hc hd r
  have na : a ∉ bs := not_mem_of_deeper R (by rw [PyData.depth]; exact Nat.lt_succ_self _) m
  have hz2 : (listText (PyData.shownAll ds)).length ≤ sizeLine := by rw [PyData.shown] at hz; exact hz
  refine ⟨⟨_, R⟩, ⟨a :: bs, ReadAtMost.cons R (by rw [PyData.depth]; exact Nat.le_succ _) m, ?_⟩, ?_⟩
  · rw [PyData.depth, PyData.shown]
    obtain ⟨l⟩ := vs
    cases l with
    | nil =>
      cases (show ReadsAll h [] ds as from r)
      rw [PyData.shownAll, listText_nil]
      exact .listEmpty g hc hd
    | cons v l => exact .list g hc hd na (by simpa using k.length_eq) fun i y e => k.item i y (by simpa using e)
  · rintro _ ⟨⟩
    refine ⟨"list", "list.__repr__", F.slot_list_repr.toG, F.slot_list_str, F.slot_list_format, fun s k0 => ⟨o, k0 a o g, hc⟩, fun A E s Q hg hu k0 q => ?_⟩
    rw [PyData.depth] at hu
    rw [PyData.shown] at q
    obtain ⟨l⟩ := vs
    cases l with
    | nil =>
      cases (show ReadsAll h [] ds as from r)
      rw [PyData.shownAll, listText_nil] at q
      exact call_list_repr_empty ⟨o, k0 a o g, hc⟩ (k0 a o g) hd (q s.heap _ _ fun _ _ z => z)
    | cons v l => exact call_list_reprK g hc hd na (by simpa using k.length_eq) (fun i y e => k.item i y (by simpa using e)) hg (fun b _ => Clear.nil b) hu k0 q hz2
theorem Shws.tup {vs : Array Value} {n : Nat} {ds : List PyData} (x : Shws P w h vs.toList ds) (g : h.get? a = some o) (hc : o.cls = .type "tuple") (hd : o.data = .seq vs n) (hz : (PyData.tuple ds).shown.length ≤ sizeLine) : Shw P w h (.ref a) (.tuple ds) := by
  obtain ⟨as, r⟩ := x.is
  obtain ⟨bs, m, k⟩ := x.deep
  have R : Reads h (.ref a) (.tuple ds) as := Reads.tuple g hc hd r
  have na : a ∉ bs := not_mem_of_deeper R (by rw [PyData.depth]; exact Nat.lt_succ_self _) m
  have hz2 : (tupleText (PyData.shownAll ds)).length ≤ sizeLine := by rw [PyData.shown] at hz; exact hz
  refine ⟨⟨_, R⟩, ⟨a :: bs, ReadAtMost.cons R (by rw [PyData.depth]; exact Nat.le_succ _) m, ?_⟩, ?_⟩
  · rw [PyData.depth, PyData.shown]
    exact .tuple g hc hd na k
  · rintro _ ⟨⟩
    refine ⟨"tuple", "tuple.__repr__", F.slot_tuple_repr, F.slot_tuple_str, F.slot_tuple_format, fun s k0 => ⟨o, k0 a o g, hc⟩, fun A E s Q hg hu k0 q => ?_⟩
    rw [PyData.depth] at hu
    rw [PyData.shown] at q
    exact call_tuple_reprK g hc hd na k hg (fun b _ => Clear.nil b) hu k0 q hz2
theorem Shws.dct {es : Array DictEntry} {n : Nat} {kvs : List (PyData × PyData)} (x : Shws P w h (es.toList.map (·.key)) (kvs.map (·.1))) (y : Shws P w h (es.toList.map (·.val)) (kvs.map (·.2)))
    (g : h.get? a = some o) (hc : o.cls = .type "dict") (hd : o.data = .dict es n) (sm : (a == sysModules) = false) (hz : (PyData.dict kvs).shown.length ≤ sizeLine) : Shw P w h (.ref a) (.dict kvs) := by
  obtain ⟨as, r⟩ := x.is
  obtain ⟨as', r'⟩ := y.is
  obtain ⟨b1, m1, k1⟩ := x.deep
  obtain ⟨b2, m2, k2⟩ := y.deep
  have l1 := PyData.depthAll_keys_le kvs
  have l2 := PyData.depthAll_vals_le kvs
  have R : Reads h (.ref a) (.dict kvs) (a :: as ++ as') := Reads.dict g hc hd r r'
  have m : ReadAtMost h (PyData.depthKv kvs) (b1 ++ b2) := (m1.mono l1).append (m2.mono l2)
  have na : a ∉ b1 ++ b2 := not_mem_of_deeper R (by rw [PyData.depth]; exact Nat.lt_succ_self _) m
  have k := ReprEntriesK.of_two es.toList _ _ (k1.more_le (fun b z => List.mem_append_left b2 z) l1) (k2.more_le (fun b z => List.mem_append_right b1 z) l2)
  rw [← PyData.shownKv_eq] at k
  have hz2 : (dictText (PyData.shownKv kvs)).length ≤ sizeLine := by rw [PyData.shown] at hz; exact hz
  refine ⟨⟨_, R⟩, ⟨a :: (b1 ++ b2), ReadAtMost.cons R (by rw [PyData.depth]; exact Nat.le_succ _) m, ?_⟩, ?_⟩
  · rw [PyData.depth, PyData.shown]
    exact .dict g hc hd sm na k
  · rintro _ ⟨⟩
    refine ⟨"dict", "dict.__repr__", F.slot_dict_repr, F.slot_dict_str, F.slot_dict_format, fun s k0 => ⟨o, k0 a o g, hc⟩, fun A E s Q hg hu k0 q => ?_⟩
    rw [PyData.depth] at hu
    rw [PyData.shown] at q
    exact call_dict_reprK g hc hd sm na k hg (fun b _ => Clear.nil b) hu k0 q hz2
end
section
variable {X : Cx} {pins : List (Addr × Obj)} {σ : L2.St} {H : Hp} {s : Shared} {ι : List Addr} {F : Addr → Prop}
theorem dct_shw (I : Inv X pins σ H s) {a : Addr} {kvs : List (Key × V)} {ks vs : List D} (hH : H a = some (.dK kvs)) (l1 : ks.length = kvs.length) (l2 : vs.length = kvs.length)
    (x : ∀ us, Vals (kvs.map fun p => kV p.1) us → Shws X.prog X.w s.heap us (D.pds ks)) (y : ∀ us, Vals (kvs.map (·.2)) us → Shws X.prog X.w s.heap us (D.pds vs)) (e1 : (D.pds ks).length = ks.length) (e2 : (D.pds vs).length = vs.length)
    (hz : (D.dct ks vs).pd.shown.length ≤ sizeLine) : Shw X.prog X.w s.heap (.ref a) (D.dct ks vs).pd := by
  obtain ⟨_, sm, vs', kv, o, es, ep, g, ed, hd, _, hp, _⟩ := dk_of I.hok hH
  obtain ⟨v1, v2⟩ := pairs_vals kv hp
  rw [D.pd] at hz ⊢
  refine Shws.dct (n := ep) ?_ ?_ g ed.1 hd sm hz
  · rw [List.map_fst_zip (by omega)]
    exact x _ v1
  · rw [List.map_snd_zip (by omega)]
    exact y _ v2
theorem pds_len : ∀ l : List D, (D.pds l).length = l.length
  | [] => rfl
  | d :: l => by rw [D.pds, List.length_cons, List.length_cons, pds_len l]
theorem kv_small : ∀ (ks vs : List PyData), ks.length = vs.length → (∀ p ∈ PyData.shownKv (ks.zip vs), p.length ≤ sizeLine) → (∀ t ∈ PyData.shownAll ks, t.length ≤ sizeLine) ∧ ∀ t ∈ PyData.shownAll vs, t.length ≤ sizeLine
  | [], [], _, _ => ⟨fun t h => (by rw [PyData.shownAll] at h; cases h), fun t h => (by rw [PyData.shownAll] at h; cases h)⟩
  | k :: ks, v :: vs, hl, h => by
    rw [List.zip_cons_cons, PyData.shownKv] at h
    obtain ⟨i1, i2⟩ := kv_small ks vs (by simpa using hl) fun p hp => h p (List.mem_cons_of_mem _ hp)
    have h0 := h _ List.mem_cons_self
    rw [strLen_append, strLen_append] at h0
    rw [PyData.shownAll, PyData.shownAll]
    refine ⟨fun t ht => ?_, fun t ht => ?_⟩
    · rcases List.mem_cons.mp ht with rfl | ht
      · omega
      · exact i1 t ht
    · rcases List.mem_cons.mp ht with rfl | ht
      · omega
      · exact i2 t ht
theorem dct_small {ks vs : List D} (hl : ks.length = vs.length) (hz : (D.dct ks vs).pd.shown.length ≤ sizeLine) : (∀ t ∈ PyData.shownAll (D.pds ks), t.length ≤ sizeLine) ∧ ∀ t ∈ PyData.shownAll (D.pds vs), t.length ≤ sizeLine := by
  rw [D.pd, PyData.shown] at hz
  exact kv_small _ _ (by rw [pds_len, pds_len, hl]) fun p hp => Nat.le_trans (dictText_mem_le hp) hz
theorem dct_able {ks vs : List D} (hl : ks.length = vs.length) (hs : (D.dct ks vs).pd.showable = true) : PyData.showableAll (D.pds ks) = true ∧ PyData.showableAll (D.pds vs) = true := by
  rw [D.pd, PyData.showable] at hs
  have h := PyData.showableKv_split _ hs
  rw [List.map_fst_zip (by rw [pds_len, pds_len]; omega), List.map_snd_zip (by rw [pds_len, pds_len]; omega)] at h
  exact h
mutual
theorem Den.shw (I : Inv X pins σ H s) : ∀ {d : D} {v : V} {u : Value}, Den X.kw ι F H v d → RelV v u → d.shp = true → d.pd.showable = true → d.pd.shown.length ≤ sizeLine → Shw X.prog X.w s.heap u d.pd
  | .non, _, _, h, r, _, _, _ => by
    cases h
    cases r
    exact .atom .none (by rw [D.pd, PyData.shown]; exact ReprIs.none) nofun
  | .bl b, _, _, h, r, _, _, _ => by
    cases h
    cases r
    exact .atom (.bool b) (by rw [D.pd, PyData.shown]; exact ReprIs.bool b) nofun
  | .int i, _, _, h, r, _, hs, _ => by
    cases h
    obtain ⟨t, rfl⟩ := r
    exact .atom (.int i t) (by rw [D.pd, PyData.shown]; exact ReprIs.int t (by rw [D.pd, PyData.showable] at hs; exact of_decide_eq_true hs)) nofun
  | .str x, _, _, h, r, _, _, hz => by
    cases h
    obtain ⟨t, rfl⟩ := r
    exact .atom (.str x t) (by rw [D.pd, PyData.shown]; exact ReprIs.str x t (by rw [D.pd, PyData.shown] at hz; exact hz)) nofun
  | .tup l, _, _, h, r, hp, hs, hz => by
    rw [D.shp] at hp
    rw [D.pd] at hs hz ⊢
    cases h with
    | tup ht ha =>
      cases r
      obtain ⟨its, rv, ⟨o, g, hc, n, hd⟩, _⟩ := I.tuple ht
      refine Shws.tup (vs := its.toArray) (n := n) (Dens.shw I ha rv hp (by rw [PyData.showable] at hs; exact hs) fun t z => ?_) g hc hd hz
      rw [PyData.shown] at hz
      exact Nat.le_trans (tupleText_mem_le z) hz
  | .lst l, _, _, h, r, hp, hs, hz => by
    rw [D.shp] at hp
    rw [D.pd] at hs hz ⊢
    cases h with
    | lst ht ha =>
      cases r
      obtain ⟨its, rv, ⟨o, n, g, hc, _, hd⟩, _⟩ := I.list (.inl (.inl ht.2))
      refine Shws.lst (vs := its.toArray) (n := n) (Dens.shw I ha rv hp (by rw [PyData.showable] at hs; exact hs) fun t z => ?_) g hc hd hz
      rw [PyData.shown] at hz
      exact Nat.le_trans (listText_mem_le z) hz
  | .dct ks vs, _, _, h, r, hp, hs, hz => by
    rw [D.shp, Bool.and_eq_true] at hp
    cases h with
    | dct hf h1 h2 =>
      cases r
      obtain ⟨kvs, _, hH, rfl, rfl⟩ := hf
      have l1 := h1.length
      have l2 := h2.length
      rw [List.length_map] at l1 l2
      obtain ⟨z1, z2⟩ := dct_small (by omega) hz
      obtain ⟨a1, a2⟩ := dct_able (by omega) hs
      exact dct_shw I hH (by omega) (by omega) (fun us r => Dens.shw I h1 r hp.1 a1 z1) (fun us r => Dens.shw I h2 r hp.2 a2 z2) (pds_len _) (pds_len _) hz
  | .scr _, _, _, _, _, h, _, _ => by rw [D.shp] at h; cases h
  | .set _, _, _, _, _, h, _, _ => by rw [D.shp] at h; cases h
  | .tbl _ _, _, _, _, _, h, _, _ => by rw [D.shp] at h; cases h
  | .ob _, _, _, _, _, h, _, _ => by rw [D.shp] at h; cases h
theorem Dens.shw (I : Inv X pins σ H s) : ∀ {l : List D} {vs : List V} {us : List Value}, Dens X.kw ι F H vs l → Vals vs us → D.shps l = true → PyData.showableAll (D.pds l) = true → (∀ t ∈ PyData.shownAll (D.pds l), t.length ≤ sizeLine) → Shws X.prog X.w s.heap us (D.pds l)
  | [], _, _, h, r, _, _, _ => by
    cases h
    cases r
    exact .nil
  | d :: l, _, _, h, r, hp, hs, hz => by
    rw [D.shps, Bool.and_eq_true] at hp
    rw [D.pds, PyData.showableAll, Bool.and_eq_true] at hs
    rw [D.pds, PyData.shownAll] at hz
    cases h with
    | cons h1 h2 =>
      cases r with
      | cons r1 r2 => exact .cons (Den.shw I h1 r1 hp.1 hs.1 (hz _ List.mem_cons_self)) (Dens.shw I h2 r2 hp.2 hs.2 fun t z => hz t (List.mem_cons_of_mem _ z))
end
theorem Rdn.shw (I : Inv X pins σ H s) {d : D} {v : V} {u : Value} (h : Rdn X.kw ι F H v d) (r : RelV v u) (hp : d.shp = true) (hs : d.pd.showable = true) (hz : d.pd.shown.length ≤ sizeLine) : Shw X.prog X.w s.heap u d.pd := by
  cases d with
  | lst l =>
    obtain ⟨a, xs, rfl, hH, ha⟩ := h
    cases r
    rw [D.shp] at hp
    rw [D.pd] at hs hz ⊢
    obtain ⟨its, rv, ⟨o, n, g, hc, _, hd⟩, _⟩ := I.list (.inl (.inl hH))
    refine Shws.lst (vs := its.toArray) (n := n) (Dens.shw I ha rv hp (by rw [PyData.showable] at hs; exact hs) fun t z => ?_) g hc hd hz
    rw [PyData.shown] at hz
    exact Nat.le_trans (listText_mem_le z) hz
  | dct ks vs =>
    obtain ⟨a, kvs, rfl, hH, h1, h2⟩ := h
    cases r
    rw [D.shp, Bool.and_eq_true] at hp
    have l1 := h1.length
    have l2 := h2.length
    rw [List.length_map] at l1 l2
    obtain ⟨z1, z2⟩ := dct_small (by omega) hz
    obtain ⟨a1, a2⟩ := dct_able (by omega) hs
    exact dct_shw I hH (by omega) (by omega) (fun us r => Dens.shw I h1 r hp.1 a1 z1) (fun us r => Dens.shw I h2 r hp.2 a2 z2) (pds_len _) (pds_len _) hz
  | _ => exact Den.shw I (show Den X.kw ι F H v _ from h) r hp hs hz
end
theorem callok_repr {X : Cx} (hG : X.A.guards = some []) (hu : X.A.units + 64 < cLine) : CallOK X (.builtin "repr") reprD := by
  intro pins s σ H xs us Q ι F ob ds r I rx ro hx hg q
  unfold reprD at hg
  split at hg
  · rename_i d
    split at hg
    · rename_i ho
      cases hg
      simp only [Bool.and_eq_true, decide_eq_true_eq] at ho
      obtain ⟨⟨⟨h1, h2⟩, h3⟩, h4⟩ := ho
      obtain ⟨x, rfl, hz⟩ := rdns1 hx
      obtain ⟨u, rfl, ru⟩ := vals1 rx
      have hsz := lenOk_le h4
      have hle := D.pd_dle d h1
      have seq : ∀ a, x = .ref a → wpAny (model X.prog X.w) X.A (call (.builtin "repr") [u]) (EP X pins σ Q) X.xe s := fun a e => by
        subst e
        obtain rfl : u = Value.ref a := ru
        obtain ⟨T, idr, S⟩ := (Rdn.shw I hz rfl h1 h2 hsz).top a rfl
        exact call_repr_slot (by omega) (S.typeIs s fun _ _ z => z) S.slotRepr (S.call X.A.in1 X.xe s _ hG (by show X.A.units + 1 + d.pd.depth < cLine; omega) (fun _ _ z => z)
          fun h' u' tk hk => ⟨_, _, rfl, .str d.pd.shown, H, I.kept (t' := tk) hk, ⟨u', rfl⟩, q _ H Grow.refl (.str _)⟩)
      cases d with
      | non =>
        rw [rdn_non hz] at ru
        cases ru
        exact PySem.P.repr_of_none ⟨.str _, H, I.tok _, ⟨_, rfl⟩, q _ H Grow.refl (.str _)⟩
      | bl b =>
        rw [rdn_bl hz] at ru
        cases ru
        have e : PyData.shown (D.pd (.bl b)) = Str.ofString (if b then "True" else "False") := by cases b <;> rfl
        rw [e] at q
        refine PySem.P.repr_of_bool ⟨.str (Str.ofString (if b then "True" else "False")), H, I.tok _, ⟨s.toks, by cases b <;> rfl⟩, q _ H Grow.refl (.str _)⟩
      | int i =>
        rw [rdn_int hz] at ru
        obtain ⟨t, rfl⟩ := ru
        exact PySem.P.repr_of_int (by rw [D.pd, PyData.showable] at h2; exact of_decide_eq_true h2) ⟨.str _, H, I.tok _, ⟨_, rfl⟩, q _ H Grow.refl (.str _)⟩
      | str z =>
        rw [rdn_str hz] at ru
        obtain ⟨t, rfl⟩ := ru
        exact PySem.P.repr_of_str ⟨.str _, H, I.tok _, ⟨_, rfl⟩, q _ H Grow.refl (.str _)⟩ hsz
      | tup l =>
        obtain ⟨a, ys, e, _⟩ := rdn_tup hz
        exact seq a e
      | lst l =>
        obtain ⟨a, ys, e, _⟩ := hz
        exact seq a e
      | dct ks vs =>
        obtain ⟨a, kvs, e, _⟩ := hz
        exact seq a e
      | _ => rw [D.shp] at h1; cases h1
    · cases hg
  · cases hg
/-! ### isinstance -/
inductive Ty where
  | none | bool | int | str | tuple | list | dict
  deriving DecidableEq
def Ty.nm : Ty → String
  | .none => "NoneType" | .bool => "bool" | .int => "int" | .str => "str" | .tuple => "tuple" | .list => "list" | .dict => "dict"
def Ty.sub : Ty → Ty → Bool
  | .bool, .int => true
  | a, b => decide (a = b)
def D.ty : D → Option Ty
  | .non => some .none | .bl _ => some .bool | .int _ => some .int | .str _ => some .str | .tup _ => some .tuple | .lst _ => some .list | .scr _ => some .list | .dct _ _ => some .dict
  | .set _ => Option.none | .tbl _ _ => Option.none | .ob _ => Option.none
theorem Ty.kit {K : PySem.W.Frag} : ∀ a b : Ty, PySem.W.kitOne K (.type a.nm) (.type b.nm) = some (Ty.sub a b) := by
  intro a b
  refine kit_ty ?_
  cases a <;> cases b <;> decide +kernel
def isD1 (d : D) (ts : List Ty) : Option Bool := d.ty.map fun t => ts.any fun u => Ty.sub t u
def rIs (f : EM) (ts : List Ty) : RM := fun s => (f s).bind fun d s1 => match isD1 (look s1.ob d) ts with
  | some b => .ok (.val (.bl b)) s1
  | none => .bad
theorem Rdn.tyx {K : KW} {ι : List Addr} {F : Addr → Prop} {H : Hp} {x : V} {d : D} {t : Ty} (h : Rdn K ι F H x d) (e : d.ty = some t) : TyX K H x (.type t.nm) := by
  cases d with
  | non => cases e; rw [rdn_non h]; exact .base .non
  | bl b => cases e; rw [rdn_bl h]; exact .base (.bl b)
  | int b => cases e; rw [rdn_int h]; exact .base (.int b)
  | str b => cases e; rw [rdn_str h]; exact .base (.str b)
  | tup l =>
    cases e
    obtain ⟨a, xs, rfl, ha, _⟩ := rdn_tup h
    rcases ha with (ha | ⟨o, ha⟩) | ⟨o, its, n, hk, hc, _⟩
    · exact .base (.tup ha)
    · exact .fTuple ha
    · exact .kTuple hk hc
  | lst l =>
    cases e
    obtain ⟨a, xs, rfl, ha, _⟩ := h
    exact .base (.lst ha)
  | scr l =>
    cases e
    obtain ⟨a, xs, rfl, ⟨o, ha⟩ | (ha | ⟨_, ha⟩) | ⟨o, its, n, hk, hc, _⟩, _⟩ := rdn_scr h
    · exact .base (.frz ha)
    · cases ha
    · cases ha
    · exact .kList hk hc
  | dct ks vs =>
    cases e
    obtain ⟨a, kvs, rfl, ha, _⟩ := h
    exact .base (.dK ha)
  | set _ => cases e
  | tbl _ _ => cases e
  | ob _ => cases e
/-- the names of the types -/
structure TyName (c : SI) (x : Str) (t : Ty) : Prop where
  gl : c.sc.names.lookup x = some .globalImplicit
  bl : x ∈ c.blts
  boot : bootBuiltins x = some (.type t.nm)
  nm : x ≠ "__name__"
  db : (x == ("__debug__" : Str)) = false
theorem TyName.pe {c : SI} {x : Str} {t : Ty} (h : TyName c x t) {X : Cx} (S : Sta X c) {p : Pos} : PE X (.Name x p) (tC (.ty t.nm)) :=
  pe_bltn (Gl.of S h.gl) (S.blt x h.bl) h.boot rfl h.nm h.db
theorem dr_is {c : SI} {e : Expr} {f : EM} {x : Str} {t : Ty} {p p2 pos : Pos} (hg : c.sc.names.lookup ("isinstance" : Str) = some .globalImplicit) (hb : ("isinstance" : Str) ∈ c.blts) (he : DE c e f) (hp : plainArg e = true) (ht : TyName c x t) :
    DR c (.Call (.Name "isinstance" p) [e, .Name x p2] [] pos) (rIs f [t]) := fun X W S tk => by
  have ha : PA X [e, .Name x p2] (tCons (tE X.kw X.mg W f) (tCons (tC (.ty t.nm)) tNil)) := pa_cons (he X W S tk) (pa_cons (ht.pe S) pa_nil) (starEach_plain hp)
  refine (pe_callB call_isi (Gl.of S hg) (S.blt _ hb) boot_isinstance ha (by decide +kernel) (by decide +kernel) (starEach_plain hp) rfl).imp fun σ H Q h => ?_
  obtain ⟨ι, F, ps, r, q⟩ := h
  refine ⟨ι, F, ps, r, Sat.seq q fun d ps1 ι1 F1 H1 v e1 r1 d1 s => ?_⟩
  have hd := d1.look r1.ob
  generalize look ps1.ob d = dd at s hd
  unfold isD1 at s
  cases et : dd.ty with
  | none => rw [et] at s; exact s.elim
  | some u =>
    rw [et] at s
    refine ⟨v, .ty t.nm, _, .type t.nm, Ty.sub u t, rfl, .ty _, hd.tyx et, Ty.kit u t, ?_⟩
    have s : ∀ ι' F' H' b, Ext ι F H ι' F' H' → Rel X.kw X.mg ι' F' ps1 σ H' → DenR X.kw ι' F' H H' b (.val (.bl (Ty.sub u t || false))) → Q b H' := s
    rw [Bool.or_false] at s
    exact s ι1 F1 H1 _ e1 r1 (Den.bl _)
/-- a display of type names -/
inductive TyNames (c : SI) : List Expr → List Ty → Prop
  | nil : TyNames c [] []
  | cons {x : Str} {t : Ty} {es : List Expr} {ts : List Ty} {p : Pos} : TyName c x t → TyNames c es ts → TyNames c (.Name x p :: es) (t :: ts)
theorem TyNames.pa {c : SI} {X : Cx} (S : Sta X c) : ∀ {es : List Expr} {ts : List Ty}, TyNames c es ts → PA X es (fun _ H Q => Q (ts.map fun t => V.ty t.nm) H)
  | _, _, .nil => pa_nil
  | _, _, .cons h t => pa_cons (h.pe S) (TyNames.pa S t)
theorem TyNames.len {c : SI} : ∀ {es : List Expr} {ts : List Ty}, TyNames c es ts → es.length = ts.length
  | _, _, .nil => rfl
  | _, _, .cons _ t => by simp [TyNames.len t]
theorem kitAnyTy {K : PySem.W.Frag} (u : Ty) : ∀ ts : List Ty, PySem.W.kitAny K (.type u.nm) (ts.map fun t => Value.type t.nm) = some (ts.any fun t => Ty.sub u t)
  | [] => kitAny_nil
  | t :: ts => kitAny_cons (Ty.kit u t) (fun e => by rw [List.any_cons, e, Bool.false_or]; exact kitAnyTy u ts) (fun e => by rw [List.any_cons, e, Bool.true_or])
theorem clsVs : ∀ ts : List Ty, Paired ClsV (ts.map fun t => V.ty t.nm) (ts.map fun t => Value.type t.nm)
  | [] => .nil
  | t :: ts => .cons (.ty _) (clsVs ts)
theorem dr_isT {c : SI} {e : Expr} {f : EM} {es : List Expr} {ts : List Ty} {x1 : Nat} {p p2 pos : Pos} (hg : c.sc.names.lookup ("isinstance" : Str) = some .globalImplicit) (hb : ("isinstance" : Str) ∈ c.blts) (he : DE c e f) (hp : plainArg e = true) (ht : TyNames c es ts) (hl : es.length ≤ 100) :
    DR c (.Call (.Name "isinstance" p) [e, .Tuple es x1 p2] [] pos) (rIs f ts) := fun X W S tk => by
  have ha : PA X [e, .Tuple es x1 p2] (tCons (tE X.kw X.mg W f) (tCons (tTup fun _ H Q => Q (ts.map fun t => V.ty t.nm) H) tNil)) := pa_cons (he X W S tk) (pa_cons (pe_tup (ht.pa S)) pa_nil) (starEach_plain hp)
  refine (pe_callB call_isiT (Gl.of S hg) (S.blt _ hb) boot_isinstance ha (by decide +kernel) (by decide +kernel) (starEach_plain hp) rfl).imp fun σ H Q h => ?_
  obtain ⟨ι, F, ps, r, q⟩ := h
  refine ⟨ι, F, ps, r, Sat.seq q fun d ps1 ι1 F1 H1 v e1 r1 d1 s => ?_⟩
  have hz := sizeLine_eq
  refine ⟨by rw [List.length_map, ← ht.len]; omega, fun tp htp => ?_⟩
  have hd := d1.look r1.ob
  generalize look ps1.ob d = dd at s hd
  unfold isD1 at s
  cases et : dd.ty with
  | none => rw [et] at s; exact s.elim
  | some u =>
    rw [et] at s
    have g : Grow H1 (upd H1 tp (.tup (ts.map fun t => V.ty t.nm))) := Grow.upd htp
    have hd' : Rdn X.kw ι1 F1 (upd H1 tp (.tup (ts.map fun t => V.ty t.nm))) v dd := by
      cases dd with
      | lst l => obtain ⟨a, xs, e, h1, h2⟩ := hd; exact ⟨a, xs, e, g _ _ h1, h2.grow g⟩
      | dct k w => obtain ⟨a, xs, e, h1, h2, h3⟩ := hd; exact ⟨a, xs, e, g _ _ h1, h2.grow g, h3.grow g⟩
      | _ => exact Den.grow g hd
    refine ⟨v, tp, _, _, _, _, rfl, upd_same, clsVs ts, hd'.tyx et, kitAnyTy u ts, ?_⟩
    exact s ι1 F1 _ _ (e1.trans (Ext.grow g)) (r1.grow g) (Den.bl _)
end Cut
end
section
/-! CutEnum: enumerate of a list or of a tuple. -/
namespace PySem
open Sem (wp)
open AutoSeq1 (wpAny_loadPart')
theorem cut_enumerate_newT (l : Addr) (items : Array Value) (n : Nat) (dct : Option Addr) (sl : Array (Option Value)) :
    Meets (Builtin.«enumerate.__new__» ⟨[.type "enumerate", .ref l], []⟩) (fun _ R s => s.heap.get? l = some { cls := .type "tuple", dict := dct, data := .seq items n, slots := sl } ∧
      R (.ok (.ret (.ref (s.heap.push { cls := .type "tuple_iterator", data := .fields #[.ref l, .int 0 0] }).objs.size)))
        { s with heap := (s.heap.push { cls := .type "tuple_iterator", data := .fields #[.ref l, .int 0 0] }).push { cls := .type "enumerate", data := .fields #[.none, .bool false, .ref s.heap.objs.size, rawInt 0, .none, .none] } }) :=
  .of_wp fun prog w A R s h => by
    obtain ⟨hp, g, d, tk, os⟩ := s; obtain ⟨hl, h⟩ := h
    have hsub := sub_enumerate
    have hL : Heap.IsTuple (Shared.heap ⟨hp, g, d, tk, os⟩) l items := ⟨_, hl, rfl, n, rfl⟩
    wp_walk using wpAny_loadPart' hl
    refine wpAny_stack_any fun st => wpAny_pure ?_
    split
    · rename_i c _ _ _ _ _
      cases (c == Value.type "enumerate")
      · wp_walk using wpAny_loadPart' hl, wpAny_pyIter_tuple hL
        exact ⟨_, rfl, h⟩
      · wp_walk using wpAny_loadPart' hl, wpAny_pyIter_tuple hL
        exact ⟨_, rfl, h⟩
    · wp_walk using wpAny_loadPart' hl, wpAny_pyIter_tuple hL
      exact ⟨_, rfl, h⟩
section
variable {prog : Program} {w : World} {A : Around} {E : Value → Shared → Prop} {s : Shared}
theorem cut_enumerate_tuple {l : Addr} {items : Array Value} {Q : Value → Shared → Prop} (hL : s.heap.IsTuple l items)
    (h : ∀ h', IsEnum h' (s.heap.objs.size + 1) s.heap.objs.size 0 .none → h'.IsTupleIter s.heap.objs.size l 0 → h'.objs.size = s.heap.objs.size + 2 →
      (∀ b o, s.heap.get? b = some o → h'.get? b = some o) → Q (.ref (s.heap.objs.size + 1)) { s with heap := h' }) :
    wpAny (model prog w) A (call (.type "enumerate") [.ref l]) Q E s := by
  obtain ⟨⟨c, dct, dt, sl⟩, hl, hc, n, hd⟩ := hL
  replace hc : c = .type "tuple" := hc
  replace hd : dt = .seq items n := hd
  subst hc hd
  refine callType_new F.called_enumerate (by decide) (F.typeCall_enumerate_1 _) (F.newCall_enumerate_1 _) (fun obj => F.args_object_init_2 obj _) F.entry_enumerate_new
    (cut_enumerate_newT l items n dct sl) ⟨hl, ?_⟩
  have hz : (s.heap.push { cls := .type "tuple_iterator", data := .fields #[.ref l, .int 0 0] }).objs.size = s.heap.objs.size + 1 := Heap.size_push ..
  show _ ∧ _
  rw [hz]
  have he : IsEnum ((s.heap.push { cls := .type "tuple_iterator", data := .fields #[.ref l, .int 0 0] }).push
      { cls := .type "enumerate", data := .fields #[.none, .bool false, .ref s.heap.objs.size, rawInt 0, .none, .none] }) (s.heap.objs.size + 1) s.heap.objs.size 0 .none := by
    have := Heap.get?_push_size (s.heap.push { cls := .type "tuple_iterator", data := .fields #[.ref l, .int 0 0] })
      (o := { cls := .type "enumerate", data := .fields #[.none, .bool false, .ref s.heap.objs.size, rawInt 0, .none, .none] }) rfl
    rw [hz] at this; exact this
  refine ⟨⟨_, he, rfl⟩, h _ he ⟨_, Heap.get?_push_of_some _ (Heap.get?_push_size _ rfl), rfl, rfl⟩ (by rw [Heap.size_push, hz]) fun b o x => Heap.get?_push_of_some _ (Heap.get?_push_of_some _ x)⟩
end
theorem cut_draws_tuple {prog : Program} {w : World} {A : Around} (hh : A.handled = none) (it l : Addr) (hne : l ≠ it) (items : Array Value) :
    Draws prog w A it [it, l] items.size (fun i v => items[i]? = some v) (fun i h => h.IsTupleIter it l i ∧ h.IsTuple l items) where
  live := fun _ _ st => let ⟨o, ho, _⟩ := st.1; ⟨o, ho⟩
  frame := fun _ _ _ st hk => ⟨let ⟨o, e, r⟩ := st.1; ⟨o, hk it (by simp) o e, r⟩, let ⟨o, e, r⟩ := st.2; ⟨o, hk l (by simp) o e, r⟩⟩
  item := fun i s Q E hi st hQ => by
    refine RZ.nextOf_tuple_item st.1 st.2 (x := items[i]) (by simp [hi]) fun h' hit' hs' => ?_
    exact hQ _ h' s.toks (by simp [hi]) ⟨hit', st.2.extBut hs'.extBut hne⟩ hs'
  done := fun s Q E st hE => RZ.nextOf_tuple_end hh st.1 st.2 (by simp) hE
end PySem
namespace Cut
open PySem PySem.Spec PyProof.Rows L2
def IteT (K : PySem.W.Frag) (a : Addr) : It :=
  ⟨fun i H => ∃ (xs : List V) (x : V), SqT K H a xs ∧ xs[i]? = some x, fun i H v H' => ∃ T x, v = .ref T ∧ H T = none ∧ H' = upd H T (.tup [.int (i : Nat), x]) ∧ ∀ xs, SqT K H a xs → xs[i]? = some x, fun i H => ∃ xs : List V, SqT K H a xs ∧ xs.length = i⟩
theorem turn_enumT {P : Program} {w : World} {K : PySem.W.Frag} {elts : List Expr} {kk : Nat} {tpos : Pos} (a e it : Addr) :
    Turn P w K (.Tuple elts kk tpos) (IteT K a) [e, it] e (fun i h => (∃ old, IsEnum h e it ((i : Nat) : Int) old) ∧ h.IsTupleIter it a i ∧ e ≠ it) where
  mem := by simp
  obj := fun i h st b hb => by
    obtain ⟨⟨old, he⟩, ⟨o, ho, hc, hd⟩, _⟩ := st
    have e' : b = e ∨ b = it := by simpa using hb
    rcases e' with z | z
    · rw [z]; exact ⟨_, he, fun v q => nomatch q⟩
    · rw [z]; exact ⟨o, ho, fun v q => by rw [hd] at q; cases q⟩
  keep := fun i h h' st k => let ⟨⟨old, he⟩, ⟨o, ho, r⟩, hne⟩ := st; ⟨⟨old, k e (by simp) _ he⟩, ⟨o, k it (by simp) o ho, r⟩, hne⟩
  item := by
    intro X hP hw hK hc i pins s σ H E I hf st hg
    subst hP hw hK
    obtain ⟨⟨old, he⟩, hit, hne⟩ := st
    obtain ⟨xs, x, hq, hx⟩ := hg
    obtain ⟨its, rv, p, hz⟩ := I.tuple hq
    obtain ⟨u, hu, ru⟩ := rv.get hx
    have hel : e < s.heap.objs.size := Heap.lt_size he
    have hil : it < s.heap.objs.size := by obtain ⟨_, q, _⟩ := hit; exact Heap.lt_size q
    have hae : e ≠ a := fun z => by
      obtain ⟨o, ho, hcl, _⟩ := p
      rw [← z, he] at ho
      cases ho
      exact absurd (Value.type.inj hcl) (by decide)
    have hai : a ≠ it := fun z => by
      obtain ⟨o, ho, hcl, _⟩ := p
      obtain ⟨o2, ho2, hcl2, _⟩ := hit
      rw [z, ho2] at ho
      cases ho
      rw [hcl2] at hcl
      exact absurd (Value.type.inj hcl) (by decide)
    have hh : X.A.in1.handled = none := by have := I.ok.hd hc; simpa using this
    have hlt : i < its.toArray.size := by
      have := (List.getElem?_eq_some_iff.mp hu).1
      simpa using this
    refine wpAny_pyNext_enum_itemD (cut_draws_tuple (prog := X.prog) (w := X.w) hh it a hai its.toArray) he ⟨hit, p⟩ hlt hne (by simp [hne, hae]) fun y h' tk hy ho hst' hT hsz hk => ?_
    have ey : y = u := by
      have h1 : its[i]? = some y := by simpa using hy
      rw [hu] at h1
      exact (Option.some.inj h1).symm
    subst ey
    refine ⟨_, rfl, wpAny_letOwnedTupleGo_enum (s := { s with heap := h', toks := tk + 1 }) ho fun h'' he' sb => ?_⟩
    have hT2 : h''.get? s.heap.objs.size = some { cls := .type "tuple", data := .seq #[.int i tk, y] } := (sb.2 _ (Nat.ne_of_gt hel)).trans hT
    have new : ObjOk X.prog X.w (upd H s.heap.objs.size (.tup [.int (i : Nat), x])) h'' s.heap.objs.size (.tup [.int (i : Nat), x]) :=
      ⟨by show 2 ≤ sizeLine; decide, [.int i tk, y], .cons ⟨_, rfl⟩ (.cons ru .nil), ⟨_, hT2, rfl, _, rfl⟩⟩
    have I1 : Inv X pins σ (upd H s.heap.objs.size (.tup [.int (i : Nat), x])) { s with heap := h'', toks := tk + 1 } :=
      I.turnedNew (ch := [e, it]) (fun b ob hb q => (sb.2 b (fun z => hb (by simp [z]))).trans (hk b ob (fun z => hb (by simp [z])) (fun z => hb (by simp [z])) q)) hf (Nat.le_refl _) new
    refine ⟨.ref s.heap.objs.size, _, I1, rfl, ⟨_, x, rfl, I.hok.fresh (Nat.le_refl _), rfl, fun ys hy => by rw [I.tuple_inj hy hq]; exact hx⟩, ⟨⟨y, ?_⟩, ?_, hne⟩, fun b hb => ?_⟩
    · have e1 : ((i + 1 : Nat) : Int) = (i : Int) + 1 := by omega
      rw [e1]; exact he'
    · obtain ⟨o, q, r⟩ := hst'.1
      exact ⟨o, (sb.2 it (Ne.symm hne)).trans q, r⟩
    · have hb' : b < s.heap.objs.size := by
        have e' : b = e ∨ b = it := by simpa using hb
        rcases e' with z | z
        · rw [z]; exact hel
        · rw [z]; exact hil
      rw [upd_ne (Nat.ne_of_lt hb')]
      exact (hf b hb).1
  done := by
    intro X hP hw hK hc i pins s σ H E I hf st hg
    subst hP hw hK
    obtain ⟨⟨old, he⟩, hit, hne⟩ := st
    obtain ⟨xs, hq, hx⟩ := hg
    obtain ⟨its, rv, p, hz⟩ := I.tuple hq
    obtain ⟨f0, f1, f2, f3, f4, f5⟩ := hf it (by simp)
    have hl := rv.length
    have hai : a ≠ it := fun z => by
      obtain ⟨o, ho, hcl, _⟩ := p
      obtain ⟨o2, ho2, hcl2, _⟩ := hit
      rw [z, ho2] at ho
      cases ho
      rw [hcl2] at hcl
      exact absurd (Value.type.inj hcl) (by decide)
    have hh : X.A.in1.handled = none := by have := I.ok.hd hc; simpa using this
    have ei : i = its.toArray.size := by simp; omega
    subst ei
    have D := cut_draws_tuple (prog := X.prog) (w := X.w) hh it a hai its.toArray
    exact wpAny_pyNext_enum_endD D he ⟨hit, p⟩ fun h' eb => ⟨rfl, I.turned (t' := s.toks) (fun b o hb q => eb b o hb q) f0 f1 f3 f4 f5⟩
  self := fun A i s Q E st h => let ⟨⟨_, he⟩, _⟩ := st; wpAny_pyIter_enum he h
def iEnumA (K : PySem.W.Frag) (ta : TA) : TI := fun σ H R => ta σ H fun vs H1 => ∃ a xs, vs = [.ref a] ∧ ((SqL K H1 a xs ∧ R (Ite K a) H1) ∨ (SqT K H1 a xs ∧ R (IteT K a) H1))
theorem pi_enumA {X : Cx} {e : Expr} {ta : TA} {p pos tpos : Pos} {elts : List Expr} {kk : Nat} (hg : Gl X "enumerate") (hm : X.mg "enumerate" = none) (ha : PA X [e] ta) (hs : starEach [e] X.env = [(false, eval e X.env)]) :
    PI X (.Tuple elts kk tpos) (.Call (.Name "enumerate" p) [e] [] pos) (iEnumA X.K ta) := by
  refine ⟨fun pins s σ H R I h => ?_⟩
  refine Call_ (ld_blt I hg hm boot_enumerate (PyProof.Rows.callWith_type1 (thn (ha.run pos pins s σ H _ I h) fun us s1 ⟨vs, H1, I1, r1, q1⟩ => ?_) hs rfl))
  obtain ⟨a, xs, ex, q⟩ := q1
  subst ex
  cases r1 with
  | cons r rr =>
    cases rr
    cases r
    have fresh : ∀ b ∈ [s1.heap.objs.size + 1, s1.heap.objs.size], FpOk X pins H1 b := fun b hb => by
      have hle : s1.heap.objs.size ≤ b := by
        rcases List.mem_cons.mp hb with z | z
        · rw [z]; exact Nat.le_add_right _ _
        · rw [List.mem_singleton.mp z]; exact Nat.le_refl _
      exact I1.fpOk hle (I1.hok.fresh hle)
    rcases q with ⟨hq, q⟩ | ⟨hq, q⟩
    · obtain ⟨its, rv, p', hz⟩ := I1.list hq
      refine call_enumerate_list p'.isList fun h' he hit hsz hk => wpAny_pyIter_enum he ?_
      have I2 : Inv X pins σ H1 { s1 with heap := h' } := I1.kept (t' := s1.toks) hk
      exact ⟨s1.heap.objs.size + 1, [s1.heap.objs.size + 1, s1.heap.objs.size], _, _, H1, rfl, I2, turn_enum a (s1.heap.objs.size + 1) s1.heap.objs.size, ⟨⟨.none, he⟩, hit, Nat.succ_ne_self _⟩, fresh, q⟩
    · obtain ⟨its, rv, p', hz⟩ := I1.tuple hq
      refine cut_enumerate_tuple p' fun h' he hit hsz hk => wpAny_pyIter_enum he ?_
      have I2 : Inv X pins σ H1 { s1 with heap := h' } := I1.kept (t' := s1.toks) hk
      exact ⟨s1.heap.objs.size + 1, [s1.heap.objs.size + 1, s1.heap.objs.size], _, _, H1, rfl, I2, turn_enumT a (s1.heap.objs.size + 1) s1.heap.objs.size, ⟨⟨.none, he⟩, hit, Nat.succ_ne_self _⟩, fresh, q⟩
theorem walk_enumT {K : PySem.W.Frag} {a : Addr} {xs : List V} : Walk (IteT K a) xs.length (fun H => SqT K H a xs) (YPair (fun i => some (.int (i : Nat))) (fun i => xs[i]?)) := by
  refine ⟨fun i _ hi q => ⟨xs, xs[i], q, by simp [hi]⟩, fun _ q => ⟨xs, q, rfl⟩, fun i H v H' _ q y => ?_⟩
  obtain ⟨T, x, h1, h2, h3, h4⟩ := y
  exact ⟨T, .int (i : Nat), x, h1, h2, h3, rfl, h4 xs q⟩
end Cut
end
section
/-! CutZip: zip of a tuple and a list. -/
namespace PySem
open Sem (wp)
abbrev zmH1 (h : Heap) (l1 : Addr) : Heap := h.push { cls := .type "tuple_iterator", data := .fields #[.ref l1, .int 0 0] }
abbrev zmH2 (h : Heap) (l1 l2 : Addr) : Heap := (zmH1 h l1).push { cls := .type "list_iterator", data := .fields #[.ref l2, .int 0 0] }
abbrev zmH3 (h : Heap) (l1 l2 : Addr) : Heap := (zmH2 h l1 l2).push { cls := .type "tuple", data := .seq #[.ref h.objs.size, .ref (zmH1 h l1).objs.size] }
abbrev zmH4 (h : Heap) (l1 l2 : Addr) : Heap := (zmH3 h l1 l2).push { cls := .type "tuple", data := .seq #[.none, .none] }
abbrev zmH5 (h : Heap) (l1 l2 : Addr) : Heap := (zmH4 h l1 l2).push { cls := .type "zip", data := .fields #[.none, .bool false, .bool false, .ref (zmH2 h l1 l2).objs.size, .ref (zmH3 h l1 l2).objs.size] }
theorem cut_zipM_new (l1 l2 : Addr) (xs ys : Array Value) :
    Meets (Builtin.«zip.__new__» ⟨[.type "zip", .ref l1, .ref l2], []⟩) (fun _ R s => s.heap.IsTuple l1 xs ∧ s.heap.IsList l2 ys ∧
      R (.ok (.ret (.ref (zmH4 s.heap l1 l2).objs.size))) { s with heap := zmH5 s.heap l1 l2 }) :=
  .of_wp fun prog w A R s h => by
    obtain ⟨hp, g, d, tk, os⟩ := s; obtain ⟨hl1, hl2, h⟩ := h
    have hsub := sub_zip
    have hL1 : Heap.IsTuple (Shared.heap ⟨hp, g, d, tk, os⟩) l1 xs := hl1
    have hL2 : Heap.IsList (Shared.heap ⟨hp.push { cls := .type "tuple_iterator", data := .fields #[.ref l1, .int 0 0] }, g, d, tk, os⟩) l2 ys := Heap.IsList.push hl2 _
    wp_walk using wpAny_pyIter_tuple hL1, wpAny_pyIter_list hL2
    exact ⟨_, rfl, h⟩
section
variable {prog : Program} {w : World} {A : Around} {E : Value → Shared → Prop} {s : Shared}
theorem cut_call_zipM {l1 l2 : Addr} {xs ys : Array Value} {Q : Value → Shared → Prop} (hl1 : s.heap.IsTuple l1 xs) (hl2 : s.heap.IsList l2 ys)
    (h : ∀ h', IsZip h' (s.heap.objs.size + 4) (s.heap.objs.size + 2) (s.heap.objs.size + 3) .none → IsPair h' (s.heap.objs.size + 2) (.ref s.heap.objs.size) (.ref (s.heap.objs.size + 1)) →
      IsPair h' (s.heap.objs.size + 3) .none .none → h'.IsTupleIter s.heap.objs.size l1 0 → h'.IsListIter (s.heap.objs.size + 1) l2 0 →
      (∀ c o, s.heap.get? c = some o → h'.get? c = some o) → Q (.ref (s.heap.objs.size + 4)) { s with heap := h' }) :
    wpAny (model prog w) A (call (.type "zip") [.ref l1, .ref l2]) Q E s := by
  refine callType_new F.called_zip (by decide) (F.typeCall_zip_2 _ _) (F.newCall_zip_2 _ _) (fun obj => F.args_object_init_3 obj _ _) F.entry_zip_new
    (cut_zipM_new l1 l2 xs ys) ⟨hl1, hl2, ?_⟩
  have z1 : (zmH1 s.heap l1).objs.size = s.heap.objs.size + 1 := Heap.size_push ..
  have z2 : (zmH2 s.heap l1 l2).objs.size = s.heap.objs.size + 2 := by rw [Heap.size_push, z1]
  have z3 : (zmH3 s.heap l1 l2).objs.size = s.heap.objs.size + 3 := by rw [Heap.size_push, z2]
  have z4 : (zmH4 s.heap l1 l2).objs.size = s.heap.objs.size + 4 := by rw [Heap.size_push, z3]
  have g5 : (zmH5 s.heap l1 l2).get? (zmH4 s.heap l1 l2).objs.size = some _ := Heap.get?_push_size _ rfl
  have g4 : (zmH5 s.heap l1 l2).get? (zmH3 s.heap l1 l2).objs.size = some _ := Heap.get?_push_of_some _ (Heap.get?_push_size _ rfl)
  have g3 : (zmH5 s.heap l1 l2).get? (zmH2 s.heap l1 l2).objs.size = some _ := Heap.get?_push_of_some _ (Heap.get?_push_of_some _ (Heap.get?_push_size _ rfl))
  have g2 : (zmH5 s.heap l1 l2).get? (zmH1 s.heap l1).objs.size = some _ := Heap.get?_push_of_some _ (Heap.get?_push_of_some _ (Heap.get?_push_of_some _ (Heap.get?_push_size _ rfl)))
  have g1 : (zmH5 s.heap l1 l2).get? s.heap.objs.size = some _ := Heap.get?_push_of_some _ (Heap.get?_push_of_some _ (Heap.get?_push_of_some _ (Heap.get?_push_of_some _ (Heap.get?_push_size _ rfl))))
  show _ ∧ _
  rw [z2, z3, z4] at g5
  rw [z1, z2] at g3
  rw [z3] at g4
  rw [z1] at g2
  rw [z4]
  exact ⟨⟨_, g5, rfl⟩, h _ g5 g3 g4 ⟨_, g1, rfl, rfl⟩ ⟨_, g2, rfl, rfl⟩ fun c o x =>
    Heap.get?_push_of_some _ (Heap.get?_push_of_some _ (Heap.get?_push_of_some _ (Heap.get?_push_of_some _ (Heap.get?_push_of_some _ x))))⟩
end
end PySem
namespace Cut
open PySem PySem.Spec PyProof.Rows L2
/-- the tuple at a and the list at b as they stand at each turn -/
def ItzM (K : PySem.W.Frag) (a b : Addr) : It :=
  ⟨fun i H => ∃ (xs ys : List V) (x y : V), SqT K H a xs ∧ SqL K H b ys ∧ xs[i]? = some x ∧ ys[i]? = some y,
    fun i H v H' => ∃ T x y, v = .ref T ∧ H T = none ∧ H' = upd H T (.tup [x, y]) ∧ (∀ xs, SqT K H a xs → xs[i]? = some x) ∧ ∀ ys, SqL K H b ys → ys[i]? = some y,
    fun i H => ∃ xs ys : List V, SqT K H a xs ∧ SqL K H b ys ∧ ((i = xs.length ∧ i ≤ ys.length) ∨ (i = ys.length ∧ i ≤ xs.length))⟩
theorem zipSepM {z TI TO i1 i2 a b : Addr} (D : ZipApart z TI TO i1 i2 a b) : ZipSep2 z TI TO i1 i2 [i1, a] [i2, b] where
  TIz := D.TIz
  TOz := D.TOz
  TITO := D.TITO
  TIi1 := D.TIi1
  mem1 := by simp
  zf1 := by
    have := D.i1z; have := D.l1z
    intro h
    rcases List.mem_cons.mp h with e | h
    · exact D.i1z e.symm
    · exact D.l1z (List.mem_singleton.mp h).symm
  Tf1 := by
    intro h
    rcases List.mem_cons.mp h with e | h
    · exact D.TOi1 e
    · exact D.l1TO (List.mem_singleton.mp h).symm
  TIi2 := D.TIi2
  mem2 := by simp
  zf2 := by
    intro h
    rcases List.mem_cons.mp h with e | h
    · exact D.i2z e.symm
    · exact D.l2z (List.mem_singleton.mp h).symm
  Tf2 := by
    intro h
    rcases List.mem_cons.mp h with e | h
    · exact D.TOi2 e
    · exact D.l2TO (List.mem_singleton.mp h).symm
  sep1_2 := by
    intro h
    rcases List.mem_cons.mp h with e | h
    · exact D.i12 e
    · exact D.l2i1 (List.mem_singleton.mp h).symm
  sep2_1 := by
    intro h
    rcases List.mem_cons.mp h with e | h
    · exact D.i12 e.symm
    · exact D.l1i2 (List.mem_singleton.mp h).symm
theorem turn_zipM {P : Program} {w : World} {K : PySem.W.Frag} {elts : List Expr} {kk : Nat} {tpos : Pos} {a b z TI TO i1 i2 : Addr} (D : ZipApart z TI TO i1 i2 a b) :
    Turn P w K (.Tuple elts kk tpos) (ItzM K a b) [z, TI, TO, i1, i2] z (fun i h => IsZip h z TI TO .none ∧ IsPair h TI (.ref i1) (.ref i2) ∧ (∃ x y, IsPair h TO x y) ∧ h.IsTupleIter i1 a i ∧ h.IsListIter i2 b i) where
  mem := by simp
  obj := fun i h st c hc => by
    obtain ⟨hz, hTI, ⟨x, y, hTO⟩, ⟨o1, e1, _, d1⟩, ⟨o2, e2, _, d2⟩⟩ := st
    have e' : c = z ∨ c = TI ∨ c = TO ∨ c = i1 ∨ c = i2 := by simpa using hc
    rcases e' with q | q | q | q | q
    · rw [q]; exact ⟨_, hz, fun v q => nomatch q⟩
    · rw [q]; exact ⟨_, hTI, fun v q => nomatch q⟩
    · rw [q]; exact ⟨_, hTO, fun v q => nomatch q⟩
    · rw [q]; exact ⟨o1, e1, fun v q => by rw [d1] at q; cases q⟩
    · rw [q]; exact ⟨o2, e2, fun v q => by rw [d2] at q; cases q⟩
  keep := fun i h h' st k => by
    obtain ⟨hz, hTI, ⟨x, y, hTO⟩, h1, h2⟩ := st
    exact ⟨k z (by simp) _ hz, k TI (by simp) _ hTI, ⟨x, y, k TO (by simp) _ hTO⟩, h1.at fun o q => k i1 (by simp) o q, h2.at fun o q => k i2 (by simp) o q⟩
  item := by
    intro X hP hw hK hc i pins s σ H E I hf st hg
    subst hP hw hK
    obtain ⟨hz, hTI, ⟨x0, y0, hTO⟩, h1, h2⟩ := st
    obtain ⟨xs, ys, x, y, hqx, hqy, hx, hy⟩ := hg
    obtain ⟨its, rv, p, _⟩ := I.tuple hqx
    obtain ⟨its2, rv2, p2, _⟩ := I.list hqy
    obtain ⟨u, hu, ru⟩ := rv.get hx
    obtain ⟨u2, hu2, ru2⟩ := rv2.get hy
    have hzl : z < s.heap.objs.size := Heap.lt_size hz
    have hh : X.A.in1.handled = none := by have := I.ok.hd hc; simpa using this
    have lt1 : i < its.toArray.size := by simpa using (List.getElem?_eq_some_iff.mp hu).1
    have lt2 : i < its2.toArray.size := by simpa using (List.getElem?_eq_some_iff.mp hu2).1
    refine wpAny_pyNext_zipD2_item (zipSepM D) (cut_draws_tuple (prog := X.prog) (w := X.w) hh i1 a D.l1i1 its.toArray) (Draws.list (prog := X.prog) (w := X.w) hh i2 b D.l2i2 its2.toArray) hz hTI hTO ⟨h1, p⟩ ⟨h2, p2.isList⟩ lt1 lt2 fun v1 v2 h' tk e1 e2 z' TO' s1' s2' hT hsz hk => ?_
    have ev1 : v1 = u := by
      have h1 : its[i]? = some v1 := by simpa using e1
      rw [hu] at h1
      exact (Option.some.inj h1).symm
    have ev2 : v2 = u2 := by
      have h1 : its2[i]? = some v2 := by simpa using e2
      rw [hu2] at h1
      exact (Option.some.inj h1).symm
    subst ev1 ev2
    refine ⟨_, rfl, wpAny_letOwnedTupleGo_zip (s := { s with heap := h', toks := tk }) z' fun h'' z'' sb => ?_⟩
    have hT2 : h''.get? s.heap.objs.size = some { cls := .type "tuple", data := .seq #[v1, v2] } := (sb.2 _ (Nat.ne_of_gt hzl)).trans hT
    have new : ObjOk X.prog X.w (upd H s.heap.objs.size (.tup [x, y])) h'' s.heap.objs.size (.tup [x, y]) :=
      ⟨by show 2 ≤ sizeLine; decide, [v1, v2], .cons ru (.cons ru2 .nil), ⟨_, hT2, rfl, _, rfl⟩⟩
    have I1 : Inv X pins σ (upd H s.heap.objs.size (.tup [x, y])) { s with heap := h'', toks := tk } :=
      I.turnedNew (ch := [z, TI, TO, i1, i2]) (fun c o hb q => (sb.2 c (fun q' => hb (by simp [q']))).trans (hk c o (fun q' => hb (by simp [q'])) (fun q' => hb (by simp [q'])) (fun q' => hb (by simp [q'])) (fun q' => hb (by simp [q'])) q)) hf (Nat.le_refl _) new
    refine ⟨.ref s.heap.objs.size, _, I1, rfl, ⟨_, x, y, rfl, I.hok.fresh (Nat.le_refl _), rfl, fun l hl => by rw [I.tuple_inj hl hqx]; exact hx, fun l hl => by rw [I.list_inj hl hqy]; exact hy⟩, ⟨z'', ?_, ⟨v1, v2, ?_⟩, ?_, ?_⟩, fun c hcm => ?_⟩
    · exact (sb.2 _ D.TIz).trans (hk _ _ D.TIz D.TITO D.TIi1 D.TIi2 hTI)
    · exact (sb.2 _ D.TOz).trans TO'
    · exact s1'.1.at fun o q => (sb.2 _ D.i1z).trans q
    · exact s2'.1.at fun o q => (sb.2 _ D.i2z).trans q
    · have hlt : c < s.heap.objs.size := by
        have e' : c = z ∨ c = TI ∨ c = TO ∨ c = i1 ∨ c = i2 := by simpa using hcm
        rcases e' with q | q | q | q | q
        · rw [q]; exact hzl
        · rw [q]; exact Heap.lt_size hTI
        · rw [q]; exact Heap.lt_size hTO
        · rw [q]; obtain ⟨_, e1, _⟩ := h1; exact Heap.lt_size e1
        · rw [q]; obtain ⟨_, e1, _⟩ := h2; exact Heap.lt_size e1
      rw [upd_ne (Nat.ne_of_lt hlt)]
      exact (hf c hcm).1
  done := by
    intro X hP hw hK hc i pins s σ H E I hf st hg
    subst hP hw hK
    obtain ⟨hz, hTI, ⟨x0, y0, hTO⟩, h1, h2⟩ := st
    obtain ⟨xs, ys, hqx, hqy, hend⟩ := hg
    obtain ⟨its, rv, p, _⟩ := I.tuple hqx
    obtain ⟨its2, rv2, p2, _⟩ := I.list hqy
    have l1 : xs.length = its.toArray.size := by rw [List.size_toArray]; exact rv.length
    have l2 : ys.length = its2.toArray.size := by rw [List.size_toArray]; exact rv2.length
    have hh : X.A.in1.handled = none := by have := I.ok.hd hc; simpa using this
    refine wpAny_pyNext_zipD2_end (zipSepM D) (cut_draws_tuple (prog := X.prog) (w := X.w) hh i1 a D.l1i1 its.toArray) (Draws.list (prog := X.prog) (w := X.w) hh i2 b D.l2i2 its2.toArray) hz hTI hTO ⟨h1, p⟩ ⟨h2, p2.isList⟩ (by omega) (by omega) (by omega) fun h' tk hk => ⟨rfl, I.turnedL (ch := [z, TI, TO, i1, i2]) (fun c o hb q =>
      hk c o (fun q' => hb (by simp [q'])) (fun q' => hb (by simp [q'])) (fun q' => hb (by simp [q'])) (fun q' => hb (by simp [q'])) q) hf⟩
  self := fun A i s Q E st h => wpAny_pyIter_zip st.1 h
def iZipC (K : PySem.W.Frag) (ta : TA) : TI := fun σ H R => ta σ H fun vs H1 => ∃ a b xs ys, vs = [.ref a, .ref b] ∧ ((SqL K H1 a xs ∧ SqL K H1 b ys ∧ R (Itz K a b) H1) ∨ (SqT K H1 a xs ∧ SqT K H1 b ys ∧ R (RZ.ItzT K a b) H1) ∨ (SqT K H1 a xs ∧ SqL K H1 b ys ∧ R (ItzM K a b) H1))
theorem pi_zipC {X : Cx} {e e2 : Expr} {ta : TA} {p pos tpos : Pos} {elts : List Expr} {kk : Nat} (hg : Gl X "zip") (hm : X.mg "zip" = none) (ha : PA X [e, e2] ta)
    (hs : starEach [e, e2] X.env = (false, eval e X.env) :: starEach [e2] X.env := by rfl) (hpl : (backTo pos (starEach [e2] X.env)).any (·.1) = false := by rfl) :
    PI X (.Tuple elts kk tpos) (.Call (.Name "zip" p) [e, e2] [] pos) (iZipC X.K ta) := by
  refine ⟨fun pins s σ H R I h => ?_⟩
  refine Call_ (ld_blt I hg hm PyProof.Rows.boot_zip (PyProof.Rows.callWith_type1 (thn (ha.run pos pins s σ H _ I h) fun us s1 ⟨vs, H1, I1, r1, q1⟩ => ?_) hs hpl))
  obtain ⟨a, b, xs, ys, ex, q1⟩ := q1
  subst ex
  cases r1 with
  | cons r rr =>
    cases rr with
    | cons r' rr =>
      cases rr
      cases r
      cases r'
      have fresh5 : ∀ c, c ∈ [s1.heap.objs.size + 4, s1.heap.objs.size + 2, s1.heap.objs.size + 3, s1.heap.objs.size, s1.heap.objs.size + 1] → FpOk X pins H1 c := fun c hcm => by
        have e' : c = s1.heap.objs.size + 4 ∨ c = s1.heap.objs.size + 2 ∨ c = s1.heap.objs.size + 3 ∨ c = s1.heap.objs.size ∨ c = s1.heap.objs.size + 1 := by simpa using hcm
        have hle : s1.heap.objs.size ≤ c := by rcases e' with z | z | z | z | z <;> omega
        exact I1.fpOk hle (I1.hok.fresh hle)
      rcases q1 with ⟨hqx, hqy, q⟩ | ⟨hqx, hqy, q⟩ | ⟨hqx, hqy, q⟩
      · obtain ⟨its, rv, p1, _⟩ := I1.list hqx
        obtain ⟨its2, rv2, p2, _⟩ := I1.list hqy
        refine call_zip_2 p1.isList p2.isList fun h' hz hTI hTO h1 h2 hsz hk => wpAny_pyIter_zip hz ?_
        have I2 : Inv X pins σ H1 { s1 with heap := h' } := I1.kept (t' := s1.toks) hk
        exact ⟨s1.heap.objs.size + 4, [s1.heap.objs.size + 4, s1.heap.objs.size + 2, s1.heap.objs.size + 3, s1.heap.objs.size, s1.heap.objs.size + 1], _, _, H1, rfl, I2, turn_zip (PySem.W.ktu_apart s1.heap.objs.size a b p1.lt p2.lt), ⟨hz, hTI, ⟨_, _, hTO⟩, h1, h2⟩, fresh5, q⟩
      · obtain ⟨its, rv, p1, _⟩ := I1.tuple hqx
        obtain ⟨its2, rv2, p2, _⟩ := I1.tuple hqy
        obtain ⟨o1, ho1, _⟩ := id p1
        obtain ⟨o2, ho2, _⟩ := id p2
        refine RZ.call_zipT (show s1.heap.IsTuple a its.toArray from p1) (show s1.heap.IsTuple b its2.toArray from p2) fun h' hz hTI hTO h1 h2 hsz hk => wpAny_pyIter_zip hz ?_
        have I2 : Inv X pins σ H1 { s1 with heap := h' } := I1.kept (t' := s1.toks) hk
        exact ⟨s1.heap.objs.size + 4, [s1.heap.objs.size + 4, s1.heap.objs.size + 2, s1.heap.objs.size + 3, s1.heap.objs.size, s1.heap.objs.size + 1], _, _, H1, rfl, I2, RZ.turn_zipT (PySem.W.ktu_apart s1.heap.objs.size a b (Heap.lt_size ho1) (Heap.lt_size ho2)), ⟨hz, hTI, ⟨_, _, hTO⟩, h1, h2⟩, fresh5, q⟩
      · obtain ⟨its, rv, p1, _⟩ := I1.tuple hqx
        obtain ⟨its2, rv2, p2, _⟩ := I1.list hqy
        obtain ⟨o1, ho1, _⟩ := id p1
        refine cut_call_zipM (show s1.heap.IsTuple a its.toArray from p1) p2.isList fun h' hz hTI hTO h1 h2 hk => wpAny_pyIter_zip hz ?_
        have I2 : Inv X pins σ H1 { s1 with heap := h' } := I1.kept (t' := s1.toks) hk
        exact ⟨s1.heap.objs.size + 4, [s1.heap.objs.size + 4, s1.heap.objs.size + 2, s1.heap.objs.size + 3, s1.heap.objs.size, s1.heap.objs.size + 1], _, _, H1, rfl, I2, turn_zipM (PySem.W.ktu_apart s1.heap.objs.size a b (Heap.lt_size ho1) p2.lt), ⟨hz, hTI, ⟨_, _, hTO⟩, h1, h2⟩, fresh5, q⟩
end Cut
end
section
/-! CutIter: what a loop walks. -/
namespace Cut
open PySem PySem.Spec PyProof.Rows L2

abbrev IM := PSt → Out (List D)
/-- an iterator over these items, whatever comes -/
def ItOK (K : KW) (ι : List Addr) (F : Addr → Prop) (H : Hp) (J : It) (items : List D) : Prop :=
  ∀ ι2 F2 H2, Wx ι F H ι2 F2 H2 → (∀ i d, items[i]? = some d → J.go i H2 ∧ ∀ x H', J.yld i H2 x H' → Grow H2 H' ∧ Den K ι2 F2 H' x d) ∧ J.stop items.length H2
theorem ItOK.ext {K : KW} {ι ι' : List Addr} {F F' : Addr → Prop} {H H' : Hp} {J : It} {items : List D} (h : ItOK K ι F H J items) (e : Ext ι F H ι' F' H') : ItOK K ι' F' H' J items :=
  fun ι2 F2 H2 e2 => h ι2 F2 H2 (e.wx.trans e2)
abbrev rI (K : KW) : List Addr → (Addr → Prop) → Hp → Hp → It → List D → Prop := fun ι F _ H J items => ItOK K ι F H J items
def DI (c : SI) (tg e : Expr) (f : IM) : Prop := ∀ (X : Cx) (W : WX), Sta X c → Takes X W → PI X tg e (tO X.kw X.mg W (rI X.kw) f)
theorem _root_.L2.PI.imp {X : Cx} {tg e : Expr} {t t' : L2.TI} (h : PI X tg e t) (i : ∀ σ H R, t' σ H R → t σ H R) : PI X tg e t' := ⟨fun pins s σ H R I q => h.run pins s σ H R I (i σ H R q)⟩

/-- a list, a tuple, a text -/
def itemsD : D → Option (List D)
  | .lst l => some l
  | .tup l => some l
  | .scr l => some l
  | .str z => some (z.cps.toList.map fun c => .str ⟨#[c]⟩)
  | _ => none
def iSeq (f : EM) : IM := fun s => (f s).bind fun d s1 => match itemsD d with
  | some l => .ok l s1
  | none => .bad
theorem pi_any {X : Cx} {tg l : Expr} {tl : TE} (hl : PE X l tl) : PI X tg l (fun σ H R => tl σ H fun x H1 => (∃ a, x = .ref a ∧ (∃ xs, SqL X.K H1 a xs) ∧ R (Itl X.K a) H1) ∨ (∃ a, x = .ref a ∧ (∃ xs, SqT X.K H1 a xs) ∧ R (Itt X.K a) H1) ∨ ∃ z, x = .str z ∧ R (Its z) H1) := by
  refine ⟨fun pins s σ H R I h => ?_⟩
  refine thn (hl.run pins s σ H _ I h) fun v s1 ⟨x, H1, I1, r1, q1⟩ => ?_
  -- each case by the rule of its own, from a constant's reading at this state
  have one : ∀ o : Obj, Inv X pins σ H1 { s1 with heap := s1.heap.push o } := fun o => I1.kept (t' := s1.toks) fun b o' e => Heap.get?_push_of_some _ e
  have fp : ∀ b ∈ [s1.heap.objs.size], FpOk X pins H1 b := fun b hb => by
    obtain rfl : b = s1.heap.objs.size := by simpa using hb
    exact I1.fpOk (Nat.le_refl _) (I1.hok.fresh (Nat.le_refl _))
  rcases q1 with ⟨a, rfl, ⟨xs, hq⟩, q⟩ | ⟨a, rfl, ⟨xs, hq⟩, q⟩ | ⟨z, rfl, q⟩
  · obtain rfl : v = Value.ref a := r1
    obtain ⟨its, rv, p, hz⟩ := I1.list hq
    exact wpAny_pyIter_list p.isList ⟨s1.heap.objs.size, [s1.heap.objs.size], _, _, H1, rfl, one _, turn_list a _, ⟨_, Heap.get?_push_size _ rfl, rfl, rfl⟩, fp, q⟩
  · obtain rfl : v = Value.ref a := r1
    obtain ⟨its, rv, p, hz⟩ := I1.tuple hq
    exact wpAny_pyIter_tuple (show s1.heap.IsTuple a its.toArray from p) ⟨s1.heap.objs.size, [s1.heap.objs.size], _, _, H1, rfl, one _, turn_tuple a _, ⟨_, Heap.get?_push_size _ rfl, rfl, rfl⟩, fp, q⟩
  · obtain ⟨t, rfl⟩ := r1
    cases hc : z.cps.all (· < 128) with
    | false => exact wpAny_pyIter_wide hc (pi_one (tk := s1.toks) I1 _ (turn_str _ z t "str_iterator" (.inr rfl)) ⟨_, Heap.get?_push_size _ rfl, rfl, rfl⟩ q)
    | true => exact wpAny_pyIter_ascii hc (pi_one (tk := s1.toks) I1 _ (turn_str _ z t "str_ascii_iterator" (.inl rfl)) ⟨_, Heap.get?_push_size _ rfl, rfl, rfl⟩ q)
theorem itok_list {K : KW} {ι : List Addr} {F : Addr → Prop} {H : Hp} {a : Addr} {xs : List V} {l : List D} (hd : Dens K ι F H xs l) (hq : ∀ ι2 F2 H2, Wx ι F H ι2 F2 H2 → SqL K H2 a xs) : ItOK K ι F H (Itl K a) l := by
  intro ι2 F2 H2 e
  have w := walk_list (K := K) (a := a) (xs := xs)
  have q := hq _ _ _ e
  refine ⟨fun i d hi => ?_, by rw [← hd.length]; exact w.stops H2 q⟩
  obtain ⟨x, hx, dx⟩ := hd.get hi
  have hlt : i < xs.length := (List.getElem?_eq_some_iff.mp hx).1
  refine ⟨w.goes i H2 hlt q, fun y H' hy => ?_⟩
  obtain ⟨rfl, h2⟩ := w.yields i H2 y H' hlt q hy
  rw [hx] at h2; cases h2
  exact ⟨Grow.refl, dx.wx e⟩
theorem itok_tup {K : KW} {ι : List Addr} {F : Addr → Prop} {H : Hp} {a : Addr} {xs : List V} {l : List D} (hd : Dens K ι F H xs l) (hq : SqT K H a xs) : ItOK K ι F H (Itt K a) l := by
  intro ι2 F2 H2 e
  have w := walk_tup (K := K) (a := a) (xs := xs)
  have q := SqT.wx e hq
  refine ⟨fun i d hi => ?_, by rw [← hd.length]; exact w.stops H2 q⟩
  obtain ⟨x, hx, dx⟩ := hd.get hi
  have hlt : i < xs.length := (List.getElem?_eq_some_iff.mp hx).1
  refine ⟨w.goes i H2 hlt q, fun y H' hy => ?_⟩
  obtain ⟨rfl, h2⟩ := w.yields i H2 y H' hlt q hy
  rw [hx] at h2; cases h2
  exact ⟨Grow.refl, dx.wx e⟩
theorem di_seq {c : SI} {tg e : Expr} {f : EM} (h : DE c e f) : DI c tg e (iSeq f) := fun X W S tk => (pi_any (h X W S tk)).imp fun σ H R q => by
  obtain ⟨ι, F, ps, r, q⟩ := q
  refine ⟨ι, F, ps, r, Sat.seq q fun d ps1 ι1 F1 H1 v e1 r1 d1 s => ?_⟩
  have s : Sat X.kw X.mg W (rI X.kw) σ ι F H (match itemsD d with
    | some l => .ok l ps1
    | none => .bad) R := s
  cases d1 with
  | @lst a xs l h1 h2 => exact .inl ⟨a, rfl, ⟨xs, .inl (.inl h1.2)⟩, s ι1 F1 H1 _ e1 r1 (itok_list h2 fun _ _ _ e => .inl (.inl (h1.wx e).2))⟩
  | @scr a xs l h1 h2 => exact .inl ⟨a, rfl, ⟨xs, h1.sq⟩, s ι1 F1 H1 _ e1 r1 (itok_list h2 fun _ _ _ e => (h1.wx e).sq)⟩
  | @tup a xs l h1 h2 => exact .inr (.inl ⟨a, rfl, ⟨xs, h1⟩, s ι1 F1 H1 _ e1 r1 (itok_tup h2 h1)⟩)
  | str z =>
    refine .inr (.inr ⟨z, rfl, s ι1 F1 H1 _ e1 r1 ?_⟩)
    intro ι2 F2 H2 e
    have w := walk_str (z := z)
    refine ⟨fun i d hi => ?_, by simpa using w.stops H2 trivial⟩
    have hlt : i < z.cps.size := by
      have := (List.getElem?_eq_some_iff.mp hi).1
      simpa using this
    refine ⟨w.goes i H2 hlt trivial, fun y H' hy => ?_⟩
    obtain ⟨rfl, c, hc, rfl⟩ := w.yields i H2 y H' hlt trivial hy
    rw [List.getElem?_map] at hi
    have hc2 : z.cps.toList[i]? = some c := by simpa using hc
    rw [hc2] at hi
    cases hi
    exact ⟨Grow.refl, .str _⟩
  | _ => exact s.elim
/-! ### range -/
def rangeD (lo : Int) : Nat → List D
  | 0 => []
  | n + 1 => .int lo :: rangeD (lo + 1) n
theorem rangeD_len : ∀ (n : Nat) (lo : Int), (rangeD lo n).length = n
  | 0, _ => rfl
  | n + 1, lo => by simp [rangeD, rangeD_len n]
theorem rangeD_get : ∀ (n : Nat) (lo : Int) (i : Nat) (d : D), (rangeD lo n)[i]? = some d → i < n ∧ d = .int (lo + i)
  | 0, _, _, _, h => by simp [rangeD] at h
  | n + 1, lo, 0, d, h => by
    simp [rangeD] at h
    subst h
    exact ⟨by omega, by simp⟩
  | n + 1, lo, i + 1, d, h => by
    obtain ⟨h1, h2⟩ := rangeD_get n (lo + 1) i d (by simpa [rangeD] using h)
    refine ⟨by omega, ?_⟩
    rw [h2]
    congr 1
    omega
def smallI (i : Int) : Bool := decide (-(2 ^ 62) ≤ i) && decide (i < 2 ^ 62)
def iRange1 (f : EM) : IM := fun s => (f s).bind fun d s1 => match d with
  | .int j => if smallI j then .ok (rangeD 0 j.toNat) s1 else .bad
  | _ => .bad
def iRange2 (f g : EM) : IM := fun s => (f s).bind fun d s1 => (g s1).bind fun e s2 => match d, e with
  | .int i, .int j => if smallI i && smallI j then .ok (rangeD i (j - i).toNat) s2 else .bad
  | _, _ => .bad
theorem itok_range {K : KW} {ι : List Addr} {F : Addr → Prop} {H : Hp} {lo : Int} {n : Nat} : ItOK K ι F H (Itr lo n) (rangeD lo n) := by
  intro ι2 F2 H2 e
  have w := walk_range (lo := lo) (n := n)
  refine ⟨fun i d hi => ?_, by rw [rangeD_len]; exact w.stops H2 trivial⟩
  obtain ⟨hlt, rfl⟩ := rangeD_get _ _ _ _ hi
  refine ⟨w.goes i H2 hlt trivial, fun y H' hy => ?_⟩
  obtain ⟨rfl, rfl⟩ := w.yields i H2 y H' hlt trivial hy
  exact ⟨Grow.refl, .int _⟩
theorem di_range1 {c : SI} {tg a : Expr} {f : EM} {p pos : Pos} (hg : c.sc.names.lookup ("range" : Str) = some .globalImplicit) (hb : ("range" : Str) ∈ c.blts) (h : DE c a f) (hp : plainArg a = true) : DI c tg (.Call (.Name "range" p) [a] [] pos) (iRange1 f) := fun X W S tk =>
  (pi_range1 (Gl.of S hg) (S.blt _ hb) (pa_cons (h X W S tk) pa_nil (starEach_plain hp)) (by rw [starEach_plain hp]; rfl)).imp fun σ H R q => by
    obtain ⟨ι, F, ps, r, q⟩ := q
    refine ⟨ι, F, ps, r, Sat.seq q fun d ps1 ι1 F1 H1 v e1 r1 d1 s => ?_⟩
    cases d1 with
    | int j =>
      have s : Sat X.kw X.mg W (rI X.kw) σ ι F H (if smallI j then .ok (rangeD 0 j.toNat) ps1 else .bad) R := s
      split at s
      · rename_i hs
        unfold smallI at hs
        simp only [Bool.and_eq_true, decide_eq_true_eq] at hs
        exact ⟨j, rfl, hs.1, hs.2, s ι1 F1 H1 _ e1 r1 itok_range⟩
      · exact s.elim
    | _ => exact s.elim
theorem di_range2 {c : SI} {tg a b : Expr} {f g : EM} {p pos : Pos} (hg : c.sc.names.lookup ("range" : Str) = some .globalImplicit) (hb : ("range" : Str) ∈ c.blts) (h : DE c a f) (h2 : DE c b g) (hp : plainArg a = true) (hp2 : plainArg b = true) :
    DI c tg (.Call (.Name "range" p) [a, b] [] pos) (iRange2 f g) := fun X W S tk =>
  (pi_range2 (Gl.of S hg) (S.blt _ hb) (pa_cons (h X W S tk) (pa_cons (h2 X W S tk) pa_nil (starEach_plain hp2)) (starEach_plain hp)) (by rw [starEach_plain hp, starEach_plain hp2]; rfl) (by rw [starEach_plain hp2]; rfl)).imp fun σ H R q => by
    obtain ⟨ι, F, ps, r, q⟩ := q
    refine ⟨ι, F, ps, r, Sat.seq q fun d ps1 ι1 F1 H1 v e1 r1 d1 s => ?_⟩
    refine ⟨ι1, F1, ps1, r1, Sat.seq (Sat.on (fun _ _ _ _ _ _ _ _ h => h) s e1) fun d2 ps2 ι2 F2 H2 v2 e2 r2 dd2 s2 => ?_⟩
    cases d1 with
    | int i =>
      cases dd2 with
      | int j =>
        have s2 : Sat X.kw X.mg W (rI X.kw) σ ι1 F1 H1 (if smallI i && smallI j then .ok (rangeD i (j - i).toNat) ps2 else .bad) R := s2
        split at s2
        · rename_i hs
          unfold smallI at hs
          simp only [Bool.and_eq_true, decide_eq_true_eq] at hs
          exact ⟨i, j, rfl, ⟨hs.1.1, hs.1.2, hs.2.1, hs.2.2⟩, s2 ι2 F2 H2 _ e2 r2 itok_range⟩
        · exact s2.elim
      | _ => exact s2.elim
    | _ => exact s2.elim
/-! ### enumerate, zip -/
def enumD (k : Int) : List D → List D
  | [] => []
  | d :: l => .tup [.int k, d] :: enumD (k + 1) l
theorem enumD_len : ∀ (l : List D) (k : Int), (enumD k l).length = l.length
  | [], _ => rfl
  | d :: l, k => by simp [enumD, enumD_len l]
theorem enumD_get : ∀ (l : List D) (k : Int) (i : Nat) (e : D), (enumD k l)[i]? = some e → ∃ d, l[i]? = some d ∧ e = .tup [.int (k + i), d]
  | [], _, _, _, h => by simp [enumD] at h
  | d :: l, k, 0, e, h => by
    simp [enumD] at h
    subst h
    exact ⟨d, by simp, by simp⟩
  | d :: l, k, i + 1, e, h => by
    obtain ⟨x, h1, h2⟩ := enumD_get l (k + 1) i e (by simpa [enumD] using h)
    refine ⟨x, by simpa using h1, ?_⟩
    rw [h2]
    congr 3
    omega
def zipD : List D → List D → List D
  | x :: xs, y :: ys => .tup [x, y] :: zipD xs ys
  | _, _ => []
theorem zipD_len : ∀ (l m : List D), (zipD l m).length = min l.length m.length
  | [], _ => by simp [zipD]
  | _ :: _, [] => by simp [zipD]
  | x :: xs, y :: ys => by
    have := zipD_len xs ys
    simp only [zipD, List.length_cons, this]
    omega
theorem zipD_get : ∀ (l m : List D) (i : Nat) (e : D), (zipD l m)[i]? = some e → ∃ x y, l[i]? = some x ∧ m[i]? = some y ∧ e = .tup [x, y]
  | [], _, _, _, h => by simp [zipD] at h
  | _ :: _, [], _, _, h => by simp [zipD] at h
  | x :: xs, y :: ys, 0, e, h => by
    simp [zipD] at h
    subst h
    exact ⟨x, y, by simp, by simp, rfl⟩
  | x :: xs, y :: ys, i + 1, e, h => by
    obtain ⟨a, b, h1, h2, h3⟩ := zipD_get xs ys i e (by simpa [zipD] using h)
    exact ⟨a, b, by simpa using h1, by simpa using h2, h3⟩
def lstD : D → Option (List D)
  | .lst l => some l
  | .scr l => some l
  | .tup l => some l
  | _ => none
def iEnumD (f : EM) : IM := fun s => (f s).bind fun d s1 => match lstD d with
  | some l => .ok (enumD 0 l) s1
  | none => .bad
def iZipD (f g : EM) : IM := fun s => (f s).bind fun d s1 => (g s1).bind fun e s2 => match d, e with
  | .lst l, .lst m => .ok (zipD l m) s2
  | .tup l, .tup m => .ok (zipD l m) s2
  | .tup l, .lst m => .ok (zipD l m) s2
  | _, _ => .bad
/-- a new pair -/
theorem pairOK {K : KW} {ι : List Addr} {F : Addr → Prop} {H : Hp} {T : Addr} {x y : V} {d e : D} (h : H T = none) (h1 : Den K ι F H x d) (h2 : Den K ι F H y e) : Grow H (upd H T (.tup [x, y])) ∧ Den K ι F (upd H T (.tup [x, y])) (.ref T) (.tup [d, e]) := by
  have g : Grow H (upd H T (.tup [x, y])) := Grow.upd h
  exact ⟨g, .tup (.inl (.inl upd_same)) (.cons (h1.grow g) (.cons (h2.grow g) .nil))⟩
theorem lstD_den {K : KW} {ι : List Addr} {F : Addr → Prop} {H : Hp} {v : V} {d : D} {l : List D} (h : Den K ι F H v d) (e : lstD d = some l) : ∃ a xs, v = .ref a ∧ Dens K ι F H xs l ∧ ((∀ ι2 F2 H2, Wx ι F H ι2 F2 H2 → SqL K H2 a xs) ∨ ∀ ι2 F2 H2, Wx ι F H ι2 F2 H2 → SqT K H2 a xs) := by
  cases h with
  | @lst a xs m h1 h2 => cases e; exact ⟨a, xs, rfl, h2, .inl fun _ _ _ e => .inl (.inl (h1.wx e).2)⟩
  | @scr a xs m h1 h2 => cases e; exact ⟨a, xs, rfl, h2, .inl fun _ _ _ e => (h1.wx e).sq⟩
  | @tup a xs m h1 h2 => cases e; exact ⟨a, xs, rfl, h2, .inr fun _ _ _ e => SqT.wx e h1⟩
  | _ => cases e
theorem itok_pair {K : KW} {ι : List Addr} {F : Addr → Prop} {H : Hp} {xs : List V} {l : List D} {J : It} {S : Hp → Prop} (dl : Dens K ι F H xs l) (w : Walk J xs.length S (YPair (fun i => some (.int (i : Nat))) (fun i => xs[i]?))) (hq : ∀ ι2 F2 H2, Wx ι F H ι2 F2 H2 → S H2) : ItOK K ι F H J (enumD 0 l) := by
  intro ι2 F2 H2 e
  have hs := hq _ _ _ e
  refine ⟨fun i y hi => ?_, by rw [enumD_len, ← dl.length]; exact w.stops H2 hs⟩
  obtain ⟨y', h1, rfl⟩ := enumD_get _ _ _ _ hi
  obtain ⟨x, hx, dx⟩ := dl.get h1
  have hlt : i < xs.length := (List.getElem?_eq_some_iff.mp hx).1
  refine ⟨w.goes i H2 hlt hs, fun z H' hz => ?_⟩
  obtain ⟨T, x1, x2, rfl, hT, rfl, f1, f2⟩ := w.yields i H2 z H' hlt hs hz
  cases f1
  have f2 : xs[i]? = some x2 := f2
  rw [hx] at f2; cases f2
  rw [Int.zero_add]
  exact pairOK hT (.int _) (dx.wx e)
theorem di_enum {c : SI} {elts : List Expr} {kk : Nat} {tpos : Pos} {a : Expr} {f : EM} {p pos : Pos} (hg : c.sc.names.lookup ("enumerate" : Str) = some .globalImplicit) (hb : ("enumerate" : Str) ∈ c.blts) (h : DE c a f) (hp : plainArg a = true) :
    DI c (.Tuple elts kk tpos) (.Call (.Name "enumerate" p) [a] [] pos) (iEnumD f) := fun X W S tk =>
  (pi_enumA (Gl.of S hg) (S.blt _ hb) (pa_cons (h X W S tk) pa_nil (starEach_plain hp)) (by rw [starEach_plain hp]; rfl)).imp fun σ H R q => by
    obtain ⟨ι, F, ps, r, q⟩ := q
    refine ⟨ι, F, ps, r, Sat.seq q fun d ps1 ι1 F1 H1 v e1 r1 d1 s => ?_⟩
    cases el : lstD d with
    | none => rw [el] at s; exact s.elim
    | some l =>
      rw [el] at s
      obtain ⟨b, xs, rfl, dl, hq⟩ := lstD_den d1 el
      refine ⟨b, xs, rfl, ?_⟩
      rcases hq with hq | hq
      · exact .inl ⟨hq _ _ _ Wx.refl, s ι1 F1 H1 _ e1 r1 (itok_pair dl walk_enum hq)⟩
      · exact .inr ⟨hq _ _ _ Wx.refl, s ι1 F1 H1 _ e1 r1 (itok_pair dl walk_enumT hq)⟩
theorem di_zip {c : SI} {elts : List Expr} {kk : Nat} {tpos : Pos} {a b : Expr} {f g : EM} {p pos : Pos} (hg : c.sc.names.lookup ("zip" : Str) = some .globalImplicit) (hb : ("zip" : Str) ∈ c.blts) (h : DE c a f) (h2 : DE c b g) (hp : plainArg a = true) (hp2 : plainArg b = true) :
    DI c (.Tuple elts kk tpos) (.Call (.Name "zip" p) [a, b] [] pos) (iZipD f g) := fun X W S tk =>
  (pi_zipC (Gl.of S hg) (S.blt _ hb) (pa_cons (h X W S tk) (pa_cons (h2 X W S tk) pa_nil (starEach_plain hp2)) (starEach_plain hp)) (starEach_plain hp) (by rw [starEach_plain hp2]; rfl)).imp fun σ H R q => by
    obtain ⟨ι, F, ps, r, q⟩ := q
    refine ⟨ι, F, ps, r, Sat.seq q fun d ps1 ι1 F1 H1 v e1 r1 d1 s => ?_⟩
    refine ⟨ι1, F1, ps1, r1, Sat.seq (Sat.on (fun _ _ _ _ _ _ _ _ h => h) s e1) fun d2 ps2 ι2 F2 H2 v2 e2 r2 dd2 s2 => ?_⟩
    have d1' := d1.ext e2
    split at s2
    · cases d1' with
      | @lst a1 xs _ h1 dx =>
        cases dd2 with
        | @lst a2 ys _ h3 dy =>
          refine ⟨a1, a2, xs, ys, rfl, .inl ⟨.inl (.inl h1.2), .inl (.inl h3.2), s2 ι2 F2 H2 _ e2 r2 ?_⟩⟩
          intro ι3 F3 H3 e
          have w := walk_zip (K := X.kw) (a := a1) (b := a2) (xs := xs) (ys := ys) rfl
          have hs : SqL X.K H3 a1 xs ∧ SqL X.K H3 a2 ys := ⟨.inl (.inl (h1.wx e).2), .inl (.inl (h3.wx e).2)⟩
          refine ⟨fun i y hi => ?_, by rw [zipD_len, ← dx.length, ← dy.length]; exact w.stops H3 hs⟩
          obtain ⟨z1, z2, k1, k2, rfl⟩ := zipD_get _ _ _ _ hi
          obtain ⟨x, hx, hdx⟩ := dx.get k1
          obtain ⟨y, hy, hdy⟩ := dy.get k2
          have hlt : i < min xs.length ys.length := by
            have := (List.getElem?_eq_some_iff.mp hx).1
            have := (List.getElem?_eq_some_iff.mp hy).1
            omega
          refine ⟨w.goes i H3 hlt hs, fun z H' hz => ?_⟩
          obtain ⟨T, x1, x2, rfl, hT, rfl, f1, f2⟩ := w.yields i H3 z H' hlt hs hz
          have f1 : xs[i]? = some x1 := f1
          have f2 : ys[i]? = some x2 := f2
          rw [hx] at f1; cases f1
          rw [hy] at f2; cases f2
          exact pairOK hT (hdx.wx e) (hdy.wx e)
    · cases d1' with
      | @tup a1 xs _ h1 dx =>
        cases dd2 with
        | @tup a2 ys _ h3 dy =>
          refine ⟨a1, a2, xs, ys, rfl, .inr (.inl ⟨h1, h3, s2 ι2 F2 H2 _ e2 r2 ?_⟩)⟩
          intro ι3 F3 H3 e
          have q1 := SqT.wx e h1
          have q3 := SqT.wx e h3
          refine ⟨fun i y hi => ?_, ⟨xs, ys, q1, q3, by rw [zipD_len, ← dx.length, ← dy.length]; omega⟩⟩
          obtain ⟨z1, z2, k1, k2, rfl⟩ := zipD_get _ _ _ _ hi
          obtain ⟨x, hx, hdx⟩ := dx.get k1
          obtain ⟨y, hy, hdy⟩ := dy.get k2
          refine ⟨⟨xs, ys, x, y, q1, q3, hx, hy⟩, fun z H' hz => ?_⟩
          obtain ⟨T, x1, x2, rfl, hT, rfl, f1, f2⟩ := hz
          have f1 := f1 xs q1
          have f2 := f2 ys q3
          rw [hx] at f1; cases f1
          rw [hy] at f2; cases f2
          exact pairOK hT (hdx.wx e) (hdy.wx e)
    · cases d1' with
      | @tup a1 xs _ h1 dx =>
        cases dd2 with
        | @lst a2 ys _ h3 dy =>
          refine ⟨a1, a2, xs, ys, rfl, .inr (.inr ⟨h1, .inl (.inl h3.2), s2 ι2 F2 H2 _ e2 r2 ?_⟩)⟩
          intro ι3 F3 H3 e
          have q1 := SqT.wx e h1
          have q3 : SqL X.K H3 a2 ys := .inl (.inl (h3.wx e).2)
          refine ⟨fun i y hi => ?_, ⟨xs, ys, q1, q3, by rw [zipD_len, ← dx.length, ← dy.length]; omega⟩⟩
          obtain ⟨z1, z2, k1, k2, rfl⟩ := zipD_get _ _ _ _ hi
          obtain ⟨x, hx, hdx⟩ := dx.get k1
          obtain ⟨y, hy, hdy⟩ := dy.get k2
          refine ⟨⟨xs, ys, x, y, q1, q3, hx, hy⟩, fun z H' hz => ?_⟩
          obtain ⟨T, x1, x2, rfl, hT, rfl, f1, f2⟩ := hz
          have f1 := f1 xs q1
          have f2 := f2 ys q3
          rw [hx] at f1; cases f1
          rw [hy] at f2; cases f2
          exact pairOK hT (hdx.wx e) (hdy.wx e)
    · exact s2.elim
end Cut
end
section
/-! CutComp: targets, list comprehensions. -/
namespace Cut
open PySem PySem.Spec PyProof.Rows L2

/-! ### targets -/
inductive Tg where
  | var (i : Nat) | tup (l : List Tg)
def seqD : D → Option (List D)
  | .tup l => some l
  | .lst l => some l
  | .scr l => some l
  | _ => none
mutual
def Tg.put : Tg → D → List (Option D) → Option (List (Option D))
  | .var i, d, sl => some (sl.set i (some d))
  | .tup l, d, sl => match seqD d with
    | some ds => Tg.puts l ds sl
    | none => none
def Tg.puts : List Tg → List D → List (Option D) → Option (List (Option D))
  | [], [], sl => some sl
  | t :: ts, d :: ds, sl => match t.put d sl with
    | some sl1 => Tg.puts ts ds sl1
    | none => none
  | _, _, _ => none
end
mutual
def Tg.vars : Tg → List Nat
  | .var i => [i]
  | .tup l => Tg.varss l
def Tg.varss : List Tg → List Nat
  | [] => []
  | t :: ts => t.vars ++ Tg.varss ts
end
theorem puts_len : ∀ (ts : List Tg) (ds : List D) (sl sl' : List (Option D)), Tg.puts ts ds sl = some sl' → ts.length = ds.length
  | [], [], _, _, _ => rfl
  | t :: ts, d :: ds, sl, sl', h => by
    unfold Tg.puts at h
    split at h
    · simp [puts_len ts ds _ _ h]
    · cases h
  | [], _ :: _, _, _, h => by simp [Tg.puts] at h
  | _ :: _, [], _, _, h => by simp [Tg.puts] at h
theorem wipe_set {σ : L2.St} {i : Nat} {x : Option V} : ∀ {vs : List Nat}, i ∈ vs → wipe (σ.set i x) vs = wipe σ vs
  | v :: vs, h => by
    unfold wipe
    by_cases e : i ∈ vs
    · rw [wipe_set e]
    · have : i = v := by
        rcases List.mem_cons.mp h with h | h
        · exact h
        · exact absurd h e
      subst this
      apply List.ext_getElem?
      intro j
      by_cases hj : i = j
      · subst hj
        simp [List.getElem?_set, wipe_length]
      · rw [List.getElem?_set_ne hj, List.getElem?_set_ne hj]
        by_cases hm : j ∈ vs
        · have hw : ∀ (σ : L2.St) (us : List Nat), j ∈ us → (wipe σ us)[j]? = if j < σ.length then some none else none := by
            intro σ us
            induction us with
            | nil => intro h; cases h
            | cons u us ih =>
              intro h
              unfold wipe
              by_cases hu : u = j
              · subst hu
                simp [List.getElem?_set, wipe_length]
              · rw [List.getElem?_set_ne hu]
                exact ih ((List.mem_cons.mp h).resolve_left fun z => hu z.symm)
          rw [hw _ _ hm, hw _ _ hm, List.length_set]
        · rw [wipe_out hm, wipe_out hm, List.getElem?_set_ne hj]
section
variable {K : KW} {mg : Str → Option Value} {ι ι' : List Addr} {F F' : Addr → Prop} {H H' : Hp} {ps : PSt} {σ : L2.St}
theorem Rel.put {i : Nat} {v : V} {d : D} (r : Rel K mg ι F ps σ H) (h : Den K ι F H v d) : Rel K mg ι F { ps with sl := ps.sl.set i (some d) } (σ.set i (some v)) H := by
  refine ⟨r.ob, fun j e hj => ?_, by simp [r.len]⟩
  by_cases hi : i = j
  · subst hi
    rw [List.getElem?_set] at hj
    simp only [if_true] at hj
    split at hj
    · rename_i hl
      have : d = e := by simpa using hj
      subst this
      exact ⟨v, by rw [List.getElem?_set]; simp [← r.len, hl], h⟩
    · cases hj
  · rw [List.getElem?_set_ne hi] at hj
    obtain ⟨w, h1, h2⟩ := r.sl j e hj
    exact ⟨w, by rw [List.getElem?_set_ne hi]; exact h1, h2⟩
end
theorem wipe_none {σ : L2.St} {j : Nat} : ∀ {us : List Nat}, j ∈ us → (wipe σ us)[j]? = if j < σ.length then some none else none
  | u :: us, h => by
    unfold wipe
    by_cases hu : u = j
    · subst hu
      simp [List.getElem?_set, wipe_length]
    · rw [List.getElem?_set_ne hu]
      exact wipe_none ((List.mem_cons.mp h).resolve_left fun z => hu z.symm)
theorem wipe_idem {σ : L2.St} {vs : List Nat} : wipe (wipe σ vs) vs = wipe σ vs := by
  apply List.ext_getElem?
  intro j
  by_cases hm : j ∈ vs
  · rw [wipe_none hm, wipe_none hm, wipe_length]
  · rw [wipe_out hm]
/-- a target's store -/
def tG (K : KW) (mg : Str → Option Value) (t : Tg) : TG := fun v σ H Q => ∃ ι F ps d sl', Rel K mg ι F ps σ H ∧ Den K ι F H v d ∧ t.put d ps.sl = some sl' ∧
  ∀ σ', Rel K mg ι F { ps with sl := sl' } σ' H → (∀ vs : List Nat, (∀ i ∈ t.vars, i ∈ vs) → wipe σ' vs = wipe σ vs) → Q σ' H
def tGs (K : KW) (mg : Str → Option Value) (ts : List Tg) : TGs := fun vs σ H Q => ∃ ι F ps ds sl', Rel K mg ι F ps σ H ∧ Dens K ι F H vs ds ∧ Tg.puts ts ds ps.sl = some sl' ∧
  ∀ σ', Rel K mg ι F { ps with sl := sl' } σ' H → (∀ vs : List Nat, (∀ i ∈ Tg.varss ts, i ∈ vs) → wipe σ' vs = wipe σ vs) → Q σ' H
theorem _root_.L2.PG.imp {X : Cx} {tg : Expr} {t t' : TG} (h : PG X tg t) (i : ∀ v σ H Q, t' v σ H Q → t v σ H Q) : PG X tg t' := ⟨fun pins s σ H v u Q I r q => h.run pins s σ H v u Q I r (i v σ H Q q)⟩
theorem _root_.L2.PGs.imp {X : Cx} {tg : List Expr} {t t' : TGs} (h : PGs X tg t) (i : ∀ v σ H Q, t' v σ H Q → t v σ H Q) : PGs X tg t' := ⟨fun pins s σ H v u Q I r q => h.run pins s σ H v u Q I r (i v σ H Q q)⟩
def DG (c : SI) (e : Expr) (t : Tg) : Prop := ∀ (X : Cx), Sta X c → PG X e (tG X.kw X.mg t)
def DGs (c : SI) (es : List Expr) (ts : List Tg) : Prop := ∀ (X : Cx), Sta X c → PGs X es (tGs X.kw X.mg ts)
theorem dg_var {c : SI} {x : Str} {i : Nat} {pos : Pos} (hi : c.N[i]? = some x) (hx : c.sc.names.lookup x = some .local ∨ (c.sc.names.lookup x = some .cell ∧ c.fn x = true)) : DG c (.Name x pos) (.var i) := fun X S => by
  refine (pg_name (i := i) (by rw [S.N]; exact S.nd) (by rw [S.N]; exact hi) (by rw [S.sc]; exact hx.imp id (·.1)) (by rw [S.sc]; rcases hx with h | h; exact .inr h; exact .inl (S.fn x h.2))).imp fun v σ H Q h => ?_
  obtain ⟨ι, F, ps, d, sl', r, hd, hp, k⟩ := h
  simp only [Tg.put, Option.some.injEq] at hp
  subst hp
  exact k _ (r.put hd) fun vs hv => wipe_set (hv i (by simp [Tg.vars]))
theorem dgs_nil {c : SI} : DGs c [] [] := fun X S => pgs_nil.imp fun v σ H Q h => by
  obtain ⟨ι, F, ps, ds, sl', r, hd, hp, k⟩ := h
  cases hd with
  | nil =>
    simp only [Tg.puts, Option.some.injEq] at hp
    subst hp
    exact ⟨rfl, k σ r fun _ _ => rfl⟩
  | cons a b => simp [Tg.puts] at hp
/-- a target that is a name or a tuple -/
def plainTg : Expr → Bool
  | .Name .. => true
  | .Tuple .. => true
  | _ => false
theorem each_plain {e : Expr} {es : List Expr} {env : Env} (h : plainTg e = true) : (assignEach (e :: es) env).map (·.2) = assign e env :: (assignEach es env).map (·.2) := by
  cases e <;> first | rfl | cases h
theorem each_len {es : List Expr} {env : Env} (h : es.all plainTg = true) : (assignEach es env).length = es.length ∧ (assignEach es env).findIdx? (·.1) = none := by
  induction es with
  | nil => exact ⟨rfl, rfl⟩
  | cons e es ih =>
    simp only [List.all_cons, Bool.and_eq_true] at h
    obtain ⟨h1, h2⟩ := ih h.2
    cases e <;> first
      | (refine ⟨by show (assignEach es env).length + 1 = _; rw [h1]; rfl, ?_⟩
         show List.findIdx? _ ((false, _) :: assignEach es env) = none
         rw [List.findIdx?_cons, h2]; rfl)
      | (cases h.1)
theorem dgs_cons {c : SI} {e : Expr} {es : List Expr} {t : Tg} {ts : List Tg} (h1 : DG c e t) (h2 : DGs c es ts) (hp : plainTg e = true) : DGs c (e :: es) (t :: ts) := fun X S => by
  refine (pgs_cons (h1 X S) (h2 X S) (each_plain hp)).imp fun v σ H Q h => ?_
  obtain ⟨ι, F, ps, ds, sl', r, hd, hp, k⟩ := h
  cases hd with
  | nil => simp [Tg.puts] at hp
  | @cons v vs d ds h3 h4 =>
    unfold Tg.puts at hp
    split at hp
    · rename_i sl1 e1
      refine ⟨v, vs, rfl, ι, F, ps, d, sl1, r, h3, e1, fun σ' r' hw => ?_⟩
      refine ⟨ι, F, _, ds, sl', r', h4, hp, fun σ2 r2 hw2 => k σ2 r2 fun vs hv => ?_⟩
      simp only [Tg.varss, List.mem_append] at hv
      rw [hw2 vs fun i hi => hv i (.inr hi), hw vs fun i hi => hv i (.inl hi)]
    · cases hp
theorem dg_tup {c : SI} {es : List Expr} {ts : List Tg} {k : Nat} {pos : Pos} (hc : c.calm = true) (h : DGs c es ts) (hp : es.all plainTg = true) (hl : es.length = ts.length) : DG c (.Tuple es k pos) (.tup ts) := fun X S => by
  obtain ⟨n1, n2⟩ := each_len (env := X.env) hp
  refine ⟨fun pins s σ H v u Q I rv h3 => ?_⟩
  obtain ⟨ι, F, ps, d, sl', r, hd, hp, k⟩ := h3
  unfold Tg.put at hp
  split at hp
  · rename_i ds e
    have hlen := puts_len _ _ _ _ hp
    have go : ∀ xs, Dens X.kw ι F H xs ds → xs.length = es.length ∧ tGs X.kw X.mg ts xs σ H Q := fun xs dx => ⟨by rw [dx.length, ← hlen, hl], ι, F, ps, ds, sl', r, dx, hp, k⟩
    cases hd with
    | @tup a xs l h1 h2 =>
      cases e
      exact (pg_tup (S.calm hc) (h X S) n1 n2).run pins s σ H _ u Q I rv ⟨a, xs, rfl, h1, (go xs h2).1, (go xs h2).2⟩
    | @lst a xs l h1 h2 =>
      cases e
      exact (pg_unl (S.calm hc) (h X S) n1 n2).run pins s σ H _ u Q I rv ⟨a, xs, rfl, .inl (.inl h1.2), (go xs h2).1, (go xs h2).2⟩
    | @scr a xs l h1 h2 =>
      cases e
      exact (pg_unl (S.calm hc) (h X S) n1 n2).run pins s σ H _ u Q I rv ⟨a, xs, rfl, h1.sq, (go xs h2).1, (go xs h2).2⟩
    | _ => cases e
  · cases hp

/-! ### a new list under way -/
def wipeD (sl : List (Option D)) : List Nat → List (Option D)
  | [] => sl
  | v :: vs => (wipeD sl vs).set v none
theorem wipeD_length (sl : List (Option D)) : ∀ vs : List Nat, (wipeD sl vs).length = sl.length
  | [] => rfl
  | v :: vs => by unfold wipeD; rw [List.length_set, wipeD_length sl vs]
theorem wipeD_some {sl : List (Option D)} {i : Nat} {x : D} : ∀ {vs : List Nat}, (wipeD sl vs)[i]? = some (some x) → sl[i]? = some (some x) ∧ i ∉ vs
  | [], h => ⟨h, by simp⟩
  | v :: vs, h => by
    unfold wipeD at h
    by_cases hi : v = i
    · subst hi
      rw [List.getElem?_set] at h
      simp only [if_true] at h
      split at h <;> cases h
    · rw [List.getElem?_set_ne hi] at h
      obtain ⟨h1, h2⟩ := wipeD_some h
      exact ⟨h1, by simp only [List.mem_cons, not_or]; exact ⟨fun e => hi e.symm, h2⟩⟩
section
variable {K : KW} {mg : Str → Option Value} {ι ι' ι1 : List Addr} {F F' F1 : Addr → Prop} {H H' H1 : Hp} {ps : PSt} {σ : L2.St}
theorem Rel.wipe (r : Rel K mg ι F ps σ H) (vs : List Nat) : Rel K mg ι F { ps with sl := wipeD ps.sl vs } (wipe σ vs) H := by
  refine ⟨r.ob, fun i d h => ?_, by rw [wipeD_length, wipe_length, r.len]⟩
  obtain ⟨h1, h2⟩ := wipeD_some h
  obtain ⟨v, h3, h4⟩ := r.sl i d h1
  exact ⟨v, by rw [wipe_out h2]; exact h3, h4⟩
theorem Rel.sl' {ob : List (Option Ob)} (r : Rel K mg ι F ⟨ps.sl, ob⟩ σ H) : Rel K mg ι F { ps with ob := ob } σ H := r
mutual
/-- a list that is not frozen, not an object of the store, changes -/
theorem Den.mod {D : Addr} {xs ys : List V} (hD : H D = some (.lst xs)) (hf : ¬ F D) : ∀ {v : V} {d : Cut.D}, Den K ι F H v d → Den K ι F (upd H D (.lst ys)) v d
  | _, _, .non => .non
  | _, _, .bl b => .bl b
  | _, _, .int i => .int i
  | _, _, .str x => .str x
  | _, _, .tup h hs => .tup (by
      rcases h with (h | ⟨o, h⟩) | h
      · exact .inl (.inl (by rw [upd_ne (fun z => by rw [z, hD] at h; cases h)]; exact h))
      · exact .inl (.inr ⟨o, by rw [upd_ne (fun z => by rw [z, hD] at h; cases h)]; exact h⟩)
      · exact .inr h) (Dens.mod hD hf hs)
  | _, _, .lst h hs => .lst ⟨h.1, by rw [upd_ne (fun z => hf (by rw [← z]; exact h.1))]; exact h.2⟩ (Dens.mod hD hf hs)
  | _, _, .scr h hs => .scr (h.imp (fun ⟨o, h⟩ => ⟨o, by rw [upd_ne (fun z => by rw [z, hD] at h; cases h)]; exact h⟩) id) (Dens.mod hD hf hs)
  | _, _, .dct h h1 h2 => .dct (by obtain ⟨kvs, f, h, e⟩ := h; exact ⟨kvs, f, by rw [upd_ne (fun z => hf (by rw [← z]; exact f))]; exact h, e⟩) (Dens.mod hD hf h1) (Dens.mod hD hf h2)
  | _, _, .set h => .set ⟨h.1, by obtain ⟨φ, h2, h3⟩ := h.2; exact ⟨φ, by rw [upd_ne (fun z => hf (by rw [← z]; exact h.1))]; exact h2, h3⟩⟩
  | _, _, .tbl h k h1 h2 => .tbl ⟨h.1, by rw [upd_ne (fun z => hf (by rw [← z]; exact h.1))]; exact h.2⟩ k (Dens.mod hD hf h1) (Dens.mod hD hf h2)
  | _, _, .ob h => .ob h
theorem Dens.mod {D : Addr} {xs ys : List V} (hD : H D = some (.lst xs)) (hf : ¬ F D) : ∀ {vs : List V} {ds : List Cut.D}, Dens K ι F H vs ds → Dens K ι F (upd H D (.lst ys)) vs ds
  | _, _, .nil => .nil
  | _, _, .cons h hs => .cons (Den.mod hD hf h) (Dens.mod hD hf hs)
end
mutual
theorem Den.modK {L : Addr} {kx kx' : List (Key × V)} (hD : H L = some (.dK kx)) (hf : ¬ F L) : ∀ {v : V} {d : Cut.D}, Den K ι F H v d → Den K ι F (upd H L (.dK kx')) v d
  | _, _, .non => .non
  | _, _, .bl b => .bl b
  | _, _, .int i => .int i
  | _, _, .str x => .str x
  | _, _, .tup h hs => .tup (by
      rcases h with (h | ⟨o, h⟩) | h
      · exact .inl (.inl (by rw [upd_ne (fun z => by rw [z, hD] at h; cases h)]; exact h))
      · exact .inl (.inr ⟨o, by rw [upd_ne (fun z => by rw [z, hD] at h; cases h)]; exact h⟩)
      · exact .inr h) (Dens.modK hD hf hs)
  | _, _, .lst h hs => .lst ⟨h.1, by rw [upd_ne (fun z => hf (by rw [← z]; exact h.1))]; exact h.2⟩ (Dens.modK hD hf hs)
  | _, _, .scr h hs => .scr (h.imp (fun ⟨o, h⟩ => ⟨o, by rw [upd_ne (fun z => by rw [z, hD] at h; cases h)]; exact h⟩) id) (Dens.modK hD hf hs)
  | _, _, .dct h h1 h2 => .dct (by obtain ⟨kvs, f, h, e⟩ := h; exact ⟨kvs, f, by rw [upd_ne (fun z => hf (by rw [← z]; exact f))]; exact h, e⟩) (Dens.modK hD hf h1) (Dens.modK hD hf h2)
  | _, _, .set h => .set ⟨h.1, by obtain ⟨φ, h2, h3⟩ := h.2; exact ⟨φ, by rw [upd_ne (fun z => hf (by rw [← z]; exact h.1))]; exact h2, h3⟩⟩
  | _, _, .tbl h k h1 h2 => .tbl ⟨h.1, by rw [upd_ne (fun z => hf (by rw [← z]; exact h.1))]; exact h.2⟩ k (Dens.modK hD hf h1) (Dens.modK hD hf h2)
  | _, _, .ob h => .ob h
theorem Dens.modK {L : Addr} {kx kx' : List (Key × V)} (hD : H L = some (.dK kx)) (hf : ¬ F L) : ∀ {vs : List V} {ds : List Cut.D}, Dens K ι F H vs ds → Dens K ι F (upd H L (.dK kx')) vs ds
  | _, _, .nil => .nil
  | _, _, .cons h hs => .cons (Den.modK hD hf h) (Dens.modK hD hf hs)
end
theorem ORel.modK {ob : List (Option Ob)} {L : Addr} {kx kx' : List (Key × V)} (r : ORel K mg ι F ob H) (hD : H L = some (.dK kx)) (hf : ¬ F L) (hn : L ∉ ι) : ORel K mg ι F ob (upd H L (.dK kx')) := by
  refine ⟨r.len, r.nd, fun n o h => ?_, fun a h => ?_, fun a h => ?_⟩
  · obtain ⟨a, h1, h2, h3⟩ := r.obs n o h
    have ha : a ≠ L := fun z => hn (z ▸ List.mem_of_getElem? h1)
    refine ⟨a, h1, h2, ?_⟩
    cases o with
    | lst ds => obtain ⟨xs, g1, g2⟩ := h3; exact ⟨xs, by rw [upd_ne ha]; exact g1, g2.modK hD hf⟩
    | dct ks vs => obtain ⟨kvs, g1, g2, g3⟩ := h3; exact ⟨kvs, by rw [upd_ne ha]; exact g1, g2.modK hD hf, g3.modK hD hf⟩
    | ins C fs => obtain ⟨cC, dx, xs, g0, g1, g2, g3⟩ := h3; exact ⟨cC, dx, xs, g0, by rw [upd_ne ha]; exact g1, g2, g3.modK hD hf⟩
  · by_cases e : a = L
    · subst e; rw [upd_same]; simp
    · rw [upd_ne e]; exact r.use a h
  · by_cases e : a = L
    · subst e; rw [upd_same]; simp
    · rw [upd_ne e]; exact r.used a h
theorem Ext.modN {L : Addr} {u : HO} (e : Ext ι1 F1 H1 ι F H) (h0 : H1 L = none) : Ext ι1 F1 H1 ι F (upd H L u) := by
  have ne : ∀ {a o}, H1 a = some o → a ≠ L := fun {a o} h z => by rw [z, h0] at h; cases h
  refine ⟨e.pre, e.fro, e.newF, fun a o h hx => by rw [upd_ne (ne h)]; exact e.keep a o h hx, fun a xs h => by rw [upd_ne (ne h)]; exact e.tups a xs h, fun a o u h => by rw [upd_ne (ne h)]; exact e.frzs a o u h, fun a h => ?_⟩
  by_cases z : a = L
  · rw [z]; exact h0
  · rw [upd_ne z] at h; exact e.there a h
theorem ORel.mod {ob : List (Option Ob)} {D : Addr} {xs ys : List V} (r : ORel K mg ι F ob H) (hD : H D = some (.lst xs)) (hf : ¬ F D) (hn : D ∉ ι) : ORel K mg ι F ob (upd H D (.lst ys)) := by
  refine ⟨r.len, r.nd, fun n o h => ?_, fun a h => ?_, fun a h => ?_⟩
  · obtain ⟨a, h1, h2, h3⟩ := r.obs n o h
    have ha : a ≠ D := fun z => hn (z ▸ List.mem_of_getElem? h1)
    refine ⟨a, h1, h2, ?_⟩
    cases o with
    | lst ds => obtain ⟨xs, g1, g2⟩ := h3; exact ⟨xs, by rw [upd_ne ha]; exact g1, g2.mod hD hf⟩
    | dct ks vs => obtain ⟨kvs, g1, g2, g3⟩ := h3; exact ⟨kvs, by rw [upd_ne ha]; exact g1, g2.mod hD hf, g3.mod hD hf⟩
    | ins C fs => obtain ⟨cC, dx, xs, g0, g1, g2, g3⟩ := h3; exact ⟨cC, dx, xs, g0, by rw [upd_ne ha]; exact g1, g2, g3.mod hD hf⟩
  · by_cases e : a = D
    · subst e; rw [upd_same]; simp
    · rw [upd_ne e]; exact r.use a h
  · by_cases e : a = D
    · subst e; rw [upd_same]; simp
    · rw [upd_ne e]; exact r.used a h
theorem Rel.mod {D : Addr} {xs ys : List V} (r : Rel K mg ι F ps σ H) (hD : H D = some (.lst xs)) (hf : ¬ F D) (hn : D ∉ ι) : Rel K mg ι F ps σ (upd H D (.lst ys)) :=
  ⟨r.ob.mod hD hf hn, fun i d h => let ⟨v, h1, h2⟩ := r.sl i d h; ⟨v, h1, h2.mod hD hf⟩, r.len⟩
theorem Ext.mod {D : Addr} {xs ys : List V} (e : Ext ι1 F1 H1 ι F H) (h0 : H1 D = none) (hD : H D = some (.lst xs)) : Ext ι1 F1 H1 ι F (upd H D (.lst ys)) := by
  have ne : ∀ {a o}, H1 a = some o → a ≠ D := fun {a o} h z => by rw [z, h0] at h; cases h
  refine ⟨e.pre, e.fro, e.newF, fun a o h hx => by rw [upd_ne (ne h)]; exact e.keep a o h hx, fun a xs h => by rw [upd_ne (ne h)]; exact e.tups a xs h, fun a o u h => by rw [upd_ne (ne h)]; exact e.frzs a o u h, fun a h => ?_⟩
  by_cases z : a = D
  · rw [z]; exact h0
  · rw [upd_ne z] at h; exact e.there a h
/-- a new list stays where it is, whatever goes on -/
theorem Ext.stays {D : Addr} {xs : List V} (e : Ext ι F H ι' F' H') (hD : H D = some (.lst xs)) (hf : ¬ F D) (hn : D ∉ ι) : H' D = some (.lst xs) ∧ ¬ F' D ∧ D ∉ ι' :=
  ⟨e.keep D _ hD (.inl hn), fun h => by
    rcases e.newF D h with z | z | z
    · exact hf z
    · rw [hD] at z; cases z
    · exact hn z, fun h => by
    rcases e.mem h with z | z
    · exact hn z
    · rw [hD] at z; cases z⟩
end

/-! ### list comprehensions -/
abbrev Obs := List (Option Ob)
def lcGo (step : D → Obs → Option (List D × Obs)) : List D → Obs → Option (List D × Obs)
  | [], ob => some ([], ob)
  | d :: ds, ob => match step d ob with
    | none => none
    | some p => match lcGo step ds p.2 with
      | none => none
      | some q => some (p.1 ++ q.1, q.2)
def lcTurn (g : Tg) (tt : TM) (f : PSt → Option (List D × Obs)) (sl : List (Option D)) : D → Obs → Option (List D × Obs) := fun d ob =>
  match g.put d sl with
  | none => none
  | some sl1 => match tt ⟨sl1, ob⟩ with
    | .ok true s1 => f s1
    | .ok false s1 => some ([], s1.ob)
    | _ => none
def lcElt (f : EM) : PSt → Option (List D × Obs) := fun s => match f s with
  | .ok x s1 => some ([x], s1.ob)
  | _ => none
def lcSrc (src : IM) (own : List Nat) (step : List (Option D) → D → Obs → Option (List D × Obs)) : PSt → Option (List D × Obs) := fun s => match src s with
  | .ok items s1 => lcGo (step (wipeD s1.sl own)) items s1.ob
  | _ => none
def rComp (own : List Nat) (src : IM) (g : Tg) (tt : TM) (f : EM) : RM := fun s => (src s).bind fun items s1 => match lcGo (lcTurn g tt (lcElt f) (wipeD s1.sl own)) items s1.ob with
  | some (l, ob) => if l.length ≤ sizeLine then .ok (.fl l) { s1 with ob := ob } else .bad
  | none => .bad
def rComp2 (own : List Nat) (src : IM) (g : Tg) (tt : TM) (own1 : List Nat) (src1 : IM) (g1 : Tg) (tt1 : TM) (f : EM) : RM := fun s => (src s).bind fun items s1 =>
  match lcGo (lcTurn g tt (lcSrc src1 own1 (lcTurn g1 tt1 (lcElt f))) (wipeD s1.sl own)) items s1.ob with
  | some (l, ob) => if l.length ≤ sizeLine then .ok (.fl l) { s1 with ob := ob } else .bad
  | none => .bad
section
variable {K : KW} {mg : Str → Option Value} {ι ι' ι1 ιj : List Addr} {F F' F1 Fj : Addr → Prop} {H H' H1 Hj : Hp}
theorem Wx.mod {L : Addr} {xs ys : List V} (e : Wx ιj Fj Hj ι F H) (hL : H L = some (.lst xs)) (hf : ¬ F L) : Wx ιj Fj Hj ι F (upd H L (.lst ys)) := by
  have ne : ∀ a o, H a = some o → o ≠ .lst xs → a ≠ L := fun a o h ho z => by
    subst z
    rw [hL] at h
    cases h
    exact ho rfl
  refine ⟨e.pre, e.fro, fun a o h f => ?_, fun a zs h => ?_, fun a o u h => ?_⟩
  · have nL : a ≠ L := fun z => hf (by rw [← z]; exact e.fro a f)
    rw [upd_ne nL]; exact e.keep a o h f
  · rw [upd_ne (ne a _ (e.tups a zs h) nofun)]; exact e.tups a zs h
  · rw [upd_ne (ne a _ (e.frzs a o u h) nofun)]; exact e.frzs a o u h
/-- the new list at L: so far acc, to come what k tells -/
def LcI (K : KW) (mg : Str → Option Value) (ι1 : List Addr) (F1 : Addr → Prop) (H1 : Hp) (ιj : List Addr) (Fj : Addr → Prop) (Hj : Hp) (L : Addr) (sl : List (Option D)) (σw : L2.St) (full : List D) (obF : Obs) (k : Obs → Option (List D × Obs)) (H : Hp) : Prop :=
  ∃ ι F ob acc xs l, Ext ι1 F1 H1 ι F H ∧ Wx ιj Fj Hj ι F H ∧ Rel K mg ι F ⟨sl, ob⟩ σw H ∧ H L = some (.lst xs) ∧ L ∉ ι ∧ ¬ F L ∧ Dens K ι F H xs acc ∧ k ob = some (l, obF) ∧ acc ++ l = full
theorem LcI.mk' {L : Addr} {sl : List (Option D)} {σw : L2.St} {full : List D} {obF : Obs} {k : Obs → Option (List D × Obs)} {ob : Obs} {acc l : List D} {xs : List V} (e : Ext ι1 F1 H1 ι F H) (wx : Wx ιj Fj Hj ι F H) (r : Rel K mg ι F ⟨sl, ob⟩ σw H) (hL : H L = some (.lst xs)) (hn : L ∉ ι) (hf : ¬ F L) (d : Dens K ι F H xs acc) (hk : k ob = some (l, obF)) (hl : acc ++ l = full) :
    LcI K mg ι1 F1 H1 ιj Fj Hj L sl σw full obF k H := ⟨ι, F, ob, acc, xs, l, e, wx, r, hL, hn, hf, d, hk, hl⟩

/-- one clause's loop: k0 what is to come behind it -/
theorem lc_walk {L : Addr} {sl : List (Option D)} {σ : L2.St} {vs : List Nat} {full : List D} {obF : Obs} {k0 : Obs → Option (List D × Obs)} {step : D → Obs → Option (List D × Obs)} {J : It} {items : List D} {g : TG} {R : L2.St → Hp → (Hp → Prop) → Prop} {Qd : Hp → Prop}
    (hJ : ItOK K ιj Fj Hj J items) {H1' : Hp} (h0 : LcI K mg ι1 F1 H1 ιj Fj Hj L sl (wipe σ vs) full obF (fun ob => match lcGo step items ob with | none => none | some p => match k0 p.2 with | none => none | some q => some (p.1 ++ q.1, q.2)) H1')
    (hd : ∀ H, LcI K mg ι1 F1 H1 ιj Fj Hj L sl (wipe σ vs) full obF k0 H → Qd H)
    (hs : ∀ (d : D) (k : Obs → Option (List D × Obs)) (H : Hp) (x : V) (ι : List Addr) (F : Addr → Prop) (ob : Obs) (acc : List D) (xs : List V) (l : List D) (p q : List D × Obs),
      Ext ι1 F1 H1 ι F H → Wx ιj Fj Hj ι F H → Rel K mg ι F ⟨sl, ob⟩ (wipe σ vs) H → H L = some (.lst xs) → L ∉ ι → ¬ F L → Dens K ι F H xs acc → Den K ι F H x d → step d ob = some p → k p.2 = some q → q.2 = obF → acc ++ (p.1 ++ q.1) = full →
      g x (wipe σ vs) H fun σ2 H2 => wipe σ2 vs = wipe σ vs ∧ R σ2 H2 (LcI K mg ι1 F1 H1 ιj Fj Hj L sl (wipe σ vs) full obF k)) :
    ∃ W : Nat → Nat → Hp → Prop, (∃ m, W 0 m H1') ∧ ∀ i m H, W i m H →
      (J.stop i H ∧ Qd H) ∨ (J.go i H ∧ ∃ Nx : Hp → Prop, (∀ H', Nx H' → ∃ m', m' < m ∧ W (i + 1) m' H') ∧ ∀ x H', J.yld i H x H' → g x (wipe σ vs) H' fun σ2 H2 => wipe σ2 vs = wipe σ vs ∧ R σ2 H2 Nx) := by
  let kk : List D → Obs → Option (List D × Obs) := fun ds ob => match lcGo step ds ob with
    | none => none
    | some p => match k0 p.2 with
      | none => none
      | some q => some (p.1 ++ q.1, q.2)
  refine ⟨fun i m H => m = items.length - i ∧ i ≤ items.length ∧ LcI K mg ι1 F1 H1 ιj Fj Hj L sl (wipe σ vs) full obF (kk (items.drop i)) H, ⟨items.length, by simp, Nat.zero_le _, h0⟩, ?_⟩
  rintro i m H ⟨rfl, hi, ι, F, ob, acc, xs, l, e, wx, r, hL, hn, hf, dx, hk, hl⟩
  obtain ⟨j1, j2⟩ := hJ ι F H wx
  by_cases hlt : i < items.length
  · have hg : items[i]? = some items[i] := List.getElem?_eq_getElem hlt
    obtain ⟨y1, y2⟩ := j1 i _ hg
    refine .inr ⟨y1, LcI K mg ι1 F1 H1 ιj Fj Hj L sl (wipe σ vs) full obF (kk (items.drop (i + 1))), fun H' p' => ⟨items.length - (i + 1), by omega, rfl, hlt, p'⟩, fun x H' y => ?_⟩
    obtain ⟨gr, dn⟩ := y2 x H' y
    have hdrop : items.drop i = items[i] :: items.drop (i + 1) := List.drop_eq_getElem_cons hlt
    have hk : kk (items.drop i) ob = some (l, obF) := hk
    rw [hdrop] at hk
    simp only [kk, lcGo] at hk
    cases h1 : step items[i] ob with
    | none => rw [h1] at hk; cases hk
    | some p =>
      rw [h1] at hk
      simp only at hk
      cases h2 : lcGo step (items.drop (i + 1)) p.2 with
      | none => rw [h2] at hk; cases hk
      | some p2 =>
        rw [h2] at hk
        simp only at hk
        cases h3 : k0 p2.2 with
        | none => rw [h3] at hk; cases hk
        | some q =>
          rw [h3] at hk
          simp only [Option.some.injEq, Prod.mk.injEq] at hk
          refine hs items[i] _ H' x ι F ob acc xs l p (p2.1 ++ q.1, q.2) (e.trans (Ext.grow gr)) (wx.trans (Ext.grow gr).wx) (r.grow gr) (gr _ _ hL) hn hf (dx.grow gr) dn h1 (by simp only [kk, h2, h3]) hk.2 (by rw [← hl, ← hk.1]; simp)
  · have e2 : i = items.length := by omega
    subst e2
    refine .inl ⟨j2, hd H ⟨ι, F, ob, acc, xs, l, e, wx, r, hL, hn, hf, dx, ?_, hl⟩⟩
    have hk : kk (items.drop items.length) ob = some (l, obF) := hk
    rw [List.drop_length] at hk
    simp only [kk, lcGo] at hk
    cases h3 : k0 ob with
    | none => rw [h3] at hk; cases hk
    | some q => rw [h3] at hk; simp only [List.nil_append, Option.some.injEq, Prod.mk.injEq] at hk; rw [← hk.1, ← hk.2]
/-- the item is appended -/
theorem lc_app {L : Addr} {sl sl2 : List (Option D)} {ob : Obs} {σw σ2 : L2.St} {full : List D} {obF : Obs} {k : Obs → Option (List D × Obs)} {f : EM} {p q : List D × Obs} {acc : List D} {xs : List V} {H2 : Hp} {ι2 : List Addr} {F2 : Addr → Prop}
    (h0 : H1 L = none) (hfull : full.length ≤ sizeLine) (e : Ext ι1 F1 H1 ι2 F2 H2) (wx : Wx ιj Fj Hj ι2 F2 H2) (r : Rel K mg ι2 F2 ⟨sl2, ob⟩ σ2 H2) (hb : ∀ (i : Nat) (d : D), sl[i]? = some (some d) → ∃ v, σw[i]? = some (some v) ∧ Den K ι2 F2 H2 v d) (hsl : sl.length = σw.length)
    (hL : H2 L = some (.lst xs)) (hn : L ∉ ι2) (hf : ¬ F2 L) (dx : Dens K ι2 F2 H2 xs acc)
    (hp : lcElt f ⟨sl2, ob⟩ = some p) (hk : k p.2 = some q) (hq : q.2 = obF) (hl : acc ++ (p.1 ++ q.1) = full) :
    tE K mg (fun _ _ _ _ => False) f σ2 H2 fun y H4 => ∃ acc, H4 L = some (.lst acc) ∧ acc.length < sizeLine ∧ LcI K mg ι1 F1 H1 ιj Fj Hj L sl σw full obF k (upd H4 L (.lst (acc ++ [y]))) := by
  refine ⟨ι2, F2, ⟨sl2, ob⟩, r, ?_⟩
  unfold lcElt at hp
  cases ef : f ⟨sl2, ob⟩ with
  | bad => rw [ef] at hp; cases hp
  | ex x s => rw [ef] at hp; cases hp
  | ok x s1 =>
    rw [ef] at hp
    cases hp
    intro ι3 F3 H3 y e3 r3 d3
    obtain ⟨hL3, hf3, hn3⟩ := e3.stays hL hf hn
    refine ⟨xs, hL3, ?_, ?_⟩
    · rw [dx.length]
      have := congrArg List.length hl
      simp only [List.length_append, List.length_cons, List.length_nil] at this
      omega
    · have dx3 := (dx.ext e3).append (.cons d3 .nil)
      refine ⟨ι3, F3, s1.ob, acc ++ [x], xs ++ [y], q.1, (e.trans e3).mod h0 hL3, (wx.trans e3.wx).mod hL3 hf3, ⟨r3.ob.mod hL3 hf3 hn3, fun i d hi => ?_, hsl⟩, upd_same, hn3, hf3, dx3.mod hL3 hf3, by rw [hk, ← hq], by rw [← hl]; simp⟩
      obtain ⟨v, h1, h2⟩ := hb i d hi
      exact ⟨v, h1, (h2.ext e3).mod hL3 hf3⟩
end
/-! ### the rule -/
def SI.blk (c : SI) (scope : Scope) : SI := { c with sc := relS scope c.sc, fn := fun x => scope.names.lookup x == some .cell, top := false }
theorem Sta.blk {X : Cx} {c : SI} (S : Sta X c) (s : Shared) (H : Hp) (scope : Scope) (C : Addr) (cl : List (Str × Addr)) (fp : List Addr) : Sta (X.blk s H scope (compEnvC scope cl C X.env) fp) (c.blk scope) := by
  refine ⟨S.N, S.nd, ?_, fun x h => h, S.calm, S.room, S.guards, fun h i hi => ?_, S.cons, S.blt, S.kds, S.exs, S.exms, (fun h => nomatch h), S.facts⟩
  · show relS scope X.env.scope = relS scope c.sc
    rw [S.sc]
  · obtain ⟨f, fd, k, ps, h⟩ := (S.calls h i hi).ex
    exact ⟨f, fd, k, ps, h⟩
/-- a clause's tests -/
def DTs (c : SI) (ifs : List Expr) (tt : TM) : Prop := ∀ (X : Cx) (W : WX), Sta X c → Takes X W → PTs X ifs (tT X.kw X.mg W tt)
def tTrue : TM := fun s => .ok true s
theorem dts_nil {c : SI} : DTs c [] tTrue := fun X W S tk => by
  refine ⟨fun pins s σ H Q I h => ?_⟩
  obtain ⟨ι, F, ps, r, h⟩ := h
  exact wpAny_tests_nil ⟨H, I, h ι F H true Ext.refl r rfl⟩
theorem dts_one {c : SI} {e : Expr} {tt : TM} (h : DT c e tt) : DTs c [e] tt := fun X W S tk => pts_one (h X W S tk)
def notSet : Expr → Bool
  | .Set .. => false
  | _ => true
theorem unfolded {e : Expr} (h : notSet e = true) (env : Env) (x : Value) : foldedSetIterable e env x = pure x := by
  cases e <;> first | rfl | cases h
theorem rComp_read {X : Cx} {W : WX} {own : List Nat} {src : IM} {g : Tg} {tt : TM} {f : EM} {σ : L2.St} {H : Hp} {Q : VK} (hv : ∀ i ∈ g.vars, i ∈ own) (h : tR X.kw X.mg W (rComp own src g tt f) σ H Q) :
    tLc (tO X.kw X.mg W (rI X.kw) src) (tG X.kw X.mg g) (tT X.kw X.mg (fun _ _ _ _ => False) tt) (tE X.kw X.mg (fun _ _ _ _ => False) f) own σ H Q := by
  obtain ⟨ι, F, ps, r, q⟩ := h
  refine ⟨ι, F, ps, r, Sat.seq q fun items ps1 ι1 F1 H1 J e1 r1 hJ s => ?_⟩
  have s : Sat X.kw X.mg W (rR X.kw) σ ι F H (match lcGo (lcTurn g tt (lcElt f) (wipeD ps1.sl own)) items ps1.ob with
    | some (l, ob) => if l.length ≤ sizeLine then .ok (.fl l) { ps1 with ob := ob } else .bad
    | none => .bad) Q := s
  intro L hL
  cases hg : lcGo (lcTurn g tt (lcElt f) (wipeD ps1.sl own)) items ps1.ob with
  | none => rw [hg] at s; exact s.elim
  | some lo =>
    obtain ⟨full, obF⟩ := lo
    rw [hg] at s
    have s : Sat X.kw X.mg W (rR X.kw) σ ι F H (if full.length ≤ sizeLine then .ok (.fl full) { ps1 with ob := obF } else .bad) Q := s
    by_cases hfull : full.length ≤ sizeLine
    · rw [if_pos hfull] at s
      have gr : Grow H1 (upd H1 L (.lst [])) := Grow.upd hL
      obtain ⟨nL, fL⟩ := not_ref r1.ob hL
      refine lc_walk (K := X.kw) (mg := X.mg) (ι1 := ι1) (F1 := F1) (H1 := H1) (ιj := ι1) (Fj := F1) (Hj := H1) (L := L) (sl := wipeD ps1.sl own) (full := full) (obF := obF) (k0 := fun ob => some ([], ob)) (step := lcTurn g tt (lcElt f) (wipeD ps1.sl own)) (items := items) (R := fun σ2 H2 Nx => tT X.kw X.mg (fun _ _ _ _ => False) tt σ2 H2 fun b H3 => if b = true then tE X.kw X.mg (fun _ _ _ _ => False) f σ2 H3 fun y H4 => ∃ acc, H4 L = some (.lst acc) ∧ acc.length < sizeLine ∧ Nx (upd H4 L (.lst (acc ++ [y]))) else Nx H3)
        hJ ?_ ?_ ?_
      · refine ⟨ι1, F1, ps1.ob, [], [], full, Ext.grow gr, (Ext.grow gr).wx, (r1.grow gr).wipe own, upd_same, nL, fL, .nil, ?_, rfl⟩
        simp only [hg, List.append_nil]
      · rintro H' ⟨ι2, F2, ob, acc, xs, l, e2, _, r2, h2, n2, f2, d2, k2, l2⟩
        cases k2
        rw [List.append_nil] at l2
        subst l2
        refine s ι2 F2 H' _ (e1.trans e2) ⟨r2.ob, fun i d hi => ?_, r1.len⟩ ⟨L, xs, rfl, e1.there L hL, n2, f2, h2, d2⟩
        obtain ⟨v, a, b⟩ := r1.sl i d hi
        exact ⟨v, a, b.ext e2⟩
      · intro d k H' x ι2 F2 ob acc xs l p q2 e2 w2 r2 h2 n2 f2 d2 dx hp hk hq hl
        unfold lcTurn at hp
        cases h3 : g.put d (wipeD ps1.sl own) with
        | none => rw [h3] at hp; cases hp
        | some sl1 =>
          rw [h3] at hp
          have hp : (match tt ⟨sl1, ob⟩ with
            | .ok true s1 => lcElt f s1
            | .ok false s1 => some ([], s1.ob)
            | _ => none) = some p := hp
          refine ⟨ι2, F2, ⟨wipeD ps1.sl own, ob⟩, d, sl1, r2, dx, h3, fun σ3 r3 hw => ⟨by rw [hw own hv, wipe_idem], ι2, F2, ⟨sl1, ob⟩, r3, ?_⟩⟩
          cases h4 : tt ⟨sl1, ob⟩ with
          | bad => rw [h4] at hp; cases hp
          | ex _ _ => rw [h4] at hp; cases hp
          | ok b s1 =>
            intro ι4 F4 H4 b' e4 r4 hb
            have hb : b' = b := hb
            subst hb
            obtain ⟨hL4, hf4, hn4⟩ := e4.stays h2 f2 n2
            have hb4 : ∀ i d, (wipeD ps1.sl own)[i]? = some (some d) → ∃ v, (wipe σ own)[i]? = some (some v) ∧ Den X.kw ι4 F4 H4 v d := fun i d hi => by
              obtain ⟨v, a, b⟩ := r2.sl i d hi
              exact ⟨v, a, b.ext e4⟩
            rw [h4] at hp
            cases b' with
            | true =>
              rw [if_pos rfl]
              exact lc_app hL hfull (e2.trans e4) (w2.trans e4.wx) r4 hb4 r2.len hL4 hn4 hf4 (d2.ext e4) hp hk hq hl
            | false =>
              rw [if_neg Bool.false_ne_true]
              cases hp
              exact ⟨ι4, F4, s1.ob, acc, xs, q2.1, e2.trans e4, w2.trans e4.wx, ⟨r4.ob, hb4, r2.len⟩, hL4, hn4, hf4, d2.ext e4, by rw [hk, ← hq], by rw [← hl]; simp⟩
    · rw [if_neg hfull] at s; exact s.elim
theorem dr_comp {c : SI} {elt tg iter : Expr} {ifs : List Expr} {scope : Scope} {own : List (Str × Nat)} {pos : Pos} {src : IM} {g : Tg} {tt : TM} {f : EM} (hc : c.calm = true) (hi : DI c tg iter src) (ok : blkC c.N c.sc scope own = true) (hg : DG (c.blk scope) tg g) (hv : (g.vars.all fun i => (own.map (·.2)).contains i) = true)
    (ht : DTs (c.blk scope) ifs tt) (he : DE (c.blk scope) elt f) (hs : notSet iter = true) : DR c (.ListComp elt [⟨tg, iter, ifs, 0⟩] scope pos) (rComp (own.map (·.2)) src g tt f) := fun X W S tk => by
  refine (pe_lc (g := tG X.kw X.mg g) (tt := tT X.kw X.mg (fun _ _ _ _ => False) tt) (te := tE X.kw X.mg (fun _ _ _ _ => False) f) (S.calm hc) (by rw [S.N]; exact S.nd) (hi X W S tk) (own := own) (by rw [S.N, S.sc]; exact blkOk_by ok) (fun s H C cl fp => hg _ (S.blk s H scope C cl fp)) (fun s H C cl fp => ht _ _ (S.blk s H scope C cl fp) takes0) (fun s H C cl fp => he _ _ (S.blk s H scope C cl fp) takes0) (unfolded hs _)).imp fun σ H Q h => ?_
  exact rComp_read (by simpa using hv) h
end Cut
end
section
/-! CutStmt: statements. -/
namespace Cut
open PySem PySem.Spec PyProof.Rows L2

/-- how a statement ends -/
inductive Fl where
  | nx | bk | ct | rt (r : Rv) | rto (n : Nat)
abbrev SM := PSt → Out Fl
def SSat (K : KW) (mg : Str → Option Value) (W : WX) (E : Ends) (ι : List Addr) (F : Addr → Prop) (H : Hp) (o : Out Fl) : Prop :=
  match o with
  | .ok .nx ps' => ∀ ι' F' H' σ', Ext ι F H ι' F' H' → Rel K mg ι' F' ps' σ' H' → E.nx σ' H'
  | .ok .bk ps' => ∀ ι' F' H' σ', Ext ι F H ι' F' H' → Rel K mg ι' F' ps' σ' H' → E.bk σ' H'
  | .ok .ct ps' => ∀ ι' F' H' σ', Ext ι F H ι' F' H' → Rel K mg ι' F' ps' σ' H' → E.ct σ' H'
  | .ok (.rt r) ps' => ∀ ι' F' H' v, Ext ι F H ι' F' H' → ORel K mg ι' F' ps'.ob H' → DenR K ι' F' H H' v r → E.rt v H'
  | .ok (.rto n) ps' => ∀ ι' F' H' a, Ext ι F H ι' F' H' → ORel K mg ι' F' ps'.ob H' → ι'[n]? = some a → E.rt (.ref a) H'
  | .ex x ps' => ∀ ι' F' H' σ' cls dd, Ext ι F H ι' F' H' → Rel K mg ι' F' ps' σ' H' → DenX K mg ι' F' H' cls dd x → W cls dd σ' H'
  | .bad => False
def tS (K : KW) (mg : Str → Option Value) (W : WX) (f : SM) : TS := fun E σ H => ∃ ι F ps, Rel K mg ι F ps σ H ∧ SSat K mg W E ι F H (f ps)
section
variable {K : KW} {mg : Str → Option Value} {ι ι' ι1 : List Addr} {F F' F1 : Addr → Prop} {H H' H1 : Hp} {ps : PSt} {σ : L2.St} {W : WX} {E E1 : Ends}
theorem SSat.on {o : Out Fl} (s : SSat K mg W E ι F H o) (e : Ext ι F H ι' F' H') : SSat K mg W E ι' F' H' o := by
  cases o with
  | ok a ps' =>
    cases a with
    | nx => exact fun ι2 F2 H2 σ2 e2 r => s ι2 F2 H2 σ2 (e.trans e2) r
    | bk => exact fun ι2 F2 H2 σ2 e2 r => s ι2 F2 H2 σ2 (e.trans e2) r
    | ct => exact fun ι2 F2 H2 σ2 e2 r => s ι2 F2 H2 σ2 (e.trans e2) r
    | rt r => exact fun ι2 F2 H2 v e2 o d => s ι2 F2 H2 v (e.trans e2) o (d.weak e.there)
    | rto n => exact fun ι2 F2 H2 a e2 o d => s ι2 F2 H2 a (e.trans e2) o d
  | ex x ps' => exact fun ι2 F2 H2 σ2 cls dd e2 r h => s ι2 F2 H2 σ2 cls dd (e.trans e2) r h
  | bad => exact s
/-- an expression ahead -/
theorem SSat.exp {α β : Type} {R : List Addr → (Addr → Prop) → Hp → Hp → β → α → Prop} {o : Out α} {g : α → PSt → Out Fl} {Q1 : β → Hp → Prop} (s : SSat K mg W E ι F H (o.bind g))
    (k : ∀ a ps1 ι1 F1 H1 b, Ext ι F H ι1 F1 H1 → Rel K mg ι1 F1 ps1 σ H1 → R ι1 F1 H H1 b a → SSat K mg W E ι F H (g a ps1) → Q1 b H1) : Sat K mg W R σ ι F H o Q1 := by
  cases o with
  | ok a ps' => exact fun ι1 F1 H1 b e r h => k a ps' ι1 F1 H1 b e r h s
  | ex x ps' => exact fun ι1 F1 H1 cls dd e r h => s ι1 F1 H1 σ cls dd e r h
  | bad => exact s
end
def DS (c : SI) (st : Stmt) (f : SM) : Prop := ∀ (X : Cx) (W : WX), Sta X c → Takes X W → PassesOwn (model X.prog X.w) X.A X.env X.xe → PS X st (tS X.kw X.mg W f)
def DSs (c : SI) (st : List Stmt) (f : SM) : Prop := ∀ (X : Cx) (W : WX), Sta X c → Takes X W → PassesOwn (model X.prog X.w) X.A X.env X.xe → PSs X st (tS X.kw X.mg W f)

def sBad : SM := fun _ => .bad
def sPass : SM := fun s => .ok .nx s
def sBk : SM := fun s => .ok .bk s
def sCt : SM := fun s => .ok .ct s
def sSeq (f g : SM) : SM := fun s => (f s).bind fun fl s1 => match fl with
  | .nx => g s1
  | fl => .ok fl s1
theorem ds_bad {c : SI} {st : Stmt} : DS c st sBad := fun X W S tk hp => ps_never.imp fun E σ H h => by
  obtain ⟨ι, F, ps, r, h⟩ := h
  exact h
theorem dss_bad {c : SI} {st : List Stmt} : DSs c st sBad := fun X W S tk hp => pss_never.imp fun E σ H h => by
  obtain ⟨ι, F, ps, r, h⟩ := h
  exact h
theorem pass_read {K : KW} {mg : Str → Option Value} {W : WX} {E : Ends} {σ : L2.St} {H : Hp} (h : tS K mg W sPass E σ H) : E.nx σ H := by
  obtain ⟨ι, F, ps, r, h⟩ := h
  exact h ι F H σ Ext.refl r
theorem ds_pass {c : SI} {pos : Pos} : DS c (.Pass pos) sPass := fun X W S tk hp => ps_pass.imp fun E σ H h => pass_read h
theorem ds_doc {c : SI} {x j pos pos'} : DS c (.Expr (.Constant (.str x) j pos) pos') sPass := fun X W S tk hp => ps_doc.imp fun E σ H h => pass_read h
theorem ds_break {c : SI} {pos : Pos} : DS c (.Break pos) sBk := fun X W S tk hp => ps_break.imp fun E σ H h => by
  obtain ⟨ι, F, ps, r, h⟩ := h
  exact h ι F H σ Ext.refl r
theorem ds_continue {c : SI} {pos : Pos} : DS c (.Continue pos) sCt := fun X W S tk hp => ps_continue.imp fun E σ H h => by
  obtain ⟨ι, F, ps, r, h⟩ := h
  exact h ι F H σ Ext.refl r
theorem dss_nil {c : SI} : DSs c [] sPass := fun X W S tk hp => pss_nil.imp fun E σ H h => pass_read h
theorem seq_read {K : KW} {mg : Str → Option Value} {W : WX} {f g : SM} {E : Ends} {σ : L2.St} {H : Hp} (h : tS K mg W (sSeq f g) E σ H) : tS K mg W f { E with nx := tS K mg W g E } σ H := by
  obtain ⟨ι, F, ps, r, h⟩ := h
  refine ⟨ι, F, ps, r, ?_⟩
  unfold sSeq at h
  cases ef : f ps with
  | bad => rw [ef] at h; exact h
  | ex x s => rw [ef] at h; exact h
  | ok fl s1 =>
    rw [ef] at h
    cases fl with
    | nx =>
      have h : SSat K mg W E ι F H (g s1) := h
      exact fun ι' F' H' σ' e r' => ⟨ι', F', s1, r', h.on e⟩
    | bk => exact h
    | ct => exact h
    | rt r => exact h
    | rto n => exact h
theorem dss_cons {c : SI} {st : Stmt} {rest : List Stmt} {f g : SM} (h1 : DS c st f) (h2 : DSs c rest g) : DSs c (st :: rest) (sSeq f g) := fun X W S tk hp =>
  (pss_cons (h1 X W S tk hp) (h2 X W S tk hp)).imp fun E σ H h => seq_read h
theorem dss_one {c : SI} {st : Stmt} {f : SM} (h1 : DS c st f) : DSs c [st] f := fun X W S tk hp => pss_one (h1 X W S tk hp)

/-! ### stores -/
/-- a new object of its own -/
def eOwn (f : RM) : EM := fun s => (f s).bind fun r s1 => match r with
  | .val d => .ok d s1
  | .fl l => .ok (.ob s1.ob.length) { s1 with ob := s1.ob ++ [some (.lst l)] }
  | .fd ks vs => .ok (.ob s1.ob.length) { s1 with ob := s1.ob ++ [some (.dct ks vs)] }
section
variable {K : KW} {mg : Str → Option Value} {ι ι' ι1 ι0 : List Addr} {F F' F1 F0 : Addr → Prop} {H H' H1 H0 : Hp} {ps : PSt} {σ : L2.St} {W : WX} {E E1 : Ends}
theorem Ext.push (e : Ext ι0 F0 H0 ι F H) {p : Addr} (h0 : H0 p = none) : Ext ι0 F0 H0 (ι ++ [p]) F H := by
  refine ⟨?_, e.fro, e.newF, e.keep, e.tups, e.frzs, e.there⟩
  obtain ⟨t, rfl, ht⟩ := e.pre
  refine ⟨t ++ [p], by simp, fun a ha => ?_⟩
  rcases List.mem_append.mp ha with h | h
  · exact ht a h
  · simp only [List.mem_singleton] at h
    subst h
    exact h0
mutual
theorem Den.push {p : Addr} : ∀ {v : V} {d : D}, Den K ι F H v d → Den K (ι ++ [p]) F H v d
  | _, _, .non => .non
  | _, _, .bl b => .bl b
  | _, _, .int i => .int i
  | _, _, .str x => .str x
  | _, _, .tup h hs => .tup h (Dens.push hs)
  | _, _, .lst h hs => .lst h (Dens.push hs)
  | _, _, .scr h hs => .scr h (Dens.push hs)
  | _, _, .dct h h1 h2 => .dct h (Dens.push h1) (Dens.push h2)
  | _, _, .set h => .set h
  | _, _, .tbl h k h1 h2 => .tbl h k (Dens.push h1) (Dens.push h2)
  | _, _, .ob h => .ob (by rw [List.getElem?_append_left (List.getElem?_eq_some_iff.mp h).1]; exact h)
theorem Dens.push {p : Addr} : ∀ {vs : List V} {ds : List D}, Dens K ι F H vs ds → Dens K (ι ++ [p]) F H vs ds
  | _, _, .nil => .nil
  | _, _, .cons h hs => .cons (Den.push h) (Dens.push hs)
end
theorem DenO.push {p a : Addr} {o : Ob} (h : DenO K mg ι F H a o) : DenO K mg (ι ++ [p]) F H a o := by
  cases o with
  | lst ds => obtain ⟨xs, h1, h2⟩ := h; exact ⟨xs, h1, h2.push⟩
  | dct ks vs => obtain ⟨kvs, h1, h2, h3⟩ := h; exact ⟨kvs, h1, h2.push, h3.push⟩
  | ins C fs => obtain ⟨cC, dx, xs, h0, h1, h2, h3⟩ := h; exact ⟨cC, dx, xs, h0, h1, h2, h3.push⟩
theorem ORel.push {ob : Obs} {p : Addr} {o : Ob} (r : ORel K mg ι F ob H) (hp : H p ≠ none) (hn : p ∉ ι) (hf : ¬ F p) (h : DenO K mg ι F H p o) : ORel K mg (ι ++ [p]) F (ob ++ [some o]) H := by
  refine ⟨by simp [r.len], ?_, fun n o' hn' => ?_, r.use, fun a ha => ?_⟩
  · rw [List.nodup_append]
    exact ⟨r.nd, by simp, fun a ha b hb e => by simp only [List.mem_singleton] at hb; subst hb; subst e; exact hn ha⟩
  · by_cases hl : n < ob.length
    · rw [List.getElem?_append_left hl] at hn'
      obtain ⟨a, h1, h2, h3⟩ := r.obs n o' hn'
      exact ⟨a, by rw [List.getElem?_append_left (by rw [r.len]; exact hl)]; exact h1, h2, h3.push⟩
    · rw [List.getElem?_append_right (by omega)] at hn'
      have hz : n - ob.length = 0 := by
        have := (List.getElem?_eq_some_iff.mp hn').1
        simp only [List.length_singleton] at this
        omega
      rw [hz] at hn'
      simp only [List.getElem?_cons_zero, Option.some.injEq] at hn'
      subst hn'
      exact ⟨p, by rw [List.getElem?_append_right (by rw [r.len]; omega), r.len, hz]; rfl, hf, h.push⟩
  · rcases List.mem_append.mp ha with ha | ha
    · exact r.used a ha
    · simp only [List.mem_singleton] at ha
      subst ha
      exact hp
theorem Rel.push {p : Addr} {o : Ob} (r : Rel K mg ι F ps σ H) (hp : H p ≠ none) (hn : p ∉ ι) (hf : ¬ F p) (h : DenO K mg ι F H p o) : Rel K mg (ι ++ [p]) F { ps with ob := ps.ob ++ [some o] } σ H :=
  ⟨r.ob.push hp hn hf h, fun i d hi => let ⟨v, h1, h2⟩ := r.sl i d hi; ⟨v, h1, h2.push⟩, r.len⟩
theorem own_read {f : RM} {Q : VK} (h : tE K mg W (eOwn f) σ H Q) : tR K mg W f σ H Q := by
  obtain ⟨ι, F, ps, r, q⟩ := h
  refine ⟨ι, F, ps, r, Sat.seq q fun a ps1 ι1 F1 H1 b e1 r1 h1 s => ?_⟩
  cases a with
  | val d => exact s ι1 F1 H1 b e1 r1 h1
  | fl ds =>
    obtain ⟨p, xs, rfl, h0, hn, hf, hp, hd⟩ := h1
    refine s (ι1 ++ [p]) F1 H1 _ (e1.push h0) (r1.push (by rw [hp]; simp) hn hf ⟨xs, hp, hd⟩) (.ob ?_)
    rw [← r1.ob.len]; simp
  | fd ks vs =>
    obtain ⟨p, kvs, rfl, h0, hn, hf, hp, hk, hv⟩ := h1
    refine s (ι1 ++ [p]) F1 H1 _ (e1.push h0) (r1.push (by rw [hp]; simp) hn hf ⟨kvs, hp, hk, hv⟩) (.ob ?_)
    rw [← r1.ob.len]; simp
theorem frz_read {f : RM} {Q : VK} (h : tE K mg W (eFrz f) σ H Q) : tR K mg W f σ H Q := by
  obtain ⟨ι, F, ps, r, q⟩ := h
  refine ⟨ι, F, ps, r, ?_⟩
  refine Sat.seq q fun a ps1 ι1 F1 H1 b e1 r1 h1 s => ?_
  have s : ∀ ι' F' H' b, Ext ι F H ι' F' H' → Rel K mg ι' F' ps1 σ H' → Den K ι' F' H' b a.toD → Q b H' := s
  cases a with
  | val d => exact s ι1 F1 H1 b e1 r1 h1
  | fl ds =>
    obtain ⟨p, xs, rfl, h0, hn, hf, hp, hd⟩ := h1
    refine s ι1 (Cut.fz F1 p) H1 _ (e1.frz h0) (r1.frz (by rw [hp]; simp) hn) (.lst ⟨.inr rfl, hp⟩ hd.fz)
  | fd ks vs =>
    obtain ⟨p, kvs, rfl, h0, hn, hf, hp, hk, hv⟩ := h1
    exact s ι1 (Cut.fz F1 p) H1 _ (e1.frz h0) (r1.frz (by rw [hp]; simp) hn) (.dct ⟨kvs, .inr rfl, hp, rfl, rfl⟩ hk.fz hv.fz)
end
theorem DR.own {c : SI} {e : Expr} {f : RM} (h : DR c e f) : DE c e (eOwn f) := fun X W S tk => (h X W S tk).imp fun σ H Q q => own_read q
/-- no comprehension: nothing is kept back of its value -/
def notComp : Expr → Bool
  | .ListComp .. => false
  | .SetComp .. => false
  | .DictComp .. => false
  | _ => true
theorem swaps_not {e : Expr} (h : notComp e = true) (t : Option Expr) (l : Nat) (env : Env) : swapsWith e t l env = pure false := by
  cases e <;> first | rfl | cases h
def sSet (i : Nat) (f : EM) : SM := fun s => (f s).bind fun d s1 => .ok .nx { s1 with sl := s1.sl.set i (some d) }
theorem set_read {K : KW} {mg : Str → Option Value} {W : WX} {i : Nat} {f : EM} {E : Ends} {σ : L2.St} {H : Hp} (h : tS K mg W (sSet i f) E σ H) : tE K mg W f σ H fun v H1 => E.nx (σ.set i (some v)) H1 := by
  obtain ⟨ι, F, ps, r, h⟩ := h
  refine ⟨ι, F, ps, r, SSat.exp h fun d ps1 ι1 F1 H1 v e1 r1 d1 s => ?_⟩
  exact s ι1 F1 H1 _ e1 (r1.put d1)
def Loc1 (c : SI) (x : Str) : Prop := c.sc.names.lookup x = some .local ∨ (c.sc.names.lookup x = some .cell ∧ c.fn x = true)
theorem Loc1.loc {X : Cx} {c : SI} {x : Str} (S : Sta X c) (h : Loc1 c x) : Loc X.env.scope x := by rw [S.sc]; exact h.imp id (·.1)
theorem Loc1.fn {X : Cx} {c : SI} {x : Str} (S : Sta X c) (h : Loc1 c x) : X.fn x = true ∨ X.env.scope.names.lookup x = some .local := by
  rw [S.sc]
  rcases h with h | h
  · exact .inr h
  · exact .inl (S.fn x h.2)
theorem ds_set {c : SI} {x : Str} {i : Nat} {e : Expr} {f : EM} {pos pos' : Pos} (hi : c.N[i]? = some x) (hx : Loc1 c x) (he : DE c e f) (hn : notComp e = true) : DS c (.Assign [.Name x pos'] e pos) (sSet i f) := fun X W S tk hp =>
  (ps_set (i := i) (by rw [S.N]; exact S.nd) (by rw [S.N]; exact hi) (hx.loc S) (he X W S tk) (swaps_not hn _ _ _) (hx.fn S)).imp fun E σ H h => set_read h
/-- x = [..]: on one line (the store is swapped with the fall of the block's names) -/
def plainDisp : Expr → Bool
  | .ListComp .. => true
  | _ => false
theorem ds_setC {c : SI} {y : Str} {i : Nat} {elt tg iter : Expr} {ifs : List Expr} {scope : Scope} {own : List (Str × Nat)} {pos py spos : Pos} {src : IM} {g : Tg} {tt : TM} {fe : EM} {op : RM → EM}
    (hop : op = eFrz ∨ op = eOwn) (hj : c.N[i]? = some y) (hy : c.sc.names.lookup y = some .local) (hk : c.sc.kind = .function) (hln : (py.line == pos.line) = true) (hany : (scope.names.any fun (n, k) => n == y && (k == .local || k == .cell)) = false)
    (hc : c.calm = true) (hi : DI c tg iter src) (ok : blkC c.N c.sc scope own = true) (hg : DG (c.blk scope) tg g) (hv : (g.vars.all fun i => (own.map (·.2)).contains i) = true)
    (ht : DTs (c.blk scope) ifs tt) (he : DE (c.blk scope) elt fe) (hs : notSet iter = true) :
    DS c (.Assign [.Name y py] (.ListComp elt [⟨tg, iter, ifs, 0⟩] scope pos) spos) (sSet i (op (rComp (own.map (·.2)) src g tt fe))) := fun X W S tk hp => by
  refine (ps_setLc (g := tG X.kw X.mg g) (tt := tT X.kw X.mg (fun _ _ _ _ => False) tt) (te := tE X.kw X.mg (fun _ _ _ _ => False) fe) (S.calm hc) (by rw [S.N]; exact S.nd) (by rw [S.N]; exact hj) (by rw [S.sc]; exact hy)
    (sw_true (by rw [S.sc]; exact hk) (by rw [S.sc]; exact hy) hln hany) (hi X W S tk) (own := own) (by rw [S.N, S.sc]; exact blkOk_by ok) (fun s H C cl fp => hg _ (S.blk s H scope C cl fp)) (fun s H C cl fp => ht _ _ (S.blk s H scope C cl fp) takes0) (fun s H C cl fp => he _ _ (S.blk s H scope C cl fp) takes0) (unfolded hs _)).imp fun E σ H h => ?_
  have h2 := set_read h
  have h3 : tR X.kw X.mg W (rComp (own.map (·.2)) src g tt fe) σ H fun v H1 => E.nx (σ.set i (some v)) H1 := by
    rcases hop with rfl | rfl
    · exact frz_read h2
    · exact own_read h2
  exact rComp_read (by simpa using hv) h3
/-- to a tuple of names -/
def sAsg (t : Tg) (f : EM) : SM := fun s => (f s).bind fun d s1 => match t.put d s1.sl with
  | some sl => .ok .nx { s1 with sl := sl }
  | none => .bad
def notTup : Expr → Bool
  | .Tuple .. => false
  | _ => true
theorem noStores {e : Expr} (h : notTup e = true) (ts : List Expr) (env : Env) : swappedStores ts e env = pure none := by
  unfold swappedStores
  cases e <;> first
    | (cases h; done)
    | (split
       · rename_i hh
         split at hh <;> first | (rename_i hz; cases hz; done) | cases hh
       · rfl)
theorem sole_tup {es : List Expr} {k : Nat} {p : Pos} (e : Expr) (l : Nat) (env : Env) : swapsWithSole [.Tuple es k p] e l env = pure false := by
  cases e <;> rfl
theorem ds_asg {c : SI} {es : List Expr} {k : Nat} {t : Tg} {p pos : Pos} {e : Expr} {f : EM} (he : DE c e f) (hg : DG c (.Tuple es k p) t) (hn : notTup e = true) : DS c (.Assign [.Tuple es k p] e pos) (sAsg t f) := fun X W S tk hp =>
  (ps_asg (he X W S tk) (hg X S) (sole_tup e _ _) (noStores hn _ _) (by rfl)).imp fun E σ H h => by
    obtain ⟨ι, F, ps, r, h⟩ := h
    refine ⟨ι, F, ps, r, SSat.exp h fun d ps1 ι1 F1 H1 v e1 r1 d1 s => ?_⟩
    cases hp : t.put d ps1.sl with
    | none => rw [hp] at s; exact s.elim
    | some sl =>
      rw [hp] at s
      exact ⟨ι1, F1, ps1, d, sl, r1, d1, hp, fun σ' r' _ => s ι1 F1 H1 σ' e1 r'⟩

/-! ### if, return, expressions -/
def sIf (tt : TM) (f g : SM) : SM := fun s => (tt s).bind fun b s1 => if b then f s1 else g s1
theorem ds_if {c : SI} {e : Expr} {a b : List Stmt} {tt : TM} {f g : SM} {pos : Pos} (ht : DT c e tt) (ha : DSs c a f) (hb : DSs c b g) : DS c (.If e a b pos) (sIf tt f g) := fun X W S tk hp =>
  (ps_if (ht X W S tk) (ha X W S tk hp) (hb X W S tk hp)).imp fun E σ H h => by
    obtain ⟨ι, F, ps, r, h⟩ := h
    refine ⟨ι, F, ps, r, SSat.exp h fun d ps1 ι1 F1 H1 v e1 r1 d1 s => ?_⟩
    have d1 : v = d := d1
    subst d1
    cases v with
    | true => exact ⟨ι1, F1, ps1, r1, s.on e1⟩
    | false => exact ⟨ι1, F1, ps1, r1, s.on e1⟩
def sRet (f : RM) : SM := fun s => (f s).bind fun r s1 => .ok (.rt r) s1
def sRetO (f : EM) : SM := fun s => (f s).bind fun d s1 => match d with
  | .ob n => .ok (.rto n) s1
  | d => .ok (.rt (.val d)) s1
def sRetN : SM := fun s => .ok (.rt (.val .non)) s
theorem ds_ret {c : SI} {e : Expr} {f : RM} {pos : Pos} (h : DR c e f) : DS c (.Return (some e) pos) (sRet f) := fun X W S tk hp => (ps_ret (h X W S tk)).imp fun E σ H h => by
  obtain ⟨ι, F, ps, r, h⟩ := h
  exact ⟨ι, F, ps, r, SSat.exp h fun d ps1 ι1 F1 H1 v e1 r1 d1 s => s ι1 F1 H1 v e1 r1.ob d1⟩
theorem ds_retO {c : SI} {e : Expr} {f : EM} {pos : Pos} (h : DE c e f) : DS c (.Return (some e) pos) (sRetO f) := fun X W S tk hp => (ps_ret (h X W S tk)).imp fun E σ H h => by
  obtain ⟨ι, F, ps, r, h⟩ := h
  refine ⟨ι, F, ps, r, SSat.exp h fun d ps1 ι1 F1 H1 v e1 r1 d1 s => ?_⟩
  cases d1 with
  | ob hn => exact s ι1 F1 H1 _ e1 r1.ob hn
  | set h1 => exact s ι1 F1 H1 _ e1 r1.ob (.set h1)
  | tbl h k h1 h2 => exact s ι1 F1 H1 _ e1 r1.ob (.tbl h k h1 h2)
  | non => exact s ι1 F1 H1 _ e1 r1.ob .non
  | bl b => exact s ι1 F1 H1 _ e1 r1.ob (.bl b)
  | int b => exact s ι1 F1 H1 _ e1 r1.ob (.int b)
  | str b => exact s ι1 F1 H1 _ e1 r1.ob (.str b)
  | tup h1 h2 => exact s ι1 F1 H1 _ e1 r1.ob (.tup h1 h2)
  | lst h1 h2 => exact s ι1 F1 H1 _ e1 r1.ob (.lst h1 h2)
  | scr h1 h2 => exact s ι1 F1 H1 _ e1 r1.ob (.scr h1 h2)
  | dct h1 h2 h3 => exact s ι1 F1 H1 _ e1 r1.ob (.dct h1 h2 h3)
theorem ds_retN {c : SI} {pos : Pos} : DS c (.Return none pos) sRetN := fun X W S tk hp => ps_retN.imp fun E σ H h => by
  obtain ⟨ι, F, ps, r, h⟩ := h
  exact h ι F H .non Ext.refl r.ob .non
def sExp (f : RM) : SM := fun s => (f s).bind fun _ s1 => .ok .nx s1
theorem ds_exp {c : SI} {e : Expr} {f : RM} {pos : Pos} (h : DR c e f) (hn : notComp e = true) : DS c (.Expr e pos) (sExp f) := fun X W S tk hp => (ps_expr (h X W S tk) (swaps_not hn _ _ _)).imp fun E σ H h => by
  obtain ⟨ι, F, ps, r, h⟩ := h
  exact ⟨ι, F, ps, r, SSat.exp h fun d ps1 ι1 F1 H1 v e1 r1 d1 s => s ι1 F1 H1 σ e1 r1⟩

/-! ### loops -/
def forGo (t : Tg) (f : SM) : List D → PSt → Out Fl
  | [], s => .ok .nx s
  | d :: ds, s => match t.put d s.sl with
    | none => .bad
    | some sl => (f { s with sl := sl }).bind fun fl s1 => match fl with
      | .nx => forGo t f ds s1
      | .ct => forGo t f ds s1
      | .bk => .ok .nx s1
      | .rt r => .ok (.rt r) s1
      | .rto n => .ok (.rto n) s1
def sFor (src : IM) (t : Tg) (f : SM) : SM := fun s => (src s).bind fun items s1 => forGo t f items s1
theorem ds_for {c : SI} {tg iter : Expr} {body : List Stmt} {src : IM} {t : Tg} {f : SM} {pos : Pos} (hc : c.calm = true) (hi : DI c tg iter src) (hg : DG c tg t) (hb : DSs c body f) (hs : notSet iter = true) : DS c (.For tg iter body [] pos) (sFor src t f) := fun X W S tk hp =>
  (ps_for hp (S.calm hc) (hi X W S tk) (hg X S) (hb X W S tk hp) (unfolded hs _)).imp fun E σ H h => by
    obtain ⟨ι, F, ps, r, h⟩ := h
    refine ⟨ι, F, ps, r, SSat.exp h fun items ps1 ι1 F1 H1 J e1 r1 hJ s => ?_⟩
    have s := s.on e1
    refine ⟨fun i m σ H => m = items.length - i ∧ i ≤ items.length ∧ ∃ ι F ps, Ext ι1 F1 H1 ι F H ∧ Rel X.kw X.mg ι F ps σ H ∧ SSat X.kw X.mg W E ι F H (forGo t f (items.drop i) ps), ⟨items.length, by simp, Nat.zero_le _, ι1, F1, ps1, Ext.refl, r1, s⟩, ?_⟩
    rintro i m σ2 H2 ⟨rfl, hi, ι2, F2, ps2, e2, r2, s2⟩
    obtain ⟨j1, j2⟩ := hJ ι2 F2 H2 e2.wx
    by_cases hlt : i < items.length
    · have hg : items[i]? = some items[i] := List.getElem?_eq_getElem hlt
      obtain ⟨y1, y2⟩ := j1 i _ hg
      have hdrop : items.drop i = items[i] :: items.drop (i + 1) := List.drop_eq_getElem_cons hlt
      rw [hdrop] at s2
      refine .inr ⟨y1, fun σ3 H3 => ∃ ι F ps, Ext ι1 F1 H1 ι F H3 ∧ Rel X.kw X.mg ι F ps σ3 H3 ∧ SSat X.kw X.mg W E ι F H3 (forGo t f (items.drop (i + 1)) ps), fun σ' H' p' => ⟨items.length - (i + 1), by omega, rfl, hlt, p'⟩, fun x H' y => ?_⟩
      obtain ⟨gr, dn⟩ := y2 x H' y
      unfold forGo at s2
      cases hput : t.put items[i] ps2.sl with
      | none => rw [hput] at s2; exact s2.elim
      | some sl =>
        rw [hput] at s2
        have s2 := s2.on (Ext.grow gr)
        refine ⟨ι2, F2, ps2, items[i], sl, r2.grow gr, dn, hput, fun σ' r' _ => ?_⟩
        refine ⟨ι2, F2, { ps2 with sl := sl }, r', ?_⟩
        have eG := e2.trans (Ext.grow gr)
        cases hf : f { ps2 with sl := sl } with
        | bad => simp only [hf, Out.bind] at s2; exact s2
        | ex z s3 => simp only [hf, Out.bind] at s2; exact s2
        | ok fl s3 =>
          simp only [hf, Out.bind] at s2
          cases fl with
          | nx => exact fun ι' F' H3 σ3 e3 r3 => ⟨ι', F', s3, eG.trans e3, r3, s2.on e3⟩
          | ct => exact fun ι' F' H3 σ3 e3 r3 => ⟨ι', F', s3, eG.trans e3, r3, s2.on e3⟩
          | bk => exact s2
          | rt r => exact s2
          | rto n => exact s2
    · have e3 : i = items.length := by omega
      subst e3
      rw [List.drop_length] at s2
      exact .inl ⟨j2, s2 ι2 F2 H2 σ2 Ext.refl r2⟩
def whileGo (tt : TM) (f : SM) : Nat → PSt → Out Fl
  | 0, _ => .bad
  | n + 1, s => (tt s).bind fun b s1 => if b then (f s1).bind fun fl s2 => (match fl with
      | .nx => whileGo tt f n s2
      | .ct => whileGo tt f n s2
      | .bk => .ok .nx s2
      | .rt r => .ok (.rt r) s2
      | .rto m => .ok (.rto m) s2) else .ok .nx s1
/-- turns enough for any loop here -/
def fuel : Nat := 2 ^ 100
def sWhile (n : Nat) (tt : TM) (f : SM) : SM := whileGo tt f n
theorem ds_while {c : SI} {e : Expr} {body : List Stmt} {n : Nat} {tt : TM} {f : SM} {pos : Pos} (ht : DT c e tt) (hb : DSs c body f) : DS c (.While e body [] pos) (sWhile n tt f) := fun X W S tk hp =>
  (ps_while hp (ht X W S tk) (hb X W S tk hp)).imp fun E σ H h => by
    obtain ⟨ι, F, ps, r, h⟩ := h
    refine ⟨fun m σ H => ∃ ι F ps, Rel X.kw X.mg ι F ps σ H ∧ SSat X.kw X.mg W E ι F H (whileGo tt f m ps), ⟨n, ι, F, ps, r, h⟩, ?_⟩
    rintro m σ2 H2 ⟨ι2, F2, ps2, r2, s2⟩
    cases m with
    | zero => exact s2.elim
    | succ m =>
      refine ⟨ι2, F2, ps2, r2, SSat.exp s2 fun d ps1 ι1 F1 H1 v e1 r1 d1 s => ?_⟩
      have d1 : v = d := d1
      subst d1
      cases v with
      | false => exact s ι1 F1 H1 σ2 e1 r1
      | true =>
        rw [if_pos rfl]
        refine ⟨fun σ3 H3 => ∃ ι F ps, Rel X.kw X.mg ι F ps σ3 H3 ∧ SSat X.kw X.mg W E ι F H3 (whileGo tt f m ps), fun σ' H' p' => ⟨m, Nat.lt_succ_self _, p'⟩, ι1, F1, ps1, r1, ?_⟩
        have s := s.on e1
        simp only [if_true] at s
        cases hf : f ps1 with
        | bad => simp only [hf, Out.bind] at s; exact s
        | ex z s3 => simp only [hf, Out.bind] at s; exact s
        | ok fl s3 =>
          simp only [hf, Out.bind] at s
          cases fl with
          | nx => exact fun ι' F' H3 σ3 e3 r3 => ⟨ι', F', s3, r3, s.on e3⟩
          | ct => exact fun ι' F' H3 σ3 e3 r3 => ⟨ι', F', s3, r3, s.on e3⟩
          | bk => exact s
          | rt r => exact s
          | rto n => exact s
end Cut
end
section
/-! CutMut: objects of the store change; methods. -/
namespace Cut
open PySem PySem.Spec PyProof.Rows L2

section
variable {K : KW} {mg : Str → Option Value} {ι ι' ι1 ι0 : List Addr} {F F' F1 F0 : Addr → Prop} {H H' H1 H0 : Hp} {ps : PSt} {σ : L2.St} {W : WX} {E E1 : Ends} {ob : Obs} {n : Nat} {a : Addr}
theorem nodup_at : ∀ {l : List Addr} {i j : Nat} {x : Addr}, l.Nodup → l[i]? = some x → l[j]? = some x → i = j
  | [], _, _, _, _, h, _ => by simp at h
  | a :: l, 0, 0, _, _, _, _ => rfl
  | a :: l, 0, j + 1, x, hn, h1, h2 => by
    simp only [List.getElem?_cons_zero, Option.some.injEq] at h1
    subst h1
    exact absurd (List.mem_of_getElem? (by simpa using h2)) (List.nodup_cons.mp hn).1
  | a :: l, i + 1, 0, x, hn, h1, h2 => by
    simp only [List.getElem?_cons_zero, Option.some.injEq] at h2
    subst h2
    exact absurd (List.mem_of_getElem? (by simpa using h1)) (List.nodup_cons.mp hn).1
  | a :: l, i + 1, j + 1, x, hn, h1, h2 => congrArg (· + 1) (nodup_at (List.nodup_cons.mp hn).2 (by simpa using h1) (by simpa using h2))
theorem Ext.chg {o u : HO} (h1 : ι[n]? = some a) (hf : ¬ F a) (ho : H a = some o) (ht : ∀ xs, o ≠ .tup xs) (hz : ∀ oo w, o ≠ .frz oo w) : Ext ι F H ι F (upd H a u) := by
  have hm := List.mem_of_getElem? h1
  refine ⟨⟨[], by simp, by simp⟩, fun _ h => h, fun _ h => .inl h, fun b o' h hx => ?_, fun b xs h => ?_, fun b oo w h => ?_, fun b h => ?_⟩
  · have : b ≠ a := fun z => by
      subst z
      rcases hx with hx | hx
      · exact hx hm
      · exact hf hx
    rw [upd_ne this]; exact h
  · have : b ≠ a := fun z => by rw [z, ho] at h; cases h; exact ht _ rfl
    rw [upd_ne this]; exact h
  · have : b ≠ a := fun z => by rw [z, ho] at h; cases h; exact hz _ _ rfl
    rw [upd_ne this]; exact h
  · by_cases z : b = a
    · subst z; rw [upd_same] at h; cases h
    · rw [upd_ne z] at h; exact h
theorem ORel.chg {o : Ob} {u : HO} (r : ORel K mg ι F ob H) (h1 : ι[n]? = some a) (e : Ext ι F H ι F (upd H a u)) (hf : ¬ F a) (ho : DenO K mg ι F (upd H a u) a o) : ORel K mg ι F (ob.set n (some o)) (upd H a u) := by
  have nz : ∀ b, H b ≠ none → upd H a u b ≠ none := fun b hb => by
    by_cases z : b = a
    · subst z; rw [upd_same]; simp
    · rw [upd_ne z]; exact hb
  refine ⟨by simp [r.len], r.nd, fun m o' hm => ?_, fun b h => nz b (r.use b h), fun b h => nz b (r.used b h)⟩
  by_cases hnm : n = m
  · subst hnm
    rw [List.getElem?_set] at hm
    simp only [if_true] at hm
    split at hm
    · cases hm
      exact ⟨a, h1, hf, ho⟩
    · cases hm
  · rw [List.getElem?_set_ne hnm] at hm
    obtain ⟨b, g1, g2, g3⟩ := r.obs m o' hm
    refine ⟨b, g1, g2, g3.ext e ?_⟩
    have : b ≠ a := fun z => by
      subst z
      exact hnm (nodup_at r.nd h1 g1)
    exact upd_ne this
theorem Den.obOf (d : Den K ι F H (.ref a) (.ob n)) : ι[n]? = some a := by cases d; assumption
/-- a list of the store gets new items -/
theorem chg_lst {l l' : List D} {ys : List V} (r : ORel K mg ι F ob H) (h1 : ι[n]? = some a) (hob : ob[n]? = some (some (.lst l))) (hd : Dens K ι F H ys l') :
    Ext ι F H ι F (upd H a (.lst ys)) ∧ ORel K mg ι F (ob.set n (some (.lst l'))) (upd H a (.lst ys)) := by
  obtain ⟨b, g1, g2, xs, g3, g4⟩ := r.obs n _ hob
  have : b = a := by rw [h1] at g1; exact (Option.some.inj g1).symm
  subst this
  have e : Ext ι F H ι F (upd H b (.lst ys)) := Ext.chg h1 g2 g3 (by intro _ z; cases z) (by intro _ _ z; cases z)
  exact ⟨e, r.chg h1 e g2 ⟨ys, upd_same, hd.ext e⟩⟩
theorem chg_dct {ks vs ks' vs' : List D} {kvs : List (Key × V)} (r : ORel K mg ι F ob H) (h1 : ι[n]? = some a) (hob : ob[n]? = some (some (.dct ks vs))) (hk : Dens K ι F H (kvs.map fun p => kV p.1) ks') (hv : Dens K ι F H (kvs.map (·.2)) vs') :
    Ext ι F H ι F (upd H a (.dK kvs)) ∧ ORel K mg ι F (ob.set n (some (.dct ks' vs'))) (upd H a (.dK kvs)) := by
  obtain ⟨b, g1, g2, xs, g3, g4⟩ := r.obs n _ hob
  have : b = a := by rw [h1] at g1; exact (Option.some.inj g1).symm
  subst this
  have e : Ext ι F H ι F (upd H b (.dK kvs)) := Ext.chg h1 g2 g3 (by intro _ z; cases z) (by intro _ _ z; cases z)
  exact ⟨e, r.chg h1 e g2 ⟨kvs, upd_same, hk.ext e, hv.ext e⟩⟩
theorem ob_lst {l : List D} (r : ORel K mg ι F ob H) (h1 : ι[n]? = some a) (hob : ob[n]? = some (some (.lst l))) : ∃ xs, H a = some (.lst xs) ∧ Dens K ι F H xs l ∧ ¬ F a := by
  obtain ⟨b, g1, g2, xs, g3, g4⟩ := r.obs n _ hob
  have : b = a := by rw [h1] at g1; exact (Option.some.inj g1).symm
  subst this
  exact ⟨xs, g3, g4, g2⟩
theorem ob_dct {ks vs : List D} (r : ORel K mg ι F ob H) (h1 : ι[n]? = some a) (hob : ob[n]? = some (some (.dct ks vs))) : ∃ kvs : List (Key × V), H a = some (.dK kvs) ∧ Dens K ι F H (kvs.map fun p => kV p.1) ks ∧ Dens K ι F H (kvs.map (·.2)) vs ∧ ¬ F a := by
  obtain ⟨b, g1, g2, kvs, g3, g4, g5⟩ := r.obs n _ hob
  have : b = a := by rw [h1] at g1; exact (Option.some.inj g1).symm
  subst this
  exact ⟨kvs, g3, g4, g5, g2⟩
theorem Rel.chg {ob' : Obs} (r : Rel K mg ι F ps σ H) (e : Ext ι F H ι' F' H') (o : ORel K mg ι' F' ob' H') : Rel K mg ι' F' { ps with ob := ob' } σ H' := r.call e o

/-! ### an object frozen for good -/
def thawS (n : Nat) (v : D) : Option D → Option D
  | some (.ob m) => if m = n then some v else some (.ob m)
  | x => x
/-- the value of an object of its own, which is never changed again -/
def eFz (f : EM) : EM := fun s => (f s).bind fun d s1 => match d with
  | .ob n => match s1.ob[n]? with
    | some (some (.lst l)) => .ok (.lst l) { sl := s1.sl.map (thawS n (.lst l)), ob := s1.ob.set n none }
    | some (some (.dct ks vs)) => .ok (.dct ks vs) { sl := s1.sl.map (thawS n (.dct ks vs)), ob := s1.ob.set n none }
    | _ => .bad
  | d => .ok d s1
theorem Ext.fzo (h1 : ι[n]? = some a) : Ext ι F H ι (fz F a) H := by
  refine ⟨⟨[], by simp, by simp⟩, fun _ h => .inl h, fun b h => ?_, fun _ _ h _ => h, fun _ _ h => h, fun _ _ _ h => h, fun _ h => h⟩
  rcases h with h | h
  · exact .inl h
  · exact .inr (.inr (by rw [h]; exact List.mem_of_getElem? h1))
theorem ORel.fzo (r : ORel K mg ι F ob H) (h1 : ι[n]? = some a) : ORel K mg ι (fz F a) (ob.set n none) H := by
  refine ⟨by simp [r.len], r.nd, fun m o hm => ?_, fun b h => ?_, r.used⟩
  · by_cases hnm : n = m
    · subst hnm
      rw [List.getElem?_set] at hm
      simp only [if_true] at hm
      split at hm <;> cases hm
    · rw [List.getElem?_set_ne hnm] at hm
      obtain ⟨b, g1, g2, g3⟩ := r.obs m o hm
      refine ⟨b, g1, fun z => ?_, g3.ext (Ext.fzo h1) rfl⟩
      rcases z with z | z
      · exact g2 z
      · subst z
        exact hnm (nodup_at r.nd h1 g1)
  · rcases h with h | h
    · exact r.use b h
    · subst h
      exact r.used b (List.mem_of_getElem? h1)
theorem Rel.thaw {v : D} (r : Rel K mg ι F ps σ H) (h1 : ι[n]? = some a) (hv : Den K ι (fz F a) H (.ref a) v) : Rel K mg ι (fz F a) { sl := ps.sl.map (thawS n v), ob := ps.ob.set n none } σ H := by
  refine ⟨r.ob.fzo h1, fun i d hd => ?_, by simp [r.len]⟩
  rw [List.getElem?_map] at hd
  cases e : ps.sl[i]? with
  | none => rw [e] at hd; cases hd
  | some o =>
    rw [e] at hd
    have hd : thawS n v o = some d := Option.some.inj hd
    have plain : ∀ d', o = some d' → d = d' → ∃ w, σ[i]? = some (some w) ∧ Den K ι (fz F a) H w d := fun d' ho hdd => by
      subst ho hdd
      obtain ⟨w, g1, g2⟩ := r.sl i _ e
      exact ⟨w, g1, g2.fz⟩
    cases o with
    | none => cases hd
    | some d' =>
      cases d' with
      | ob m =>
        have hd : (if m = n then some v else some (.ob m)) = some d := hd
        by_cases hm : m = n
        · rw [if_pos hm] at hd
          cases hd
          subst hm
          obtain ⟨w, g1, g2⟩ := r.sl i _ e
          cases g2 with
          | ob g3 =>
            rw [h1] at g3
            cases g3
            exact ⟨_, g1, hv⟩
        · rw [if_neg hm] at hd
          exact plain _ rfl (Option.some.inj hd).symm
      | _ => exact plain _ rfl (Option.some.inj hd).symm
theorem fz_read {f : EM} {Q : VK} (h : tE K mg W (eFz f) σ H Q) : tE K mg W f σ H Q := by
  obtain ⟨ι, F, ps, r, q⟩ := h
  refine ⟨ι, F, ps, r, Sat.seq q fun d ps1 ι1 F1 H1 b e1 r1 h1 s => ?_⟩
  cases d with
  | ob n =>
    cases h1 with
    | @ob a n hn =>
      simp only at s
      split at s
      · rename_i l hob
        obtain ⟨xs, g1, g2, g3⟩ := ob_lst r1.ob hn hob
        have hv : Den K ι1 (fz F1 a) H1 (.ref a) (.lst l) := .lst ⟨.inr rfl, g1⟩ g2.fz
        exact s ι1 (fz F1 a) H1 _ (e1.trans (Ext.fzo hn)) (r1.thaw hn hv) hv
      · rename_i ks vs hob
        obtain ⟨kvs, g1, g2, g3, g4⟩ := ob_dct r1.ob hn hob
        have hv : Den K ι1 (fz F1 a) H1 (.ref a) (.dct ks vs) := .dct ⟨kvs, .inr rfl, g1, rfl, rfl⟩ g2.fz g3.fz
        exact s ι1 (fz F1 a) H1 _ (e1.trans (Ext.fzo hn)) (r1.thaw hn hv) hv
      · exact s.elim
  | _ => exact s ι1 F1 H1 b e1 r1 h1
end
theorem DE.fz {c : SI} {e : Expr} {f : EM} (h : DE c e f) : DE c e (eFz f) := fun X W S tk => (h X W S tk).imp fun σ H Q q => fz_read q

/-! ### o[i] = e -/
/-- the dict with this value under this key -/
def hasK (key : Key) (ks : List D) : Bool := ks.any fun k => decide (keyD k = some key)
def putVs (key : Key) (v : D) : List D → List D → List D
  | k :: ks, w :: ws => (if keyD k = some key then v else w) :: putVs key v ks ws
  | _, _ => []
def putD (key : Key) (kd v : D) (ks vs : List D) : List D × List D := if hasK key ks then (ks, putVs key v ks vs) else (ks ++ [kd], vs ++ [v])
def setO (o i v : D) (ob : Obs) : Option Obs := match o with
  | .ob n => match ob[n]? with
    | some (some (.lst l)) => match i with
      | .int k => (ixN l.length k).map fun j => ob.set n (some (.lst (l.set j v)))
      | _ => none
    | some (some (.dct ks vs)) => match keyD i with
      | some key => if ks.length < sizeLine then some (ob.set n (some (.dct (putD key i v ks vs).1 (putD key i v ks vs).2))) else none
      | none => none
    | _ => none
  | _ => none
def sPut (fo fi fe : EM) : SM := fun s => (fe s).bind fun v s1 => (fo s1).bind fun o s2 => (fi s2).bind fun i s3 => match setO o i v s3.ob with
  | some ob => .ok .nx { s3 with ob := ob }
  | none => .bad
theorem Den.key {K : KW} {ι : List Addr} {F : Addr → Prop} {H : Hp} {v : V} {d : D} {k : Key} (h : Den K ι F H v d) (e : keyD d = some k) : v = kV k := by
  cases h <;> first | (cases e; rfl; done) | cases e
theorem hasK_den {K : KW} {ι : List Addr} {F : Addr → Prop} {H : Hp} (key : Key) : ∀ {kvs : List (Key × V)} {ks : List D}, Dens K ι F H (kvs.map fun p => kV p.1) ks → hasK key ks = kvs.any fun kv => decide (kv.1 = key)
  | [], _, h1 => by
    have h1 : Dens K ι F H [] _ := h1
    cases h1; rfl
  | (k, w) :: kvs, _, h1 => by
    have h1 : Dens K ι F H (kV k :: kvs.map fun p => kV p.1) _ := h1
    cases h1 with
    | cons a1 b1 =>
      have ih := hasK_den key b1
      unfold hasK at ih ⊢
      rw [List.any_cons, List.any_cons, ih, keyD_of a1]
      simp
theorem putVs_den {K : KW} {ι : List Addr} {F : Addr → Prop} {H : Hp} {key : Key} {v : V} {vd : D} (hv : Den K ι F H v vd) : ∀ {kvs : List (Key × V)} {ks vs : List D}, Dens K ι F H (kvs.map fun p => kV p.1) ks → Dens K ι F H (kvs.map (·.2)) vs →
    Dens K ι F H ((kvs.map fun kv => if kv.1 = key then (kv.1, v) else kv).map fun p => kV p.1) ks ∧ Dens K ι F H ((kvs.map fun kv => if kv.1 = key then (kv.1, v) else kv).map (·.2)) (putVs key vd ks vs)
  | [], _, _, h1, h2 => by
    have h1 : Dens K ι F H [] _ := h1
    cases h1
    exact ⟨.nil, .nil⟩
  | (k, w) :: kvs, _, _, h1, h2 => by
    have h1 : Dens K ι F H (kV k :: kvs.map fun p => kV p.1) _ := h1
    have h2 : Dens K ι F H (w :: kvs.map (·.2)) _ := h2
    cases h1 with
    | cons a1 b1 =>
      cases h2 with
      | cons a2 b2 =>
        obtain ⟨p1, p2⟩ := putVs_den (key := key) hv b1 b2
        have ek := keyD_of a1
        simp only [List.map_cons, putVs]
        rw [ek]
        by_cases e : k = key
        · subst e
          simp only [if_true]
          exact ⟨.cons a1 p1, .cons hv p2⟩
        · rw [if_neg e, if_neg (fun z => e (Option.some.inj z))]
          exact ⟨.cons a1 p1, .cons a2 p2⟩
theorem putK_den {K : KW} {ι : List Addr} {F : Addr → Prop} {H : Hp} {key : Key} {v : V} {kd vd : D} (hk : Den K ι F H (kV key) kd) (hv : Den K ι F H v vd) {kvs : List (Key × V)} {ks vs : List D} (h1 : Dens K ι F H (kvs.map fun p => kV p.1) ks) (h2 : Dens K ι F H (kvs.map (·.2)) vs) :
    Dens K ι F H ((putK kvs key v).map fun p => kV p.1) (putD key kd vd ks vs).1 ∧ Dens K ι F H ((putK kvs key v).map (·.2)) (putD key kd vd ks vs).2 := by
  have hk' := hasK_den key h1
  unfold putD putK
  rw [hk']
  cases hb : kvs.any fun kv => decide (kv.1 = key) with
  | true => exact putVs_den hv h1 h2
  | false =>
    simp only [Bool.false_eq_true, if_false, List.map_append, List.map_cons, List.map_nil]
    exact ⟨h1.append (.cons hk .nil), h2.append (.cons hv .nil)⟩
def rSetA : TSet := fun o i v H Q => rSetL o i v H Q ∨ rSetD o i v H Q
theorem set_any {X : Cx} (hu : X.A.units + 1 < cLine) : PSet X rSetA := by
  intro pins s σ H o i v ov iv u Q I ro ri rv h
  rcases h with h | h
  · exact set_list pins s σ H o i v ov iv u Q I ro ri rv h
  · exact set_dict hu pins s σ H o i v ov iv u Q I ro ri rv h
def plainSl : Expr → Bool
  | .Slice .. => false
  | _ => true
theorem assign_sub {o i : Expr} {pos : Pos} {env : Env} (h : plainSl i = true) : ∀ v, assign (.Subscript o i pos) env v = (do
      let ov ← holding [v] (eval o env)
      let iv ← holding [v, ov] (eval i env)
      standAt pos
      holding [v, ov, iv] (setItem ov iv v)
      release [v, ov, iv] []) := by
  intro v
  cases i <;> first | rfl | cases h
theorem swapsSub {o i : Expr} {p : Pos} (e : Expr) (l : Nat) (env : Env) : swapsWithSole [.Subscript o i p] e l env = pure false := by
  cases e <;> rfl
theorem storesSub {o i : Expr} {p : Pos} (e : Expr) (env : Env) : swappedStores [.Subscript o i p] e env = pure none := by
  cases e <;> rfl
theorem ds_put {c : SI} {o i e : Expr} {fo fi fe : EM} {p pos : Pos} (hc : c.calm = true) (ho : DE c o fo) (hi : DE c i fi) (he : DE c e fe) (hp : plainSl i = true) : DS c (.Assign [.Subscript o i p] e pos) (sPut fo fi fe) := fun X W S tk hpo =>
  (ps_asg (he X W S tk) (pg_sub (ho X W S tk) (hi X W S tk) (set_any (by have := (S.room hc).un; omega)) (assign_sub hp)) (swapsSub e _ _) (storesSub e _) (by rfl)).imp fun E σ H h => by
    obtain ⟨ι, F, ps, r, h⟩ := h
    refine ⟨ι, F, ps, r, SSat.exp h fun v ps1 ι1 F1 H1 w e1 r1 d1 s => ?_⟩
    refine ⟨ι1, F1, ps1, r1, SSat.exp (s.on e1) fun od ps2 ι2 F2 H2 ov e2 r2 d2 s => ?_⟩
    refine ⟨ι2, F2, ps2, r2, SSat.exp (s.on e2) fun id ps3 ι3 F3 H3 iv e3 r3 d3 s => ?_⟩
    have s := s.on e3
    cases hs : setO od id v ps3.ob with
    | none => rw [hs] at s; exact s.elim
    | some ob' =>
      rw [hs] at s
      have s : ∀ ι' F' H' σ', Ext ι3 F3 H3 ι' F' H' → Rel X.kw X.mg ι' F' { ps3 with ob := ob' } σ' H' → E.nx σ' H' := s
      unfold setO at hs
      split at hs
      · rename_i n
        have d2 := d2.ext e3
        cases d2 with
        | @ob a n hn =>
          split at hs
          · rename_i l hob
            split at hs
            · rename_i k
              cases d3
              obtain ⟨xs, g1, g2, g3⟩ := ob_lst r3.ob hn hob
              cases hj : ixN l.length k with
              | none => rw [hj] at hs; cases hs
              | some j =>
                rw [hj] at hs; cases hs
                obtain ⟨eC, oC⟩ := chg_lst r3.ob hn hob (g2.set j ((d1.ext e2).ext e3))
                exact .inl ⟨a, xs, k, j, rfl, rfl, g1, by rw [g2.length]; exact hj, s ι3 F3 _ σ eC (r3.chg eC oC)⟩
            · cases hs
          · rename_i ks vs hob
            split at hs
            · rename_i key hkey
              split at hs
              · rename_i hlen
                cases hs
                obtain ⟨kvs, g1, g2, g3, g4⟩ := ob_dct r3.ob hn hob
                have hik := d3.key hkey
                subst hik
                obtain ⟨p1, p2⟩ := putK_den d3 ((d1.ext e2).ext e3) g2 g3
                obtain ⟨eC, oC⟩ := chg_dct r3.ob hn hob p1 p2
                refine .inr ⟨a, _, rfl, .inl ⟨kvs, key, g1, rfl, ?_, rfl⟩, s ι3 F3 _ σ eC (r3.chg eC oC)⟩
                have := g2.length
                rw [List.length_map] at this
                omega
              · cases hs
            · cases hs
          · cases hs
      · cases hs

/-! ### x op= e, ints -/
def sAug (i : Nat) (g : Int → Int → Int) (f : EM) : SM := fun s => match s.sl[i]? with
  | some (some (.int a)) => (f s).bind fun d s1 => match d with
    | .int b => .ok .nx { s1 with sl := s1.sl.set i (some (.int (g a b))) }
    | _ => .bad
  | _ => .bad
theorem ds_aug {c : SI} {x : Str} {i : Nat} {e : Expr} {f : EM} {op : Operator} {g : Int → Int → Int} {pos pos' : Pos} (ho : ∀ X, PIp X op (ipI g)) (hi : c.N[i]? = some x) (hx : Loc1 c x) (he : DE c e f) : DS c (.AugAssign (.Name x pos') op e pos) (sAug i g f) := fun X W S tk hp =>
  (ps_aug (i := i) (by rw [S.N]; exact S.nd) (by rw [S.N]; exact hi) (hx.loc S) (he X W S tk) (ho X) (hx.fn S)).imp fun E σ H h => by
    obtain ⟨ι, F, ps, r, h⟩ := h
    unfold sAug at h
    split at h
    · rename_i a hsl
      obtain ⟨v, h1, h2⟩ := r.sl i _ hsl
      cases h2
      refine ⟨_, h1, ι, F, ps, r, SSat.exp h fun d ps1 ι1 F1 H1 w e1 r1 d1 s => ?_⟩
      split at s
      · cases d1
        exact ⟨_, _, rfl, rfl, s ι1 F1 H1 _ e1 (r1.put (.int _))⟩
      · exact s.elim
    · exact h.elim

/-! ### methods of built-in types -/
def tyD (T : String) (d : D) (ob : Obs) : Bool := match d with
  | .lst _ => T == "list"
  | .scr _ => T == "list"
  | .str _ => T == "str"
  | .dct _ _ => T == "dict"
  | .ob n => match ob[n]? with
    | some (some (.lst _)) => T == "list"
    | some (some (.dct _ _)) => T == "dict"
    | _ => false
  | _ => false
theorem tyD_ok {K : KW} {mg : Str → Option Value} {ι : List Addr} {F : Addr → Prop} {H : Hp} {T : String} {d : D} {ob : Obs} {v : V} (r : ORel K mg ι F ob H) (h : Den K ι F H v d) (hd : H = H) (e : tyD T d ob = true) : tyV K T v H := by
  unfold tyD at e
  cases h with
  | lst h1 h2 => exact .inl ⟨by simpa using e, _, .inl (.inl h1.2)⟩
  | scr h1 h2 => exact .inl ⟨by simpa using e, _, h1.sq⟩
  | str z => exact (by simpa using e : T = "str")
  | dct h1 h2 h3 =>
    obtain ⟨kvs, f, h1, _⟩ := h1
    exact .inr (.inr (.inl ⟨by simpa using e, .inl ⟨kvs, h1⟩⟩))
  | ob hn =>
    simp only at e
    split at e
    · rename_i l hob
      obtain ⟨xs, g1, g2, g3⟩ := ob_lst r hn hob
      exact .inl ⟨by simpa using e, _, .inl (.inl g1)⟩
    · rename_i ks vs hob
      obtain ⟨kvs, g1, g2, g3, g4⟩ := ob_dct r hn hob
      exact .inr (.inr (.inl ⟨by simpa using e, .inl ⟨kvs, g1⟩⟩))
    · cases e
  | _ => cases e
abbrev ME := D → List D → Obs → Option (Rv × Obs)
def MethOK (X : Cx) (id : String) (M : ME) : Prop := ∀ (pins : List (Addr × Obj)) (s : Shared) (σ : L2.St) (H : Hp) (x : V) (xs : List V) (v : Value) (us : List Value) (Q : VK) (ι : List Addr) (F : Addr → Prop) (ob : Obs) (d : D) (ds : List D) (r : Rv) (ob' : Obs),
  Inv X pins σ H s → RelV x v → Vals xs us → ORel X.kw X.mg ι F ob H → Den X.kw ι F H x d → Dens X.kw ι F H xs ds → M d ds ob = some (r, ob') →
  (∀ ι' F' H' w, Ext ι F H ι' F' H' → ORel X.kw X.mg ι' F' ob' H' → DenR X.kw ι' F' H H' w r → Q w H') → wpAny (model X.prog X.w) X.A (call (.builtin id) (v :: us)) (EP X pins σ Q) X.xe s
def rMeth (T : String) (M : ME) (fo : EM) (as : AM) : RM := fun s => (fo s).bind fun d s1 => if tyD T d s1.ob then (as s1).bind fun ds s2 => match M d ds s2.ob with
  | some (r, ob) => .ok r { s2 with ob := ob }
  | none => .bad
  else .bad
def notCall : Expr → Bool
  | .Call _ (_ :: _) _ _ => true
  | .Call .. => false
  | _ => true
theorem base_of {o : Expr} {a : Str} {env : Env} (h : notCall o = true) : attributeBase o a env (eval o env) = eval o env := by
  cases o with
  | Call f args kws p =>
    cases args with
    | nil => cases h
    | cons x xs => cases f <;> rfl
  | _ => first | rfl | cases h
theorem few_of (pos : Pos) : ∀ {es : List Expr} {env : Env}, es.all plainArg = true → (backTo pos (starEach es env)).all (fun x => !x.1) = true ∧ (backTo pos (starEach es env)).any (·.1) = false
  | [], _, _ => ⟨rfl, rfl⟩
  | e :: es, env, h => by
    simp only [List.all_cons, Bool.and_eq_true] at h
    obtain ⟨h1, h2⟩ := few_of pos (env := env) h.2
    rw [starEach_plain h.1]
    simp only [backTo, List.map_cons] at h1 h2 ⊢
    simp only [List.all_cons, List.any_cons, h1, h2]
    exact ⟨rfl, rfl⟩
def rMethR (X : Cx) (M : ME) : V → List V → Hp → VK → Prop := fun x xs H Q => ∃ ι F ob d ds r ob', ORel X.kw X.mg ι F ob H ∧ Den X.kw ι F H x d ∧ Dens X.kw ι F H xs ds ∧ M d ds ob = some (r, ob') ∧ (∀ ι' F' H' w, Ext ι F H ι' F' H' → ORel X.kw X.mg ι' F' ob' H' → DenR X.kw ι' F' H H' w r → Q w H')
theorem MethOK.r {X : Cx} {id : String} {M : ME} (h : MethOK X id M) : MtR X id (rMethR X M) := by
  intro pins s σ H x xs v us Q I rx rxs hq
  obtain ⟨ι, F, ob, d, ds, r, ob', h1, h2, h3, h4, h5⟩ := hq
  exact h pins s σ H x xs v us Q ι F ob d ds r ob' I rx rxs h1 h2 h3 h4 h5
theorem dr_meth {c : SI} {o e : Expr} {es : List Expr} {T id : String} {name : Str} {M : ME} {fo : EM} {as : AM} {apos cpos : Pos} (pa : PlainAttrs T) (slot : Slot T name id) (hty : typeOf (.builtin id) = pure (.type "method_descriptor")) (hm : ∀ X, Sta X c → MethOK X id M)
    (ho : DE c o fo) (ha : DA c (e :: es) as) (hb : notCall o = true) (hp : (e :: es).all plainArg = true) (hl : decide ((e :: es).length < 30) = true) (hline : (apos.endLine == cpos.line) = true) :
    DR c (.Call (.Attribute o name apos) (e :: es) [] cpos) (rMeth T M fo as) := fun X W S tk => by
  have hp1 : plainArg e = true := by rw [List.all_cons, Bool.and_eq_true] at hp; exact hp.1
  have hp2 : es.all plainArg = true := by rw [List.all_cons, Bool.and_eq_true] at hp; exact hp.2
  refine (pe_bm pa slot hty (hm X S).r (ho X W S tk) (ha X W S tk) (base_of hb) ?_ hline (starEach_plain hp1) (few_of cpos hp2).2).imp fun σ H Q h => ?_
  · rw [(few_of cpos hp).1]
    simp only [decide_eq_true_eq] at hl
    simp only [keywordEach, backToKw, Bool.true_and, List.map_nil, List.all_nil, List.isEmpty_nil, if_true, List.length_nil, Nat.add_zero]
    exact decide_eq_true hl
  · obtain ⟨ι, F, ps, r, q⟩ := h
    refine ⟨ι, F, ps, r, Sat.seq q fun d ps1 ι1 F1 H1 x e1 r1 d1 s => ?_⟩
    cases ht : tyD T d ps1.ob with
    | false => rw [ht] at s; exact s.elim
    | true =>
      rw [ht] at s
      refine ⟨tyD_ok r1.ob d1 rfl ht, ι1, F1, ps1, r1, Sat.seq (Sat.on rR_mono s e1) fun ds ps2 ι2 F2 H2 xs e2 r2 d2 s => ?_⟩
      cases hM : M d ds ps2.ob with
      | none => rw [hM] at s; exact s.elim
      | some ro =>
        obtain ⟨rr, ob'⟩ := ro
        rw [hM] at s
        exact ⟨ι2, F2, ps2.ob, d, ds, rr, ob', r2.ob, d1.ext e2, d2, hM, fun ι' F' H' w e' o' dr => s ι' F' H' w (e2.trans e') (r2.call e' o') (dr.weak e2.there)⟩
theorem dr_meth0 {c : SI} {o : Expr} {T id : String} {name : Str} {M : ME} {fo : EM} {apos cpos : Pos} (pa : PlainAttrs T) (slot : Slot T name id) (hty : typeOf (.builtin id) = pure (.type "method_descriptor")) (hm : ∀ X, Sta X c → MethOK X id M)
    (ho : DE c o fo) (hb : notCall o = true) (hline : (apos.endLine == cpos.line) = true) : DR c (.Call (.Attribute o name apos) [] [] cpos) (rMeth T M fo aNil) := fun X W S tk => by
  refine (pe_bm0 pa slot hty (hm X S).r (ho X W S tk) (base_of hb) hline).imp fun σ H Q h => ?_
  obtain ⟨ι, F, ps, r, q⟩ := h
  refine ⟨ι, F, ps, r, Sat.seq q fun d ps1 ι1 F1 H1 x e1 r1 d1 s => ?_⟩
  cases ht : tyD T d ps1.ob with
  | false => rw [ht] at s; exact s.elim
  | true =>
    rw [ht] at s
    refine ⟨tyD_ok r1.ob d1 rfl ht, ?_⟩
    have s : Sat X.kw X.mg W (rR X.kw) σ ι F H (match M d [] ps1.ob with
      | some (r, ob) => .ok r { ps1 with ob := ob }
      | none => .bad) Q := s
    cases hM : M d [] ps1.ob with
    | none => rw [hM] at s; exact s.elim
    | some ro =>
      obtain ⟨rr, ob'⟩ := ro
      rw [hM] at s
      exact ⟨ι1, F1, ps1.ob, d, [], rr, ob', r1.ob, d1, .nil, hM, fun ι' F' H' w e' o' dr => s ι' F' H' w (e1.trans e') (r1.call e' o') (dr.weak e1.there)⟩

/-! the list methods that change -/
section
variable {X : Cx}
def appendM : ME := fun o ds ob => match o, ds with
  | .ob n, [d] => match ob[n]? with
    | some (some (.lst l)) => if l.length < sizeLine then some (.val .non, ob.set n (some (.lst (l ++ [d])))) else none
    | _ => none
  | _, _ => none
theorem meth_append : MethOK X "list.append" appendM := by
  intro pins s σ H x xs v us Q ι F ob d ds r ob' I rx rxs ro hx hxs hm q
  unfold appendM at hm
  split at hm
  · rename_i n d
    cases hx with
    | @ob a n hn =>
      cases hxs with
      | cons h1 h2 =>
        cases h2
        split at hm
        · rename_i l hob
          split at hm
          · rename_i hl
            cases hm
            obtain ⟨ys, g1, g2, g3⟩ := ob_lst ro hn hob
            obtain ⟨eC, oC⟩ := chg_lst ro hn hob (g2.append (.cons h1 .nil))
            exact mt_append pins s σ H _ _ v us Q I rx rxs ⟨a, ys, _, rfl, rfl, g1, by rw [g2.length]; exact hl, q _ _ _ _ eC oC .non⟩
          · cases hm
        · cases hm
  · cases hm
def extendM : ME := fun o ds ob => match o, ds with
  | .ob n, [.lst m] => match ob[n]? with
    | some (some (.lst l)) => if l.length + m.length ≤ sizeLine then some (.val .non, ob.set n (some (.lst (l ++ m)))) else none
    | _ => none
  | _, _ => none
theorem meth_extend : MethOK X "list.extend" extendM := by
  intro pins s σ H x xs v us Q ι F ob d ds r ob' I rx rxs ro hx hxs hm q
  unfold extendM at hm
  split at hm
  · rename_i n m
    cases hx with
    | @ob a n hn =>
      cases hxs with
      | cons h1 h2 =>
        cases h2
        cases h1 with
        | @lst b zs m h3 h4 =>
        split at hm
        · rename_i l hob
          split at hm
          · rename_i hl
            cases hm
            obtain ⟨ys, g1, g2, g3⟩ := ob_lst ro hn hob
            obtain ⟨eC, oC⟩ := chg_lst ro hn hob (g2.append h4)
            exact mt_extend pins s σ H _ _ v us Q I rx rxs ⟨a, b, ys, zs, rfl, rfl, g1, h3.2, by rw [g2.length, h4.length]; exact hl, q _ _ _ _ eC oC .non⟩
          · cases hm
        · cases hm
  · cases hm
def clearM : ME := fun o ds ob => match o, ds with
  | .ob n, [] => match ob[n]? with
    | some (some (.lst l)) => some (.val .non, ob.set n (some (.lst [])))
    | _ => none
  | _, _ => none
theorem meth_clear : MethOK X "list.clear" clearM := by
  intro pins s σ H x xs v us Q ι F ob d ds r ob' I rx rxs ro hx hxs hm q
  unfold clearM at hm
  split at hm
  · rename_i n
    cases hx with
    | @ob a n hn =>
      cases hxs
      split at hm
      · rename_i l hob
        cases hm
        obtain ⟨ys, g1, g2, g3⟩ := ob_lst ro hn hob
        obtain ⟨eC, oC⟩ := chg_lst (ys := []) ro hn hob .nil
        exact mt_clear pins s σ H _ _ v us Q I rx rxs ⟨a, ys, rfl, rfl, g1, q _ _ _ _ eC oC .non⟩
      · cases hm
  · cases hm
theorem Dens.dropLast {K : KW} {ι : List Addr} {F : Addr → Prop} {H : Hp} {vs : List V} {ds : List D} (h : Dens K ι F H vs ds) : Dens K ι F H vs.dropLast ds.dropLast := by
  rw [List.dropLast_eq_take, List.dropLast_eq_take, h.length]
  exact h.take _
def popM : ME := fun o ds ob => match o, ds with
  | .ob n, [] => match ob[n]? with
    | some (some (.lst l)) => match l[l.length - 1]? with
      | some d => some (.val d, ob.set n (some (.lst l.dropLast)))
      | none => none
    | _ => none
  | _, _ => none
theorem meth_pop : MethOK X "list.pop" popM := by
  intro pins s σ H x xs v us Q ι F ob d ds r ob' I rx rxs ro hx hxs hm q
  unfold popM at hm
  split at hm
  · rename_i n
    cases hx with
    | @ob a n hn =>
      cases hxs
      split at hm
      · rename_i l hob
        split at hm
        · rename_i d hd
          cases hm
          obtain ⟨ys, g1, g2, g3⟩ := ob_lst ro hn hob
          obtain ⟨eC, oC⟩ := chg_lst ro hn hob g2.dropLast
          obtain ⟨w, hw, dw⟩ := g2.get hd
          exact mt_pop pins s σ H _ _ v us Q I rx rxs ⟨a, ys, w, rfl, rfl, g1, by rw [g2.length]; exact hw, q _ _ _ _ eC oC (dw.ext eC)⟩
        · cases hm
      · cases hm
  · cases hm
/-- the place of the first equal one -/
def findD (d : D) : List D → Nat → Option Nat
  | [], _ => none
  | x :: l, k => if D.eqv x d then some k else findD d l (k + 1)
end
end Cut
end
section
/-! CutDef: a def as a function of data; the law's end. -/
namespace Cut
open PySem PySem.Spec PyProof.Rows L2

mutual
/-- no object of the store from n on -/
def D.under (n : Nat) : D → Bool
  | .ob m => decide (m < n)
  | .tup l => D.unders n l
  | .lst l => D.unders n l
  | .scr l => D.unders n l
  | .dct ks vs => D.unders n ks && D.unders n vs
  | .set _ => true
  | .tbl ks vs => D.unders n ks && D.unders n vs
  | .non => true | .bl _ => true | .int _ => true | .str _ => true
def D.unders (n : Nat) : List D → Bool
  | [] => true
  | d :: l => d.under n && D.unders n l
end
def Ob.under (n : Nat) : Ob → Bool
  | .lst l => D.unders n l
  | .dct ks vs => D.unders n ks && D.unders n vs
  | .ins _ fs => D.unders n (fs.map (·.2))
def obsBelow (n : Nat) (ob : Obs) : Prop := ∀ (m : Nat) (o : Ob), m < n → ob[m]? = some (some o) → o.under n = true
def Rv.under (n : Nat) : Rv → Bool
  | .val d => d.under n
  | .fl l => D.unders n l
  | .fd ks vs => D.unders n ks && D.unders n vs
section
variable {K : KW} {mg : Str → Option Value} {ι t : List Addr} {F F' : Addr → Prop} {H H' : Hp} {ob : Obs}
mutual
theorem Den.trim : ∀ {v : V} {d : D}, Den K (ι ++ t) F H v d → d.under ι.length = true → Den K ι F H v d
  | _, _, .non, _ => .non
  | _, _, .bl b, _ => .bl b
  | _, _, .int i, _ => .int i
  | _, _, .str x, _ => .str x
  | _, _, .tup h hs, b => .tup h (Dens.trim hs (by rw [D.under] at b; exact b))
  | _, _, .lst h hs, b => .lst h (Dens.trim hs (by rw [D.under] at b; exact b))
  | _, _, .scr h hs, b => .scr h (Dens.trim hs (by rw [D.under] at b; exact b))
  | _, _, .dct h h1 h2, b => .dct h (Dens.trim h1 (by rw [D.under, Bool.and_eq_true] at b; exact b.1)) (Dens.trim h2 (by rw [D.under, Bool.and_eq_true] at b; exact b.2))
  | _, _, .set h, _ => .set h
  | _, _, .tbl h k h1 h2, b => .tbl h k (Dens.trim h1 (by rw [D.under, Bool.and_eq_true] at b; exact b.1)) (Dens.trim h2 (by rw [D.under, Bool.and_eq_true] at b; exact b.2))
  | _, _, .ob h, b => .ob (by rw [List.getElem?_append_left (by rw [D.under] at b; exact of_decide_eq_true b)] at h; exact h)
theorem Dens.trim : ∀ {vs : List V} {ds : List D}, Dens K (ι ++ t) F H vs ds → D.unders ι.length ds = true → Dens K ι F H vs ds
  | _, _, .nil, _ => .nil
  | _, _, .cons h hs, b => .cons (Den.trim h (by rw [D.unders, Bool.and_eq_true] at b; exact b.1)) (Dens.trim hs (by rw [D.unders, Bool.and_eq_true] at b; exact b.2))
end
mutual
theorem Den.bel : ∀ {v : V} {d : D}, Den K ι F H v d → d.under ι.length = true
  | _, _, .non => by rw [D.under]
  | _, _, .bl b => by rw [D.under]
  | _, _, .int i => by rw [D.under]
  | _, _, .str x => by rw [D.under]
  | _, _, .tup h hs => by rw [D.under]; exact Dens.bel hs
  | _, _, .lst h hs => by rw [D.under]; exact Dens.bel hs
  | _, _, .scr h hs => by rw [D.under]; exact Dens.bel hs
  | _, _, .dct h h1 h2 => by rw [D.under, Dens.bel h1, Dens.bel h2]; rfl
  | _, _, .set h => by rw [D.under]
  | _, _, .tbl h k h1 h2 => by rw [D.under, Dens.bel h1, Dens.bel h2]; rfl
  | _, _, .ob h => by rw [D.under]; exact decide_eq_true (List.getElem?_eq_some_iff.mp h).1
theorem Dens.bel : ∀ {vs : List V} {ds : List D}, Dens K ι F H vs ds → D.unders ι.length ds = true
  | _, _, .nil => by rw [D.unders]
  | _, _, .cons h hs => by rw [D.unders, Den.bel h, Dens.bel hs]; rfl
end
theorem DenO.bel {a : Addr} {o : Ob} (h : DenO K mg ι F H a o) : o.under ι.length = true := by
  cases o with
  | lst ds => obtain ⟨xs, h1, h2⟩ := h; exact h2.bel
  | dct ks vs => obtain ⟨kvs, h1, h2, h3⟩ := h; rw [Ob.under, h2.bel, h3.bel]; rfl
  | ins C fs => obtain ⟨cC, dx, xs, h0, h1, h2, h3⟩ := h; exact h3.bel
theorem DenO.trim {a : Addr} {o : Ob} (h : DenO K mg (ι ++ t) F H a o) (b : o.under ι.length = true) : DenO K mg ι F H a o := by
  cases o with
  | lst ds => obtain ⟨xs, h1, h2⟩ := h; exact ⟨xs, h1, h2.trim b⟩
  | dct ks vs => obtain ⟨kvs, h1, h2, h3⟩ := h; rw [Ob.under, Bool.and_eq_true] at b; exact ⟨kvs, h1, h2.trim b.1, h3.trim b.2⟩
  | ins C fs => obtain ⟨cC, dx, xs, h0, h1, h2, h3⟩ := h; exact ⟨cC, dx, xs, h0, h1, h2, h3.trim b⟩
theorem ORel.bel (r : ORel K mg ι F ob H) : obsBelow ob.length ob := fun m o _ h => by
  obtain ⟨a, h1, h2, h3⟩ := r.obs m o h
  rw [← r.len]; exact h3.bel
theorem ORel.cut (r : ORel K mg (ι ++ t) F ob H) (b : obsBelow ι.length ob) : ORel K mg ι F (ob.take ι.length) H := by
  refine ⟨?_, (List.nodup_append.mp r.nd).1, fun m o h => ?_, r.use, fun a ha => r.used a (List.mem_append_left _ ha)⟩
  · have := r.len
    simp only [List.length_append] at this
    rw [List.length_take]; omega
  · have hm : m < ι.length := by
      have := (List.getElem?_eq_some_iff.mp h).1
      rw [List.length_take] at this
      omega
    rw [List.getElem?_take_of_lt hm] at h
    obtain ⟨a, h1, h2, h3⟩ := r.obs m o h
    rw [List.getElem?_append_left hm] at h1
    exact ⟨a, h1, h2, h3.trim (b m o hm h)⟩
theorem Ext.cut (e : Ext ι F H (ι ++ t) F' H') : Ext ι F H ι F' H' := ⟨⟨[], by simp, by simp⟩, e.fro, e.newF, e.keep, e.tups, e.frzs, e.there⟩
end

/-! ### a def -/
open Classical in
/-- the objects made within are forgotten: nothing that stays names them -/
noncomputable def leave (ob : Obs) (s : PSt) (ok : Bool) (r : Obs → FOut) : FOut :=
  if s.ob.length = ob.length then r s.ob
  else if ok = true ∧ (s.ob.take ob.length = ob ∨ obsBelow ob.length s.ob) then r (s.ob.take ob.length) else .bad
noncomputable def evDef (k : Nat) (f : SM) : FM := fun ds ob => match f ⟨ds.map some ++ List.replicate k none, ob⟩ with
  | .ok .nx s => leave ob s true (.ok (.val .non))
  | .ok (.rt r) s => leave ob s (r.under ob.length) (.ok r)
  | .ok (.rto m) s => if m < ob.length then leave ob s true (.ok (.val (.ob m))) else match s.ob[m]? with
    | some (some (.lst l)) => leave ob s (D.unders ob.length l) (.ok (.fl l))
    | some (some (.dct ks vs)) => leave ob s (D.unders ob.length ks && D.unders ob.length vs) (.ok (.fd ks vs))
    | _ => .bad
  | .ex x s => leave ob s (D.unders ob.length (x.fs.map (·.2))) (.ex x)
  | _ => .bad
section
variable {K : KW} {mg : Str → Option Value} {ι ι' : List Addr} {F F' : Addr → Prop} {H H' : Hp} {ob : Obs} {s : PSt}
/-- how a def is left: either nothing new, or the new is cut off -/
theorem leave_ok {ok : Bool} {r : Obs → FOut} (r0 : ORel K mg ι F ob H) (e : Ext ι F H ι' F' H') (r1 : ORel K mg ι' F' s.ob H') (hb : leave ob s ok r ≠ .bad) :
    ∃ ob', leave ob s ok r = r ob' ∧ ORel K mg ι F' ob' H' ∧ Ext ι F H ι F' H' ∧ ((ι' = ι ∧ ob' = s.ob) ∨ (ok = true ∧ ∃ t, ι' = ι ++ t)) := by
  obtain ⟨t, rfl, ht⟩ := e.pre
  unfold leave at hb ⊢
  have hl := r0.len
  have hl1 := r1.len
  rw [List.length_append] at hl1
  by_cases h1 : s.ob.length = ob.length
  · rw [if_pos h1]
    have : t = [] := List.eq_nil_of_length_eq_zero (by omega)
    subst this
    rw [List.append_nil] at r1 e
    exact ⟨s.ob, rfl, r1, e, .inl ⟨by simp, rfl⟩⟩
  · rw [if_neg h1] at hb ⊢
    by_cases h2 : ok = true ∧ (s.ob.take ob.length = ob ∨ obsBelow ob.length s.ob)
    · rw [if_pos h2]
      refine ⟨_, rfl, ?_, e.cut, .inr ⟨h2.1, t, rfl⟩⟩
      rw [← hl]
      refine r1.cut ?_
      rcases h2.2 with h3 | h3
      · rw [hl]
        intro m o hm ho
        refine r0.bel m o hm ?_
        rw [← h3, List.getElem?_take_of_lt hm]
        exact ho
      · rw [hl]; exact h3
    · rw [if_neg h2] at hb; exact absurd rfl hb
end
/-- a def's promise from its body's -/
theorem spD_read {K : KW} {mg : Str → Option Value} {n k : Nat} {f : SM} {vs : List V} {H : Hp} {Q : VK} {E : XK} {N : List Str} (hk : N.length = n + k) (h : spD K mg n (evDef k f) vs H Q E) :
    tS K mg (fun cls d _ H => E cls d H) f { nx := fun _ H' => Q .non H', rt := Q } (L2.start N vs) H := by
  obtain ⟨ι, F, ob, ds, hn, r, hd, h⟩ := h
  refine ⟨ι, F, ⟨ds.map some ++ List.replicate k none, ob⟩, ⟨r, fun i d hi => ?_, ?_⟩, ?_⟩
  · have hi : (ds.map some ++ List.replicate k none)[i]? = some (some d) := hi
    by_cases hlt : i < ds.length
    · rw [List.getElem?_append_left (by simpa using hlt), List.getElem?_map] at hi
      cases e : ds[i]? with
      | none => rw [e] at hi; cases hi
      | some d' =>
        rw [e] at hi
        cases hi
        obtain ⟨v, h1, h2⟩ := hd.get e
        have hv : i < vs.length := (List.getElem?_eq_some_iff.mp h1).1
        refine ⟨v, ?_, h2⟩
        unfold L2.start
        rw [List.getElem?_append_left (by simpa using hv), List.getElem?_map, h1]
        rfl
    · rw [List.getElem?_append_right (by simpa using hlt), List.getElem?_replicate] at hi
      split at hi <;> cases hi
  · have := hd.length
    simp only [L2.start, List.length_append, List.length_map, List.length_replicate]
    omega
  · unfold evDef at h
    cases hf : f ⟨ds.map some ++ List.replicate k none, ob⟩ with
    | bad => rw [hf] at h; exact h
    | ex x s =>
      rw [hf] at h
      intro ι' F' H' σ' cls dd e r' hx
      have hb : leave ob s (D.unders ob.length (x.fs.map (·.2))) (.ex x) ≠ .bad := fun z => by simp only [z] at h
      obtain ⟨ob', he, ro, ee, hc⟩ := leave_ok r e r'.ob hb
      simp only [he] at h
      refine h ι F' H' cls dd ee ro ⟨hx.1, ?_⟩
      rcases hx.2 with h0 | ⟨d, xs, h1, h2, h3⟩
      · exact .inl h0
      · refine .inr ⟨d, xs, h1, h2, fun fn z hz => ?_⟩
        obtain ⟨v, g1, g2⟩ := h3 fn z hz
        refine ⟨v, g1, ?_⟩
        rcases hc with ⟨rfl, _⟩ | ⟨hbe, t, rfl⟩
        · exact g2
        · refine g2.trim ?_
          rw [r.len]
          have hmem : z ∈ x.fs.map (·.2) := by
            have : ∀ (l : List (Str × D)), l.lookup fn = some z → z ∈ l.map (·.2) := by
              intro l
              induction l with
              | nil => intro h; cases h
              | cons p l ih =>
                intro h
                rw [List.lookup_cons] at h
                split at h
                · cases h; exact List.mem_cons_self
                · exact List.mem_cons_of_mem _ (ih h)
            exact this _ hz
          have : ∀ (l : List D), D.unders ob.length l = true → z ∈ l → z.under ob.length = true := by
            intro l
            induction l with
            | nil => intro _ h; cases h
            | cons p l ih =>
              intro hb h
              rw [D.unders, Bool.and_eq_true] at hb
              rcases List.mem_cons.mp h with h | h
              · subst h; exact hb.1
              · exact ih hb.2 h
          exact this _ hbe hmem
    | ok fl s =>
      rw [hf] at h
      cases fl with
      | bk => exact h.elim
      | ct => exact h.elim
      | nx =>
        intro ι' F' H' σ' e r'
        have hb : leave ob s true (.ok (.val .non)) ≠ .bad := fun z => by simp only [z] at h
        obtain ⟨ob', he, ro, ee, hc⟩ := leave_ok r e r'.ob hb
        simp only [he] at h
        exact h ι F' H' .non ee ro .non
      | rt rr =>
        intro ι' F' H' v e r' dr
        have hb : leave ob s (rr.under ob.length) (.ok rr) ≠ .bad := fun z => by simp only [z] at h
        obtain ⟨ob', he, ro, ee, hc⟩ := leave_ok r e r' hb
        simp only [he] at h
        refine h ι F' H' v ee ro ?_
        rcases hc with ⟨rfl, _⟩ | ⟨hbe, t, rfl⟩
        · exact dr
        · rw [← r.len] at hbe
          cases rr with
          | val d => exact Den.trim dr hbe
          | fl l =>
            obtain ⟨p, xs, g1, g2, g3, g4, g5, g6⟩ := dr
            exact ⟨p, xs, g1, g2, fun z => g3 (List.mem_append_left _ z), g4, g5, g6.trim hbe⟩
          | fd ks vs =>
            obtain ⟨p, kvs, g1, g2, g3, g4, g5, g6, g7⟩ := dr
            rw [Rv.under, Bool.and_eq_true] at hbe
            exact ⟨p, kvs, g1, g2, fun z => g3 (List.mem_append_left _ z), g4, g5, g6.trim hbe.1, g7.trim hbe.2⟩
      | rto m =>
        intro ι' F' H' a e r' ha
        simp only at h
        by_cases hm : m < ob.length
        · rw [if_pos hm] at h
          have hb : leave ob s true (.ok (.val (.ob m))) ≠ .bad := fun z => by simp only [z] at h
          obtain ⟨ob', he, ro, ee, hc⟩ := leave_ok r e r' hb
          simp only [he] at h
          refine h ι F' H' (.ref a) ee ro (.ob ?_)
          rcases hc with ⟨rfl, _⟩ | ⟨_, t, rfl⟩
          · exact ha
          · rw [List.getElem?_append_left (by rw [r.len]; exact hm)] at ha; exact ha
        · rw [if_neg hm] at h
          obtain ⟨t, rfl, ht⟩ := e.pre
          have hat : a ∈ t := by
            rw [List.getElem?_append_right (by rw [r.len]; omega)] at ha
            exact List.mem_of_getElem? ha
          have hnot : a ∉ ι := fun z => (List.nodup_append.mp r'.nd).2.2 a z a hat rfl
          have hnew := ht a hat
          cases hob : s.ob[m]? with
          | none => simp only [hob] at h
          | some oo =>
            cases oo with
            | none => simp only [hob] at h
            | some o =>
              cases o with
              | ins C fs => simp only [hob] at h
              | lst l =>
                simp only [hob] at h
                obtain ⟨xs, g1, g2, g3⟩ := ob_lst r' ha hob
                have hb : leave ob s (D.unders ob.length l) (.ok (.fl l)) ≠ .bad := fun z => by simp only [z] at h
                obtain ⟨ob', he, ro, ee, hc⟩ := leave_ok r e r' hb
                simp only [he] at h
                refine h ι F' H' (.ref a) ee ro ⟨a, xs, rfl, hnew, hnot, g3, g1, ?_⟩
                rcases hc with ⟨hι, _⟩ | ⟨hbe, _⟩
                · exact absurd (List.mem_append_right ι hat) (by rw [hι]; exact hnot)
                · exact g2.trim (by rw [r.len]; exact hbe)
              | dct ks vs' =>
                simp only [hob] at h
                obtain ⟨kvs, g1, g2, g3, g4⟩ := ob_dct r' ha hob
                have hb : leave ob s (D.unders ob.length ks && D.unders ob.length vs') (.ok (.fd ks vs')) ≠ .bad := fun z => by simp only [z] at h
                obtain ⟨ob', he, ro, ee, hc⟩ := leave_ok r e r' hb
                simp only [he] at h
                refine h ι F' H' (.ref a) ee ro ⟨a, kvs, rfl, hnew, hnot, g4, g1, ?_⟩
                rcases hc with ⟨hι, _⟩ | ⟨hbe, _⟩
                · exact absurd (List.mem_append_right ι hat) (by rw [hι]; exact hnot)
                · rw [Bool.and_eq_true] at hbe
                  exact ⟨g2.trim (by rw [r.len]; exact hbe.1), g3.trim (by rw [r.len]; exact hbe.2)⟩
/-- what a module offers its defs -/
structure ModOk (P : Program) (w : World) (K : PySem.W.Frag) (mg : Str → Option Value) (base : Heap) (k : Nat) (c : SI) : Prop where
  calls : ∀ i ∈ c.fs, ∃ (f : Addr) (fd : FuncData) (j : Nat) (ps : List Str), j ≤ k ∧ mg i.name = some (.ref f) ∧ PySem.W.keepIn K (.ref f) = true ∧ Binds K fd ps [] ∧ ps.length = i.n ∧ FnG P w K mg base j f fd ps (spD ⟨K, w, P⟩ mg i.n i.f)
  cons : ∀ p ∈ c.consts, ∃ u v, mg p.1 = some u ∧ RelV v u ∧ ∀ ι F H, Den ⟨K, w, P⟩ ι F H v p.2
  blt : ∀ x ∈ c.blts, mg x = none
  kds : ∀ p ∈ c.kds, ∃ a, mg p.1 = some (.ref a) ∧ ∀ q ∈ p.2, ∃ v, KDct K w a q.1 v ∧ ∀ ι F H, Den ⟨K, w, P⟩ ι F H v q.2
  exs : ∀ e ∈ c.exs, ExcAt P w K mg base (fun j => j ≤ k) e
  exms : ∀ t ∈ c.exms, ExmAt K mg t
  facts : ∀ φ ∈ c.facts, φ.p P w K mg base (fun j => j ≤ k)
theorem ExcAt.imp {P : Program} {w : World} {K : PySem.W.Frag} {mg : Str → Option Value} {base : Heap} {r1 r2 : Nat → Prop} (h : ∀ j, r1 j → r2 j) {e : Str × Option Str} (x : ExcAt P w K mg base r1 e) : ExcAt P w K mg base r2 e := by
  obtain ⟨n, f⟩ := e
  cases f with
  | none => exact x
  | some f =>
    obtain ⟨C, fI, k, fd, ps, h1, h2, h3, h4, h5, h6, h7, h8, h9⟩ := x
    exact ⟨C, fI, k, fd, ps, h1, h2, h3, h4, h5, h6, h7, h _ h8, h9⟩
theorem fnG_of {P : Program} {w : World} {K : PySem.W.Frag} {mg : Str → Option Value} {base : Heap} {k n m : Nat} {f : Addr} {name qual : Str} {params : Arguments} {body : List Stmt} {scope : Scope} {dV kV doc pm cdv ct oc : Value} {an od : Option Addr}
    {osl : Array (Option Value)} {c : SI} {ps : List Str} {g : SM} (lk : K.lookup f = some ⟨oc, od, .func (PySem.W.fnOf name qual params body scope dV kV doc pm an cdv ct), osl⟩) (hcd : PySem.W.codeIn K cdv qual = true) (S : FnScope c.N ps scope)
    (hc : c.calm = true) (hsc : c.sc = scope) (hm : ModOk P w K mg base k c) (hb : DSs c body g) (hps : ps.length = n) (hN : c.N.length = n + m) :
    FnG P w K mg base (k + 1) f (PySem.W.fnOf name qual params body scope dV kV doc pm an cdv ct) ps (spD ⟨K, w, P⟩ mg n (evDef m g)) := by
  have len : ∀ vs H Q E, spD ⟨K, w, P⟩ mg n (evDef m g) vs H Q E → vs.length = ps.length := fun vs H Q E h => by
    obtain ⟨ι, F, ob, ds, hn, _⟩ := h
    omega
  refine ⟨len, fun A outer s H args us vs Q E hgd hr e0 hb' r hsp => ?_⟩
  have KX : K.In s.heap := e0.mod.kin.keeps fun b o e => (e0.bs b o e).1
  have lim : s.heap.NoLimit := e0.mod.nolimit.keeps fun b o e => (e0.bs b o e).1
  have hkind : ∀ y ∈ ps.zip us, scope.names.lookup y.1 = some .local ∨ (scope.names.lookup y.1 = some .cell ∧ ((cellsFrom (s.heap.objs.size + 1) scope.names []).lookup y.1).isSome = true) := fun y hy => by
    obtain ⟨a, b⟩ := y
    rcases S.par a (List.of_mem_zip hy).1 with q | q
    · exact .inl q
    · exact .inr ⟨q, PySem.W.cellsFrom_some _ _ _ (.inl q)⟩
  refine codeAny_call_function hr.depth (KX _ _ lk) rfl S.co S.gen rfl (PySem.W.codeRec_of KX hcd) (hb' _ _ _ _ ?_)
  refine wpAny_newFunctionEnv_cells S.kind hkind fun env he s1 x => ?_
  subst he
  refine ⟨lim.keeps x.toInCall.keep, codeAny_func ?_⟩
  let X : Cx := cxOf (L2.CX P w) P w K mg base c.N qual scope f cdv A outer s H E
  have I : Inv X [] (L2.start c.N vs) H s1 := inv_start S hr.hd e0 (len _ _ _ _ hsp) r x
  have hrk : Room k X.A := hr.deeper _
  have St : Sta X c := by
    refine ⟨rfl, S.nd, hsc.symm, fun _ _ => rfl, fun _ => rfl, fun _ => hrk.mono (Nat.zero_le _), hgd, fun _ i hi => ⟨?_⟩, hm.cons, hm.blt, hm.kds, fun _ e he => (hm.exs e he).imp fun j hj => hrk.mono hj, hm.exms, fun _ => ⟨rfl, rfl⟩, fun _ φ hφ => φ.mono (fun j hj => hrk.mono hj) (hm.facts φ hφ)⟩
    obtain ⟨f', fd, j, ps', h1, h2, h3, h4, h5, h6⟩ := hm.calls i hi
    exact ⟨f', fd, j, ps', h2, h3, h4, h5, hrk.mono h1, h6⟩
  have tk : Takes X (fun cls d _ H => E cls d H) := takes_of rfl rfl rfl rfl
  have pw : PassesOwn (model P w) X.A X.env X.xe := passes_of (X := X) (K := fun e s'' => L2.CX P w outer H s E e s'') rfl
  refine wpAny_mono ((hb X _ St tk pw).run [] s1 (L2.start c.N vs) H { nx := fun _ H' => Q .non H', rt := Q } I (spD_read hN hsp)) (fun fl s' hs => ?_) fun e s' hs => hs
  have fin : ∀ {σ' : L2.St} {H' : Hp} {v : V} {u : Value}, Inv X [] σ' H' s' → RelV v u → Q v H' → CE outer P w H s Q u s' := fun J rv q => ⟨_, _, J.os, J.bare, J.base, J.hok, rv, q⟩
  match fl, hs with
  | .ret u, hs => exact let ⟨v, σ', H', J, rv, q⟩ := hs; fin J rv q
  | .next, hs => exact let ⟨σ', H', J, q⟩ := hs; fin (v := V.non) (u := Value.none) J rfl q
  | .brk, hs => exact let ⟨_, _, _, q⟩ := hs; q.elim
  | .cont, hs => exact let ⟨_, _, _, q⟩ := hs; q.elim
end Cut
end
section
/-! CutEnd: the law's def, called at the end of the run. -/
namespace Cut
open PySem PySem.Spec PyProof.Rows L2

/-- the script alone is tracked, unless it is of the module's own -/
def scrH (K : PySem.W.Frag) (a : Addr) (o : Obj) (ns : List Int) : Hp := fun b => if b = a ∧ K.lookup a = none then some (.frz o (.lst (ns.map V.int))) else none
theorem scrH_some {K : PySem.W.Frag} {a b : Addr} {o : Obj} {ns : List Int} {u : HO} (h : scrH K a o ns b = some u) : b = a ∧ K.lookup a = none ∧ u = .frz o (.lst (ns.map V.int)) := by
  unfold scrH at h
  split at h
  · rename_i c
    exact ⟨c.1, c.2, (Option.some.inj h).symm⟩
  · cases h
theorem law_callG {P : Program} {w : World} {K : PySem.W.Frag} {mg mb : Str → Option Value} {k m : Nat} {fa a : Addr} {fd : FuncData} {x : Str} {g : SM} {st : Shared} {vs : List Value} {ns : List Int}
    (kin : K.In st.heap) (nsg : st.heap.Ns mainGlobals mg) (nsb : st.heap.Ns builtinsNs mb) (boot : ∀ y : Str, y ≠ "__name__" → mb y = bootBuiltins y) (nl : st.heap.NoLimit) (gen : st.gens = #[])
    (at_ : st.heap.get? a = some { cls := .type "list", data := .seq vs.toArray }) (int : IntsAre vs ns) (len : ns.length ≤ sizeLine) (room : Room k callerA)
    (fn : ∀ base : Heap, K.In base → base.Ns mainGlobals mg → FnG P w K mg base k fa fd [x] (spD ⟨K, w, P⟩ mg 1 (evDef m g))) (bind : ∀ (s : Shared) (u : Value), BindsTo s fd ⟨[u], []⟩ [(x, u)])
    (yes : ∃ ob', evDef m g [.scr (ns.map D.int)] [] = .ok (.val (.bl true)) ob') :
    codeAny (model P w) callerA (.call (.ref fa) ⟨[.ref a], []⟩) (fun r s' => r = .ok (.ret (.bool true)) ∧ OldK st.heap s'.heap ∧ s'.os = st.os ∧ AllBare s'.gens) st := by
  let o : Obj := { cls := .type "list", data := .seq vs.toArray }
  let H : Hp := scrH K a o ns
  have vals : Vals (ns.map V.int) vs := vals_ints int
  have vlen := int.length
  -- an object of the heap that is not the script's list stays in the base
  have stays : ∀ {b : Addr} {u : Obj}, st.heap.get? b = some u → (b = a → K.lookup a ≠ none) → (hidT st.heap H).get? b = some u := fun {b u} e ne => hidT_get e (by
    cases q : H b with
    | none => rfl
    | some z =>
      obtain ⟨h1, h2, _⟩ := scrH_some q
      exact absurd h2 (ne h1))
  have notA : ∀ {b : Addr} {u : Obj} {es : Array DictEntry} {ep : Nat}, st.heap.get? b = some u → u.data = .dict es ep → b = a → K.lookup a ≠ none := fun {b u es ep} e d eb => by
    subst eb
    rw [at_] at e
    cases e
    cases d
  have nsAll : ∀ {b : Addr} {f : Str → Option Value}, st.heap.Ns b f → (hidT st.heap H).Ns b f := fun {b f} h => by
    obtain ⟨u, es, ep, e, d, r⟩ := h
    exact ⟨u, es, ep, stays e (notA e d), d, r⟩
  have kinB : K.In (hidT st.heap H) := fun b u e => stays (kin b u e) fun eb => by rw [← eb, e]; simp
  have md : Mod K mg (hidT st.heap H) := by
    refine ⟨kinB, nsAll nsg, ⟨mb, nsAll nsb, boot⟩, ?_⟩
    obtain ⟨mc, l1, l2⟩ := nl
    exact ⟨mc, nsAll l1, l2⟩
  have hok : HOk P w H st.heap := fun b u hu => by
    obtain ⟨rfl, _, rfl⟩ := scrH_some hu
    exact ⟨at_, by rw [List.length_map]; exact len, vs, _, vals, at_⟩
  have frS : FrS K H a (ns.map V.int) := by
    cases hk : K.lookup a with
    | none => exact .inl ⟨o, by show scrH K a o ns a = _; unfold scrH; rw [if_pos ⟨rfl, hk⟩]⟩
    | some u =>
      have e := kin a u hk
      rw [at_] at e
      cases e
      exact .inr (.inr ⟨_, vs.toArray, _, hk, rfl, rfl, rfl, by rw [List.size_toArray, vlen]; exact len, by simpa using vals⟩)
  have ents : Env0 P w K mg (hidT st.heap H) callerA [] st H :=
    ⟨rfl, md, fun b u e => of_hidT e, Nat.le_of_eq (hidT_size _ _), trivial, fun b hb => by simp [frs] at hb, hok, .of_eq gen⟩
  have dens : ∀ (l : List Int), Dens ⟨K, w, P⟩ [] (fun _ => False) H (l.map V.int) (l.map D.int) := fun l => by
    induction l with
    | nil => exact .nil
    | cons i l ih => exact .cons (.int i) ih
  obtain ⟨ob', yes⟩ := yes
  have prom : spD ⟨K, w, P⟩ mg 1 (evDef m g) [.ref a] H (fun v _ => v = .bl true) fun _ _ _ => False := by
    refine ⟨[], fun _ => False, [], [.scr (ns.map D.int)], rfl, ⟨rfl, List.nodup_nil, fun n u h => by simp at h, fun b h => h.elim, fun b h => by simp at h⟩, .cons (.scr frS (dens ns)) .nil, ?_⟩
    rw [yes]
    intro ι' F' H' v _ _ d
    have d : Den ⟨K, w, P⟩ ι' F' H' v (.bl true) := d
    cases d
    rfl
  refine codeAny_mono ((fn _ kinB (nsAll nsg)).run callerA [] st H ⟨[.ref a], []⟩ [.ref a] [.ref a] _ _ rfl room ents (bind st (.ref a)) (.cons rfl .nil) prom) fun r s' h => ?_
  match r, h with
  | .error e, h => exact let ⟨_, _, _, _, _, _, _, _, _, _, _, _, z⟩ := h; z.elim
  | .ok .next, h => exact h.elim
  | .ok .brk, h => exact h.elim
  | .ok .cont, h => exact h.elim
  | .ok (.ret u), h =>
    obtain ⟨v, H', os, bare, un, hok', rv, q⟩ := h
    cases (show v = .bl true from q)
    cases (show u = Value.bool true from rv)
    refine ⟨rfl, OldK.of_keep fun b u e => ?_, os, bare⟩
    cases q : H b with
    | none => exact un.keep b u e q (by simp [frs]) (by simp)
    | some z =>
      obtain ⟨rfl, _, rfl⟩ := scrH_some q
      obtain ⟨e2, _⟩ := hok' b _ (un.frzs b o _ q)
      rw [at_] at e
      cases e
      exact e2
/-- the row from the pure law -/
theorem walk_G {l : PySem.W.OpenLaw} {n k m : Nat} {q : Program} {loose : List Str} {XP : (Str → Option Value) → Heap → Prop} {YP : World → Heap → Prop} {d : DefRec} {x : Str} {g : SM}
    (hn : l.most = some n) (hn2 : n ≤ sizeLine) (hdf : d.params.defaults = []) (hr : Room k callerA)
    (F : ∀ (w : World) (mg : Str → Option Value) (fa : Addr) (h : Heap), YP w h → h.Ns mainGlobals mg → mg d.name = some (.ref fa) →
      ∃ (K : PySem.W.Frag) (fd : FuncData), K.In h ∧ (∀ (s : Shared) (u : Value), BindsTo s fd ⟨[u], []⟩ [(x, u)]) ∧
        ∀ base : Heap, K.In base → base.Ns mainGlobals mg → FnG l.prog w K mg base k fa fd [x] (spD ⟨K, w, l.prog⟩ mg 1 (evDef m g)))
    (yes : ∀ ns : List Int, ns.length ≤ n → ∃ ob', evDef m g [.scr (ns.map D.int)] [] = .ok (.val (.bl true)) ob') :
    PySem.W.WalkO q loose XP YP l.row.toRowW d [] (fun f vs => PySem.call f vs) := by
  refine Att.attach_call hn hdf fun w s₀ st mg mb fa o pm cd doc a vs ns G Y ho hd hcd hmg hobj hints hlen hg => ?_
  obtain ⟨K, fd, kin, bind, fn⟩ := F w mg fa _ Y G.T.g hmg
  exact law_callG kin G.T.g G.T.b G.T.builtins G.T.nolimit hg hobj hints (Nat.le_trans hlen hn2) hr fn bind (yes ns hlen)
end Cut
end
section
/-! CutMore: parallel stores, dict displays, the module's dicts. -/
namespace Cut
open PySem PySem.Spec PyProof.Rows L2

/-! ### a, b = e, e2 -/
/-- an environment with this scope -/
abbrev envS (sc : Scope) : Env := envOfC "" sc 0 0 .none
theorem sw_env {env env' : Env} (h1 : env.scope = env'.scope) (h2 : env.blockKind = env'.blockKind) (ts : List Expr) (v : Expr) : swappedStores ts v env = swappedStores ts v env' := by
  have hk : ∀ x, env.kindOf x = env'.kindOf x := fun x => by unfold Env.kindOf; rw [h1]
  unfold swappedStores
  simp only [h2, hk]
theorem sw_of {X : Cx} {c : SI} (S : Sta X c) (hk : c.sc.kind = .function) (ts : List Expr) (v : Expr) : swappedStores ts v X.env = swappedStores ts v (envS c.sc) := by
  refine sw_env S.sc ?_ ts v
  unfold Env.blockKind
  rw [S.sc]
  show _ = if c.sc.kind.isAnnotationScope = true then ScopeKind.function else c.sc.kind
  rw [hk]
def sPar (i j : Nat) (f g : EM) : SM := fun s => (f s).bind fun d s1 => (g s1).bind fun e s2 => .ok .nx { s2 with sl := (s2.sl.set i (some d)).set j (some e) }
theorem ds_par {c : SI} {i j : Nat} {x y : Str} {a b : Expr} {f g : EM} {px py pt pt2 pos : Pos} {kt k2 : Nat} (hc : c.calm = true) (hk : c.sc.kind = .function) (hi : c.N[i]? = some x) (hj : c.N[j]? = some y) (hij : (i == j) = false) (hx : c.sc.names.lookup x = some .local) (hy : c.sc.names.lookup y = some .local)
    (hs : swappedStores [.Tuple [.Name x px, .Name y py] kt pt] (.Tuple [a, b] k2 pt2) (envS c.sc) = pure (some [x, y])) (ha : DE c a f) (hb : DE c b g) (pa : plainArg a = true) (pb : plainArg b = true) :
    DS c (.Assign [.Tuple [.Name x px, .Name y py] kt pt] (.Tuple [a, b] k2 pt2) pos) (sPar i j f g) := fun X W S tk hp => by
  have da := da_cons ha (da_cons hb da_nil pb) pa
  refine (ps_par (i := i) (j := j) (S.calm hc) (by rw [S.N]; exact S.nd) (by rw [S.N]; exact hi) (by rw [S.N]; exact hj) (by simpa using hij) (by rw [S.sc]; exact hx) (by rw [S.sc]; exact hy) (da X W S tk) (by rw [sw_of S hk]; exact hs)).imp fun E σ H h => ?_
  obtain ⟨ι, F, ps, r, h⟩ := h
  refine ⟨ι, F, ps, r, ?_⟩
  unfold sPar at h
  unfold aCons
  cases ef : f ps with
  | bad => rw [ef] at h; exact h
  | ex x s => rw [ef] at h; exact fun ι' F' H' cls dd e r' dx => h ι' F' H' σ cls dd e r' dx
  | ok d s1 =>
    rw [ef] at h
    simp only [Out.bind] at h ⊢
    cases eg : g s1 with
    | bad => rw [eg] at h; exact h
    | ex x s => rw [eg] at h; exact fun ι' F' H' cls dd e r' dx => h ι' F' H' σ cls dd e r' dx
    | ok d2 s2 =>
      rw [eg] at h
      simp only [aNil, Out.bind] at h ⊢
      intro ι' F' H' vs e r' dv
      have dv : Dens X.kw ι' F' H' vs [d, d2] := dv
      cases dv with
      | cons h1 h2 =>
        cases h2 with
        | cons h3 h4 =>
          cases h4
          exact ⟨_, _, rfl, h ι' F' H' _ e ((r'.put h1).put h3)⟩
def sPar3 (i j l : Nat) (f g k : EM) : SM := fun s => (f s).bind fun d s1 => (g s1).bind fun e s2 => (k s2).bind fun z s3 => .ok .nx { s3 with sl := ((s3.sl.set i (some d)).set j (some e)).set l (some z) }
theorem ds_par3 {c : SI} {i j l : Nat} {x y z : Str} {a b d : Expr} {f g k : EM} {px py pz pt pt2 pos : Pos} {kt k2 : Nat} (hc : c.calm = true) (hk : c.sc.kind = .function) (hi : c.N[i]? = some x) (hj : c.N[j]? = some y) (hl : c.N[l]? = some z) (hij : (i == j) = false) (hil : (i == l) = false) (hjl : (j == l) = false)
    (hx : c.sc.names.lookup x = some .local) (hy : c.sc.names.lookup y = some .local) (hz : c.sc.names.lookup z = some .local)
    (hs : swappedStores [.Tuple [.Name x px, .Name y py, .Name z pz] kt pt] (.Tuple [a, b, d] k2 pt2) (envS c.sc) = pure (some [x, y, z])) (ha : DE c a f) (hb : DE c b g) (hd : DE c d k) (pa : plainArg a = true) (pb : plainArg b = true) (pd : plainArg d = true) :
    DS c (.Assign [.Tuple [.Name x px, .Name y py, .Name z pz] kt pt] (.Tuple [a, b, d] k2 pt2) pos) (sPar3 i j l f g k) := fun X W S tk hp => by
  have da := da_cons ha (da_cons hb (da_cons hd da_nil pd) pb) pa
  refine (ps_par3 (i := i) (j := j) (l := l) (S.calm hc) (by rw [S.N]; exact S.nd) (by rw [S.N]; exact hi) (by rw [S.N]; exact hj) (by rw [S.N]; exact hl) (by simpa using hij) (by simpa using hil) (by simpa using hjl) (by rw [S.sc]; exact hx) (by rw [S.sc]; exact hy) (by rw [S.sc]; exact hz) (da X W S tk) (by rw [sw_of S hk]; exact hs)).imp fun E σ H h => ?_
  obtain ⟨ι, F, ps, r, h⟩ := h
  refine ⟨ι, F, ps, r, ?_⟩
  unfold sPar3 at h
  unfold aCons
  cases ef : f ps with
  | bad => rw [ef] at h; exact h
  | ex x s => rw [ef] at h; exact fun ι' F' H' cls dd e r' dx => h ι' F' H' σ cls dd e r' dx
  | ok d s1 =>
    rw [ef] at h
    simp only [Out.bind] at h ⊢
    cases eg : g s1 with
    | bad => rw [eg] at h; exact h
    | ex x s => rw [eg] at h; exact fun ι' F' H' cls dd e r' dx => h ι' F' H' σ cls dd e r' dx
    | ok d2 s2 =>
      rw [eg] at h
      simp only [Out.bind] at h ⊢
      cases ek : k s2 with
      | bad => rw [ek] at h; exact h
      | ex x s => rw [ek] at h; exact fun ι' F' H' cls dd e r' dx => h ι' F' H' σ cls dd e r' dx
      | ok d3 s3 =>
        rw [ek] at h
        simp only [aNil, Out.bind] at h ⊢
        intro ι' F' H' vs e r' dv
        have dv : Dens X.kw ι' F' H' vs [d, d2, d3] := dv
        cases dv with
        | cons h1 h2 =>
          cases h2 with
          | cons h3 h4 =>
            cases h4 with
            | cons h5 h6 =>
              cases h6
              exact ⟨_, _, _, rfl, h ι' F' H' _ e (((r'.put h1).put h3).put h5)⟩

/-! ### dict displays -/
abbrev PM := PSt → Out (List (D × D))
def pNil : PM := fun s => .ok [] s
def pCons (f g : EM) (k : PM) : PM := fun s => (f s).bind fun d s1 => (g s1).bind fun e s2 => (k s2).bind fun l s3 => .ok ((d, e) :: l) s3
/-- the dict of these pairs, if all keys are ints and texts -/
def dispD : List (D × D) → List D → List D → Option (List D × List D)
  | [], ks, vs => some (ks, vs)
  | (d, e) :: l, ks, vs => match keyD d with
    | some key => dispD l (putD key d e ks vs).1 (putD key d e ks vs).2
    | none => none
def rDisp (k : PM) : RM := fun s => (k s).bind fun l s1 => match dispD l [] [] with
  | some (ks, vs) => .ok (.fd ks vs) s1
  | none => .bad
abbrev rP (K : KW) : List Addr → (Addr → Prop) → Hp → Hp → List (V × V) → List (D × D) → Prop := fun ι F _ H vs ds => Dens K ι F H (vs.map (·.1)) (ds.map (·.1)) ∧ Dens K ι F H (vs.map (·.2)) (ds.map (·.2))
structure PPd (c : SI) (pos : Pos) (ks : List (Option Expr)) (vs : List Expr) (k : PM) : Prop where
  ok : ∀ (X : Cx) (W : WX), Sta X c → Takes X W → ∃ trs, PPs X pos ks vs trs ∧ ∀ σ H Q, tO X.kw X.mg W (rP X.kw) k σ H Q → tPairs trs σ H Q
theorem ppd_nil {c : SI} {pos : Pos} : PPd c pos [] [] pNil := ⟨fun X W S tk => ⟨[], pps_nil, fun σ H Q h => by
  obtain ⟨ι, F, ps, r, h⟩ := h
  exact h ι F H [] Ext.refl r ⟨.nil, .nil⟩⟩⟩
theorem ppd_cons {c : SI} {pos : Pos} {a b : Expr} {ks : List (Option Expr)} {vs : List Expr} {f g : EM} {k : PM} (ha : DE c a f) (hb : DE c b g) (hk : PPd c pos ks vs k) : PPd c pos (some a :: ks) (b :: vs) (pCons f g k) := ⟨fun X W S tk => by
  obtain ⟨trs, h1, h2⟩ := hk.ok X W S tk
  refine ⟨_, pps_cons (ha X W S tk) (hb X W S tk) h1, fun σ H Q h => ?_⟩
  obtain ⟨ι, F, ps, r, q⟩ := h
  refine ⟨ι, F, ps, r, Sat.seq q fun d ps1 ι1 F1 H1 x e1 r1 d1 s => ?_⟩
  refine ⟨ι1, F1, ps1, r1, Sat.seq (Sat.on (fun _ _ _ _ _ _ _ _ h => h) s e1) fun e ps2 ι2 F2 H2 y e2 r2 d2 s => ?_⟩
  refine h2 σ H2 _ ⟨ι2, F2, ps2, r2, Sat.seq (Sat.on (fun _ _ _ _ _ _ _ _ h => h) s e2) fun l ps3 ι3 F3 H3 w e3 r3 d3 s => ?_⟩
  exact s ι3 F3 H3 _ e3 r3 ⟨.cons ((d1.ext e2).ext e3) d3.1, .cons (d2.ext e3) d3.2⟩⟩
theorem mergeK_den {K : KW} {ι : List Addr} {F : Addr → Prop} {H : Hp} : ∀ {l : List (D × D)} {ks vs ks' vs' : List D} {ps : List (V × V)} {kvs : List (Key × V)}, dispD l ks vs = some (ks', vs') → Dens K ι F H (ps.map (·.1)) (l.map (·.1)) → Dens K ι F H (ps.map (·.2)) (l.map (·.2)) →
    Dens K ι F H (kvs.map fun p => kV p.1) ks → Dens K ι F H (kvs.map (·.2)) vs → ∃ more : List (Key × V), ps = more.map (fun kv => (kV kv.1, kv.2)) ∧ Dens K ι F H ((mergeK kvs more).map fun p => kV p.1) ks' ∧ Dens K ι F H ((mergeK kvs more).map (·.2)) vs'
  | [], ks, vs, ks', vs', ps, kvs, h, h1, h2, h3, h4 => by
    cases h
    cases ps with
    | nil => exact ⟨[], rfl, h3, h4⟩
    | cons p ps => cases h1
  | (d, e) :: l, ks, vs, ks', vs', ps, kvs, h, h1, h2, h3, h4 => by
    cases ps with
    | nil => cases h1
    | cons p ps =>
      obtain ⟨x, y⟩ := p
      cases h1 with
      | cons a1 b1 =>
        cases h2 with
        | cons a2 b2 =>
          have a1 : Den K ι F H x d := a1
          have a2 : Den K ι F H y e := a2
          unfold dispD at h
          cases hk : keyD d with
          | none => rw [hk] at h; cases h
          | some key =>
            rw [hk] at h
            have hx := a1.key hk
            subst hx
            obtain ⟨p1, p2⟩ := putK_den (key := key) a1 a2 h3 h4
            obtain ⟨more, e1, e2, e3⟩ := mergeK_den (kvs := putK kvs key y) h b1 b2 p1 p2
            exact ⟨(key, y) :: more, by rw [e1]; rfl, e2, e3⟩
theorem dr_disp {c : SI} {pos : Pos} {ks : List (Option Expr)} {vs : List Expr} {k : PM} (h : PPd c pos ks vs k) (hall : ks.all (·.isSome) = true) (hl : (ks.length == vs.length) = true) (h0 : ks.isEmpty = false) (h15 : decide (ks.length ≤ 15) = true)
    (hk : ∀ s l s', k s = .ok l s' → l.length = ks.length) : DR c (.Dict ks vs pos) (rDisp k) := fun X W S tk => by
  obtain ⟨trs, h1, h2⟩ := h.ok X W S tk
  refine (pe_disp h1 hall (by simpa using hl) (by intro z; rw [z] at h0; cases h0) (of_decide_eq_true h15)).imp fun σ H Q q => ?_
  obtain ⟨ι, F, ps, r, q⟩ := q
  intro p hp
  have g : Grow H (upd H p (.dK [])) := Grow.upd hp
  have nF := not_ref r.ob hp
  refine h2 σ _ _ ⟨ι, F, ps, r.grow g, ?_⟩
  unfold rDisp at q
  cases ek : k ps with
  | bad => rw [ek] at q; exact q
  | ex x s => rw [ek] at q; exact fun ι' F' H' cls dd e r' hx => q ι' F' H' cls dd ((Ext.grow g).trans e) r' hx
  | ok l ps1 =>
    rw [ek] at q
    simp only [Out.bind] at q
    cases hd : dispD l [] [] with
    | none => rw [hd] at q; exact q.elim
    | some kv =>
      obtain ⟨ks', vs'⟩ := kv
      rw [hd] at q
      have q : ∀ ι' F' H' b, Ext ι F H ι' F' H' → Rel X.kw X.mg ι' F' ps1 σ H' → DenR X.kw ι' F' H H' b (.fd ks' vs') → Q b H' := q
      intro ι1 F1 H1 w e1 r1 d1
      have hp1 : H1 p = some (.dK []) := e1.keep p _ upd_same (.inl nF.1)
      have nF1 : ¬ F1 p := fun z => by
        rcases e1.newF p z with z | z | z
        · exact nF.2 z
        · rw [upd_same] at z; cases z
        · exact nF.1 z
      have nι1 : p ∉ ι1 := fun z => by
        rcases e1.mem z with z | z
        · exact nF.1 z
        · rw [upd_same] at z; cases z
      obtain ⟨more, e2, e3, e4⟩ := mergeK_den (kvs := []) hd d1.1 d1.2 .nil .nil
      refine ⟨hp1, more, e2, ?_, ?_⟩
      · have := hk _ _ _ ek
        have h3 := d1.1.length
        rw [List.length_map, List.length_map] at h3
        have h4 : w.length = more.length := by rw [e2, List.length_map]
        have := of_decide_eq_true h15
        omega
      · -- the dict is filled
        have t1 : ∀ {v : V} {d : D}, Den X.kw ι1 F1 H1 v d → Den X.kw ι1 F1 (upd H1 p (.dK (mergeK [] more))) v d := fun h => h.modK hp1 nF1
        have t2 : ∀ {v : List V} {d : List D}, Dens X.kw ι1 F1 H1 v d → Dens X.kw ι1 F1 (upd H1 p (.dK (mergeK [] more))) v d := fun h => h.modK hp1 nF1
        have eX : Ext ι F H ι1 F1 (upd H1 p (.dK (mergeK [] more))) := ((Ext.grow g).trans e1).modN hp
        refine q ι1 F1 _ (.ref p) eX ⟨r1.ob.modK hp1 nF1 nι1, fun i d hi => let ⟨v, a, b⟩ := r1.sl i d hi; ⟨v, a, t1 b⟩, r1.len⟩ ⟨p, _, rfl, hp, nι1, nF1, upd_same, t2 e3, t2 e4⟩
theorem pNil_len : ∀ s l s', pNil s = .ok l s' → l.length = 0 := fun s l s' e => by cases e; rfl
theorem pCons_len {f g : EM} {k : PM} {n : Nat} (h : ∀ s l s', k s = .ok l s' → l.length = n) : ∀ s l s', pCons f g k s = .ok l s' → l.length = n + 1 := fun s l s' e => by
  unfold pCons at e
  cases e1 : f s with
  | bad => rw [e1] at e; cases e
  | ex x t => rw [e1] at e; cases e
  | ok d s1 =>
    rw [e1] at e
    simp only [Out.bind] at e
    cases e2 : g s1 with
    | bad => rw [e2] at e; cases e
    | ex x t => rw [e2] at e; cases e
    | ok d2 s2 =>
      rw [e2] at e
      simp only at e
      cases e3 : k s2 with
      | bad => rw [e3] at e; cases e
      | ex x t => rw [e3] at e; cases e
      | ok l2 s3 =>
        rw [e3] at e
        cases e
        simp [h _ _ _ e3]

/-! ### a text key of a dict of the module's -/
def rKd (kvs : List (Str × D)) (f : EM) : RM := fun s => (f s).bind fun d s1 => match d with
  | .str z => match kvs.lookup z with
    | some v => .ok (.val v) s1
    | none => .bad
  | _ => .bad
theorem lookup_mem {kvs : List (Str × D)} {z : Str} {v : D} (h : kvs.lookup z = some v) : (z, v) ∈ kvs := PySem.mem_of_lookup h
theorem dr_kd {c : SI} {x : Str} {kvs : List (Str × D)} {e : Expr} {f : EM} {p pos : Pos} (hg : c.sc.names.lookup x = some .globalImplicit) (hd : (x, kvs) ∈ c.kds) (hb : (x == ("__debug__" : Str)) = false) (he : DE c e f) (hp : plainIx e = true) : DR c (.Subscript (.Name x p) e pos) (rKd kvs f) := fun X W S tk => by
  obtain ⟨a, hm, hq⟩ := S.kds _ hd
  refine (pe_ix ix_kdict (pe_glob (v := .ref a) (Gl.of S hg) hm rfl hb) (he X W S tk) (plainIx_ok hp)).imp fun σ H Q h => ?_
  obtain ⟨ι, F, ps, r, q⟩ := h
  refine ⟨ι, F, ps, r, Sat.seq q fun d ps1 ι1 F1 H1 w e1 r1 d1 s => ?_⟩
  cases d1 with
  | str z =>
    simp only at s
    cases hl : kvs.lookup z with
    | none => rw [hl] at s; exact s.elim
    | some v =>
      rw [hl] at s
      obtain ⟨u, hu, hD⟩ := hq _ (lookup_mem hl)
      exact ⟨a, z, u, rfl, rfl, hu, s ι1 F1 H1 u e1 r1 (hD ι1 F1 H1)⟩
  | _ => exact s.elim
end Cut
end
section
/-! CutGen: the rules with one check each, as the printed walks use them. -/
namespace Cut
open PySem PySem.Spec PyProof.Rows L2

def kindIs (c : SI) (x : Str) (k : NameKind) : Bool := decide (c.sc.names.lookup x = some k)
theorem kindIs_ok {c : SI} {x : Str} {k : NameKind} (h : kindIs c x k = true) : c.sc.names.lookup x = some k := of_decide_eq_true h
def varC (c : SI) (i : Nat) (x : Str) : Bool := decide (c.N[i]? = some x) && (kindIs c x .local || kindIs c x .cell || kindIs c x .free) && !(x == ("__debug__" : Str)) && !(x == ("__classdict__" : Str))
theorem dvar {c : SI} {x : Str} {pos : Pos} (i : Nat) (h : varC c i x = true) : DE c (.Name x pos) (eVar i) := by
  unfold varC at h
  simp only [Bool.and_eq_true, Bool.or_eq_true, Bool.not_eq_true'] at h
  obtain ⟨⟨⟨h1, h2⟩, h3⟩, h4⟩ := h
  exact de_var (of_decide_eq_true h1) (by rcases h2 with (h | h) | h; exact .inl (kindIs_ok h); exact .inr (.inl (kindIs_ok h)); exact .inr (.inr (kindIs_ok h))) h3 h4
def gloC (c : SI) (x : Str) : Bool := kindIs c x .globalImplicit && !(x == ("__debug__" : Str))
theorem dglob {c : SI} {x : Str} {d : D} {pos : Pos} (h : gloC c x = true) (hd : (x, d) ∈ c.consts) : DE c (.Name x pos) (eC d) := by
  unfold gloC at h
  simp only [Bool.and_eq_true, Bool.not_eq_true'] at h
  exact de_glob (kindIs_ok h.1) hd h.2
def bltC (c : SI) (x : Str) : Bool := kindIs c x .globalImplicit && decide (x ∈ c.blts) && !(x == ("__debug__" : Str)) && !(x == ("__name__" : Str))
theorem bltC_ok {c : SI} {x : Str} (h : bltC c x = true) : c.sc.names.lookup x = some .globalImplicit ∧ x ∈ c.blts ∧ x ≠ "__name__" ∧ (x == ("__debug__" : Str)) = false := by
  unfold bltC at h
  simp only [Bool.and_eq_true, Bool.not_eq_true'] at h
  exact ⟨kindIs_ok h.1.1.1, of_decide_eq_true h.1.1.2, by intro z; rw [z] at h; simp at h, h.1.2⟩
theorem dB {c : SI} {id : String} {e : Expr} {es : List Expr} {g : List D → Option Rv} {as : AM} {p pos : Pos} (x : Str) (hc : ∀ X, Sta X c → CallOK X (.builtin id) g) (hv : bootBuiltins x = some (.builtin id)) (h : bltC c x = true) (ha : DA c (e :: es) as) (hp : (e :: es).all plainArg = true) :
    DR c (.Call (.Name x p) (e :: es) [] pos) (rB g as) := let ⟨h1, h2, h3, h4⟩ := bltC_ok h; dr_callB hc h1 h2 hv ha hp h3 h4
theorem dTy {c : SI} {T : String} {e : Expr} {es : List Expr} {g : List D → Option Rv} {as : AM} {p pos : Pos} (x : Str) (hc : ∀ X, Sta X c → CallOK X (.type T) g) (hv : bootBuiltins x = some (.type T)) (h : bltC c x = true) (ha : DA c (e :: es) as) (hp : (e :: es).all plainArg = true) :
    DR c (.Call (.Name x p) (e :: es) [] pos) (rB g as) := let ⟨h1, h2, h3, h4⟩ := bltC_ok h; dr_callTy hc h1 h2 hv ha hp h3 h4
section
variable {c : SI} {e : Expr} {es : List Expr} {as : AM} {p pos : Pos}
theorem d_len (h : bltC c "len" = true) (ha : DA c (e :: es) as) (hp : (e :: es).all plainArg = true) : DR c (.Call (.Name "len" p) (e :: es) [] pos) (rB lenD as) := dB "len" (fun _ _ => callok_len) boot_len h ha hp
theorem d_abs (h : bltC c "abs" = true) (ha : DA c (e :: es) as) (hp : (e :: es).all plainArg = true) : DR c (.Call (.Name "abs" p) (e :: es) [] pos) (rB absD as) := dB "abs" (fun _ _ => callok_abs) (by kernel_rfl) h ha hp
theorem d_repr (hc : c.calm = true) (h : bltC c "repr" = true) (ha : DA c (e :: es) as) (hp : (e :: es).all plainArg = true) : DR c (.Call (.Name "repr" p) (e :: es) [] pos) (rB reprD as) := dB "repr" (fun _ S => callok_repr S.guards (S.room hc).units) (by kernel_rfl) h ha hp
theorem d_max (hc : c.calm = true) (h : bltC c "max" = true) (ha : DA c (e :: es) as) (hp : (e :: es).all plainArg = true) : DR c (.Call (.Name "max" p) (e :: es) [] pos) (rB maxD as) := dB "max" (fun _ S => callok_max (S.calm hc)) (by kernel_rfl) h ha hp
theorem d_min (hc : c.calm = true) (h : bltC c "min" = true) (ha : DA c (e :: es) as) (hp : (e :: es).all plainArg = true) : DR c (.Call (.Name "min" p) (e :: es) [] pos) (rB minD as) := dB "min" (fun _ S => callok_min (S.calm hc)) (by kernel_rfl) h ha hp
theorem d_all (hc : c.calm = true) (h : bltC c "all" = true) (ha : DA c (e :: es) as) (hp : (e :: es).all plainArg = true) : DR c (.Call (.Name "all" p) (e :: es) [] pos) (rB allD as) := dB "all" (fun _ S => callok_all (S.calm hc)) (by kernel_rfl) h ha hp
theorem d_any (hc : c.calm = true) (h : bltC c "any" = true) (ha : DA c (e :: es) as) (hp : (e :: es).all plainArg = true) : DR c (.Call (.Name "any" p) (e :: es) [] pos) (rB anyD as) := dB "any" (fun _ S => callok_any (S.calm hc)) (by kernel_rfl) h ha hp
theorem d_sum (hc : c.calm = true) (h : bltC c "sum" = true) (ha : DA c (e :: es) as) (hp : (e :: es).all plainArg = true) : DR c (.Call (.Name "sum" p) (e :: es) [] pos) (rB sumD as) := dB "sum" (fun _ S => callok_sum (S.calm hc)) (by kernel_rfl) h ha hp
theorem d_int (h : bltC c "int" = true) (ha : DA c (e :: es) as) (hp : (e :: es).all plainArg = true) : DR c (.Call (.Name "int" p) (e :: es) [] pos) (rB intD as) := dTy "int" (fun _ _ => callok_int) (by kernel_rfl) h ha hp
theorem d_tuple (h : bltC c "tuple" = true) (ha : DA c (e :: es) as) (hp : (e :: es).all plainArg = true) : DR c (.Call (.Name "tuple" p) (e :: es) [] pos) (rB tupleD as) := dTy "tuple" (fun _ _ => callok_tuple) (by kernel_rfl) h ha hp
theorem d_list (h : bltC c "list" = true) (ha : DA c (e :: es) as) (hp : (e :: es).all plainArg = true) : DR c (.Call (.Name "list" p) (e :: es) [] pos) (rB listD as) := dTy "list" (fun _ _ => callok_list) (by kernel_rfl) h ha hp
theorem d_call (i : FnI) (hi : i ∈ c.fs) (hc : c.calm = true) (hg : gloC c i.name = true) (ha : DA c (e :: es) as) (hp : (e :: es).all plainArg = true) (hn : ∀ s ds s', as s = .ok ds s' → ds.length = i.n) : DR c (.Call (.Name i.name p) (e :: es) [] pos) (rCall i.f as) := by
  unfold gloC at hg
  simp only [Bool.and_eq_true, Bool.not_eq_true'] at hg
  exact dr_call hc hi (kindIs_ok hg.1) ha hp hn hg.2
theorem d_call0 (i : FnI) (hi : i ∈ c.fs) (hc : c.calm = true) (hg : gloC c i.name = true) (hn : i.n = 0) : DR c (.Call (.Name i.name p) [] [] pos) (rCall i.f aNil) := by
  unfold gloC at hg
  simp only [Bool.and_eq_true, Bool.not_eq_true'] at hg
  exact dr_call0 hc hi hn (kindIs_ok hg.1) hg.2
theorem d_kd {x : Str} {kvs : List (Str × D)} {f : EM} (h : gloC c x = true) (hd : (x, kvs) ∈ c.kds) (he : DE c e f) (hp : plainIx e = true) : DR c (.Subscript (.Name x p) e pos) (rKd kvs f) := by
  unfold gloC at h
  simp only [Bool.and_eq_true, Bool.not_eq_true'] at h
  exact dr_kd (kindIs_ok h.1) hd h.2 he hp
def tyC (c : SI) (x : Str) (t : Ty) : Bool := bltC c x && decide (bootBuiltins x = some (.type t.nm))
theorem tyC_ok {x : Str} {t : Ty} (h : tyC c x t = true) : TyName c x t := by
  unfold tyC at h
  simp only [Bool.and_eq_true] at h
  obtain ⟨h1, h2, h3, h4⟩ := bltC_ok h.1
  exact ⟨h1, h2, of_decide_eq_true h.2, h3, h4⟩
theorem d_is {f : EM} {x : Str} {p2 : Pos} (t : Ty) (h : bltC c "isinstance" = true) (he : DE c e f) (hp : plainArg e = true) (ht : tyC c x t = true) : DR c (.Call (.Name "isinstance" p) [e, .Name x p2] [] pos) (rIs f [t]) :=
  let ⟨h1, h2, _, _⟩ := bltC_ok h; dr_is h1 h2 he hp (tyC_ok ht)
theorem d_isT {f : EM} {p2 : Pos} {x1 : Nat} {ts : List Ty} (h : bltC c "isinstance" = true) (he : DE c e f) (hp : plainArg e = true) (ht : TyNames c es ts) (hl : decide (es.length ≤ 100) = true) : DR c (.Call (.Name "isinstance" p) [e, .Tuple es x1 p2] [] pos) (rIs f ts) :=
  let ⟨h1, h2, _, _⟩ := bltC_ok h; dr_isT h1 h2 he hp ht (of_decide_eq_true hl)
theorem d_range1 {tg : Expr} {f : EM} (h : bltC c "range" = true) (ha : DE c e f) (hp : plainArg e = true) : DI c tg (.Call (.Name "range" p) [e] [] pos) (iRange1 f) := let ⟨h1, h2, _, _⟩ := bltC_ok h; di_range1 h1 h2 ha hp
theorem d_range2 {tg b : Expr} {f g : EM} (h : bltC c "range" = true) (ha : DE c e f) (hb : DE c b g) (hp : plainArg e = true) (hp2 : plainArg b = true) : DI c tg (.Call (.Name "range" p) [e, b] [] pos) (iRange2 f g) := let ⟨h1, h2, _, _⟩ := bltC_ok h; di_range2 h1 h2 ha hb hp hp2
theorem d_enum {elts : List Expr} {kk : Nat} {tpos : Pos} {f : EM} (h : bltC c "enumerate" = true) (ha : DE c e f) (hp : plainArg e = true) : DI c (.Tuple elts kk tpos) (.Call (.Name "enumerate" p) [e] [] pos) (iEnumD f) := let ⟨h1, h2, _, _⟩ := bltC_ok h; di_enum h1 h2 ha hp
theorem d_zip {elts : List Expr} {kk : Nat} {tpos : Pos} {b : Expr} {f g : EM} (h : bltC c "zip" = true) (ha : DE c e f) (hb : DE c b g) (hp : plainArg e = true) (hp2 : plainArg b = true) : DI c (.Tuple elts kk tpos) (.Call (.Name "zip" p) [e, b] [] pos) (iZipD f g) := let ⟨h1, h2, _, _⟩ := bltC_ok h; di_zip h1 h2 ha hb hp hp2
end
/-! stores -/
def stoC (c : SI) (i : Nat) (x : Str) : Bool := decide (c.N[i]? = some x) && (kindIs c x .local || (kindIs c x .cell && c.fn x))
theorem stoC_ok {c : SI} {i : Nat} {x : Str} (h : stoC c i x = true) : c.N[i]? = some x ∧ Loc1 c x := by
  unfold stoC at h
  simp only [Bool.and_eq_true, Bool.or_eq_true] at h
  exact ⟨of_decide_eq_true h.1, h.2.imp kindIs_ok fun z => ⟨kindIs_ok z.1, z.2⟩⟩
theorem t_var {c : SI} {x : Str} {pos : Pos} (i : Nat) (h : stoC c i x = true) : DG c (.Name x pos) (.var i) := dg_var (stoC_ok h).1 (stoC_ok h).2
theorem s_set {c : SI} {x : Str} {e : Expr} {f : EM} {pos pos' : Pos} (i : Nat) (h : stoC c i x = true) (he : DE c e f) (hn : notComp e = true) : DS c (.Assign [.Name x pos'] e pos) (sSet i f) := ds_set (stoC_ok h).1 (stoC_ok h).2 he hn
def kindF (k : ScopeKind) : Bool := match k with
  | .function => true
  | _ => false
theorem kindF_ok {k : ScopeKind} (h : kindF k = true) : k = .function := by
  cases k <;> first | rfl | cases h
/-- a comprehension stored on its own line -/
def swapC (c : SI) (y : Str) (py pos : Pos) (scope : Scope) : Bool := kindIs c y .local && kindF c.sc.kind && (py.line == pos.line) && !(scope.names.any fun (n, k) => n == y && (k == .local || k == .cell))
def coC (c : SI) (scope : Scope) (own : List (Str × Nat)) (g : Tg) (iter : Expr) : Bool := c.calm && blkC c.N c.sc scope own && (g.vars.all fun i => (own.map (·.2)).contains i) && notSet iter
theorem r_comp {c : SI} {elt tg iter : Expr} {ifs : List Expr} {scope : Scope} {pos : Pos} {src : IM} {g : Tg} {tt : TM} {f : EM} (own : List (Str × Nat)) (h : coC c scope own g iter = true) (hi : DI c tg iter src) (hg : DG (c.blk scope) tg g) (ht : DTs (c.blk scope) ifs tt) (he : DE (c.blk scope) elt f) :
    DR c (.ListComp elt [⟨tg, iter, ifs, 0⟩] scope pos) (rComp (own.map (·.2)) src g tt f) := by
  unfold coC at h
  simp only [Bool.and_eq_true] at h
  exact dr_comp h.1.1.1 hi h.1.1.2 hg h.1.2 ht he h.2
theorem s_comp {c : SI} {y : Str} {elt tg iter : Expr} {ifs : List Expr} {scope : Scope} {pos py spos : Pos} {src : IM} {g : Tg} {tt : TM} {fe : EM} {op : RM → EM} (i : Nat) (own : List (Str × Nat)) (hop : op = eFrz ∨ op = eOwn) (hs : stoC c i y = true) (hsw : swapC c y py pos scope = true)
    (h : coC c scope own g iter = true) (hi : DI c tg iter src) (hg : DG (c.blk scope) tg g) (ht : DTs (c.blk scope) ifs tt) (he : DE (c.blk scope) elt fe) :
    DS c (.Assign [.Name y py] (.ListComp elt [⟨tg, iter, ifs, 0⟩] scope pos) spos) (sSet i (op (rComp (own.map (·.2)) src g tt fe))) := by
  unfold coC at h
  unfold swapC at hsw
  simp only [Bool.and_eq_true, Bool.not_eq_true'] at h hsw
  exact ds_setC hop (stoC_ok hs).1 (kindIs_ok hsw.1.1.1) (kindF_ok hsw.1.1.2) hsw.1.2 hsw.2 h.1.1.1 hi h.1.1.2 hg h.1.2 ht he h.2
theorem s_aug_add {c : SI} {x : Str} {e : Expr} {f : EM} {pos pos' : Pos} (i : Nat) (h : stoC c i x = true) (he : DE c e f) : DS c (.AugAssign (.Name x pos') .Add e pos) (sAug i (fun a b => a + b) f) := ds_aug (fun _ => ip_add) (stoC_ok h).1 (stoC_ok h).2 he
theorem s_aug_sub {c : SI} {x : Str} {e : Expr} {f : EM} {pos pos' : Pos} (i : Nat) (h : stoC c i x = true) (he : DE c e f) : DS c (.AugAssign (.Name x pos') .Sub e pos) (sAug i (fun a b => a - b) f) := ds_aug (fun _ => ip_sub) (stoC_ok h).1 (stoC_ok h).2 he
def parC (c : SI) (i j : Nat) (x y : Str) (a b : Expr) : Bool := c.calm && kindF c.sc.kind && decide (c.N[i]? = some x) && decide (c.N[j]? = some y) && !(i == j) && kindIs c x .local && kindIs c y .local && plainArg a && plainArg b
theorem s_par {c : SI} {x y : Str} {a b : Expr} {f g : EM} {px py pt pt2 pos : Pos} {kt k2 : Nat} (i j : Nat) (h : parC c i j x y a b = true) (hs : swappedStores [.Tuple [.Name x px, .Name y py] kt pt] (.Tuple [a, b] k2 pt2) (envS c.sc) = pure (some [x, y])) (ha : DE c a f) (hb : DE c b g) :
    DS c (.Assign [.Tuple [.Name x px, .Name y py] kt pt] (.Tuple [a, b] k2 pt2) pos) (sPar i j f g) := by
  unfold parC at h
  simp only [Bool.and_eq_true, Bool.not_eq_true'] at h
  obtain ⟨⟨⟨⟨⟨⟨⟨⟨h1, h2⟩, h3⟩, h4⟩, h5⟩, h6⟩, h7⟩, h8⟩, h9⟩ := h
  exact ds_par h1 (kindF_ok h2) (of_decide_eq_true h3) (of_decide_eq_true h4) h5 (kindIs_ok h6) (kindIs_ok h7) hs ha hb h8 h9
def parC3 (c : SI) (i j l : Nat) (x y z : Str) (a b d : Expr) : Bool := c.calm && kindF c.sc.kind && decide (c.N[i]? = some x) && decide (c.N[j]? = some y) && decide (c.N[l]? = some z) && !(i == j) && !(i == l) && !(j == l) && kindIs c x .local && kindIs c y .local && kindIs c z .local && plainArg a && plainArg b && plainArg d
theorem s_par3 {c : SI} {x y z : Str} {a b d : Expr} {f g k : EM} {px py pz pt pt2 pos : Pos} {kt k2 : Nat} (i j l : Nat) (h : parC3 c i j l x y z a b d = true) (hs : swappedStores [.Tuple [.Name x px, .Name y py, .Name z pz] kt pt] (.Tuple [a, b, d] k2 pt2) (envS c.sc) = pure (some [x, y, z])) (ha : DE c a f) (hb : DE c b g) (hd : DE c d k) :
    DS c (.Assign [.Tuple [.Name x px, .Name y py, .Name z pz] kt pt] (.Tuple [a, b, d] k2 pt2) pos) (sPar3 i j l f g k) := by
  unfold parC3 at h
  simp only [Bool.and_eq_true, Bool.not_eq_true'] at h
  obtain ⟨⟨⟨⟨⟨⟨⟨⟨⟨⟨⟨⟨⟨h1, h2⟩, h3⟩, h4⟩, h4'⟩, h5⟩, h5'⟩, h5''⟩, h6⟩, h7⟩, h7'⟩, h8⟩, h9⟩, h10⟩ := h
  exact ds_par3 h1 (kindF_ok h2) (of_decide_eq_true h3) (of_decide_eq_true h4) (of_decide_eq_true h4') h5 h5' h5'' (kindIs_ok h6) (kindIs_ok h7) (kindIs_ok h7') hs ha hb hd h8 h9 h10
/-! methods -/
section
variable {c : SI} {o e : Expr} {es : List Expr} {fo : EM} {as : AM} {apos cpos : Pos}
def meC (o : Expr) (es : List Expr) (apos cpos : Pos) : Bool := notCall o && es.all plainArg && decide (es.length < 30) && (apos.endLine == cpos.line)
theorem m_append (h : meC o (e :: es) apos cpos = true) (ho : DE c o fo) (ha : DA c (e :: es) as) : DR c (.Call (.Attribute o "append" apos) (e :: es) [] cpos) (rMeth "list" appendM fo as) := by
  unfold meC at h
  simp only [Bool.and_eq_true] at h
  exact dr_meth PySem.F.plainAttrs_list PySem.F.slot_list_append PySem.F.type_list_append (fun _ _ => meth_append) ho ha h.1.1.1 h.1.1.2 h.1.2 h.2
theorem m_extend (h : meC o (e :: es) apos cpos = true) (ho : DE c o fo) (ha : DA c (e :: es) as) : DR c (.Call (.Attribute o "extend" apos) (e :: es) [] cpos) (rMeth "list" extendM fo as) := by
  unfold meC at h
  simp only [Bool.and_eq_true] at h
  exact dr_meth PySem.F.plainAttrs_list PySem.F.slot_list_extend PySem.F.type_list_extend (fun _ _ => meth_extend) ho ha h.1.1.1 h.1.1.2 h.1.2 h.2
theorem m_clear (h : meC o [] apos cpos = true) (ho : DE c o fo) : DR c (.Call (.Attribute o "clear" apos) [] [] cpos) (rMeth "list" clearM fo aNil) := by
  unfold meC at h
  simp only [Bool.and_eq_true] at h
  exact dr_meth0 PySem.F.plainAttrs_list PySem.F.slot_list_clear PySem.F.type_list_clear (fun _ _ => meth_clear) ho h.1.1.1 h.2
theorem m_pop (h : meC o [] apos cpos = true) (ho : DE c o fo) : DR c (.Call (.Attribute o "pop" apos) [] [] cpos) (rMeth "list" popM fo aNil) := by
  unfold meC at h
  simp only [Bool.and_eq_true] at h
  exact dr_meth0 PySem.F.plainAttrs_list PySem.F.slot_list_pop PySem.F.type_list_pop (fun _ _ => meth_pop) ho h.1.1.1 h.2
end
end Cut
end
section
/-! CutMore2: {}, stars in displays, d.get, several values to several names. -/
namespace Cut
open PySem PySem.Spec PyProof.Rows L2

/-! ### {} -/
def rDisp0 : RM := fun s => .ok (.fd [] []) s
theorem dr_disp0 {c : SI} {pos : Pos} : DR c (.Dict [] [] pos) rDisp0 := fun X W S tk => pe_dnewK.imp fun σ H Q h => by
  obtain ⟨ι, F, ps, r, q⟩ := h
  intro p hp
  have g : Grow H (upd H p (.dK [])) := Grow.upd hp
  have nF := not_ref r.ob hp
  exact q ι F _ (.ref p) (Ext.grow g) (r.grow g) ⟨p, [], rfl, hp, nF.1, nF.2, upd_same, .nil, .nil⟩
/-! ### xs[::-1] -/
section
variable {P : Program} {w : World} {A : Around} {E : Value → Shared → Prop} {z : Shared}
theorem fm_congr {α β : Type} {f g : α → Option β} : ∀ l : List α, (∀ a ∈ l, f a = g a) → l.filterMap f = l.filterMap g
  | [], _ => rfl
  | a :: l, h => by rw [List.filterMap_cons, List.filterMap_cons, h a List.mem_cons_self, fm_congr l fun b hb => h b (List.mem_cons_of_mem _ hb)]
theorem back_all (xs : Array Value) : ((List.range xs.size).filterMap fun (k : Nat) => xs[((xs.size : Int) - 1 + (k : Int) * (-1)).toNat]?).toArray = xs.toList.reverse.toArray := by
  have e : ((List.range xs.size).filterMap fun (k : Nat) => xs[((xs.size : Int) - 1 + (k : Int) * (-1)).toNat]?) = (List.range xs.size).filterMap fun (k : Nat) => xs.toList.reverse.toArray[((0 : Nat) + (k : Int) * 1).toNat]? := by
    refine fm_congr _ fun k hk => ?_
    have hk : k < xs.size := List.mem_range.mp hk
    have e1 : ((xs.size : Int) - 1 + (k : Int) * (-1)).toNat = xs.size - 1 - k := by omega
    have e2 : (((0 : Nat) : Int) + (k : Int) * 1).toNat = k := by omega
    have hk2 : k < xs.toList.length := by rw [Array.length_toList]; exact hk
    have e3 : xs.toList.reverse.toArray[k]? = xs.toList.reverse[k]? := by simp only [List.getElem?_toArray]
    rw [e1, e2, e3, List.getElem?_reverse hk2, Array.getElem?_toList, Array.length_toList]
  rw [e, HT.pick_gen xs.toList.reverse.toArray 0 xs.size]
  rw [List.drop_zero, List.take_of_length_le (by simp)]
theorem places_back (n : Nat) : Builtin.Slice.slicePlaces ((n : Int) - 1) (-1) (-1) = n := by
  unfold Builtin.Slice.slicePlaces
  rw [if_neg (by decide)]
  by_cases h : (n : Int) - 1 > -1
  · rw [if_pos h]
    have : ((n : Int) - 1 - -1 - 1) / (- -1) = (n : Int) - 1 := by
      have e : (-(-1) : Int) = 1 := rfl
      rw [e, Int.ediv_one]; omega
    rw [this]; omega
  · rw [if_neg h]
    show (0 : Int).toNat = n
    omega
theorem applied_back {b : Addr} {v1 v2 v3 : Value} {n : Nat} {Q : Int × Int × Nat → Shared → Prop} (hs : z.heap.IsSliceOf b v1 v2 v3) (p1 : IsPart v1 none) (p2 : IsPart v2 none) (p3 : IsPart v3 (some (-1))) (h : Q ((n : Int) - 1, -1, n) z) :
    wpAny (model P w) A (Builtin.Slice.sliceApplied (.ref b) (pure (n : Int))) Q E z := by
  obtain ⟨o, ho, _, hd⟩ := hs
  unfold Builtin.Slice.sliceApplied Builtin.Slice.sliceFields
  refine wpAny_bind (wpAny_bind (wpAny_field ho hd (x := v1) rfl (wpAny_bind (wpAny_field ho hd (x := v2) rfl (wpAny_bind (wpAny_field ho hd (x := v3) rfl (wpAny_pure ?_)))))))
  refine wpAny_bind (HT.slicePart_ p3 ?_)
  show wpAny _ _ (if ((-1 : Int) == 0) = true then _ else _) _ _ z
  rw [if_neg (by decide)]
  refine wpAny_bind (HT.slicePart_ p1 (wpAny_bind (HT.slicePart_ p2 (wpAny_bind (wpAny_pure ?_)))))
  show wpAny _ _ (pure ((n : Int) - 1, (-1 : Int), Builtin.Slice.slicePlaces ((n : Int) - 1) (-1) (-1))) _ _ z
  rw [places_back]
  exact wpAny_pure h
theorem item_back {t b : Addr} {xs : Array Value} {v1 v2 v3 : Value} {Q : Value → Shared → Prop} (ht : IsTup z.heap t xs) (hs : z.heap.IsSliceOf b v1 v2 v3) (p1 : IsPart v1 none) (p2 : IsPart v2 none) (p3 : IsPart v3 (some (-1))) (hz : xs.size ≤ sizeLine)
    (h : Q (.ref z.heap.objs.size) { z with heap := z.heap.push { cls := .type "tuple", data := .seq xs.toList.reverse.toArray } }) : wpAny (model P w) A (getItem (.ref t) (.ref b)) Q E z := by
  have small : sizeOk (.seq xs.toList.reverse.toArray) := by
    show xs.toList.reverse.toArray.size ≤ sizeLine
    simpa using hz
  have T : z.TypeIs (.ref b) "slice" := let ⟨o, ho, hc, _⟩ := hs; ⟨o, ho, hc⟩
  unfold getItem
  try with_reducible refine wpAny_holding ?_
  first | refine wpAny_bind (wpAny_pure ?_) | skip
  refine wpAny_bind (wpAny_sequenceKey ht.typeIs (by decide) ?_)
  refine wpAny_bind (wpAny_callSpecial?_slot (name := Str.ofString "__getitem__") ht.typeIs PyProof.Rows.slot_tuple_getitem (wpAny_call_entry PyProof.Rows.slot_tuple_getitem ht.typeIs entry_tuple_getitem ?_ (args_tuple_getitem _ _)))
  show wpAny _ _ (Builtin.Tuple.tupleItemsOf (.ref t) >>= _) _ _ z
  refine wpAny_bind (tupleItemsOf_ ht (wpAny_bind (wpAny_typeOf T ?_)))
  rw [if_pos (by decide)]
  refine wpAny_bind (applied_back hs p1 p2 p3 ?_)
  show wpAny _ _ (if (((xs.size : Int) - 1) == 0 && (-1 : Int) == 1 && xs.size == xs.size) = true then _ else _) _ _ z
  rw [if_neg (by simp), back_all]
  first
    | exact wpAny_bind (wpAny_bind (m := Builtin.Tuple.tupleExact _) (wpAny_newObj_type (wpAny_pure ⟨_, rfl, wpAny_pure h⟩) small))
    | exact wpAny_bind (m := Builtin.Tuple.tupleExact _) (wpAny_newObj_type (wpAny_bind (wpAny_pure (wpAny_pure ⟨_, rfl, wpAny_pure h⟩))) small)
    | exact wpAny_bind (m := Builtin.Tuple.tupleExact _) (wpAny_newObj_type (wpAny_pure ⟨_, rfl, wpAny_pure h⟩) small)
    | exact wpAny_bind (wpAny_bind (m := Builtin.Tuple.tupleExact _) (wpAny_newObj_type (wpAny_pure (wpAny_pure ⟨_, rfl, wpAny_pure h⟩)) small))
end
/-- a list or a tuple, from behind -/
def tBack (K : PySem.W.Frag) (te : TE) : TE := fun σ H Q => te σ H fun x H1 => ∃ a xs, x = .ref a ∧ ((SqL K H1 a xs ∧ ∀ p, H1 p = none → Q (.ref p) (upd H1 p (.lst xs.reverse))) ∨ (SqT K H1 a xs ∧ ∀ p, H1 p = none → Q (.ref p) (upd H1 p (.tup xs.reverse))))
theorem pe_back {X : Cx} {e : Expr} {te : TE} {k : Nat} {p1 p2 p3 pos : Pos} (he : PE X e te) : PE X (.Subscript e (.Slice none none (some (.UnaryOp .USub (.Constant (.int 1) k p1) p2)) p3) pos) (tBack X.K te) := by
  have step : PO X (some (.UnaryOp .USub (.Constant (.int 1) k p1) p2)) (tPart (tUn (rU fun i => .int (-i)) (tC (.int 1)))) := po_some (pe_un un_neg pe_int)
  refine ⟨fun pins s σ H Q I h => Subscript_ (thn (he.run pins s σ H _ I h) fun v s1 ⟨x, H1, I1, r1, a, xs, hx, hq⟩ => ?_)⟩
  subst hx
  obtain rfl : v = .ref a := r1
  refine wpAny_Slice (thn (po_none.run pins s1 σ H1 (fun o h => o = none ∧ h = H1) I1 ⟨rfl, rfl⟩) fun v1 s2 ⟨_, _, I2, q1, rfl, rfl⟩ => ?_)
  refine thn (po_none.run pins s2 σ H1 (fun o h => o = none ∧ h = H1) I2 ⟨rfl, rfl⟩) fun v2 s3 ⟨_, _, I3, q2, rfl, rfl⟩ => ?_
  refine thn (step.run pins s3 σ H1 (fun o h => o = some (-1) ∧ h = H1) I3 ⟨1, rfl, -1, rfl, rfl, rfl⟩) fun v3 s4 ⟨_, _, I4, q3, rfl, rfl⟩ => ?_
  have J : Inv X pins σ H1 { s4 with heap := s4.heap.push { cls := .type "slice", data := .fields #[v1, v2, v3] } } := I4.kept (t' := s4.toks) fun b ob q => Heap.get?_push_of_some _ q
  show wpAny _ X.A (subscriptTail e (.Slice none none (some (.UnaryOp .USub (.Constant (.int 1) k p1) p2)) p3) (.ref a) (.ref s4.heap.objs.size)) (EP X pins σ Q) X.xe { s4 with heap := s4.heap.push { cls := .type "slice", data := .fields #[v1, v2, v3] } }
  rcases hq with ⟨hx, q⟩ | ⟨hx, q⟩
  · obtain ⟨its, r, ht, hz⟩ := J.list hx
    have hlen := r.length
    refine tail_any (ops := [.ref a, .ref s4.heap.objs.size]) ht.isList.typeIs PySem.slot_list_getitem.lookup (wpAny_getItem_list_slice ht.isList (Heap.IsSliceOf.new _ v1 v2 v3) q1 q2 q3 (by decide) ?_ (by rw [List.size_toArray]; omega)) (by with_unfolding_all rfl)
    rw [PySem.W.krv_pick]
    refine ⟨.ref _, _, J.laid (t' := s4.toks) (o := .lst xs.reverse) (fun b ob q => Heap.get?_push_of_some _ q) (Nat.le_refl _) ?_, rfl, q _ (J.hok.fresh (Nat.le_refl _))⟩
    exact ⟨(by rw [List.length_reverse]; exact hz), _, 0, r.reverse, Heap.get?_push_size _ rfl⟩
  · obtain ⟨its, r, ht, hz⟩ := J.tuple hx
    have hlen := r.length
    refine tail_any (ops := [.ref a, .ref s4.heap.objs.size]) ht.typeIs PyProof.Rows.slot_tuple_getitem.lookup (item_back ht (Heap.IsSliceOf.new _ v1 v2 v3) q1 q2 q3 (by rw [List.size_toArray]; omega) ?_) (by with_unfolding_all rfl)
    refine ⟨.ref _, _, J.laid (t' := s4.toks) (o := .tup xs.reverse) (fun b ob q => Heap.get?_push_of_some _ q) (Nat.le_refl _) ?_, rfl, q _ (J.hok.fresh (Nat.le_refl _))⟩
    exact ⟨(by rw [List.length_reverse]; exact hz), _, r.reverse, _, Heap.get?_push_size _ rfl, rfl, 0, rfl⟩
def rRev (f : EM) : RM := fun s => (f s).bind fun d s1 => match look s1.ob d with
  | .lst l => .ok (.fl l.reverse) s1
  | .scr l => .ok (.fl l.reverse) s1
  | .tup l => .ok (.val (.tup l.reverse)) s1
  | _ => .bad
theorem dr_revL {c : SI} {e : Expr} {f : EM} {k : Nat} {p1 p2 p3 pos : Pos} (h : DE c e f) : DR c (.Subscript e (.Slice none none (some (.UnaryOp .USub (.Constant (.int 1) k p1) p2)) p3) pos) (rRev f) := fun X W S tk => (pe_back (h X W S tk)).imp fun σ H Q q => by
  obtain ⟨ι, F, ps, r, q⟩ := q
  refine ⟨ι, F, ps, r, Sat.seq q fun d ps1 ι1 F1 H1 v e1 r1 d1 s => ?_⟩
  have hd := d1.look r1.ob
  generalize look ps1.ob d = dd at s hd
  have fin : ∀ {a : Addr} {xs : List V} {l : List D}, Dens X.kw ι1 F1 H1 xs l → (∀ ι' F' H' b, Ext ι F H ι' F' H' → Rel X.kw X.mg ι' F' ps1 σ H' → DenR X.kw ι' F' H H' b (.fl l.reverse) → Q b H') →
      ∀ p, H1 p = none → Q (.ref p) (upd H1 p (.lst xs.reverse)) := fun {a xs l} h2 s p hp => by
    have g : Grow H1 (upd H1 p (.lst xs.reverse)) := Grow.upd hp
    have nF := not_ref r1.ob hp
    exact s ι1 F1 _ _ (e1.trans (Ext.grow g)) (r1.grow g) ⟨p, _, rfl, e1.there p hp, nF.1, nF.2, upd_same, (h2.reverse).grow g⟩
  cases dd with
  | lst l =>
    obtain ⟨a, xs, rfl, ha, da⟩ := hd
    exact ⟨a, xs, rfl, .inl ⟨.inl (.inl ha), fin (a := a) da s⟩⟩
  | scr l =>
    obtain ⟨a, xs, rfl, ha, da⟩ := rdn_scr hd
    exact ⟨a, xs, rfl, .inl ⟨ha.sq, fin (a := a) da s⟩⟩
  | tup l =>
    obtain ⟨a, xs, rfl, ha, da⟩ := rdn_tup hd
    refine ⟨a, xs, rfl, .inr ⟨ha, fun p hp => ?_⟩⟩
    have g : Grow H1 (upd H1 p (.tup xs.reverse)) := Grow.upd hp
    exact s ι1 F1 _ _ (e1.trans (Ext.grow g)) (r1.grow g) (.tup (.inl (.inl upd_same)) ((da.reverse).grow g))
  | _ => exact s.elim
/-! ### *e in a display -/
def aStar (f : EM) (g : AM) : AM := fun s => (f s).bind fun d s1 => match seqD (look s1.ob d) with
  | some l => (g s1).bind fun ds s2 => .ok (l ++ ds) s2
  | none => .bad
theorem da_star {c : SI} {e : Expr} {es : List Expr} {f : EM} {g : AM} {p : Pos} (h1 : DE c e f) (h2 : DA c es g) : DA c (.Starred e p :: es) (aStar f g) := fun X W S tk => (StX.pa_star (h1 X W S tk) (h2 X W S tk)).imp fun σ H Q h => by
  obtain ⟨ι, F, ps, r, q⟩ := h
  refine ⟨ι, F, ps, r, Sat.seq q fun d ps1 ι1 F1 H1 v e1 r1 d1 s => ?_⟩
  have hd := d1.look r1.ob
  generalize look ps1.ob d = dd at s hd
  have fin : ∀ {a : Addr} {xs : List V} {l : List D}, (SqT X.K H1 a xs ∨ SqL X.K H1 a xs) → Dens X.kw ι1 F1 H1 xs l → Sat X.kw X.mg W (rA X.kw) σ ι F H ((g ps1).bind fun ds s2 => .ok (l ++ ds) s2) Q →
      ∃ a' xs', V.ref a = .ref a' ∧ (SqT X.K H1 a' xs' ∨ SqL X.K H1 a' xs') ∧ tA X.kw X.mg W g σ H1 fun ys H2 => Q (xs' ++ ys) H2 := fun {a xs l} h1 h2 s =>
    ⟨a, xs, rfl, h1, ι1, F1, ps1, r1, Sat.seq (s.on rA_mono e1) fun ds ps2 ι2 F2 H2 vs e2 r2 d2 s => s ι2 F2 H2 _ e2 r2 ((h2.ext e2).append d2)⟩
  cases dd with
  | lst l =>
    obtain ⟨a, xs, rfl, ha, da⟩ := hd
    exact fin (.inr (.inl (.inl ha))) da s
  | scr l =>
    obtain ⟨a, xs, rfl, ha, da⟩ := rdn_scr hd
    exact fin (.inr ha.sq) da s
  | tup l =>
    obtain ⟨a, xs, rfl, ha, da⟩ := rdn_tup hd
    exact fin (.inl ha) da s
  | _ => exact s.elim
/-! ### d.get(k), d.get(k, e) -/
def getD2 (d : D) (key : D) (dflt : D) : Option D := match d with
  | .dct ks vs => match key with
    | .non => some dflt
    | key => match keyD key with
      | some k => some ((getK ks vs k).getD dflt)
      | none => none
  | _ => none
/-- None is no key of such a dict -/
theorem d_getNone2 {X : Cx} {pins : List (Addr × Obj)} {σ : L2.St} {H : Hp} {s : Shared} {a : Addr} {kvs : List (Key × V)} {d : V} {r : Value} {E : Value → Shared → Prop} {A : Around} {Q : Value → Shared → Prop} (I : Inv X pins σ H s) (e : Rd H a (.dK kvs)) (rd : RelV d r) (h : ∀ w' s', Inv X pins σ H s' → RelV d w' → Q w' s') :
    wpAny (model X.prog X.w) A (call (.builtin "dict.get") [.ref a, .none, r]) Q E s := by
  obtain ⟨z, hd, vs, rel, dd⟩ := dk_rd I.hok e
  obtain ⟨f, m, hf⟩ := none_map dd
  refine call_meetsIn PySem.F.slot_dict_get dd.typeIs PySem.F.entry_dict_get (PySem.F.args_dict_get_3 _ _ _) (meets_dict_get_default (noneKind X.prog X.w) a (k := none) rfl hd r) ⟨f, m, h _ _ (I.tok _) ?_⟩
  rw [hf]
  exact rd
theorem d_getNone1 {X : Cx} {pins : List (Addr × Obj)} {σ : L2.St} {H : Hp} {s : Shared} {a : Addr} {kvs : List (Key × V)} {E : Value → Shared → Prop} {A : Around} {Q : Value → Shared → Prop} (I : Inv X pins σ H s) (e : Rd H a (.dK kvs)) (h : ∀ s', Inv X pins σ H s' → Q .none s') :
    wpAny (model X.prog X.w) A (call (.builtin "dict.get") [.ref a, .none]) Q E s := by
  obtain ⟨z, hd, vs, rel, dd⟩ := dk_rd I.hok e
  obtain ⟨f, m, hf⟩ := none_map dd
  refine call_meetsIn PySem.F.slot_dict_get dd.typeIs PySem.F.entry_dict_get (PySem.F.args_dict_get_2 _ _) (meets_dict_get (noneKind X.prog X.w) a (k := none) rfl hd) ⟨f, m, ?_⟩
  rw [hf]
  exact h _ (I.tok _)
def getM : ME := fun o ds ob => match ds with
  | [k] => (getD2 (look ob o) k .non).map fun v => (.val v, ob)
  | [k, d] => (getD2 (look ob o) k d).map fun v => (.val v, ob)
  | _ => none
theorem meth_get {X : Cx} (hu : X.A.units + 1 < cLine) : MethOK X "dict.get" getM := by
  intro pins s σ H x xs v us Q ι F ob d ds r ob' I rx rxs ro hx hxs hm q
  have hd := hx.look ro
  unfold getM at hm
  have core : ∀ {k dflt w : D} {y : V}, getD2 (look ob d) k dflt = some w → Den X.kw ι F H y k → (∃ a o, x = .ref a ∧ DGet H a y o ∧ ∀ z, Den X.kw ι F H z dflt → Den X.kw ι F H (o.getD z) w) ∨ (y = .non ∧ ∃ a kvs, x = .ref a ∧ Rd H a (.dK kvs) ∧ w = dflt) := fun {k dflt w y} hg hy => by
    unfold getD2 at hg
    generalize look ob d = dd at hd hg
    cases dd with
    | dct ks vs =>
      obtain ⟨a, kvs, rfl, ha, dk, dv⟩ := hd
      simp only at hg
      by_cases hkn : k = .non
      · subst hkn
        cases hg
        cases hy
        exact .inr ⟨rfl, a, kvs, rfl, .inl ha, rfl⟩
      · refine .inl ?_
        have hg : (match keyD k with
          | some k => some ((getK ks vs k).getD dflt)
          | none => none) = some w := by
          cases k <;> first | exact hg | exact absurd rfl hkn
        cases hk : keyD k with
        | none => rw [hk] at hg; cases hg
        | some key =>
          rw [hk] at hg
          cases hg
          rcases getK_valV key dk dv with ⟨w, d2, h1, h2, h3⟩ | ⟨h1, h2⟩
          · refine ⟨a, some w, rfl, .inl ⟨kvs, key, .inl ha, hy.key hk, h1.symm⟩, fun z hz => ?_⟩
            rw [h2]; exact h3
          · refine ⟨a, none, rfl, .inl ⟨kvs, key, .inl ha, hy.key hk, h1.symm⟩, fun z hz => ?_⟩
            rw [h2]; exact hz
    | _ => cases hg
  split at hm
  · rename_i k
    cases hxs with
    | cons hk hn =>
      cases hn
      obtain ⟨u, rfl, ru⟩ := rxs.one
      cases hg : getD2 (look ob d) k .non with
      | none => rw [hg] at hm; cases hm
      | some w =>
        rw [hg] at hm
        cases hm
        rcases core hg hk with ⟨a, o, rfl, g, hw⟩ | ⟨rfl, a, kvs, rfl, hr, rfl⟩
        · cases rx
          exact d_get1 hu I g ru fun w' s' I' rw' => ⟨_, H, I', rw', q ι F H _ Ext.refl ro (hw .non .non)⟩
        · cases rx
          cases ru
          exact d_getNone1 I hr fun s' I' => ⟨.non, H, I', rfl, q ι F H _ Ext.refl ro .non⟩
  · rename_i k dflt
    cases hxs with
    | cons hk hn =>
      cases hn with
      | cons hdf hn =>
        cases hn
        obtain ⟨u1, u2, rfl, ru1, ru2⟩ := rxs.two
        cases hg : getD2 (look ob d) k dflt with
        | none => rw [hg] at hm; cases hm
        | some w =>
          rw [hg] at hm
          cases hm
          rcases core hg hk with ⟨a, o, rfl, g, hw⟩ | ⟨rfl, a, kvs, rfl, hr, rfl⟩
          · cases rx
            exact d_get2 hu I g ru1 ru2 fun w' s' I' rw' => ⟨_, H, I', rw', q ι F H _ Ext.refl ro (hw _ hdf)⟩
          · cases rx
            cases ru1
            exact d_getNone2 I hr ru2 fun w' s' I' rw' => ⟨_, H, I', rw', q ι F H _ Ext.refl ro hdf⟩
  · cases hm
theorem m_get {c : SI} {o e : Expr} {es : List Expr} {fo : EM} {as : AM} {apos cpos : Pos} (hc : c.calm = true) (h : meC o (e :: es) apos cpos = true) (ho : DE c o fo) (ha : DA c (e :: es) as) : DR c (.Call (.Attribute o "get" apos) (e :: es) [] cpos) (rMeth "dict" getM fo as) := by
  unfold meC at h
  simp only [Bool.and_eq_true] at h
  exact dr_meth PySem.F.plainAttrs_dict PySem.F.slot_dict_get PySem.F.type_dict_get (fun _ S => meth_get (by have := (S.room hc).un; omega)) ho ha h.1.1.1 h.1.1.2 h.1.2 h.2
/-! ### a, b, .. = e1, e2, .. where the tuple is made first -/
theorem ds_asgT {c : SI} {es vs : List Expr} {k k2 : Nat} {t : Tg} {p p2 pos : Pos} {f : EM} (hk : kindF c.sc.kind = true) (hs : swappedStores [.Tuple es k p] (.Tuple vs k2 p2) (envS c.sc) = pure none) (he : DE c (.Tuple vs k2 p2) f) (hg : DG c (.Tuple es k p) t) : DS c (.Assign [.Tuple es k p] (.Tuple vs k2 p2) pos) (sAsg t f) := fun X W S tk hp =>
  (ps_asg (he X W S tk) (hg X S) (sole_tup _ _ _) (by rw [sw_of S (kindF_ok hk)]; exact hs) (by rfl)).imp fun E σ H h => by
    obtain ⟨ι, F, ps, r, h⟩ := h
    refine ⟨ι, F, ps, r, SSat.exp h fun d ps1 ι1 F1 H1 v e1 r1 d1 s => ?_⟩
    cases hp : t.put d ps1.sl with
    | none => rw [hp] at s; exact s.elim
    | some sl =>
      rw [hp] at s
      exact ⟨ι1, F1, ps1, d, sl, r1, d1, hp, fun σ' r' _ => s ι1 F1 H1 σ' e1 r'⟩
end Cut
end
section
/-! CutHead: a module's constants and defs, from what the head tells. -/
namespace Cut
open PySem PySem.Spec PyProof.Rows L2

/-! ### constants of the module -/
mutual
def denB (K : PySem.W.Frag) : D → Value → Bool
  | .non, u => match u with
    | .none => true
    | _ => false
  | .bl b, u => match u with
    | .bool a => a == b
    | _ => false
  | .int j, u => match u with
    | .int i _ => decide (i = j)
    | _ => false
  | .str y, u => match u with
    | .str x _ => decide (x = y)
    | _ => false
  | .tup l, u => match u with
    | .ref p => (match K.lookup p with
      | some ⟨.type c, _, .seq its _, _⟩ => decide (c = "tuple") && decide (its.size ≤ sizeLine) && denBs K l its.toList
      | _ => false)
    | _ => false
  | .lst _, _ => false | .scr _, _ => false | .dct _ _, _ => false | .set _, _ => false | .tbl _ _, _ => false | .ob _, _ => false
def denBs (K : PySem.W.Frag) : List D → List Value → Bool
  | [], us => us.isEmpty
  | d :: ds, us => match us with
    | u :: us => denB K d u && denBs K ds us
    | [] => false
end
mutual
theorem denB_ok {K : PySem.W.Frag} : ∀ (d : D) (u : Value), denB K d u = true → ∃ v, RelV v u ∧ ∀ w P ι F H, Den ⟨K, w, P⟩ ι F H v d
  | .non, u, h => by
    cases u <;> first
      | exact ⟨.non, rfl, fun _ _ _ _ _ => .non⟩
      | (simp [denB] at h; done)
  | .bl b, u, h => by
    cases u <;> first
      | (rename_i a
         have e : a = b := by simpa [denB] using h
         subst e
         exact ⟨.bl a, rfl, fun _ _ _ _ _ => .bl a⟩)
      | (simp [denB] at h; done)
  | .int j, u, h => by
    cases u <;> first
      | (rename_i i t
         have e : i = j := by simpa [denB] using h
         subst e
         exact ⟨.int i, ⟨t, rfl⟩, fun _ _ _ _ _ => .int i⟩)
      | (simp [denB] at h; done)
  | .str j, u, h => by
    cases u <;> first
      | (rename_i i t
         have e : i = j := by simpa [denB] using h
         subst e
         exact ⟨.str i, ⟨t, rfl⟩, fun _ _ _ _ _ => .str i⟩)
      | (simp [denB] at h; done)
  | .tup l, u, h => by
    cases u with
    | ref p =>
      simp only [denB] at h
      split at h
      · rename_i c od its n sl e
        simp only [Bool.and_eq_true] at h
        obtain ⟨⟨h1, h2⟩, h3⟩ := h
        obtain ⟨vs, r, d⟩ := denBs_ok l its.toList h3
        exact ⟨.ref p, rfl, fun w P ι F H => .tup (.inr ⟨_, its, n, e, congrArg Value.type (of_decide_eq_true h1), rfl, of_decide_eq_true h2, r⟩) (d w P ι F H)⟩
      · cases h
    | _ => simp [denB] at h
  | .lst _, _, h => by simp [denB] at h
  | .scr _, _, h => by simp [denB] at h
  | .dct _ _, _, h => by simp [denB] at h
  | .set _, _, h => by simp [denB] at h
  | .tbl _ _, _, h => by simp [denB] at h
  | .ob _, _, h => by simp [denB] at h
theorem denBs_ok {K : PySem.W.Frag} : ∀ (ds : List D) (us : List Value), denBs K ds us = true → ∃ vs, Vals vs us ∧ ∀ w P ι F H, Dens ⟨K, w, P⟩ ι F H vs ds
  | [], us, h => by
    cases us with
    | nil => exact ⟨[], .nil, fun _ _ _ _ _ => .nil⟩
    | cons u us => simp [denBs] at h
  | d :: ds, us, h => by
    cases us with
    | nil => simp [denBs] at h
    | cons u us =>
      simp only [denBs, Bool.and_eq_true] at h
      obtain ⟨v, r, p⟩ := denB_ok d u h.1
      obtain ⟨vs, rs, q⟩ := denBs_ok ds us h.2
      exact ⟨v :: vs, .cons r rs, fun w P ι F H => .cons (p w P ι F H) (q w P ι F H)⟩
end
def constB (K : PySem.W.Frag) (x : Str) (d : D) : Bool := match PySem.W.nsIn K mainGlobals x with
  | some (some u) => denB K d u
  | _ => false
def kdB (K : PySem.W.Frag) (x : Str) (kvs : List (Str × D)) : Bool := kvs.all fun q => match PySem.W.nsIn K (He.ga K x) q.1 with
  | some (some u) => denB K q.2 u
  | _ => false
section
variable {P : Program} {w : World} {K : PySem.W.Frag} {mg : Str → Option Value} {base : Heap}
theorem constB_ok (kin : K.In base) (ns : base.Ns mainGlobals mg) {x : Str} {d : D} (h : constB K x d = true) : ∃ u v, mg x = some u ∧ RelV v u ∧ ∀ w P ι F H, Den ⟨K, w, P⟩ ι F H v d := by
  unfold constB at h
  split at h
  · rename_i u e
    obtain ⟨v, r, p⟩ := denB_ok d u h
    exact ⟨u, v, PySem.W.mg_of kin ns e, r, p⟩
  · cases h
theorem kdB_ok (kin : K.In base) (ns : base.Ns mainGlobals mg) {x : Str} {kvs : List (Str × D)} {es : Array DictEntry} {n : Nat} (hg : mg x = some (.ref (He.ga K x))) (hd : KDict K w (He.ga K x) es n) (h : kdB K x kvs = true) :
    ∃ a, mg x = some (.ref a) ∧ ∀ q ∈ kvs, ∃ v, KDct K w a q.1 v ∧ ∀ w P ι F H, Den ⟨K, w, P⟩ ι F H v q.2 := by
  refine ⟨He.ga K x, hg, fun q hq => ?_⟩
  have h := List.all_eq_true.mp h q hq
  split at h
  · rename_i u e
    obtain ⟨v, r, p⟩ := denB_ok q.2 u h
    exact ⟨v, ⟨es, n, u, hd.at_, hd.lit, e, r⟩, p⟩
  · cases h

/-! ### defs -/
/-- a def that may be called, at a level -/
structure FnX (P : Program) (w : World) (K : PySem.W.Frag) (mg : Str → Option Value) (base : Heap) (k : Nat) (i : FnI) : Prop where
  ex : ∃ (f : Addr) (fd : FuncData) (ps : List Str), mg i.name = some (.ref f) ∧ PySem.W.keepIn K (.ref f) = true ∧ Binds K fd ps [] ∧ ps.length = i.n ∧ FnG P w K mg base k f fd ps (spD ⟨K, w, P⟩ mg i.n i.f)
/-- the defs of a list -/
def AllX (P : Program) (w : World) (K : PySem.W.Frag) (mg : Str → Option Value) (base : Heap) (k : Nat) (l : List FnI) : Prop := ∀ i ∈ l, ∃ j, j ≤ k ∧ FnX P w K mg base j i
theorem AllX.nil {k : Nat} : AllX P w K mg base k [] := fun i h => by cases h
theorem AllX.cons {k j : Nat} {i : FnI} {l : List FnI} (h : FnX P w K mg base j i) (hj : j ≤ k) (hl : AllX P w K mg base k l) : AllX P w K mg base k (i :: l) := fun x hx => by
  rcases List.mem_cons.mp hx with rfl | hx
  · exact ⟨j, hj, h⟩
  · exact hl x hx
def ConsX (K : PySem.W.Frag) (mg : Str → Option Value) (l : List (Str × D)) : Prop := ∀ p ∈ l, ∃ u v, mg p.1 = some u ∧ RelV v u ∧ ∀ w P ι F H, Den ⟨K, w, P⟩ ι F H v p.2
theorem ConsX.nil : ConsX K mg [] := fun i h => by cases h
theorem ConsX.cons {x : Str} {d : D} {l : List (Str × D)} (h : ∃ u v, mg x = some u ∧ RelV v u ∧ ∀ w P ι F H, Den ⟨K, w, P⟩ ι F H v d) (hl : ConsX K mg l) : ConsX K mg ((x, d) :: l) := fun p hp => by
  rcases List.mem_cons.mp hp with rfl | hp
  · exact h
  · exact hl p hp
def BltX (mg : Str → Option Value) (l : List Str) : Prop := ∀ x ∈ l, mg x = none
theorem BltX.nil : BltX mg [] := fun i h => by cases h
theorem BltX.cons {x : Str} {l : List Str} (h : mg x = none) (hl : BltX mg l) : BltX mg (x :: l) := fun p hp => by
  rcases List.mem_cons.mp hp with rfl | hp
  · exact h
  · exact hl p hp
def KdsX (w : World) (K : PySem.W.Frag) (mg : Str → Option Value) (l : List (Str × List (Str × D))) : Prop := ∀ p ∈ l, ∃ a, mg p.1 = some (.ref a) ∧ ∀ q ∈ p.2, ∃ v, KDct K w a q.1 v ∧ ∀ w P ι F H, Den ⟨K, w, P⟩ ι F H v q.2
theorem KdsX.nil : KdsX w K mg [] := fun i h => by cases h
theorem KdsX.cons {x : Str} {d : List (Str × D)} {l : List (Str × List (Str × D))} (h : ∃ a, mg x = some (.ref a) ∧ ∀ q ∈ d, ∃ v, KDct K w a q.1 v ∧ ∀ w P ι F H, Den ⟨K, w, P⟩ ι F H v q.2) (hl : KdsX w K mg l) : KdsX w K mg ((x, d) :: l) := fun p hp => by
  rcases List.mem_cons.mp hp with rfl | hp
  · exact h
  · exact hl p hp
def ExcsX (P : Program) (w : World) (K : PySem.W.Frag) (mg : Str → Option Value) (base : Heap) (k : Nat) (l : List (Str × Option Str)) : Prop := ∀ e ∈ l, ExcAt P w K mg base (fun j => j ≤ k) e
theorem ExcsX.nil {k : Nat} : ExcsX P w K mg base k [] := fun i h => by cases h
theorem ExcsX.cons {k : Nat} {e : Str × Option Str} {l : List (Str × Option Str)} (h : ExcAt P w K mg base (fun j => j ≤ k) e) (hl : ExcsX P w K mg base k l) : ExcsX P w K mg base k (e :: l) := fun p hp => by
  rcases List.mem_cons.mp hp with rfl | hp
  · exact h
  · exact hl p hp
def ExmsX (K : PySem.W.Frag) (mg : Str → Option Value) (l : List (Str × Str × Bool)) : Prop := ∀ t ∈ l, ExmAt K mg t
theorem ExmsX.nil : ExmsX K mg [] := fun i h => by cases h
theorem ExmsX.cons {t : Str × Str × Bool} {l : List (Str × Str × Bool)} (h : ExmAt K mg t) (hl : ExmsX K mg l) : ExmsX K mg (t :: l) := fun p hp => by
  rcases List.mem_cons.mp hp with rfl | hp
  · exact h
  · exact hl p hp
def FactsX (P : Program) (w : World) (K : PySem.W.Frag) (mg : Str → Option Value) (base : Heap) (k : Nat) (l : List FactT) : Prop := ∀ φ ∈ l, φ.p P w K mg base (fun j => j ≤ k)
theorem FactsX.nil {k : Nat} : FactsX P w K mg base k [] := fun i h => by cases h
theorem FactsX.cons {k : Nat} {φ : FactT} {l : List FactT} (h : φ.p P w K mg base (fun j => j ≤ k)) (hl : FactsX P w K mg base k l) : FactsX P w K mg base k (φ :: l) := fun p hp => by
  rcases List.mem_cons.mp hp with rfl | hp
  · exact h
  · exact hl p hp
theorem _root_.L2.FunD.okG {x qual : Str} {params : Arguments} {body : List Stmt} {scope : Scope} {dvs : List V} {kws : List (Str × V)} {f : Addr} {fd : FuncData} {c : SI} {ps : List Str} {k n m : Nat} {g : SM} (F : FunD K x qual params body scope dvs kws f fd) (S : FnScope c.N ps scope)
    (hc : c.calm = true) (hsc : c.sc = scope) (h1 : AllX P w K mg base k c.fs) (h2 : ConsX K mg c.consts) (h3 : BltX mg c.blts) (h4 : KdsX w K mg c.kds) (hb : DSs c body g) (hps : ps.length = n) (hN : c.N.length = n + m) (h5 : ExcsX P w K mg base k c.exs := by exact ExcsX.nil) (h6 : ExmsX K mg c.exms := by exact ExmsX.nil) (h7 : FactsX P w K mg base k c.facts := by exact FactsX.nil) : FnG P w K mg base (k + 1) f fd ps (spD ⟨K, w, P⟩ mg n (evDef m g)) := by
  obtain ⟨oc, od, dV, kV, doc, pm, an, cdv, ct, osl, rfl, lk, hcd, _, _⟩ := F.ex
  refine fnG_of lk hcd S hc hsc ⟨fun i hi => ?_, fun p hp => let ⟨u, v, a, b, d⟩ := h2 p hp; ⟨u, v, a, b, d w P⟩, h3, fun p hp => let ⟨a, e, d⟩ := h4 p hp; ⟨a, e, fun q hq => let ⟨v, r, z⟩ := d q hq; ⟨v, r, z w P⟩⟩, h5, h6, h7⟩ hb hps hN
  obtain ⟨j, hj, f', fd', ps', g1, g2, g3, g4, g5⟩ := h1 i hi
  exact ⟨f', fd', j, ps', hj, g1, g2, g3, g4, g5⟩
theorem _root_.L2.FunD.okX {x qual : Str} {params : Arguments} {body : List Stmt} {scope : Scope} {kws : List (Str × V)} {f : Addr} {fd : FuncData} {c : SI} {ps : List Str} {k n m : Nat} {g : SM} (F : FunD K x qual params body scope [] kws f fd) (hm : mg x = some (.ref f)) (S : FnScope c.N ps scope)
    (bnd : ∀ (kV doc pm : Value) (an : Option Addr) (cdv ct : Value) (us : List Value), us.length = ps.length → bindArgs (PySem.W.fnOf x qual params body scope .none kV doc pm an cdv ct) ⟨us, []⟩ = pure (ps.zip us))
    (hc : c.calm = true) (hsc : c.sc = scope) (h1 : AllX P w K mg base k c.fs) (h2 : ConsX K mg c.consts) (h3 : BltX mg c.blts) (h4 : KdsX w K mg c.kds) (hb : DSs c body g) (hps : ps.length = n) (hN : c.N.length = n + m) (h5 : ExcsX P w K mg base k c.exs := by exact ExcsX.nil) (h6 : ExmsX K mg c.exms := by exact ExmsX.nil) (h7 : FactsX P w K mg base k c.facts := by exact FactsX.nil) : FnX P w K mg base (k + 1) ⟨x, n, evDef m g⟩ :=
  ⟨f, fd, ps, hm, F.kp, F.bindsN bnd, hps, F.okG S hc hsc h1 h2 h3 h4 hb hps hN h5 h6 h7⟩
end
end Cut
end
section
/-! CutComp2: list comprehensions of two clauses. -/
namespace Cut
open PySem PySem.Spec PyProof.Rows L2

theorem rComp2_read {X : Cx} {W : WX} {own own1 : List Nat} {src src1 : IM} {g g1 : Tg} {tt tt1 : TM} {f : EM} {σ : L2.St} {H : Hp} {Q : VK} (hv : ∀ i ∈ g.vars, i ∈ own) (hv1 : ∀ i ∈ g1.vars, i ∈ own1)
    (h : tR X.kw X.mg W (rComp2 own src g tt own1 src1 g1 tt1 f) σ H Q) :
    tLc2 (tO X.kw X.mg W (rI X.kw) src) (tG X.kw X.mg g) (tT X.kw X.mg (fun _ _ _ _ => False) tt) (tO X.kw X.mg (fun _ _ _ _ => False) (rI X.kw) src1) (tG X.kw X.mg g1) (tT X.kw X.mg (fun _ _ _ _ => False) tt1) (tE X.kw X.mg (fun _ _ _ _ => False) f) own own1 σ H Q := by
  obtain ⟨ι, F, ps, r, q⟩ := h
  refine ⟨ι, F, ps, r, Sat.seq q fun items ps1 ι1 F1 H1 J e1 r1 hJ s => ?_⟩
  have s : Sat X.kw X.mg W (rR X.kw) σ ι F H (match lcGo (lcTurn g tt (lcSrc src1 own1 (lcTurn g1 tt1 (lcElt f))) (wipeD ps1.sl own)) items ps1.ob with
    | some (l, ob) => if l.length ≤ sizeLine then .ok (.fl l) { ps1 with ob := ob } else .bad
    | none => .bad) Q := s
  intro L hL
  cases hg : lcGo (lcTurn g tt (lcSrc src1 own1 (lcTurn g1 tt1 (lcElt f))) (wipeD ps1.sl own)) items ps1.ob with
  | none => rw [hg] at s; exact s.elim
  | some lo =>
    obtain ⟨full, obF⟩ := lo
    rw [hg] at s
    have s : Sat X.kw X.mg W (rR X.kw) σ ι F H (if full.length ≤ sizeLine then .ok (.fl full) { ps1 with ob := obF } else .bad) Q := s
    by_cases hfull : full.length ≤ sizeLine
    · rw [if_pos hfull] at s
      have gr : Grow H1 (upd H1 L (.lst [])) := Grow.upd hL
      obtain ⟨nL, fL⟩ := not_ref r1.ob hL
      refine lc_walk (K := X.kw) (mg := X.mg) (ι1 := ι1) (F1 := F1) (H1 := H1) (ιj := ι1) (Fj := F1) (Hj := H1) (L := L) (sl := wipeD ps1.sl own) (full := full) (obF := obF) (k0 := fun ob => some ([], ob)) (step := lcTurn g tt (lcSrc src1 own1 (lcTurn g1 tt1 (lcElt f))) (wipeD ps1.sl own)) (items := items)
        (R := fun σ2 H2 Nx => tT X.kw X.mg (fun _ _ _ _ => False) tt σ2 H2 fun b H3 => if b = true then tO X.kw X.mg (fun _ _ _ _ => False) (rI X.kw) src1 σ2 H3 fun J1 H4 => ∃ W1 : Nat → Nat → Hp → Prop, (∃ m, W1 0 m H4) ∧ ∀ j k H, W1 j k H →
          (J1.stop j H ∧ Nx H) ∨ (J1.go j H ∧ ∃ Nx1 : Hp → Prop, (∀ H', Nx1 H' → ∃ k', k' < k ∧ W1 (j + 1) k' H') ∧ ∀ x H', J1.yld j H x H' → tG X.kw X.mg g1 x (wipe σ2 own1) H' fun σ3 H5 => wipe σ3 own1 = wipe σ2 own1 ∧ tT X.kw X.mg (fun _ _ _ _ => False) tt1 σ3 H5 fun b H6 =>
            if b = true then tE X.kw X.mg (fun _ _ _ _ => False) f σ3 H6 fun y H7 => ∃ acc, H7 L = some (.lst acc) ∧ acc.length < sizeLine ∧ Nx1 (upd H7 L (.lst (acc ++ [y]))) else Nx1 H6)
          else Nx H3)
        hJ ?_ ?_ ?_
      · refine ⟨ι1, F1, ps1.ob, [], [], full, Ext.grow gr, (Ext.grow gr).wx, (r1.grow gr).wipe own, upd_same, nL, fL, .nil, ?_, rfl⟩
        simp only [hg, List.append_nil]
      · rintro H' ⟨ι2, F2, ob, acc, xs, l, e2, _, r2, h2, n2, f2, d2, k2, l2⟩
        cases k2
        rw [List.append_nil] at l2
        subst l2
        refine s ι2 F2 H' _ (e1.trans e2) ⟨r2.ob, fun i d hi => ?_, r1.len⟩ ⟨L, xs, rfl, e1.there L hL, n2, f2, h2, d2⟩
        obtain ⟨v, a, b⟩ := r1.sl i d hi
        exact ⟨v, a, b.ext e2⟩
      · intro d k H' x ι2 F2 ob acc xs l p q2 e2 w2 r2 h2 n2 f2 d2 dx hp hk hq hl
        unfold lcTurn at hp
        cases h3 : g.put d (wipeD ps1.sl own) with
        | none => rw [h3] at hp; cases hp
        | some sl1 =>
          rw [h3] at hp
          have hp : (match tt ⟨sl1, ob⟩ with
            | .ok true s1 => lcSrc src1 own1 (lcTurn g1 tt1 (lcElt f)) s1
            | .ok false s1 => some ([], s1.ob)
            | _ => none) = some p := hp
          refine ⟨ι2, F2, ⟨wipeD ps1.sl own, ob⟩, d, sl1, r2, dx, h3, fun σ3 r3 hw => ⟨by rw [hw own hv, wipe_idem], ι2, F2, ⟨sl1, ob⟩, r3, ?_⟩⟩
          cases h4 : tt ⟨sl1, ob⟩ with
          | bad => rw [h4] at hp; cases hp
          | ex _ _ => rw [h4] at hp; cases hp
          | ok b s1 =>
            intro ι4 F4 H4 b' e4 r4 hb
            have hb : b' = b := hb
            subst hb
            obtain ⟨hL4, hf4, hn4⟩ := e4.stays h2 f2 n2
            have hb4 : ∀ i d, (wipeD ps1.sl own)[i]? = some (some d) → ∃ v, (wipe σ own)[i]? = some (some v) ∧ Den X.kw ι4 F4 H4 v d := fun i d hi => by
              obtain ⟨v, a, b⟩ := r2.sl i d hi
              exact ⟨v, a, b.ext e4⟩
            rw [h4] at hp
            cases b' with
            | false =>
              rw [if_neg Bool.false_ne_true]
              cases hp
              exact ⟨ι4, F4, s1.ob, acc, xs, q2.1, e2.trans e4, w2.trans e4.wx, ⟨r4.ob, hb4, r2.len⟩, hL4, hn4, hf4, d2.ext e4, by rw [hk, ← hq], by rw [← hl]; simp⟩
            | true =>
              rw [if_pos rfl]
              have hp : lcSrc src1 own1 (lcTurn g1 tt1 (lcElt f)) s1 = some p := hp
              unfold lcSrc at hp
              refine ⟨ι4, F4, s1, r4, ?_⟩
              cases h5 : src1 s1 with
              | bad => rw [h5] at hp; cases hp
              | ex _ _ => rw [h5] at hp; cases hp
              | ok items1 s2 =>
                rw [h5] at hp
                have hp : lcGo (lcTurn g1 tt1 (lcElt f) (wipeD s2.sl own1)) items1 s2.ob = some p := hp
                intro ι5 F5 H5 J1 e5 r5 hJ1
                obtain ⟨hL5, hf5, hn5⟩ := e5.stays hL4 hf4 hn4
                refine lc_walk (K := X.kw) (mg := X.mg) (ι1 := ι1) (F1 := F1) (H1 := H1) (ιj := ι5) (Fj := F5) (Hj := H5) (L := L) (sl := wipeD s2.sl own1) (σ := σ3) (vs := own1) (full := full) (obF := obF) (k0 := k) (step := lcTurn g1 tt1 (lcElt f) (wipeD s2.sl own1)) (items := items1) (g := tG X.kw X.mg g1)
                  (R := fun σ4 H6 Nx1 => tT X.kw X.mg (fun _ _ _ _ => False) tt1 σ4 H6 fun b H7 => if b = true then tE X.kw X.mg (fun _ _ _ _ => False) f σ4 H7 fun y H8 => ∃ acc, H8 L = some (.lst acc) ∧ acc.length < sizeLine ∧ Nx1 (upd H8 L (.lst (acc ++ [y]))) else Nx1 H7)
                  hJ1 ?_ ?_ ?_
                · refine ⟨ι5, F5, s2.ob, acc, xs, p.1 ++ q2.1, (e2.trans e4).trans e5, Wx.refl, r5.wipe own1, hL5, hn5, hf5, (d2.ext e4).ext e5, ?_, hl⟩
                  simp only [hp, hk, hq]
                · rintro H6 ⟨ι6, F6, ob6, acc6, xs6, l6, e6, w6, r6, hL6, hn6, hf6, d6, hk6, hl6⟩
                  refine ⟨ι6, F6, ob6, acc6, xs6, l6, e6, e6.wx, ⟨r6.ob, fun i d hi => ?_, r2.len⟩, hL6, hn6, hf6, d6, hk6, hl6⟩
                  obtain ⟨v, a, b⟩ := hb4 i d hi
                  exact ⟨v, a, (b.ext e5).wx w6⟩
                · intro d7 k7 H7 x7 ι7 F7 ob7 acc7 xs7 l7 p7 q7 e7 w7 r7 h7 n7 f7 d7' dx7 hp7 hk7 hq7 hl7
                  unfold lcTurn at hp7
                  cases h8 : g1.put d7 (wipeD s2.sl own1) with
                  | none => rw [h8] at hp7; cases hp7
                  | some sl8 =>
                    rw [h8] at hp7
                    have hp7 : (match tt1 ⟨sl8, ob7⟩ with
                      | .ok true s1 => lcElt f s1
                      | .ok false s1 => some ([], s1.ob)
                      | _ => none) = some p7 := hp7
                    refine ⟨ι7, F7, ⟨wipeD s2.sl own1, ob7⟩, d7, sl8, r7, dx7, h8, fun σ8 r8 hw8 => ⟨by rw [hw8 own1 hv1, wipe_idem], ι7, F7, ⟨sl8, ob7⟩, r8, ?_⟩⟩
                    cases h9 : tt1 ⟨sl8, ob7⟩ with
                    | bad => rw [h9] at hp7; cases hp7
                    | ex _ _ => rw [h9] at hp7; cases hp7
                    | ok b9 s9 =>
                      intro ι9 F9 H9 b' e9 r9 hb
                      have hb : b' = b9 := hb
                      subst hb
                      obtain ⟨hL9, hf9, hn9⟩ := e9.stays h7 f7 n7
                      have hb9 : ∀ i d, (wipeD s2.sl own1)[i]? = some (some d) → ∃ v, (wipe σ3 own1)[i]? = some (some v) ∧ Den X.kw ι9 F9 H9 v d := fun i d hi => by
                        obtain ⟨v, a, b⟩ := r7.sl i d hi
                        exact ⟨v, a, b.ext e9⟩
                      rw [h9] at hp7
                      cases b' with
                      | true =>
                        rw [if_pos rfl]
                        exact lc_app hL hfull (e7.trans e9) (w7.trans e9.wx) r9 hb9 r7.len hL9 hn9 hf9 (d7'.ext e9) hp7 hk7 hq7 hl7
                      | false =>
                        rw [if_neg Bool.false_ne_true]
                        cases hp7
                        exact ⟨ι9, F9, s9.ob, acc7, xs7, q7.1, e7.trans e9, w7.trans e9.wx, ⟨r9.ob, hb9, r7.len⟩, hL9, hn9, hf9, d7'.ext e9, by rw [hk7, ← hq7], by rw [← hl7]; simp⟩
    · rw [if_neg hfull] at s; exact s.elim
theorem dr_comp2 {c : SI} {elt tg iter tg1 iter1 : Expr} {ifs ifs1 : List Expr} {scope : Scope} {own : List (Str × Nat)} {own1 : List Nat} {pos : Pos} {src src1 : IM} {g g1 : Tg} {tt tt1 : TM} {f : EM} (hc : c.calm = true) (hi : DI c tg iter src) (ok : blkC c.N c.sc scope own = true) (hg : DG (c.blk scope) tg g) (hv : (g.vars.all fun i => (own.map (·.2)).contains i) = true)
    (ht : DTs (c.blk scope) ifs tt) (hi1 : DI (c.blk scope) tg1 iter1 src1) (hg1 : DG (c.blk scope) tg1 g1) (hv1 : (g1.vars.all fun i => own1.contains i) = true) (hin : (own1.all fun i => (own.map (·.2)).contains i) = true) (ht1 : DTs (c.blk scope) ifs1 tt1)
    (he : DE (c.blk scope) elt f) (hs : notSet iter = true) (hs1 : notSet iter1 = true) : DR c (.ListComp elt [⟨tg, iter, ifs, 0⟩, ⟨tg1, iter1, ifs1, 0⟩] scope pos) (rComp2 (own.map (·.2)) src g tt own1 src1 g1 tt1 f) := fun X W S tk => by
  refine (pe_lc2 (g := tG X.kw X.mg g) (tt := tT X.kw X.mg (fun _ _ _ _ => False) tt) (wi1 := tO X.kw X.mg (fun _ _ _ _ => False) (rI X.kw) src1) (g1 := tG X.kw X.mg g1) (tt1 := tT X.kw X.mg (fun _ _ _ _ => False) tt1) (te := tE X.kw X.mg (fun _ _ _ _ => False) f) (S.calm hc) (by rw [S.N]; exact S.nd) (hi X W S tk) (own := own) (by rw [S.N, S.sc]; exact blkOk_by ok) (vs1 := own1) (by simpa using hin) (fun s H C cl fp => hg _ (S.blk s H scope C cl fp)) (fun s H C cl fp => ht _ _ (S.blk s H scope C cl fp) takes0)
    (fun s H C cl fp => hi1 _ _ (S.blk s H scope C cl fp) takes0) (fun s H C cl fp => hg1 _ (S.blk s H scope C cl fp)) (fun s H C cl fp => ht1 _ _ (S.blk s H scope C cl fp) takes0) (fun s H C cl fp => he _ _ (S.blk s H scope C cl fp) takes0) (unfolded hs _) (fun env => unfolded hs1 env)).imp fun σ H Q h => ?_
  exact rComp2_read (by simpa using hv) (by simpa using hv1) h
end Cut
end
section
/-! CutExc: raise, try. -/
namespace Cut
open PySem PySem.Spec PyProof.Rows L2

/-! ### raise -/
def sRaise (x : Str) : SM := fun s => .ex ⟨x, []⟩ s
def smallN (i : Int) : Bool := decide (i.natAbs.log2 < 1920)
def sRaiseF (x f : Str) (fe : EM) : SM := fun s => (fe s).bind fun d s1 => match d with
  | .int i => if smallN i = true then .ex ⟨x, [(f, .int i)]⟩ s1 else .bad
  | _ => .bad
theorem ds_raise {c : SI} {x m : Str} {j : Nat} {p p2 pos pos' : Pos} (hc : c.calm = true) (he : (x, none) ∈ c.exs) (hg : c.sc.names.lookup x = some .globalImplicit) (hdb : (x == ("__debug__" : Str)) = false) :
    DS c (.Raise (some (.Call (.Name x p) [.Constant (.str m) j p2] [] pos)) none pos') (sRaise x) := fun X W S tk hp => by
  obtain ⟨C, gC, kC, q, h1, h2⟩ := S.exs hc _ he
  refine (ps_raise (S.calm hc) tk (pmk_own F.excBase_ValueError q gC kC (raises_own h1 h2) (Gl.of S hg) hdb)).imp fun E σ H h => ?_
  obtain ⟨ι, F, ps, r, h⟩ := h
  exact h ι F H σ _ _ Ext.refl r ⟨gC, .inl rfl⟩
theorem ds_raiseF {c : SI} {x f : Str} {e : Expr} {fe : EM} {p pos pos' : Pos} (hc : c.calm = true) (he : (x, some f) ∈ c.exs) (hg : c.sc.names.lookup x = some .globalImplicit) (hdb : (x == ("__debug__" : Str)) = false) (hE : DE c e fe) (hpe : plainArg e = true) :
    DS c (.Raise (some (.Call (.Name x p) [e] [] pos)) none pos') (sRaiseF x f fe) := fun X W S tk hp => by
  obtain ⟨C, fI, k, fd, ps, gC, T, xf, hno, iC, tI, F1, hr, hb⟩ := S.exs hc _ he
  refine (ps_raise (S.calm hc) tk (pmk_oex (dvs := []) (ds := []) T iC tI F1 hr hb .nil (fun pins σ H s e s' I c => passAt takes_none5 σ pins H s e s' I c) (Gl.of S hg) gC (pa_cons (hE X W S tk) pa_nil (starEach_plain hpe)) hdb (starEach_plain hpe) rfl)).imp fun E σ H h => ?_
  obtain ⟨ι, F, ps, r, h⟩ := h
  refine ⟨ι, F, ps, r, SSat.exp h fun d ps1 ι1 F1 H1 v e1 r1 d1 s => ?_⟩
  cases d1 with
  | int i =>
    have s : SSat X.kw X.mg W E ι F H (if smallN i = true then .ex ⟨x, [(f, .int i)]⟩ ps1 else .bad) := s
    split at s
    · rename_i hi
      refine ⟨by simp, fun a ha => ⟨a, i, rfl, of_decide_eq_true hi, upd_same, fun d hd hda => ?_⟩⟩
      have hd1 : H1 d = none := by rw [upd_ne hda] at hd; exact hd
      refine ⟨rfl, d, [(f, .int i)], upd_same, by rw [upd_ne hda, upd_same], hd1, ?_⟩
      have eq : upd (del (upd (upd (upd H1 a (exo a C none)) d (exd d [(f, .int i)])) a (exo a C (some d))) a) d (.xd [(f, .int i)]) = upd H1 d (.xd [(f, .int i)]) := by
        funext b
        by_cases hbd : b = d
        · subst hbd; rw [upd_same, upd_same]
        · rw [upd_ne hbd, upd_ne hbd]
          by_cases hba : b = a
          · subst hba; rw [del_same, ha]
          · rw [del_ne hba, upd_ne hba, upd_ne hbd, upd_ne hba]
      rw [eq]
      have g : Grow H1 (upd H1 d (.xd [(f, .int i)])) := Grow.upd hd1
      refine s ι1 F1 _ σ (.ref C) (some d) (e1.trans (Ext.grow g)) (r1.grow g) ⟨gC, .inr ⟨d, _, rfl, upd_same, fun n z hz => ?_⟩⟩
      rw [List.lookup_cons] at hz
      cases hn : (n == f) with
      | true =>
        rw [hn] at hz
        cases hz
        exact ⟨.int i, by rw [List.lookup_cons, hn], .int i⟩
      | false => rw [hn] at hz; cases hz
    · exact s.elim
  | _ => exact s.elim

/-! ### C(place): what the class makes ready -/
section
variable {P : Program} {w : World} {K : PySem.W.Frag} {mg : Str → Option Value} {base : Heap}
/-- B.__init__, B a class of the program that has ValueError's -/
structure IniC (K : PySem.W.Frag) (B : Addr) : Prop where
  ga : PySem.W.specialIn K (.ref B) "__getattribute__" = some (some (.builtin "type.__getattribute__"))
  rd : PySem.W.readsIn K B (.type "type") = true
  find : PySem.W.findCls K (.ref B) (.type "type") "__init__" = some (.val (.builtin "ValueError.__init__"))
theorem pe_init {X : Cx} {pl : Sem Bool} {B : Addr} {b : Str} {e : Expr} {es : List Expr} {ta : TA} {p1 p2 pos : Pos} (hg : Gl X b) (hm : X.mg b = some (.ref B)) (T : IniC X.K B) (hdb : (b == ("__debug__" : Str)) = false) (ha : PA X (e :: es) ta) (he : starEach (e :: es) X.env = (false, eval e X.env) :: starEach es X.env) (hpl : (backTo pos (starEach es X.env)).any (·.1) = false)
    (hce : eval (.Call (.Attribute (.Name b p1) "__init__" p2) (e :: es) [] pos) X.env = (do
      let u ← eval (.Name b p1) X.env
      standAt p2.atName
      let (g, one) ← holding [u] (getMethod u "__init__" pl)
      callWith pos g one (backTo pos (starEach (e :: es) X.env)) (backToKw pos (keywordEach [] X.env))) := by rfl) :
    PE X (.Call (.Attribute (.Name b p1) "__init__" p2) (e :: es) [] pos) (tVeI X.K ta) := by
  refine ⟨fun pins z σ H Q I h => PySem.W.methodCall_KW (ld_glob I hg hm ?_ hdb) hce⟩
  refine PySem.W.method_cls I.kIn T.ga (PySem.W.cls_value I.kIn T.rd T.find (by decide +kernel) ?_)
  show wpAny _ _ (callWith pos (Value.builtin "ValueError.__init__") [] (backTo pos (starEach (e :: es) X.env)) []) _ _ _
  refine PyProof.Rows.callWith_method1 (thn (ha.run pos pins _ σ H _ (I.tok _) h) fun us z1 ⟨vs, H1, I1, r1, a, C, ws, hv, hl, TC, hx, q⟩ => ?_) he hpl
  subst hv
  cases r1 with
  | @cons _ u _ ur r0 rr =>
    obtain rfl : u = Value.ref a := r0
    exact oinit_ok TC I1 hx (by rw [← Paired.length rr, sizeLine_eq]; omega) fun z2 J => ⟨.non, H1, J, rfl, q⟩
/-- the class's __init__(self, q): B.__init__(self, f"m{q}"); self.f = q -/
theorem init_ok {qual : Str} {params : Arguments} {scope : Scope} {fI B C : Addr} {fd : FuncData} {b q f m : Str} {j : Nat} {p1 p2 p3 p4 p5 p6 p7 p8 p9 p10 p11 p12 p13 : Pos}
    (FD : FunD K "__init__" qual params [.Expr (.Call (.Attribute (.Name b p1) "__init__" p2) [.Name "self" p3, .JoinedStr [.Constant (.str m) j p4, .FormattedValue (.Name q p5) (-1) none p6] p7] [] p8) p9, .Assign [.Attribute (.Name "self" p10) f p11] (.Name q p12) p13] scope [] [] fI fd)
    (S : FnScope ["self", q] ["self", q] scope) (hb : scope.names.lookup b = some .globalImplicit) (hq : scope.names.lookup q = some .local) (hs : scope.names.lookup ("self" : Str) = some .local) (hdb : (b == ("__debug__" : Str)) = false) (hdq : (q == ("__debug__" : Str)) = false) (hdc : (q == ("__classdict__" : Str)) = false)
    (hm : mg b = some (.ref B)) (T : IniC K B) (TC : OexC K C) (hno : PySem.W.findIn K (.ref C) f = some none) (hml : m.length ≤ 1000)
    (hce : ∀ (n : Addr) (cdv : Value), ∃ pl : Sem Bool, eval (.Call (.Attribute (.Name b p1) "__init__" p2) [.Name "self" p3, .JoinedStr [.Constant (.str m) j p4, .FormattedValue (.Name q p5) (-1) none p6] p7] [] p8) (envOfC qual scope n fI cdv) = (do
      let u ← eval (.Name b p1) (envOfC qual scope n fI cdv)
      standAt p2.atName
      let (g, one) ← holding [u] (getMethod u "__init__" pl)
      callWith p8 g one (backTo p8 (starEach [.Name "self" p3, .JoinedStr [.Constant (.str m) j p4, .FormattedValue (.Name q p5) (-1) none p6] p7] (envOfC qual scope n fI cdv))) (backToKw p8 (keywordEach [] (envOfC qual scope n fI cdv))))) :
    FnOk P w K mg base (L2.CX P w) 1 fI fd ["self", q] (spInit K C f) := by
  refine FD.ok (k := 0) S (fun vs H Q E h => ?_) fun cdv A outer s H vs Q E hr hsp => ?_
  · obtain ⟨a, i, rfl, _⟩ := h
    rfl
  · obtain ⟨a, i, rfl, hi, ha, hend⟩ := hsp
    obtain ⟨pl, hce⟩ := hce s.heap.objs.size cdv
    have vs0 : ∀ {p : Pos}, PE (cxOf (L2.CX P w) P w K mg base ["self", q] qual scope fI cdv A outer s H E) (.Name "self" p) (tVar 0) := pe_var rfl (.inl hs)
    have vq : ∀ {p : Pos}, PE (cxOf (L2.CX P w) P w K mg base ["self", q] qual scope fI cdv A outer s H E) (.Name q p) (tVar 1) := pe_var rfl (.inl hq) hdq hdc
    have g : Gl (cxOf (L2.CX P w) P w K mg base ["self", q] qual scope fI cdv A outer s H E) b := hb
    refine ⟨_, pss_cons (ps_expr (pe_init g hm T hdb (pa_cons vs0 (pa_cons (pe_joined (.cons pe_str (.cons (pe_fmt vq) .nil))) pa_nil)) rfl rfl hce)) (pss_one (ps_ost vs0 vq)), ?_⟩
    have small : (Str.ofString (toString i)).length ≤ 1921 := by
      have h2 := int_text_length_le (a := i) (k := 1920) (by omega) hi
      rw [Str.ofString_eq_toList]
      show ((toString i).toList.map Char.toNat).toArray.size ≤ _
      rw [List.size_toArray, List.length_map, String.length_toList]
      omega
    have e0 : (Str.empty ++ m).length = m.length := by rw [strLen_append]; show 0 + m.length = _; omega
    have hz := sizeLine_eq
    refine ⟨.ref a, rfl, m, rfl, by rw [e0]; omega, ?_⟩
    refine ⟨.int i, rfl, .inr ⟨i, rfl, hi, _, rfl, by rw [strLen_append, e0]; omega, ?_⟩⟩
    refine ⟨a, C, _, rfl, by simp, TC, ha, ?_⟩
    refine ⟨.int i, rfl, .ref a, rfl, a, C, rfl, TC, hno, .inl ⟨ha, fun d h1 h2 => hend d h1 h2⟩⟩
end

/-! ### try: several clauses, each with its name -/
/-- except x as n: suite -/
structure Cla where
  cls : Value
  slot : Nat
  say : Addr → Value → Option Addr → TS
  anon : Bool
/-- behind the suite the name is gone -/
def goneE (E : Ends) (i : Nat) : Ends := { nx := fun σ H => E.nx (σ.set i none) H, rt := E.rt, bk := fun σ H => E.bk (σ.set i none) H, ct := fun σ H => E.ct (σ.set i none) H }
def wCla (K : PySem.W.Frag) (W : WX) (E : Ends) : List Cla → WX
  | [] => W
  | k :: r => fun cls d σ H => ∃ b, PySem.W.exmOne K cls k.cls = some b ∧ (b = true → ∀ a, H a = none → (k.anon = false → k.say a cls d (goneE E k.slot) (σ.set k.slot (some (.ref a))) H) ∧ (k.anon = true → k.say a cls d E σ H)) ∧ (b = false → wCla K W E r cls d σ H)
inductive ClaOk (X : Cx) : List ExceptHandler → List Cla → Prop
  | nil : ClaOk X [] []
  | cons {x n : Str} {k : Cla} {b0 : Stmt} {suite : List Stmt} {np pe : Pos} {hds : List ExceptHandler} {l : List Cla} : k.anon = false → Names X x k.cls → X.N[k.slot]? = some n → X.env.kindOf n = some .local →
      (∀ (a : Addr) (o : Obj) (cls : Value) (d : Option Addr) (pn : List (Addr × Obj)), Zc cls d o → (∃ vs, o.data = .fields vs) → PSs (X.suite a ((a, o) :: pn)) (b0 :: suite) (k.say a cls d)) → ClaOk X hds l →
      ClaOk X (.ExceptHandler (some (.Name x np)) (some n) (b0 :: suite) pe :: hds) (k :: l)
  | anon {x : Str} {k : Cla} {b0 : Stmt} {suite : List Stmt} {np pe : Pos} {hds : List ExceptHandler} {l : List Cla} : k.anon = true → Names X x k.cls →
      (∀ (a : Addr) (o : Obj) (cls : Value) (d : Option Addr) (pn : List (Addr × Obj)), Zc cls d o → (∃ vs, o.data = .fields vs) → PSs (X.suite a ((a, o) :: pn)) (b0 :: suite) (k.say a cls d)) → ClaOk X hds l →
      ClaOk X (.ExceptHandler (some (.Name x np)) none (b0 :: suite) pe :: hds) (k :: l)
section
variable {X : Cx}
theorem cla_test {z : Shared} {pins pn : List (Addr × Obj)} {σ : L2.St} {H : Hp} {a : Addr} {x : Str} {c : Value} {np : Pos} {Q : Value → Shared → Prop} {E : Value → Shared → Prop} (I : Inv (X.suite a pn) pins σ H z) (n : Names X x c) (q : Q c z) :
    wpAny (model X.prog X.w) (X.A.mark (some (.ref a))) (eval (.Name x np) X.env) Q E z := by
  obtain ⟨g, db, m | ⟨m, bb, nn⟩⟩ := n
  · exact ld_glob (X := X.suite a pn) I g m q db
  · exact ld_blt (X := X.suite a pn) I g m bb q nn db
/-- the clauses, one after the other -/
theorem cla_run {W : WX} {E : Ends} (hs : X.stack = X.env :: X.outer) (hf : X.env.frame = some X.env.locals) (hN : X.N.Nodup) (tk : Takes X W) {a : Addr} {B : Heap} {zI z : Shared} {pins : List (Addr × Obj)} {σ : L2.St} {H : Hp} {cls : Value} {d : Option Addr}
    (J : Inv X pins σ H zI) (nb : ∀ b o, zI.heap.get? b = some o → b ∉ frs X.stack → B.get? b = some o) (up : zI.heap.UpToSlots z.heap) (fl : HandSPX.FlyingZ B (X.env :: X.outer) a (Zc cls d) z.heap) (na : H a = none) (os : z.os = zI.os) (ag : AllBare z.gens) (nL : a ≠ X.env.locals) (nF : a ∉ X.fs) :
    ∀ {hds : List ExceptHandler} {l : List Cla}, ClaOk X hds l → wCla X.K W E l cls d σ H → wpAny (model X.prog X.w) X.A (handleBy (.ref a) X.env hds) (SP X pins E) X.xe z := by
  obtain ⟨og, vg, gg, zg, dg⟩ := fl.there
  have JL := J.landed nb fl.1 up os ag
  have JS := JL.suite gg dg na nL nF
  intro hds l ok
  induction ok with
  | nil =>
    intro q
    have q : W cls d σ H := q
    obtain ⟨f1, f2, f3, ox, vx, T, oT, tsx, ex, zx, dx, x1, rx⟩ := id fl
    refine wpAny_handleBy_nil ?_
    unfold PySem.passOn
    refine wpAny_bind (wpAny_field ex dx x1 ?_)
    rw [if_neg (show ¬ ((Value.ref T == Value.none) = true) by simp)]
    have last : wpAny (model X.prog X.w) X.A (setFlight (.ref a) X.env.frame) (fun _ y => wpAny (model X.prog X.w) X.A (throw (.ref a) : Sem Flow) (SP X pins E) X.xe y) X.xe z := by
      rw [hf]
      exact HandSPX.setFlight_upZ fl fun h4 held up4 => wpAny_throw (tk _ _ ⟨a, B, zI, pins, σ, H, cls, d, rfl, J, nb, up.trans up4, .inr (.inr (by rw [hs]; exact held)), na, os, ag, q⟩)
    first
      | exact wpAny_bind (wpAny_pure (wpAny_bind last))
      | exact wpAny_bind last
  | @cons x n k b0 suite np pe hds l hanon hn hi hl hsu _ ih =>
    rintro ⟨b, hb, yes, no⟩
    have lt : PySem.W.Looks (model X.prog X.w) z.heap (typeOf (.ref a)) cls := fun A Q E s kp q => wpAny_typeOf_ref (kp _ _ gg) (by rw [zg.1]; exact q)
    refine wpAny_handleBy_cons (codeAny_handlers_test ?_) (by intro q; cases q)
    refine cla_test JS hn ((PySem.W.exm_one (M := model X.prog X.w) JL.kIn lt hb).here ?_)
    cases b with
    | false => exact ih (no rfl)
    | true =>
      refine codeAny_handlers_suite_as (HandSPX.lands_againZ fl fun g2 fl2 up2 => ?_)
      obtain ⟨o2, v2, e2, z2, d2⟩ := fl2.there
      have J2 : Inv X pins σ H { z with heap := g2 } := J.landed nb fl2.1 (up.trans up2) os ag
      refine store_ok (X := X.suite a ((a, o2) :: (X.pn ++ pins))) (v := .ref a) (J2.suite e2 d2 na nL nF) hN hi (.inl hl) rfl (fun y JY => ?_) (.inr hl)
      refine wpAny_mono ((hsu a o2 cls d (X.pn ++ pins) z2 ⟨_, d2⟩).run [] y _ H _ JY ((yes rfl a na).1 hanon)) (fun fw y2 sp => ?_) fun _ _ q => q.elim
      have leave : ∀ {σ6 : L2.St} {H6 : Hp} {R : Shared → Prop}, Inv (X.suite a ((a, o2) :: (X.pn ++ pins))) [] σ6 H6 y2 → (∀ y3, Inv X pins (σ6.set k.slot none) H6 y3 → R y3) →
          wpAny (model X.prog X.w) X.A (do bindName X.env n .none; unbindBehindTheSuite X.env n pe) (fun _ y3 => R y3) X.xe y2 := fun JY2 hR => gone_ok (JY2.unsuite J.ok) hN hi hl hR
      cases fw with
      | next => exact let ⟨_, _, j, q⟩ := sp; leave j fun _ j2 => ⟨_, _, j2, q⟩
      | brk => exact let ⟨_, _, j, q⟩ := sp; leave j fun _ j2 => ⟨_, _, j2, q⟩
      | cont => exact let ⟨_, _, j, q⟩ := sp; leave j fun _ j2 => ⟨_, _, j2, q⟩
      | ret u => exact let ⟨_, _, _, j, rv, q⟩ := sp; leave j fun _ j2 => ⟨_, _, _, j2, rv, q⟩
  | @anon x k b0 suite np pe hds l hanon hn hsu _ ih =>
    rintro ⟨b, hb, yes, no⟩
    have lt : PySem.W.Looks (model X.prog X.w) z.heap (typeOf (.ref a)) cls := fun A Q E s kp q => wpAny_typeOf_ref (kp _ _ gg) (by rw [zg.1]; exact q)
    refine wpAny_handleBy_cons (codeAny_handlers_test ?_) (by intro q; cases q)
    refine cla_test JS hn ((PySem.W.exm_one (M := model X.prog X.w) JL.kIn lt hb).here ?_)
    cases b with
    | false => exact ih (no rfl)
    | true =>
      refine codeAny_handlers_suite (HandSPX.lands_againZ fl fun g2 fl2 up2 => ?_)
      obtain ⟨o2, v2, e2, z2, d2⟩ := fl2.there
      have J2 : Inv X pins σ H { z with heap := g2 } := J.landed nb fl2.1 (up.trans up2) os ag
      refine wpAny_mono ((hsu a o2 cls d (X.pn ++ pins) z2 ⟨_, d2⟩).run [] _ _ H _ (J2.suite e2 d2 na nL nF) ((yes rfl a na).2 hanon)) (fun fw y2 sp => ?_) fun _ _ q => q.elim
      cases fw with
      | next => exact let ⟨_, _, j, q⟩ := sp; ⟨_, _, j.unsuite J.ok, q⟩
      | brk => exact let ⟨_, _, j, q⟩ := sp; ⟨_, _, j.unsuite J.ok, q⟩
      | cont => exact let ⟨_, _, j, q⟩ := sp; ⟨_, _, j.unsuite J.ok, q⟩
      | ret u => exact let ⟨_, _, _, j, rv, q⟩ := sp; ⟨_, _, _, j.unsuite J.ok, rv, q⟩
theorem ps_tryA {body : List Stmt} {h0 : ExceptHandler} {hds : List ExceptHandler} {l : List Cla} {pos : Pos} {tb : WX → TS} {W : WX} (hs : X.stack = X.env :: X.outer) (hf : X.env.frame = some X.env.locals) (hN : X.N.Nodup) (tk : Takes X W)
    (hb : ∀ (W' : WX) (pn : List (Addr × Obj)) (xe : Value → Shared → Prop), Takes (X.tr pn xe) W' → PassesOwn (model X.prog X.w) X.A X.env xe → PSs (X.tr pn xe) body (tb W')) (hh : ClaOk X (h0 :: hds) l) :
    PS X (.Try body (h0 :: hds) [] [] pos) (fun E σ H => tb (wCla X.K W E l) E σ H) := by
  refine ⟨fun pins z σ H E I q => ?_⟩
  refine wpAny_Try_except ?_
  have frames : X.A.frames = some (X.env :: X.outer) := by rw [I.ok.frames, hs]
  let back : Value → Shared → Prop := fun e z1 => wpAny (model X.prog X.w) X.A (noteFrame e X.env) (fun _ z2 => wpAny (model X.prog X.w) X.A (setFlight e none) (fun _ z3 => wpAny (model X.prog X.w) X.A (handleBy e X.env (h0 :: hds)) (SP X pins E) X.xe z3) X.xe z2) X.xe z1
  have inner := (hb (wCla X.K W E l) (X.pn ++ pins) back (fun u z1 xx => ?_) PassesOwn.looking).run [] z σ H E (I.toTry _) q
  · refine wpAny_mono inner (fun fw z1 sp => ?_) fun _ _ he => he
    cases fw with
    | next => exact let ⟨_, _, j, r⟩ := sp; wpAny_execs_nil ⟨_, _, j.ofTry I.ok, r⟩
    | brk => exact let ⟨_, _, j, r⟩ := sp; ⟨_, _, j.ofTry I.ok, r⟩
    | cont => exact let ⟨_, _, j, r⟩ := sp; ⟨_, _, j.ofTry I.ok, r⟩
    | ret u => exact let ⟨_, _, _, j, rv, r⟩ := sp; ⟨_, _, _, j.ofTry I.ok, rv, r⟩
  · obtain ⟨a, B, zI, pins', σ1, H1, cls, d, rfl, J', nb, up, sky, na, os, ag, w⟩ := xx
    have J : Inv X pins σ1 H1 zI := J'.ofTry I.ok
    show wpAny (model X.prog X.w) X.A (noteFrame (.ref a) X.env) _ _ _
    refine Sky.land Zc.steady frames hf (by rw [← hs]; exact sky) fun g fl upg => ?_
    obtain ⟨og, vg, gg, _, dg⟩ := fl.there
    have off : a ∉ frs (X.env :: X.outer) := fun hm => by
      obtain ⟨_, o2, h2, h3⟩ := fl.2.2.1.mem hm
      rw [gg] at h2
      cases h2
      exact h3 _ dg
    refine cla_run hs hf hN tk J nb (z := { z1 with heap := g }) (up.trans upg) fl na os ag (fun hz => off (List.mem_filterMap.mpr ⟨X.env, List.mem_cons_self, by rw [hf, hz]⟩)) (fun hm => ?_) hh w
    obtain ⟨e, he, q⟩ := List.mem_filterMap.mp hm
    exact off (List.mem_filterMap.mpr ⟨e, List.mem_cons_of_mem _ he, q⟩)
end

/-! ### try, by data -/
/-- within an except suite -/
def SI.cool (c : SI) : SI := { c with calm := false, top := false }
theorem Sta.tr {X : Cx} {c : SI} (S : Sta X c) (pn : List (Addr × Obj)) (xe : Value → Shared → Prop) : Sta (X.tr pn xe) c :=
  ⟨S.N, S.nd, S.sc, S.fn, S.calm, S.room, S.guards, fun h i hi => ⟨(S.calls h i hi).ex⟩, S.cons, S.blt, S.kds, S.exs, S.exms, S.top, S.facts⟩
theorem Sta.suite {X : Cx} {c : SI} (S : Sta X c) (a : Addr) (pn : List (Addr × Obj)) : Sta (X.suite a pn) c.cool :=
  ⟨S.N, S.nd, S.sc, S.fn, (fun h => nomatch h), (fun h => nomatch h), S.guards, (fun h => nomatch h), S.cons, S.blt, S.kds, (fun h => nomatch h), S.exms, (fun h => nomatch h), (fun h => nomatch h)⟩
structure Hd where
  exc : Str
  slot : Nat
  body : Ex → SM
  anon : Bool
def mat (m : List (Str × Str × Bool)) (x e : Str) : Option Bool := (m.find? fun t => t.1 == x && t.2.1 == e).map (·.2.2)
def hEnd (i : Nat) (o : Out Fl) : Out Fl := match o with
  | .ok fl s => .ok fl ⟨s.sl.set i none, s.ob⟩
  | _ => .bad
def noX (o : Out Fl) : Out Fl := match o with
  | .ok fl s => .ok fl s
  | _ => .bad
def sHand (m : List (Str × Str × Bool)) : List Hd → Ex → SM
  | [], x => fun s => .ex x s
  | h :: r, x => fun s => match mat m x.cls h.exc with
    | some true => if h.anon = true then noX (h.body x s) else if h.slot < s.sl.length then hEnd h.slot (h.body x ⟨s.sl.set h.slot none, s.ob⟩) else .bad
    | some false => sHand m r x s
    | none => .bad
def sTry (m : List (Str × Str × Bool)) (f : SM) (hs : List Hd) : SM := fun s => match f s with
  | .ok fl s1 => .ok fl s1
  | .ex x s1 => sHand m hs x s1
  | .bad => .bad
/-- what a suite is worth where the exception at a is caught, its name at slot i -/
def tH (K : KW) (mg : Str → Option Value) (a : Addr) (cls : Value) (d : Option Addr) (i : Nat) (fb : Ex → SM) : TS := fun E σ H =>
  ∃ ι F ps ex, Rel K mg ι F ps σ H ∧ σ[i]? = some (some (.ref a)) ∧ DenX K mg ι F H cls d ex ∧ SSat K mg (fun _ _ _ _ => False) E ι F H (fb ex ps)
def DHs (c : SI) (i : Nat) (st : List Stmt) (fb : Ex → SM) : Prop := ∀ (X : Cx), Sta X c → ∀ (a : Addr) (o : Obj) (cls : Value) (d : Option Addr) (pn : List (Addr × Obj)), Zc cls d o → (∃ vs, o.data = .fields vs) → PSs (X.suite a ((a, o) :: pn)) st (tH X.kw X.mg a cls d i fb)
theorem dhs_plain {c : SI} {i : Nat} {st : List Stmt} {f : SM} (h : DSs c.cool st f) : DHs c i st (fun _ => f) := fun X S a o cls d pn _ _ =>
  (h _ _ (S.suite a ((a, o) :: pn)) takes_none5 PassesOwn.never).imp fun E σ H q => let ⟨ι, F, ps, _, r, _, _, s⟩ := q; ⟨ι, F, ps, r, s⟩
inductive DHds (c : SI) : List ExceptHandler → List Hd → Prop
  | nil : DHds c [] []
  | cons {x n : Str} {i : Nat} {fb : Ex → SM} {b0 : Stmt} {suite : List Stmt} {np pe : Pos} {hds : List ExceptHandler} {l : List Hd} : c.sc.names.lookup x = some .globalImplicit → (x == ("__debug__" : Str)) = false → (c.exms.any fun t => t.2.1 == x) = true →
      c.N[i]? = some n → c.sc.names.lookup n = some .local → DHs c i (b0 :: suite) fb → DHds c hds l → DHds c (.ExceptHandler (some (.Name x np)) (some n) (b0 :: suite) pe :: hds) (⟨x, i, fb, false⟩ :: l)
  | anon {x : Str} {f : SM} {b0 : Stmt} {suite : List Stmt} {np pe : Pos} {hds : List ExceptHandler} {l : List Hd} : c.sc.names.lookup x = some .globalImplicit → (x == ("__debug__" : Str)) = false → (c.exms.any fun t => t.2.1 == x) = true →
      DSs c.cool (b0 :: suite) f → DHds c hds l → DHds c (.ExceptHandler (some (.Name x np)) none (b0 :: suite) pe :: hds) (⟨x, 0, fun _ => f, true⟩ :: l)
section
variable {K : KW} {mg : Str → Option Value} {ι : List Addr} {F : Addr → Prop} {H : Hp} {ps : PSt} {σ : L2.St}
theorem Rel.hide (r : Rel K mg ι F ps σ H) (i : Nat) (v : Option V) : Rel K mg ι F ⟨ps.sl.set i none, ps.ob⟩ (σ.set i v) H := by
  refine ⟨r.ob, fun j d hj => ?_, by simp only [List.length_set]; exact r.len⟩
  have hj : (ps.sl.set i none)[j]? = some (some d) := hj
  by_cases e : i = j
  · subst e
    rw [List.getElem?_set] at hj
    split at hj
    · split at hj <;> cases hj
    · rename_i z; exact absurd rfl z
  · rw [List.getElem?_set_ne e] at hj
    obtain ⟨v, h1, h2⟩ := r.sl j d hj
    exact ⟨v, by rw [List.getElem?_set_ne e]; exact h1, h2⟩
theorem hEnd_sat {W : WX} {E : Ends} {i : Nat} {o : Out Fl} (s : SSat K mg W E ι F H (hEnd i o)) : SSat K mg (fun _ _ _ _ => False) (goneE E i) ι F H o := by
  cases o with
  | bad => exact s
  | ex x s1 => exact s.elim
  | ok fl s1 =>
    cases fl with
    | nx => exact fun ι' F' H' σ' e r => s ι' F' H' _ e (r.hide i none)
    | bk => exact fun ι' F' H' σ' e r => s ι' F' H' _ e (r.hide i none)
    | ct => exact fun ι' F' H' σ' e r => s ι' F' H' _ e (r.hide i none)
    | rt r => exact s
    | rto n => exact s
end
theorem noX_sat {K : KW} {mg : Str → Option Value} {ι : List Addr} {F : Addr → Prop} {H : Hp} {W : WX} {E : Ends} {o : Out Fl} (s : SSat K mg W E ι F H (noX o)) : SSat K mg (fun _ _ _ _ => False) E ι F H o := by
  cases o with
  | bad => exact s
  | ex x s1 => exact s.elim
  | ok fl s1 => cases fl <;> exact s
theorem mat_in {m : List (Str × Str × Bool)} {x e : Str} {b : Bool} (h : mat m x e = some b) : (x, e, b) ∈ m := by
  unfold mat at h
  cases q : m.find? fun t => t.1 == x && t.2.1 == e with
  | none => rw [q] at h; cases h
  | some t =>
    rw [q] at h
    obtain ⟨t1, t2, t3⟩ := t
    have h1 := List.mem_of_find?_eq_some q
    have h2 := List.find?_some q
    simp only [Bool.and_eq_true, beq_iff_eq] at h2
    cases h
    rw [← h2.1, ← h2.2]
    exact h1
theorem dhds_ok {c : SI} {X : Cx} (S : Sta X c) {hds : List ExceptHandler} {l : List Hd} (h : DHds c hds l) : ∃ k : List Cla, ClaOk X hds k ∧
    ∀ (W : WX) (E : Ends) (ι : List Addr) (F : Addr → Prop) (H : Hp) (ps : PSt) (σ : L2.St) (ex : Ex) (cls : Value) (d : Option Addr), Rel X.kw X.mg ι F ps σ H → DenX X.kw X.mg ι F H cls d ex → SSat X.kw X.mg W E ι F H (sHand c.exms l ex ps) → wCla X.K W E k cls d σ H := by
  induction h with
  | nil => exact ⟨[], .nil, fun W E ι F H ps σ ex cls d r dx s => s ι F H σ cls d Ext.refl r dx⟩
  | @cons x n i fb b0 suite np pe hds l h1 h2 h3 h4 h5 h6 _ ih =>
    obtain ⟨k, hk, hw⟩ := ih
    obtain ⟨t, ht, he⟩ := List.any_eq_true.mp h3
    obtain ⟨C, D, m1, m2, _⟩ := S.exms t ht
    have he : t.2.1 = x := eq_of_beq he
    rw [he] at m2
    have hN : X.N[i]? = some n := by rw [S.N]; exact h4
    refine ⟨⟨.ref D, i, fun a cls d => tH X.kw X.mg a cls d i fb, false⟩ :: k, .cons rfl ⟨Gl.of S h1, h2, .inl m2⟩ hN (by show X.env.kindOf n = _; unfold Env.kindOf; rw [S.sc]; exact h5) (fun a o cls d pn z f => h6 X S a o cls d pn z f) hk, ?_⟩
    intro W E ι F H ps σ ex cls d r dx s
    have s : SSat X.kw X.mg W E ι F H (match mat c.exms ex.cls x with
      | some true => if (false : Bool) = true then noX (fb ex ps) else if i < ps.sl.length then hEnd i (fb ex ⟨ps.sl.set i none, ps.ob⟩) else .bad
      | some false => sHand c.exms l ex ps
      | none => .bad) := s
    cases q : mat c.exms ex.cls x with
    | none => rw [q] at s; exact s.elim
    | some b =>
      rw [q] at s
      obtain ⟨C', D', n1, n2, n3⟩ := S.exms _ (mat_in q)
      have n1 : X.mg ex.cls = some (.ref C') := n1
      have n2 : X.mg x = some (.ref D') := n2
      have hc : cls = .ref C' := by have := dx.1; rw [n1] at this; cases this; rfl
      have hd : D' = D := by rw [m2] at n2; cases n2; rfl
      subst hc hd
      refine ⟨b, n3, fun hb a ha => ?_, fun hb => ?_⟩
      · subst hb
        have s : SSat X.kw X.mg W E ι F H (if i < ps.sl.length then hEnd i (fb ex ⟨ps.sl.set i none, ps.ob⟩) else .bad) := s
        refine ⟨fun _ => ?_, (fun z => nomatch z)⟩
        split at s
        · rename_i hl
          exact ⟨ι, F, ⟨ps.sl.set i none, ps.ob⟩, ex, r.hide i _, by rw [List.getElem?_set_self (by rw [← r.len]; exact hl)], dx, hEnd_sat s⟩
        · exact s.elim
      · subst hb
        exact hw W E ι F H ps σ ex _ d r dx s
  | @anon x f b0 suite np pe hds l h1 h2 h3 h6 _ ih =>
    obtain ⟨k, hk, hw⟩ := ih
    obtain ⟨t, ht, he⟩ := List.any_eq_true.mp h3
    obtain ⟨C, D, m1, m2, _⟩ := S.exms t ht
    have he : t.2.1 = x := eq_of_beq he
    rw [he] at m2
    refine ⟨⟨.ref D, 0, fun a cls d E σ H => ∃ ι F ps, Rel X.kw X.mg ι F ps σ H ∧ SSat X.kw X.mg (fun _ _ _ _ => False) E ι F H (f ps), true⟩ :: k, .anon rfl ⟨Gl.of S h1, h2, .inl m2⟩ (fun a o cls d pn _ _ => h6 _ _ (S.suite a ((a, o) :: pn)) takes_none5 PassesOwn.never) hk, ?_⟩
    intro W E ι F H ps σ ex cls d r dx s
    have s : SSat X.kw X.mg W E ι F H (match mat c.exms ex.cls x with
      | some true => if (true : Bool) = true then noX (f ps) else if 0 < ps.sl.length then hEnd 0 (f ⟨ps.sl.set 0 none, ps.ob⟩) else .bad
      | some false => sHand c.exms l ex ps
      | none => .bad) := s
    cases q : mat c.exms ex.cls x with
    | none => rw [q] at s; exact s.elim
    | some b =>
      rw [q] at s
      obtain ⟨C', D', n1, n2, n3⟩ := S.exms _ (mat_in q)
      have n1 : X.mg ex.cls = some (.ref C') := n1
      have n2 : X.mg x = some (.ref D') := n2
      have hc : cls = .ref C' := by have := dx.1; rw [n1] at this; cases this; rfl
      have hd : D' = D := by rw [m2] at n2; cases n2; rfl
      subst hc hd
      refine ⟨b, n3, fun hb a ha => ?_, fun hb => ?_⟩
      · subst hb
        have s : SSat X.kw X.mg W E ι F H (noX (f ps)) := s
        exact ⟨(fun z => nomatch z), fun _ => ⟨ι, F, ps, r, noX_sat s⟩⟩
      · subst hb
        exact hw W E ι F H ps σ ex _ d r dx s
theorem ds_try {c : SI} {body : List Stmt} {h0 : ExceptHandler} {hds : List ExceptHandler} {f : SM} {l : List Hd} {pos : Pos} (ht : c.top = true) (hb : DSs c body f) (hh : DHds c (h0 :: hds) l) : DS c (.Try body (h0 :: hds) [] [] pos) (sTry c.exms f l) := fun X W S tk hp => by
  obtain ⟨k, hk, hw⟩ := dhds_ok S hh
  obtain ⟨t1, t2⟩ := S.top ht
  refine (ps_tryA (tb := fun W' => tS X.kw X.mg W' f) t1 t2 (by rw [S.N]; exact S.nd) tk (fun W' pn xe tk' hp' => hb _ W' (S.tr pn xe) tk' hp') hk).imp fun E σ H h => ?_
  obtain ⟨ι, F, ps, r, h⟩ := h
  refine ⟨ι, F, ps, r, ?_⟩
  have h : SSat X.kw X.mg W E ι F H (match f ps with
    | .ok fl s1 => .ok fl s1
    | .ex x s1 => sHand c.exms l x s1
    | .bad => .bad) := h
  cases q : f ps with
  | bad => rw [q] at h; exact h
  | ok fl s1 =>
    rw [q] at h
    cases fl <;> exact h
  | ex x s1 =>
    rw [q] at h
    exact fun ι' F' H' σ' cls dd e r' dx => hw W E ι' F' H' s1 σ' x cls dd r' dx (h.on e)
/-- x = (text, n.f) -/
def fTup (xc : Str) (j : Nat) (z f : Str) : Ex → SM := fun ex s => if ex.cls = xc then match ex.fs.lookup f with
    | some d => .ok .nx ⟨s.sl.set j (some (.tup [.str z, d])), s.ob⟩
    | none => .bad
  else .bad
/-- x = n.f -/
def fFld (xc : Str) (j : Nat) (f : Str) : Ex → SM := fun ex s => if ex.cls = xc then match ex.fs.lookup f with
    | some d => .ok .nx ⟨s.sl.set j (some d), s.ob⟩
    | none => .bad
  else .bad
section
variable {c : SI} {i j : Nat} {x n z f : Str} {xc : Str}
/-- the caught exception's field -/
theorem exf_read {K : KW} {mg : Str → Option Value} {ι : List Addr} {F : Addr → Prop} {H : Hp} {cls : Value} {d : Option Addr} {ex : Ex} {y : D} (dx : DenX K mg ι F H cls d ex) (hy : ex.fs.lookup f = some y) : ∃ dd xs v, d = some dd ∧ H dd = some (.xd xs) ∧ xs.lookup f = some v ∧ Den K ι F H v y := by
  rcases dx.2 with h | ⟨dd, xs, h1, h2, h3⟩
  · rw [h] at hy; cases hy
  · obtain ⟨v, h4, h5⟩ := h3 f y hy
    exact ⟨dd, xs, v, h1, h2, h4, h5⟩
theorem pe_fld {c : SI} {X : Cx} (S : Sta X c) (hc : c.calm = true) {i : Nat} {n f xc : Str} {p3 p4 : Pos} (hN : c.N[i]? = some n) (hn : c.sc.names.lookup n = some .local) (hd1 : (n == ("__debug__" : Str)) = false) (hd2 : (n == ("__classdict__" : Str)) = false) (he : (xc, some f) ∈ c.exs)
    (hab : ∀ env, attributeBase (.Name n p3) f env (eval (.Name n p3) env) = eval (.Name n p3) env) {a : Addr} {o : Obj} {cls : Value} {d : Option Addr} {pn : List (Addr × Obj)} (hz : Zc cls d o) (hf : ∃ vs, o.data = .fields vs) :
    ∃ C, X.mg xc = some (.ref C) ∧ PE (X.suite a ((a, o) :: pn)) (.Attribute (.Name n p3) f p4) (tXf a cls d C f (tVar i)) := by
  obtain ⟨C, fI, k, fd, ps, gC, T, xf, hno, _⟩ := S.exs hc _ he
  refine ⟨C, gC, pe_xf xf hno hz hf (pe_var (X := X.suite a ((a, o) :: pn)) (by show X.N[i]? = some n; rw [S.N]; exact hN) (by show Vis X.env.scope n; rw [S.sc]; exact .inl hn) hd1 hd2) (hab _)⟩
theorem dhs_tup {c : SI} (hc : c.calm = true) {i j : Nat} {x n z f xc : Str} {k jj : Nat} {p1 p2 p3 p4 p5 p6 : Pos} (hN : c.N[i]? = some n) (hn : c.sc.names.lookup n = some .local) (hd1 : (n == ("__debug__" : Str)) = false) (hd2 : (n == ("__classdict__" : Str)) = false) (he : (xc, some f) ∈ c.exs) (hj : c.N[j]? = some x) (hx : Loc1 c x)
    (hab : ∀ env, attributeBase (.Name n p3) f env (eval (.Name n p3) env) = eval (.Name n p3) env) :
    DHs c i [.Assign [.Name x p1] (.Tuple [.Constant (.str z) jj p2, .Attribute (.Name n p3) f p4] k p5) p6] (fTup xc j z f) := fun X S a o cls d pn hz hf => by
  obtain ⟨C, gC, hp⟩ := pe_fld S hc hN hn hd1 hd2 he hab (p4 := p4) (a := a) (pn := pn) hz hf
  have S2 := S.suite a ((a, o) :: pn)
  have hx2 : Loc1 c.cool x := hx
  refine (pss_one (ps_set (X := X.suite a ((a, o) :: pn)) (i := j) (by show X.N.Nodup; rw [S.N]; exact S.nd) (by show X.N[j]? = some x; rw [S.N]; exact hj) (hx2.loc S2) (pe_tup (pa_cons pe_str (pa_cons hp pa_nil rfl) rfl)) (swaps_not rfl _ _ _) (hx2.fn S2))).imp fun E σ H q => ?_
  obtain ⟨ι, F, ps, ex, r, hs, dx, s⟩ := q
  unfold fTup at s
  split at s
  · rename_i hcx
    split at s
    · rename_i y hy
      obtain ⟨dd, xs, v, e1, e2, e3, e4⟩ := exf_read dx hy
      have hcl : cls = .ref C := by have := dx.1; rw [hcx, gC] at this; cases this; rfl
      refine ⟨.ref a, hs, rfl, hcl, dd, xs, v, e1, e2, e3, by simp [sizeLine_eq], fun T hT => ?_⟩
      have g : Grow H (upd H T (.tup [.str z, v])) := Grow.upd hT
      exact s ι F _ _ (Ext.grow g) ((r.grow g).put (d := .tup [.str z, y]) (.tup (.inl (.inl upd_same)) (.cons (.str z) (.cons (e4.grow g) .nil))))
    · exact s.elim
  · exact s.elim
theorem dhs_fld {c : SI} (hc : c.calm = true) {i j : Nat} {x n f xc : Str} {p1 p3 p4 p6 : Pos} (hN : c.N[i]? = some n) (hn : c.sc.names.lookup n = some .local) (hd1 : (n == ("__debug__" : Str)) = false) (hd2 : (n == ("__classdict__" : Str)) = false) (he : (xc, some f) ∈ c.exs) (hj : c.N[j]? = some x) (hx : Loc1 c x)
    (hab : ∀ env, attributeBase (.Name n p3) f env (eval (.Name n p3) env) = eval (.Name n p3) env) :
    DHs c i [.Assign [.Name x p1] (.Attribute (.Name n p3) f p4) p6] (fFld xc j f) := fun X S a o cls d pn hz hf => by
  obtain ⟨C, gC, hp⟩ := pe_fld S hc hN hn hd1 hd2 he hab (p4 := p4) (a := a) (pn := pn) hz hf
  have S2 := S.suite a ((a, o) :: pn)
  have hx2 : Loc1 c.cool x := hx
  refine (pss_one (ps_set (X := X.suite a ((a, o) :: pn)) (i := j) (by show X.N.Nodup; rw [S.N]; exact S.nd) (by show X.N[j]? = some x; rw [S.N]; exact hj) (hx2.loc S2) hp (swaps_not rfl _ _ _) (hx2.fn S2))).imp fun E σ H q => ?_
  obtain ⟨ι, F, ps, ex, r, hs, dx, s⟩ := q
  unfold fFld at s
  split at s
  · rename_i hcx
    split at s
    · rename_i y hy
      obtain ⟨dd, xs, v, e1, e2, e3, e4⟩ := exf_read dx hy
      have hcl : cls = .ref C := by have := dx.1; rw [hcx, gC] at this; cases this; rfl
      exact ⟨.ref a, hs, rfl, hcl, dd, xs, v, e1, e2, e3, s ι F _ _ Ext.refl (r.put e4)⟩
    · exact s.elim
  · exact s.elim
end
end Cut
end
section
/-! CutGen2: exceptions and two-clause comprehensions with one check each; what the head tells of the classes. -/
namespace Cut
open PySem PySem.Spec PyProof.Rows L2

theorem gloC_ok {c : SI} {x : Str} (h : gloC c x = true) : c.sc.names.lookup x = some .globalImplicit ∧ (x == ("__debug__" : Str)) = false := by
  unfold gloC at h
  simp only [Bool.and_eq_true, Bool.not_eq_true'] at h
  exact ⟨kindIs_ok h.1, h.2⟩
theorem s_raise {c : SI} {x m : Str} {j : Nat} {p p2 pos pos' : Pos} (he : (x, none) ∈ c.exs) (hc : c.calm = true) (h : gloC c x = true) : DS c (.Raise (some (.Call (.Name x p) [.Constant (.str m) j p2] [] pos)) none pos') (sRaise x) := ds_raise hc he (gloC_ok h).1 (gloC_ok h).2
theorem s_raiseF {c : SI} {x f : Str} {e : Expr} {fe : EM} {p pos pos' : Pos} (he : (x, some f) ∈ c.exs) (hc : c.calm = true) (h : gloC c x = true) (hE : DE c e fe) (hpe : plainArg e = true) : DS c (.Raise (some (.Call (.Name x p) [e] [] pos)) none pos') (sRaiseF x f fe) := ds_raiseF hc he (gloC_ok h).1 (gloC_ok h).2 hE hpe
def hdC (c : SI) (x : Str) (i : Nat) (n : Str) : Bool := gloC c x && (c.exms.any fun t => t.2.1 == x) && decide (c.N[i]? = some n) && kindIs c n .local && !(n == ("__debug__" : Str)) && !(n == ("__classdict__" : Str))
theorem hd_cons {c : SI} {x n : Str} {fb : Ex → SM} {b0 : Stmt} {suite : List Stmt} {np pe : Pos} {hds : List ExceptHandler} {l : List Hd} (i : Nat) (h : hdC c x i n = true) (hb : DHs c i (b0 :: suite) fb) (r : DHds c hds l) : DHds c (.ExceptHandler (some (.Name x np)) (some n) (b0 :: suite) pe :: hds) (⟨x, i, fb, false⟩ :: l) := by
  unfold hdC at h
  simp only [Bool.and_eq_true, Bool.not_eq_true'] at h
  exact .cons (gloC_ok h.1.1.1.1.1).1 (gloC_ok h.1.1.1.1.1).2 h.1.1.1.1.2 (of_decide_eq_true h.1.1.1.2) (kindIs_ok h.1.1.2) hb r
def hdA (c : SI) (x : Str) : Bool := gloC c x && (c.exms.any fun t => t.2.1 == x)
theorem hd_anon {c : SI} {x : Str} {f : SM} {b0 : Stmt} {suite : List Stmt} {np pe : Pos} {hds : List ExceptHandler} {l : List Hd} (h : hdA c x = true) (hb : DSs c.cool (b0 :: suite) f) (r : DHds c hds l) : DHds c (.ExceptHandler (some (.Name x np)) none (b0 :: suite) pe :: hds) (⟨x, 0, fun _ => f, true⟩ :: l) := by
  unfold hdA at h
  simp only [Bool.and_eq_true] at h
  exact .anon (gloC_ok h.1).1 (gloC_ok h.1).2 h.2 hb r
def fldC (c : SI) (i : Nat) (n : Str) : Bool := c.calm && decide (c.N[i]? = some n) && kindIs c n .local && !(n == ("__debug__" : Str)) && !(n == ("__classdict__" : Str))
theorem h_tup {c : SI} {x n z f xc : Str} {k jj : Nat} {p1 p2 p3 p4 p5 p6 : Pos} (i j : Nat) (he : (xc, some f) ∈ c.exs) (h : fldC c i n = true) (hs : stoC c j x = true) (hab : ∀ env, attributeBase (.Name n p3) f env (eval (.Name n p3) env) = eval (.Name n p3) env) :
    DHs c i [.Assign [.Name x p1] (.Tuple [.Constant (.str z) jj p2, .Attribute (.Name n p3) f p4] k p5) p6] (fTup xc j z f) := by
  unfold fldC at h
  simp only [Bool.and_eq_true, Bool.not_eq_true'] at h
  exact dhs_tup h.1.1.1.1 (of_decide_eq_true h.1.1.1.2) (kindIs_ok h.1.1.2) h.1.2 h.2 he (stoC_ok hs).1 (stoC_ok hs).2 hab
theorem h_fld {c : SI} {x n f xc : Str} {p1 p3 p4 p6 : Pos} (i j : Nat) (he : (xc, some f) ∈ c.exs) (h : fldC c i n = true) (hs : stoC c j x = true) (hab : ∀ env, attributeBase (.Name n p3) f env (eval (.Name n p3) env) = eval (.Name n p3) env) :
    DHs c i [.Assign [.Name x p1] (.Attribute (.Name n p3) f p4) p6] (fFld xc j f) := by
  unfold fldC at h
  simp only [Bool.and_eq_true, Bool.not_eq_true'] at h
  exact dhs_fld h.1.1.1.1 (of_decide_eq_true h.1.1.1.2) (kindIs_ok h.1.1.2) h.1.2 h.2 he (stoC_ok hs).1 (stoC_ok hs).2 hab
def coC2 (c : SI) (scope : Scope) (own : List (Str × Nat)) (own1 : List Nat) (g g1 : Tg) (iter iter1 : Expr) : Bool := c.calm && blkC c.N c.sc scope own && (g.vars.all fun i => (own.map (·.2)).contains i) && (g1.vars.all fun i => own1.contains i) && (own1.all fun i => (own.map (·.2)).contains i) && notSet iter && notSet iter1
theorem r_comp2 {c : SI} {elt tg iter tg1 iter1 : Expr} {ifs ifs1 : List Expr} {scope : Scope} {pos : Pos} {src src1 : IM} {g g1 : Tg} {tt tt1 : TM} {f : EM} (own : List (Str × Nat)) (own1 : List Nat) (h : coC2 c scope own own1 g g1 iter iter1 = true) (hi : DI c tg iter src) (hg : DG (c.blk scope) tg g) (ht : DTs (c.blk scope) ifs tt)
    (hi1 : DI (c.blk scope) tg1 iter1 src1) (hg1 : DG (c.blk scope) tg1 g1) (ht1 : DTs (c.blk scope) ifs1 tt1) (he : DE (c.blk scope) elt f) : DR c (.ListComp elt [⟨tg, iter, ifs, 0⟩, ⟨tg1, iter1, ifs1, 0⟩] scope pos) (rComp2 (own.map (·.2)) src g tt own1 src1 g1 tt1 f) := by
  unfold coC2 at h
  simp only [Bool.and_eq_true] at h
  exact dr_comp2 h.1.1.1.1.1.1 hi h.1.1.1.1.1.2 hg h.1.1.1.1.2 ht hi1 hg1 h.1.1.1.2 h.1.1.2 ht1 he h.1.2 h.2
/-! ### the head -/
/-- the class x has an own __init__ that keeps f -/
def oexB (K : PySem.W.Frag) (C : Addr) : Bool := (match K.lookup C with
  | some ⟨.type "type", dd, .cls ⟨_, _, .ref C' :: bm, _, _, true, _, _, _, _, false⟩, sl⟩ => decide (C' = C) && PySem.HandSPX.refsVE bm && (match sl.toList with
    | [_, _, _, _, some (.builtin m), _] => decide (m = "ValueError.__new__")
    | _ => false)
  | _ => false) && decide (PySem.W.findIn K (.ref C) "__setattr__" = some (some (.builtin "object.__setattr__"))) && decide (PySem.W.subIn K (.ref C) (.type "BaseException") = some true) && decide (PySem.W.typeIn K (.ref C) = some (.type "type")) && PySem.W.keepIn K (.ref C)
theorem oexB_ok {K : PySem.W.Frag} {C : Addr} (h : oexB K C = true) : OexC K C := by
  unfold oexB at h
  simp only [Bool.and_eq_true, decide_eq_true_eq] at h
  obtain ⟨⟨⟨⟨h1, h2⟩, h3⟩, h4⟩, h5⟩ := h
  refine ⟨?_, h2, h3, h4, h5⟩
  split at h1
  · rename_i dd nm bs C' bm ns qn sn sb ab col sl hK
    simp only [Bool.and_eq_true, decide_eq_true_eq] at h1
    obtain ⟨⟨rfl, hv⟩, h6⟩ := h1
    obtain ⟨l⟩ := sl
    split at h6
    · rename_i k0 k1 k2 k3 m k5 hl
      have h6 := of_decide_eq_true h6
      subst h6
      have hl : l = [k0, k1, k2, k3, some (.builtin "ValueError.__new__"), k5] := hl
      subst hl
      exact ⟨nm, qn, ns, bs, bm, sn, sb, ab, col, dd, k0, k1, k2, k3, k5, hK, hv⟩
    · cases h6
  · cases h1
def iniB (K : PySem.W.Frag) (B : Addr) : Bool := decide (PySem.W.specialIn K (.ref B) "__getattribute__" = some (some (.builtin "type.__getattribute__"))) && PySem.W.readsIn K B (.type "type") && (match PySem.W.findCls K (.ref B) (.type "type") "__init__" with
  | some (.val (.builtin m)) => decide (m = "ValueError.__init__")
  | _ => false)
theorem iniB_ok {K : PySem.W.Frag} {B : Addr} (h : iniB K B = true) : IniC K B := by
  unfold iniB at h
  simp only [Bool.and_eq_true, decide_eq_true_eq] at h
  obtain ⟨⟨h1, h2⟩, h3⟩ := h
  refine ⟨h1, h2, ?_⟩
  split at h3
  · rename_i m hm
    have h3 := of_decide_eq_true h3
    rw [hm, h3]
  · cases h3
def exfB (K : PySem.W.Frag) (x b f : Str) : Bool := oexB K (He.ga K x) && L2.xfB K (He.ga K x) && iniB K (He.ga K b) && decide (PySem.W.findIn K (.ref (He.ga K x)) f = some none) && decide (PySem.W.findIn K (.ref (He.ga K x)) "__init__" = some (some (.ref (He.ma K (He.ga K x) "__init__")))) && decide (PySem.W.typeIn K (.ref (He.ma K (He.ga K x) "__init__")) = some (.type "function"))
def exmB (K : PySem.W.Frag) (x y : Str) (b : Bool) : Bool := decide (PySem.W.exmOne K (.ref (He.ga K x)) (.ref (He.ga K y)) = some b)
section
variable {P : Program} {w : World} {K : PySem.W.Frag} {mg : Str → Option Value} {base : Heap} {k : Nat}
theorem exm_at {x y : Str} {b : Bool} (hx : mg x = some (.ref (He.ga K x))) (hy : mg y = some (.ref (He.ga K y))) (h : exmB K x y b = true) : ExmAt K mg (x, y, b) := ⟨_, _, hx, hy, of_decide_eq_true h⟩
theorem exc_at {x : Str} (hx : mg x = some (.ref (He.ga K x))) (h : (He.Fa.exc x).ok K = true) : ExcAt P w K mg base (fun j => j ≤ k) (x, none) := by
  have h : (PySem.W.excIn K (He.ga K x) He.veBase "ValueError.__new__" && (PySem.W.keepIn K (.ref (He.ga K x)) && (decide (PySem.W.subIn K (.ref (He.ga K x)) (.type "BaseException") = some true) && decide (PySem.W.typeIn K (.ref (He.ga K x)) = some (.type "type"))))) = true := h
  simp only [Bool.and_eq_true, decide_eq_true_eq] at h
  exact ⟨_, hx, h.2.1, h.1, h.2.2.1, h.2.2.2⟩
theorem excF_at {x b q f m qual : Str} {params : Arguments} {scope : Scope} {fd : FuncData} {j : Nat} {p1 p2 p3 p4 p5 p6 p7 p8 p9 p10 p11 p12 p13 : Pos} (hk : 2 ≤ k) (hx : mg x = some (.ref (He.ga K x))) (hb : mg b = some (.ref (He.ga K b))) (h : exfB K x b f = true)
    (FD : FunD K "__init__" qual params [.Expr (.Call (.Attribute (.Name b p1) "__init__" p2) [.Name "self" p3, .JoinedStr [.Constant (.str m) j p4, .FormattedValue (.Name q p5) (-1) none p6] p7] [] p8) p9, .Assign [.Attribute (.Name "self" p10) f p11] (.Name q p12) p13] scope [] [] (He.ma K (He.ga K x) "__init__") fd)
    (S : FnScope ([("self" : Str), q] : List Str) ([("self" : Str), q] : List Str) scope) (bnd : ∀ (kV doc pm : Value) (an : Option Addr) (cdv ct : Value) (us : List Value), us.length = ([("self" : Str), q] : List Str).length → bindArgs (PySem.W.fnOf "__init__" qual params [.Expr (.Call (.Attribute (.Name b p1) "__init__" p2) [.Name "self" p3, .JoinedStr [.Constant (.str m) j p4, .FormattedValue (.Name q p5) (-1) none p6] p7] [] p8) p9, .Assign [.Attribute (.Name "self" p10) f p11] (.Name q p12) p13] scope .none kV doc pm an cdv ct) ⟨us, []⟩ = pure (([("self" : Str), q] : List Str).zip us))
    (hs : (decide (scope.names.lookup b = some .globalImplicit) && decide (scope.names.lookup q = some .local) && decide (scope.names.lookup ("self" : Str) = some .local) && !(b == ("__debug__" : Str)) && !(q == ("__debug__" : Str)) && !(q == ("__classdict__" : Str)) && decide (m.length ≤ 1000)) = true)
    (hce : ∀ (n : Addr) (cdv : Value), ∃ pl : Sem Bool, eval (.Call (.Attribute (.Name b p1) "__init__" p2) [.Name "self" p3, .JoinedStr [.Constant (.str m) j p4, .FormattedValue (.Name q p5) (-1) none p6] p7] [] p8) (envOfC qual scope n (He.ma K (He.ga K x) "__init__") cdv) = (do
      let u ← eval (.Name b p1) (envOfC qual scope n (He.ma K (He.ga K x) "__init__") cdv)
      standAt p2.atName
      let (g, one) ← holding [u] (getMethod u "__init__" pl)
      callWith p8 g one (backTo p8 (starEach [.Name "self" p3, .JoinedStr [.Constant (.str m) j p4, .FormattedValue (.Name q p5) (-1) none p6] p7] (envOfC qual scope n (He.ma K (He.ga K x) "__init__") cdv))) (backToKw p8 (keywordEach [] (envOfC qual scope n (He.ma K (He.ga K x) "__init__") cdv))))) :
    ExcAt P w K mg base (fun j => j ≤ k) (x, some f) := by
  unfold exfB at h
  simp only [Bool.and_eq_true, Bool.not_eq_true', decide_eq_true_eq] at h hs
  obtain ⟨⟨⟨⟨⟨h1, h2⟩, h3⟩, h4⟩, h5⟩, h6⟩ := h
  obtain ⟨⟨⟨⟨⟨⟨s1, s2⟩, s3⟩, s4⟩, s5⟩, s6⟩, s7⟩ := hs
  exact ⟨_, _, 1, fd, ([("self" : Str), q] : List Str), hx, oexB_ok h1, L2.xfB_ok h2, h4, h5, h6, init_ok FD S s1 s2 s3 s4 s5 s6 hb (iniB_ok h3) (oexB_ok h1) h4 s7 hce, hk, FD.bindsN bnd⟩
end
/-! ### a hook that sees the table of the interpreter's own statics, too -/
def asC (g : Addr → Option Obj) (n : Nat) : List Addr := He.asD g n ++ [cStatics]
def obsC (n : Nat) (fa : List He.Fa) (fn : List He.DefD) (ts : List He.Tab) (ex : PySem.W.Frag → Bool) (g : Addr → Option Obj) : He.AlX := (He.obsT fa fn ts (He.frT g (asC g n)), ex (He.frT g (asC g n)))
def hookC (n : Nat) (fa : List He.Fa) (fn : List He.DefD) (ts : List He.Tab) (ex : PySem.W.Frag → Bool) : PySem.W.Hook where
  α := He.AlX
  obs := fun s => obsC n fa fn ts ex s.heap.get?
  val := fun w => He.valX fn ts w
  says := fun w h => ∃ K : PySem.W.Frag, K.In h ∧ He.SaysX fa fn ts [] ex w h K
  of := fun _ _ e => ⟨_, He.frT_in, ⟨congrArg (fun z : He.AlX => z.1) e, congrArg (fun z : He.AlX => z.2) e, (fun _ h => nomatch h), (fun _ h => nomatch h), (fun _ h => nomatch h)⟩⟩
  keeps := fun _ _ _ ⟨K, hK, c⟩ k => ⟨K, PySem.W.Frag.In.keeps hK k, ⟨c.t, c.more, c.hd, c.out, (fun _ h => nomatch h)⟩⟩
theorem obsC_eq {n : Nat} {fa : List He.Fa} {fn : List He.DefD} {ts : List He.Tab} {ex : PySem.W.Frag → Bool} {g : Addr → Option Obj} {s : Shared} (h : ∀ a, g a = s.heap.get? a) : obsC n fa fn ts ex g = (hookC n fa fn ts ex).obs s := by
  have e : g = s.heap.get? := funext h
  rw [e] <;> rfl
end Cut
end
section
/-! CutTup: constant tuples of the module. -/
namespace Cut
open PySem PySem.Spec PyProof.Rows L2
/-- a constant tuple of the module -/
def tupB (K : PySem.W.Frag) (x : Str) (l : List D) : Bool := match PySem.W.nsIn K mainGlobals x with
  | some (some (.ref p)) => (match K.lookup p with
    | some o => (match o.dict with
      | none => true
      | some _ => false) && (match o.cls with
      | .type c => decide (c = "tuple")
      | _ => false)
    | none => false) && denB K (.tup l) (.ref p)
  | _ => false
def TcAt (x : Str) (l : List D) (K : PySem.W.Frag) (mg : Str → Option Value) : Prop := ∃ p o, mg x = some (.ref p) ∧ K.lookup p = some o ∧ o.cls = .type "tuple" ∧ o.dict = none ∧ ∀ w P ι F H, Den ⟨K, w, P⟩ ι F H (.ref p) (.tup l)
def FactT.tc (x : Str) (l : List D) : FactT := ⟨fun _ _ K mg _ _ => TcAt x l K mg, fun _ h => h⟩
theorem tc_at {K : PySem.W.Frag} {mg : Str → Option Value} {base : Heap} (kin : K.In base) (ns : base.Ns mainGlobals mg) {x : Str} {l : List D} (h : tupB K x l = true) : TcAt x l K mg := by
  unfold tupB at h
  split at h
  · rename_i p e
    rw [Bool.and_eq_true] at h
    obtain ⟨h1, h2⟩ := h
    obtain ⟨v, r, q⟩ := denB_ok _ _ h2
    have hv : v = .ref p := by
      cases v with
      | ref a => cases r; rfl
      | non => cases r
      | bl b => cases r
      | int i => obtain ⟨_, r⟩ := r; cases r
      | str i => obtain ⟨_, r⟩ := r; cases r
      | byt i => obtain ⟨_, r⟩ := r; cases r
      | flt i => obtain ⟨_, r⟩ := r; cases r
      | ty i => cases r
    subst hv
    split at h1
    · rename_i o ho
      rw [Bool.and_eq_true] at h1
      refine ⟨p, o, PySem.W.mg_of kin ns e, ho, ?_, ?_, q⟩
      · have z := h1.2
        split at z
        · rename_i c hc
          rw [hc, of_decide_eq_true z]
        · cases z
      · have z := h1.1
        split at z
        · rename_i hc; exact hc
        · cases z
    · cases h1
  · cases h
end Cut
end
section
namespace Lk04
open PySem PySem.Spec PyProof.Rows L2 Cut
def top (i : Nat) : Stmt := PySem.Challenge.pw_cutrelays_k04_sendings_in_order.main.body.getD i (.Pass ⟨0, 0, 0, 0⟩)
def k_WAYS : D := .tup [.str "length", .str "marks", .str "close"]
def k_ENDS : D := .tup [.str "mark", .str "open", .str "shut"]
def l_WAYS : List D := [.str "length", .str "marks", .str "close"]
def l_ENDS : List D := [.str "mark", .str "open", .str "shut"]
abbrev s__law_pot_of : Stmt := top 7
abbrev s__law_kneaded : Stmt := top 6
abbrev s__law_below : Stmt := top 8
abbrev s__law_pick : Stmt := top 9
abbrev s__law_some_value : Stmt := top 10
abbrev s__law_some_sending : Stmt := top 11
abbrev s_order_key : Stmt := top 3
abbrev s_ordered : Stmt := top 4
abbrev s__law_is_ahead : Stmt := top 12
abbrev s_law : Stmt := top 13
def fnD : List He.DefD := [⟨("_law_pot_of", none), "_law_pot_of", "_law_pot_of", defArgs s__law_pot_of, defBody s__law_pot_of, defScope s__law_pot_of, [], []⟩,
  ⟨("_law_kneaded", none), "_law_kneaded", "_law_kneaded", defArgs s__law_kneaded, defBody s__law_kneaded, defScope s__law_kneaded, [], []⟩,
  ⟨("_law_below", none), "_law_below", "_law_below", defArgs s__law_below, defBody s__law_below, defScope s__law_below, [], []⟩,
  ⟨("_law_pick", none), "_law_pick", "_law_pick", defArgs s__law_pick, defBody s__law_pick, defScope s__law_pick, [], []⟩,
  ⟨("_law_some_value", none), "_law_some_value", "_law_some_value", defArgs s__law_some_value, defBody s__law_some_value, defScope s__law_some_value, [], []⟩,
  ⟨("_law_some_sending", none), "_law_some_sending", "_law_some_sending", defArgs s__law_some_sending, defBody s__law_some_sending, defScope s__law_some_sending, [], []⟩,
  ⟨("order_key", none), "order_key", "order_key", defArgs s_order_key, defBody s_order_key, defScope s_order_key, [], []⟩,
  ⟨("ordered", none), "ordered", "ordered", defArgs s_ordered, defBody s_ordered, defScope s_ordered, [], []⟩,
  ⟨("_law_is_ahead", none), "_law_is_ahead", "_law_is_ahead", defArgs s__law_is_ahead, defBody s__law_is_ahead, defScope s__law_is_ahead, [], []⟩,
  ⟨("law", none), "law", "law", defArgs s_law, defBody s_law, defScope s_law, [], []⟩]
def faD : List He.Fa := [.glo "_law_pot_of", .glo "_law_kneaded", .glo "_law_below", .glo "_law_pick", .glo "_law_some_value", .glo "_law_some_sending", .glo "order_key", .glo "ordered", .glo "_law_is_ahead", .glo "law", .free "abs", .free "enumerate", .free "int", .free "range", .free "len", .free "max", .free "min", .free "sorted", .free "list", .free "isinstance", .free "zip"]
def tsD : List He.Tab := []
def exD (K : PySem.W.Frag) : Bool := (constB K "WAYS" k_WAYS) && (constB K "ENDS" k_ENDS) && (tupB K "WAYS" l_WAYS) && (tupB K "ENDS" l_ENDS)
abbrev R : PySem.W.OpenRow := PySem.W.OpenLaw.row PySem.Challenge.rw_cutrelays_k04_sendings_in_order
abbrev hk : PySem.W.Hook := He.hookX 4 faD fnD tsD [] exD
def obD (s : PySem.W.SharedT) : He.AlX := He.obsX 4 faD fnD tsD [] exD (HandSHeadRun.getT s)
theorem obD_eq (s : PySem.W.SharedT) : obD s = hk.obs s.abs := He.obsX_eq (HandSHeadRun.getT_eq s)
def looseD : List Str := (["WAYS", "ENDS", "order_key", "ordered", "_law_kneaded", "_law_pot_of", "_law_below", "_law_pick", "_law_some_value", "_law_some_sending", "_law_is_ahead"] : List Str)
theorem runD (w : World) : HandSHeadRun.RunEq R (PySem.W.view R.prog [13]) hk obD 3000 looseD w := by
  intro os
  kernel_rfl
end Lk04
end
section
/-! CutEv: how the combinators reckon, as rules for simp. -/
namespace Cut
open PySem PySem.Spec PyProof.Rows L2

abbrev Big : Int := 1606938044258990275541962092341162602522202993782792835301376
theorem wid_of {i : Int} (h1 : -Big ≤ i) (h2 : i ≤ Big) : wid i = true := by
  unfold wid
  refine decide_eq_true ?_
  have h3 : i.natAbs ≤ Big.natAbs := by omega
  have h4 : Big.natAbs < 2 ^ 5000 := by
    have e : (Big.natAbs : Nat) = 2 ^ 200 := by decide +kernel
    rw [e]
    exact Nat.pow_lt_pow_right (by omega) (by omega)
  omega
section
variable {α β : Type} {a : α} {x : Ex} {s : PSt} {k : α → PSt → Out β}
@[simp] theorem bind_ok : (Out.ok a s).bind k = k a s := rfl
@[simp] theorem bind_ex : (Out.ex x s : Out α).bind k = .ex x s := rfl
@[simp] theorem bind_bad : (Out.bad : Out α).bind k = .bad := rfl
end
section
variable {s : PSt} {sl : List (Option D)} {ob : Obs} {i j l n : Nat} {d e : D} {f g h : EM} {fr gr : RM} {tt : TM} {as : AM} {r : Rv} {fs gs : SM}
@[simp] theorem toD_val : (Rv.val d).toD = d := rfl
@[simp] theorem toD_fl {l : List D} : (Rv.fl l).toD = .lst l := rfl
@[simp] theorem toD_fd {ks vs : List D} : (Rv.fd ks vs).toD = .dct ks vs := rfl
@[simp] theorem ev_C : eC d s = .ok d s := rfl
def vr (o : Option (Option D)) (s : PSt) : Out D := match o with
  | some (some d) => .ok d s
  | _ => .bad
@[simp] theorem vr_some : vr (some (some d)) s = .ok d s := rfl
@[simp] theorem vr_0 {o : Option D} {l : List (Option D)} : vr (o :: l)[0]? s = vr (some o) s := rfl
@[simp] theorem vr_1 {o : Option D} {l : List (Option D)} {i : Nat} : vr (o :: l)[i + 1]? s = vr l[i]? s := rfl
@[simp] theorem ev_var : eVar i ⟨sl, ob⟩ = vr sl[i]? ⟨sl, ob⟩ := rfl
@[simp] theorem ev_frz : eFrz fr s = (fr s).bind fun r s1 => .ok r.toD s1 := rfl
@[simp] theorem ev_val : rVal f s = (f s).bind fun d s1 => .ok (.val d) s1 := rfl
@[simp] theorem ev_nil : aNil s = .ok [] s := rfl
@[simp] theorem ev_cons : aCons f as s = (f s).bind fun d s1 => (as s1).bind fun ds s2 => .ok (d :: ds) s2 := rfl
@[simp] theorem look_int {i : Int} : look ob (.int i) = .int i := rfl
@[simp] theorem look_str {i : Str} : look ob (.str i) = .str i := rfl
@[simp] theorem look_bl {i : Bool} : look ob (.bl i) = .bl i := rfl
@[simp] theorem look_non : look ob .non = .non := rfl
@[simp] theorem look_lst {l : List D} : look ob (.lst l) = .lst l := rfl
@[simp] theorem look_tup {l : List D} : look ob (.tup l) = .tup l := rfl
@[simp] theorem look_scr {l : List D} : look ob (.scr l) = .scr l := rfl
@[simp] theorem look_dct {l m : List D} : look ob (.dct l m) = .dct l m := rfl
def lk (o : Option (Option Ob)) (n : Nat) : D := match o with
  | some (some (.lst ds)) => .lst ds
  | some (some (.dct ks vs)) => .dct ks vs
  | _ => .ob n
@[simp] theorem lk_lst {l : List D} : lk (some (some (.lst l))) n = .lst l := rfl
@[simp] theorem lk_dct {l m : List D} : lk (some (some (.dct l m))) n = .dct l m := rfl
@[simp] theorem look_ob : look ob (.ob n) = lk ob[n]? n := rfl
def opt (o : Option Rv) (s : PSt) : Out Rv := match o with
  | some r => .ok r s
  | none => .bad
@[simp] theorem opt_some : opt (some r) s = .ok r s := rfl
@[simp] theorem opt_none : opt none s = .bad := rfl
@[simp] theorem ev_op {o : D → D → Option Rv} : rOp o f g s = (f s).bind fun dx s1 => (g s1).bind fun dy s2 => opt (o (look s2.ob dx) (look s2.ob dy)) s2 := rfl
@[simp] theorem ev_b {o : List D → Option Rv} : rB o as s = (as s).bind fun ds s1 => opt (o (ds.map (look s1.ob))) s1 := rfl
theorem ev_call_ok {F : FM} {ds : List D} {s1 : PSt} {ob' : Obs} (h : as s = .ok ds s1) (hF : F ds s1.ob = .ok r ob') : rCall F as s = .ok r ⟨s1.sl, ob'⟩ := by
  unfold rCall; rw [h]; simp only [bind_ok, hF]
def fin (o : FOut) (sl : List (Option D)) : Out Rv := match o with
  | .ok r ob => .ok r ⟨sl, ob⟩
  | .ex x ob => .ex x ⟨sl, ob⟩
  | .bad => .bad
@[simp] theorem fin_ok : fin (.ok r ob) sl = .ok r ⟨sl, ob⟩ := rfl
@[simp] theorem ev_call {F : FM} : rCall F as s = (as s).bind fun ds s1 => fin (F ds s1.ob) s1.sl := rfl
theorem line_ok {n : Nat} (h : n ≤ 16777216) : (n ≤ sizeLine) = True := by
  have := sizeLine_eq
  exact eq_true (by omega)
@[simp] theorem ev_tup : eTup as s = (as s).bind fun ds s1 => if ds.length ≤ sizeLine then .ok (.tup ds) s1 else .bad := rfl
@[simp] theorem ev_lst : rLst as s = (as s).bind fun ds s1 => if ds.length ≤ sizeLine then .ok (.fl ds) s1 else .bad := rfl
def tbo (r : Rv) (s : PSt) : Out Bool := match r with
  | .val (.bl b) => .ok b s
  | _ => .bad
@[simp] theorem tbo_bl {b : Bool} : tbo (.val (.bl b)) s = .ok b s := rfl
@[simp] theorem ev_tB : tB fr s = (fr s).bind fun r s1 => tbo r s1 := rfl
def tru (o : Option Bool) (s : PSt) : Out Bool := match o with
  | some b => .ok b s
  | none => .bad
@[simp] theorem tru_some {b : Bool} : tru (some b) s = .ok b s := rfl
@[simp] theorem ev_tru : tTru f s = (f s).bind fun d s1 => tru (truD (look s1.ob d)) s1 := rfl
@[simp] theorem truD_bl {b : Bool} : truD (.bl b) = some b := rfl
@[simp] theorem truD_non : truD .non = some false := rfl
@[simp] theorem truD_int {i : Int} : truD (.int i) = some (i != 0) := rfl
@[simp] theorem truD_lst {l : List D} : truD (.lst l) = some !l.isEmpty := rfl
@[simp] theorem truD_tup {l : List D} : truD (.tup l) = some !l.isEmpty := rfl
@[simp] theorem ev_and2 {t u : TM} : tAnd2 t u s = (t s).bind fun b s1 => if b = true then u s1 else .ok false s1 := rfl
@[simp] theorem ev_or2 {t u : TM} : tOr2 t u s = (t s).bind fun b s1 => if b = true then .ok true s1 else u s1 := rfl
@[simp] theorem ev_not1 {t : TM} : tNot1 t s = (t s).bind fun b s1 => .ok (!b) s1 := rfl
@[simp] theorem ev_tTrue : tTrue s = .ok true s := rfl
@[simp] theorem ev_pNil : pNil s = .ok [] s := rfl
@[simp] theorem ev_pCons {k : PM} : pCons f g k s = (f s).bind fun d s1 => (g s1).bind fun e s2 => (k s2).bind fun l s3 => .ok ((d, e) :: l) s3 := rfl
def dfin (o : Option (List D × List D)) (s : PSt) : Out Rv := match o with
  | some (ks, vs) => .ok (.fd ks vs) s
  | none => .bad
@[simp] theorem dfin_some {ks vs : List D} : dfin (some (ks, vs)) s = .ok (.fd ks vs) s := rfl
@[simp] theorem ev_disp {k : PM} : rDisp k s = (k s).bind fun l s1 => dfin (dispD l [] []) s1 := rfl
def kfin (o : Option D) (s : PSt) : Out Rv := match o with
  | some d => .ok (.val d) s
  | none => .bad
@[simp] theorem kfin_some : kfin (some d) s = .ok (.val d) s := rfl
def kdo (kvs : List (Str × D)) (d : D) (s : PSt) : Out Rv := match d with
  | .str z => kfin (kvs.lookup z) s
  | _ => .bad
@[simp] theorem kdo_str {kvs : List (Str × D)} {z : Str} : kdo kvs (.str z) s = kfin (kvs.lookup z) s := rfl
@[simp] theorem ev_kd {kvs : List (Str × D)} : rKd kvs f s = (f s).bind fun d s1 => kdo kvs d s1 := by
  unfold rKd
  congr 1
@[simp] theorem keyD_str {x : Str} : keyD (.str x) = some (.inr x) := rfl
@[simp] theorem keyD_int {x : Int} : keyD (.int x) = some (.inl x) := rfl
@[simp] theorem ev_if2 {f g : EM} : eIf tt f g s = (tt s).bind fun b s1 => if b = true then f s1 else g s1 := rfl
@[simp] theorem ev_rif {f g : RM} : rIf tt f g s = (tt s).bind fun b s1 => if b = true then f s1 else g s1 := rfl
def rng (d : D) (s : PSt) : Out (List D) := match d with
  | .int j => if smallI j then .ok (rangeD 0 j.toNat) s else .bad
  | _ => .bad
theorem smallI_ok {j : Int} (h : -4611686018427387904 ≤ j ∧ j < 4611686018427387904) : smallI j = true := by
  unfold smallI
  simp only [Bool.and_eq_true, decide_eq_true_eq]
  omega
@[simp] theorem rng_int {j : Int} (h : -4611686018427387904 ≤ j ∧ j < 4611686018427387904) : rng (.int j) s = .ok (rangeD 0 j.toNat) s := by
  unfold rng; simp only [smallI_ok h, if_true]
@[simp] theorem ev_star : aStar f as s = (f s).bind fun d s1 => match seqD (look s1.ob d) with
  | some l => (as s1).bind fun ds s2 => .ok (l ++ ds) s2
  | none => .bad := rfl
@[simp] theorem ev_disp0 : rDisp0 s = .ok (.fd [] []) s := rfl
def rvo (d : D) (s : PSt) : Out Rv := match d with
  | .lst l => .ok (.fl l.reverse) s
  | .scr l => .ok (.fl l.reverse) s
  | .tup l => .ok (.val (.tup l.reverse)) s
  | _ => .bad
@[simp] theorem rvo_lst {l : List D} : rvo (.lst l) s = .ok (.fl l.reverse) s := rfl
@[simp] theorem rvo_scr {l : List D} : rvo (.scr l) s = .ok (.fl l.reverse) s := rfl
@[simp] theorem rvo_tup {l : List D} : rvo (.tup l) s = .ok (.val (.tup l.reverse)) s := rfl
@[simp] theorem ev_rev : rRev f s = (f s).bind fun d s1 => rvo (look s1.ob d) s1 := rfl
def mfin (o : Option (Rv × Obs)) (s : PSt) : Out Rv := match o with
  | some (r, ob) => .ok r ⟨s.sl, ob⟩
  | none => .bad
@[simp] theorem mfin_some : mfin (some (r, ob)) s = .ok r ⟨s.sl, ob⟩ := rfl
@[simp] theorem ev_meth {T : String} {M : ME} : rMeth T M f as s = (f s).bind fun d s1 => if tyD T d s1.ob = true then (as s1).bind fun ds s2 => mfin (M d ds s2.ob) s2 else .bad := rfl
@[simp] theorem ev_neg : eNeg f s = (f s).bind fun d s1 => match d with
  | .int i => .ok (.int (-i)) s1
  | _ => .bad := rfl
@[simp] theorem ev_and : eAnd f g s = (f s).bind fun d s1 => match d with
  | .bl true => g s1
  | .bl false => .ok (.bl false) s1
  | _ => .bad := rfl
@[simp] theorem ev_or : eOr f g s = (f s).bind fun d s1 => match d with
  | .bl true => .ok (.bl true) s1
  | .bl false => g s1
  | _ => .bad := rfl
@[simp] theorem ev_not : eNot f s = (f s).bind fun d s1 => match d with
  | .bl b => .ok (.bl (!b)) s1
  | _ => .bad := rfl
def isfin (o : Option Bool) (s : PSt) : Out Rv := match o with
  | some b => .ok (.val (.bl b)) s
  | none => .bad
@[simp] theorem isfin_some {b : Bool} : isfin (some b) s = .ok (.val (.bl b)) s := rfl
@[simp] theorem ev_is {ts : List Ty} : rIs f ts s = (f s).bind fun d s1 => isfin (isD1 (look s1.ob d) ts) s1 := rfl
/-! statements -/
def go (fl : Fl) (g : SM) (s : PSt) : Out Fl := match fl with
  | .nx => g s
  | fl => .ok fl s
@[simp] theorem go_nx : go .nx gs s = gs s := rfl
@[simp] theorem go_rt : go (.rt r) gs s = .ok (.rt r) s := rfl
@[simp] theorem go_bk : go .bk gs s = .ok .bk s := rfl
@[simp] theorem go_ct : go .ct gs s = .ok .ct s := rfl
@[simp] theorem go_rto : go (.rto n) gs s = .ok (.rto n) s := rfl
@[simp] theorem ev_seq : sSeq fs gs s = (fs s).bind fun fl s1 => go fl gs s1 := by unfold sSeq; congr 1
@[simp] theorem ev_pass : sPass s = .ok .nx s := rfl
@[simp] theorem ev_bk : sBk s = .ok .bk s := rfl
@[simp] theorem ev_ct : sCt s = .ok .ct s := rfl
@[simp] theorem ev_set : sSet i f s = (f s).bind fun d s1 => .ok .nx ⟨s1.sl.set i (some d), s1.ob⟩ := rfl
@[simp] theorem ev_par : sPar i j f g s = (f s).bind fun d s1 => (g s1).bind fun e s2 => .ok .nx ⟨(s2.sl.set i (some d)).set j (some e), s2.ob⟩ := rfl
@[simp] theorem ev_par3 : sPar3 i j l f g h s = (f s).bind fun d s1 => (g s1).bind fun e s2 => (h s2).bind fun z s3 => .ok .nx ⟨((s3.sl.set i (some d)).set j (some e)).set l (some z), s3.ob⟩ := rfl
@[simp] theorem ev_if : sIf tt fs gs s = (tt s).bind fun b s1 => if b = true then fs s1 else gs s1 := rfl
@[simp] theorem ev_ret : sRet fr s = (fr s).bind fun r s1 => .ok (.rt r) s1 := rfl
@[simp] theorem ev_retN : sRetN s = .ok (.rt (.val .non)) s := rfl
@[simp] theorem ev_exp : sExp fr s = (fr s).bind fun _ s1 => .ok .nx s1 := rfl
def tgo (o : Option (List (Option D))) (ob : Obs) : Out Fl := match o with
  | some sl => .ok .nx ⟨sl, ob⟩
  | none => .bad
@[simp] theorem tgo_some : tgo (some sl) ob = .ok .nx ⟨sl, ob⟩ := rfl
@[simp] theorem ev_asg {t : Tg} : sAsg t f s = (f s).bind fun d s1 => tgo (t.put d s1.sl) s1.ob := rfl
def put (o : Option Obs) (sl : List (Option D)) : Out Fl := match o with
  | some ob => .ok .nx ⟨sl, ob⟩
  | none => .bad
@[simp] theorem put_some : put (some ob) sl = .ok .nx ⟨sl, ob⟩ := rfl
@[simp] theorem ev_put {fo fi fe : EM} : sPut fo fi fe s = (fe s).bind fun v s1 => (fo s1).bind fun o s2 => (fi s2).bind fun i s3 => put (setO o i v s3.ob) s3.sl := rfl
@[simp] theorem ev_for {src : IM} {t : Tg} : sFor src t fs s = (src s).bind fun items s1 => forGo t fs items s1 := rfl
def fgo (fl : Fl) (k : PSt → Out Fl) (s : PSt) : Out Fl := match fl with
  | .nx => k s
  | .ct => k s
  | .bk => .ok .nx s
  | .rt r => .ok (.rt r) s
  | .rto n => .ok (.rto n) s
@[simp] theorem fgo_nx {k : PSt → Out Fl} : fgo .nx k s = k s := rfl
@[simp] theorem fgo_ct {k : PSt → Out Fl} : fgo .ct k s = k s := rfl
@[simp] theorem fgo_bk {k : PSt → Out Fl} : fgo .bk k s = .ok .nx s := rfl
@[simp] theorem fgo_rt {k : PSt → Out Fl} : fgo (.rt r) k s = .ok (.rt r) s := rfl
@[simp] theorem fgo_rto {k : PSt → Out Fl} : fgo (.rto n) k s = .ok (.rto n) s := rfl
def fput (o : Option (List (Option D))) (k : List (Option D) → Out Fl) : Out Fl := match o with
  | some sl => k sl
  | none => .bad
@[simp] theorem fput_some {k : List (Option D) → Out Fl} : fput (some sl) k = k sl := rfl
theorem for_cons {t : Tg} {d : D} {ds : List D} : forGo t fs (d :: ds) s = fput (t.put d s.sl) fun sl => (fs ⟨sl, s.ob⟩).bind fun fl s1 => fgo fl (forGo t fs ds) s1 := by
  rw [forGo]
  cases h : t.put d s.sl with
  | none => rfl
  | some sl =>
    show Out.bind _ _ = Out.bind _ _
    congr 1
theorem for_nil {t : Tg} : forGo t fs [] s = .ok .nx s := rfl
@[simp] theorem ev_range1 {f : EM} : iRange1 f s = (f s).bind fun d s1 => rng d s1 := rfl
@[simp] theorem put_var {sl : List (Option D)} : (Tg.var i).put d sl = some (sl.set i (some d)) := rfl
theorem seq_ok {s1 : PSt} (h : fs s = .ok .nx s1) : sSeq fs gs s = gs s1 := by rw [ev_seq, h, bind_ok, go_nx]
theorem seq_rt {s1 : PSt} (h : fs s = .ok (.rt r) s1) : sSeq fs gs s = .ok (.rt r) s1 := by rw [ev_seq, h, bind_ok, go_rt]
theorem seq_assoc {hs : SM} : sSeq (sSeq fs gs) hs s = sSeq fs (sSeq gs hs) s := by
  simp only [ev_seq]
  cases fs s with
  | bad => rfl
  | ex x s => rfl
  | ok fl s1 =>
    simp only [bind_ok]
    cases fl <;> rfl
theorem def_rt {ds : List D} {k : Nat} {ob' : Obs} (h : fs ⟨ds.map some ++ List.replicate k none, ob⟩ = .ok (.rt r) ⟨sl, ob'⟩) (hl : ob'.length = ob.length) : evDef k fs ds ob = .ok r ob' := by
  unfold evDef
  rw [h]
  show leave _ _ _ _ = _
  unfold leave
  rw [if_pos hl]
theorem def_new {ds : List D} {k : Nat} {t : Obs} (h : fs ⟨ds.map some ++ List.replicate k none, ob⟩ = .ok (.rt r) ⟨sl, ob ++ t⟩) (hr : r.under ob.length = true) : evDef k fs ds ob = .ok r ob := by
  unfold evDef
  rw [h]
  show leave _ _ _ _ = _
  unfold leave
  by_cases ht : t = []
  · subst ht
    rw [if_pos (by simp)]
    simp
  · rw [if_neg (by simpa using ht), if_pos ⟨hr, .inl (by simp)⟩]
    simp
/-! operators -/
@[simp] theorem add_int {i j : Int} : addD (.int i) (.int j) = some (.val (.int (i + j))) := rfl
@[simp] theorem sub_int {i j : Int} : subD (.int i) (.int j) = some (.val (.int (i - j))) := rfl
@[simp] theorem mul_int {i j : Int} (h : (-1606938044258990275541962092341162602522202993782792835301376 ≤ i ∧ i ≤ 1606938044258990275541962092341162602522202993782792835301376) ∧ -1606938044258990275541962092341162602522202993782792835301376 ≤ j ∧ j ≤ 1606938044258990275541962092341162602522202993782792835301376) : mulD (.int i) (.int j) = some (.val (.int (i * j))) := by
  unfold mulD
  simp only [wid_of h.1.1 h.1.2, wid_of h.2.1 h.2.2]
  rfl
@[simp] theorem mod_int {i j : Int} (h : 0 < j) : modD (.int i) (.int j) = some (.val (.int (i % j))) := by
  unfold modD
  simp only [h, decide_true, if_true]
@[simp] theorem fdiv_int {i j : Int} (h : 0 < j ∧ j ≤ 1606938044258990275541962092341162602522202993782792835301376) : fdivD (.int i) (.int j) = some (.val (.int (i / j))) := by
  unfold fdivD
  simp only [h.1, decide_true, wid_of (i := j) (by have := h.1; simp only [Big]; omega) h.2, Bool.and_self, if_true]
@[simp] theorem int_int {i : Int} : intD [.int i] = some (.val (.int i)) := rfl
@[simp] theorem int_bl {i : Bool} : intD [.bl i] = some (.val (.int (if i then 1 else 0))) := rfl
@[simp] theorem abs_int {i : Int} : absD [.int i] = some (.val (.int (if i < 0 then -i else i))) := rfl
@[simp] theorem max_int2 {i j : Int} : maxD [.int i, .int j] = some (.val (.int (max i j))) := by
  unfold maxD
  simp only [Option.some.injEq, Rv.val.injEq, D.int.injEq]
  omega
@[simp] theorem min_int2 {i j : Int} : minD [.int i, .int j] = some (.val (.int (min i j))) := by
  unfold minD
  simp only [Option.some.injEq, Rv.val.injEq, D.int.injEq]
  omega
@[simp] theorem lt_int {i j : Int} : ltD (.int i) (.int j) = some (.val (.bl (decide (i < j)))) := rfl
@[simp] theorem le_int {i j : Int} : leD (.int i) (.int j) = some (.val (.bl (decide (i ≤ j)))) := rfl
@[simp] theorem gt_int {i j : Int} : gtD (.int i) (.int j) = some (.val (.bl (decide (j < i)))) := rfl
@[simp] theorem ge_int {i j : Int} : geD (.int i) (.int j) = some (.val (.bl (decide (j ≤ i)))) := rfl
end
end Cut
end
section
/-! CutDraw: the draws of the laws. -/
namespace Cut
open PySem PySem.Spec PyProof.Rows L2

/-! ### more rules -/
theorem ofS_beq (a b : String) : ((Str.ofString a : Str) == Str.ofString b) = decide (a = b) := by
  by_cases h : a = b
  · subst h; simp
  · rw [decide_eq_false h]
    cases e : ((Str.ofString a : Str) == Str.ofString b) with
    | false => rfl
    | true =>
      have e : (Str.ofString a : Str) = Str.ofString b := by simpa using e
      rw [Str.ofString_eq_toList, Str.ofString_eq_toList] at e
      have e2 : a.toList.map Char.toNat = b.toList.map Char.toNat := by simpa using e
      have inj : ∀ (l m : List Char), l.map Char.toNat = m.map Char.toNat → l = m := by
        intro l
        induction l with
        | nil => intro m h; cases m with
          | nil => rfl
          | cons c m => cases h
        | cons c l ih => intro m h; cases m with
          | nil => cases h
          | cons d m =>
            simp only [List.map_cons, List.cons.injEq] at h
            rw [ih m h.2, Char.toNat_inj.mp h.1]
      exact absurd (String.toList_inj.mp (inj _ _ e2)) h
theorem ofS_eq (a b : String) : ((Str.ofString a : Str) = Str.ofString b) = (a = b) := by
  have h := ofS_beq a b
  by_cases e : a = b
  · subst e; simp
  · rw [decide_eq_false e] at h
    simp only [e, eq_iff_iff, iff_false]
    intro z
    rw [z] at h
    simp at h
section
variable {s : PSt} {sl : List (Option D)} {ob : Obs} {i j l n : Nat} {d e : D} {f g h : EM} {fr gr : RM} {tt : TM} {as : AM} {r : Rv} {fs gs : SM}
@[simp] theorem eqv_int {i j : Int} : D.eqv (.int i) (.int j) = (i == j) := by simp [D.eqv]
@[simp] theorem eqv_str {i j : Str} : D.eqv (.str i) (.str j) = (i == j) := by simp [D.eqv]
@[simp] theorem eqv_bl {i j : Bool} : D.eqv (.bl i) (.bl j) = (i == j) := by simp [D.eqv]
@[simp] theorem eqv_non : D.eqv .non .non = true := by simp [D.eqv]
@[simp] theorem eqv_tup {l m : List D} : D.eqv (.tup l) (.tup m) = D.eqvs l m := by simp [D.eqv]
@[simp] theorem eqv_lst {l m : List D} : D.eqv (.lst l) (.lst m) = D.eqvs l m := by simp [D.eqv]
@[simp] theorem eqvs_nil : D.eqvs [] [] = true := by simp [D.eqvs]
@[simp] theorem eqvs_cons {x y : D} {l m : List D} : D.eqvs (x :: l) (y :: m) = (D.eqv x y && D.eqvs l m) := by simp [D.eqvs]
@[simp] theorem eqvs_nc {y : D} {m : List D} : D.eqvs [] (y :: m) = false := by simp [D.eqvs]
@[simp] theorem eqvs_cn {y : D} {m : List D} : D.eqvs (y :: m) [] = false := by simp [D.eqvs]
@[simp] theorem eqv_non_int {i : Int} : D.eqv .non (.int i) = false := by simp [D.eqv]
@[simp] theorem eqv_int_non {i : Int} : D.eqv (.int i) .non = false := by simp [D.eqv]
@[simp] theorem eqv_non_str {i : Str} : D.eqv .non (.str i) = false := by simp [D.eqv]
@[simp] theorem eqv_str_non {i : Str} : D.eqv (.str i) .non = false := by simp [D.eqv]
@[simp] theorem eqv_str_int {i : Str} {j : Int} : D.eqv (.str i) (.int j) = false := by simp [D.eqv]
@[simp] theorem eqv_int_str {i : Str} {j : Int} : D.eqv (.int j) (.str i) = false := by simp [D.eqv]
@[simp] theorem plain_int {i : Int} : (D.int i).plain = true := by simp [D.plain]
@[simp] theorem plain_str {i : Str} : (D.str i).plain = true := by simp [D.plain]
@[simp] theorem plain_bl {i : Bool} : (D.bl i).plain = true := by simp [D.plain]
@[simp] theorem plain_non : D.non.plain = true := by simp [D.plain]
@[simp] theorem plain_tup {l : List D} : (D.tup l).plain = D.plains l := by simp [D.plain]
@[simp] theorem plain_lst {l : List D} : (D.lst l).plain = D.plains l := by simp [D.plain]
@[simp] theorem plains_nil : D.plains [] = true := by simp [D.plains]
@[simp] theorem plains_cons {l : List D} : D.plains (d :: l) = (d.plain && D.plains l) := by simp [D.plains]
@[simp] theorem depth_int {i : Int} : (D.int i).depth = 0 := by simp [D.depth]
@[simp] theorem depth_str {i : Str} : (D.str i).depth = 0 := by simp [D.depth]
@[simp] theorem depth_bl {i : Bool} : (D.bl i).depth = 0 := by simp [D.depth]
@[simp] theorem depth_non : D.non.depth = 0 := by simp [D.depth]
@[simp] theorem depth_tup {l : List D} : (D.tup l).depth = D.depths l + 1 := by simp [D.depth]
@[simp] theorem depth_lst {l : List D} : (D.lst l).depth = D.depths l + 1 := by simp [D.depth]
@[simp] theorem depths_nil : D.depths [] = 0 := by simp [D.depths]
@[simp] theorem depths_cons {l : List D} : D.depths (d :: l) = max d.depth (D.depths l) := by simp [D.depths]
theorem eq_ok {x y : D} (h : eqOk x y = true) : eqD x y = some (.val (.bl (D.eqv x y))) := by unfold eqD; rw [if_pos h]
theorem ne_ok {x y : D} (h : eqOk x y = true) : neD x y = some (.val (.bl (!D.eqv x y))) := by unfold neD; rw [if_pos h]
theorem under_int {i : Int} : (D.int i).under n = true := by simp [D.under]
/-- lists of ints -/
theorem plains_ints (l : List Int) : D.plains (l.map D.int) = true := by
  induction l with
  | nil => simp
  | cons i l ih => simp [ih]
theorem depths_ints (l : List Int) : D.depths (l.map D.int) = 0 := by
  induction l with
  | nil => simp
  | cons i l ih => simp [ih]
theorem unders_ints (n : Nat) (l : List Int) : D.unders n (l.map D.int) = true := by
  induction l with
  | nil => simp [D.unders]
  | cons i l ih => simp [D.unders, D.under, ih]
end
theorem lcGo_map {step : D → Obs → Option (List D × Obs)} {h : D → D} {ob : Obs} : ∀ {ds : List D}, (∀ d ∈ ds, step d ob = some ([h d], ob)) → lcGo step ds ob = some (ds.map h, ob)
  | [], _ => rfl
  | d :: ds, hs => by
    unfold lcGo
    simp only [hs d List.mem_cons_self, lcGo_map fun x hx => hs x (List.mem_cons_of_mem _ hx)]
    rfl
/-- a loop that runs through -/
theorem for_all {t : Tg} {fs : SM} (I : Nat → PSt → Prop) : ∀ (ds : List D) (k : Nat) (s : PSt), I k s →
    (∀ i d s, ds[i]? = some d → I (k + i) s → ∃ sl, t.put d s.sl = some sl ∧ ∃ s1, (fs ⟨sl, s.ob⟩ = .ok .nx s1 ∨ fs ⟨sl, s.ob⟩ = .ok .ct s1) ∧ I (k + i + 1) s1) → ∃ s1, forGo t fs ds s = .ok .nx s1 ∧ I (k + ds.length) s1
  | [], k, s, h, _ => ⟨s, for_nil, h⟩
  | d :: ds, k, s, h, hs => by
    obtain ⟨sl, h1, s1, h2, h3⟩ := hs 0 d s rfl h
    obtain ⟨s2, h4, h5⟩ := for_all I ds (k + 1) s1 h3 fun i e s he hI => by
      have := hs (i + 1) e s (by simpa using he) (by rw [show k + (i + 1) = k + 1 + i by omega]; exact hI)
      rw [show k + (i + 1) + 1 = k + 1 + i + 1 by omega] at this
      exact this
    refine ⟨s2, ?_, by rw [List.length_cons, show k + (ds.length + 1) = k + 1 + ds.length by omega]; exact h5⟩
    rw [for_cons, h1, fput_some]
    rcases h2 with h2 | h2
    · rw [h2, bind_ok, fgo_nx]; exact h4
    · rw [h2, bind_ok, fgo_ct]; exact h4
theorem cut_to {α : Type} (l : List α) (k : Nat) : cut l none (some (k : Int)) = l.take k := by
  unfold cut
  have e1 : HT.sIx l.length 0 none = 0 := rfl
  have e2 : HT.sIx l.length l.length (some (k : Int)) = min k l.length := by
    simp only [HT.sIx]
    split <;> omega
  rw [e1, e2, List.drop_zero, Nat.sub_zero]
  rcases Nat.le_total k l.length with h | h
  · rw [Nat.min_eq_left h]
  · rw [Nat.min_eq_right h, List.take_length, List.take_of_length_le h]
theorem cut_map {α β : Type} (f : α → β) (l : List α) (lo hi : Option Int) : cut (l.map f) lo hi = (cut l lo hi).map f := by
  unfold cut; rw [List.length_map, List.map_take, List.map_drop]
theorem cut_fr {α : Type} {l : List α} {k : Nat} {hi : Option Int} (h : cut l (some (k : Int)) hi ≠ []) : k < l.length := by
  unfold cut at h
  rw [HT.sIx_nat] at h
  refine Nat.lt_of_not_le fun hk => h ?_
  rw [Nat.min_eq_right hk, List.drop_length, List.take_nil]
section
variable {s : PSt} {sl : List (Option D)} {ob : Obs} {i j l n : Nat} {d e : D} {f g h : EM} {fr gr : RM} {tt : TM} {as : AM} {r : Rv} {fs gs : SM}
@[simp] theorem ob_last {o : Option Ob} : (ob ++ [o])[ob.length]? = some o := by simp
@[simp] theorem ob_setl {o o' : Option Ob} : (ob ++ [o]).set ob.length o' = ob ++ [o'] := by simp
theorem ixN_ok {n : Nat} {i : Int} (h : 0 ≤ i ∧ i < n) : ixN n i = some i.toNat := by unfold ixN; rw [if_pos h.1, if_pos h.2]
theorem atI_ok {α : Type} {l : List α} {i : Int} {x : α} (h1 : 0 ≤ i) (h : l[i.toNat]? = some x) : atI l i = some x := by
  have hl := (List.getElem?_eq_some_iff.mp h).1
  unfold atI
  rw [ixN_ok ⟨h1, by omega⟩]
  exact h
@[simp] theorem ev_slice {lo hi : OM} : rSlice f lo hi s = (f s).bind fun d s1 => (lo s1).bind fun a s2 => (hi s2).bind fun b s3 => opt (sliceD (look s3.ob d) a b) s3 := rfl
@[simp] theorem ev_oN : oNone s = .ok none s := rfl
@[simp] theorem ev_oS : oSome f s = (f s).bind fun d s1 => match d with
  | .int i => .ok (some i) s1
  | _ => .bad := rfl
@[simp] theorem ev_own : eOwn fr s = (fr s).bind fun r s1 => match r with
  | .val d => .ok d s1
  | .fl l => .ok (.ob s1.ob.length) ⟨s1.sl, s1.ob ++ [some (.lst l)]⟩
  | .fd ks vs => .ok (.ob s1.ob.length) ⟨s1.sl, s1.ob ++ [some (.dct ks vs)]⟩ := rfl
def sqo (o : Option (List D)) (s : PSt) : Out (List D) := match o with
  | some l => .ok l s
  | none => .bad
@[simp] theorem sqo_some {l : List D} : sqo (some l) s = .ok l s := rfl
@[simp] theorem ev_iseq : iSeq f s = (f s).bind fun d s1 => sqo (itemsD d) s1 := rfl
@[simp] theorem ev_ienum : iEnumD f s = (f s).bind fun d s1 => match lstD d with
  | some l => .ok (enumD 0 l) s1
  | none => .bad := rfl
def cfin (o : Option (List D × Obs)) (s : PSt) : Out Rv := match o with
  | some (l, ob) => if l.length ≤ sizeLine then .ok (.fl l) ⟨s.sl, ob⟩ else .bad
  | none => .bad
@[simp] theorem ev_comp {own : List Nat} {src : IM} {t : Tg} : rComp own src t tt f s = (src s).bind fun items s1 => cfin (lcGo (lcTurn t tt (lcElt f) (wipeD s1.sl own)) items s1.ob) s1 := rfl
theorem cfin_ok {l : List D} (h : l.length ≤ 16777216) : cfin (some (l, ob)) s = .ok (.fl l) ⟨s.sl, ob⟩ := by
  unfold cfin
  simp only [line_ok h, if_true]
end
section
variable {α : Type} {x0 x1 x2 x3 x4 x5 x6 x7 : α} {l : List α}
theorem at_nat {l : List α} {n : Nat} {x : α} (h : l[n]? = some x) : atI l (n : Int) = some x := atI_ok (by omega) (by rw [Int.toNat_natCast]; exact h)
@[simp] theorem at_0 : atI (x0 :: l) 0 = some x0 := at_nat (n := 0) (by simp)
@[simp] theorem at_1 : atI (x0 :: x1 :: l) 1 = some x1 := at_nat (n := 1) (by simp)
@[simp] theorem at_2 : atI (x0 :: x1 :: x2 :: l) 2 = some x2 := at_nat (n := 2) (by simp)
@[simp] theorem at_3 : atI (x0 :: x1 :: x2 :: x3 :: l) 3 = some x3 := at_nat (n := 3) (by simp)
@[simp] theorem at_4 : atI (x0 :: x1 :: x2 :: x3 :: x4 :: l) 4 = some x4 := at_nat (n := 4) (by simp)
@[simp] theorem at_5 : atI (x0 :: x1 :: x2 :: x3 :: x4 :: x5 :: l) 5 = some x5 := at_nat (n := 5) (by simp)
@[simp] theorem at_6 : atI (x0 :: x1 :: x2 :: x3 :: x4 :: x5 :: x6 :: l) 6 = some x6 := at_nat (n := 6) (by simp)
@[simp] theorem at_7 : atI (x0 :: x1 :: x2 :: x3 :: x4 :: x5 :: x6 :: x7 :: l) 7 = some x7 := at_nat (n := 7) (by simp)
end
namespace Draw
noncomputable def l__law_kneaded_0 : SM :=
  sSet 3 (eFrz (rOp modD (eFrz (rB intD (aCons (eFrz (rOp addD (eFrz (rOp addD (eFrz (rOp addD (eFrz (rOp mulD (eVar 3) (eVar 3))) (eFrz (rOp mulD (eC (.int 11)) (eVar 3))))) (eFrz (rOp mulD (eC (.int 4099)) (eVar 4))))) (eVar 1))) (aNil)))) (eVar 2)))
noncomputable def e__law_kneaded : SM :=
  sSeq (sSet 2 (eC (.int 2305843009213693907))) <|
  sSeq (sSet 3 (eFrz (rOp modD (eFrz (rB intD (aCons (eFrz (rOp addD (eFrz (rOp addD (eFrz (rOp mulD (eVar 0) (eC (.int 2862933555777941757)))) (eFrz (rOp mulD (eVar 1) (eC (.int 3037000493)))))) (eC (.int 29)))) (aNil)))) (eVar 2)))) <|
  sSeq (sFor (iRange1 (eC (.int 4))) (.var 4) l__law_kneaded_0) <|
  sRet (rOp addD (eFrz (rOp mulD (eVar 3) (eVar 2))) (eFrz (rOp modD (eFrz (rB intD (aCons (eFrz (rOp addD (eFrz (rOp mulD (eVar 3) (eC (.int 69621)))) (eVar 1))) (aNil)))) (eVar 2))))
noncomputable def f__law_kneaded : FM := evDef 3 e__law_kneaded
noncomputable def l__law_pot_of_0 : SM :=
  sPut (eVar 1) (eFrz (rOp modD (eVar 2) (eC (.int 17)))) (eFrz (rOp addD (eFrz (rOp ixD (eVar 1) (eFrz (rOp modD (eVar 2) (eC (.int 17)))))) (eFrz (rB absD (aCons (eVar 3) (aNil))))))
noncomputable def e__law_pot_of : SM :=
  sSeq (sSet 1 (eOwn (rComp [3] (iSeq (eFrz (rSlice (eVar 0) (oNone) (oSome (eC (.int 17)))))) (.var 3) (tTrue) (eFrz (rB absD (aCons (eVar 3) (aNil))))))) <|
  sSeq (sFor (iEnumD (eFrz (rSlice (eVar 0) (oSome (eC (.int 17))) (oSome (eC (.int 60)))))) (.tup [.var 2, .var 3]) l__law_pot_of_0) <|
  sRet (rLst (aCons (eFz (eVar 1)) (aCons (eC (.int 0)) (aCons (eC (.int 0)) (aCons (eC (.int 0)) (aNil))))))
noncomputable def f__law_pot_of : FM := evDef 3 e__law_pot_of
noncomputable def e__law_below : SM :=
  sSeq (sIf (tB (rOp ltD (eFrz (rOp ixD (eVar 0) (eC (.int 3)))) (eVar 1))) (sSeq (sPar 4 5 (eFrz (rOp ixD (eVar 0) (eC (.int 0)))) (eFrz (rOp ixD (eVar 0) (eC (.int 1))))) <|
  sSeq (sSet 3 (eFrz (rIf (tB (rOp neD (eVar 4) (eFrz (rLst (aNil))))) (rOp ixD (eVar 4) (eFrz (rOp modD (eVar 5) (eFrz (rB lenD (aCons (eVar 4) (aNil))))))) (rVal (eC (.int 0)))))) <|
  sSeq (sIf (tOr2 (tB (rOp geD (eVar 5) (eFrz (rB lenD (aCons (eVar 4) (aNil)))))) (tB (rOp ltD (eVar 3) (eFrz (rOp powD (eC (.int 10)) (eC (.int 16))))))) (sSet 3 (eFrz (rCall f__law_kneaded (aCons (eFrz (rOp modD (eFrz (rB intD (aCons (eVar 3) (aNil)))) (eC (.int 982451629)))) (aCons (eVar 5) (aNil)))))) (sPass)) <|
  sSeq (sPut (eVar 0) (eC (.int 1)) (eFrz (rOp addD (eVar 5) (eC (.int 1))))) <|
  sSeq (sPut (eVar 0) (eC (.int 2)) (eVar 3)) <|
  sPut (eVar 0) (eC (.int 3)) (eVar 3)) (sPass)) <|
  sSeq (sSet 2 (eFrz (rOp modD (eFrz (rB intD (aCons (eFrz (rOp ixD (eVar 0) (eC (.int 2)))) (aNil)))) (eVar 1)))) <|
  sSeq (sPut (eVar 0) (eC (.int 2)) (eFrz (rOp fdivD (eFrz (rOp ixD (eVar 0) (eC (.int 2)))) (eVar 1)))) <|
  sSeq (sPut (eVar 0) (eC (.int 3)) (eFrz (rOp fdivD (eFrz (rOp ixD (eVar 0) (eC (.int 3)))) (eVar 1)))) <|
  sRet (rVal (eVar 2))
noncomputable def f__law_below : FM := evDef 4 e__law_below
noncomputable def e__law_pick : SM :=
  sRet (rOp ixD (eVar 1) (eFrz (rCall f__law_below (aCons (eVar 0) (aCons (eFrz (rB lenD (aCons (eVar 1) (aNil)))) (aNil))))))
noncomputable def f__law_pick : FM := evDef 0 e__law_pick

end Draw
end Cut
end
section
/-! CutDraw2: what the draws give. -/
namespace Cut
open PySem PySem.Spec PyProof.Rows L2
namespace Draw
theorem knead_turn (ob : Obs) (a b : Int) (h3 : 0 ≤ b) (h4 : b < 2 ^ 60) (ds : List D) (x i : Int) (y : Option D) (hx1 : 0 ≤ x) (hx2 : x < 2 ^ 70) (hi1 : 0 ≤ i) (hi2 : i < 10) : ∃ x', (0 ≤ x' ∧ x' < 2 ^ 70) ∧
    forGo (.var 4) l__law_kneaded_0 (.int i :: ds) ⟨[some (.int a), some (.int b), some (.int 2305843009213693907), some (.int x), y], ob⟩ =
      forGo (.var 4) l__law_kneaded_0 ds ⟨[some (.int a), some (.int b), some (.int 2305843009213693907), some (.int x'), some (.int i)], ob⟩ := by
  refine ⟨(x * x + 11 * x + 4099 * i + b) % 2305843009213693907, by omega, ?_⟩
  rw [for_cons]
  unfold l__law_kneaded_0
  simp (disch := omega)
theorem kneaded (ob : Obs) (a b : Int) (h1 : 0 ≤ a) (h2 : a < 2 ^ 40) (h3 : 0 ≤ b) (h4 : b < 2 ^ 60) : ∃ v, f__law_kneaded [.int a, .int b] ob = .ok (.val (.int v)) ob := by
  obtain ⟨x1, ⟨p1, q1⟩, e1⟩ := knead_turn ob a b h3 h4 [.int 1, .int 2, .int 3] ((a * 2862933555777941757 + b * 3037000493 + 29) % 2305843009213693907) 0 none (by omega) (by omega) (by omega) (by omega)
  obtain ⟨x2, ⟨p2, q2⟩, e2⟩ := knead_turn ob a b h3 h4 [.int 2, .int 3] x1 1 (some (.int 0)) p1 q1 (by omega) (by omega)
  obtain ⟨x3, ⟨p3, q3⟩, e3⟩ := knead_turn ob a b h3 h4 [.int 3] x2 2 (some (.int 1)) p2 q2 (by omega) (by omega)
  obtain ⟨x4, ⟨p4, q4⟩, e4⟩ := knead_turn ob a b h3 h4 [] x3 3 (some (.int 2)) p3 q3 (by omega) (by omega)
  refine ⟨x4 * 2305843009213693907 + (x4 * 69621 + b) % 2305843009213693907, ?_⟩
  unfold f__law_kneaded evDef e__law_kneaded
  have r4 : rangeD 0 4 = [.int 0, .int 1, .int 2, .int 3] := rfl
  simp (disch := omega) [List.replicate, r4, e1, e2, e3, e4, for_nil]
  simp [leave]
/-- the pot: cells, the place (at most k), the number drawn from -/
def Pot (k : Nat) (p : List D) : Prop := ∃ (cells : List Int) (place a left : Int), p = [.lst (cells.map D.int), .int place, .int a, .int left] ∧ 0 ≤ place ∧ place ≤ k ∧ cells.length ≤ 17
theorem Pot.mono {j k : Nat} {p : List D} (h : Pot j p) (hk : j ≤ k) : Pot k p := by
  obtain ⟨cells, place, a, left, e, h1, h2, h3⟩ := h
  exact ⟨cells, place, a, left, e, h1, by omega, h3⟩
theorem enum_ints (ms : List Int) (k : Int) (i : Nat) (d : D) (h : (enumD k (ms.map D.int))[i]? = some d) : ∃ m, ms[i]? = some m ∧ d = .tup [.int (k + i), .int m] := by
  obtain ⟨x, h1, h2⟩ := enumD_get _ _ _ _ h
  rw [List.getElem?_map] at h1
  cases e : ms[i]? with
  | none => rw [e] at h1; cases h1
  | some m =>
    rw [e] at h1
    cases h1
    exact ⟨m, rfl, h2⟩
theorem pot_of (ob : Obs) (ns : List Int) (hn : ns.length ≤ 63) : ∃ p, f__law_pot_of [.scr (ns.map D.int)] ob = .ok (.fl p) ob ∧ Pot 0 p := by
  let cells0 : List Int := (ns.take 17).map fun i => if i < 0 then -i else i
  have hc : lcGo (lcTurn (.var 3) tTrue (lcElt (eFrz (rB absD (aCons (eVar 3) aNil)))) (wipeD [some (.scr (ns.map D.int)), none, none, none] [3])) ((ns.take 17).map D.int) ob = some (cells0.map D.int, ob) := by
    have hh := lcGo_map (step := lcTurn (.var 3) tTrue (lcElt (eFrz (rB absD (aCons (eVar 3) aNil)))) (wipeD [some (.scr (ns.map D.int)), none, none, none] [3])) (ob := ob) (ds := (ns.take 17).map D.int)
      (h := fun d => match d with | .int i => .int (if i < 0 then -i else i) | d => d) (fun d hd => by
        obtain ⟨i, _, rfl⟩ := List.mem_map.mp hd
        simp [lcTurn, lcElt, tTrue, wipeD])
    rw [hh, List.map_map]
    show some ((ns.take 17).map _, ob) = some (((ns.take 17).map _).map _, ob)
    rw [List.map_map]
    rfl
  have hlen : (cells0.map D.int).length ≤ 16777216 := by simp only [cells0, List.length_map, List.length_take]; omega
  obtain ⟨s1, hl, ⟨cells, y, z, hcl, hs1⟩⟩ := for_all (t := .tup [.var 2, .var 3]) (fs := l__law_pot_of_0)
    (fun _ s => ∃ (cells : List Int) (y z : Option D), cells.length = min 17 ns.length ∧ s = ⟨[some (.scr (ns.map D.int)), some (.ob ob.length), y, z], ob ++ [some (.lst (cells.map D.int))]⟩)
    (enumD 0 ((cut ns (some ((17 : Nat) : Int)) (some ((60 : Nat) : Int))).map D.int)) 0 ⟨[some (.scr (ns.map D.int)), some (.ob ob.length), none, none], ob ++ [some (.lst (cells0.map D.int))]⟩
    ⟨cells0, none, none, by simp [cells0], rfl⟩ (by
      rintro i d s hd ⟨cells, y, z, hcl, rfl⟩
      obtain ⟨m, hm, rfl⟩ := enum_ints _ _ _ _ hd
      have h17 : 17 < ns.length := cut_fr (hi := some ((60 : Nat) : Int)) (fun e => by rw [e] at hm; cases hm)
      have hcl : cells.length = 17 := by omega
      refine ⟨[some (.scr (ns.map D.int)), some (.ob ob.length), some (.int (0 + i)), some (.int m)], by simp [Tg.put, Tg.puts, seqD], ?_⟩
      have hb : ((0 + (i : Int)) % 17).toNat < cells.length := by omega
      have h1 : atI (cells.map D.int) ((0 + (i : Int)) % 17) = some (.int cells[((0 + (i : Int)) % 17).toNat]) := atI_ok (by omega) (by rw [List.getElem?_map, List.getElem?_eq_getElem hb]; rfl)
      have h2 : ixN (cells.map D.int).length ((0 + (i : Int)) % 17) = some ((0 + (i : Int)) % 17).toNat := ixN_ok ⟨by omega, by rw [List.length_map]; omega⟩
      refine ⟨_, .inl ?_, cells.set ((0 + (i : Int)) % 17).toNat (cells[((0 + (i : Int)) % 17).toNat] + (if m < 0 then -m else m)), some (.int (0 + i)), some (.int m), by rw [List.length_set]; omega, rfl⟩
      unfold l__law_pot_of_0
      simp only [ev_put, ev_frz, ev_op, ev_var, vr_1, vr_0, vr_some, bind_ok, ev_C, look_int, mod_int (show (0 : Int) < 17 by omega), opt_some, toD_val, look_ob, ob_last, lk_lst, ixD, h1, Option.map_some, ev_b, ev_cons, ev_nil, List.map_cons, List.map_nil, abs_int, add_int]
      simp only [setO, ob_last, h2, Option.map_some, ob_setl, put_some, List.map_set])
  refine ⟨[.lst (cells.map D.int), .int 0, .int 0, .int 0], ?_, cells, 0, 0, 0, rfl, by omega, by omega, by omega⟩
  have e17 : cut ns none (some 17) = ns.take 17 := cut_to ns 17
  unfold f__law_pot_of evDef e__law_pot_of
  simp only [List.map_cons, List.map_nil, List.replicate, List.cons_append, List.nil_append, ev_seq, ev_set, ev_own, ev_comp, ev_iseq, ev_frz, ev_slice, ev_var, vr_0, vr_some, bind_ok, ev_oN, ev_oS, ev_C, look_scr, sliceD, opt_some, toD_fl, itemsD, sqo_some, cut_map, e17, hc, cfin_ok hlen, List.set_cons_succ, List.set_cons_zero, go_nx, ev_for, ev_ienum, lstD]
  have hl' : forGo (.tup [.var 2, .var 3]) l__law_pot_of_0 (enumD 0 (List.map D.int (cut ns (some 17) (some 60)))) ⟨[some (.scr (ns.map D.int)), some (.ob ob.length), none, none], ob ++ [some (.lst (cells0.map D.int))]⟩ = .ok .nx s1 := hl
  simp only [hl', bind_ok, go_nx, hs1, ev_ret, ev_lst, ev_cons, eFz, ev_var, vr_1, vr_0, vr_some, ob_last, ob_setl, ev_C, ev_nil, List.length_cons, List.length_nil, line_ok (show 0 + 1 + 1 + 1 + 1 ≤ 16777216 by omega), if_true]
  unfold leave
  rw [if_neg (by simp), if_pos]
  · simp
  · refine ⟨?_, .inl (by simp)⟩
    simp [Rv.under, D.unders, D.under, unders_ints]
/-- the store with this list at n -/
abbrev at_ (ob : Obs) (n : Nat) (p : List D) : Obs := ob.set n (some (.lst p))
theorem at_get {ob : Obs} {n : Nat} {p : List D} (h : n < ob.length) : (at_ ob n p)[n]? = some (some (.lst p)) := by simp [h]
theorem at_set {ob : Obs} {n : Nat} {p q : List D} : (at_ ob n p).set n (some (.lst q)) = at_ ob n q := by simp
section
variable {x0 x1 x2 x3 v : D}
theorem at4_0 : atI [x0, x1, x2, x3] 0 = some x0 := rfl
theorem at4_1 : atI [x0, x1, x2, x3] 1 = some x1 := rfl
theorem at4_2 : atI [x0, x1, x2, x3] 2 = some x2 := rfl
theorem at4_3 : atI [x0, x1, x2, x3] 3 = some x3 := rfl
theorem ix4_1 : ixN [x0, x1, x2, x3].length 1 = some 1 := rfl
theorem ix4_2 : ixN [x0, x1, x2, x3].length 2 = some 2 := rfl
theorem ix4_3 : ixN [x0, x1, x2, x3].length 3 = some 3 := rfl
end
theorem below_rest {ob : Obs} {n : Nat} (hn : n < ob.length) (b : Int) (hb : 0 < b) (hb2 : b ≤ 1606938044258990275541962092341162602522202993782792835301376) (L : D) (pl a left : Int) (y3 y4 y5 : Option D) :
    (sSeq (sSet 2 (eFrz (rOp modD (eFrz (rB intD (aCons (eFrz (rOp ixD (eVar 0) (eC (.int 2)))) (aNil)))) (eVar 1)))) <|
      sSeq (sPut (eVar 0) (eC (.int 2)) (eFrz (rOp fdivD (eFrz (rOp ixD (eVar 0) (eC (.int 2)))) (eVar 1)))) <|
      sSeq (sPut (eVar 0) (eC (.int 3)) (eFrz (rOp fdivD (eFrz (rOp ixD (eVar 0) (eC (.int 3)))) (eVar 1)))) <| sRet (rVal (eVar 2)))
      ⟨[some (.ob n), some (.int b), none, y3, y4, y5], at_ ob n [L, .int pl, .int a, .int left]⟩ =
    .ok (.rt (.val (.int (a % b)))) ⟨[some (.ob n), some (.int b), some (.int (a % b)), y3, y4, y5], at_ ob n [L, .int pl, .int (a / b), .int (left / b)]⟩ := by
  simp only [ev_seq, ev_set, ev_put, ev_frz, ev_op, ev_b, ev_cons, ev_nil, ev_var, vr_0, vr_1, vr_some, ev_C, bind_ok, look_ob, at_get hn, lk_lst, look_int, ixD, at4_2, at4_3, Option.map_some, opt_some, toD_val, List.map_cons, List.map_nil, int_int, mod_int hb, fdiv_int ⟨hb, hb2⟩,
    List.set_cons_zero, List.set_cons_succ, go_nx, setO, ix4_2, ix4_3, at_set, put_some, ev_ret, ev_val]
theorem below_fill {ob : Obs} {n : Nat} (hn : n < ob.length) {b : Int} {L : D} {place a left m m' : Int} {A B : SM} (hl : left < b)
    (hA : A ⟨[some (.ob n), some (.int b), none, none, some L, some (.int place)], at_ ob n [L, .int place, .int a, .int left]⟩ = .ok .nx ⟨[some (.ob n), some (.int b), none, some (.int m), some L, some (.int place)], at_ ob n [L, .int place, .int a, .int left]⟩)
    (hB : B ⟨[some (.ob n), some (.int b), none, some (.int m), some L, some (.int place)], at_ ob n [L, .int place, .int a, .int left]⟩ = .ok .nx ⟨[some (.ob n), some (.int b), none, some (.int m'), some L, some (.int place)], at_ ob n [L, .int place, .int a, .int left]⟩) :
    (sIf (tB (rOp ltD (eFrz (rOp ixD (eVar 0) (eC (.int 3)))) (eVar 1))) (sSeq (sPar 4 5 (eFrz (rOp ixD (eVar 0) (eC (.int 0)))) (eFrz (rOp ixD (eVar 0) (eC (.int 1))))) <| sSeq A <| sSeq B <|
        sSeq (sPut (eVar 0) (eC (.int 1)) (eFrz (rOp addD (eVar 5) (eC (.int 1))))) <|
        sSeq (sPut (eVar 0) (eC (.int 2)) (eVar 3)) <| sPut (eVar 0) (eC (.int 3)) (eVar 3)) (sPass))
        ⟨[some (.ob n), some (.int b), none, none, none, none], at_ ob n [L, .int place, .int a, .int left]⟩ =
      .ok .nx ⟨[some (.ob n), some (.int b), none, some (.int m'), some L, some (.int place)], at_ ob n [L, .int (place + 1), .int m', .int m']⟩ := by
  have hlt : decide (left < b) = true := decide_eq_true hl
  simp only [ev_if, ev_tB, ev_op, ev_frz, ev_var, vr_0, vr_1, vr_some, bind_ok, ev_C, look_ob, at_get hn, lk_lst, look_int, ixD, at4_3, at4_0, at4_1, Option.map_some, opt_some, toD_val, lt_int, tbo_bl, hlt, if_true, ev_seq, ev_par, List.set_cons_succ, List.set_cons_zero, go_nx, hA, hB,
    ev_put, add_int, setO, ix4_1, ix4_2, ix4_3, at_set, put_some]
theorem below {ob : Obs} {n k : Nat} (hn : n < ob.length) {p : List D} (hp : Pot k p) (hk : k < 2 ^ 59) {b : Int} (hb : 0 < b) (hb2 : b ≤ 1606938044258990275541962092341162602522202993782792835301376) :
    ∃ r p', f__law_below [.ob n, .int b] (at_ ob n p) = .ok (.val (.int r)) (at_ ob n p') ∧ (0 ≤ r ∧ r < b) ∧ Pot (k + 1) p' := by
  obtain ⟨cells, place, a, left, rfl, hp1, hp2, hc⟩ := hp
  -- the refill
  have fill : ∃ pl a' left' y3 y4 y5, (0 ≤ pl ∧ pl ≤ (k : Int) + 1) ∧
      (sIf (tB (rOp ltD (eFrz (rOp ixD (eVar 0) (eC (.int 3)))) (eVar 1))) (sSeq (sPar 4 5 (eFrz (rOp ixD (eVar 0) (eC (.int 0)))) (eFrz (rOp ixD (eVar 0) (eC (.int 1))))) <|
        sSeq (sSet 3 (eFrz (rIf (tB (rOp neD (eVar 4) (eFrz (rLst (aNil))))) (rOp ixD (eVar 4) (eFrz (rOp modD (eVar 5) (eFrz (rB lenD (aCons (eVar 4) (aNil))))))) (rVal (eC (.int 0)))))) <|
        sSeq (sIf (tOr2 (tB (rOp geD (eVar 5) (eFrz (rB lenD (aCons (eVar 4) (aNil)))))) (tB (rOp ltD (eVar 3) (eFrz (rOp powD (eC (.int 10)) (eC (.int 16))))))) (sSet 3 (eFrz (rCall f__law_kneaded (aCons (eFrz (rOp modD (eFrz (rB intD (aCons (eVar 3) (aNil)))) (eC (.int 982451629)))) (aCons (eVar 5) (aNil)))))) (sPass)) <|
        sSeq (sPut (eVar 0) (eC (.int 1)) (eFrz (rOp addD (eVar 5) (eC (.int 1))))) <|
        sSeq (sPut (eVar 0) (eC (.int 2)) (eVar 3)) <| sPut (eVar 0) (eC (.int 3)) (eVar 3)) (sPass))
        ⟨[some (.ob n), some (.int b), none, none, none, none], at_ ob n [.lst (cells.map D.int), .int place, .int a, .int left]⟩ =
      .ok .nx ⟨[some (.ob n), some (.int b), none, y3, y4, y5], at_ ob n [.lst (cells.map D.int), .int pl, .int a', .int left']⟩ := by
    by_cases hl : left < b
    · -- the amount from the cells
      have amt : ∃ m, (sSet 3 (eFrz (rIf (tB (rOp neD (eVar 4) (eFrz (rLst (aNil))))) (rOp ixD (eVar 4) (eFrz (rOp modD (eVar 5) (eFrz (rB lenD (aCons (eVar 4) (aNil))))))) (rVal (eC (.int 0))))))
          ⟨[some (.ob n), some (.int b), none, none, some (.lst (cells.map D.int)), some (.int place)], at_ ob n [.lst (cells.map D.int), .int place, .int a, .int left]⟩ =
          .ok .nx ⟨[some (.ob n), some (.int b), none, some (.int m), some (.lst (cells.map D.int)), some (.int place)], at_ ob n [.lst (cells.map D.int), .int place, .int a, .int left]⟩ := by
        have heq : eqOk (.lst (cells.map D.int)) (.lst []) = true := by simp [eqOk, plains_ints]
        cases cells with
        | nil =>
          refine ⟨0, ?_⟩
          simp [ne_ok, eqOk, line_ok]
        | cons c cs =>
          have hb3 : (place % ((c :: cs).length : Int)).toNat < (c :: cs).length := by
            have h1 := Int.emod_nonneg place (b := ((c :: cs).length : Int)) (by simp only [List.length_cons]; omega)
            have h2 := Int.emod_lt_of_pos place (b := ((c :: cs).length : Int)) (by simp only [List.length_cons]; omega)
            omega
          have h1 : atI ((c :: cs).map D.int) (place % ((c :: cs).length : Int)) = some (.int (c :: cs)[(place % ((c :: cs).length : Int)).toNat]) :=
            atI_ok (Int.emod_nonneg _ (by simp only [List.length_cons]; omega)) (by rw [List.getElem?_map, List.getElem?_eq_getElem hb3]; rfl)
          refine ⟨(c :: cs)[(place % ((c :: cs).length : Int)).toNat], ?_⟩
          have hlen : lenD [.lst ((c :: cs).map D.int)] = some (.val (.int ((c :: cs).length : Int))) := by
            show some (Rv.val (.int (((c :: cs).map D.int).length : Int))) = _
            rw [List.length_map]
          have hlp : (0 : Int) < ((c :: cs).length : Int) := by simp only [List.length_cons]; omega
          have hne : neD (.lst ((c :: cs).map D.int)) (.lst []) = some (.val (.bl true)) := by rw [ne_ok heq]; simp
          generalize (c :: cs).map D.int = L at h1 hlen hne
          generalize (c :: cs)[(place % ((c :: cs).length : Int)).toNat] = mm at h1 ⊢
          generalize ((c :: cs).length : Int) = q at h1 hlen hlp
          simp only [ev_set, ev_frz, ev_rif, ev_tB, ev_op, ev_var, vr_0, vr_1, vr_some, bind_ok, ev_lst, ev_nil, List.length_nil, line_ok (show 0 ≤ 16777216 by omega), if_true, toD_fl, look_lst, hne, opt_some, tbo_bl, List.map_cons, ev_b, ev_cons, List.map_nil, hlen, toD_val, look_int, mod_int hlp, ixD, h1, Option.map_some, List.set_cons_succ, List.set_cons_zero]
      obtain ⟨m, amt⟩ := amt
      have hlen : lenD [.lst (cells.map D.int)] = some (.val (.int (cells.length : Int))) := by
        show some (Rv.val (.int ((cells.map D.int).length : Int))) = _
        rw [List.length_map]
      have p16 : powD (.int 10) (.int 16) = some (.val (.int 10000000000000000)) := by simp [powD]
      -- perhaps kneaded
      have kn : ∃ m', (sIf (tOr2 (tB (rOp geD (eVar 5) (eFrz (rB lenD (aCons (eVar 4) (aNil)))))) (tB (rOp ltD (eVar 3) (eFrz (rOp powD (eC (.int 10)) (eC (.int 16))))))) (sSet 3 (eFrz (rCall f__law_kneaded (aCons (eFrz (rOp modD (eFrz (rB intD (aCons (eVar 3) (aNil)))) (eC (.int 982451629)))) (aCons (eVar 5) (aNil)))))) (sPass))
          ⟨[some (.ob n), some (.int b), none, some (.int m), some (.lst (cells.map D.int)), some (.int place)], at_ ob n [.lst (cells.map D.int), .int place, .int a, .int left]⟩ =
          .ok .nx ⟨[some (.ob n), some (.int b), none, some (.int m'), some (.lst (cells.map D.int)), some (.int place)], at_ ob n [.lst (cells.map D.int), .int place, .int a, .int left]⟩ := by
        obtain ⟨v, hv⟩ := kneaded (at_ ob n [.lst (cells.map D.int), .int place, .int a, .int left]) (m % 982451629) place (by omega) (by omega) hp1 (by omega)
        by_cases h1 : (cells.length : Int) ≤ place
        · refine ⟨v, ?_⟩
          simp [tOr2, hlen, h1, hv]
        · by_cases h2 : m < 10000000000000000
          · refine ⟨v, ?_⟩
            simp [tOr2, hlen, h1, h2, hv, p16]
          · refine ⟨m, ?_⟩
            simp [tOr2, hlen, h1, h2, p16]
      obtain ⟨m', kn⟩ := kn
      refine ⟨place + 1, m', m', some (.int m'), some (.lst (cells.map D.int)), some (.int place), by omega, ?_⟩
      exact below_fill hn hl amt kn
    · refine ⟨place, a, left, none, none, none, by omega, ?_⟩
      have hlt : decide (left < b) = false := decide_eq_false hl
      simp only [ev_if, ev_tB, ev_op, ev_frz, ev_var, vr_0, vr_1, vr_some, bind_ok, ev_C, look_ob, at_get hn, lk_lst, look_int, ixD, at4_3, Option.map_some, opt_some, toD_val, lt_int, tbo_bl, hlt, Bool.false_eq_true, if_false, ev_pass]
  obtain ⟨pl, a', left', y3, y4, y5, hpl, hf⟩ := fill
  refine ⟨a' % b, [.lst (cells.map D.int), .int pl, .int (a' / b), .int (left' / b)], ?_, ⟨Int.emod_nonneg _ (by omega), Int.emod_lt_of_pos _ hb⟩, cells, pl, _, _, rfl, hpl.1, by push_cast; exact hpl.2, hc⟩
  unfold f__law_below evDef
  have he : e__law_below ⟨[.ob n, .int b].map some ++ List.replicate 4 none, at_ ob n [.lst (cells.map D.int), .int place, .int a, .int left]⟩ = .ok (.rt (.val (.int (a' % b)))) ⟨[some (.ob n), some (.int b), some (.int (a' % b)), y3, y4, y5], at_ ob n [.lst (cells.map D.int), .int pl, .int (a' / b), .int (left' / b)]⟩ := by
    unfold e__law_below
    rw [ev_seq]
    show Out.bind (sIf _ _ _ ⟨[some (.ob n), some (.int b), none, none, none, none], _⟩) _ = _
    rw [hf, bind_ok, go_nx]
    exact below_rest hn b hb hb2 _ _ _ _ _ _ _
  rw [he]
  simp [leave]
theorem pick_gen {ob : Obs} {n k : Nat} (hn : n < ob.length) {p : List D} (hp : Pot k p) (hk : k < 2 ^ 59) {items : List D} (h0 : items ≠ []) (hl : items.length < 2 ^ 60) {I : D} (h1 : ∀ ob, look ob I = I) (h2 : lenD [I] = some (.val (.int items.length))) (h3 : ∀ i, ixD I (.int i) = (atI items i).map .val) :
    ∃ x p', x ∈ items ∧ f__law_pick [.ob n, I] (at_ ob n p) = .ok (.val x) (at_ ob n p') ∧ Pot (k + 1) p' := by
  have hpos : 0 < items.length := List.length_pos_iff.mpr h0
  obtain ⟨r, p', e, ⟨hr1, hr2⟩, hp'⟩ := below (ob := ob) hn hp hk (b := (items.length : Int)) (by omega) (by omega)
  have hb : r.toNat < items.length := by omega
  refine ⟨items[r.toNat], p', List.getElem_mem hb, ?_, hp'⟩
  have hat : atI items r = some items[r.toNat] := atI_ok hr1 (List.getElem?_eq_getElem hb)
  unfold f__law_pick evDef e__law_pick
  simp only [List.map_cons, List.map_nil, List.replicate, List.append_nil, List.cons_append, List.nil_append, ev_ret, ev_op, ev_var, vr_1, vr_0, vr_some, bind_ok, ev_frz, ev_call, ev_cons, ev_b, ev_nil, h1, h2, opt_some, toD_val, e, fin_ok, look_int, h3, hat, Option.map_some]
  simp [leave]
theorem pick {ob : Obs} {n k : Nat} (hn : n < ob.length) {p : List D} (hp : Pot k p) (hk : k < 2 ^ 59) {items : List D} (h0 : items ≠ []) (hl : items.length < 2 ^ 60) :
    ∃ x p', x ∈ items ∧ f__law_pick [.ob n, .lst items] (at_ ob n p) = .ok (.val x) (at_ ob n p') ∧ Pot (k + 1) p' := pick_gen hn hp hk h0 hl (fun _ => rfl) rfl (fun _ => rfl)
theorem pickT {ob : Obs} {n k : Nat} (hn : n < ob.length) {p : List D} (hp : Pot k p) (hk : k < 2 ^ 59) {items : List D} (h0 : items ≠ []) (hl : items.length < 2 ^ 60) :
    ∃ x p', x ∈ items ∧ f__law_pick [.ob n, .tup items] (at_ ob n p) = .ok (.val x) (at_ ob n p') ∧ Pot (k + 1) p' := pick_gen hn hp hk h0 hl (fun _ => rfl) rfl (fun _ => rfl)
end Draw
end Cut
end
section
/-! CutRepr: how long a text repr makes. -/
namespace Cut
open PySem PySem.Spec PyProof.Rows L2

mutual
/-- numbers of at most 200 bits, signs below 16 ^ 8 -/
def D.wok : D → Bool
  | .int i => decide (i.natAbs < 2 ^ 200)
  | .str x => x.cps.toList.all fun c => decide (c < 4294967296)
  | .tup l => D.woks l
  | .lst l => D.woks l
  | .dct ks vs => D.woks ks && D.woks vs
  | .non => true | .bl _ => true | .scr _ => false | .set _ => false | .tbl _ _ => false | .ob _ => false
def D.woks : List D → Bool
  | [] => true
  | d :: l => d.wok && D.woks l
end
mutual
def D.wt : D → Nat
  | .int _ => 201
  | .str x => 10 * x.length + 2
  | .tup l => D.wts l + 4
  | .lst l => D.wts l + 4
  | .dct ks vs => D.wts ks + D.wts vs + 4
  | .non => 4 | .bl _ => 5 | .scr _ => 0 | .set _ => 0 | .tbl _ _ => 0 | .ob _ => 0
def D.wts : List D → Nat
  | [] => 0
  | d :: l => d.wt + 2 + D.wts l
end
theorem textFrom_le : ∀ (ts : List Str) (k : Nat) (acc : Str), (textFrom k acc ts).length ≤ acc.length + (ts.map fun t => t.length + 2).sum
  | [], k, acc => by show acc.length ≤ _; simp
  | t :: r, k, acc => by
    have h := textFrom_le r (k + 1) (acc ++ (if k > 0 then ", " else "" : String) ++ t)
    have e : (acc ++ (if k > 0 then ", " else "" : String) ++ t).length ≤ acc.length + 2 + t.length := by
      rw [strLen_append, strLen_append]
      have : (((if k > 0 then ", " else "" : String) : Str)).length ≤ 2 := by split <;> decide
      omega
    show (textFrom (k + 1) (acc ++ (if k > 0 then ", " else "" : String) ++ t) r).length ≤ _
    simp only [List.map_cons, List.sum_cons]
    omega
theorem piled_le : ∀ ts : List Str, piled ts ≤ (ts.map fun t => t.length + 2).sum
  | [] => by simp [piled]
  | t :: r => by
    have h := piled_le r
    simp only [piled, List.map_cons, List.sum_cons] at h ⊢
    omega
theorem kv_wt : ∀ ks vs : List PyData, PyData.showableAll ks = true → PyData.showableAll vs = true →
    ((PyData.shownKv (ks.zip vs)).map fun t => t.length + 2).sum ≤ ((PyData.shownAll ks).map fun t => t.length + 2).sum + ((PyData.shownAll vs).map fun t => t.length + 2).sum ∧ PyData.showableKv (ks.zip vs) = true
  | [], _, _, _ => by simp [PyData.shownKv, PyData.showableKv]
  | _ :: _, [], _, _ => by simp [PyData.shownKv, PyData.showableKv]
  | k :: ks, v :: vs, h1, h2 => by
    rw [PyData.showableAll, Bool.and_eq_true] at h1 h2
    obtain ⟨p, q⟩ := kv_wt ks vs h1.2 h2.2
    rw [List.zip_cons_cons, PyData.shownKv, PyData.showableKv, PyData.shownAll, PyData.shownAll, List.map_cons, List.map_cons, List.map_cons, List.sum_cons, List.sum_cons, List.sum_cons, strLen_append, strLen_append, h1.1, h2.1, q]
    have e1 : ((": " : Str)).length = 2 := by decide
    exact ⟨by omega, rfl⟩
mutual
theorem shown_wt : ∀ d : D, d.shp = true → d.wok = true → d.pd.shown.length ≤ d.wt ∧ d.pd.showable = true
  | .non, _, _ => by
    rw [D.pd, PyData.shown, PyData.showable, D.wt]
    exact ⟨by decide, rfl⟩
  | .bl b, _, _ => by
    rw [D.pd, PyData.shown, PyData.showable, D.wt]
    exact ⟨by cases b <;> decide, rfl⟩
  | .int i, _, h => by
    rw [D.wok] at h
    have h := of_decide_eq_true h
    have hl : i.natAbs.log2 < 200 := by
      by_cases h0 : i.natAbs = 0
      · rw [h0]; decide
      · exact (Nat.log2_lt h0).mpr h
    rw [D.pd, PyData.shown, PyData.showable, D.wt]
    refine ⟨?_, decide_eq_true (by omega)⟩
    have h2 := int_text_length_le (a := i) (k := 200) (by omega) hl
    rw [Str.ofString_eq_toList]
    show ((toString i).toList.map Char.toNat).toArray.size ≤ _
    rw [List.size_toArray, List.length_map, String.length_toList]
    omega
  | .str x, _, h => by
    rw [D.wok, List.all_eq_true] at h
    rw [D.pd, PyData.shown, PyData.showable, D.wt]
    exact ⟨StrLaws.reprText_len x fun c hc => by have := of_decide_eq_true (h c hc); omega, rfl⟩
  | .tup l, h1, h2 => by
    rw [D.shp] at h1
    rw [D.wok] at h2
    obtain ⟨p, q⟩ := showns_wt l h1 h2
    rw [D.pd, PyData.shown, PyData.showable, D.wt]
    refine ⟨?_, q⟩
    generalize PyData.shownAll (D.pds l) = ts at p
    have h3 := piled_le ts
    unfold tupleText
    rw [strLen_append, strLen_append]
    have e1 : (("(" : Str)).length = 1 := by decide
    have e2 : (((if ts.length == 1 then ",)" else ")" : String) : Str)).length ≤ 2 := by split <;> decide
    cases ts with
    | nil =>
      have e3 : (Str.join ", " []).length = 0 := by decide
      omega
    | cons t r =>
      have e3 := join_length_add (t :: r) (by simp)
      omega
  | .lst l, h1, h2 => by
    rw [D.shp] at h1
    rw [D.wok] at h2
    obtain ⟨p, q⟩ := showns_wt l h1 h2
    rw [D.pd, PyData.shown, PyData.showable, D.wt]
    refine ⟨?_, q⟩
    generalize PyData.shownAll (D.pds l) = ts at p
    unfold listText
    rw [strLen_append]
    have h3 := textFrom_le ts 0 "["
    have e1 : (("[" : Str)).length = 1 := by decide
    have e2 : (("]" : Str)).length = 1 := by decide
    omega
  | .scr _, h, _ => by rw [D.shp] at h; cases h
  | .dct ks vs, h1, h2 => by
    rw [D.shp, Bool.and_eq_true] at h1
    rw [D.wok, Bool.and_eq_true] at h2
    obtain ⟨p1, q1⟩ := showns_wt ks h1.1 h2.1
    obtain ⟨p2, q2⟩ := showns_wt vs h1.2 h2.2
    obtain ⟨p, q⟩ := kv_wt (D.pds ks) (D.pds vs) q1 q2
    rw [D.pd, PyData.shown, PyData.showable, D.wt]
    refine ⟨?_, q⟩
    generalize PyData.shownKv ((D.pds ks).zip (D.pds vs)) = ts at p
    have h3 := piled_le ts
    unfold dictText
    rw [strLen_append, strLen_append]
    have e1 : (("{" : Str)).length = 1 := by decide
    have e2 : (("}" : Str)).length = 1 := by decide
    cases ts with
    | nil =>
      have e3 : (Str.join ", " []).length = 0 := by decide
      omega
    | cons t r =>
      have e3 := join_length_add (t :: r) (by simp)
      omega
  | .set _, h, _ => by rw [D.shp] at h; cases h
  | .tbl _ _, h, _ => by rw [D.shp] at h; cases h
  | .ob _, h, _ => by rw [D.shp] at h; cases h
theorem showns_wt : ∀ l : List D, D.shps l = true → D.woks l = true → ((PyData.shownAll (D.pds l)).map fun t => t.length + 2).sum ≤ D.wts l ∧ PyData.showableAll (D.pds l) = true
  | [], _, _ => by simp [D.pds, PyData.shownAll, PyData.showableAll, D.wts]
  | d :: l, h1, h2 => by
    rw [D.shps, Bool.and_eq_true] at h1
    rw [D.woks, Bool.and_eq_true] at h2
    obtain ⟨p1, q1⟩ := shown_wt d h1.1 h2.1
    obtain ⟨p2, q2⟩ := showns_wt l h1.2 h2.2
    rw [D.pds, PyData.shownAll, PyData.showableAll, D.wts, List.map_cons, List.sum_cons, q1, q2]
    exact ⟨by omega, rfl⟩
end
theorem repr_okS {d : D} (h1 : d.shp = true) (h2 : d.wok = true) (h3 : d.depth ≤ 60) (h4 : d.wt ≤ 16777216) : reprD [d] = some (.val (.str d.pd.shown)) := by
  obtain ⟨p, q⟩ := shown_wt d h1 h2
  have hs := sizeLine_eq
  have h5 : lenOk d.pd.shown.length = true := decide_eq_true (by omega)
  show (if (d.shp && d.pd.showable && decide (d.depth ≤ 60) && lenOk d.pd.shown.length) = true then some (Rv.val (.str d.pd.shown)) else none) = _
  rw [h1, q, decide_eq_true h3, h5]
  rfl
theorem repr_ok {d : D} (h1 : d.plain = true) (h2 : d.wok = true) (h3 : d.depth ≤ 60) (h4 : d.wt ≤ 16777216) : reprD [d] = some (.val (.str d.pd.shown)) := repr_okS (D.shp_of d h1) h2 h3 h4
section
variable {i : Int} {x : Str} {l : List D} {d : D} {b : Bool}
theorem wok_int (h : -1606938044258990275541962092341162602522202993782792835301375 ≤ i ∧ i ≤ 1606938044258990275541962092341162602522202993782792835301375) : (D.int i).wok = true := by
  rw [D.wok]
  refine decide_eq_true ?_
  have e : (2 : Nat) ^ 200 = 1606938044258990275541962092341162602522202993782792835301376 := by decide +kernel
  omega
@[simp] theorem wok_non : D.non.wok = true := by simp [D.wok]
@[simp] theorem wok_bl : (D.bl b).wok = true := by simp [D.wok]
@[simp] theorem wok_tup : (D.tup l).wok = D.woks l := by simp [D.wok]
@[simp] theorem wok_lst : (D.lst l).wok = D.woks l := by simp [D.wok]
@[simp] theorem depth_dct {ks vs : List D} : (D.dct ks vs).depth = max (D.depths ks) (D.depths vs) + 1 := by simp [D.depth]
@[simp] theorem wok_dct {ks vs : List D} : (D.dct ks vs).wok = (D.woks ks && D.woks vs) := by simp [D.wok]
@[simp] theorem wt_dct {ks vs : List D} : (D.dct ks vs).wt = D.wts ks + D.wts vs + 4 := by simp [D.wt]
@[simp] theorem shp_int : (D.int i).shp = true := by simp [D.shp]
@[simp] theorem shp_str : (D.str x).shp = true := by simp [D.shp]
@[simp] theorem shp_bl : (D.bl b).shp = true := by simp [D.shp]
@[simp] theorem shp_non : D.non.shp = true := by simp [D.shp]
@[simp] theorem shp_tup : (D.tup l).shp = D.shps l := by simp [D.shp]
@[simp] theorem shp_lst : (D.lst l).shp = D.shps l := by simp [D.shp]
@[simp] theorem shp_dct {ks vs : List D} : (D.dct ks vs).shp = (D.shps ks && D.shps vs) := by simp [D.shp]
@[simp] theorem shps_nil : D.shps [] = true := by simp [D.shps]
@[simp] theorem shps_cons : D.shps (d :: l) = (d.shp && D.shps l) := by simp [D.shps]
@[simp] theorem woks_nil : D.woks [] = true := by simp [D.woks]
@[simp] theorem woks_cons : D.woks (d :: l) = (d.wok && D.woks l) := by simp [D.woks]
@[simp] theorem wt_int : (D.int i).wt = 201 := by simp [D.wt]
@[simp] theorem wt_str : (D.str x).wt = 10 * x.length + 2 := by simp [D.wt]
@[simp] theorem wt_non : D.non.wt = 4 := by simp [D.wt]
@[simp] theorem wt_bl : (D.bl b).wt = 5 := by simp [D.wt]
@[simp] theorem wt_tup : (D.tup l).wt = D.wts l + 4 := by simp [D.wt]
@[simp] theorem wt_lst : (D.lst l).wt = D.wts l + 4 := by simp [D.wt]
@[simp] theorem wts_nil : D.wts [] = 0 := by simp [D.wts]
@[simp] theorem wts_cons : D.wts (d :: l) = d.wt + 2 + D.wts l := by simp [D.wts]
end
end Cut
end
section
/-! CutSet: sorted(set(a list of ints)). -/
namespace Cut
open PySem PySem.Spec PyProof.Rows L2

/-! ### ascending, each once -/
def insU (i : Int) : List Int → List Int
  | [] => [i]
  | j :: l => if i < j then i :: j :: l else if i = j then j :: l else j :: insU i l
def sortU : List Int → List Int
  | [] => []
  | i :: l => insU i (sortU l)
theorem insU_mem (i k : Int) : ∀ l : List Int, k ∈ insU i l ↔ k = i ∨ k ∈ l
  | [] => by simp [insU]
  | j :: l => by
    have ih := insU_mem i k l
    unfold insU
    split
    · simp
    · split
      · rename_i h; subst h; simp
      · simp only [List.mem_cons, ih]
        constructor
        · rintro (h | h | h)
          · exact .inr (.inl h)
          · exact .inl h
          · exact .inr (.inr h)
        · rintro (h | h | h)
          · exact .inr (.inl h)
          · exact .inl h
          · exact .inr (.inr h)
theorem sortU_mem (k : Int) : ∀ l : List Int, k ∈ sortU l ↔ k ∈ l
  | [] => by simp [sortU]
  | i :: l => by rw [sortU, insU_mem, sortU_mem k l, List.mem_cons]
theorem insU_asc (i : Int) : ∀ l : List Int, l.Pairwise (· < ·) → (insU i l).Pairwise (· < ·)
  | [], _ => by simp [insU]
  | j :: l, h => by
    obtain ⟨h1, h2⟩ := List.pairwise_cons.mp h
    unfold insU
    split
    · rename_i hij
      refine List.pairwise_cons.mpr ⟨fun y hy => ?_, h⟩
      rcases List.mem_cons.mp hy with rfl | hy
      · exact hij
      · exact Int.lt_trans hij (h1 y hy)
    · split
      · exact h
      · rename_i h3 h4
        refine List.pairwise_cons.mpr ⟨fun y hy => ?_, insU_asc i l h2⟩
        rcases (insU_mem i y l).mp hy with rfl | hy
        · omega
        · exact h1 y hy
theorem sortU_asc : ∀ l : List Int, (sortU l).Pairwise (· < ·)
  | [] => by simp [sortU]
  | i :: l => insU_asc i _ (sortU_asc l)
theorem asc_unique : ∀ l m : List Int, l.Pairwise (· < ·) → m.Pairwise (· < ·) → (∀ k, k ∈ l ↔ k ∈ m) → l = m
  | [], [], _, _, _ => rfl
  | [], y :: m, _, _, h => by have := (h y).mpr List.mem_cons_self; cases this
  | x :: l, [], _, _, h => by have := (h x).mp List.mem_cons_self; cases this
  | x :: l, y :: m, h1, h2, h => by
    obtain ⟨a1, a2⟩ := List.pairwise_cons.mp h1
    obtain ⟨b1, b2⟩ := List.pairwise_cons.mp h2
    have hxy : x = y := by
      rcases List.mem_cons.mp ((h x).mp List.mem_cons_self) with e | e
      · exact e
      · rcases List.mem_cons.mp ((h y).mpr List.mem_cons_self) with e2 | e2
        · exact e2.symm
        · have := b1 x e; have := a1 y e2; omega
    subst hxy
    rw [asc_unique l m a2 b2 fun k => ?_]
    constructor
    · intro hk
      rcases List.mem_cons.mp ((h k).mp (List.mem_cons_of_mem _ hk)) with e | e
      · have := a1 k hk; omega
      · exact e
    · intro hk
      rcases List.mem_cons.mp ((h k).mpr (List.mem_cons_of_mem _ hk)) with e | e
      · have := b1 k hk; omega
      · exact e
theorem insU_len (i : Int) : ∀ l : List Int, (insU i l).length ≤ l.length + 1
  | [] => by simp [insU]
  | j :: l => by
    have := insU_len i l
    unfold insU
    split
    · simp
    · split
      · simp
      · simp; omega
theorem sortU_len : ∀ l : List Int, (sortU l).length ≤ l.length
  | [] => by simp [sortU]
  | i :: l => by
    have h1 := insU_len i (sortU l)
    have h2 := sortU_len l
    rw [sortU, List.length_cons]; omega

/-! ### set(list) -/
section
variable {P : Program} {w : World} {A : Around} {E : Value → Shared → Prop} {z : Shared}
abbrev newSet (w : World) : Obj := { cls := .type "set", dict := none, data := .set #[] 0 (.fresh 0 0 (!w.params.followText "set-order")) }
theorem set_of_list {b : Addr} {its : Array Value} (ns : List Int) {Q : Value → Shared → Prop} (hh : A.handled = none) (hl : z.heap.IsList b its) (hit : IntsAre its.toList ns) (hb : ns.length + 1 < scanBound)
    (h : ∀ (g : Heap) (tk c : Nat), SetR w g z.heap.objs.size (fun j => decide (j ∈ ns)) c → c ≤ ns.length → (∀ b o, z.heap.get? b = some o → g.get? b = some o) → Q (.ref z.heap.objs.size) { z with heap := g, toks := tk }) :
    wpAny (model P w) A (call (.type "set") [.ref b]) Q E z := by
  have size : its.size = ns.length := by have q := IntsAre.length hit; rw [Array.length_toList] at q; exact q
  obtain ⟨c, tl, hmro⟩ := F.called_set.mro
  have made := F.called_set.made; have sub := F.called_set.sub; have notType := F.called_set.notType; have can := F.called_set.canCreate
  have tcall := F.typeCall_set_1 (.ref b)
  refine wpAny_call (codeAny_of_tree ?_)
  show wpAny _ _ (callAny (.type "set") _) _ _ _
  refine wpAny_pure ⟨Code.quiet_builtin _ (by decide +kernel), codeAny_builtin F.entry_type_call ?_⟩
  rw [Around.under_plain (weight_type_call_type "set" [.ref b] []) rfl]
  repeat (any_goals (first | assumption | wp_step))
  refine codeAny_mono (code_set_led1 (.ref b) (E := E) (Q₁ := fun u z1 => u = .ref z.heap.objs.size ∧ z1 = { z with heap := z.heap.push (newSet w) }) ⟨rfl, rfl⟩) fun r z1 hr => ?_
  cases r with
  | error e => exact hr
  | ok fl =>
    cases fl with
    | ret u =>
      obtain ⟨rfl, rfl⟩ := hr
      have at0 : (z.heap.push (newSet w)).get? z.heap.objs.size = some (newSet w) := Heap.get?_push_size _ rfl
      have ty : Shared.TypeIs { z with heap := z.heap.push (newSet w) } (.ref z.heap.objs.size) "set" := ⟨_, at0, rfl⟩
      have look := F.called_set.init.lookup; have bind := F.called_set.init.bind (.ref z.heap.objs.size)
      repeat (any_goals (first | assumption | wp_step))
      refine codeAny_mono (codeAny_call_builtin (R := wants (fun r z2 => r = .none ∧ ∃ g tk c, z2 = { z with heap := g, toks := tk } ∧ SetR w g z.heap.objs.size (fun j => decide (j ∈ ns)) c ∧ c ≤ ns.length ∧ (∀ b o, z.heap.get? b = some o → g.get? b = some o)) E)
        F.called_set.init.plain F.entry_set_init (check_set_init_1 ty ?_)) fun r2 z2 hr2 => ?_
      · obtain ⟨⟨lc, ld, ldt, ls⟩, lo, lcl, ln, ldd⟩ := hl
        simp only at lcl ldd; subst lcl; subst ldd
        have lo2 : (z.heap.push (newSet w)).get? b = some { cls := .type "list", dict := ld, data := .seq its ln, slots := ls } := Heap.get?_push_of_some _ lo
        have l1 : (z.heap.push (newSet w)).IsList b its := ⟨_, lo2, rfl, ln, rfl⟩
        have no1 := F.sub_list_set; have no2 := F.sub_list_frozenset; have no3 : (Value.type "list" == Value.type "dict") = false := by decide
        unfold Builtin.«set.__init__» noKeywords Builtin.Frozenset.updateFrom
        generalize hPI : pyIter = PI
        wp_walk
        subst hPI
        refine wpAny_pyIter_list l1 (wpAny_bind (wpAny_runValue ?_))
        have blt : b < z.heap.objs.size := Heap.lt_size lo
        have hh3 : A.in1.in1.in1.handled = none := by simp [hh]
        have offI : b ≠ (z.heap.push (newSet w)).objs.size := by rw [Heap.size_push]; exact Nat.ne_of_lt (Nat.lt_succ_of_lt blt)
        have offS : z.heap.objs.size ∉ [(z.heap.push (newSet w)).objs.size, b] := by
          rw [Heap.size_push]
          simp only [List.mem_cons, List.not_mem_nil, or_false, not_or]
          exact ⟨Nat.ne_of_lt (Nat.lt_succ_self _), Nat.ne_of_gt blt⟩
        have vals : ∀ (i : Nat) (v : Value), its[i]? = some v → ∃ k t, ns[i]? = some k ∧ v = .int k t := fun i v hv => by
          have hi : i < ns.length := by rw [← size]; exact (Array.getElem?_eq_some_iff.mp hv).1
          obtain ⟨t, e⟩ := IntsAre.int_at hit i v (by rw [Array.getElem?_toList]; exact hv)
          exact ⟨ns[i], t, List.getElem?_eq_getElem hi, by rw [e, List.getD_eq_getElem?_getD, List.getElem?_eq_getElem hi]; rfl⟩
        refine set_update_ints ((Walks.list hh3 _ b offI its).toS) z.heap.objs.size offS ns size hb vals (its.size - 0) 0 _ (by omega) (Nat.zero_le _) ⟨⟨_, Heap.get?_push_size _ rfl, rfl, rfl⟩, (l1.push _)⟩ ?first ?last
        case first => exact ⟨0, Nat.le_refl 0, setR_new_at (Heap.get?_push_of_some _ at0)⟩
        case last =>
          rintro ⟨g, gs, dr, tk, o5⟩ c5 hm hc5 hS5
          obtain rfl : gs = z.gens := hm.gens
          obtain rfl : dr = z.drawn := hm.drawn
          obtain rfl : o5 = z.os := hm.os
          show wpAny _ _ _ _ _ _
          refine wpAny_pure ?_
          show wpAny _ _ (ret Value.none) _ _ _
          refine wpAny_pure ⟨rfl, g, tk, c5, rfl, hS5, by rw [← size]; exact hc5, fun b2 o2 e2 => ?_⟩
          have lt2 : b2 < z.heap.objs.size := Heap.lt_size e2
          refine hm.heap b2 o2 ?_ (Heap.get?_push_of_some _ (Heap.get?_push_of_some _ e2))
          rw [Heap.size_push]
          simp only [List.mem_cons, List.not_mem_nil, or_false, not_or]
          exact ⟨Nat.ne_of_lt lt2, Nat.ne_of_lt (Nat.lt_succ_of_lt lt2)⟩
      · cases r2 with
        | error e => exact hr2
        | ok fl2 =>
          cases fl2 with
          | ret r =>
            obtain ⟨rfl, g, tk, c5, rfl, k1, k2, k3⟩ := hr2
            repeat (any_goals (first | assumption | wp_step))
            exact h _ _ _ k1 k2 k3
          | _ => exact hr2.elim
    | _ => exact hr.elim
end
end Cut
end
section
/-! CutSet2: sorted(set(..)), set(..), {.. for ..} of ints; a store of a comprehension of two clauses. -/
namespace Cut
open PySem PySem.Spec PyProof.Rows L2

/-! ### numbers of members -/
theorem sortU_nodup (l : List Int) : (sortU l).Nodup := (sortU_asc l).imp fun h => Int.ne_of_lt h
theorem nodup_len {l m : List Int} (h1 : l.Nodup) (h2 : m.Nodup) (h : ∀ k, k ∈ l ↔ k ∈ m) : l.length = m.length := ((List.perm_ext_iff_of_nodup h1 h2).mpr h).length_eq
theorem sortU_snoc (l : List Int) (c : Int) : (sortU (l ++ [c])).length = if decide (c ∈ l) = true then (sortU l).length else (sortU l).length + 1 := by
  by_cases h : c ∈ l
  · rw [if_pos (by simpa using h)]
    refine nodup_len (sortU_nodup _) (sortU_nodup _) fun k => ?_
    rw [sortU_mem, sortU_mem, List.mem_append, List.mem_singleton]
    constructor
    · rintro (h1 | rfl)
      · exact h1
      · exact h
    · exact .inl
  · rw [if_neg (by simpa using h)]
    have : ((c :: sortU l).length) = (sortU l).length + 1 := rfl
    rw [← this]
    refine nodup_len (sortU_nodup _) (List.nodup_cons.mpr ⟨fun z => h ((sortU_mem _ _).mp z), sortU_nodup _⟩) fun k => ?_
    rw [sortU_mem, List.mem_append, List.mem_singleton, List.mem_cons, sortU_mem]
    constructor
    · rintro (h | h)
      · exact .inr h
      · exact .inl h
    · rintro (h | h)
      · exact .inr h
      · exact .inl h
section
variable {w : World} {h : Heap} {a : Addr} {S : Int → Bool} {n : Nat}
theorem setR_len (R : SetR w h a S n) : SetLen h a n := by
  obtain ⟨o, es, ep, t, ho, hex, hd, g, nd, hm, hb, hf, hn, hr, hl⟩ := R
  refine ⟨o, es, ep, t, ho, hex, hd, hf, ?_, hn⟩
  have : es.size < scanBound := hb
  unfold scanBound at this
  omega
theorem setR_count {ns : List Int} {c : Nat} (R : SetR w h a (fun j => decide (j ∈ ns)) c) : c = (sortU ns).length := by
  obtain ⟨o, es, ep, t, ho, hex, hd, g, nd, hm, hb, hf, hn, hr, hl⟩ := R
  have e : (es.toList.map keyOf).length = (sortU ns).length := nodup_len nd (sortU_nodup _) fun k => by rw [sortU_mem, ← hm k, decide_eq_true_iff]
  rw [← e, List.length_map, Array.length_toList, hn]
end

/-! ### sorted(set(e)) -/
def tSortSet (K : PySem.W.Frag) (ta : TE) : TE := fun σ H Q => ta σ H fun x H1 => ∃ (l : Addr) (ns : List Int), x = .ref l ∧ H1 l = some (.lst (ns.map V.int)) ∧ ns.length < 64 ∧ ∀ p, H1 p = none → Q (.ref p) (upd H1 p (.lst ((sortU ns).map V.int)))
section
variable {X : Cx}
theorem pe_sortSet {a : Expr} {ta : TE} {p p2 q pos : Pos} (hc : X.calm = true) (hg : Gl X "sorted") (hm : X.mg "sorted" = none) (hg2 : Gl X "set") (hm2 : X.mg "set" = none) (ha : PE X a ta)
    (na : starEach [a] X.env = (false, eval a X.env) :: starEach [] X.env) : PE X (.Call (.Name "sorted" p) [.Call (.Name "set" p2) [a] [] q] [] pos) (tSortSet X.K ta) := by
  refine ⟨fun pins s σ H Q I h => ?_⟩
  refine Call_ (ld_blt I hg hm boot_sorted ?_)
  refine PyProof.Rows.callWith_builtin1 (PyProof.Rows.args_cons ?_ rfl) rfl rfl
  refine Call_ (ld_blt I hg2 hm2 boot_set ?_)
  refine PyProof.Rows.callWith_type1 (PyProof.Rows.args_cons (thn (ha.run pins s σ H _ I h) fun v s1 ⟨x, H1, I1, r1, q1⟩ => PyProof.Rows.args_nil ?_) na) na rfl
  obtain ⟨l, ns, rfl, hq, h64, q1⟩ := q1
  cases r1
  obtain ⟨its, r, pl, hz⟩ := I1.list (.inl (.inl hq))
  refine set_of_list ns (I1.ok.hd hc) pl.isList (by simpa using ints_of_vals r) (by unfold scanBound; omega) fun g tk c R hcl kk => ?_
  have I2 : Inv X pins σ H1 { s1 with heap := g, toks := tk } := I1.kept kk
  have e1 := setR_count R
  refine PyProof.Rows.args_nil ?_
  have R : SetR X.w ({ s1 with heap := g, toks := tk } : Shared).heap s1.heap.objs.size (fun j => decide (j ∈ ns)) c := R
  generalize ({ s1 with heap := g, toks := tk } : Shared) = s2 at I2 R ⊢
  refine sorted_set R (I2.ok.hd hc) (by omega) fun s' p' out c' ms k g' o hp hg hi hs hm hl => ?_
  have em : ms = sortU ns := asc_unique _ _ hs (sortU_asc _) fun k => by rw [hm k, sortU_mem, decide_eq_true_iff]
  subst em
  have hlen : ((sortU ns).map V.int).length ≤ sizeLine := by rw [List.length_map, hl, sizeLine_eq]; omega
  have hn : H1 p' = none := I2.hok.fresh hp
  have J : Inv X pins σ (upd H1 p' (.lst ((sortU ns).map V.int))) { s2 with heap := s'.heap, gens := s'.gens, drawn := s'.drawn, toks := s'.toks } :=
    I2.call (ch := []) (Un.laid k hp hn) (I2.hok.laid k hp ⟨hlen, out.toList, c', vals_of_ints hi, hg⟩) (by rw [g']; exact I2.bare) (fun _ z => nomatch z)
  have e : s' = { s2 with heap := s'.heap, gens := s'.gens, drawn := s'.drawn, toks := s'.toks } := by
    cases s'
    cases s2
    cases o
    rfl
  rw [e]
  exact ⟨.ref p', _, J, rfl, q1 p' hn⟩
/-- set(e) -/
def tSetOf (w : World) (ta : TE) : TE := fun σ H Q => ta σ H fun x H1 => ∃ (l : Addr) (ns : List Int), x = .ref l ∧ H1 l = some (.lst (ns.map V.int)) ∧ ns.length + 1 < scanBound ∧ ∀ p, H1 p = none → Q (.ref p) (upd H1 p (SetO w p (fun j => decide (j ∈ ns)) (sortU ns).length))
theorem pe_setOf {a : Expr} {ta : TE} {p2 q : Pos} (hc : X.calm = true) (hg2 : Gl X "set") (hm2 : X.mg "set" = none) (ha : PE X a ta)
    (na : starEach [a] X.env = (false, eval a X.env) :: starEach [] X.env) : PE X (.Call (.Name "set" p2) [a] [] q) (tSetOf X.w ta) := by
  refine ⟨fun pins s σ H Q I h => ?_⟩
  refine Call_ (ld_blt I hg2 hm2 boot_set ?_)
  refine PyProof.Rows.callWith_type1 (PyProof.Rows.args_cons (thn (ha.run pins s σ H _ I h) fun v s1 ⟨x, H1, I1, r1, q1⟩ => PyProof.Rows.args_nil ?_) na) na rfl
  obtain ⟨l, ns, rfl, hq, h64, q1⟩ := q1
  cases r1
  obtain ⟨its, r, pl, hz⟩ := I1.list (.inl (.inl hq))
  refine set_of_list ns (I1.ok.hd hc) pl.isList (by simpa using ints_of_vals r) h64 fun g tk c R hcl kk => ?_
  have e1 := setR_count R
  subst e1
  exact ⟨.ref _, _, I1.laid (t' := tk) kk (Nat.le_refl _) (setO_new R), rfl, q1 _ (I1.hok.fresh (Nat.le_refl _))⟩

/-! ### {elt for target in iter if ..} of ints -/
theorem addI_ok {pins : List (Addr × Obj)} {σ : L2.St} {H : Hp} {s : Shared} {E : Value → Shared → Prop} {D : Addr} {S : Int → Bool} {n : Nat} {k : Int} {tk : Tok} {Q : Value → Shared → Prop} (I : Inv X pins σ H s) (hD : H D = some (SetO X.w D S n)) (room : n + 1 < scanBound)
    (h : ∀ s', Inv X pins σ (upd H D (SetO X.w D (fun j => S j || decide (j = k)) (if S k = true then n else n + 1))) s' → Q .none s') : wpAny (model X.prog X.w) X.A (call (.builtin "set.add") [.ref D, .int k tk]) Q E s := by
  have R := setO_get I hD
  refine setR_add R room fun h' sb new => ?_
  have he : ∃ u, h'.get? D = some u := by
    have ⟨o, _, _, _, ho, _⟩ := new
    exact ⟨o, ho⟩
  exact h _ (I.write (e := D) (t' := s.toks + 1) (by rw [hD]; trivial) (.inl rfl) (fun b u hb hu => (sb.2 b hb).trans hu) he (setO_new new))
/-- what the comprehension asks: D the new set -/
def tSci (w : World) (wi : TI) (g : TG) (tt : TT) (te : TE) (vs : List Nat) : TE := fun σ H Q => wi σ H fun J H1 => ∀ D, H1 D = none → ∃ W : Nat → Nat → Hp → Prop, (∃ m, W 0 m (upd H1 D (SetO w D (fun _ => false) 0))) ∧ ∀ i m H, W i m H →
  (J.stop i H ∧ Q (.ref D) H) ∨ (J.go i H ∧ ∃ Nx : Hp → Prop, (∀ H', Nx H' → ∃ m', m' < m ∧ W (i + 1) m' H') ∧ ∀ x H', J.yld i H x H' → g x (wipe σ vs) H' fun σ2 H2 => wipe σ2 vs = wipe σ vs ∧ tt σ2 H2 fun b H3 =>
    if b = true then te σ2 H3 fun y H4 => ∃ (c : Int) (S : Int → Bool) (n : Nat), y = .int c ∧ H4 D = some (SetO w D S n) ∧ n + 1 < scanBound ∧ Nx (upd H4 D (SetO w D (fun j => S j || decide (j = c)) (if S c = true then n else n + 1))) else Nx H3)
theorem sci_core {pins : List (Addr × Obj)} {s : Shared} {σ : L2.St} {H : Hp} {Q : VK} {elt tg iter : Expr} {ifs : List Expr} {scope : Scope} {own : List (PySem.Str × Nat)} {pos pos' : Pos} {wi : TI} {g : TG} {tt : TT} {te : TE} {use : Option (Value → Sem Unit)} {Qf : Value → Shared → Prop}
    (hc : X.calm = true) (hN : X.N.Nodup) (I : Inv X pins σ H s) (hi : PI X tg iter wi) (ok : BlkOk X.N X.env.scope scope own)
    (hg : ∀ (s : Shared) (H : Hp) (C : Addr) (cl : List (PySem.Str × Addr)) (fp : List Addr), PG (X.blk s H scope (compEnvC scope cl C X.env) fp) tg g) (ht : ∀ (s : Shared) (H : Hp) (C : Addr) (cl : List (PySem.Str × Addr)) (fp : List Addr), PTs (X.blk s H scope (compEnvC scope cl C X.env) fp) ifs tt)
    (he : ∀ (s : Shared) (H : Hp) (C : Addr) (cl : List (PySem.Str × Addr)) (fp : List Addr), PE (X.blk s H scope (compEnvC scope cl C X.env) fp) elt te) (hs : ∀ x, foldedSetIterable iter X.env x = pure x)
    (h : tSci X.w wi g tt te (own.map (·.2)) σ H Q)
    (hRR : ∀ D C s' m H', Inv X pins σ H' s' → Q (.ref D) H' → s'.heap.Ns C m → FpOk X pins H' C → compPost (model X.prog X.w) X.A X.xe use Qf (.ref D) C (.ok .next) s') :
    wpAny (model X.prog X.w) X.A (comprehension (.SetComp elt [⟨tg, iter, ifs, 0⟩] scope pos) scope X.env pos' (PySem.newSet (.type "set")) false (eval iter X.env) use) Qf X.xe s := by
  have hfree : ∀ y ∈ scope.names, y.2 = .free → ∃ c, X.env.cells.lookup y.1 = some c := fun y hy e => by
    rcases ok.free y hy e with k | k
    · exact I.ok.has _ (.inl k)
    · exact I.ok.has _ (.inr k)
  refine wpAny_comprehension_free (use := use) rfl hs (closure_ok hfree) ok.kind (fun y hy e => by rw [ok.uniq y hy, e])
    (thn (hi.run pins s σ H _ I h) fun xv s1 hx => thn hx fun itv s2 h2 => ?_)
  obtain ⟨it, fp, tn, J, H2, e, I2, T, st2, f2, q⟩ := h2
  subst e
  refine PpSet.newSet_ok (newEnv_comp ?_)
  generalize hD : s2.heap.objs.size = D
  have hDn : H2 D = none := I2.hok.fresh (Nat.le_of_eq hD)
  obtain ⟨W, ⟨m0, w0⟩, turn⟩ := q D hDn
  generalize hs3 : ({ s2 with heap := s2.heap.push (Cut.newSet X.w) } : Shared) = s3
  generalize hHz : upd H2 D (SetO X.w D (fun _ => false) 0) = Hz at w0 turn
  have I3 : Inv X pins σ Hz s3 := by
    rw [← hs3, ← hHz, ← hD]
    exact I2.laid (t' := s2.toks) (fun b o e => Heap.get?_push_of_some _ e) (Nat.le_refl _) (setO_new (setR_fresh X.w))
  have h3 : s3.heap = s2.heap.push (Cut.newSet X.w) := by rw [← hs3]
  have small : ∀ b ∈ fp, b < s2.heap.objs.size := fun b hb => (T.obj _ _ st2 b hb).elim fun _ z => Heap.lt_size z.1
  have f3 : ∀ b ∈ fp, FpOk X pins Hz b ∧ b < s3.heap.objs.size := fun b hb => by
    have lt := small b hb
    have hz : Hz b = none := by rw [← hHz, upd_ne (Nat.ne_of_lt (hD ▸ lt))]; exact (f2 b hb).1
    exact ⟨⟨hz, (f2 b hb).2⟩, by rw [h3, Heap.size_push]; exact Nat.lt_succ_of_lt lt⟩
  have st3 : tn 0 s3.heap := T.keep _ _ _ st2 fun b _ o e => by rw [h3]; exact Heap.get?_push_of_some _ e
  have I4 := block_start I3 ok hN f3
  show codeAny _ _ (.compStart (.SetComp elt [⟨tg, iter, ifs, 0⟩] scope pos) 0 (.ref it) (.ref D) (compEnvC scope (cellsFrom (s3.heap.objs.size + 1) scope.names (cloFrom X.env.cells scope.names [])) s3.heap.objs.size X.env)) (compPost (model X.prog X.w) X.A X.xe use Qf (.ref D) s3.heap.objs.size) { s3 with heap := pushCells (s3.heap.push { cls := .type "dict", data := .dict #[] }) scope.names }
  generalize hcl : cellsFrom (s3.heap.objs.size + 1) scope.names (cloFrom X.env.cells scope.names []) = cl at I4 ⊢
  have pg := hg s3 Hz s3.heap.objs.size cl fp
  have pt := ht s3 Hz s3.heap.objs.size cl fp
  have pe := he s3 Hz s3.heap.objs.size cl fp
  generalize hce : compEnvC scope cl s3.heap.objs.size X.env = ce at I4 pg pt pe ⊢
  have cL : ce.locals = s3.heap.objs.size := by subst hce; rfl
  generalize hs4 : ({ s3 with heap := pushCells (s3.heap.push { cls := .type "dict", data := .dict #[] }) scope.names } : Shared) = s4 at I4 ⊢
  have st4 : tn 0 s4.heap := T.keep _ _ _ st3 fun b _ o e => by rw [← hs4]; exact pushCells_keeps _ _ _ _ (Heap.get?_push_of_some _ e)
  have nfp : ∀ b ∈ fp, Hz b = none := fun b hb => (f3 b hb).1.1
  have stat : ∀ {σ' : L2.St} {H' : Hp} {s' : Shared}, Inv (X.blk s3 Hz scope ce fp) [] σ' H' s' → (∀ b ∈ fp, H' b = none) → ∀ b ∈ fp, FpOk (X.blk s3 Hz scope ce fp) [] H' b := fun {σ' H' s'} I' hn b hb =>
    ⟨hn b hb, (I'.ok.exf b hb).1, I'.ok.exfs b hb, .inl hb, fun x c e => (I'.ok.exf b hb).2 x c e, fun p hp => absurd (show p ∈ ([] : List (Addr × Obj)) ++ [] from hp) (by simp)⟩
  have loop : codeAny (model X.prog X.w) X.A (.compLoop (.SetComp elt [⟨tg, iter, ifs, 0⟩] scope pos) 0 (.ref it) (.ref D) ce) (compPost (model X.prog X.w) X.A X.xe use Qf (.ref D) s3.heap.objs.size) s4 := by
    refine PpSet.compLoopS_any (fun n s' => ∃ i H', Inv (X.blk s3 Hz scope ce fp) [] (wipe σ (own.map (·.2))) H' s' ∧ tn i s'.heap ∧ (∀ b ∈ fp, H' b = none) ∧ W i n H') ?_ m0 ⟨0, Hz, I4, st4, nfp, w0⟩
    rintro n s5 ⟨i, H5, I5, st5, n5, w5⟩
    rcases turn i n H5 w5 with ⟨stop, qq⟩ | ⟨go, Nx, hNx, step⟩
    · refine thnF (T.done (X.blk s3 Hz scope ce fp) rfl rfl rfl hc i [] s5 _ H5 (fun _ _ => False) I5 (stat I5 n5) st5 stop) fun r s6 ⟨hr, I6⟩ => ?_
      subst hr
      have I7 : Inv X pins σ H5 s6 := I3.call' (ch := fp) I6.os I6.base I6.hok I6.bare fun b hb => ⟨(f3 b hb).1.2.2.2.1, (f3 b hb).1.2.1, (f3 b hb).1.2.2.2.2.1, (f3 b hb).1.2.2.2.2.2⟩
      have nC : H5 s3.heap.objs.size = none := by
        have z : H5 ce.locals = none := I6.free
        rw [cL] at z
        exact z
      obtain ⟨m, hn, _⟩ := I6.loc
      have hn : s6.heap.Ns ce.locals m := hn
      rw [cL] at hn
      exact hRR D s3.heap.objs.size s6 m H5 I7 qq hn (I3.fpOk (Nat.le_refl _) nC)
    · refine thnF (T.item (X.blk s3 Hz scope ce fp) rfl rfl rfl hc i [] s5 _ H5 (fun _ _ => False) I5 (stat I5 n5) st5 go) fun r s6 ⟨u, hr, h6⟩ => ?_
      subst hr
      refine thnF h6 fun _ s7 ⟨x, H7, I7, r7, y7, st7, n7⟩ => ?_
      refine thnF (pg.run _ s7 _ H7 x u _ (I7.pinned (stat I7 n7) (T.obj _ _ st7)) r7 (step x H7 y7)) fun _ s8 ⟨σ8, H8, I8, hw8, q8⟩ => ?_
      refine thnF (pt.run _ s8 σ8 H8 _ I8 q8) fun b s9 ⟨H9, I9, q9⟩ => ?_
      have fin : ∀ {s' : Shared} {H' : Hp}, Inv (X.blk s3 Hz scope ce fp) ([] ++ pinsAt fp s7.heap) σ8 H' s' → Nx H' → ∃ m, m < n ∧ ∃ i H', Inv (X.blk s3 Hz scope ce fp) [] (wipe σ (own.map (·.2))) H' s' ∧ tn i s'.heap ∧ (∀ b ∈ fp, H' b = none) ∧ W i m H' := fun {s' H'} I' nx => by
        obtain ⟨m', hm, w'⟩ := hNx H' nx
        have pin' : ∀ b ∈ fp, ∀ o, s7.heap.get? b = some o → s'.heap.get? b = some o ∧ H' b = none := fun b hb o e =>
          let z := I'.pin (b, o) (List.mem_append_right _ (List.mem_append_right _ (mem_pinsAt hb e)))
          ⟨z.1, z.2.1⟩
        refine ⟨m', hm, i + 1, H', (I'.unpinned (pins := [])).weak (by rw [← hw8, wipe_length]) (fun j v e => ?_), T.keep _ _ _ st7 fun b hb o e => (pin' b hb o e).1, fun b hb => ?_, w'⟩
        · rw [← hw8] at e
          exact (wipe_some e).1
        · obtain ⟨o, e, _⟩ := T.obj _ _ st7 b hb
          exact (pin' b hb o e).2
      cases b with
      | false =>
        simp only [Bool.false_eq_true, if_false] at q9 ⊢
        exact fin I9 q9
      | true =>
        simp only [if_true] at q9 ⊢
        refine thnF (pe.run _ s9 σ8 H9 _ I9 q9) fun z s10 ⟨yv, H10, I10, r10, cb, S0, n0, ey, hD10, hz10, nx⟩ => ?_
        subst ey
        obtain ⟨tk, rfl⟩ := r10
        exact addI_ok (X := X.blk s3 Hz scope ce fp) I10 hD10 hz10 fun s11 I11 => fin I11 nx
  exact PpSet.codeAny_compStart_set loop (T.self X.A 0 _ _ _ st4 loop)
theorem pe_sci {elt tg iter : Expr} {ifs : List Expr} {scope : Scope} {own : List (PySem.Str × Nat)} {pos : Pos} {wi : TI} {g : TG} {tt : TT} {te : TE} (hc : X.calm = true) (hN : X.N.Nodup) (hi : PI X tg iter wi) (ok : BlkOk X.N X.env.scope scope own)
    (hg : ∀ (s : Shared) (H : Hp) (C : Addr) (cl : List (PySem.Str × Addr)) (fp : List Addr), PG (X.blk s H scope (compEnvC scope cl C X.env) fp) tg g) (ht : ∀ (s : Shared) (H : Hp) (C : Addr) (cl : List (PySem.Str × Addr)) (fp : List Addr), PTs (X.blk s H scope (compEnvC scope cl C X.env) fp) ifs tt)
    (he : ∀ (s : Shared) (H : Hp) (C : Addr) (cl : List (PySem.Str × Addr)) (fp : List Addr), PE (X.blk s H scope (compEnvC scope cl C X.env) fp) elt te) (hs : ∀ x, foldedSetIterable iter X.env x = pure x) :
    PE X (.SetComp elt [⟨tg, iter, ifs, 0⟩] scope pos) (tSci X.w wi g tt te (own.map (·.2))) := by
  refine ⟨fun pins s σ H Q I h => ?_⟩
  rw [PpSet.eval_SetComp]
  refine sci_core hc hN I hi ok hg ht he hs h fun D C s' m H' I' q hn f => ⟨m, hn, fun h'' sb => ?_⟩
  obtain ⟨f0, f1, f2, f3, f4, f5⟩ := f
  exact ⟨.ref D, H', I'.turned (t' := s'.toks) (fun b o hb e => (sb.2 b hb).trans e) f0 f1 f3 f4 f5, rfl, q⟩
theorem ps_setSci {i : Nat} {y : Str} {py : Pos} {elt tg iter : Expr} {ifs : List Expr} {scope : Scope} {own : List (Str × Nat)} {pos spos : Pos} {wi : TI} {g : TG} {tt : TT} {te : TE} (hc : X.calm = true) (hN : X.N.Nodup) (hy : X.N[i]? = some y) (hyl : X.env.scope.names.lookup y = some .local)
    (hsw : swapsWith (.SetComp elt [⟨tg, iter, ifs, 0⟩] scope pos) (some (.Name y py)) spos.line X.env = pure true) (hi : PI X tg iter wi) (ok : BlkOk X.N X.env.scope scope own)
    (hg : ∀ (s : Shared) (H : Hp) (C : Addr) (cl : List (Str × Addr)) (fp : List Addr), PG (X.blk s H scope (compEnvC scope cl C X.env) fp) tg g) (ht : ∀ (s : Shared) (H : Hp) (C : Addr) (cl : List (Str × Addr)) (fp : List Addr), PTs (X.blk s H scope (compEnvC scope cl C X.env) fp) ifs tt)
    (he : ∀ (s : Shared) (H : Hp) (C : Addr) (cl : List (Str × Addr)) (fp : List Addr), PE (X.blk s H scope (compEnvC scope cl C X.env) fp) elt te) (hs : ∀ x, foldedSetIterable iter X.env x = pure x) :
    PS X (.Assign [.Name y py] (.SetComp elt [⟨tg, iter, ifs, 0⟩] scope pos) spos) (tAsg (tSci X.w wi g tt te (own.map (·.2))) (gName i)) := by
  refine ⟨fun pins s σ H D I h => ?_⟩
  rw [exec_Assign_Name_used _ _ _ _ hsw]
  refine wpAny_bind (wpAny_standAt (wpAny_bind ?_))
  show wpAny _ X.A (do let _ ← comprehension (.SetComp elt [⟨tg, iter, ifs, 0⟩] scope pos) scope X.env (firstIterPos [⟨tg, iter, ifs, 0⟩] pos) (PySem.newSet (.type "set")) false (eval iter X.env) (some (assign (.Name y py) X.env))) _ _ s
  have h : tSci X.w wi g tt te (own.map (·.2)) σ H (fun x H1 => gName i x σ H1 D.nx) := h
  refine wpAny_bind (thn (sci_core (Qf := fun _ s' => SP X pins D .next s') hc hN I hi ok hg ht he hs h fun L C s' m H' I' q hn f => ?_) fun _ s' hq => wpAny_pure (wpAny_pure hq))
  show wpAny _ _ (assign (.Name y py) X.env (.ref L)) _ _ _
  refine wpAny_assign_Name (store_ok2 (v := V.ref L) I' hN hy (.inl hyl) rfl (fun s2 I2 ⟨a, sb, ha⟩ => ?_) (.inr hyl))
  obtain ⟨f0, f1, f2, f3, f4, f5⟩ := f
  have haC : C ≠ a := by
    rcases ha with z | z
    · rw [z]; exact f1
    · exact fun e => f4 y a z e.symm
  refine ⟨m, hn.sameBut sb haC, fun h3 sb3 => ?_⟩
  exact ⟨_, H', I2.turned (t' := s2.toks) (fun b o hb e => (sb3.2 b hb).trans e) f0 f1 f3 f4 f5, q⟩
end
theorem sw_trueS {elt : Expr} {gs : List Comprehension} {scope : Scope} {pos py : Pos} {y : Str} {l : Nat} {env : Env} (hk : env.scope.kind = .function) (hy : env.scope.names.lookup y = some .local) (hl : (py.line == pos.line) = true)
    (ha : (scope.names.any fun (n, k) => n == y && (k == .local || k == .cell)) = false) : swapsWith (.SetComp elt gs scope pos) (some (.Name y py)) l env = pure true := by
  have ky : env.kindOf y = some .local := hy
  have hb : env.blockKind = .function := by unfold Env.blockKind; rw [hk]; rfl
  unfold swapsWith
  simp only [hb, ky, ha, Expr.pos, hl]
  rfl
end Cut
end
section
/-! CutSet3: the sets as combinators over data. -/
namespace Cut
open PySem PySem.Spec PyProof.Rows L2

def intsOf (d : D) : Option (List Int) := match d with
  | .lst l => intsD l
  | _ => none
def uniq (ns : List Int) : List D := (sortU ns).map .int
theorem uniq_len (ns : List Int) : (uniq ns).length = (sortU ns).length := by rw [uniq, List.length_map]
def rSortSet (f : EM) : RM := fun s => (f s).bind fun d s1 => match intsOf (look s1.ob d) with
  | some ns => if ns.length < 64 then .ok (.fl (uniq ns)) s1 else .bad
  | none => .bad
def eSetOf (f : EM) : EM := fun s => (f s).bind fun d s1 => match intsOf (look s1.ob d) with
  | some ns => if ns.length + 1 < scanBound then .ok (.set (uniq ns)) s1 else .bad
  | none => .bad
def eSetC (own : List Nat) (src : IM) (g : Tg) (tt : TM) (f : EM) : EM := fun s => (src s).bind fun items s1 => match lcGo (lcTurn g tt (lcElt f) (wipeD s1.sl own)) items s1.ob with
  | some (l, ob) => match intsD l with
    | some ns => if ns.length + 1 < scanBound then .ok (.set (uniq ns)) { s1 with ob := ob } else .bad
    | none => .bad
  | none => .bad
theorem dens_of_ints {K : KW} {ι : List Addr} {F : Addr → Prop} {H : Hp} : ∀ ns : List Int, Dens K ι F H (ns.map V.int) (ns.map D.int)
  | [] => .nil
  | i :: ns => .cons (.int i) (dens_of_ints ns)
theorem ints_look {K : KW} {mg : Str → Option Value} {ι : List Addr} {F : Addr → Prop} {H : Hp} {ob : Obs} {v : V} {d : D} {ns : List Int} (r : ORel K mg ι F ob H) (h : Den K ι F H v d) (e : intsOf (look ob d) = some ns) : ∃ a, v = .ref a ∧ H a = some (.lst (ns.map V.int)) := by
  have h2 := h.look r
  generalize look ob d = d' at e h2
  cases d' with
  | lst l =>
    obtain ⟨a, xs, rfl, ha, hd⟩ := h2
    have e : intsD l = some ns := e
    have := dens_ints hd e
    subst this
    exact ⟨a, rfl, ha⟩
  | _ => cases e
section
variable {c : SI} {e : Expr} {f : EM} {p p2 q pos : Pos}
theorem dr_sortSet (hc : c.calm = true) (hg : c.sc.names.lookup ("sorted" : Str) = some .globalImplicit) (hb : ("sorted" : Str) ∈ c.blts) (hg2 : c.sc.names.lookup ("set" : Str) = some .globalImplicit) (hb2 : ("set" : Str) ∈ c.blts) (he : DE c e f) (hp : plainArg e = true) :
    DR c (.Call (.Name "sorted" p) [.Call (.Name "set" p2) [e] [] q] [] pos) (rSortSet f) := fun X W S tk =>
  (pe_sortSet (S.calm hc) (Gl.of S hg) (S.blt _ hb) (Gl.of S hg2) (S.blt _ hb2) (he X W S tk) (starEach_plain hp)).imp fun σ H Q h => by
    obtain ⟨ι, F, ps, r, h⟩ := h
    refine ⟨ι, F, ps, r, Sat.seq h fun d ps1 ι1 F1 H1 v e1 r1 d1 s => ?_⟩
    have s : Sat X.kw X.mg W (rR X.kw) σ ι F H (match intsOf (look ps1.ob d) with
      | some ns => if ns.length < 64 then .ok (.fl (uniq ns)) ps1 else .bad
      | none => .bad) Q := s
    cases hi : intsOf (look ps1.ob d) with
    | none => rw [hi] at s; exact s.elim
    | some ns =>
      rw [hi] at s
      have s : Sat X.kw X.mg W (rR X.kw) σ ι F H (if ns.length < 64 then .ok (.fl (uniq ns)) ps1 else .bad) Q := s
      by_cases h64 : ns.length < 64
      · rw [if_pos h64] at s
        obtain ⟨a, rfl, ha⟩ := ints_look r1.ob d1 hi
        refine ⟨a, ns, rfl, ha, h64, fun p hp => ?_⟩
        have g : Grow H1 (upd H1 p (.lst ((sortU ns).map V.int))) := Grow.upd hp
        exact s ι1 F1 _ _ (e1.trans (Ext.grow g)) (r1.grow g) ⟨p, _, rfl, e1.there p hp, (not_ref r1.ob hp).1, (not_ref r1.ob hp).2, upd_same, dens_of_ints _⟩
      · rw [if_neg h64] at s; exact s.elim
theorem set_den {K : KW} {mg : Str → Option Value} {ι : List Addr} {F : Addr → Prop} {H : Hp} {w : World} {a : Addr} {S : Int → Bool} {ns : List Int} (h : H a = some (SetO w a S (sortU ns).length)) : Den K ι (fz F a) H (.ref a) (.set (uniq ns)) :=
  .set ⟨.inr rfl, _, h, fun h' R => by rw [uniq_len]; exact setR_len R⟩
theorem de_setOf (hc : c.calm = true) (hg2 : c.sc.names.lookup ("set" : Str) = some .globalImplicit) (hb2 : ("set" : Str) ∈ c.blts) (he : DE c e f) (hp : plainArg e = true) : DE c (.Call (.Name "set" p2) [e] [] q) (eSetOf f) := fun X W S tk =>
  (pe_setOf (S.calm hc) (Gl.of S hg2) (S.blt _ hb2) (he X W S tk) (starEach_plain hp)).imp fun σ H Q h => by
    obtain ⟨ι, F, ps, r, h⟩ := h
    refine ⟨ι, F, ps, r, Sat.seq h fun d ps1 ι1 F1 H1 v e1 r1 d1 s => ?_⟩
    have s : Sat X.kw X.mg W (rE X.kw) σ ι F H (match intsOf (look ps1.ob d) with
      | some ns => if ns.length + 1 < scanBound then .ok (.set (uniq ns)) ps1 else .bad
      | none => .bad) Q := s
    cases hi : intsOf (look ps1.ob d) with
    | none => rw [hi] at s; exact s.elim
    | some ns =>
      rw [hi] at s
      have s : Sat X.kw X.mg W (rE X.kw) σ ι F H (if ns.length + 1 < scanBound then .ok (.set (uniq ns)) ps1 else .bad) Q := s
      by_cases h64 : ns.length + 1 < scanBound
      · rw [if_pos h64] at s
        obtain ⟨a, rfl, ha⟩ := ints_look r1.ob d1 hi
        refine ⟨a, ns, rfl, ha, h64, fun p hp => ?_⟩
        have g : Grow H1 (upd H1 p (SetO X.w p (fun j => decide (j ∈ ns)) (sortU ns).length)) := Grow.upd hp
        exact s ι1 (Cut.fz F1 p) _ _ ((e1.trans (Ext.grow g)).frz (e1.there p hp)) ((r1.grow g).frz (by rw [upd_same]; simp) (not_ref r1.ob hp).1) (set_den (mg := X.mg) (w := X.w) upd_same)
      · rw [if_neg h64] at s; exact s.elim
end

/-! ### the new set under way -/
section
variable {K : KW} {mg : Str → Option Value} {ι ι' ι1 : List Addr} {F F' F1 : Addr → Prop} {H H' H1 : Hp}
theorem intsD_app : ∀ {l m : List D} {nl : List Int}, intsD (l ++ m) = some nl → ∃ a b, intsD l = some a ∧ intsD m = some b ∧ nl = a ++ b
  | [], m, nl, h => ⟨[], nl, rfl, h, rfl⟩
  | .int i :: l, m, nl, h => by
    rw [List.cons_append, intsD] at h
    cases e : intsD (l ++ m) with
    | none => rw [e] at h; cases h
    | some z =>
      rw [e] at h; cases h
      obtain ⟨a, b, h1, h2, rfl⟩ := intsD_app e
      exact ⟨i :: a, b, by rw [intsD, h1]; rfl, h2, rfl⟩
  | .non :: _, _, _, h => by cases h
  | .bl _ :: _, _, _, h => by cases h
  | .str _ :: _, _, _, h => by cases h
  | .tup _ :: _, _, _, h => by cases h
  | .lst _ :: _, _, _, h => by cases h
  | .scr _ :: _, _, _, h => by cases h
  | .dct _ _ :: _, _, _, h => by cases h
  | .set _ :: _, _, _, h => by cases h
  | .tbl _ _ :: _, _, _, h => by cases h
  | .ob _ :: _, _, _, h => by cases h
theorem Ext.staysG {L : Addr} {o : HO} (e : Ext ι F H ι' F' H') (hD : H L = some o) (hf : ¬ F L) (hn : L ∉ ι) : H' L = some o ∧ ¬ F' L ∧ L ∉ ι' :=
  ⟨e.keep L _ hD (.inl hn), fun h => by
    rcases e.newF L h with z | z | z
    · exact hf z
    · rw [hD] at z; cases z
    · exact hn z, fun h => by
    rcases e.mem h with z | z
    · exact hn z
    · rw [hD] at z; cases z⟩
mutual
theorem Den.modE {L : Addr} {φ : Heap → Prop} {u : HO} (hD : H L = some (.ext φ)) (hf : ¬ F L) : ∀ {v : V} {d : Cut.D}, Den K ι F H v d → Den K ι F (upd H L u) v d
  | _, _, .non => .non
  | _, _, .bl b => .bl b
  | _, _, .int i => .int i
  | _, _, .str x => .str x
  | _, _, .tup h hs => .tup (by
      rcases h with (h | ⟨o, h⟩) | h
      · exact .inl (.inl (by rw [upd_ne (fun z => by rw [z, hD] at h; cases h)]; exact h))
      · exact .inl (.inr ⟨o, by rw [upd_ne (fun z => by rw [z, hD] at h; cases h)]; exact h⟩)
      · exact .inr h) (Dens.modE hD hf hs)
  | _, _, .lst h hs => .lst ⟨h.1, by rw [upd_ne (fun z => hf (by rw [← z]; exact h.1))]; exact h.2⟩ (Dens.modE hD hf hs)
  | _, _, .scr h hs => .scr (h.imp (fun ⟨o, h⟩ => ⟨o, by rw [upd_ne (fun z => by rw [z, hD] at h; cases h)]; exact h⟩) id) (Dens.modE hD hf hs)
  | _, _, .dct h h1 h2 => .dct (by obtain ⟨kvs, f, h, e⟩ := h; exact ⟨kvs, f, by rw [upd_ne (fun z => hf (by rw [← z]; exact f))]; exact h, e⟩) (Dens.modE hD hf h1) (Dens.modE hD hf h2)
  | _, _, .set h => .set ⟨h.1, by obtain ⟨φ, h2, h3⟩ := h.2; exact ⟨φ, by rw [upd_ne (fun z => hf (by rw [← z]; exact h.1))]; exact h2, h3⟩⟩
  | _, _, .tbl h k h1 h2 => .tbl ⟨h.1, by rw [upd_ne (fun z => hf (by rw [← z]; exact h.1))]; exact h.2⟩ k (Dens.modE hD hf h1) (Dens.modE hD hf h2)
  | _, _, .ob h => .ob h
theorem Dens.modE {L : Addr} {φ : Heap → Prop} {u : HO} (hD : H L = some (.ext φ)) (hf : ¬ F L) : ∀ {vs : List V} {ds : List Cut.D}, Dens K ι F H vs ds → Dens K ι F (upd H L u) vs ds
  | _, _, .nil => .nil
  | _, _, .cons h hs => .cons (Den.modE hD hf h) (Dens.modE hD hf hs)
end
theorem ORel.modE {ob : List (Option Ob)} {L : Addr} {φ : Heap → Prop} {u : HO} (r : ORel K mg ι F ob H) (hD : H L = some (.ext φ)) (hf : ¬ F L) (hn : L ∉ ι) : ORel K mg ι F ob (upd H L u) := by
  refine ⟨r.len, r.nd, fun n o h => ?_, fun a h => ?_, fun a h => ?_⟩
  · obtain ⟨a, h1, h2, h3⟩ := r.obs n o h
    have ha : a ≠ L := fun z => hn (z ▸ List.mem_of_getElem? h1)
    refine ⟨a, h1, h2, ?_⟩
    cases o with
    | lst ds => obtain ⟨xs, g1, g2⟩ := h3; exact ⟨xs, by rw [upd_ne ha]; exact g1, g2.modE hD hf⟩
    | dct ks vs => obtain ⟨kvs, g1, g2, g3⟩ := h3; exact ⟨kvs, by rw [upd_ne ha]; exact g1, g2.modE hD hf, g3.modE hD hf⟩
    | ins C fs => obtain ⟨cC, dx, xs, g0, g1, g2, g3⟩ := h3; exact ⟨cC, dx, xs, g0, by rw [upd_ne ha]; exact g1, g2, g3.modE hD hf⟩
  · by_cases e : a = L
    · subst e; rw [upd_same]; simp
    · rw [upd_ne e]; exact r.use a h
  · by_cases e : a = L
    · subst e; rw [upd_same]; simp
    · rw [upd_ne e]; exact r.used a h
/-- so far acc, to come what k tells -/
def ScI (w : World) (K : KW) (mg : Str → Option Value) (ι1 : List Addr) (F1 : Addr → Prop) (H1 : Hp) (L : Addr) (sl : List (Option D)) (σw : L2.St) (full : List Int) (obF : Obs) (k : Obs → Option (List D × Obs)) (H : Hp) : Prop :=
  ∃ ι F ob acc l nl, Ext ι1 F1 H1 ι F H ∧ Rel K mg ι F ⟨sl, ob⟩ σw H ∧ H L = some (SetO w L (fun j => decide (j ∈ acc)) (sortU acc).length) ∧ L ∉ ι ∧ ¬ F L ∧ k ob = some (l, obF) ∧ intsD l = some nl ∧ acc ++ nl = full
theorem sc_walk {w : World} {L : Addr} {sl : List (Option D)} {σ : L2.St} {vs : List Nat} {full : List Int} {obF : Obs} {step : D → Obs → Option (List D × Obs)} {J : It} {items : List D} {g : TG} {R : L2.St → Hp → (Hp → Prop) → Prop} {Qd : Hp → Prop}
    (hJ : ItOK K ι1 F1 H1 J items) {H1' : Hp} (h0 : ScI w K mg ι1 F1 H1 L sl (wipe σ vs) full obF (lcGo step items) H1')
    (hd : ∀ H, ScI w K mg ι1 F1 H1 L sl (wipe σ vs) full obF (fun ob => some ([], ob)) H → Qd H)
    (hs : ∀ (d : D) (k : Obs → Option (List D × Obs)) (H : Hp) (x : V) (ι : List Addr) (F : Addr → Prop) (ob : Obs) (acc : List Int) (p q : List D × Obs) (a b : List Int),
      Ext ι1 F1 H1 ι F H → Rel K mg ι F ⟨sl, ob⟩ (wipe σ vs) H → H L = some (SetO w L (fun j => decide (j ∈ acc)) (sortU acc).length) → L ∉ ι → ¬ F L → Den K ι F H x d → step d ob = some p → k p.2 = some q → q.2 = obF → intsD p.1 = some a → intsD q.1 = some b → acc ++ (a ++ b) = full →
      g x (wipe σ vs) H fun σ2 H2 => wipe σ2 vs = wipe σ vs ∧ R σ2 H2 (ScI w K mg ι1 F1 H1 L sl (wipe σ vs) full obF k)) :
    ∃ W : Nat → Nat → Hp → Prop, (∃ m, W 0 m H1') ∧ ∀ i m H, W i m H →
      (J.stop i H ∧ Qd H) ∨ (J.go i H ∧ ∃ Nx : Hp → Prop, (∀ H', Nx H' → ∃ m', m' < m ∧ W (i + 1) m' H') ∧ ∀ x H', J.yld i H x H' → g x (wipe σ vs) H' fun σ2 H2 => wipe σ2 vs = wipe σ vs ∧ R σ2 H2 Nx) := by
  refine ⟨fun i m H => m = items.length - i ∧ i ≤ items.length ∧ ScI w K mg ι1 F1 H1 L sl (wipe σ vs) full obF (lcGo step (items.drop i)) H, ⟨items.length, by simp, Nat.zero_le _, by simpa using h0⟩, ?_⟩
  rintro i m H ⟨rfl, hi, ι, F, ob, acc, l, nl, e, r, hL, hn, hf, hk, hnl, hl⟩
  obtain ⟨j1, j2⟩ := hJ ι F H e.wx
  by_cases hlt : i < items.length
  · have hg : items[i]? = some items[i] := List.getElem?_eq_getElem hlt
    obtain ⟨y1, y2⟩ := j1 i _ hg
    refine .inr ⟨y1, ScI w K mg ι1 F1 H1 L sl (wipe σ vs) full obF (lcGo step (items.drop (i + 1))), fun H' p' => ⟨items.length - (i + 1), by omega, rfl, hlt, p'⟩, fun x H' y => ?_⟩
    obtain ⟨gr, dn⟩ := y2 x H' y
    have hdrop : items.drop i = items[i] :: items.drop (i + 1) := List.drop_eq_getElem_cons hlt
    rw [hdrop] at hk
    simp only [lcGo] at hk
    cases h1 : step items[i] ob with
    | none => rw [h1] at hk; cases hk
    | some p =>
      rw [h1] at hk
      simp only at hk
      cases h2 : lcGo step (items.drop (i + 1)) p.2 with
      | none => rw [h2] at hk; cases hk
      | some p2 =>
        rw [h2] at hk
        simp only [Option.some.injEq, Prod.mk.injEq] at hk
        rw [← hk.1] at hnl
        obtain ⟨a, b, ha, hb, rfl⟩ := intsD_app hnl
        exact hs items[i] _ H' x ι F ob acc p p2 a b (e.trans (Ext.grow gr)) (r.grow gr) (gr _ _ hL) hn hf dn h1 h2 hk.2 ha hb hl
  · have e2 : i = items.length := by omega
    subst e2
    rw [List.drop_length] at hk
    exact .inl ⟨j2, hd H ⟨ι, F, ob, acc, l, nl, e, r, hL, hn, hf, hk, hnl, hl⟩⟩
end
theorem eSetC_read {X : Cx} {W : WX} {own : List Nat} {src : IM} {g : Tg} {tt : TM} {f : EM} {σ : L2.St} {H : Hp} {Q : VK} (hv : ∀ i ∈ g.vars, i ∈ own) (h : tE X.kw X.mg W (eSetC own src g tt f) σ H Q) :
    tSci X.w (tO X.kw X.mg W (rI X.kw) src) (tG X.kw X.mg g) (tT X.kw X.mg (fun _ _ _ _ => False) tt) (tE X.kw X.mg (fun _ _ _ _ => False) f) own σ H Q := by
  obtain ⟨ι, F, ps, r, q⟩ := h
  refine ⟨ι, F, ps, r, Sat.seq q fun items ps1 ι1 F1 H1 J e1 r1 hJ s => ?_⟩
  have s : Sat X.kw X.mg W (rE X.kw) σ ι F H (match lcGo (lcTurn g tt (lcElt f) (wipeD ps1.sl own)) items ps1.ob with
    | some (l, ob) => match intsD l with
      | some ns => if ns.length + 1 < scanBound then .ok (.set (uniq ns)) { ps1 with ob := ob } else .bad
      | none => .bad
    | none => .bad) Q := s
  intro L hL
  cases hg : lcGo (lcTurn g tt (lcElt f) (wipeD ps1.sl own)) items ps1.ob with
  | none => rw [hg] at s; exact s.elim
  | some lo =>
    obtain ⟨fl, obF⟩ := lo
    rw [hg] at s
    have s : Sat X.kw X.mg W (rE X.kw) σ ι F H (match intsD fl with
      | some ns => if ns.length + 1 < scanBound then .ok (.set (uniq ns)) { ps1 with ob := obF } else .bad
      | none => .bad) Q := s
    cases hi : intsD fl with
    | none => rw [hi] at s; exact s.elim
    | some full =>
      rw [hi] at s
      have s : Sat X.kw X.mg W (rE X.kw) σ ι F H (if full.length + 1 < scanBound then .ok (.set (uniq full)) { ps1 with ob := obF } else .bad) Q := s
      by_cases hfull : full.length + 1 < scanBound
      · rw [if_pos hfull] at s
        have gr : Grow H1 (upd H1 L (SetO X.w L (fun _ => false) 0)) := Grow.upd hL
        obtain ⟨nL, fL⟩ := not_ref r1.ob hL
        refine sc_walk (w := X.w) (K := X.kw) (mg := X.mg) (ι1 := ι1) (F1 := F1) (H1 := H1) (L := L) (sl := wipeD ps1.sl own) (full := full) (obF := obF) (step := lcTurn g tt (lcElt f) (wipeD ps1.sl own)) (items := items)
          (R := fun σ2 H2 Nx => tT X.kw X.mg (fun _ _ _ _ => False) tt σ2 H2 fun b H3 => if b = true then tE X.kw X.mg (fun _ _ _ _ => False) f σ2 H3 fun y H4 => ∃ (c : Int) (S : Int → Bool) (n : Nat), y = .int c ∧ H4 L = some (SetO X.w L S n) ∧ n + 1 < scanBound ∧ Nx (upd H4 L (SetO X.w L (fun j => S j || decide (j = c)) (if S c = true then n else n + 1))) else Nx H3)
          hJ ?_ ?_ ?_
        · refine ⟨ι1, F1, ps1.ob, [], fl, full, Ext.grow gr, (r1.grow gr).wipe own, ?_, nL, fL, hg, hi, rfl⟩
          rw [upd_same]
          rfl
        · rintro H' ⟨ι2, F2, ob, acc, l, nl, e2, r2, h2, n2, f2, k2, hnl, l2⟩
          cases k2
          cases hnl
          rw [List.append_nil] at l2
          subst l2
          have r3 : Rel X.kw X.mg ι2 F2 { ps1 with ob := obF } σ H' := ⟨r2.ob, fun i d hi => by
            obtain ⟨v, a, b⟩ := r1.sl i d hi
            exact ⟨v, a, b.ext e2⟩, r1.len⟩
          exact s ι2 (Cut.fz F2 L) H' _ ((e1.trans e2).frz (e1.there L hL)) (r3.frz (by rw [h2]; simp) n2) (set_den (mg := X.mg) (w := X.w) h2)
        · intro d k H' x ι2 F2 ob acc p q2 na nb e2 r2 h2 n2 f2 dx hp hk hq hna hnb hl
          unfold lcTurn at hp
          cases h3 : g.put d (wipeD ps1.sl own) with
          | none => rw [h3] at hp; cases hp
          | some sl1 =>
            rw [h3] at hp
            have hp : (match tt ⟨sl1, ob⟩ with
              | .ok true s1 => lcElt f s1
              | .ok false s1 => some ([], s1.ob)
              | _ => none) = some p := hp
            refine ⟨ι2, F2, ⟨wipeD ps1.sl own, ob⟩, d, sl1, r2, dx, h3, fun σ3 r3 hw => ⟨by rw [hw own hv, wipe_idem], ι2, F2, ⟨sl1, ob⟩, r3, ?_⟩⟩
            cases h4 : tt ⟨sl1, ob⟩ with
            | bad => rw [h4] at hp; cases hp
            | ex _ _ => rw [h4] at hp; cases hp
            | ok b s1 =>
              intro ι4 F4 H4 b' e4 r4 hb
              have hb : b' = b := hb
              subst hb
              obtain ⟨hL4, hf4, hn4⟩ := e4.staysG h2 f2 n2
              have hb4 : ∀ i d, (wipeD ps1.sl own)[i]? = some (some d) → ∃ v, (wipe σ own)[i]? = some (some v) ∧ Den X.kw ι4 F4 H4 v d := fun i d hi => by
                obtain ⟨v, a, b⟩ := r2.sl i d hi
                exact ⟨v, a, b.ext e4⟩
              rw [h4] at hp
              cases b' with
              | true =>
                rw [if_pos rfl]
                have hp : lcElt f s1 = some p := hp
                unfold lcElt at hp
                refine ⟨ι4, F4, s1, r4, ?_⟩
                cases ef : f s1 with
                | bad => rw [ef] at hp; cases hp
                | ex x s => rw [ef] at hp; cases hp
                | ok x s5 =>
                  rw [ef] at hp
                  cases hp
                  have : ∃ c, x = .int c ∧ na = [c] := by
                    cases x <;> first | (cases hna; done) | (cases hna; exact ⟨_, rfl, rfl⟩)
                  obtain ⟨c, rfl, rfl⟩ := this
                  intro ι5 F5 H5 y e5 r5 d5
                  have d5 : Den X.kw ι5 F5 H5 y (.int c) := d5
                  cases d5
                  obtain ⟨hL5, hf5, hn5⟩ := e5.staysG hL4 hf4 hn4
                  refine ⟨c, _, _, rfl, hL5, ?_, ?_⟩
                  · have h1 := congrArg List.length hl
                    have h2 := sortU_len acc
                    simp only [List.length_append, List.length_cons, List.length_nil] at h1
                    omega
                  · refine ⟨ι5, F5, s5.ob, acc ++ [c], q2.1, nb, ((e2.trans e4).trans e5).modN hL, ⟨r5.ob.modE hL5 hf5 hn5, fun i d hi => ?_, r2.len⟩, ?_, hn5, hf5, by rw [hk, ← hq], hnb, by rw [← hl]; simp⟩
                    · obtain ⟨v, h1, h2⟩ := hb4 i d hi
                      exact ⟨v, h1, (h2.ext e5).modE hL5 hf5⟩
                    · rw [upd_same, sortU_snoc]
                      congr 2
                      funext j
                      rw [Bool.eq_iff_iff]
                      simp [List.mem_append]
              | false =>
                rw [if_neg Bool.false_ne_true]
                cases hp
                cases hna
                exact ⟨ι4, F4, s1.ob, acc, q2.1, nb, e2.trans e4, ⟨r4.ob, hb4, r2.len⟩, hL4, hn4, hf4, by rw [hk, ← hq], hnb, by rw [← hl]; simp⟩
      · rw [if_neg hfull] at s; exact s.elim
section
variable {c : SI} {y : Str} {elt tg iter tg1 iter1 : Expr} {ifs ifs1 : List Expr} {scope : Scope} {pos py spos : Pos} {src src1 : IM} {g g1 : Tg} {tt tt1 : TM} {f : EM} {op : RM → EM}
theorem e_setc (own : List (Str × Nat)) (h : coC c scope own g iter = true) (hi : DI c tg iter src) (hg : DG (c.blk scope) tg g) (ht : DTs (c.blk scope) ifs tt) (he : DE (c.blk scope) elt f) :
    DE c (.SetComp elt [⟨tg, iter, ifs, 0⟩] scope pos) (eSetC (own.map (·.2)) src g tt f) := fun X W S tk => by
  unfold coC at h
  simp only [Bool.and_eq_true] at h
  obtain ⟨⟨⟨hc, ok⟩, hv⟩, hs⟩ := h
  refine (pe_sci (g := tG X.kw X.mg g) (tt := tT X.kw X.mg (fun _ _ _ _ => False) tt) (te := tE X.kw X.mg (fun _ _ _ _ => False) f) (S.calm hc) (by rw [S.N]; exact S.nd) (hi X W S tk) (own := own) (by rw [S.N, S.sc]; exact blkOk_by ok) (fun s H C cl fp => hg _ (S.blk s H scope C cl fp)) (fun s H C cl fp => ht _ _ (S.blk s H scope C cl fp) takes0) (fun s H C cl fp => he _ _ (S.blk s H scope C cl fp) takes0) (unfolded hs _)).imp fun σ H Q h => ?_
  exact eSetC_read (by simpa using hv) h
theorem s_setc (i : Nat) (own : List (Str × Nat)) (hs : stoC c i y = true) (hsw : swapC c y py pos scope = true) (h : coC c scope own g iter = true) (hi : DI c tg iter src) (hg : DG (c.blk scope) tg g) (ht : DTs (c.blk scope) ifs tt) (he : DE (c.blk scope) elt f) :
    DS c (.Assign [.Name y py] (.SetComp elt [⟨tg, iter, ifs, 0⟩] scope pos) spos) (sSet i (eSetC (own.map (·.2)) src g tt f)) := fun X W S tk hp => by
  unfold coC at h
  unfold swapC at hsw
  simp only [Bool.and_eq_true, Bool.not_eq_true'] at h hsw
  obtain ⟨⟨⟨hc, ok⟩, hv⟩, hn⟩ := h
  refine (ps_setSci (g := tG X.kw X.mg g) (tt := tT X.kw X.mg (fun _ _ _ _ => False) tt) (te := tE X.kw X.mg (fun _ _ _ _ => False) f) (S.calm hc) (by rw [S.N]; exact S.nd) (by rw [S.N]; exact (stoC_ok hs).1) (by rw [S.sc]; exact kindIs_ok hsw.1.1.1)
    (sw_trueS (by rw [S.sc]; exact kindF_ok hsw.1.1.2) (by rw [S.sc]; exact kindIs_ok hsw.1.1.1) hsw.1.2 hsw.2) (hi X W S tk) (own := own) (by rw [S.N, S.sc]; exact blkOk_by ok) (fun s H C cl fp => hg _ (S.blk s H scope C cl fp)) (fun s H C cl fp => ht _ _ (S.blk s H scope C cl fp) takes0) (fun s H C cl fp => he _ _ (S.blk s H scope C cl fp) takes0) (unfolded hn _)).imp fun E σ H h => ?_
  exact eSetC_read (by simpa using hv) (set_read h)
theorem s_comp2 (i : Nat) (own : List (Str × Nat)) (own1 : List Nat) (hop : op = eFrz ∨ op = eOwn) (hst : stoC c i y = true) (hsw : swapC c y py pos scope = true) (h : coC2 c scope own own1 g g1 iter iter1 = true) (hi : DI c tg iter src) (hg : DG (c.blk scope) tg g) (ht : DTs (c.blk scope) ifs tt)
    (hi1 : DI (c.blk scope) tg1 iter1 src1) (hg1 : DG (c.blk scope) tg1 g1) (ht1 : DTs (c.blk scope) ifs1 tt1) (he : DE (c.blk scope) elt f) :
    DS c (.Assign [.Name y py] (.ListComp elt [⟨tg, iter, ifs, 0⟩, ⟨tg1, iter1, ifs1, 0⟩] scope pos) spos) (sSet i (op (rComp2 (own.map (·.2)) src g tt own1 src1 g1 tt1 f))) := fun X W S tk hp => by
  unfold coC2 at h
  unfold swapC at hsw
  simp only [Bool.and_eq_true, Bool.not_eq_true'] at h hsw
  obtain ⟨⟨⟨⟨⟨⟨hc, ok⟩, hv⟩, hv1⟩, hin⟩, hs⟩, hs1⟩ := h
  refine (ps_setLc2 (g := tG X.kw X.mg g) (tt := tT X.kw X.mg (fun _ _ _ _ => False) tt) (wi1 := tO X.kw X.mg (fun _ _ _ _ => False) (rI X.kw) src1) (g1 := tG X.kw X.mg g1) (tt1 := tT X.kw X.mg (fun _ _ _ _ => False) tt1) (te := tE X.kw X.mg (fun _ _ _ _ => False) f) (S.calm hc) (by rw [S.N]; exact S.nd) (by rw [S.N]; exact (stoC_ok hst).1) (by rw [S.sc]; exact kindIs_ok hsw.1.1.1)
    (sw_true (by rw [S.sc]; exact kindF_ok hsw.1.1.2) (by rw [S.sc]; exact kindIs_ok hsw.1.1.1) hsw.1.2 hsw.2) (hi X W S tk) (own := own) (by rw [S.N, S.sc]; exact blkOk_by ok) (vs1 := own1) (by simpa using hin) (fun s H C cl fp => hg _ (S.blk s H scope C cl fp)) (fun s H C cl fp => ht _ _ (S.blk s H scope C cl fp) takes0)
    (fun s H C cl fp => hi1 _ _ (S.blk s H scope C cl fp) takes0) (fun s H C cl fp => hg1 _ (S.blk s H scope C cl fp)) (fun s H C cl fp => ht1 _ _ (S.blk s H scope C cl fp) takes0) (fun s H C cl fp => he _ _ (S.blk s H scope C cl fp) takes0) (unfolded hs _) (fun env => unfolded hs1 env)).imp fun E σ H h => ?_
  have h2 := set_read h
  have h3 : tR X.kw X.mg W (rComp2 (own.map (·.2)) src g tt own1 src1 g1 tt1 f) σ H fun v H1 => E.nx (σ.set i (some v)) H1 := by
    rcases hop with rfl | rfl
    · exact frz_read h2
    · exact own_read h2
  exact rComp2_read (by simpa using hv) (by simpa using hv1) h3
theorem swaps_cell {e : Expr} {x : Str} {p : Pos} {l : Nat} {env : Env} (h : env.kindOf x = some .cell) : swapsWith e (some (.Name x p)) l env = pure false := by
  have hk : (some NameKind.cell == some NameKind.local) = false := by decide
  cases e <;> first
    | rfl
    | (unfold swapsWith
       simp only [h, hk, Bool.and_false, Bool.false_and])
/-- a store of any value to a name that an inner block reads -/
theorem s_setK {e : Expr} {fe : EM} {pos' : Pos} (i : Nat) (h : (decide (c.N[i]? = some y) && kindIs c y .cell && c.fn y) = true) (he : DE c e fe) : DS c (.Assign [.Name y pos'] e pos) (sSet i fe) := fun X W S tk hp => by
  simp only [Bool.and_eq_true] at h
  have hx : Loc1 c y := .inr ⟨kindIs_ok h.1.2, h.2⟩
  exact (ps_set (i := i) (by rw [S.N]; exact S.nd) (by rw [S.N]; exact of_decide_eq_true h.1.1) (hx.loc S) (he X W S tk) (swaps_cell (by show X.env.scope.names.lookup y = _; rw [S.sc]; exact kindIs_ok h.1.2)) (hx.fn S)).imp fun E σ H h => set_read h
theorem r_sortSet {e : Expr} {p p2 q : Pos} (h : (c.calm && bltC c "sorted" && bltC c "set") = true) (he : DE c e f) (hp : plainArg e = true) : DR c (.Call (.Name "sorted" p) [.Call (.Name "set" p2) [e] [] q] [] pos) (rSortSet f) := by
  simp only [Bool.and_eq_true] at h
  exact dr_sortSet h.1.1 (bltC_ok h.1.2).1 (bltC_ok h.1.2).2.1 (bltC_ok h.2).1 (bltC_ok h.2).2.1 he hp
theorem e_setOf {e : Expr} {p2 q : Pos} (h : (c.calm && bltC c "set") = true) (he : DE c e f) (hp : plainArg e = true) : DE c (.Call (.Name "set" p2) [e] [] q) (eSetOf f) := by
  simp only [Bool.and_eq_true] at h
  exact de_setOf h.1 (bltC_ok h.2).1 (bltC_ok h.2).2.1 he hp
end
end Cut
end
section
/-! CutDcG: dict comprehensions over any description of the dict's content. -/
namespace Cut
open PySem PySem.Spec PyProof.Rows L2

/-- a way to say what a dict holds: what an empty one is, what a store does -/
structure DKind (X : Cx) where
  z0 : Addr → HO
  wr : V → V → Addr → Hp → Hp → Prop
  fresh : ∀ (h : Heap) (H : Hp), sysModules < h.objs.size → ObjOk X.prog X.w H (h.push { cls := .type "dict", data := .dict #[] }) h.objs.size (z0 h.objs.size)
  set : ∀ (Y : Cx), Y.prog = X.prog → Y.w = X.w → Y.K = X.K → Y.A = X.A → ∀ (pp : List (Addr × Obj)) (s : Shared) (τ : L2.St) (G G' : Hp) (d : Addr) (y z : V) (u r : Value) (Q : Unit → Shared → Prop) (E : Value → Shared → Prop),
    Inv Y pp τ G s → wr y z d G G' → RelV y u → RelV z r → (∀ s', Inv Y pp τ G' s' → Q () s') → wpAny (model Y.prog Y.w) Y.A (dictSet d u r) Q E s
/-- what is asked of {k: v for t in it if ..}; from then on d is the new dict -/
def tDG {X : Cx} (kd : DKind X) (src : TI) (tgt : TG) (tst : TT) (key val : TE) (vs : List Nat) : TE := fun σ H Q => src σ H fun J H1 => ∀ d, H1 d = none → ∃ V0 : Nat → Nat → Hp → Prop, (∃ m, V0 0 m (upd H1 d (kd.z0 d))) ∧ ∀ i m H, V0 i m H →
  (J.stop i H ∧ Q (.ref d) H) ∨ (J.go i H ∧ ∃ Nxt : Hp → Prop, (∀ H', Nxt H' → ∃ m', m' < m ∧ V0 (i + 1) m' H') ∧ ∀ x H', J.yld i H x H' → tgt x (wipe σ vs) H' fun σ2 H2 => wipe σ2 vs = wipe σ vs ∧ tst σ2 H2 fun b H3 =>
    if b = true then key σ2 H3 fun y H4 => val σ2 H4 fun z H5 => ∃ H6, kd.wr y z d H5 H6 ∧ Nxt H6 else Nxt H3)
section
variable {X : Cx} {kx vx tg iter : Expr} {ifs : List Expr} {sc : Scope} {own : List (Str × Nat)} {pos : Pos} {src : TI} {tgt : TG} {tst : TT} {key val : TE}
theorem pe_dG (kd : DKind X) (hcalm : X.calm = true) (hnd : X.N.Nodup) (hsrc : PI X tg iter src) (okb : BlkOk X.N X.env.scope sc own)
    (htgt : ∀ (s : Shared) (H : Hp) (C : Addr) (cl : List (Str × Addr)) (fp : List Addr), PG (X.blk s H sc (compEnvC sc cl C X.env) fp) tg tgt)
    (htst : ∀ (s : Shared) (H : Hp) (C : Addr) (cl : List (Str × Addr)) (fp : List Addr), PTs (X.blk s H sc (compEnvC sc cl C X.env) fp) ifs tst)
    (hkey : ∀ (s : Shared) (H : Hp) (C : Addr) (cl : List (Str × Addr)) (fp : List Addr), PE (X.blk s H sc (compEnvC sc cl C X.env) fp) kx key)
    (hval : ∀ (s : Shared) (H : Hp) (C : Addr) (cl : List (Str × Addr)) (fp : List Addr), PE (X.blk s H sc (compEnvC sc cl C X.env) fp) vx val)
    (hfold : ∀ v, foldedSetIterable iter X.env v = pure v) : PE X (.DictComp kx vx [⟨tg, iter, ifs, 0⟩] sc pos) (tDG kd src tgt tst key val (own.map (·.2))) := by
  refine ⟨fun pp z σ H Q I rd => ?_⟩
  rw [arm_eval_DictComp]
  have clos : ∀ y ∈ sc.names, y.2 = .free → ∃ c, X.env.cells.lookup y.1 = some c := fun y hy e =>
    (okb.free y hy e).elim (fun k => I.ok.has _ (.inl k)) (fun k => I.ok.has _ (.inr k))
  refine wpAny_comprehension_free (use := none) rfl hfold (closure_ok clos) okb.kind (fun y hy e => by rw [okb.uniq y hy, e]) ?_
  refine thn (hsrc.run pp z σ H _ I rd) fun _ z1 w1 => thn w1 fun _ z2 w2 => ?_
  obtain ⟨itr, fp, tn, J, Ha, rfl, Ia, T, at0, fpa, ask⟩ := w2
  refine wpAny_newObj_type (newEnv_comp ?_)
  -- the dict's address
  obtain ⟨d, hd⟩ : ∃ d, d = z2.heap.objs.size := ⟨_, rfl⟩
  have free : Ha d = none := Ia.hok.fresh (Nat.le_of_eq hd.symm)
  obtain ⟨V0, ⟨start, v0⟩, lap⟩ := ask d free
  have lower : ∀ b ∈ fp, b < d := fun b hb => by
    obtain ⟨_, q, _⟩ := T.obj _ _ at0 b hb
    rw [hd]
    exact Heap.lt_size q
  let zb : Shared := { z2 with heap := z2.heap.push { cls := .type "dict", data := .dict #[] } }
  have grown : ∀ b o, z2.heap.get? b = some o → zb.heap.get? b = some o := fun _ _ q => Heap.get?_push_of_some _ q
  have zsz : zb.heap.objs.size = d + 1 := by rw [hd]; exact Heap.size_push _ _
  have Ib : Inv X pp σ (upd Ha d (kd.z0 d)) zb := by
    refine Ia.laid (t' := z2.toks) grown (Nat.le_of_eq hd.symm) ?_
    rw [hd]
    exact kd.fresh z2.heap _ Ia.big
  have fpb : ∀ b ∈ fp, FpOk X pp (upd Ha d (kd.z0 d)) b ∧ b < zb.heap.objs.size := fun b hb => by
    have lt := lower b hb
    obtain ⟨q1, q2⟩ := fpa b hb
    exact ⟨⟨(upd_ne (Nat.ne_of_lt lt)).trans q1, q2⟩, by rw [zsz]; exact Nat.lt_succ_of_lt lt⟩
  have atb : tn 0 zb.heap := T.keep _ _ _ at0 fun b _ => grown b
  have Ic := block_start Ib okb hnd fpb
  have pg := htgt zb (upd Ha d (kd.z0 d)) zb.heap.objs.size (cellsFrom (zb.heap.objs.size + 1) sc.names (cloFrom X.env.cells sc.names [])) fp
  have pt := htst zb (upd Ha d (kd.z0 d)) zb.heap.objs.size (cellsFrom (zb.heap.objs.size + 1) sc.names (cloFrom X.env.cells sc.names [])) fp
  have pk := hkey zb (upd Ha d (kd.z0 d)) zb.heap.objs.size (cellsFrom (zb.heap.objs.size + 1) sc.names (cloFrom X.env.cells sc.names [])) fp
  have pv := hval zb (upd Ha d (kd.z0 d)) zb.heap.objs.size (cellsFrom (zb.heap.objs.size + 1) sc.names (cloFrom X.env.cells sc.names [])) fp
  have hloc : (compEnvC sc (cellsFrom (zb.heap.objs.size + 1) sc.names (cloFrom X.env.cells sc.names [])) zb.heap.objs.size X.env).locals = zb.heap.objs.size := rfl
  show codeAny _ _ (.compStart (.DictComp kx vx [⟨tg, iter, ifs, 0⟩] sc pos) 0 (.ref itr) (.ref z2.heap.objs.size) (compEnvC sc (cellsFrom (zb.heap.objs.size + 1) sc.names (cloFrom X.env.cells sc.names [])) zb.heap.objs.size X.env)) (compPost (model X.prog X.w) X.A X.xe none _ (.ref z2.heap.objs.size) zb.heap.objs.size) { zb with heap := pushCells (zb.heap.push { cls := .type "dict", data := .dict #[] }) sc.names }
  rw [← hd]
  generalize hblk : compEnvC sc (cellsFrom (zb.heap.objs.size + 1) sc.names (cloFrom X.env.cells sc.names [])) zb.heap.objs.size X.env = be at Ic pg pt pk pv hloc ⊢
  generalize hHb : upd Ha d (kd.z0 d) = Hb at Ib Ic pg pt pk pv v0 fpb
  generalize hzc : ({ zb with heap := pushCells (zb.heap.push { cls := .type "dict", data := .dict #[] }) sc.names } : Shared) = zc at Ic ⊢
  have atc : tn 0 zc.heap := T.keep _ _ _ atb fun b _ o q => by
    rw [← hzc]
    exact pushCells_keeps _ _ _ _ (Heap.get?_push_of_some _ q)
  let B := X.blk zb Hb sc be fp
  have still : ∀ {τ : L2.St} {G : Hp} {y : Shared}, Inv B [] τ G y → (∀ b ∈ fp, G b = none) → ∀ b ∈ fp, FpOk B [] G b := fun {τ G y} Iy hn b hb =>
    ⟨hn b hb, (Iy.ok.exf b hb).1, Iy.ok.exfs b hb, .inl hb, fun x c e => (Iy.ok.exf b hb).2 x c e, fun p hp => by cases hp⟩
  let R0 : Nat → Shared → Prop := fun n y => ∃ i G, Inv B [] (wipe σ (own.map (·.2))) G y ∧ tn i y.heap ∧ (∀ b ∈ fp, G b = none) ∧ V0 i n G
  have whole : codeAny (model X.prog X.w) X.A (.compLoop (.DictComp kx vx [⟨tg, iter, ifs, 0⟩] sc pos) 0 (.ref itr) (.ref d) be) (compPost (model X.prog X.w) X.A X.xe none (EP X pp σ Q) (.ref d) zb.heap.objs.size) zc := by
    refine compLoop_anyD R0 ?_ start ⟨0, Hb, Ic, atc, fun b hb => (fpb b hb).1.1, v0⟩
    rintro n y ⟨i, G, Iy, aty, fry, vy⟩
    rcases lap i n G vy with ⟨ends, qd⟩ | ⟨goes, Nxt, less, body⟩
    · refine thnF (T.done B rfl rfl rfl hcalm i [] y _ G (fun _ _ => False) Iy (still Iy fry) aty ends) fun r y1 ⟨er, I1⟩ => ?_
      subst er
      have Iend : Inv X pp σ G y1 := Ib.call' (ch := fp) I1.os I1.base I1.hok I1.bare fun b hb => let q := (fpb b hb).1; ⟨q.2.2.2.1, q.2.1, q.2.2.2.2.1, q.2.2.2.2.2⟩
      have fl : G zb.heap.objs.size = none := by
        have := I1.free
        rw [show B.env.locals = be.locals from rfl, hloc] at this
        exact this
      obtain ⟨m, hm, _⟩ := I1.loc
      rw [show B.env.locals = be.locals from rfl, hloc] at hm
      obtain ⟨k0, k1, _, k3, k4, k5⟩ := Ib.fpOk (Nat.le_refl _) fl
      exact ⟨m, hm, fun h2 sb => ⟨.ref d, G, Iend.turned (t' := y1.toks) (fun b o hb q => (sb.2 b hb).trans q) k0 k1 k3 k4 k5, rfl, qd⟩⟩
    · refine thnF (T.item B rfl rfl rfl hcalm i [] y _ G (fun _ _ => False) Iy (still Iy fry) aty goes) fun r y1 ⟨u, er, w3⟩ => ?_
      subst er
      refine thnF w3 fun _ y2 ⟨x, G2, I2, r2, yl, at2, fr2⟩ => ?_
      refine thnF (pg.run _ y2 _ G2 x u _ (I2.pinned (still I2 fr2) (T.obj _ _ at2)) r2 (body x G2 yl)) fun _ y3 ⟨τ, G3, I3, hw, w4⟩ => ?_
      refine thnF (pt.run _ y3 τ G3 _ I3 w4) fun b y4 ⟨G4, I4, w5⟩ => ?_
      have close : ∀ {ye : Shared} {Ge : Hp}, Inv B ([] ++ pinsAt fp y2.heap) τ Ge ye → Nxt Ge → ∃ m, m < n ∧ R0 m ye := fun {ye Ge} Ie nx => by
        obtain ⟨m, hm, vm⟩ := less Ge nx
        have fixed : ∀ b ∈ fp, ∀ o, y2.heap.get? b = some o → ye.heap.get? b = some o ∧ Ge b = none := fun b hb o q => by
          obtain ⟨p1, p2, _⟩ := Ie.pin (b, o) (List.mem_append_right _ (List.mem_append_right _ (mem_pinsAt hb q)))
          exact ⟨p1, p2⟩
        refine ⟨m, hm, i + 1, Ge, (Ie.unpinned (pins := [])).weak (by rw [← hw, wipe_length]) (fun j v e => ?_), T.keep _ _ _ at2 fun b hb o q => (fixed b hb o q).1, fun b hb => ?_, vm⟩
        · rw [← hw] at e
          exact (wipe_some e).1
        · obtain ⟨o, q, _⟩ := T.obj _ _ at2 b hb
          exact (fixed b hb o q).2
      cases b with
      | false =>
        rw [if_neg Bool.false_ne_true] at w5 ⊢
        exact close I4 w5
      | true =>
        rw [if_pos rfl] at w5 ⊢
        refine thnF (pk.run _ y4 τ G4 _ I4 w5) fun ku y5 ⟨kv, G5, I5, r5, w6⟩ => ?_
        refine thnF (pv.run _ y5 τ G5 _ I5 w6) fun vu y6 ⟨vv, G6, I6, r6, G7, w7, nx⟩ => ?_
        exact kd.set B rfl rfl rfl rfl _ y6 τ G6 G7 d kv vv ku vu _ _ I6 w7 r5 r6 fun y7 I7 => close I7 nx
  exact codeAny_compStart_dict whole (T.self X.A 0 _ _ _ atc whole)
end
end Cut
end
section
/-! CutTbl: dicts whose keys are tuples, made by comprehensions. -/
namespace Cut
open PySem PySem.Spec PyProof.Rows L2

section
variable {K : KW} {ι : List Addr} {F : Addr → Prop} {H : Hp} {P : Program} {w : World} {h : Heap} {a : Addr}
theorem sqT_seq (ok : HOk P w H h) (KX : K.K.In h) {xs : List V} (t : SqT K H a xs) : ∃ its : List Value, Vals xs its ∧ ∃ o, h.get? a = some o ∧ o.cls = .type "tuple" ∧ ∃ n, o.data = .seq its.toArray n := by
  rcases t with t | ⟨o, its, n, e, c, d, _, r⟩
  · obtain ⟨_, its, r, q⟩ := t.ok ok
    exact ⟨its, r, q⟩
  · exact ⟨its.toList, r, o, KX a o e, c, n, by rw [d]⟩
mutual
theorem Den.nested (ok : HOk P w H h) (KX : K.K.In h) : ∀ {v : V} {d : D} {k : NestedKey} {u : Value}, Den K ι F H v d → d.nk = some k → RelV v u → NestedIs h k u
  | _, _, _, _, .non, e, r => by cases e; cases r; exact .none
  | _, _, _, _, .bl b, e, r => by cases e; cases r; exact .bool rfl
  | _, _, _, _, .int i, e, r => by cases e; obtain ⟨t, rfl⟩ := r; exact .int i t
  | _, _, _, _, .str x, e, r => by cases e; obtain ⟨t, rfl⟩ := r; exact .text x t
  | _, _, k, _, @Den.tup _ _ _ _ _ _ ds t hs, e, r => by
    cases r
    rw [D.nk] at e
    obtain ⟨ks, h1, rfl⟩ := Option.map_eq_some_iff.mp e
    obtain ⟨its, rv, o, g1, g2, n, g3⟩ := sqT_seq ok KX t
    exact .tup g1 g2 g3 (by simpa using Dens.nesteds ok KX hs h1 rv)
  | _, _, _, _, .lst _ _, e, _ => by simp [D.nk] at e
  | _, _, _, _, .scr _ _, e, _ => by simp [D.nk] at e
  | _, _, _, _, .dct _ _ _, e, _ => by simp [D.nk] at e
  | _, _, _, _, .set _, e, _ => by simp [D.nk] at e
  | _, _, _, _, .tbl _ _ _ _, e, _ => by simp [D.nk] at e
  | _, _, _, _, .ob _, e, _ => by simp [D.nk] at e
theorem Dens.nesteds (ok : HOk P w H h) (KX : K.K.In h) : ∀ {vs : List V} {ds : List D} {ks : List NestedKey} {us : List Value}, Dens K ι F H vs ds → D.nks ds = some ks → Vals vs us → NestedAll h ks us
  | _, _, _, _, .nil, e, r => by cases r; rw [D.nks] at e; cases e; exact .nil
  | _, _, _, _, @Dens.cons _ _ _ _ _ _ d ds h1 h2, e, r => by
    rw [D.nks] at e
    obtain ⟨k, e1, e2⟩ := Option.bind_eq_some_iff.mp e
    obtain ⟨ks, e3, rfl⟩ := Option.map_eq_some_iff.mp e2
    cases r with
    | cons r1 r2 => exact .cons (Den.nested ok KX h1 e1 r1) (Dens.nesteds ok KX h2 e3 r2)
end
end
/-- the tuple at a is this key -/
def KeyAt (K : KW) (H : Hp) (a : Addr) (k : NestedKey) : Prop := ∀ h : Heap, HOk K.P K.w H h → K.K.In h → (nestedKind K.P K.w).is h k a
theorem Den.keyAt {K : KW} {ι : List Addr} {F : Addr → Prop} {H : Hp} {v : V} {d : D} {k : NestedKey} (hd : Den K ι F H v d) (e : keyT d = some k) : ∃ a, v = .ref a ∧ KeyAt K H a k := by
  cases d with
  | tup l =>
    unfold keyT at e
    obtain ⟨k', e1, e2⟩ := Option.bind_eq_some_iff.mp e
    split at e2
    · rename_i hdp
      cases e2
      have hd' := hd
      cases hd with
      | tup t hs => exact ⟨_, rfl, fun h ok KX => ⟨hd'.nested ok KX e1 rfl, hdp⟩⟩
    · cases e2
  | _ => simp [keyT] at e
abbrev TEs := List (NestedKey × Addr × V)
def TPair : (NestedKey × Addr × V) → (NestedKey × Addr × Value) → Prop := fun p q => p.1 = q.1 ∧ p.2.1 = q.2.1 ∧ RelV p.2.2 q.2.2
def putE (es : TEs) (k : NestedKey) (a : Addr) (v : V) : TEs := if es.any (fun e => decide (e.1 = k)) = true then es.map (fun e => if e.1 = k then (e.1, e.2.1, v) else e) else es ++ [(k, a, v)]
theorem tpair_any {k : NestedKey} : ∀ {es : TEs} {xs : List (NestedKey × Addr × Value)}, Paired TPair es xs → (es.any fun e => decide (e.1 = k)) = (atKey xs k).isSome
  | [], _, .nil => rfl
  | e :: es, _, .cons (b := x) r t => by
    have ih := tpair_any (k := k) t
    unfold atKey at ih ⊢
    rw [List.any_cons, ih, List.find?_cons, r.1]
    by_cases hk : x.1 = k <;> simp [hk]
theorem tpair_map {k : NestedKey} {v : V} {u : Value} (rv : RelV v u) : ∀ {es : TEs} {xs : List (NestedKey × Addr × Value)}, Paired TPair es xs → Paired TPair (es.map fun e => if e.1 = k then (e.1, e.2.1, v) else e) (xs.map (putAt k u))
  | [], _, .nil => .nil
  | e :: es, _, .cons (b := x) r t => by
    refine .cons ?_ (tpair_map rv t)
    unfold putAt
    obtain ⟨r1, r2, r3⟩ := r
    show TPair (if e.1 = k then (e.1, e.2.1, v) else e) _
    by_cases hk : x.1 = k
    · rw [if_pos hk, if_pos (r1.trans hk)]
      exact ⟨r1, r2, rv⟩
    · rw [if_neg hk, if_neg (fun z => hk (r1.symm.trans z))]
      exact ⟨r1, r2, r3⟩
theorem tpair_put {k : NestedKey} {a : Addr} {v : V} {u : Value} (rv : RelV v u) {es : TEs} {xs : List (NestedKey × Addr × Value)} (p : Paired TPair es xs) : Paired TPair (putE es k a v) (storedH xs k a u) := by
  unfold putE storedH
  rw [tpair_any p]
  split
  · exact tpair_map rv p
  · exact p.snoc ⟨rfl, rfl, rv⟩
theorem tpair_mem {es : TEs} {xs : List (NestedKey × Addr × Value)} (p : Paired TPair es xs) : ∀ x ∈ xs, ∃ e ∈ es, e.1 = x.1 ∧ e.2.1 = x.2.1 := by
  induction p with
  | nil => intro x hx; cases hx
  | cons r t ih =>
    intro x hx
    rcases List.mem_cons.mp hx with rfl | hx
    · exact ⟨_, List.mem_cons_self, r.1, r.2.1⟩
    · obtain ⟨e, he, q⟩ := ih x hx
      exact ⟨e, List.mem_cons_of_mem _ he, q⟩
theorem putE_len (es : TEs) (k : NestedKey) (a : Addr) (v : V) : (putE es k a v).length ≤ es.length + 1 := by
  unfold putE
  split <;> simp
theorem tbl_ok {K : KW} {a : Addr} {es : TEs} {h : Heap} {H : Hp} (T : TblAt K a es h) : ObjOk K.P K.w H h a (.ext (TblAt K a es)) :=
  ⟨T, let ⟨_, _, _, _, o, _, _, e, _⟩ := T; ⟨o, e⟩, fun h1 h2 t k => let ⟨y, l, xs, r, o, des, ep, e, c⟩ := t; ⟨y, l, xs, r, o, des, ep, k _ e, c⟩⟩
theorem tbl_dict {K : KW} {a : Addr} {es : TEs} {h : Heap} (T : TblAt K a es h) (ks : ∀ e ∈ es, (nestedKind K.P K.w).is h e.1 e.2.1) : ∃ xs, Paired TPair es xs ∧ h.DictOfH (nestedKind K.P K.w) a xs := by
  obtain ⟨_, _, xs, r, o, des, ep, e, c1, c2, c3, c4⟩ := T
  refine ⟨xs, r, o, des, ep, e, c1, c2, c3, fun x hx => ?_, c4⟩
  obtain ⟨q, hq, q1, q2⟩ := tpair_mem r x hx
  rw [← q1, ← q2]
  exact ks q hq
theorem dict_tbl {K : KW} {a : Addr} {es : TEs} {h : Heap} {xs : List (NestedKey × Addr × Value)} (hs : (a == sysModules) = false) (hl : es.length ≤ sizeLine) (p : Paired TPair es xs) (D0 : h.DictOfH (nestedKind K.P K.w) a xs) : TblAt K a es h := by
  obtain ⟨o, des, ep, e, c1, c2, c3, _, c4⟩ := D0
  exact ⟨hs, hl, xs, p, o, des, ep, e, c1, c2, c3, c4⟩
/-- dicts with tuple keys, as a kind -/
def tKind (X : Cx) (hu : X.A.units + 64 < cLine) : DKind X where
  z0 := fun d => .ext (TblAt X.kw d [])
  wr := fun y z d H H' => ∃ a es k, y = .ref a ∧ H d = some (.ext (TblAt X.kw d es)) ∧ KeyAt X.kw H a k ∧ (∀ e ∈ es, KeyAt X.kw H e.2.1 e.1) ∧ es.length < sizeLine ∧ H' = upd H d (.ext (TblAt X.kw d (putE es k a z)))
  fresh := fun h H hb => tbl_ok ⟨beq_eq_false_iff_ne.mpr (Ne.symm (Nat.ne_of_lt hb)), Nat.zero_le _, [], .nil, _, #[], 0, Heap.get?_push_size _ rfl, ⟨rfl, rfl, rfl⟩, rfl, rfl, List.nodup_nil⟩
  set := by
    intro Y e1 e2 e3 e4 pp s τ G G' d y z u r Q E I wr ry rz fin
    have ekw : X.kw = Y.kw := by
      show (⟨X.K, X.w, X.prog⟩ : KW) = ⟨Y.K, Y.w, Y.prog⟩
      rw [e1, e2, e3]
    rw [ekw] at wr
    obtain ⟨a, es, k, rfl, hd, hk, hks, hl, rfl⟩ := wr
    cases ry
    have T : TblAt Y.kw d es s.heap := (I.hok d _ hd).1
    have hok : HOk Y.kw.P Y.kw.w G s.heap := I.hok
    obtain ⟨xs, px, dx⟩ := tbl_dict T fun e he => hks e he _ hok I.kIn
    obtain ⟨ts, tl, _⟩ := id T
    refine wpAny_dictSet_heap (knd := nestedKind Y.prog Y.w) (show Y.A.units + 8 < cLine by rw [e4]; omega) (hk _ hok I.kIn) dx (fun h' d' sb => fin _ ?_) (by rw [← px.length]; exact tl)
    have he : ∃ q, h'.get? d = some q := let ⟨q, _, _, hq, _⟩ := d'; ⟨q, hq⟩
    refine d_write I (by rw [hd]; exact True.intro) sb he (tbl_ok (K := Y.kw) (dict_tbl ts ?_ (tpair_put rz px) d'))
    have := putE_len es k a z
    omega
/-! ### the dict as data -/
def tblVs (k : NestedKey) (v : D) : List D → List D → List D
  | d :: ks, w :: vs => (if keyT d = some k then v else w) :: tblVs k v ks vs
  | _, _ => []
def tblPut (k : NestedKey) (kd v : D) (ks vs : List D) : List D × List D := if ks.any (fun d => decide (keyT d = some k)) = true then (ks, tblVs k v ks vs) else (ks ++ [kd], vs ++ [v])
def tblOf : List D → List D → List D → Option (List D × List D)
  | [], ks, vs => some (ks, vs)
  | .tup [k, v] :: ps, ks, vs => match keyT k with
    | some key => if ks.length < sizeLine then tblOf ps (tblPut key k v ks vs).1 (tblPut key k v ks vs).2 else none
    | none => none
  | _ :: _, _, _ => none
section
variable {K : KW} {ι : List Addr} {F : Addr → Prop} {H : Hp}
theorem keysT_any {k : NestedKey} : ∀ {es : TEs} {ks : List D}, keysT ks = some (es.map (·.1)) → (ks.any fun d => decide (keyT d = some k)) = es.any fun e => decide (e.1 = k)
  | [], [], _ => rfl
  | _ :: _, [], e => by rw [keysT] at e; cases e
  | es, d :: ks, e => by
    rw [keysT] at e
    obtain ⟨k1, h1, h2⟩ := Option.bind_eq_some_iff.mp e
    obtain ⟨kk, h3, h4⟩ := Option.map_eq_some_iff.mp h2
    cases es with
    | nil => cases h4
    | cons q es =>
      rw [List.map_cons] at h4
      cases h4
      rw [List.any_cons, List.any_cons, keysT_any h3, h1]
      simp
theorem keysT_len : ∀ {ks : List D} {l : List NestedKey}, keysT ks = some l → ks.length = l.length
  | [], _, e => by rw [keysT] at e; cases e; rfl
  | d :: ks, _, e => by
    rw [keysT] at e
    obtain ⟨k1, h1, h2⟩ := Option.bind_eq_some_iff.mp e
    obtain ⟨kk, h3, rfl⟩ := Option.map_eq_some_iff.mp h2
    rw [List.length_cons, List.length_cons, keysT_len h3]
theorem keysT_app {d : D} {k : NestedKey} (hd : keyT d = some k) : ∀ {ks : List D} {l : List NestedKey}, keysT ks = some l → keysT (ks ++ [d]) = some (l ++ [k])
  | [], _, e => by rw [keysT] at e; cases e; simp [keysT, hd]
  | x :: ks, _, e => by
    rw [keysT] at e
    obtain ⟨k1, h1, h2⟩ := Option.bind_eq_some_iff.mp e
    obtain ⟨kk, h3, rfl⟩ := Option.map_eq_some_iff.mp h2
    rw [List.cons_append, keysT, h1, keysT_app hd h3]
    rfl
theorem tblVs_den {k : NestedKey} {v : V} {vd : D} (hv : Den K ι F H v vd) : ∀ {es : TEs} {ks vs : List D}, keysT ks = some (es.map (·.1)) → Dens K ι F H (es.map (·.2.2)) vs → Dens K ι F H ((es.map fun e => if e.1 = k then (e.1, e.2.1, v) else e).map (·.2.2)) (tblVs k vd ks vs)
  | [], [], _, _, h2 => by cases h2; exact .nil
  | _ :: _, [], _, e, _ => by rw [keysT] at e; cases e
  | [], d :: ks, _, e, h2 => by
    have := keysT_len e
    simp at this
  | q :: es, d :: ks, _, e, h2 => by
    rw [keysT] at e
    obtain ⟨k1, h1, h2'⟩ := Option.bind_eq_some_iff.mp e
    obtain ⟨kk, h3, h4⟩ := Option.map_eq_some_iff.mp h2'
    rw [List.map_cons] at h4
    cases h4
    have h2 : Dens K ι F H (q.2.2 :: es.map (·.2.2)) _ := h2
    cases h2 with
    | cons a b =>
      have ih := tblVs_den hv (k := k) h3 b
      rw [tblVs, h1]
      simp only [List.map_cons]
      by_cases hk : q.1 = k
      · rw [if_pos hk, if_pos (by rw [hk])]
        exact .cons hv ih
      · rw [if_neg hk, if_neg (fun z => hk (Option.some.inj z))]
        exact .cons a ih
theorem putE_den {k : NestedKey} {a : Addr} {v : V} {kd vd : D} (hk : keyT kd = some k) (hkd : Den K ι F H (.ref a) kd) (hv : Den K ι F H v vd) {es : TEs} {ks vs : List D} (e : keysT ks = some (es.map (·.1))) (h1 : Dens K ι F H (es.map fun e => V.ref e.2.1) ks) (h2 : Dens K ι F H (es.map (·.2.2)) vs) :
    keysT (tblPut k kd vd ks vs).1 = some ((putE es k a v).map (·.1)) ∧ Dens K ι F H ((putE es k a v).map fun e => V.ref e.2.1) (tblPut k kd vd ks vs).1 ∧ Dens K ι F H ((putE es k a v).map (·.2.2)) (tblPut k kd vd ks vs).2 := by
  unfold tblPut putE
  rw [keysT_any e]
  split
  · have m1 : (es.map fun e => if e.1 = k then (e.1, e.2.1, v) else e).map (·.1) = es.map (·.1) := by
      rw [List.map_map]
      refine List.map_congr_left fun x _ => ?_
      simp only [Function.comp]
      split <;> rfl
    have m2 : (es.map fun e => if e.1 = k then (e.1, e.2.1, v) else e).map (fun e => V.ref e.2.1) = es.map fun e => V.ref e.2.1 := by
      rw [List.map_map]
      refine List.map_congr_left fun x _ => ?_
      simp only [Function.comp]
      split <;> rfl
    exact ⟨by rw [m1]; exact e, by rw [m2]; exact h1, tblVs_den hv e h2⟩
  · refine ⟨by rw [List.map_append]; exact keysT_app hk e, by rw [List.map_append]; exact h1.append (.cons hkd .nil), by rw [List.map_append]; exact h2.append (.cons hv .nil)⟩
theorem keys_at : ∀ {es : TEs} {ks : List D}, keysT ks = some (es.map (·.1)) → Dens K ι F H (es.map fun e => V.ref e.2.1) ks → ∀ e ∈ es, KeyAt K H e.2.1 e.1
  | [], _, _, _ => fun e he => by cases he
  | _ :: _, [], e, _ => by rw [keysT] at e; cases e
  | q :: es, d :: ks, e, h => by
    rw [keysT] at e
    obtain ⟨k1, h1, h2⟩ := Option.bind_eq_some_iff.mp e
    obtain ⟨kk, h3, h4⟩ := Option.map_eq_some_iff.mp h2
    rw [List.map_cons] at h4
    cases h4
    have h : Dens K ι F H (.ref q.2.1 :: es.map fun e => V.ref e.2.1) _ := h
    cases h with
    | cons a b =>
      intro x hx
      rcases List.mem_cons.mp hx with rfl | hx
      · obtain ⟨b1, hb, ka⟩ := a.keyAt h1
        cases hb
        exact ka
      · exact keys_at h3 b x hx
end
def ePair (fk fv : EM) : EM := fun s => (fk s).bind fun k s1 => (fv s1).bind fun v s2 => .ok (.tup [k, v]) s2
def eTblC (own : List Nat) (src : IM) (g : Tg) (tt : TM) (fk fv : EM) : EM := fun s => (src s).bind fun items s1 => match lcGo (lcTurn g tt (lcElt (ePair fk fv)) (wipeD s1.sl own)) items s1.ob with
  | some (ps, ob) => (match tblOf ps [] [] with
    | some (ks, vs) => .ok (.tbl ks vs) { s1 with ob := ob }
    | none => .bad)
  | none => .bad
end Cut
end
section
/-! CutIdx: l.index(x), ints or texts. -/
namespace Cut
open PySem PySem.Spec PyProof.Rows L2
def strsI : List D → Option (List Str)
  | [] => some []
  | .str x :: l => (strsI l).map (x :: ·)
  | _ :: _ => none
def indexM : ME := fun o ds ob => match look ob o, ds with
  | .lst l, [.int k] => match intsD l with
    | some ns => (ns.findIdx? (· == k)).map fun j => (.val (.int j), ob)
    | none => none
  | .lst l, [.str k] => match strsI l with
    | some ns => (ns.findIdx? (· == k)).map fun j => (.val (.int j), ob)
    | none => none
  | _, _ => none
theorem dens_strsI {K : KW} {ι : List Addr} {F : Addr → Prop} {H : Hp} : ∀ {l : List D} {xs : List V} {ns : List Str}, Dens K ι F H xs l → strsI l = some ns → xs = ns.map V.str
  | [], _, _, h, e => by cases e; cases h; rfl
  | .str i :: l, _, ns, h, e => by
    unfold strsI at e
    cases e1 : strsI l with
    | none => rw [e1] at e; cases e
    | some ms =>
      rw [e1] at e; cases e
      cases h with | cons h1 h2 => cases h1; rw [dens_strsI h2 e1]; rfl
  | .non :: _, _, _, _, e => by cases e
  | .bl _ :: _, _, _, _, e => by cases e
  | .int _ :: _, _, _, _, e => by cases e
  | .tup _ :: _, _, _, _, e => by cases e
  | .lst _ :: _, _, _, _, e => by cases e
  | .scr _ :: _, _, _, _, e => by cases e
  | .dct _ _ :: _, _, _, _, e => by cases e
  | .set _ :: _, _, _, _, e => by cases e
  | .tbl _ _ :: _, _, _, _, e => by cases e
  | .ob _ :: _, _, _, _, e => by cases e
theorem flat_all {α : Type} {f : α → V} (h : ∀ a, flatV (f a) = true) (l : List α) : (l.map f).all flatV = true := by
  rw [List.all_eq_true]
  intro x hx
  obtain ⟨a, _, rfl⟩ := List.mem_map.mp hx
  exact h a
theorem meth_index {X : Cx} : MethOK X "list.index" indexM := by
  intro pins s σ H x xs v us Q ι F ob d ds r ob' I rx rxs ro hx hxs hm q
  have hd := hx.look ro
  unfold indexM at hm
  generalize look ob d = dd at hm hd
  split at hm
  · rename_i l k
    obtain ⟨a, ys, rfl, ha, da⟩ := hd
    split at hm
    · rename_i ns hns
      have e2 := dens_ints da hns
      subst e2
      cases hf : ns.findIdx? (· == k) with
      | none => rw [hf] at hm; cases hm
      | some j =>
        rw [hf] at hm
        cases hm
        obtain ⟨hj, pj, hno⟩ := List.findIdx?_eq_some_iff_getElem.mp hf
        cases hxs with
        | cons hk hn =>
          cases hn
          cases hk
          refine mt_index pins s σ H _ _ v us Q I rx rxs ⟨a, ns.map V.int, .int k, j, .int ns[j], rfl, rfl, .inl (.inl ha), rfl, flat_all (fun _ => rfl) ns, by simp [hj], pj, fun m z' hmj hz => ?_, q ι F H _ Ext.refl ro (.int _)⟩
          rw [List.getElem?_map] at hz
          have hml : m < ns.length := by omega
          rw [List.getElem?_eq_getElem hml] at hz
          cases hz
          have := hno m hmj
          exact Bool.eq_false_iff.mpr this
    · cases hm
  · rename_i l k
    obtain ⟨a, ys, rfl, ha, da⟩ := hd
    split at hm
    · rename_i ns hns
      have e2 := dens_strsI da hns
      subst e2
      cases hf : ns.findIdx? (· == k) with
      | none => rw [hf] at hm; cases hm
      | some j =>
        rw [hf] at hm
        cases hm
        obtain ⟨hj, pj, hno⟩ := List.findIdx?_eq_some_iff_getElem.mp hf
        cases hxs with
        | cons hk hn =>
          cases hn
          cases hk
          refine mt_index pins s σ H _ _ v us Q I rx rxs ⟨a, ns.map V.str, .str k, j, .str ns[j], rfl, rfl, .inl (.inl ha), rfl, flat_all (fun _ => rfl) ns, by simp [hj], pj, fun m z' hmj hz => ?_, q ι F H _ Ext.refl ro (.int _)⟩
          rw [List.getElem?_map] at hz
          have hml : m < ns.length := by omega
          rw [List.getElem?_eq_getElem hml] at hz
          cases hz
          have := hno m hmj
          exact Bool.eq_false_iff.mpr this
    · cases hm
  · cases hm
theorem m_index {c : SI} {o e : Expr} {es : List Expr} {fo : EM} {as : AM} {apos cpos : Pos} (h : meC o (e :: es) apos cpos = true) (ho : DE c o fo) (ha : DA c (e :: es) as) : DR c (.Call (.Attribute o "index" apos) (e :: es) [] cpos) (rMeth "list" indexM fo as) := by
  unfold meC at h
  simp only [Bool.and_eq_true] at h
  exact dr_meth PySem.F.plainAttrs_list PySem.F.slot_list_index PySem.F.type_list_index (fun _ _ => meth_index) ho ha h.1.1.1 h.1.1.2 h.1.2 h.2
end Cut
end
section
/-! CutSortKey: sorted of a list by a key that a def of the program reckons. -/
namespace Cut
open PySem PySem.Spec PyProof.Rows L2
open PySem.W (sortingHeap sortingHeap_old copyHeap copyHeap_at copyHeap_old alike alikeAll AllAlike EachIs KeyedOut dataLe KeepsBut dataKind SortsAt)

/-! ### what a key's call leaves of the heap: all but the callers' slots -/
def KFx (fs : List Addr) (h h' : Heap) : Prop := ∀ b o, h.get? b = some o → (b ∉ fs → h'.get? b = some o) ∧ ∃ sl, h'.get? b = some { o with slots := sl }
def KF (fs : List Addr) (a : Addr) (h h' : Heap) : Prop := ∀ b o, b ≠ a → h.get? b = some o → (b ∉ fs → h'.get? b = some o) ∧ ∃ sl, h'.get? b = some { o with slots := sl }
theorem KF.thenX {fs : List Addr} {a : Addr} {h h1 h2 : Heap} (x : KF fs a h h1) (y : KFx fs h1 h2) : KF fs a h h2 := fun b o hb e => by
  obtain ⟨x1, sl, x2⟩ := x b o hb e
  obtain ⟨_, sl2, y2⟩ := y b _ x2
  exact ⟨fun n => (y b o (x1 n)).1 n, sl2, y2⟩
theorem KF.but {fs : List Addr} {a c : Addr} {h h1 h2 : Heap} (x : KF fs a h h1) (y : ∀ b o, b ≠ c → h1.get? b = some o → h2.get? b = some o) (hc : c = a ∨ h.get? c = none) : KF fs a h h2 := fun b o hb e => by
  have hbc : b ≠ c := fun z => by
    subst z
    rcases hc with z | z
    · exact hb z
    · rw [z] at e; cases e
  obtain ⟨x1, sl, x2⟩ := x b o hb e
  exact ⟨fun n => y b o hbc (x1 n), sl, y b _ hbc x2⟩
mutual
theorem reads_kf {h h' : Heap} (k : ∀ b o, h.get? b = some o → ∃ sl, h'.get? b = some { o with slots := sl }) : ∀ {v : Value} {d : PyData} {as : List Addr}, Reads h v d as → Reads h' v d as
  | _, _, _, .none => .none
  | _, _, _, .bool b => .bool b
  | _, _, _, .int i t => .int i t
  | _, _, _, .str x t => .str x t
  | _, _, _, .list e1 e2 e3 r => by
    obtain ⟨sl, q⟩ := k _ _ e1
    exact .list q e2 e3 (readsAll_kf k r)
  | _, _, _, .tuple e1 e2 e3 r => by
    obtain ⟨sl, q⟩ := k _ _ e1
    exact .tuple q e2 e3 (readsAll_kf k r)
  | _, _, _, .dict e1 e2 e3 r1 r2 => by
    obtain ⟨sl, q⟩ := k _ _ e1
    exact .dict q e2 e3 (readsAll_kf k r1) (readsAll_kf k r2)
theorem readsAll_kf {h h' : Heap} (k : ∀ b o, h.get? b = some o → ∃ sl, h'.get? b = some { o with slots := sl }) : ∀ {v : List Value} {d : List PyData} {as : List Addr}, ReadsAll h v d as → ReadsAll h' v d as
  | _, _, _, .nil => .nil
  | _, _, _, .cons r1 r2 => .cons (reads_kf k r1) (readsAll_kf k r2)
end
/-- what is wanted of a key's call -/
def KeyG (fs : List Addr) (k : PyData) (s1 : Shared) (v : Value) (s2 : Shared) : Prop := s2.os = s1.os ∧ AllBare s2.gens ∧ KFx fs s1.heap s2.heap ∧ Reads s2.heap v k []
section
variable {prog : Program} {w : World} {A : Around} {E : Value → Shared → Prop} {s : Shared} {a kS : Addr} {vs : List Value} {e1 : Nat} {P : PySem.Fin → Shared → Prop} {kz : List PyData} {fs : List Addr} {f : Value}
theorem keyG_rest {h1 : Heap} (kp : KF fs a h1 s.heap) (hkS : h1.get? kS = none) (nk : s.heap.get? kS = some (seqObj "list" #[] 0)) (na : s.heap.get? a = some (seqObj "list" #[] e1)) (hka : kS ≠ a) (hfk : kS ∉ fs) (hfa : a ∉ fs)
    (hlen : kz.length = vs.length) (hZ : vs.length ≤ sizeLine) (hal : AllAlike kz) (hsk : PySem.W.Sortable kz) (hu : ∀ d, d ∈ kz → A.units + d.depth < cLine) (hb : AllBare s.gens)
    (turn : ∀ (i : Nat) (v : Value) (k : PyData), vs[i]? = some v → kz[i]? = some k → ∀ s' : Shared, s'.os = s.os → AllBare s'.gens → KF fs a h1 s'.heap → wpAny (model prog w) A (call f [v]) (KeyG fs k s') (fun _ _ => False) s')
    (h : ∀ (s' : Shared) out c, s'.os = s.os → AllBare s'.gens → KF fs a h1 s'.heap → s'.heap.get? a = some (seqObj "list" (List.toArray out) c) → KeyedOut false kz vs out → P (.done (.ret .none)) s') :
    wpAny (model prog w) A (PyProof.Rows.ksk_rest a f false vs.toArray e1 (.ref kS)) P E s := by
  unfold PyProof.Rows.ksk_rest
  refine wpAny_bind (wpAny_rule ?_)
  first
    | rw [List.forIn_toArray]
    | (rw [← Array.forIn_toList]; simp only [List.toList_toArray])
    | rw [← Array.forIn_toList]
  let I : Nat → Shared → Prop := fun i s' => ∃ kA e, s'.os = s.os ∧ AllBare s'.gens ∧ KF fs a h1 s'.heap ∧ s'.heap.get? kS = some (seqObj "list" kA e) ∧ s'.heap.get? a = some (seqObj "list" #[] e1) ∧
    EachIs (fun v k => Reads s'.heap v k [] ∧ alike k k = true) kA.toList (kz.take i)
  refine wpAny_bind (PyProof.Rows.ksk_fold I vs 0 s ⟨#[], 0, rfl, hb, kp, nk, na, by rw [List.take_zero]; exact .nil⟩ ?step ?done)
  case step =>
    rintro j x s' hx ⟨kA, e, ho, hbr, kp', nk', na', hk⟩
    simp only [Nat.zero_add] at hk ⊢
    have hj : j < vs.length := (List.getElem?_eq_some_iff.mp hx).1
    have hkj : kz[j]? = some (kz[j]'(by omega)) := List.getElem?_eq_getElem (by omega)
    generalize kz[j]'(by omega) = k at hkj
    have hkm := List.mem_of_getElem? hkj
    have hkk : alike k k = true := hal k hkm k hkm
    have hz : kA.size ≤ vs.length := by
      have q := hk.length
      rw [List.length_take] at q
      rw [← Array.length_toList]
      omega
    refine wpAny_bind (wpAny_attempt (wpAny_mono (turn j x k hx hkj s' ho hbr kp') (fun v s2 hv => ?_) fun _ _ hF => hF.elim))
    obtain ⟨ho2, hb2, kx, hr⟩ := hv
    try dsimp only
    have nk2 : s2.heap.get? kS = some (seqObj "list" kA e) := (kx _ _ nk').1 hfk
    have na2 : s2.heap.get? a = some (seqObj "list" #[] e1) := (kx _ _ na').1 hfa
    have up := Heap.SameBut.update s2.heap kS (Obj.mapSeq (·.push v))
    obtain ⟨c2, hc2⟩ : ∃ c2, (s2.heap.update kS (Obj.mapSeq (·.push v))).get? kS = some (seqObj "list" (kA.push v) c2) := ⟨_, get?_update_seq nk2 (·.push v)⟩
    have ek : kz.take (j + 1) = kz.take j ++ [k] := by rw [List.take_add_one, hkj]; rfl
    have ea : (kA.push v).toList = kA.toList ++ [v] := by simp
    have oth : ∀ b o, b ≠ kS → s2.heap.get? b = some o → (s2.heap.update kS (Obj.mapSeq (·.push v))).get? b = some o := fun b o hbk q => (up.2 b hbk).trans q
    refine wpAny_bind (listUpdate_at nk2 rfl ?_ (Nat.le_trans hz hZ) (by rw [Array.size_push]; omega))
    have stays : ∀ (u : Value) (d : PyData), Reads s2.heap u d [] ∧ alike d d = true → Reads (s2.heap.update kS (Obj.mapSeq (·.push v))) u d [] ∧ alike d d = true := fun u d q =>
      ⟨PySem.W.Reads.keepBut (a := kS) oth (fun o q2 => by rw [nk2] at q2; cases q2; rfl) d u [] q.2 q.1 (by simp), q.2⟩
    refine wpAny_pure ⟨rfl, kA.push v, c2, ho2.trans ho, hb2, (kp'.thenX kx).but oth (.inr hkS), hc2, oth a _ (Ne.symm hka) na2, ?_⟩
    rw [ea, ek]
    refine PySem.W.each_snoc (R := fun (u : Value) (d : PyData) => Reads (s2.heap.update kS (Obj.mapSeq (·.push v))) u d [] ∧ alike d d = true) (stays v k ⟨hr, hkk⟩) ?_
    exact hk.mono fun u d q => stays u d ⟨reads_kf (fun b o z => (kx b o z).2) q.1, q.2⟩
  case done =>
    rintro s' ⟨kA, e, ho, hbr, kp', nk', na', hk⟩
    have hk2 : EachIs (fun v k => ∃ as, Reads s'.heap v k as) kA.toList kz := by
      have e3 : kz.take (0 + vs.length) = kz := List.take_of_length_le (by omega)
      rw [e3] at hk
      exact hk.mono fun v k q => ⟨[], q.1⟩
    have hsz : kA.size = vs.length := by
      have q := hk2.length
      rw [← Array.length_toList]
      omega
    try dsimp only
    refine wpAny_bind (listItems_at nk' rfl ?_)
    have hid : KeepsBut a (PySem.W.hideAll s'.heap [kS]) s'.heap := fun b o _ q => PySem.W.of_hideAll [kS] q
    refine PySem.W.keyH_end (κ := dataKind s'.heap kz) hid (PySem.W.hideAll_none [kS] (by simp)) nk' na' hka (SortsAt.data (s := s') hk2 hal hsk hu) hsz hZ fun h3 tk3 c k3 n3 => ?_
    refine h _ _ c ho hbr ?_ n3 ⟨s'.heap, kA.toList, hal, rfl, hk2⟩
    intro b o hba q
    have hbk : b ≠ kS := fun z => by rw [z, hkS] at q; cases q
    obtain ⟨x1, sl, x2⟩ := kp' b o hba q
    exact ⟨fun n => k3 b o hba (PySem.W.hideAll_get [kS] (x1 n) (by simpa using hbk)), sl, k3 b _ hba (PySem.W.hideAll_get [kS] x2 (by simpa using hbk))⟩
theorem keyG_tree {n : Nat} (ho : s.heap.get? a = some (seqObj "list" vs.toArray n)) (hfs : ∀ b, s.heap.objs.size ≤ b → b ∉ fs) (hfa : a ∉ fs) (hlen : kz.length = vs.length) (hZ : vs.length ≤ sizeLine) (hal : AllAlike kz) (hsk : PySem.W.Sortable kz) (hu : ∀ d, d ∈ kz → A.units + d.depth < cLine)
    (hb : AllBare s.gens)
    (turn : ∀ (i : Nat) (v : Value) (k : PyData), vs[i]? = some v → kz[i]? = some k → ∀ s' : Shared, s'.os = s.os → AllBare s'.gens → KF fs a s.heap s'.heap → wpAny (model prog w) A (call f [v]) (KeyG fs k s') (fun _ _ => False) s')
    (h : ∀ (s' : Shared) out c, s'.os = s.os → AllBare s'.gens → KF fs a s.heap s'.heap → s'.heap.get? a = some (seqObj "list" (List.toArray out) c) → KeyedOut false kz vs out → P (.done (.ret .none)) s') :
    wpAny (model prog w) A (PyProof.Rows.ksk_tree a f false) P E s := by
  have ha : a < s.heap.objs.size := Heap.lt_size ho
  obtain ⟨e1, ho1⟩ : ∃ e1, (s.heap.update a (Obj.mapSeq fun _ => (#[] : Array Value))).get? a = some (seqObj "list" #[] e1) := ⟨_, get?_update_seq ho fun _ => #[]⟩
  have hkS : ((s.heap.update a (Obj.mapSeq fun _ => (#[] : Array Value))).push (seqObj "tuple" vs.toArray 0)).objs.size = s.heap.objs.size + 1 := by rw [size_push', Heap.size_update]
  unfold PyProof.Rows.ksk_tree
  refine wpAny_bind (listItems_at ho rfl ?_)
  refine wpAny_bind (listUpdate_at ho rfl ?_ (by rw [List.size_toArray]; omega) (by simp))
  refine wpAny_bind (seqEpoch_at ho1 rfl ?_)
  refine wpAny_bind (wpAny_newTuple ?_ (by show vs.length ≤ _; omega))
  refine wpAny_bind (wpAny_newList ?_ (by simp))
  refine wpAny_holding ?_
  have kp : KF fs a s.heap (sortingHeap s.heap a vs) := fun b o hb q => ⟨fun _ => sortingHeap_old hb q, o.slots, sortingHeap_old hb q⟩
  refine keyG_rest (kz := kz) (h1 := s.heap) (s := { s with heap := sortingHeap s.heap a vs }) (kS := ((s.heap.update a (Obj.mapSeq fun _ => (#[] : Array Value))).push (seqObj "tuple" vs.toArray 0)).objs.size)
    kp (Heap.get?_none_of_le (by rw [hkS]; exact Nat.le_succ _)) (Heap.get?_push_size _ rfl) (Heap.get?_push_of_some _ (Heap.get?_push_of_some _ ho1)) (by rw [hkS]; exact Nat.ne_of_gt (Nat.lt_succ_of_lt ha)) (hfs _ (by rw [hkS]; exact Nat.le_succ _)) hfa hlen hZ hal hsk hu hb turn h
theorem keyG_turns {β : Type} {R : Value → β → Prop} {bs : List β} {k : β → PyData} {T : Value → PyData → Prop} (e : EachIs R vs bs) (t : ∀ v x, R v x → x ∈ bs → T v (k x)) : ∀ (i : Nat) (v : Value) (d : PyData), vs[i]? = some v → (bs.map k)[i]? = some d → T v d := by
  intro i v d hv hd
  rw [List.getElem?_map] at hd
  cases q : bs[i]? with
  | none => rw [q] at hd; cases hd
  | some x =>
    rw [q] at hd
    cases hd
    have hz : (v, x) ∈ vs.zip bs := List.mem_of_getElem? (i := i) (by rw [List.getElem?_zip_eq_some]; exact ⟨hv, q⟩)
    exact t v x (e.zip _ hz) (List.mem_of_getElem? q)
theorem sorted_keyG {β : Type} {R : Value → β → Prop} {bs : List β} {l : Addr} {kw : List (Str × Value)} {Q : Value → Shared → Prop} (k : β → PyData) (hl : s.heap.IsList l vs.toArray) (e : EachIs R vs bs) (hal : AllAlike (bs.map k)) (hk : PySem.W.Sortable (bs.map k)) (hL : bs.length ≤ sizeLine)
    (hu : ∀ x, x ∈ bs → A.units + 2 + (k x).depth < cLine) (hfs : ∀ b, s.heap.objs.size ≤ b → b ∉ fs) (hb : AllBare s.gens) (ha1 : PySem.argsOk "sorted" ⟨[.ref l], kw⟩) (ha2 : ∀ x, PySem.argsOk "list.sort" ⟨[.ref x], kw⟩) (ht : ∀ x, Builtin.«list.sort» ⟨[.ref x], kw⟩ = PyProof.Rows.ksk_tree x f false)
    (turn : ∀ (v : Value) (x : β), R v x → x ∈ bs → ∀ s' : Shared, s'.os = s.os → AllBare s'.gens → KFx fs s.heap s'.heap → wpAny (model prog w) A.in1.in1 (call f [v]) (KeyG fs (k x) s') (fun _ _ => False) s')
    (h : ∀ (s' : Shared) out c a, s'.os = s.os → AllBare s'.gens → KFx fs s.heap s'.heap → s.heap.objs.size ≤ a → s'.heap.get? a = some (seqObj "list" (List.toArray out) c) → out.length = bs.length → EachIs R out (bs.mergeSort (dataLe false k)) → Q (.ref a) s') :
    wpAny (model prog w) A (call (.builtin "sorted") [.ref l] kw) Q E s := by
  have up : ∀ {g : Heap}, KF fs (s.heap.objs.size + 1) (copyHeap s.heap vs) g → KFx fs s.heap g := fun {g} kp b o q => kp b o (Nat.ne_of_lt (Nat.lt_succ_of_lt (Heap.lt_size q))) (copyHeap_old q)
  have csz : s.heap.objs.size ≤ (copyHeap s.heap vs).objs.size := by
    exact Nat.le_of_lt (Nat.lt_of_succ_lt (Heap.lt_size (copyHeap_at s.heap vs)))
  refine PySem.W.sorted_of_sort hl (by rw [e.length]; exact hL) ha1 ha2 fun E' => ?_
  rw [ht]
  have hu2 : ∀ d, d ∈ bs.map k → A.in1.in1.units + d.depth < cLine := fun d hd => by
    obtain ⟨x, hx, rfl⟩ := List.mem_map.mp hd
    have := hu x hx
    show A.units + 1 + 1 + _ < _
    omega
  refine keyG_tree (kz := bs.map k) (fs := fs) (s := { s with heap := copyHeap s.heap vs }) (copyHeap_at s.heap vs) (fun b q => hfs b (Nat.le_trans csz q)) (hfs _ (Nat.le_succ _)) (by rw [List.length_map]; exact e.length.symm) (by rw [e.length]; exact hL) hal hk hu2 hb
    (keyG_turns (T := fun v d => ∀ s' : Shared, s'.os = s.os → AllBare s'.gens → KF fs (s.heap.objs.size + 1) (copyHeap s.heap vs) s'.heap → wpAny (model prog w) A.in1.in1 (call f [v]) (KeyG fs d s') (fun _ _ => False) s') e
      fun v x hR hx s' ho hbr kp => turn v x hR hx s' ho hbr (up kp)) fun s' out c ho hbr kp hD ko => ⟨rfl, ?_⟩
  exact h s' out c _ ho hbr (up kp) (Nat.le_succ _) hD ((ko.length (by rw [List.length_map]; exact e.length.symm)).trans e.length) (PySem.W.keyedOut_each k ko e)
end
end Cut
end
section
/-! CutSortKey2: sorted(xs, key=own def) in the layer. -/
namespace Cut
open PySem PySem.Spec PyProof.Rows L2
open PySem.W (sortingHeap sortingHeap_old copyHeap copyHeap_at copyHeap_old alike alikeAll AllAlike EachIs dataLe)

mutual
def D.flat : D → Bool
  | .non => true
  | .bl _ => true
  | .int _ => true
  | .str _ => true
  | .tup l => D.flats l
  | _ => false
def D.flats : List D → Bool
  | [] => true
  | d :: l => d.flat && D.flats l
end
/-- the tuples alone, as they stand -/
def frzH (H : Hp) (h : Heap) : Hp := fun a => match H a with
  | some (.tup xs) => (h.get? a).map fun o => .frz o (.tup xs)
  | some (.frz o (.tup xs)) => some (.frz o (.tup xs))
  | _ => none
section
variable {K : KW} {ι : List Addr} {F : Addr → Prop} {H : Hp} {P : Program} {w : World} {h g : Heap} {a : Addr}
theorem frzH_none (e : H a = none) : frzH H h a = none := by unfold frzH; rw [e]
theorem frzH_some {u : HO} (e : frzH H h a = some u) (ok : HOk P w H h) : ∃ o xs, u = .frz o (.tup xs) ∧ h.get? a = some o ∧ ObjOk P w H h a (.tup xs) ∧ H a ≠ none := by
  unfold frzH at e
  split at e
  · rename_i xs hx
    cases q : h.get? a with
    | none => rw [q] at e; cases e
    | some o => rw [q] at e; cases e; exact ⟨o, xs, rfl, rfl, ok a _ hx, by rw [hx]; simp⟩
  · rename_i o xs hx
    cases e
    obtain ⟨e1, e2⟩ := ok a _ hx
    exact ⟨o, xs, rfl, e1, e2, by rw [hx]; simp⟩
  · cases e
theorem sqT_frz (ok : HOk P w H h) {xs : List V} (t : SqT K H a xs) : SqT K (frzH H h) a xs := by
  rcases t with (t | ⟨o, t⟩) | t
  · obtain ⟨_, its, _, n⟩ := ok a _ t
    obtain ⟨o, e, _⟩ := n
    refine .inl (.inr ⟨o, ?_⟩)
    unfold frzH; rw [t]; simp [e]
  · refine .inl (.inr ⟨o, ?_⟩)
    unfold frzH; rw [t]
  · exact .inr t
mutual
theorem Den.frzD (ok : HOk P w H h) : ∀ {v : V} {d : D}, Den K ι F H v d → d.flat = true → Den K [] (fun _ => False) (frzH H h) v d
  | _, _, .non, _ => .non
  | _, _, .bl b, _ => .bl b
  | _, _, .int i, _ => .int i
  | _, _, .str x, _ => .str x
  | _, _, .tup t hs, f => .tup (sqT_frz ok t) (Dens.frzD ok hs f)
  | _, _, .lst _ _, f => by cases f
  | _, _, .scr _ _, f => by cases f
  | _, _, .dct _ _ _, f => by cases f
  | _, _, .set _, f => by cases f
  | _, _, .tbl _ _ _ _, f => by cases f
  | _, _, .ob _, f => by cases f
theorem Dens.frzD (ok : HOk P w H h) : ∀ {vs : List V} {ds : List D}, Dens K ι F H vs ds → D.flats ds = true → Dens K [] (fun _ => False) (frzH H h) vs ds
  | _, _, .nil, _ => .nil
  | _, _, .cons h1 h2, f => by
    have f : (D.flat _ && D.flats _) = true := f
    rw [Bool.and_eq_true] at f
    exact .cons (Den.frzD ok h1 f.1) (Dens.frzD ok h2 f.2)
end
theorem hok_frz (ok : HOk P w H h) (k : ∀ b o, H b ≠ none → h.get? b = some o → g.get? b = some o) : HOk P w (frzH H h) g := fun b u e => by
  obtain ⟨o, xs, rfl, e1, e2, e3⟩ := frzH_some e ok
  obtain ⟨z, its, r, o2, q, c⟩ := e2
  exact ⟨k b o e3 e1, z, its, r, o2, k b o2 e3 q, c⟩
mutual
theorem Den.readsF (ok : HOk P w H h) (KX : K.K.In h) : ∀ {v : V} {d : D} {u : Value}, Den K ι F H v d → d.flat = true → RelV v u → Reads h u d.pd []
  | _, _, _, .non, _, r => by cases r; exact .none
  | _, _, _, .bl b, _, r => by cases r; exact .bool b
  | _, _, _, .int i, _, r => by obtain ⟨t, rfl⟩ := r; exact .int i t
  | _, _, _, .str x, _, r => by obtain ⟨t, rfl⟩ := r; exact .str x t
  | _, _, _, .tup t hs, f, r => by
    cases r
    obtain ⟨its, rv, o, e, c, n, dd⟩ := sqT_seq ok KX t
    exact .tuple e c dd (by simpa using Dens.readsF ok KX hs f rv)
  | _, _, _, .lst _ _, f, _ => by cases f
  | _, _, _, .scr _ _, f, _ => by cases f
  | _, _, _, .dct _ _ _, f, _ => by cases f
  | _, _, _, .set _, f, _ => by cases f
  | _, _, _, .tbl _ _ _ _, f, _ => by cases f
  | _, _, _, .ob _, f, _ => by cases f
theorem Dens.readsF (ok : HOk P w H h) (KX : K.K.In h) : ∀ {vs : List V} {ds : List D} {us : List Value}, Dens K ι F H vs ds → D.flats ds = true → Vals vs us → ReadsAll h us (D.pds ds) []
  | _, _, _, .nil, _, r => by cases r; exact .nil
  | _, _, _, .cons h1 h2, f, r => by
    have f : (D.flat _ && D.flats _) = true := f
    rw [Bool.and_eq_true] at f
    cases r with
    | cons r1 r2 =>
      have q := ReadsAll.cons (Den.readsF ok KX h1 f.1 r1) (Dens.readsF ok KX h2 f.2 r2)
      exact q
end
end
/-! ### the keys -/
def keyOfF (f : FM) (d : D) : Option D := match f [d] [] with
  | .ok (.val k) _ => if k.flat then some k else none
  | _ => none
def keysF (f : FM) : List D → Option (List (D × D))
  | [] => some []
  | d :: l => if d.flat then (match keyOfF f d with
    | some k => (keysF f l).map ((d, k) :: ·)
    | none => none) else none
def sortOkD (ps : List (D × D)) : Bool := (ps.all fun p => ps.all fun q => alike p.2.pd q.2.pd) && ((ps.all fun p => match p.2.pd with | .tuple (_ :: _) => true | _ => false) && ps.all fun p => decide (p.2.pd.depth ≤ 60))
noncomputable def skD (f : FM) (l : List D) : Option (List D) := match keysF f l with
  | some ps => if sortOkD ps && decide (ps.length ≤ sizeLine) then some ((ps.mergeSort (dataLe false fun p => p.2.pd)).map (·.1)) else none
  | none => none
noncomputable def rSortK (i : FnI) (f : EM) : RM := fun s => (f s).bind fun d s1 => match look s1.ob d with
  | .lst l => (match skD i.f l with
    | some m => .ok (.fl m) s1
    | none => .bad)
  | _ => .bad
/-- a def that may reckon keys -/
def SkAt (i : FnI) (P : Program) (w : World) (K : PySem.W.Frag) (mg : Str → Option Value) (base : Heap) (rm : Nat → Prop) : Prop :=
  ∃ (f : Addr) (fd : FuncData) (k : Nat) (ps : List Str), mg i.name = some (.ref f) ∧ Binds K fd ps [] ∧ ps.length = i.n ∧ rm (k + 2) ∧ FnG P w K mg base k f fd ps (spD ⟨K, w, P⟩ mg i.n i.f)
def FactT.sk (i : FnI) : FactT := ⟨SkAt i, fun h ⟨f, fd, k, ps, h1, h2, h3, h4, h5⟩ => ⟨f, fd, k, ps, h1, h2, h3, h _ h4, h5⟩⟩
theorem each_keysF {K : KW} {ι : List Addr} {F : Addr → Prop} {H : Hp} {f : FM} : ∀ {l : List D} {ps : List (D × D)} {vs : List V} {us : List Value}, keysF f l = some ps → Dens K ι F H vs l → Vals vs us →
    EachIs (fun u p => (∃ v, RelV v u ∧ Den K ι F H v p.1) ∧ p.1.flat = true ∧ keyOfF f p.1 = some p.2) us ps
  | [], _, _, _, e, d, r => by cases e; cases d; cases r; exact .nil
  | d :: l, ps, _, _, e, hd, r => by
    unfold keysF at e
    split at e
    · rename_i hf
      split at e
      · rename_i k hk
        cases e2 : keysF f l with
        | none => rw [e2] at e; cases e
        | some qs =>
          rw [e2] at e; cases e
          cases hd with
          | cons h1 h2 => cases r with
            | cons r1 r2 => exact .cons ⟨⟨_, r1, h1⟩, hf, hk⟩ (each_keysF e2 h2 r2)
      · cases e
    · cases e
theorem each_vals {K : KW} {ι : List Addr} {F : Addr → Prop} {H : Hp} {f : FM} : ∀ {us : List Value} {ps : List (D × D)}, EachIs (fun u p => (∃ v, RelV v u ∧ Den K ι F H v p.1) ∧ p.1.flat = true ∧ keyOfF f p.1 = some p.2) us ps → ∃ vs, Vals vs us ∧ Dens K ι F H vs (ps.map (·.1))
  | [], [], _ => ⟨[], .nil, .nil⟩
  | [], _ :: _, h => by cases h
  | _ :: _, [], h => by cases h
  | _ :: _, _ :: _, h => by
    cases h with
    | cons h1 t =>
      obtain ⟨v, r, d⟩ := h1.1
      obtain ⟨vs, rs, ds⟩ := each_vals t
      exact ⟨v :: vs, .cons r rs, .cons d ds⟩
/-- one key's call -/
theorem key_turn {X : Cx} {i : FnI} {f : Addr} {fd : FuncData} {k : Nat} {ps : List Str} {pins : List (Addr × Obj)} {σ : L2.St} {H : Hp} {s s' : Shared} {A : Around} {ι : List Addr} {F : Addr → Prop} {v : V} {u : Value} {d kd : D} (I : Inv X pins σ H s)
    (hfr : A.frames = some X.stack) (hg : A.guards = some []) (hr : Room k A) (hB : Binds X.K fd ps []) (hps : ps.length = i.n) (G : FnG X.prog X.w X.K X.mg X.base k f fd ps (spD X.kw X.mg i.n i.f)) (hn : i.n = 1)
    (ho : s'.os = s.os) (hb : AllBare s'.gens) (kx : KFx (frs X.stack) s.heap s'.heap) (r : RelV v u) (hd : Den X.kw ι F H v d) (hf : d.flat = true) (hk : keyOfF i.f d = some kd) :
    wpAny (model X.prog X.w) A (call (.ref f) [u]) (KeyG (frs X.stack) kd.pd s') (fun _ _ => False) s' := by
  have trk : ∀ b o, H b ≠ none → s.heap.get? b = some o → s'.heap.get? b = some o := fun b o hn e => (kx b o e).1 fun z => hn (I.stkFree b z)
  have hok' : HOk X.prog X.w (frzH H s.heap) s'.heap := hok_frz I.hok trk
  have hbs : ∀ b o, X.base.get? b = some o → s'.heap.get? b = some o ∧ frzH H s.heap b = none := fun b o e => by
    obtain ⟨e1, e2⟩ := I.bs b o e
    refine ⟨(kx b o e1).1 fun z => ?_, frzH_none e2⟩
    rw [(I.stack.mem z).1] at e
    cases e
  obtain ⟨m, ⟨lo, _, _, hlo, _⟩, _⟩ := id I.loc
  have sz : X.base.objs.size ≤ s'.heap.objs.size := by
    obtain ⟨_, sl, q⟩ := kx _ _ hlo
    have := Heap.lt_size q
    exact Nat.le_trans (Nat.le_trans I.ok.bsz I.ok.above) (Nat.le_of_lt this)
  have e0 : Env0 X.prog X.w X.K X.mg X.base A X.stack s' (frzH H s.heap) :=
    ⟨hfr, I.ok.mod, hbs, sz, PySem.Heap.FunFrames.of_keeps (fun b o e _ => let ⟨_, sl, q⟩ := kx b o e; ⟨_, q, rfl⟩) I.stack, fun b z => frzH_none (I.stkFree b z), hok', hb⟩
  have kin' : X.K.In s'.heap := I.ok.mod.kin.keeps fun b o e => (hbs b o e).1
  have bind := hB s' [u] kin' (by simp [hps, hn])
  rw [List.append_nil] at bind
  unfold keyOfF at hk
  cases ef : i.f [d] [] with
  | bad => rw [ef] at hk; cases hk
  | ex x ob' => rw [ef] at hk; cases hk
  | ok rr ob' =>
    rw [ef] at hk
    cases rr with
    | fl l => cases hk
    | fd ks vs => cases hk
    | val kk =>
      simp only at hk
      split at hk
      · rename_i hkf
        cases hk
        let Q : VK := fun z H' => (∃ ι' F', Den X.kw ι' F' H' z kd) ∧ ∀ b o w, frzH H s.heap b = some (.frz o w) → H' b = some (.frz o w)
        have prom : spD X.kw X.mg i.n i.f [v] (frzH H s.heap) Q fun _ _ _ => False := by
          refine ⟨[], fun _ => False, [], [d], by rw [hn]; rfl, ⟨rfl, List.nodup_nil, fun n u h => by simp at h, fun b h => h.elim, fun b h => by simp at h⟩, .cons (hd.frzD I.hok hf) .nil, ?_⟩
          rw [ef]
          intro ι' F' H' z e _ dz
          exact ⟨⟨ι', F', dz⟩, fun b o w q => e.frzs b o w q⟩
        refine wpAny_call (codeAny_mono (G.run A X.stack s' (frzH H s.heap) ⟨[u], []⟩ [u] [v] Q _ hg hr e0 bind (.cons r .nil) prom) fun res s2 hq => ?_)
        match res, hq with
        | .error e, hq => exact let ⟨_, _, _, _, _, _, _, _, _, _, _, _, z⟩ := hq; z.elim
        | .ok .next, hq => exact hq.elim
        | .ok .brk, hq => exact hq.elim
        | .ok .cont, hq => exact hq.elim
        | .ok (.ret u2), hq =>
          obtain ⟨v2, H2, os2, bare2, un2, hok2, rv2, ⟨ι2, F2, den2⟩, frz2⟩ := hq
          have kx2 : KFx (frs X.stack) s'.heap s2.heap := fun b o e => by
            cases q : frzH H s.heap b with
            | none =>
              refine ⟨fun nb => un2.keep b o e q nb (by simp), ?_⟩
              by_cases nb : b ∈ frs X.stack
              · exact un2.slot b o e q nb (by simp)
              · exact ⟨o.slots, un2.keep b o e q nb (by simp)⟩
            | some w2 =>
              obtain ⟨o2, xs, rfl, e1, _, _⟩ := frzH_some q I.hok
              obtain ⟨z1, _⟩ := hok' b _ q
              obtain ⟨z2, _⟩ := hok2 b _ (frz2 b _ _ q)
              rw [e] at z1
              cases z1
              exact ⟨fun _ => z2, o.slots, z2⟩
          have kin2 : X.K.In s2.heap := I.ok.mod.kin.keeps fun b o e => by
            obtain ⟨e1, e2⟩ := hbs b o e
            refine (kx2 b o e1).1 fun z => ?_
            rw [(I.stack.mem z).1] at e
            cases e
          exact ⟨os2, bare2, kx2, den2.readsF hok2 kin2 hkf rv2⟩
      · cases hk
end Cut
namespace Cut
open PySem PySem.Spec PyProof.Rows L2
open PySem.W (sortingHeap sortingHeap_old copyHeap copyHeap_at copyHeap_old alike alikeAll AllAlike EachIs dataLe)
theorem args_sorted_key (a v : Value) : PySem.argsOk "sorted" ⟨[a], [(Str.ofString "key", v)]⟩ := by unfold PySem.argsOk; kernel_rfl
theorem args_sort_key (a v : Value) : PySem.argsOk "list.sort" ⟨[a], [(Str.ofString "key", v)]⟩ := by unfold PySem.argsOk; kernel_rfl
/-- what sorted asks by a key -/
def rSK (X : Cx) (i : FnI) (f : Addr) : List V → List V → Hp → VK → Prop := fun xs zs H Q => zs = [.ref f] ∧ ∃ ι F ob x l m, xs = [x] ∧ ORel X.kw X.mg ι F ob H ∧ Rdn X.kw ι F H x (.lst l) ∧ skD i.f l = some m ∧ ∀ z H', Grow H H' → DenR X.kw ι F H H' z (.fl m) → Q z H'
theorem callok_sortK {X : Cx} {i : FnI} {f : Addr} {fd : FuncData} {k : Nat} {ps : List Str} (hg : X.A.guards = some []) (hr : Room (k + 2) X.A) (hB : Binds X.K fd ps []) (hps : ps.length = i.n) (hn : i.n = 1) (G : FnG X.prog X.w X.K X.mg X.base k f fd ps (spD X.kw X.mg i.n i.f)) :
    CallRK X (.builtin "sorted") ["key"] (rSK X i f) := by
  intro pins s σ H xs zs us ws Q I r rz q
  obtain ⟨rfl, ι, F, ob, x, l, m, rfl, ro, hx, hm, q⟩ := q
  obtain ⟨a, ys, rfl, ha, da⟩ := hx
  rw [Vals.ref1 r, Vals.ref1 rz]
  obtain ⟨its, rv, hl, hlen⟩ := I.list (.inl (.inl ha))
  unfold skD at hm
  split at hm
  · rename_i kp hkp
    split at hm
    · rename_i hok
      cases hm
      rw [Bool.and_eq_true, decide_eq_true_eq] at hok
      obtain ⟨hok, hsz⟩ := hok
      unfold sortOkD at hok
      rw [Bool.and_eq_true, Bool.and_eq_true, List.all_eq_true, List.all_eq_true, List.all_eq_true] at hok
      obtain ⟨o1, o2, o3⟩ := hok
      have hE := each_keysF hkp da rv
      have hin : Room k X.A.in1.in1 := hr.in1.in1
      refine sorted_keyG (fs := frs X.stack) (k := fun p : D × D => p.2.pd) hl.isList hE ?_ (.inl ?_) hsz (fun p hp => ?_) (fun b hb => ?_) I.bare (args_sorted_key _ _) (fun _ => args_sort_key _ _) (fun _ => PyProof.Rows.ksk_t1 _ _) (fun u p hR hp s' ho hb kx => ?_) fun s' out c b ho hb kx hbz hget hol hEo => ?_
      · intro d hd d' hd'
        obtain ⟨p, hp, rfl⟩ := List.mem_map.mp hd
        obtain ⟨p', hp', rfl⟩ := List.mem_map.mp hd'
        exact List.all_eq_true.mp (o1 p hp) p' hp'
      · intro d hd
        obtain ⟨p, hp, rfl⟩ := List.mem_map.mp hd
        have := o2 p hp
        split at this
        · rename_i z r e; exact ⟨z, r, e⟩
        · cases this
      · have h3 := of_decide_eq_true (o3 p hp)
        have h4 := hr.un
        omega
      · intro z
        obtain ⟨_, o, ho, _⟩ := I.stack.mem z
        exact Nat.lt_irrefl _ (Nat.lt_of_lt_of_le (Heap.lt_size ho) hb)
      · obtain ⟨⟨v, r1, d1⟩, hf, hk⟩ := hR
        exact key_turn I I.ok.frames hg hin hB hps G hn ho hb kx r1 d1 hf hk
      · obtain ⟨ws, rw1, dw⟩ := each_vals hEo
        have hbn : H b = none := I.hok.fresh hbz
        have gr : Grow H (upd H b (.lst ws)) := Grow.upd hbn
        have un : Un (frs X.stack) [] H (upd H b (.lst ws)) s.heap s'.heap := by
          refine ⟨fun c o e n hc _ => (kx c o e).1 hc, fun c o e n hc _ => (kx c o e).2, fun c o e n _ => ?_, fun c o e _ => let ⟨_, sl, z⟩ := kx c o e; ⟨_, z⟩, fun c xs e => gr _ _ e, fun c o u e => gr _ _ e, fun c ps e => ⟨#[], by rw [gr _ _ e]; simp⟩⟩
          rw [upd_ne (Nat.ne_of_lt (Nat.lt_of_lt_of_le (Heap.lt_size e) hbz))]; exact n
        have hok : HOk X.prog X.w (upd H b (.lst ws)) s'.heap := fun c u e => by
          by_cases hc : c = b
          · subst hc
            rw [upd_same] at e
            cases e
            refine ⟨?_, out, _, rw1, hget⟩
            rw [rw1.length, hol]; exact hsz
          · rw [upd_ne hc] at e
            refine (I.hok c u e).stay (fun d o hd z => ?_) (fun d z => gr _ _ z) fun d xs z => gr _ _ z
            have hnd : H d ≠ none := by
              rcases hd with hd | hd
              · rw [hd, e]; simp
              · rw [hd]; simp
            exact (kx d o z).1 fun y => hnd (I.stkFree d y)
        have ee : EP X pins σ Q (.ref b) s' := I.after (Q := Q) (s' := s') ⟨.ref b, _, ho, hb, un, hok, rfl, q _ _ gr ⟨b, ws, rfl, hbn, (not_ref ro hbn).1, (not_ref ro hbn).2, upd_same, dw.grow gr⟩⟩
        exact ee
    · cases hm
  · cases hm
theorem sortK_read {X : Cx} {W : WX} {i : FnI} {f : Addr} {fe : EM} {te : TE} {σ : L2.St} {H : Hp} {Q : VK} (hk : ∀ σ H Q, Q (.ref f) H → te σ H Q) (h : tR X.kw X.mg W (rSortK i fe) σ H Q) : tCKw (rSK X i f) (tA X.kw X.mg W (aCons fe aNil)) (tCons te tNil) σ H Q := by
  obtain ⟨ι, F, ps, r, q⟩ := h
  refine ⟨ι, F, ps, r, ?_⟩
  show Sat X.kw X.mg W (rA X.kw) σ ι F H ((fe ps).bind fun d s1 => (aNil s1).bind fun ds s2 => .ok (d :: ds) s2) _
  unfold rSortK at q
  cases e : fe ps with
  | bad => rw [e] at q; exact q.elim
  | ex x s1 => rw [e] at q; exact q
  | ok d s1 =>
    rw [e] at q
    intro ι1 F1 H1 vs e1 r1 d1
    refine hk _ _ _ ?_
    have d1 : Dens X.kw ι1 F1 H1 vs [d] := d1
    cases d1 with
    | cons dv dn =>
      cases dn
      have q : Sat X.kw X.mg W (rR X.kw) σ ι F H (match look s1.ob d with
        | .lst l => (match skD i.f l with
          | some m => .ok (.fl m) s1
          | none => .bad)
        | _ => .bad) Q := q
      split at q
      · rename_i l hl
        split at q
        · rename_i m hm
          refine ⟨rfl, ι1, F1, s1.ob, _, l, m, rfl, r1.ob, ?_, hm, fun z H' g dr => q ι1 F1 H' z (e1.trans (Ext.grow g)) (r1.grow g) (dr.weak e1.there)⟩
          have := dv.look r1.ob
          rw [hl] at this
          exact this
        · exact q.elim
      · exact q.elim
theorem d_sortK {c : SI} {i : FnI} {e : Expr} {fe : EM} {p p2 kp pos : Pos} (hi : FactT.sk i ∈ c.facts) (hc : c.calm = true) (hb : bltC c "sorted" = true) (hg : gloC c i.name = true) (hn : i.n = 1) (ha : DE c e fe) (hp : plainArg e = true) :
    DR c (.Call (.Name "sorted" p) [e] [⟨some "key", .Name i.name p2, kp⟩] pos) (rSortK i fe) := fun X W S tk => by
  obtain ⟨h1, h2, h3, h4⟩ := bltC_ok hb
  unfold gloC at hg
  simp only [Bool.and_eq_true, Bool.not_eq_true'] at hg
  obtain ⟨f, fd, k, ps, hm, hB, hps, hr, G⟩ := S.facts hc _ hi
  have K1 : PK X [⟨some "key", .Name i.name p2, kp⟩] (tCons (fun σ H Q => Q (.ref f) H) tNil) := pk_cons ((pe_glob (v := .ref f) (Gl.of S (kindIs_ok hg.1)) hm rfl hg.2).imp fun σ H Q h => h) pk_nil
  exact (pe_callBK (callok_sortK S.guards hr hB hps hn G) (Gl.of S h1) (S.blt _ h2) boot_sorted (da_cons ha da_nil hp X W S tk) K1 h3 h4
    (by rw [starEach_plain hp]; rfl) (by rw [starEach_plain hp]; rfl) rfl rfl rfl).imp fun σ H Q h => sortK_read (fun _ _ _ q => q) h
theorem sk_at {P : Program} {w : World} {K : PySem.W.Frag} {mg : Str → Option Value} {base : Heap} {i : FnI} {k k2 : Nat} (h : FnX P w K mg base k2 i) (hk : k2 + 2 ≤ k) : SkAt i P w K mg base (fun j => j ≤ k) := by
  obtain ⟨f, fd, ps, hm, _, hB, hps, G⟩ := h.ex
  exact ⟨f, fd, k2, ps, hm, hB, hps, hk, G⟩
@[simp] theorem ev_sortK {i : FnI} {f : EM} {s : PSt} : rSortK i f s = (f s).bind fun d s1 => match look s1.ob d with
  | .lst l => (match skD i.f l with
    | some m => .ok (.fl m) s1
    | none => .bad)
  | _ => .bad := rfl
end Cut
end
section
/-! CutCount: l.count(x), plain data. -/
namespace Cut
open PySem PySem.Spec PyProof.Rows L2
def cntD (x : D) (l : List D) : Nat := l.countP fun y => D.eqv y x
def countM : ME := fun o ds ob => match look ob o, ds with
  | .lst l, [x] => if inOk x l then some (.val (.int (cntD x l)), ob) else none
  | _, _ => none
theorem cntD_pd {d : D} (hd : d.plain = true) : ∀ l : List D, D.plains l = true → ((D.pds l).countP fun y => PyData.eqv y d.pd) = cntD d l
  | [], _ => rfl
  | x :: l, h => by
    have h : (x.plain && D.plains l) = true := h
    rw [Bool.and_eq_true] at h
    have ih := cntD_pd hd l h.2
    unfold cntD at ih ⊢
    show List.countP _ (x.pd :: D.pds l) = _
    rw [List.countP_cons, List.countP_cons, ih, D.eqv_pd x d h.1 hd]
theorem meth_count {X : Cx} (hu : X.A.units + 64 < cLine) : MethOK X "list.count" countM := by
  intro pins s σ H x xs v us Q ι F ob d ds r ob' I rx rxs ro hx hxs hm q
  have hd := hx.look ro
  unfold countM at hm
  generalize look ob d = dd at hm hd
  split at hm
  · rename_i l z
    split at hm
    · rename_i hok
      cases hm
      unfold inOk at hok
      rw [Bool.and_eq_true, Bool.and_eq_true, decide_eq_true_eq] at hok
      obtain ⟨⟨p1, p2⟩, p3⟩ := hok
      obtain ⟨a, ys, rfl, ha, da⟩ := hd
      cases hxs with
      | cons hk hn =>
        cases hn
        cases rx
        obtain ⟨u, rfl, ru⟩ := rxs.one
        obtain ⟨its, rv, hl, hlen⟩ := I.list (.inl (.inl ha))
        obtain ⟨bs, rz⟩ := Dp.reads I _ _ _ (hk.dp p1) ru
        obtain ⟨as, rl⟩ := Dp.readsAll I _ _ _ (da.dps p2) rv
        refine SeqAt.count_list_data hl.isList (by simpa using rl) rz (D.pds_plain l p2) (D.pd_plain z p1) ?_ ?_
        · rw [D.pds_depth l p2, D.pd_depth z p1]
          omega
        · refine ⟨.int (cntD z l), H, I.tok _, ⟨s.toks, ?_⟩, q ι F H _ Ext.refl ro (.int _)⟩
          rw [cntD_pd p1 l p2]
    · cases hm
  · cases hm
theorem m_count {c : SI} {o e : Expr} {es : List Expr} {fo : EM} {as : AM} {apos cpos : Pos} (hc : c.calm = true) (h : meC o (e :: es) apos cpos = true) (ho : DE c o fo) (ha : DA c (e :: es) as) : DR c (.Call (.Attribute o "count" apos) (e :: es) [] cpos) (rMeth "list" countM fo as) := by
  unfold meC at h
  simp only [Bool.and_eq_true] at h
  exact dr_meth PySem.F.plainAttrs_list PySem.F.slot_list_count PySem.F.type_list_count (fun _ S => meth_count (S.room hc).units) ho ha h.1.1.1 h.1.1.2 h.1.2 h.2
end Cut
end
section
/-! CutIdxT: t.index(x) of a tuple of texts. -/
namespace Cut
open PySem PySem.Spec PyProof.Rows L2
def indexTM : ME := fun o ds ob => match o, ds with
  | .tup l, [.str k] => match strsI l with
    | some ns => (ns.findIdx? (· == k)).map fun j => (.val (.int j), ob)
    | none => none
  | _, _ => none
theorem meth_indexT {X : Cx} : MethOK X "tuple.index" indexTM := by
  intro pins s σ H x xs v us Q ι F ob d ds r ob' I rx rxs ro hx hxs hm q
  unfold indexTM at hm
  split at hm
  · rename_i l k
    split at hm
    · rename_i ns hns
      cases hx with
      | @tup a ys _ ht da =>
        have e2 := dens_strsI da hns
        subst e2
        cases hf : ns.findIdx? (· == k) with
        | none => rw [hf] at hm; cases hm
        | some j =>
          rw [hf] at hm
          cases hm
          obtain ⟨hj, pj, hno⟩ := List.findIdx?_eq_some_iff_getElem.mp hf
          cases hxs with
          | cons hk hn =>
            cases hn
            cases hk
            refine mt_tup_index pins s σ H _ _ v us Q I rx rxs ⟨a, ns, k, j, rfl, rfl, ht, ?_, fun m hmj hz => ?_, q ι F H _ Ext.refl ro (.int _)⟩
            · rw [List.getElem?_eq_getElem hj]
              simpa using pj
            · have hml : m < ns.length := by omega
              rw [List.getElem?_eq_getElem hml] at hz
              have := hno m hmj
              simp only [Option.some.injEq] at hz
              rw [hz] at this
              simp at this
    · cases hm
  · cases hm
def rIdxC (l : List D) (fe : EM) : RM := fun s => (fe s).bind fun d s1 => match indexTM (.tup l) [d] s1.ob with
  | some (r, ob) => .ok r { s1 with ob := ob }
  | none => .bad
theorem r_idxC {c : SI} {x : Str} {l : List D} {e : Expr} {fe : EM} {p apos cpos : Pos} (hi : FactT.tc x l ∈ c.facts) (hc : c.calm = true) (hg : gloC c x = true) (h : meC (.Name x p) [e] apos cpos = true) (ha : DE c e fe) : DR c (.Call (.Attribute (.Name x p) "index" apos) [e] [] cpos) (rIdxC l fe) := fun X W S tk => by
  unfold meC at h
  simp only [Bool.and_eq_true] at h
  unfold gloC at hg
  simp only [Bool.and_eq_true, Bool.not_eq_true'] at hg
  obtain ⟨a, o, hm, hl, hcl, hdn, hD⟩ := S.facts hc _ hi
  have hp : plainArg e = true := by simpa using h.1.1.2
  have few := few_of (env := X.env) cpos h.1.1.2
  refine (pe_bm PySem.F.plainAttrs_tuple PySem.F.slot_tuple_index PySem.F.type_tuple_index (meth_indexT (X := X)).r (pe_glob (v := .ref a) (Gl.of S (kindIs_ok hg.1)) hm rfl hg.2) (da_cons ha da_nil hp X W S tk) (base_of h.1.1.1) ?_ (by simpa using h.2) (starEach_plain hp) rfl).imp fun σ H Q q => ?_
  · rw [few.1]; rfl
  · refine ⟨.inr (.inl ⟨rfl, o, hl, hcl, hdn⟩), ?_⟩
    obtain ⟨ι, F, ps, r, q⟩ := q
    refine ⟨ι, F, ps, r, ?_⟩
    show Sat X.kw X.mg W (rA X.kw) σ ι F H ((fe ps).bind fun d s1 => (aNil s1).bind fun ds s2 => .ok (d :: ds) s2) _
    unfold rIdxC at q
    cases e : fe ps with
    | bad => rw [e] at q; exact q.elim
    | ex x s1 => rw [e] at q; exact q
    | ok d s1 =>
      rw [e] at q
      intro ι1 F1 H1 vs e1 r1 d1
      have d1 : Dens X.kw ι1 F1 H1 vs [d] := d1
      have q : Sat X.kw X.mg W (rR X.kw) σ ι F H (match indexTM (.tup l) [d] s1.ob with
        | some (r, ob) => .ok r { s1 with ob := ob }
        | none => .bad) Q := q
      split at q
      · rename_i rr ob' hm2
        exact ⟨ι1, F1, s1.ob, .tup l, [d], rr, ob', r1.ob, hD _ _ ι1 F1 H1, d1, hm2, fun ι' F' H' w e2 o2 dr => q ι' F' H' w (e1.trans e2) (r1.call e2 o2) (dr.weak e1.there)⟩
      · exact q.elim
@[simp] theorem ev_idxC {l : List D} {fe : EM} {s : PSt} : rIdxC l fe s = (fe s).bind fun d s1 => match indexTM (.tup l) [d] s1.ob with
  | some (r, ob) => .ok r { s1 with ob := ob }
  | none => .bad := rfl
end Cut
end
section
namespace Cut
open PySem PySem.Spec PyProof.Rows L2
namespace Prog
noncomputable def e_is_one_of : SM :=
  sRet (rVal (eAnd (eFrz (rIs (eVar 0) [.str])) (eFrz (rOp (yesD inD) (eVar 0) (eVar 1)))))
noncomputable def f_is_one_of : FM := evDef 0 e_is_one_of
noncomputable def e_is_integer : SM :=
  sRet (rVal (eAnd (eFrz (rIs (eVar 0) [.int])) (eNot (eFrz (rIs (eVar 0) [.bool])))))
noncomputable def f_is_integer : FM := evDef 0 e_is_integer
noncomputable def e_is_count : SM :=
  sRet (rVal (eAnd (eFrz (rCall f_is_integer (aCons (eVar 0) (aNil)))) (eFrz (rOp geD (eVar 0) (eC (.int 0))))))
noncomputable def f_is_count : FM := evDef 0 e_is_count
def k_WAYS : D := .tup [.str "length", .str "marks", .str "close"]
def k_ENDS : D := .tup [.str "mark", .str "open", .str "shut"]
noncomputable def e_is_sending : SM :=
  sSeq (sIf (tOr2 (tNot1 (tTru (eFrz (rIs (eVar 0) [.tuple])))) (tOr2 (tB (rOp neD (eFrz (rB lenD (aCons (eVar 0) (aNil)))) (eC (.int 5)))) (tNot1 (tTru (eFrz (rCall f_is_one_of (aCons (eFrz (rOp ixD (eVar 0) (eC (.int 1)))) (aCons (eC k_WAYS) (aNil))))))))) (sRet (rVal (eC (.bl false)))) (sPass)) <|
  sSeq (sAsg (.tup [.var 1, .var 2, .var 3, .var 4, .var 5]) (eVar 0)) <|
  sSeq (sIf (tOr2 (tNot1 (tTru (eFrz (rCall f_is_count (aCons (eVar 1) (aNil)))))) (tOr2 (tNot1 (tTru (eFrz (rCall f_is_count (aCons (eVar 4) (aNil)))))) (tNot1 (tTru (eFrz (rCall f_is_one_of (aCons (eVar 5) (aCons (eC k_ENDS) (aNil))))))))) (sRet (rVal (eC (.bl false)))) (sPass)) <|
  sSeq (sIf (tAnd2 (tB (rOp eqD (eVar 5) (eC (.str "mark")))) (tB (rOp neD (eVar 2) (eC (.str "marks"))))) (sRet (rVal (eC (.bl false)))) (sPass)) <|
  sRet (rIf (tB (rOp eqD (eVar 2) (eC (.str "length")))) (rVal (eAnd (eFrz (rCall f_is_count (aCons (eVar 3) (aNil)))) (eFrz (rOp leD (eVar 4) (eVar 3))))) (rOp (yesD isD) (eVar 3) (eC .non)))
noncomputable def f_is_sending : FM := evDef 5 e_is_sending
def k_WHOLE_ENDS : List (Str × D) := [("length", .str "open"), ("marks", .str "mark"), ("close", .str "shut")]
noncomputable def e_whole_sending : SM :=
  sRet (rVal (eTup (aCons (eVar 0) (aCons (eVar 1) (aCons (eIf (tB (rOp eqD (eVar 1) (eC (.str "length")))) (eVar 2) (eC .non)) (aCons (eVar 2) (aCons (eFrz (rKd k_WHOLE_ENDS (eVar 1))) (aNil))))))))
noncomputable def f_whole_sending : FM := evDef 0 e_whole_sending
noncomputable def e_reading : SM :=
  sSeq (sAsg (.tup [.var 1, .var 2, .var 3, .var 4, .var 5]) (eVar 0)) <|
  sSeq (sIf (tOr2 (tAnd2 (tB (rOp eqD (eVar 2) (eC (.str "length")))) (tB (rOp eqD (eVar 4) (eVar 3)))) (tOr2 (tAnd2 (tB (rOp eqD (eVar 2) (eC (.str "marks")))) (tB (rOp eqD (eVar 5) (eC (.str "mark"))))) (tAnd2 (tB (rOp eqD (eVar 2) (eC (.str "close")))) (tB (rOp eqD (eVar 5) (eC (.str "shut"))))))) (sRet (rVal (eTup (aCons (eC (.str "whole")) (aCons (eVar 4) (aNil)))))) (sPass)) <|
  sRet (rVal (eTup (aCons (eIf (tB (rOp eqD (eVar 5) (eC (.str "open")))) (eC (.str "waits")) (eC (.str "cut"))) (aCons (eVar 4) (aNil)))))
noncomputable def f_reading : FM := evDef 5 e_reading
noncomputable def e_troubles : SM :=
  sSeq (sSet 1 (eFrz (rCall f_reading (aCons (eVar 0) (aNil))))) <|
  sSeq (sIf (tB (rOp eqD (eFrz (rOp ixD (eVar 1) (eC (.int 0)))) (eC (.str "waits")))) (sRet (rVal (eTup (aCons (eC (.str "waits")) (aNil))))) (sPass)) <|
  sRet (rVal (eIf (tAnd2 (tB (rOp eqD (eFrz (rOp ixD (eVar 1) (eC (.int 0)))) (eC (.str "whole")))) (tB (rOp neD (eFrz (rOp ixD (eVar 1) (eC (.int 1)))) (eFrz (rOp ixD (eVar 0) (eC (.int 0))))))) (eTup (aCons (eC (.str "fooled")) (aNil))) (eTup (aNil))))
noncomputable def f_troubles : FM := evDef 1 e_troubles
noncomputable def e_is_bound : SM :=
  sRet (rVal (eOr (eFrz (rOp (yesD isD) (eVar 0) (eC .non))) (eFrz (rCall f_is_count (aCons (eVar 0) (aNil))))))
noncomputable def f_is_bound : FM := evDef 0 e_is_bound
def k_RESTS : D := .tup [.str "drain", .str "shut", .str "leave"]
def k_CHOICES : D := .tup [.tup [.str "stream", .str "trim"], .tup [.str "length", .str "marks", .str "close"], .tup [.str "same", .str "marks", .str "close"], .tup [.str "pass", .str "whole", .str "refuse"], .tup [.str "wait", .str "cut"]]
noncomputable def e_is_relay : SM :=
  sSeq (sIf (tOr2 (tNot1 (tTru (eFrz (rIs (eVar 0) [.tuple])))) (tOr2 (tB (rOp neD (eFrz (rB lenD (aCons (eVar 0) (aNil)))) (eC (.int 8)))) (tOr2 (tNot1 (tTru (eFrz (rCall f_is_bound (aCons (eFrz (rOp ixD (eVar 0) (eC (.int 0)))) (aNil)))))) (tNot1 (tTru (eFrz (rCall f_is_bound (aCons (eFrz (rOp ixD (eVar 0) (eC (.int 6)))) (aNil))))))))) (sRet (rVal (eC (.bl false)))) (sPass)) <|
  sSeq (sIf (tNot1 (tTru (eFrz (rCall f_is_one_of (aCons (eFrz (rOp ixD (eVar 0) (eC (.int 7)))) (aCons (eC k_RESTS) (aNil))))))) (sRet (rVal (eC (.bl false)))) (sPass)) <|
  sRet (rB allD (aCons (eFrz (rComp [1, 2] (iZipD (eFrz (rSlice (eVar 0) (oSome (eC (.int 1))) (oSome (eC (.int 6))))) (eC k_CHOICES)) (.tup [.var 1, .var 2]) (tTrue) (eFrz (rCall f_is_one_of (aCons (eVar 1) (aCons (eVar 2) (aNil))))))) (aNil)))
noncomputable def f_is_relay : FM := evDef 2 e_is_relay
noncomputable def e_left_of : SM :=
  sSeq (sAsg (.tup [.var 2, .var 3, .var 4, .var 5, .var 6]) (eVar 1)) <|
  sSeq (sIf (tB (rOp (yesD isD) (eFrz (rOp ixD (eVar 0) (eC (.int 6)))) (eC .non))) (sRet (rVal (eC .non))) (sPass)) <|
  sSeq (sIf (tB (rOp eqD (eVar 3) (eC (.str "length")))) (sRet (rVal (eIf (tB (rOp gtD (eVar 4) (eFrz (rOp ixD (eVar 0) (eC (.int 6)))))) (eVar 5) (eC .non)))) (sPass)) <|
  sRet (rIf (tB (rOp gtD (eVar 5) (eFrz (rOp ixD (eVar 0) (eC (.int 6)))))) (rOp subD (eVar 5) (eFrz (rOp ixD (eVar 0) (eC (.int 6))))) (rVal (eC .non)))
noncomputable def f_left_of : FM := evDef 5 e_left_of
noncomputable def e_is_long : SM :=
  sRet (rVal (eAnd (eFrz (rOp (notD isD) (eFrz (rOp ixD (eVar 0) (eC (.int 0)))) (eC .non))) (eFrz (rOp gtD (eVar 1) (eFrz (rOp ixD (eVar 0) (eC (.int 0))))))))
noncomputable def f_is_long : FM := evDef 0 e_is_long
noncomputable def e_trimmed : SM :=
  sRet (rCall f_whole_sending (aCons (eFrz (rOp ixD (eVar 1) (eC (.int 0)))) (aCons (eFrz (rOp ixD (eVar 0) (eC (.int 2)))) (aCons (eFrz (rOp ixD (eVar 0) (eC (.int 0)))) (aNil)))))
noncomputable def f_trimmed : FM := evDef 0 e_trimmed
noncomputable def e_streamed : SM :=
  sSeq (sIf (tB (rOp eqD (eFrz (rOp ixD (eVar 0) (eC (.int 3)))) (eC (.str "same")))) (sRet (rVal (eTup (aCons (eFrz (rOp ixD (eVar 1) (eC (.int 0)))) (aCons (eFrz (rOp ixD (eVar 1) (eC (.int 1)))) (aCons (eFrz (rOp ixD (eVar 1) (eC (.int 2)))) (aCons (eVar 2) (aCons (eVar 3) (aNil))))))))) (sPass)) <|
  sRet (rVal (eTup (aCons (eFrz (rOp ixD (eVar 1) (eC (.int 0)))) (aCons (eFrz (rOp ixD (eVar 0) (eC (.int 3)))) (aCons (eC .non) (aCons (eVar 2) (aCons (eVar 3) (aNil))))))))
noncomputable def f_streamed : FM := evDef 0 e_streamed
noncomputable def e_refused : SM :=
  sSeq (sSet 3 (eTup (aNil))) <|
  sSeq (sIf (tAnd2 (tB (rOp eqD (eFrz (rOp ixD (eVar 0) (eC (.int 7)))) (eC (.str "leave")))) (tAnd2 (tB (rOp gtD (eVar 2) (eC (.int 0)))) (tB (rOp neD (eFrz (rOp ixD (eVar 1) (eC (.int 4)))) (eC (.str "shut")))))) (sSet 3 (eTup (aCons (eC (.str "spills")) (aNil)))) (sPass)) <|
  sSeq (sIf (tB (rOp eqD (eFrz (rOp ixD (eVar 0) (eC (.int 7)))) (eC (.str "drain")))) (sSet 3 (eFrz (rB tupleD (aCons (eFrz (rComp [4] (iSeq (eFrz (rCall f_troubles (aCons (eVar 1) (aNil))))) (.var 4) (tB (rOp neD (eVar 4) (eC (.str "fooled")))) (eVar 4))) (aNil))))) (sPass)) <|
  sSeq (sIf (tOr2 (tB (rOp eqD (eFrz (rOp ixD (eVar 1) (eC (.int 1)))) (eC (.str "length")))) (tNot1 (tTru (eFrz (rCall f_is_long (aCons (eVar 0) (aCons (eFrz (rOp ixD (eVar 0) (eC (.int 6)))) (aNil)))))))) (sRet (rVal (eTup (aCons (eC .non) (aCons (eVar 3) (aNil)))))) (sPass)) <|
  sSeq (sIf (tB (rOp eqD (eFrz (rOp ixD (eVar 0) (eC (.int 1)))) (eC (.str "trim")))) (sRet (rVal (eTup (aCons (eFrz (rCall f_trimmed (aCons (eVar 0) (aCons (eVar 1) (aNil))))) (aCons (eVar 3) (aNil)))))) (sPass)) <|
  sRet (rVal (eTup (aCons (eFrz (rCall f_streamed (aCons (eVar 0) (aCons (eVar 1) (aCons (eFrz (rOp ixD (eVar 0) (eC (.int 6)))) (aCons (eC (.str "shut")) (aNil))))))) (aCons (eVar 3) (aNil)))))
noncomputable def f_refused : FM := evDef 2 e_refused
noncomputable def e_held : SM :=
  sSeq (sIf (tOr2 (tB (rOp eqD (eFrz (rOp ixD (eVar 2) (eC (.int 0)))) (eC (.str "whole")))) (tAnd2 (tB (rOp eqD (eFrz (rOp ixD (eVar 2) (eC (.int 0)))) (eC (.str "cut")))) (tB (rOp eqD (eFrz (rOp ixD (eVar 0) (eC (.int 4)))) (eC (.str "whole")))))) (sRet (rCall f_whole_sending (aCons (eFrz (rOp ixD (eVar 1) (eC (.int 0)))) (aCons (eFrz (rOp ixD (eVar 0) (eC (.int 2)))) (aCons (eFrz (rOp ixD (eVar 2) (eC (.int 1)))) (aNil)))))) (sPass)) <|
  sSeq (sIf (tAnd2 (tB (rOp eqD (eFrz (rOp ixD (eVar 2) (eC (.int 0)))) (eC (.str "cut")))) (tB (rOp eqD (eFrz (rOp ixD (eVar 0) (eC (.int 4)))) (eC (.str "pass"))))) (sRet (rCall f_streamed (aCons (eVar 0) (aCons (eVar 1) (aCons (eFrz (rOp ixD (eVar 2) (eC (.int 1)))) (aCons (eC (.str "shut")) (aNil))))))) (sPass)) <|
  sRet (rVal (eC .non))
noncomputable def f_held : FM := evDef 0 e_held
noncomputable def e_long_end : SM :=
  sSeq (sIf (tOr2 (tB (rOp eqD (eFrz (rOp ixD (eVar 2) (eC (.int 0)))) (eC (.str "waits")))) (tAnd2 (tB (rOp eqD (eFrz (rOp ixD (eVar 2) (eC (.int 0)))) (eC (.str "cut")))) (tAnd2 (tB (rOp eqD (eFrz (rOp ixD (eVar 0) (eC (.int 4)))) (eC (.str "whole")))) (tB (rOp eqD (eVar 1) (eC (.str "length"))))))) (sRet (rVal (eC (.str "open")))) (sPass)) <|
  sSeq (sIf (tOr2 (tB (rOp eqD (eFrz (rOp ixD (eVar 2) (eC (.int 0)))) (eC (.str "whole")))) (tB (rOp eqD (eFrz (rOp ixD (eVar 0) (eC (.int 4)))) (eC (.str "whole"))))) (sRet (rKd k_WHOLE_ENDS (eVar 1))) (sPass)) <|
  sRet (rVal (eC (.str "shut")))
noncomputable def f_long_end : FM := evDef 0 e_long_end
noncomputable def e_treated : SM :=
  sSeq (sSet 2 (eFrz (rCall f_left_of (aCons (eVar 0) (aCons (eVar 1) (aNil)))))) <|
  sSeq (sIf (tB (rOp (notD isD) (eVar 2) (eC .non))) (sRet (rCall f_refused (aCons (eVar 0) (aCons (eVar 1) (aCons (eVar 2) (aNil)))))) (sPass)) <|
  sSeq (sSet 3 (eFrz (rCall f_reading (aCons (eVar 1) (aNil))))) <|
  sSeq (sIf (tNot1 (tTru (eFrz (rCall f_is_long (aCons (eVar 0) (aCons (eFrz (rOp ixD (eVar 3) (eC (.int 1)))) (aNil))))))) (sRet (rVal (eTup (aCons (eFrz (rCall f_held (aCons (eVar 0) (aCons (eVar 1) (aCons (eVar 3) (aNil)))))) (aCons (eFrz (rCall f_troubles (aCons (eVar 1) (aNil)))) (aNil)))))) (sPass)) <|
  sSeq (sIf (tB (rOp eqD (eFrz (rOp ixD (eVar 0) (eC (.int 1)))) (eC (.str "trim")))) (sRet (rVal (eTup (aCons (eFrz (rCall f_trimmed (aCons (eVar 0) (aCons (eVar 1) (aNil))))) (aCons (eFrz (rCall f_troubles (aCons (eVar 1) (aNil)))) (aNil)))))) (sPass)) <|
  sSeq (sSet 4 (eFrz (rIf (tB (rOp eqD (eFrz (rOp ixD (eVar 0) (eC (.int 3)))) (eC (.str "same")))) (rOp ixD (eVar 1) (eC (.int 1))) (rOp ixD (eVar 0) (eC (.int 3)))))) <|
  sRet (rVal (eTup (aCons (eFrz (rCall f_streamed (aCons (eVar 0) (aCons (eVar 1) (aCons (eFrz (rOp ixD (eVar 3) (eC (.int 1)))) (aCons (eFrz (rCall f_long_end (aCons (eVar 0) (aCons (eVar 4) (aCons (eVar 3) (aNil)))))) (aNil))))))) (aCons (eFrz (rCall f_troubles (aCons (eVar 1) (aNil)))) (aNil)))))
noncomputable def f_treated : FM := evDef 3 e_treated
noncomputable def e_led_by : SM :=
  sSeq (sIf (tAnd2 (tB (rOp eqD (eFrz (rOp ixD (eVar 0) (eC (.int 5)))) (eC (.str "cut")))) (tB (rOp eqD (eFrz (rOp ixD (eFrz (rCall f_reading (aCons (eVar 1) (aNil)))) (eC (.int 0)))) (eC (.str "waits"))))) (sSet 1 (eTup (aStar (eFrz (rSlice (eVar 1) (oNone) (oSome (eC (.int 4))))) (aCons (eC (.str "shut")) (aNil))))) (sPass)) <|
  sSeq (sAsg (.tup [.var 2, .var 3]) (eFrz (rCall f_treated (aCons (eVar 0) (aCons (eVar 1) (aNil)))))) <|
  sSeq (sIf (tAnd2 (tB (rOp (yesD isD) (eVar 2) (eC .non))) (tB (rOp eqD (eFrz (rCall f_reading (aCons (eVar 1) (aNil)))) (eTup (aCons (eC (.str "whole")) (aCons (eFrz (rOp ixD (eVar 1) (eC (.int 0)))) (aNil))))))) (sSet 3 (eTup (aStar (eVar 3) (aCons (eC (.str "lost")) (aNil))))) (sPass)) <|
  sRet (rVal (eTup (aCons (eVar 2) (aCons (eVar 3) (aNil)))))
noncomputable def f_led_by : FM := evDef 2 e_led_by
end Prog
end Cut
end
section
/-! CutProg: the program's small functions over relays and sendings, as plain Lean. -/
namespace Cut
open PySem PySem.Spec PyProof.Rows L2
namespace Prog

inductive Way | length | marks | close deriving DecidableEq
inductive En | mark | opn | shut deriving DecidableEq
inductive Over | stream | trim deriving DecidableEq
inductive Strm | same | marks | close deriving DecidableEq
inductive Ct | pass | whole | refuse deriving DecidableEq
inductive Wt | wait | cut deriving DecidableEq
inductive Rst | drain | shut | leave deriving DecidableEq
inductive Kd | whole | cut | waits deriving DecidableEq
inductive Wd | waits | fooled | spills | lost deriving DecidableEq
def Way.s : Way → String | .length => "length" | .marks => "marks" | .close => "close"
def En.s : En → String | .mark => "mark" | .opn => "open" | .shut => "shut"
def Over.s : Over → String | .stream => "stream" | .trim => "trim"
def Strm.s : Strm → String | .same => "same" | .marks => "marks" | .close => "close"
def Ct.s : Ct → String | .pass => "pass" | .whole => "whole" | .refuse => "refuse"
def Wt.s : Wt → String | .wait => "wait" | .cut => "cut"
def Rst.s : Rst → String | .drain => "drain" | .shut => "shut" | .leave => "leave"
def Kd.s : Kd → String | .whole => "whole" | .cut => "cut" | .waits => "waits"
def Wd.s : Wd → String | .waits => "waits" | .fooled => "fooled" | .spills => "spills" | .lost => "lost"
def oD : Option Int → D | none => .non | some i => .int i
structure Snd where
  meant : Int
  way : Way
  told : Option Int
  units : Int
  en : En
  deriving DecidableEq
structure Rly where
  hold : Option Int
  over : Over
  whole : Way
  strm : Strm
  ct : Ct
  wt : Wt
  lim : Option Int
  rest : Rst
  deriving DecidableEq
def Snd.d (s : Snd) : D := .tup [.int s.meant, .str s.way.s, oD s.told, .int s.units, .str s.en.s]
def Rly.d (r : Rly) : D := .tup [oD r.hold, .str r.over.s, .str r.whole.s, .str r.strm.s, .str r.ct.s, .str r.wt.s, oD r.lim, .str r.rest.s]
def wdsD (l : List Wd) : D := .tup (l.map fun w => .str w.s)
def oS : Option Snd → D | none => .non | some s => s.d
/-- a sending, as is_sending has it -/
structure Snd.Ok (s : Snd) : Prop where
  meant : 0 ≤ s.meant
  units : 0 ≤ s.units
  told : s.way = .length → ∃ t, s.told = some t ∧ s.units ≤ t ∧ 0 ≤ t
  none_ : s.way ≠ .length → s.told = none
  mark : s.en = .mark → s.way = .marks
def Strm.way : Strm → Way | .same => .length | .marks => .marks | .close => .close
def endOf : Way → En | .length => .opn | .marks => .mark | .close => .shut
def wholeS (m : Int) (w : Way) (b : Int) : Snd := ⟨m, w, if w = .length then some b else none, b, endOf w⟩
def isWhole (s : Snd) : Bool := match s.way with
  | .length => decide (s.told = some s.units)
  | .marks => decide (s.en = .mark)
  | .close => decide (s.en = .shut)
def readK (s : Snd) : Kd := if isWhole s then .whole else if s.en = .opn then .waits else .cut
def rdD (k : Kd) (u : Int) : D := .tup [.str k.s, .int u]
def trb (s : Snd) : List Wd := match readK s with
  | .waits => [.waits]
  | .whole => if s.units = s.meant then [] else [.fooled]
  | .cut => []
theorem eq_int (i j : Int) : eqD (.int i) (.int j) = some (.val (.bl (i == j))) := by rw [eq_ok (by simp [eqOk]), eqv_int]
theorem eq_str (i j : Str) : eqD (.str i) (.str j) = some (.val (.bl (i == j))) := by rw [eq_ok (by simp [eqOk]), eqv_str]
theorem ne_int (i j : Int) : neD (.int i) (.int j) = some (.val (.bl (!(i == j)))) := by rw [ne_ok (by simp [eqOk]), eqv_int]
theorem ne_str (i j : Str) : neD (.str i) (.str j) = some (.val (.bl (!(i == j)))) := by rw [ne_ok (by simp [eqOk]), eqv_str]
theorem reading_s (s : Snd) (ob : Obs) : f_reading [s.d] ob = .ok (.val (rdD (readK s) s.units)) ob := by
  refine def_rt (sl := [some s.d, some (.int s.meant), some (.str s.way.s), some (oD s.told), some (.int s.units), some (.str s.en.s)]) ?_ rfl
  obtain ⟨m, w, t, u, e⟩ := s
  unfold e_reading
  cases w with
  | length =>
    cases t with
    | none => cases e <;> simp [Snd.d, rdD, readK, isWhole, oD, Way.s, En.s, Kd.s, Tg.put, Tg.puts, seqD, eq_ok, eqOk, ofS_beq, line_ok]
    | some t =>
      by_cases h : t = u
      · subst h
        cases e <;> simp [Snd.d, rdD, readK, isWhole, oD, Way.s, En.s, Kd.s, Tg.put, Tg.puts, seqD, eq_ok, eqOk, ofS_beq, line_ok]
      · have h1 : ¬ u = t := fun z => h z.symm
        cases e <;> simp [Snd.d, rdD, readK, isWhole, oD, Way.s, En.s, Kd.s, Tg.put, Tg.puts, seqD, eq_ok, eqOk, ofS_beq, line_ok, h, h1]
  | marks => cases e <;> simp [Snd.d, rdD, readK, isWhole, Way.s, En.s, Kd.s, Tg.put, Tg.puts, seqD, eq_ok, eqOk, ofS_beq, line_ok]
  | close => cases e <;> simp [Snd.d, rdD, readK, isWhole, Way.s, En.s, Kd.s, Tg.put, Tg.puts, seqD, eq_ok, eqOk, ofS_beq, line_ok]
theorem troubles_s (s : Snd) (ob : Obs) : f_troubles [s.d] ob = .ok (.val (wdsD (trb s))) ob := by
  refine def_rt (sl := [some s.d, some (rdD (readK s) s.units)]) ?_ rfl
  have h := reading_s s ob
  have hd : s.d = .tup [.int s.meant, .str s.way.s, oD s.told, .int s.units, .str s.en.s] := rfl
  have ht : trb s = match readK s with
    | .waits => [.waits]
    | .whole => if s.units = s.meant then [] else [.fooled]
    | .cut => [] := rfl
  rw [ht]
  generalize readK s = k at h ⊢
  unfold e_troubles
  rw [seq_ok (s1 := ⟨[some s.d, some (rdD k s.units)], ob⟩) (by simp [h])]
  rw [hd]
  cases k with
  | whole => by_cases hm : s.units = s.meant <;> simp [rdD, wdsD, Kd.s, Wd.s, ixD, eq_str, ne_int, ofS_beq, line_ok, hm]
  | cut => simp [rdD, wdsD, Kd.s, Wd.s, ixD, eq_str, ne_int, ofS_beq, line_ok]
  | waits => simp [rdD, wdsD, Kd.s, Wd.s, ixD, eq_str, ne_int, ofS_beq, line_ok]
theorem whole_s (m : Int) (w : Way) (b : Int) (ob : Obs) : f_whole_sending [.int m, .str w.s, .int b] ob = .ok (.val (wholeS m w b).d) ob := by
  refine def_rt (sl := [some (.int m), some (.str w.s), some (.int b)]) ?_ rfl
  unfold e_whole_sending k_WHOLE_ENDS
  cases w <;> simp [wholeS, Snd.d, oD, endOf, Way.s, En.s, eq_str, ofS_beq, line_ok, List.lookup]
/-! ### what a relay or a sending is -/
theorem is_integer_i (i : Int) (ob : Obs) : f_is_integer [.int i] ob = .ok (.val (.bl true)) ob := by
  refine def_rt (sl := [some (.int i)]) ?_ rfl
  unfold e_is_integer
  simp [isD1, D.ty, Ty.sub]
theorem is_count_i {i : Int} (h : 0 ≤ i) (ob : Obs) : f_is_count [.int i] ob = .ok (.val (.bl true)) ob := by
  refine def_rt (sl := [some (.int i)]) ?_ rfl
  unfold e_is_count
  simp [is_integer_i, h]
theorem is_bound_i {o : Option Int} (h : ∀ i, o = some i → 0 ≤ i) (ob : Obs) : f_is_bound [oD o] ob = .ok (.val (.bl true)) ob := by
  refine def_rt (sl := [some (oD o)]) ?_ rfl
  unfold e_is_bound
  cases o with
  | none => simp [oD, yesD, isD]
  | some i => simp [oD, yesD, isD, is_count_i (h i rfl)]
theorem one_of {x : Str} {l : List D} (hp : D.plains l = true) (hd : D.depths l = 0) (h : memD (.str x) l = true) (ob : Obs) : f_is_one_of [.str x, .tup l] ob = .ok (.val (.bl true)) ob := by
  refine def_rt (sl := [some (.str x), some (.tup l)]) ?_ rfl
  unfold e_is_one_of
  simp [isD1, D.ty, Ty.sub, yesD, inD, inOk, hp, hd, h]
theorem is_sending_s {s : Snd} (h : s.Ok) (ob : Obs) : f_is_sending [s.d] ob = .ok (.val (.bl true)) ob := by
  obtain ⟨m, w, t, u, e⟩ := s
  obtain ⟨h1, h2, h3, h4, h5⟩ := h
  simp only at h1 h2 h3 h4 h5
  refine def_rt (sl := [some (Snd.d ⟨m, w, t, u, e⟩), some (.int m), some (.str w.s), some (oD t), some (.int u), some (.str e.s)]) ?_ rfl
  have ow : f_is_one_of [.str w.s, k_WAYS] ob = .ok (.val (.bl true)) ob := by
    unfold k_WAYS
    refine one_of (by simp) (by simp) ?_ ob
    cases w <;> simp [memD, Way.s, ofS_beq]
  have oe : f_is_one_of [.str e.s, k_ENDS] ob = .ok (.val (.bl true)) ob := by
    unfold k_ENDS
    refine one_of (by simp) (by simp) ?_ ob
    cases e <;> simp [memD, En.s, ofS_beq]
  unfold e_is_sending
  rw [seq_ok (s1 := ⟨[some (Snd.d ⟨m, w, t, u, e⟩), none, none, none, none, none], ob⟩) (by simp [Snd.d, isD1, D.ty, Ty.sub, lenD, ne_int, ixD, ow])]
  rw [seq_ok (s1 := ⟨[some (Snd.d ⟨m, w, t, u, e⟩), some (.int m), some (.str w.s), some (oD t), some (.int u), some (.str e.s)], ob⟩) (by simp [Snd.d, Tg.put, Tg.puts, seqD])]
  rw [seq_ok (s1 := ⟨[some (Snd.d ⟨m, w, t, u, e⟩), some (.int m), some (.str w.s), some (oD t), some (.int u), some (.str e.s)], ob⟩) (by simp [is_count_i h1, is_count_i h2, oe])]
  rw [seq_ok (s1 := ⟨[some (Snd.d ⟨m, w, t, u, e⟩), some (.int m), some (.str w.s), some (oD t), some (.int u), some (.str e.s)], ob⟩) (by
    cases e with
    | mark =>
      cases h5 rfl
      simp [En.s, Way.s, eq_str, ne_str]
    | opn => simp [En.s, eq_str, ofS_beq]
    | shut => simp [En.s, eq_str, ofS_beq])]
  cases w with
  | length =>
    obtain ⟨t', rfl, ht, ht0⟩ := h3 rfl
    simp [Way.s, eq_str, oD, is_count_i ht0, ht]
  | marks =>
    cases h4 (by decide)
    simp [Way.s, eq_str, ofS_beq, oD, yesD, isD]
  | close =>
    cases h4 (by decide)
    simp [Way.s, eq_str, ofS_beq, oD, yesD, isD]
/-- a relay, as is_relay has it -/
structure Rly.Ok (r : Rly) : Prop where
  hold : ∀ i, r.hold = some i → 0 ≤ i
  lim : ∀ i, r.lim = some i → 0 ≤ i
theorem is_relay_r {r : Rly} (h : r.Ok) (ob : Obs) : f_is_relay [r.d] ob = .ok (.val (.bl true)) ob := by
  obtain ⟨hold, ov, wh, st, ct, wt, lim, rest⟩ := r
  obtain ⟨h1, h2⟩ := h
  simp only at h1 h2
  refine def_rt (sl := [some (Rly.d ⟨hold, ov, wh, st, ct, wt, lim, rest⟩), none, none]) ?_ rfl
  have orr : f_is_one_of [.str rest.s, k_RESTS] ob = .ok (.val (.bl true)) ob := by
    unfold k_RESTS
    refine one_of (by simp) (by simp) ?_ ob
    cases rest <;> simp [memD, Rst.s, ofS_beq]
  have o1 : f_is_one_of [.str ov.s, .tup [.str "stream", .str "trim"]] ob = .ok (.val (.bl true)) ob := one_of (by simp) (by simp) (by cases ov <;> simp [memD, Over.s, ofS_beq]) ob
  have o2 : f_is_one_of [.str wh.s, .tup [.str "length", .str "marks", .str "close"]] ob = .ok (.val (.bl true)) ob := one_of (by simp) (by simp) (by cases wh <;> simp [memD, Way.s, ofS_beq]) ob
  have o3 : f_is_one_of [.str st.s, .tup [.str "same", .str "marks", .str "close"]] ob = .ok (.val (.bl true)) ob := one_of (by simp) (by simp) (by cases st <;> simp [memD, Strm.s, ofS_beq]) ob
  have o4 : f_is_one_of [.str ct.s, .tup [.str "pass", .str "whole", .str "refuse"]] ob = .ok (.val (.bl true)) ob := one_of (by simp) (by simp) (by cases ct <;> simp [memD, Ct.s, ofS_beq]) ob
  have o5 : f_is_one_of [.str wt.s, .tup [.str "wait", .str "cut"]] ob = .ok (.val (.bl true)) ob := one_of (by simp) (by simp) (by cases wt <;> simp [memD, Wt.s, ofS_beq]) ob
  unfold e_is_relay
  rw [seq_ok (s1 := ⟨[some (Rly.d ⟨hold, ov, wh, st, ct, wt, lim, rest⟩), none, none], ob⟩) (by simp [Rly.d, isD1, D.ty, Ty.sub, lenD, ne_int, ixD, is_bound_i h1, is_bound_i h2])]
  rw [seq_ok (s1 := ⟨[some (Rly.d ⟨hold, ov, wh, st, ct, wt, lim, rest⟩), none, none], ob⟩) (by simp [Rly.d, ixD, orr])]
  have hcut : cut [oD hold, D.str ov.s, .str wh.s, .str st.s, .str ct.s, .str wt.s, oD lim, .str rest.s] (some 1) (some 6) = [.str ov.s, .str wh.s, .str st.s, .str ct.s, .str wt.s] := rfl
  have hc : lcGo (lcTurn (.tup [.var 1, .var 2]) tTrue (lcElt (eFrz (rCall f_is_one_of (aCons (eVar 1) (aCons (eVar 2) aNil))))) (wipeD [some (Rly.d ⟨hold, ov, wh, st, ct, wt, lim, rest⟩), none, none] [1, 2]))
      (zipD [.str ov.s, .str wh.s, .str st.s, .str ct.s, .str wt.s] [.tup [.str "stream", .str "trim"], .tup [.str "length", .str "marks", .str "close"], .tup [.str "same", .str "marks", .str "close"], .tup [.str "pass", .str "whole", .str "refuse"], .tup [.str "wait", .str "cut"]]) ob =
      some ([.bl true, .bl true, .bl true, .bl true, .bl true], ob) := by
    simp only [zipD, lcGo, lcTurn, lcElt, wipeD, Tg.put, Tg.puts, seqD, tTrue, List.set_cons_succ, List.set_cons_zero, ev_frz, ev_call, ev_cons, ev_var, vr_0, vr_1, vr_some, bind_ok, ev_nil, o1, o2, o3, o4, o5, fin_ok, toD_val]
    rfl
  unfold k_CHOICES
  simp only [Rly.d] at hc ⊢
  simp [iZipD, sliceD, hcut, hc, cfin_ok, allD, blsD]
end Prog
end Cut
end
section
/-! CutProg2: what a relay tells. -/
namespace Cut
open PySem PySem.Spec PyProof.Rows L2
namespace Prog

def isLong (r : Rly) (u : Int) : Bool := match r.hold with
  | none => false
  | some h => decide (h < u)
def streamS (r : Rly) (s : Snd) (u : Int) (e : En) : Snd := match r.strm with
  | .same => ⟨s.meant, s.way, s.told, u, e⟩
  | .marks => ⟨s.meant, .marks, none, u, e⟩
  | .close => ⟨s.meant, .close, none, u, e⟩
def trimS (r : Rly) (s : Snd) : Snd := wholeS s.meant r.whole (r.hold.getD 0)
def leftOf (r : Rly) (s : Snd) : Option Int := match r.lim with
  | none => none
  | some l => if s.way = .length then (if l < s.told.getD 0 then some s.units else none) else if l < s.units then some (s.units - l) else none
def refS (r : Rly) (s : Snd) (left : Int) : Option Snd × List Wd :=
  let found := match r.rest with
    | .leave => if 0 < left ∧ s.en ≠ .shut then [.spills] else []
    | .drain => (trb s).filter fun w => decide (w ≠ .fooled)
    | .shut => []
  if s.way = .length ∨ isLong r (r.lim.getD 0) = false then (none, found) else if r.over = .trim then (some (trimS r s), found) else (some (streamS r s (r.lim.getD 0) .shut), found)
def heldS (r : Rly) (s : Snd) (k : Kd) : Option Snd :=
  if k = .whole ∨ (k = .cut ∧ r.ct = .whole) then some (wholeS s.meant r.whole s.units) else if k = .cut ∧ r.ct = .pass then some (streamS r s s.units .shut) else none
def longEnd (r : Rly) (w : Way) (k : Kd) : En := if k = .waits ∨ (k = .cut ∧ r.ct = .whole ∧ w = .length) then .opn else if k = .whole ∨ r.ct = .whole then endOf w else .shut
def treatS (r : Rly) (s : Snd) : Option Snd × List Wd := match leftOf r s with
  | some left => refS r s left
  | none => if isLong r s.units = false then (heldS r s (readK s), trb s) else if r.over = .trim then (some (trimS r s), trb s) else
    let w := match r.strm with | .same => s.way | .marks => .marks | .close => .close
    (some (streamS r s s.units (longEnd r w (readK s))), trb s)
def ledS (r : Rly) (s : Snd) : Option Snd × List Wd :=
  let s' : Snd := if r.wt = .cut ∧ readK s = .waits then { s with en := .shut } else s
  let (out, found) := treatS r s'
  (out, if out = none ∧ readK s' = .whole ∧ s'.units = s'.meant then found ++ [.lost] else found)
def outD (p : Option Snd × List Wd) : D := .tup [oS p.1, wdsD p.2]

section
variable {r : Rly} {s : Snd} {k : Kd} {u : Int} {ob : Obs} {o : Option Int} {l : List Wd}
@[simp] theorem ix_r0 : ixD r.d (.int 0) = some (.val (oD r.hold)) := rfl
@[simp] theorem ix_r1 : ixD r.d (.int 1) = some (.val (.str r.over.s)) := rfl
@[simp] theorem ix_r2 : ixD r.d (.int 2) = some (.val (.str r.whole.s)) := rfl
@[simp] theorem ix_r3 : ixD r.d (.int 3) = some (.val (.str r.strm.s)) := rfl
@[simp] theorem ix_r4 : ixD r.d (.int 4) = some (.val (.str r.ct.s)) := rfl
@[simp] theorem ix_r5 : ixD r.d (.int 5) = some (.val (.str r.wt.s)) := rfl
@[simp] theorem ix_r6 : ixD r.d (.int 6) = some (.val (oD r.lim)) := rfl
@[simp] theorem ix_r7 : ixD r.d (.int 7) = some (.val (.str r.rest.s)) := rfl
@[simp] theorem ix_s0 : ixD s.d (.int 0) = some (.val (.int s.meant)) := rfl
@[simp] theorem ix_s1 : ixD s.d (.int 1) = some (.val (.str s.way.s)) := rfl
@[simp] theorem ix_s2 : ixD s.d (.int 2) = some (.val (oD s.told)) := rfl
@[simp] theorem ix_s3 : ixD s.d (.int 3) = some (.val (.int s.units)) := rfl
@[simp] theorem ix_s4 : ixD s.d (.int 4) = some (.val (.str s.en.s)) := rfl
@[simp] theorem ix_k0 : ixD (rdD k u) (.int 0) = some (.val (.str k.s)) := rfl
@[simp] theorem ix_k1 : ixD (rdD k u) (.int 1) = some (.val (.int u)) := rfl
@[simp] theorem look_r : look ob r.d = r.d := rfl
@[simp] theorem look_s : look ob s.d = s.d := rfl
@[simp] theorem look_k : look ob (rdD k u) = rdD k u := rfl
@[simp] theorem look_o : look ob (oD o) = oD o := by cases o <;> rfl
@[simp] theorem look_w : look ob (wdsD l) = wdsD l := rfl
end
theorem is_long_s (r : Rly) (u : Int) (ob : Obs) : f_is_long [r.d, .int u] ob = .ok (.val (.bl (isLong r u))) ob := by
  refine def_rt (sl := [some r.d, some (.int u)]) ?_ rfl
  obtain ⟨hold, ov, wh, st, ct, wt, lim, rest⟩ := r
  unfold e_is_long
  cases hold with
  | none => simp [Rly.d, isLong, oD, ixD, notD, isD]
  | some h => simp [Rly.d, isLong, oD, ixD, notD, isD]
theorem streamed_s (r : Rly) (s : Snd) (u : Int) (e : En) (ob : Obs) : f_streamed [r.d, s.d, .int u, .str e.s] ob = .ok (.val (streamS r s u e).d) ob := by
  refine def_rt (sl := [some r.d, some s.d, some (.int u), some (.str e.s)]) ?_ rfl
  obtain ⟨hold, ov, wh, st, ct, wt, lim, rest⟩ := r
  obtain ⟨m, w, t, u', e'⟩ := s
  unfold e_streamed
  cases st <;> simp [Rly.d, Snd.d, streamS, Strm.s, Way.s, ixD, eq_str, ofS_beq, line_ok, oD]
theorem trimmed_s {r : Rly} (s : Snd) (h : r.hold ≠ none) (ob : Obs) : f_trimmed [r.d, s.d] ob = .ok (.val (trimS r s).d) ob := by
  refine def_rt (sl := [some r.d, some s.d]) ?_ rfl
  obtain ⟨hold, ov, wh, st, ct, wt, lim, rest⟩ := r
  obtain ⟨m, w, t, u', e'⟩ := s
  unfold e_trimmed
  cases hold with
  | none => exact absurd rfl h
  | some h => simp [Rly.d, Snd.d, trimS, ixD, oD, whole_s]
theorem left_of_s (r : Rly) {s : Snd} (h : s.Ok) (ob : Obs) : f_left_of [r.d, s.d] ob = .ok (.val (oD (leftOf r s))) ob := by
  refine def_rt (sl := [some r.d, some s.d, some (.int s.meant), some (.str s.way.s), some (oD s.told), some (.int s.units), some (.str s.en.s)]) ?_ rfl
  obtain ⟨hold, ov, wh, st, ct, wt, lim, rest⟩ := r
  obtain ⟨m, w, t, u, e⟩ := s
  obtain ⟨h1, h2, h3, h4, h5⟩ := h
  simp only at h3 h4
  unfold e_left_of
  rw [seq_ok (s1 := ⟨[some (Rly.d ⟨hold, ov, wh, st, ct, wt, lim, rest⟩), some (Snd.d ⟨m, w, t, u, e⟩), some (.int m), some (.str w.s), some (oD t), some (.int u), some (.str e.s)], ob⟩) (by simp [Snd.d, Tg.put, Tg.puts, seqD])]
  cases lim with
  | none => simp [Rly.d, leftOf, oD, ixD, yesD, isD]
  | some l =>
    cases w with
    | length =>
      obtain ⟨t', rfl, _⟩ := h3 rfl
      by_cases hl : l < t' <;> simp [Rly.d, leftOf, oD, ixD, yesD, isD, Way.s, eq_str, hl]
    | marks => by_cases hl : l < u <;> simp [Rly.d, leftOf, oD, ixD, yesD, isD, Way.s, eq_str, ofS_beq, hl]
    | close => by_cases hl : l < u <;> simp [Rly.d, leftOf, oD, ixD, yesD, isD, Way.s, eq_str, ofS_beq, hl]
theorem long_end_s (r : Rly) (w : Way) (k : Kd) (u : Int) (ob : Obs) : f_long_end [r.d, .str w.s, rdD k u] ob = .ok (.val (.str (longEnd r w k).s)) ob := by
  refine def_rt (sl := [some r.d, some (.str w.s), some (rdD k u)]) ?_ rfl
  obtain ⟨hold, ov, wh, st, ct, wt, lim, rest⟩ := r
  unfold e_long_end k_WHOLE_ENDS
  cases k <;> cases ct <;> cases w <;> simp [Rly.d, rdD, longEnd, endOf, Kd.s, Ct.s, Way.s, En.s, ixD, eq_str, ofS_beq, List.lookup]
theorem held_s (r : Rly) (s : Snd) (k : Kd) (ob : Obs) : f_held [r.d, s.d, rdD k s.units] ob = .ok (.val (oS (heldS r s k))) ob := by
  refine def_rt (sl := [some r.d, some s.d, some (rdD k s.units)]) ?_ rfl
  have hs := streamed_s r s s.units .shut ob
  have hw := whole_s s.meant r.whole s.units ob
  have he : heldS r s k = if k = .whole ∨ (k = .cut ∧ r.ct = .whole) then some (wholeS s.meant r.whole s.units) else if k = .cut ∧ r.ct = .pass then some (streamS r s s.units .shut) else none := rfl
  rw [he]
  generalize wholeS s.meant r.whole s.units = W at hw ⊢
  generalize streamS r s s.units .shut = S at hs ⊢
  unfold e_held
  simp only [En.s] at hs
  generalize hc : r.ct = ct
  cases k <;> cases ct <;> simp [Kd.s, Ct.s, eq_str, ofS_beq, oS, hs, hw, hc]
theorem memW (l : List Wd) : ∀ x ∈ l.map (fun w => D.str w.s), ∃ w ∈ l, x = .str w.s := fun x hx => by
  obtain ⟨w, hw, rfl⟩ := List.mem_map.mp hx
  exact ⟨w, hw, rfl⟩
theorem lcGo_words (p : Wd → Bool) (tt : TM) (sl : List (Option D)) (i : Nat) (ob : Obs) (hi : i < sl.length) (ht : ∀ w : Wd, tt ⟨sl.set i (some (.str w.s)), ob⟩ = .ok (p w) ⟨sl.set i (some (.str w.s)), ob⟩) : ∀ l : List Wd,
    lcGo (lcTurn (.var i) tt (lcElt (eVar i)) sl) (l.map fun w => .str w.s) ob = some ((l.filter p).map (fun w => .str w.s), ob)
  | [] => rfl
  | w :: l => by
    have ih := lcGo_words p tt sl i ob hi ht l
    rw [List.map_cons, lcGo]
    have hv : eVar i ⟨sl.set i (some (.str w.s)), ob⟩ = .ok (.str w.s) ⟨sl.set i (some (.str w.s)), ob⟩ := by
      unfold eVar
      simp [List.getElem?_set_self hi]
    cases hp : p w with
    | true =>
      simp only [lcTurn, put_var, ht w, hp, lcElt, hv, ih, List.filter_cons_of_pos hp]
      rfl
    | false =>
      have hf : ¬ p w = true := by rw [hp]; simp
      simp only [lcTurn, put_var, ht w, hp, ih, List.filter_cons_of_neg hf]
      rfl
theorem trb_len (s : Snd) : (trb s).length ≤ 1 := by
  unfold trb
  cases readK s with
  | waits => simp
  | cut => simp
  | whole => simp only; split <;> simp
theorem refused_s {r : Rly} {s : Snd} {l left : Int} (hl : r.lim = some l) (ob : Obs) : f_refused [r.d, s.d, .int left] ob = .ok (.val (outD (refS r s left))) ob := by
  let found : List Wd := match r.rest with
    | .leave => if 0 < left ∧ s.en ≠ .shut then [.spills] else []
    | .drain => (trb s).filter fun w => decide (w ≠ .fooled)
    | .shut => []
  have hit := is_long_s r l ob
  have htr := troubles_s s ob
  -- the words
  have k1 : ∃ y, (sSeq (sSet 3 (eTup (aNil))) <|
      sSeq (sIf (tAnd2 (tB (rOp eqD (eFrz (rOp ixD (eVar 0) (eC (.int 7)))) (eC (.str "leave")))) (tAnd2 (tB (rOp gtD (eVar 2) (eC (.int 0)))) (tB (rOp neD (eFrz (rOp ixD (eVar 1) (eC (.int 4)))) (eC (.str "shut")))))) (sSet 3 (eTup (aCons (eC (.str "spills")) (aNil)))) (sPass)) <|
      sIf (tB (rOp eqD (eFrz (rOp ixD (eVar 0) (eC (.int 7)))) (eC (.str "drain")))) (sSet 3 (eFrz (rB tupleD (aCons (eFrz (rComp [4] (iSeq (eFrz (rCall f_troubles (aCons (eVar 1) (aNil))))) (.var 4) (tB (rOp neD (eVar 4) (eC (.str "fooled")))) (eVar 4))) (aNil))))) (sPass))
      ⟨[some r.d, some s.d, some (.int left), none, none], ob⟩ = .ok .nx ⟨[some r.d, some s.d, some (.int left), some (wdsD found), y], ob⟩ := by
    refine ⟨none, ?_⟩
    have hlen : ((trb s).filter fun w => decide (w ≠ .fooled)).length ≤ 16777216 := by
      have h1 := trb_len s
      have h2 := List.length_filter_le (fun w => decide (w ≠ Wd.fooled)) (trb s)
      omega
    have hc := lcGo_words (fun w => decide (w ≠ .fooled)) (tB (rOp neD (eVar 4) (eC (.str "fooled")))) [some r.d, some s.d, some (.int left), some (wdsD []), none] 4 ob (by simp) (fun w => by cases w <;> simp [Wd.s, ne_str, ofS_beq]) (trb s)
    cases hr : r.rest with
    | drain =>
      have hf : found = (trb s).filter fun w => decide (w ≠ .fooled) := by simp only [found, hr]
      rw [hf]
      rw [seq_ok (s1 := ⟨[some r.d, some s.d, some (.int left), some (wdsD []), none], ob⟩) (by simp [line_ok, wdsD])]
      rw [seq_ok (s1 := ⟨[some r.d, some s.d, some (.int left), some (wdsD []), none], ob⟩) (by simp [hr, Rst.s, eq_str, ofS_beq])]
      have hlen2 : (((trb s).filter fun w => decide (w ≠ .fooled)).map fun w => D.str w.s).length ≤ 16777216 := by rw [List.length_map]; exact hlen
      have hit2 : itemsD (wdsD (trb s)) = some ((trb s).map fun w => .str w.s) := rfl
      simp only [ev_if, ev_tB, ev_op, ev_frz, ev_var, vr_0, vr_1, vr_some, bind_ok, ev_C, look_r, look_int, ix_r7, opt_some, toD_val, hr, Rst.s, look_str, eq_str, beq_self_eq_true, tbo_bl, if_true, ev_set, ev_b, ev_cons, ev_comp, ev_iseq, ev_call, ev_nil, htr, fin_ok, hit2, sqo_some, wipeD, List.set_cons_succ, List.set_cons_zero, hc,
        cfin_ok hlen2, toD_fl, List.map_cons, List.map_nil, look_lst, tupleD]
      rfl
    | shut =>
      have hf : found = [] := by simp only [found, hr]
      rw [hf]
      simp [line_ok, wdsD, hr, Rst.s, eq_str, ofS_beq]
    | leave =>
      have hf : found = if 0 < left ∧ s.en ≠ .shut then [.spills] else [] := by simp only [found, hr]
      rw [hf]
      by_cases h1 : 0 < left
      · cases he : s.en <;> simp [line_ok, wdsD, hr, Rst.s, En.s, Wd.s, eq_str, ne_str, ofS_beq, h1, he]
      · simp [line_ok, wdsD, hr, Rst.s, eq_str, ofS_beq, h1]
  obtain ⟨y, k1⟩ := k1
  have hre : refS r s left = if s.way = .length ∨ isLong r (r.lim.getD 0) = false then (none, found) else if r.over = .trim then (some (trimS r s), found) else (some (streamS r s (r.lim.getD 0) .shut), found) := rfl
  rw [hre]
  generalize found = fo at k1
  have k2 : (sSeq (sIf (tOr2 (tB (rOp eqD (eFrz (rOp ixD (eVar 1) (eC (.int 1)))) (eC (.str "length")))) (tNot1 (tTru (eFrz (rCall f_is_long (aCons (eVar 0) (aCons (eFrz (rOp ixD (eVar 0) (eC (.int 6)))) (aNil)))))))) (sRet (rVal (eTup (aCons (eC .non) (aCons (eVar 3) (aNil)))))) (sPass)) <|
      sSeq (sIf (tB (rOp eqD (eFrz (rOp ixD (eVar 0) (eC (.int 1)))) (eC (.str "trim")))) (sRet (rVal (eTup (aCons (eFrz (rCall f_trimmed (aCons (eVar 0) (aCons (eVar 1) (aNil))))) (aCons (eVar 3) (aNil)))))) (sPass)) <|
      sRet (rVal (eTup (aCons (eFrz (rCall f_streamed (aCons (eVar 0) (aCons (eVar 1) (aCons (eFrz (rOp ixD (eVar 0) (eC (.int 6)))) (aCons (eC (.str "shut")) (aNil))))))) (aCons (eVar 3) (aNil))))))
      ⟨[some r.d, some s.d, some (.int left), some (wdsD fo), y], ob⟩ =
      .ok (.rt (.val (outD (if s.way = .length ∨ isLong r (r.lim.getD 0) = false then (none, fo) else if r.over = .trim then (some (trimS r s), fo) else (some (streamS r s (r.lim.getD 0) .shut), fo))))) ⟨[some r.d, some s.d, some (.int left), some (wdsD fo), y], ob⟩ := by
    rw [hl]
    by_cases hlong : isLong r l = true
    · have hh : r.hold ≠ none := fun z => by unfold isLong at hlong; rw [z] at hlong; cases hlong
      have ht := trimmed_s s hh ob
      have hs := streamed_s r s l .shut ob
      simp only [En.s] at hs
      cases hw : s.way <;> cases ho : r.over <;> simp [hl, hlong, hit, hw, ho, Way.s, Over.s, eq_str, ofS_beq, line_ok, oD, outD, oS, ht, hs]
    · have hlong : isLong r l = false := by simpa using hlong
      cases hw : s.way <;> simp [hl, hlong, hit, hw, Way.s, eq_str, ofS_beq, line_ok, oD, outD, oS]
  refine def_rt (sl := [some r.d, some s.d, some (.int left), some (wdsD fo), y]) ?_ rfl
  refine Eq.trans ?_ ((seq_ok k1).trans k2)
  rw [seq_assoc]
  unfold e_refused
  show sSeq _ _ _ = _
  rw [ev_seq, ev_seq]
  congr 1
  funext fl s1
  cases fl <;> first | rfl | exact seq_assoc.symm
end Prog
end Cut
end
section
/-! CutProg3: a relay on a sending. -/
namespace Cut
open PySem PySem.Spec PyProof.Rows L2
namespace Prog

def wayOf (r : Rly) (s : Snd) : Way := match r.strm with | .same => s.way | .marks => .marks | .close => .close
theorem leftOf_lim {r : Rly} {s : Snd} {left : Int} (h : leftOf r s = some left) : ∃ l, r.lim = some l := by
  unfold leftOf at h
  cases hl : r.lim with
  | none => rw [hl] at h; cases h
  | some l => exact ⟨l, rfl⟩
theorem oS_look (o : Option Snd) (ob : Obs) : look ob (oS o) = oS o := by cases o <;> rfl
theorem treated_s (r : Rly) {s : Snd} (h : s.Ok) (ob : Obs) : f_treated [r.d, s.d] ob = .ok (.val (outD (treatS r s))) ob := by
  have h1 := left_of_s r h ob
  have h2 := reading_s s ob
  have h3 := is_long_s r s.units ob
  have h4 := troubles_s s ob
  have e1 : sSet 2 (eFrz (rCall f_left_of (aCons (eVar 0) (aCons (eVar 1) (aNil))))) ⟨[some r.d, some s.d, none, none, none], ob⟩ = .ok .nx ⟨[some r.d, some s.d, some (oD (leftOf r s)), none, none], ob⟩ := by simp [h1]
  have ht : treatS r s = match leftOf r s with
    | some left => refS r s left
    | none => if isLong r s.units = false then (heldS r s (readK s), trb s) else if r.over = .trim then (some (trimS r s), trb s) else (some (streamS r s s.units (longEnd r (wayOf r s) (readK s))), trb s) := rfl
  rw [ht]
  cases hl : leftOf r s with
  | some left =>
    obtain ⟨l, hlim⟩ := leftOf_lim hl
    have h5 := refused_s (s := s) (left := left) hlim ob
    rw [hl] at e1
    refine def_rt (sl := [some r.d, some s.d, some (.int left), none, none]) ?_ rfl
    unfold e_treated
    refine (seq_ok e1).trans ?_
    simp [oD, notD, isD, h5]
  | none =>
    rw [hl] at e1
    have hheld := held_s r s (readK s) ob
    have hend := long_end_s r (wayOf r s) (readK s) s.units ob
    have hstr := streamed_s r s s.units (longEnd r (wayOf r s) (readK s)) ob
    generalize readK s = k at *
    have e2 : sIf (tB (rOp (notD isD) (eVar 2) (eC .non))) (sRet (rCall f_refused (aCons (eVar 0) (aCons (eVar 1) (aCons (eVar 2) (aNil)))))) (sPass) ⟨[some r.d, some s.d, some (oD none), none, none], ob⟩ = .ok .nx ⟨[some r.d, some s.d, some (oD none), none, none], ob⟩ := by simp [oD, notD, isD]
    have e3 : sSet 3 (eFrz (rCall f_reading (aCons (eVar 1) (aNil)))) ⟨[some r.d, some s.d, some (oD none), none, none], ob⟩ = .ok .nx ⟨[some r.d, some s.d, some (oD none), some (rdD k s.units), none], ob⟩ := by simp [h2]
    by_cases hlong : isLong r s.units = false
    · rw [hlong] at h3
      rw [if_pos hlong]
      refine def_rt (sl := [some r.d, some s.d, some (oD none), some (rdD k s.units), none]) ?_ rfl
      unfold e_treated
      refine (seq_ok e1).trans <| (seq_ok e2).trans <| (seq_ok e3).trans ?_
      simp [h3, hheld, h4, outD, oS_look, line_ok]
    · have hlong' : isLong r s.units = true := by simpa using hlong
      rw [if_neg hlong]
      rw [hlong'] at h3
      have hh : r.hold ≠ none := fun z => by unfold isLong at hlong'; rw [z] at hlong'; cases hlong'
      have htr := trimmed_s s hh ob
      by_cases ho : r.over = .trim
      · rw [if_pos ho]
        refine def_rt (sl := [some r.d, some s.d, some (oD none), some (rdD k s.units), none]) ?_ rfl
        unfold e_treated
        refine (seq_ok e1).trans <| (seq_ok e2).trans <| (seq_ok e3).trans ?_
        simp [h3, ho, Over.s, eq_str, htr, h4, outD, oS, line_ok]
      · rw [if_neg ho]
        have ho' : r.over = .stream := by cases h : r.over <;> simp_all
        refine def_rt (sl := [some r.d, some s.d, some (oD none), some (rdD k s.units), some (.str (wayOf r s).s)]) ?_ rfl
        unfold e_treated
        refine (seq_ok e1).trans <| (seq_ok e2).trans <| (seq_ok e3).trans ?_
        have e4 : sSet 4 (eFrz (rIf (tB (rOp eqD (eFrz (rOp ixD (eVar 0) (eC (.int 3)))) (eC (.str "same")))) (rOp ixD (eVar 1) (eC (.int 1))) (rOp ixD (eVar 0) (eC (.int 3))))) ⟨[some r.d, some s.d, some (oD none), some (rdD k s.units), none], ob⟩ = .ok .nx ⟨[some r.d, some s.d, some (oD none), some (rdD k s.units), some (.str (wayOf r s).s)], ob⟩ := by
          cases hs : r.strm <;> simp [hs, wayOf, Strm.s, Way.s, eq_str, ofS_beq]
        rw [seq_ok (s1 := ⟨[some r.d, some s.d, some (oD none), some (rdD k s.units), none], ob⟩) (by simp [h3])]
        rw [seq_ok (s1 := ⟨[some r.d, some s.d, some (oD none), some (rdD k s.units), none], ob⟩) (by simp [ho', Over.s, eq_str, ofS_beq])]
        rw [seq_ok e4]
        simp [hend, hstr, h4, outD, oS, line_ok]
theorem wds_app (l : List Wd) (w : Wd) : (l.map fun w => D.str w.s) ++ [.str w.s] = (l ++ [w]).map fun w => D.str w.s := by simp
theorem Snd.Ok.shut {s : Snd} (h : s.Ok) : Snd.Ok { s with en := .shut } := ⟨h.meant, h.units, h.told, h.none_, fun z => by cases z⟩
theorem out_put (p : Option Snd × List Wd) (x0 x1 x2 x3 : Option D) : (Tg.tup [.var 2, .var 3]).put (outD p) [x0, x1, x2, x3] = some [x0, x1, some (oS p.1), some (wdsD p.2)] := rfl
theorem refS_len (r : Rly) (s : Snd) (left : Int) : (refS r s left).2.length ≤ 1 := by
  have h1 := trb_len s
  have h2 := List.length_filter_le (fun w => decide (w ≠ Wd.fooled)) (trb s)
  unfold refS
  cases r.rest <;> simp only <;> (repeat' split) <;> simp only [List.length_nil, List.length_cons] <;> omega
theorem treatS_len (r : Rly) (s : Snd) : (treatS r s).2.length ≤ 1 := by
  have h1 := trb_len s
  unfold treatS
  cases leftOf r s with
  | some left => exact refS_len r s left
  | none =>
    simp only
    (repeat' split) <;> exact h1
theorem ix_rd {k : Kd} {u : Int} : ixD (rdD k u) (.int 0) = some (.val (.str k.s)) := rfl
theorem led_s (r : Rly) {s : Snd} (h : s.Ok) (ob : Obs) : f_led_by [r.d, s.d] ob = .ok (.val (outD (ledS r s))) ob := by
  let s' : Snd := if r.wt = .cut ∧ readK s = .waits then { s with en := .shut } else s
  have hs' : s'.Ok := by
    show Snd.Ok (if _ then _ else _)
    split
    · exact h.shut
    · exact h
  have hr := reading_s s ob
  have e1 : sIf (tAnd2 (tB (rOp eqD (eFrz (rOp ixD (eVar 0) (eC (.int 5)))) (eC (.str "cut")))) (tB (rOp eqD (eFrz (rOp ixD (eFrz (rCall f_reading (aCons (eVar 1) (aNil)))) (eC (.int 0)))) (eC (.str "waits"))))) (sSet 1 (eTup (aStar (eFrz (rSlice (eVar 1) (oNone) (oSome (eC (.int 4))))) (aCons (eC (.str "shut")) (aNil))))) (sPass)
      ⟨[some r.d, some s.d, none, none], ob⟩ = .ok .nx ⟨[some r.d, some s'.d, none, none], ob⟩ := by
    have hc : sliceD s.d none (some 4) = some (.val (.tup [.int s.meant, .str s.way.s, oD s.told, .int s.units])) := rfl
    cases hw : r.wt with
    | wait => simp [hw, Wt.s, eq_str, ofS_beq, s']
    | cut =>
      cases hk : readK s with
      | waits =>
        have hsd : s'.d = .tup [.int s.meant, .str s.way.s, oD s.told, .int s.units, .str "shut"] := by simp [s', hw, hk, Snd.d, En.s]
        rw [hsd]
        simp [hw, hk, Wt.s, ix_rd, Kd.s, hr, eq_str, ofS_beq, hc, seqD, line_ok]
      | whole => simp [hw, hk, Wt.s, Kd.s, hr, ix_rd, eq_str, ofS_beq, s']
      | cut => simp [hw, hk, Wt.s, Kd.s, hr, ix_rd, eq_str, ofS_beq, s']
  have ht := treated_s r hs' ob
  have hr' := reading_s s' ob
  have hled : ledS r s = ((treatS r s').1, if (treatS r s').1 = none ∧ readK s' = .whole ∧ s'.units = s'.meant then (treatS r s').2 ++ [.lost] else (treatS r s').2) := rfl
  rw [hled]
  have hlen0 := treatS_len r s'
  generalize s' = t at *
  generalize treatS r t = p at *
  obtain ⟨out, found⟩ := p
  have e2 : sAsg (.tup [.var 2, .var 3]) (eFrz (rCall f_treated (aCons (eVar 0) (aCons (eVar 1) (aNil))))) ⟨[some r.d, some t.d, none, none], ob⟩ = .ok .nx ⟨[some r.d, some t.d, some (oS out), some (wdsD found)], ob⟩ := by simp [ht, out_put]
  have e3 : sIf (tAnd2 (tB (rOp (yesD isD) (eVar 2) (eC .non))) (tB (rOp eqD (eFrz (rCall f_reading (aCons (eVar 1) (aNil)))) (eTup (aCons (eC (.str "whole")) (aCons (eFrz (rOp ixD (eVar 1) (eC (.int 0)))) (aNil))))))) (sSet 3 (eTup (aStar (eVar 3) (aCons (eC (.str "lost")) (aNil))))) (sPass)
      ⟨[some r.d, some t.d, some (oS out), some (wdsD found)], ob⟩ = .ok .nx ⟨[some r.d, some t.d, some (oS out), some (wdsD (if out = none ∧ readK t = .whole ∧ t.units = t.meant then found ++ [.lost] else found))], ob⟩ := by
    have hwh : ∀ (k : Kd) (u m : Int), eqD (rdD k u) (.tup [.str "whole", .int m]) = some (.val (.bl (decide (k = .whole ∧ u = m)))) := by
      intro k u m
      rw [eq_ok (by simp [eqOk, rdD])]
      congr 3
      by_cases hu : u = m <;> cases k <;> simp [rdD, Kd.s, eqv_tup, eqv_str, eqv_int, ofS_beq, hu]
    cases out with
    | some o => simp [oS, Snd.d, yesD, isD]
    | none =>
      by_cases hk : readK t = .whole ∧ t.units = t.meant
      · have hi : (none : Option Snd) = none ∧ readK t = .whole ∧ t.units = t.meant := ⟨rfl, hk⟩
        rw [if_pos hi]
        have hse : seqD (wdsD found) = some (found.map fun w => .str w.s) := rfl
        have hrr : rdD (readK t) t.units = rdD .whole t.meant := by rw [hk.1, hk.2]
        have hst : wdsD (found ++ [Wd.lost]) = .tup (found.map (fun w => .str w.s) ++ [.str "lost"]) := by simp [wdsD, Wd.s]
        rw [hst]
        have hlen1 : found.length ≤ 1 := hlen0
        have hl3 : found.length + 1 ≤ sizeLine := of_eq_true (line_ok (by omega))
        rw [hrr] at hr'
        simp [oS, yesD, isD, hr', hwh, hse, line_ok, hl3]
      · have hi : ¬ ((none : Option Snd) = none ∧ readK t = .whole ∧ t.units = t.meant) := fun z => hk z.2
        rw [if_neg hi]
        simp [oS, yesD, isD, hr', hwh, hk, line_ok]
  refine def_rt (sl := [some r.d, some t.d, some (oS out), some (wdsD (if out = none ∧ readK t = .whole ∧ t.units = t.meant then found ++ [.lost] else found))]) ?_ rfl
  unfold e_led_by
  refine (seq_ok e1).trans <| (seq_ok e2).trans <| (seq_ok e3).trans ?_
  simp [outD, line_ok, oS_look]
end Prog
end Cut
end
section
namespace Cut
open PySem PySem.Spec PyProof.Rows L2
namespace Lw
noncomputable def l__law_kneaded_0 : SM :=
  sSet 3 (eFrz (rOp modD (eFrz (rB intD (aCons (eFrz (rOp addD (eFrz (rOp addD (eFrz (rOp addD (eFrz (rOp mulD (eVar 3) (eVar 3))) (eFrz (rOp mulD (eC (.int 11)) (eVar 3))))) (eFrz (rOp mulD (eC (.int 4099)) (eVar 4))))) (eVar 1))) (aNil)))) (eVar 2)))
noncomputable def e__law_kneaded : SM :=
  sSeq (sSet 2 (eC (.int 2305843009213693907))) <|
  sSeq (sSet 3 (eFrz (rOp modD (eFrz (rB intD (aCons (eFrz (rOp addD (eFrz (rOp addD (eFrz (rOp mulD (eVar 0) (eC (.int 2862933555777941757)))) (eFrz (rOp mulD (eVar 1) (eC (.int 3037000493)))))) (eC (.int 29)))) (aNil)))) (eVar 2)))) <|
  sSeq (sFor (iRange1 (eC (.int 4))) (.var 4) l__law_kneaded_0) <|
  sRet (rOp addD (eFrz (rOp mulD (eVar 3) (eVar 2))) (eFrz (rOp modD (eFrz (rB intD (aCons (eFrz (rOp addD (eFrz (rOp mulD (eVar 3) (eC (.int 69621)))) (eVar 1))) (aNil)))) (eVar 2))))
noncomputable def f__law_kneaded : FM := evDef 3 e__law_kneaded
noncomputable def e__law_below : SM :=
  sSeq (sIf (tB (rOp ltD (eFrz (rOp ixD (eVar 0) (eC (.int 3)))) (eVar 1))) (sSeq (sPar 4 5 (eFrz (rOp ixD (eVar 0) (eC (.int 0)))) (eFrz (rOp ixD (eVar 0) (eC (.int 1))))) <|
  sSeq (sSet 3 (eFrz (rIf (tB (rOp neD (eVar 4) (eFrz (rLst (aNil))))) (rOp ixD (eVar 4) (eFrz (rOp modD (eVar 5) (eFrz (rB lenD (aCons (eVar 4) (aNil))))))) (rVal (eC (.int 0)))))) <|
  sSeq (sIf (tOr2 (tB (rOp geD (eVar 5) (eFrz (rB lenD (aCons (eVar 4) (aNil)))))) (tB (rOp ltD (eVar 3) (eFrz (rOp powD (eC (.int 10)) (eC (.int 16))))))) (sSet 3 (eFrz (rCall f__law_kneaded (aCons (eFrz (rOp modD (eFrz (rB intD (aCons (eVar 3) (aNil)))) (eC (.int 982451629)))) (aCons (eVar 5) (aNil)))))) (sPass)) <|
  sSeq (sPut (eVar 0) (eC (.int 1)) (eFrz (rOp addD (eVar 5) (eC (.int 1))))) <|
  sSeq (sPut (eVar 0) (eC (.int 2)) (eVar 3)) <|
  sPut (eVar 0) (eC (.int 3)) (eVar 3)) (sPass)) <|
  sSeq (sSet 2 (eFrz (rOp modD (eFrz (rB intD (aCons (eFrz (rOp ixD (eVar 0) (eC (.int 2)))) (aNil)))) (eVar 1)))) <|
  sSeq (sPut (eVar 0) (eC (.int 2)) (eFrz (rOp fdivD (eFrz (rOp ixD (eVar 0) (eC (.int 2)))) (eVar 1)))) <|
  sSeq (sPut (eVar 0) (eC (.int 3)) (eFrz (rOp fdivD (eFrz (rOp ixD (eVar 0) (eC (.int 3)))) (eVar 1)))) <|
  sRet (rVal (eVar 2))
noncomputable def f__law_below : FM := evDef 4 e__law_below
noncomputable def e__law_pick : SM :=
  sRet (rOp ixD (eVar 1) (eFrz (rCall f__law_below (aCons (eVar 0) (aCons (eFrz (rB lenD (aCons (eVar 1) (aNil)))) (aNil))))))
noncomputable def f__law_pick : FM := evDef 0 e__law_pick
noncomputable def e__law_some_value : SM :=
  sRet (rB maxD (aCons (eC (.int 0)) (aCons (eFrz (rB minD (aCons (eFrz (rOp powD (eC (.int 10)) (eC (.int 12)))) (aCons (eFrz (rOp addD (eFrz (rCall f__law_pick (aCons (eVar 0) (aCons (eVar 1) (aNil))))) (eFrz (rCall f__law_pick (aCons (eVar 0) (aCons (eFrz (rLst (aCons (eC (.int 0)) (aCons (eC (.int 0)) (aCons (eC (.int 1)) (aCons (eC (.int 2)) (aCons (eFrz (rOp subD (eC (.int 0)) (eC (.int 1)))) (aNil)))))))) (aNil))))))) (aNil))))) (aNil))))
noncomputable def f__law_some_value : FM := evDef 0 e__law_some_value
noncomputable def e__law_some_relay : SM :=
  sSeq (sSet 2 (eFrz (rLst (aCons (eFrz (rLst (aCons (eC (.str "stream")) (aCons (eC (.str "trim")) (aNil))))) (aCons (eFrz (rLst (aCons (eC (.str "length")) (aCons (eC (.str "marks")) (aCons (eC (.str "close")) (aNil)))))) (aCons (eFrz (rLst (aCons (eC (.str "same")) (aCons (eC (.str "marks")) (aCons (eC (.str "close")) (aNil)))))) (aCons (eFrz (rLst (aCons (eC (.str "pass")) (aCons (eC (.str "whole")) (aCons (eC (.str "refuse")) (aNil)))))) (aNil)))))))) <|
  sSeq (sSet 3 (eFrz (rComp [5] (iSeq (eFrz (rOp addD (eVar 2) (eFrz (rLst (aCons (eFrz (rLst (aCons (eC (.str "wait")) (aCons (eC (.str "cut")) (aNil))))) (aNil))))))) (.var 5) (tTrue) (eFrz (rCall f__law_pick (aCons (eVar 0) (aCons (eVar 5) (aNil)))))))) <|
  sSeq (sSet 4 (eFrz (rLst (aCons (eFrz (rCall f__law_pick (aCons (eVar 0) (aCons (eFrz (rOp addD (eFrz (rLst (aCons (eC .non) (aCons (eC .non) (aNil))))) (eVar 1))) (aNil))))) (aCons (eFrz (rCall f__law_pick (aCons (eVar 0) (aCons (eFrz (rLst (aCons (eC (.str "drain")) (aCons (eC (.str "shut")) (aCons (eC (.str "leave")) (aNil)))))) (aNil))))) (aNil)))))) <|
  sRet (rB tupleD (aCons (eFrz (rOp addD (eFrz (rOp addD (eFrz (rLst (aCons (eFrz (rCall f__law_pick (aCons (eVar 0) (aCons (eFrz (rOp addD (eFrz (rLst (aCons (eC .non) (aNil)))) (eVar 1))) (aNil))))) (aNil)))) (eVar 3))) (eVar 4))) (aNil)))
noncomputable def f__law_some_relay : FM := evDef 4 e__law_some_relay
noncomputable def e__law_some_sending : SM :=
  sSeq (sAsg (.tup [.var 4, .var 5, .var 6]) (eFrz (rComp [7] (iRange1 (eC (.int 3))) (.var 7) (tTrue) (eFrz (rCall f__law_some_value (aCons (eVar 0) (aCons (eVar 1) (aNil)))))))) <|
  sSeq (sSet 2 (eFrz (rCall f__law_pick (aCons (eVar 0) (aCons (eFrz (rLst (aCons (eC (.str "length")) (aCons (eC (.str "length")) (aCons (eC (.str "marks")) (aCons (eC (.str "close")) (aNil))))))) (aNil)))))) <|
  sSeq (sSet 3 (eFrz (rCall f__law_pick (aCons (eVar 0) (aCons (eFrz (rOp addD (eFrz (rLst (aCons (eC (.str "open")) (aCons (eC (.str "shut")) (aNil))))) (eFrz (rOp mulD (eFrz (rLst (aCons (eC (.str "mark")) (aCons (eC (.str "mark")) (aNil))))) (eFrz (rB intD (aCons (eFrz (rOp eqD (eVar 2) (eC (.str "marks")))) (aNil)))))))) (aNil)))))) <|
  sSeq (sIf (tB (rOp eqD (eFrz (rCall f__law_below (aCons (eVar 0) (aCons (eC (.int 3)) (aNil))))) (eC (.int 0)))) (sSet 5 (eVar 4)) (sPass)) <|
  sSeq (sIf (tB (rOp eqD (eFrz (rCall f__law_below (aCons (eVar 0) (aCons (eC (.int 2)) (aNil))))) (eC (.int 0)))) (sSet 6 (eFrz (rCall f__law_pick (aCons (eVar 0) (aCons (eFrz (rLst (aCons (eVar 4) (aCons (eVar 5) (aNil))))) (aNil)))))) (sPass)) <|
  sRet (rVal (eTup (aCons (eVar 4) (aCons (eVar 2) (aCons (eFrz (rIf (tB (rOp eqD (eVar 2) (eC (.str "length")))) (rB maxD (aCons (eVar 6) (aCons (eVar 5) (aNil)))) (rVal (eC .non)))) (aCons (eVar 5) (aCons (eVar 3) (aNil))))))))
noncomputable def f__law_some_sending : FM := evDef 6 e__law_some_sending
noncomputable def e__law_read : SM :=
  sSeq (sAsg (.tup [.var 1, .var 2, .var 3, .var 4, .var 5]) (eVar 0)) <|
  sSeq (sIf (tTru (eFrz (rOp ixD (eFrz (rDisp (pCons (eC (.str "length")) (eFrz (rOp eqD (eVar 3) (eVar 4))) (pCons (eC (.str "marks")) (eFrz (rOp eqD (eVar 5) (eC (.str "mark")))) (pCons (eC (.str "close")) (eFrz (rOp eqD (eVar 5) (eC (.str "shut")))) (pNil)))))) (eVar 2)))) (sRet (rVal (eTup (aCons (eC (.str "whole")) (aCons (eVar 4) (aNil)))))) (sPass)) <|
  sRet (rVal (eIf (tB (rOp eqD (eVar 5) (eC (.str "shut")))) (eTup (aCons (eC (.str "cut")) (aCons (eVar 4) (aNil)))) (eTup (aCons (eC (.str "waits")) (aCons (eVar 4) (aNil))))))
noncomputable def f__law_read : FM := evDef 5 e__law_read
noncomputable def e__law_words : SM :=
  sSeq (sIf (tB (rOp eqD (eFrz (rOp ixD (eVar 1) (eC (.int 0)))) (eC (.str "waits")))) (sRet (rVal (eTup (aCons (eC (.str "waits")) (aNil))))) (sPass)) <|
  sRet (rVal (eIf (tAnd2 (tB (rOp eqD (eFrz (rOp ixD (eVar 1) (eC (.int 0)))) (eC (.str "whole")))) (tB (rOp neD (eFrz (rOp ixD (eVar 1) (eC (.int 1)))) (eVar 0)))) (eTup (aCons (eC (.str "fooled")) (aNil))) (eTup (aNil))))
noncomputable def f__law_words : FM := evDef 0 e__law_words
noncomputable def e__law_body : SM :=
  sSeq (sIf (tB (rOp eqD (eVar 1) (eC (.str "length")))) (sRet (rVal (eTup (aCons (eVar 0) (aCons (eVar 1) (aCons (eVar 2) (aCons (eVar 2) (aCons (eC (.str "open")) (aNil))))))))) (sPass)) <|
  sRet (rVal (eTup (aCons (eVar 0) (aCons (eVar 1) (aCons (eC .non) (aCons (eVar 2) (aCons (eIf (tB (rOp eqD (eVar 1) (eC (.str "marks")))) (eC (.str "mark")) (eC (.str "shut"))) (aNil))))))))
noncomputable def f__law_body : FM := evDef 0 e__law_body
noncomputable def e__law_on : SM :=
  sSeq (sIf (tB (rOp eqD (eFrz (rOp ixD (eVar 0) (eC (.int 3)))) (eC (.str "same")))) (sRet (rOp addD (eFrz (rSlice (eVar 1) (oNone) (oSome (eC (.int 3))))) (eTup (aCons (eVar 2) (aCons (eVar 3) (aNil)))))) (sPass)) <|
  sRet (rVal (eTup (aCons (eFrz (rOp ixD (eVar 1) (eC (.int 0)))) (aCons (eFrz (rOp ixD (eVar 0) (eC (.int 3)))) (aCons (eC .non) (aCons (eVar 2) (aCons (eVar 3) (aNil))))))))
noncomputable def f__law_on : FM := evDef 0 e__law_on
noncomputable def e__law_treated : SM :=
  sSeq (sAsg (.tup [.var 6, .var 7, .var 8, .var 9, .var 10, .var 11, .var 12, .var 13]) (eVar 0)) <|
  sSeq (sAsg (.tup [.var 14, .var 15, .var 16, .var 17, .var 18]) (eVar 1)) <|
  sSeq (sSet 2 (eFrz (rCall f__law_read (aCons (eVar 1) (aNil))))) <|
  sSeq (sPar 19 20 (eFrz (rCall f__law_words (aCons (eVar 14) (aCons (eVar 2) (aNil))))) (eFrz (rOp ixD (eVar 2) (eC (.int 1))))) <|
  sSeq (sSet 3 (eIf (tB (rOp eqD (eVar 15) (eC (.str "length")))) (eVar 16) (eVar 17))) <|
  sSeq (sIf (tAnd2 (tB (rOp (notD isD) (eVar 12) (eC .non))) (tB (rOp gtD (eVar 3) (eVar 12)))) (sSeq (sSet 21 (eFrz (rIf (tB (rOp eqD (eVar 15) (eC (.str "length")))) (rVal (eVar 17)) (rOp subD (eVar 17) (eVar 12))))) <|
  sSeq (sSet 22 (eFrz (rMeth "dict" getM (eFrz (rDisp (pCons (eC (.str "shut")) (eTup (aNil)) (pCons (eC (.str "leave")) (eIf (tAnd2 (tB (rOp gtD (eVar 21) (eC (.int 0)))) (tB (rOp neD (eVar 18) (eC (.str "shut"))))) (eTup (aCons (eC (.str "spills")) (aNil))) (eTup (aNil))) (pNil))))) (aCons (eVar 13) (aNil))))) <|
  sSeq (sIf (tB (rOp (yesD isD) (eVar 22) (eC .non))) (sSet 22 (eFrz (rB tupleD (aCons (eFrz (rComp [23] (iSeq (eVar 19)) (.var 23) (tB (rOp (yesD inD) (eVar 23) (eTup (aCons (eC (.str "waits")) (aCons (eC (.str "spills")) (aNil)))))) (eVar 23))) (aNil))))) (sPass)) <|
  sSeq (sIf (tOr2 (tB (rOp eqD (eVar 15) (eC (.str "length")))) (tOr2 (tB (rOp (yesD isD) (eVar 6) (eC .non))) (tB (rOp leD (eVar 12) (eVar 6))))) (sRet (rVal (eTup (aCons (eC .non) (aCons (eVar 22) (aNil)))))) (sPass)) <|
  sRet (rVal (eTup (aCons (eFrz (rIf (tB (rOp eqD (eVar 7) (eC (.str "trim")))) (rCall f__law_body (aCons (eVar 14) (aCons (eVar 8) (aCons (eVar 6) (aNil))))) (rCall f__law_on (aCons (eVar 0) (aCons (eVar 1) (aCons (eVar 12) (aCons (eC (.str "shut")) (aNil)))))))) (aCons (eVar 22) (aNil)))))) (sPass)) <|
  sSeq (sIf (tOr2 (tB (rOp (yesD isD) (eVar 6) (eC .non))) (tB (rOp leD (eVar 20) (eVar 6)))) (sSeq (sIf (tOr2 (tB (rOp eqD (eFrz (rOp ixD (eVar 2) (eC (.int 0)))) (eC (.str "whole")))) (tAnd2 (tB (rOp eqD (eFrz (rOp ixD (eVar 2) (eC (.int 0)))) (eC (.str "cut")))) (tB (rOp eqD (eVar 10) (eC (.str "whole")))))) (sRet (rVal (eTup (aCons (eFrz (rCall f__law_body (aCons (eVar 14) (aCons (eVar 8) (aCons (eVar 20) (aNil)))))) (aCons (eVar 19) (aNil)))))) (sPass)) <|
  sRet (rVal (eTup (aCons (eFrz (rIf (tB (rOp eqD (eTup (aCons (eFrz (rOp ixD (eVar 2) (eC (.int 0)))) (aCons (eVar 10) (aNil)))) (eTup (aCons (eC (.str "cut")) (aCons (eC (.str "pass")) (aNil)))))) (rCall f__law_on (aCons (eVar 0) (aCons (eVar 1) (aCons (eVar 20) (aCons (eC (.str "shut")) (aNil)))))) (rVal (eC .non)))) (aCons (eVar 19) (aNil)))))) (sPass)) <|
  sSeq (sIf (tB (rOp eqD (eVar 7) (eC (.str "trim")))) (sRet (rVal (eTup (aCons (eFrz (rCall f__law_body (aCons (eVar 14) (aCons (eVar 8) (aCons (eVar 6) (aNil)))))) (aCons (eVar 19) (aNil)))))) (sPass)) <|
  sSeq (sSet 4 (eIf (tB (rOp eqD (eVar 9) (eC (.str "same")))) (eVar 15) (eVar 9))) <|
  sSeq (sSet 5 (eFrz (rOp ixD (eFrz (rDisp (pCons (eC (.str "length")) (eC (.str "open")) (pCons (eC (.str "marks")) (eC (.str "mark")) (pCons (eC (.str "close")) (eC (.str "shut")) (pNil)))))) (eVar 4)))) <|
  sSeq (sIf (tAnd2 (tB (rOp eqD (eFrz (rOp ixD (eVar 2) (eC (.int 0)))) (eC (.str "cut")))) (tB (rOp neD (eVar 10) (eC (.str "whole"))))) (sSet 5 (eC (.str "shut"))) (sPass)) <|
  sRet (rVal (eTup (aCons (eFrz (rCall f__law_on (aCons (eVar 0) (aCons (eVar 1) (aCons (eVar 20) (aCons (eIf (tB (rOp eqD (eFrz (rOp ixD (eVar 2) (eC (.int 0)))) (eC (.str "waits")))) (eC (.str "open")) (eVar 5)) (aNil))))))) (aCons (eVar 19) (aNil)))))
noncomputable def f__law_treated : FM := evDef 22 e__law_treated
noncomputable def e__law_relayed : SM :=
  sSeq (sIf (tAnd2 (tB (rOp eqD (eFrz (rOp ixD (eVar 0) (eC (.int 5)))) (eC (.str "cut")))) (tB (rOp eqD (eFrz (rOp ixD (eFrz (rCall f__law_read (aCons (eVar 1) (aNil)))) (eC (.int 0)))) (eC (.str "waits"))))) (sSet 1 (eFrz (rOp addD (eFrz (rSlice (eVar 1) (oNone) (oSome (eC (.int 4))))) (eTup (aCons (eC (.str "shut")) (aNil)))))) (sPass)) <|
  sSeq (sAsg (.tup [.var 3, .var 4]) (eFrz (rCall f__law_treated (aCons (eVar 0) (aCons (eVar 1) (aNil)))))) <|
  sSeq (sSet 2 (eAnd (eFrz (rOp (yesD isD) (eVar 3) (eC .non))) (eFrz (rOp eqD (eFrz (rCall f__law_read (aCons (eVar 1) (aNil)))) (eTup (aCons (eC (.str "whole")) (aCons (eFrz (rOp ixD (eVar 1) (eC (.int 0)))) (aNil)))))))) <|
  sRet (rVal (eTup (aCons (eVar 3) (aCons (eFrz (rIf (tTru (eVar 2)) (rOp addD (eVar 4) (eTup (aCons (eC (.str "lost")) (aNil)))) (rVal (eVar 4)))) (aNil)))))
noncomputable def f__law_relayed : FM := evDef 3 e__law_relayed
end Lw
end Cut
end
section
/-! CutProg5: the laws' own reading and treating, as plain Lean. -/
namespace Cut
open PySem PySem.Spec PyProof.Rows L2
namespace Prog
open Lw
theorem law_read_s {s : Snd} (hok : s.Ok) (ob : Obs) : f__law_read [s.d] ob = .ok (.val (rdD (readK s) s.units)) ob := by
  refine def_rt (sl := [some s.d, some (.int s.meant), some (.str s.way.s), some (oD s.told), some (.int s.units), some (.str s.en.s)]) ?_ rfl
  have hm := hok.mark
  obtain ⟨m, w, t, u, e⟩ := s
  simp only at hm
  unfold e__law_read
  cases w with
  | length =>
    cases t with
    | none => cases e <;> first | (exact absurd (hm rfl) (by decide)) | simp [Snd.d, rdD, readK, isWhole, oD, Way.s, En.s, Kd.s, Tg.put, Tg.puts, seqD, eq_ok, eqOk, ofS_beq, ofS_eq, line_ok, dispD, putD, putVs, hasK, ixD, getK]
    | some t =>
      by_cases h : t = u
      · subst h
        cases e <;> first | (exact absurd (hm rfl) (by decide)) | simp [Snd.d, rdD, readK, isWhole, oD, Way.s, En.s, Kd.s, Tg.put, Tg.puts, seqD, eq_ok, eqOk, ofS_beq, ofS_eq, line_ok, dispD, putD, putVs, hasK, ixD, getK]
      · have h1 : ¬ u = t := fun z => h z.symm
        cases e <;> first | (exact absurd (hm rfl) (by decide)) | simp [Snd.d, rdD, readK, isWhole, oD, Way.s, En.s, Kd.s, Tg.put, Tg.puts, seqD, eq_ok, eqOk, ofS_beq, ofS_eq, line_ok, dispD, putD, putVs, hasK, ixD, getK, h, h1]
  | marks =>
    cases t <;> cases e <;> first | (exact absurd (hm rfl) (by decide)) | simp [Snd.d, rdD, readK, isWhole, oD, Way.s, En.s, Kd.s, Tg.put, Tg.puts, seqD, eq_ok, eqOk, ofS_beq, ofS_eq, line_ok, dispD, putD, putVs, hasK, ixD, getK]
  | close =>
    cases t <;> cases e <;> first | (exact absurd (hm rfl) (by decide)) | simp [Snd.d, rdD, readK, isWhole, oD, Way.s, En.s, Kd.s, Tg.put, Tg.puts, seqD, eq_ok, eqOk, ofS_beq, ofS_eq, line_ok, dispD, putD, putVs, hasK, ixD, getK]
theorem law_words_s (s : Snd) (ob : Obs) : f__law_words [.int s.meant, rdD (readK s) s.units] ob = .ok (.val (wdsD (trb s))) ob := by
  refine def_rt (sl := [some (.int s.meant), some (rdD (readK s) s.units)]) ?_ rfl
  have ht : trb s = match readK s with
    | .waits => [.waits]
    | .whole => if s.units = s.meant then [] else [.fooled]
    | .cut => [] := rfl
  rw [ht]
  generalize readK s = k
  unfold e__law_words
  cases k with
  | whole => by_cases hm : s.units = s.meant <;> simp [rdD, wdsD, Kd.s, Wd.s, ixD, eq_str, ne_int, ofS_beq, line_ok, hm]
  | cut => simp [rdD, wdsD, Kd.s, Wd.s, ixD, eq_str, ne_int, ofS_beq, line_ok]
  | waits => simp [rdD, wdsD, Kd.s, Wd.s, ixD, eq_str, ne_int, ofS_beq, line_ok]
theorem law_body_s (m : Int) (w : Way) (b : Int) (ob : Obs) : f__law_body [.int m, .str w.s, .int b] ob = .ok (.val (wholeS m w b).d) ob := by
  refine def_rt (sl := [some (.int m), some (.str w.s), some (.int b)]) ?_ rfl
  unfold e__law_body
  cases w <;> simp [wholeS, Snd.d, oD, endOf, Way.s, En.s, eq_str, ofS_beq, line_ok]
theorem law_on_s (r : Rly) (s : Snd) (u : Int) (e : En) (ob : Obs) : f__law_on [r.d, s.d, .int u, .str e.s] ob = .ok (.val (streamS r s u e).d) ob := by
  refine def_rt (sl := [some r.d, some s.d, some (.int u), some (.str e.s)]) ?_ rfl
  unfold e__law_on
  have hc : sliceD s.d none (some 3) = some (.val (.tup [.int s.meant, .str s.way.s, oD s.told])) := rfl
  cases hs : r.strm with
  | same => simp [hs, streamS, Strm.s, eq_str, ofS_beq, line_ok, hc, addD, lenOk]; rfl
  | marks => simp [hs, streamS, Strm.s, eq_str, ofS_beq, line_ok]; rfl
  | close => simp [hs, streamS, Strm.s, eq_str, ofS_beq, line_ok]; rfl
end Prog
end Cut
end
section
/-! CutProg6: the laws' own treating, as plain Lean. -/
namespace Cut
open PySem PySem.Spec PyProof.Rows L2
namespace Prog
open Lw
@[simp] theorem way_length : Way.s .length = "length" := rfl
@[simp] theorem way_marks : Way.s .marks = "marks" := rfl
@[simp] theorem way_close : Way.s .close = "close" := rfl
@[simp] theorem en_mark : En.s .mark = "mark" := rfl
@[simp] theorem en_opn : En.s .opn = "open" := rfl
@[simp] theorem en_shut : En.s .shut = "shut" := rfl
@[simp] theorem over_stream : Over.s .stream = "stream" := rfl
@[simp] theorem over_trim : Over.s .trim = "trim" := rfl
@[simp] theorem strm_same : Strm.s .same = "same" := rfl
@[simp] theorem strm_marks : Strm.s .marks = "marks" := rfl
@[simp] theorem strm_close : Strm.s .close = "close" := rfl
@[simp] theorem ct_pass : Ct.s .pass = "pass" := rfl
@[simp] theorem ct_whole : Ct.s .whole = "whole" := rfl
@[simp] theorem ct_refuse : Ct.s .refuse = "refuse" := rfl
@[simp] theorem wt_wait : Wt.s .wait = "wait" := rfl
@[simp] theorem wt_cut : Wt.s .cut = "cut" := rfl
@[simp] theorem rst_drain : Rst.s .drain = "drain" := rfl
@[simp] theorem rst_shut : Rst.s .shut = "shut" := rfl
@[simp] theorem rst_leave : Rst.s .leave = "leave" := rfl
@[simp] theorem kd_whole : Kd.s .whole = "whole" := rfl
@[simp] theorem kd_cut : Kd.s .cut = "cut" := rfl
@[simp] theorem kd_waits : Kd.s .waits = "waits" := rfl
@[simp] theorem wd_waits : Wd.s .waits = "waits" := rfl
@[simp] theorem wd_fooled : Wd.s .fooled = "fooled" := rfl
@[simp] theorem wd_spills : Wd.s .spills = "spills" := rfl
@[simp] theorem wd_lost : Wd.s .lost = "lost" := rfl
@[simp] theorem oD_some {i : Int} : oD (some i) = .int i := rfl
@[simp] theorem oD_none : oD none = .non := rfl
@[simp] theorem oS_some {s : Snd} : oS (some s) = s.d := rfl
@[simp] theorem oS_none : oS none = .non := rfl
@[simp] theorem ty_dct {ks vs : List D} {ob : Obs} : tyD "dict" (.dct ks vs) ob = true := by simp [tyD]
def measure (s : Snd) : Int := if s.way = .length then s.told.getD 0 else s.units
def leftAt (s : Snd) (l : Int) : Int := if s.way = .length then s.units else s.units - l
theorem leftOf_eq (r : Rly) (s : Snd) : leftOf r s = match r.lim with | none => none | some l => if l < measure s then some (leftAt s l) else none := by
  unfold leftOf measure leftAt
  cases r.lim with
  | none => rfl
  | some l => cases s.way <;> simp
theorem drain_eq (s : Snd) : (trb s).filter (fun w => decide (w ≠ .fooled)) = (trb s).filter (fun w => decide (w = .waits ∨ w = .spills)) := by
  unfold trb
  cases readK s with
  | waits => rfl
  | cut => rfl
  | whole => simp only; split <;> rfl
def tl (r : Rly) (s : Snd) (x4 x5 x21 x22 : Option D) : List (Option D) :=
  [some r.d, some s.d, some (rdD (readK s) s.units), some (.int (measure s)), x4, x5, some (oD r.hold), some (.str r.over.s), some (.str r.whole.s), some (.str r.strm.s), some (.str r.ct.s), some (.str r.wt.s), some (oD r.lim), some (.str r.rest.s), some (.int s.meant), some (.str s.way.s), some (oD s.told), some (.int s.units), some (.str s.en.s), some (wdsD (trb s)), some (.int s.units), x21, x22, none]
def foundS (r : Rly) (s : Snd) (left : Int) : List Wd := match r.rest with
  | .leave => if 0 < left ∧ s.en ≠ .shut then [.spills] else []
  | .drain => (trb s).filter fun w => decide (w ≠ .fooled)
  | .shut => []
theorem refS_eq (r : Rly) (s : Snd) (left : Int) : refS r s left = if s.way = .length ∨ isLong r (r.lim.getD 0) = false then (none, foundS r s left) else if r.over = .trim then (some (trimS r s), foundS r s left) else (some (streamS r s (r.lim.getD 0) .shut), foundS r s left) := rfl
theorem tr_found (r : Rly) (s : Snd) {l : Int} (hl : r.lim = some l) (ob : Obs) :
    sSeq (sSet 21 (eFrz (rIf (tB (rOp eqD (eVar 15) (eC (.str "length")))) (rVal (eVar 17)) (rOp subD (eVar 17) (eVar 12))))) (
  sSeq (sSet 22 (eFrz (rMeth "dict" getM (eFrz (rDisp (pCons (eC (.str "shut")) (eTup (aNil)) (pCons (eC (.str "leave")) (eIf (tAnd2 (tB (rOp gtD (eVar 21) (eC (.int 0)))) (tB (rOp neD (eVar 18) (eC (.str "shut"))))) (eTup (aCons (eC (.str "spills")) (aNil))) (eTup (aNil))) (pNil))))) (aCons (eVar 13) (aNil))))) (
  sIf (tB (rOp (yesD isD) (eVar 22) (eC .non))) (sSet 22 (eFrz (rB tupleD (aCons (eFrz (rComp [23] (iSeq (eVar 19)) (.var 23) (tB (rOp (yesD inD) (eVar 23) (eTup (aCons (eC (.str "waits")) (aCons (eC (.str "spills")) (aNil)))))) (eVar 23))) (aNil))))) (sPass)))
      ⟨tl r s none none none none, ob⟩ = .ok .nx ⟨tl r s none none (some (.int (leftAt s l))) (some (wdsD (foundS r s (leftAt s l)))), ob⟩ := by
  have e1 : sSet 21 (eFrz (rIf (tB (rOp eqD (eVar 15) (eC (.str "length")))) (rVal (eVar 17)) (rOp subD (eVar 17) (eVar 12)))) ⟨tl r s none none none none, ob⟩ = .ok .nx ⟨tl r s none none (some (.int (leftAt s l))) none, ob⟩ := by
    cases hw : s.way <;> simp [tl, hw, Way.s, eq_str, ofS_beq, leftAt, hl, oD, sub_int]
  refine (seq_ok e1).trans ?_
  generalize leftAt s l = left
  cases hr : r.rest with
  | shut =>
    have hf : foundS r s left = [] := by unfold foundS; rw [hr]
    rw [hf]
    have hg : gtD (.int left) (.int 0) = some (.val (.bl (decide (0 < left)))) := by simp
    rw [seq_ok (s1 := ⟨tl r s none none (some (.int left)) (some (wdsD [])), ob⟩) (by
      cases h1 : decide (0 < left) <;> cases he : s.en <;> simp [tl, hr, hg, h1, he, En.s, Rst.s, wdsD, eq_str, ne_str, ofS_beq, ofS_eq, line_ok, dispD, putD, putVs, hasK, getD2, getM, getK])]
    simp [tl, wdsD, yesD, isD]
  | leave =>
    have hf : foundS r s left = if 0 < left ∧ s.en ≠ .shut then [.spills] else [] := by unfold foundS; rw [hr]
    rw [hf]
    by_cases h1 : 0 < left
    · cases he : s.en <;> simp [tl, hr, h1, he, En.s, Rst.s, wdsD, Wd.s, eq_str, ne_str, ofS_beq, ofS_eq, line_ok, dispD, putD, putVs, hasK, getD2, getM, getK, yesD, isD]
    · simp [tl, hr, h1, Rst.s, wdsD, eq_str, ne_str, ofS_beq, ofS_eq, line_ok, dispD, putD, putVs, hasK, getD2, getM, getK, yesD, isD]
  | drain =>
    have hf : foundS r s left = (trb s).filter fun w => decide (w ≠ .fooled) := by unfold foundS; rw [hr]
    rw [hf, drain_eq]
    have hg : gtD (.int left) (.int 0) = some (.val (.bl (decide (0 < left)))) := by simp
    rw [seq_ok (s1 := ⟨tl r s none none (some (.int left)) (some .non), ob⟩) (by
      cases h1 : decide (0 < left) <;> cases he : s.en <;> simp [tl, hr, hg, h1, he, En.s, Rst.s, wdsD, eq_str, ne_str, ofS_beq, ofS_eq, line_ok, dispD, putD, putVs, hasK, getD2, getM, getK])]
    have hlen : ((trb s).filter fun w => decide (w = .waits ∨ w = .spills)).length ≤ 16777216 := by
      have h1 := trb_len s
      have h2 := List.length_filter_le (fun w => decide (w = Wd.waits ∨ w = .spills)) (trb s)
      omega
    have hlen2 : (((trb s).filter fun w => decide (w = .waits ∨ w = .spills)).map fun w => D.str w.s).length ≤ 16777216 := by rw [List.length_map]; exact hlen
    have hc := lcGo_words (fun w => decide (w = .waits ∨ w = .spills)) (tB (rOp (yesD inD) (eVar 23) (eTup (aCons (eC (.str "waits")) (aCons (eC (.str "spills")) (aNil)))))) (tl r s none none (some (.int left)) (some .non)) 23 ob (by simp [tl]) (fun w => by cases w <;> simp [tl, Wd.s, yesD, inD, inOk, memD, ofS_beq, line_ok]) (trb s)
    have hit2 : itemsD (wdsD (trb s)) = some ((trb s).map fun w => .str w.s) := rfl
    have hw : wipeD (tl r s none none (some (.int left)) (some .non)) [23] = tl r s none none (some (.int left)) (some .non) := rfl
    have v22 : eVar 22 ⟨tl r s none none (some (.int left)) (some .non), ob⟩ = .ok .non ⟨tl r s none none (some (.int left)) (some .non), ob⟩ := rfl
    have v19 : eVar 19 ⟨tl r s none none (some (.int left)) (some .non), ob⟩ = .ok (wdsD (trb s)) ⟨tl r s none none (some (.int left)) (some .non), ob⟩ := rfl
    simp only [ev_if, ev_tB, ev_op, v22, bind_ok, ev_C, yesD, isD, Option.map_some, opt_some, tbo_bl, look_non, if_true, ev_set, ev_frz, ev_b, ev_cons, ev_comp, ev_iseq, v19, hit2, sqo_some, hw, hc, cfin_ok hlen2, toD_fl, ev_nil, List.map_cons, List.map_nil, look_lst, tupleD]
    rfl
theorem seq_ok3 {a b c d : SM} {s s1 : PSt} (h : sSeq a (sSeq b c) s = .ok .nx s1) : sSeq a (sSeq b (sSeq c d)) s = d s1 := by
  have e1 : sSeq (sSeq a (sSeq b c)) d s = d s1 := seq_ok h
  rw [seq_assoc] at e1
  have e : sSeq (sSeq b c) d = sSeq b (sSeq c d) := funext fun s => seq_assoc
  rw [e] at e1
  exact e1
theorem tl_top (r : Rly) {s : Snd} (h : s.Ok) (ob : Obs) {F : SM} :
    sSeq (sAsg (.tup [.var 6, .var 7, .var 8, .var 9, .var 10, .var 11, .var 12, .var 13]) (eVar 0)) (
  sSeq (sAsg (.tup [.var 14, .var 15, .var 16, .var 17, .var 18]) (eVar 1)) (
  sSeq (sSet 2 (eFrz (rCall f__law_read (aCons (eVar 1) (aNil))))) (
  sSeq (sPar 19 20 (eFrz (rCall f__law_words (aCons (eVar 14) (aCons (eVar 2) (aNil))))) (eFrz (rOp ixD (eVar 2) (eC (.int 1))))) (
  sSeq (sSet 3 (eIf (tB (rOp eqD (eVar 15) (eC (.str "length")))) (eVar 16) (eVar 17))) F))))
      ⟨[some r.d, some s.d, none, none, none, none, none, none, none, none, none, none, none, none, none, none, none, none, none, none, none, none, none, none], ob⟩ = F ⟨tl r s none none none none, ob⟩ := by
  have e1 : sAsg (.tup [.var 6, .var 7, .var 8, .var 9, .var 10, .var 11, .var 12, .var 13]) (eVar 0) ⟨[some r.d, some s.d, none, none, none, none, none, none, none, none, none, none, none, none, none, none, none, none, none, none, none, none, none, none], ob⟩ =
      .ok .nx ⟨[some r.d, some s.d, none, none, none, none, some (oD r.hold), some (.str r.over.s), some (.str r.whole.s), some (.str r.strm.s), some (.str r.ct.s), some (.str r.wt.s), some (oD r.lim), some (.str r.rest.s), none, none, none, none, none, none, none, none, none, none], ob⟩ := rfl
  have e2 : sAsg (.tup [.var 14, .var 15, .var 16, .var 17, .var 18]) (eVar 1) ⟨[some r.d, some s.d, none, none, none, none, some (oD r.hold), some (.str r.over.s), some (.str r.whole.s), some (.str r.strm.s), some (.str r.ct.s), some (.str r.wt.s), some (oD r.lim), some (.str r.rest.s), none, none, none, none, none, none, none, none, none, none], ob⟩ =
      .ok .nx ⟨[some r.d, some s.d, none, none, none, none, some (oD r.hold), some (.str r.over.s), some (.str r.whole.s), some (.str r.strm.s), some (.str r.ct.s), some (.str r.wt.s), some (oD r.lim), some (.str r.rest.s), some (.int s.meant), some (.str s.way.s), some (oD s.told), some (.int s.units), some (.str s.en.s), none, none, none, none, none], ob⟩ := rfl
  rw [seq_ok e1, seq_ok e2]
  have h1 := law_read_s h ob
  have h2 := law_words_s s ob
  rw [seq_ok (s1 := ⟨[some r.d, some s.d, some (rdD (readK s) s.units), none, none, none, some (oD r.hold), some (.str r.over.s), some (.str r.whole.s), some (.str r.strm.s), some (.str r.ct.s), some (.str r.wt.s), some (oD r.lim), some (.str r.rest.s), some (.int s.meant), some (.str s.way.s), some (oD s.told), some (.int s.units), some (.str s.en.s), none, none, none, none, none], ob⟩) (by simp [h1])]
  have h3 : ixD (rdD (readK s) s.units) (.int 1) = some (.val (.int s.units)) := rfl
  rw [seq_ok (s1 := ⟨[some r.d, some s.d, some (rdD (readK s) s.units), none, none, none, some (oD r.hold), some (.str r.over.s), some (.str r.whole.s), some (.str r.strm.s), some (.str r.ct.s), some (.str r.wt.s), some (oD r.lim), some (.str r.rest.s), some (.int s.meant), some (.str s.way.s), some (oD s.told), some (.int s.units), some (.str s.en.s), some (wdsD (trb s)), some (.int s.units), none, none, none], ob⟩) (by simp [h2, h3])]
  have h4 := h.told
  rw [seq_ok (s1 := ⟨tl r s none none none none, ob⟩) (by
    cases hw : s.way with
    | length =>
      obtain ⟨t, ht, _⟩ := h4 hw
      simp [tl, measure, hw, ht, Way.s, eq_str, oD]
    | marks => simp [tl, measure, hw, Way.s, eq_str, ofS_beq]
    | close => simp [tl, measure, hw, Way.s, eq_str, ofS_beq])]
theorem law_treated_s (r : Rly) {s : Snd} (h : s.Ok) (ob : Obs) : f__law_treated [r.d, s.d] ob = .ok (.val (outD (treatS r s))) ob := by
  have ht : treatS r s = match leftOf r s with
    | some left => refS r s left
    | none => if isLong r s.units = false then (heldS r s (readK s), trb s) else if r.over = .trim then (some (trimS r s), trb s) else (some (streamS r s s.units (longEnd r (wayOf r s) (readK s))), trb s) := rfl
  rw [ht, leftOf_eq]
  by_cases hlim : ∃ l, r.lim = some l ∧ l < measure s
  · obtain ⟨l, hl, hlt⟩ := hlim
    simp only [hl, if_pos hlt]
    have hfo := tr_found r s hl ob
    have hreq := refS_eq r s (leftAt s l)
    rw [hreq]
    generalize hF : foundS r s (leftAt s l) = fo at *
    generalize leftAt s l = left at *
    have hb := law_body_s s.meant r.whole
    have hon := law_on_s r s l .shut ob
    simp only [En.s] at hon
    refine def_rt (sl := tl r s none none (some (.int left)) (some (wdsD fo))) ?_ rfl
    unfold e__law_treated
    refine (tl_top r h ob).trans ?_
    have hg : gtD (.int (measure s)) (.int l) = some (.val (.bl true)) := by simp [hlt]
    refine seq_rt ?_
    have vlim : ∀ x y, eVar 12 ⟨tl r s none none x y, ob⟩ = .ok (.int l) ⟨tl r s none none x y, ob⟩ := fun x y => by
      show _ = Out.ok (D.int l) _
      have : oD r.lim = .int l := by rw [hl]; rfl
      rw [← this]; rfl
    have vm : ∀ x y, eVar 3 ⟨tl r s none none x y, ob⟩ = .ok (.int (measure s)) ⟨tl r s none none x y, ob⟩ := fun _ _ => rfl
    rw [ev_if]
    have ht : tAnd2 (tB (rOp (notD isD) (eVar 12) (eC .non))) (tB (rOp gtD (eVar 3) (eVar 12))) ⟨tl r s none none none none, ob⟩ = .ok true ⟨tl r s none none none none, ob⟩ := by
      simp [vlim, vm, notD, isD, hlt]
    rw [ht]
    simp only [bind_ok, if_true]
    refine (seq_ok3 hfo).trans ?_
    by_cases hlong : isLong r l = true
    · obtain ⟨hd, hh, hlt2⟩ : ∃ hd, r.hold = some hd ∧ hd < l := by
        unfold isLong at hlong
        cases hh : r.hold with
        | none => rw [hh] at hlong; cases hlong
        | some hd => rw [hh] at hlong; exact ⟨hd, rfl, by simpa using hlong⟩
      have hle : ¬ l ≤ hd := by omega
      have hb2 := hb hd ob
      have htr : trimS r s = wholeS s.meant r.whole hd := by unfold trimS; rw [hh]; rfl
      rw [htr]
      have hl' : r.lim = some l := hl
      cases hw : s.way <;> cases ho : r.over <;> simp [tl, hh, hl, hw, ho, hlong, hle, eq_str, ofS_beq, yesD, isD, hb2, hon, outD, line_ok]
    · have hlong : isLong r l = false := by simpa using hlong
      have hh : r.hold = none ∨ ∃ hd, r.hold = some hd ∧ l ≤ hd := by
        unfold isLong at hlong
        cases hh : r.hold with
        | none => exact .inl rfl
        | some hd => rw [hh] at hlong; exact .inr ⟨hd, rfl, by simpa using hlong⟩
      rcases hh with hh | ⟨hd, hh, hle⟩
      · cases hw : s.way <;> simp [tl, hh, hl, hw, hlong, eq_str, ofS_beq, yesD, isD, outD, line_ok]
      · cases hw : s.way <;> simp [tl, hh, hl, hw, hlong, hle, eq_str, ofS_beq, yesD, isD, outD, line_ok]
  · have hn : (match r.lim with | none => none | some l => if l < measure s then some (leftAt s l) else none) = (none : Option Int) := by
      cases hl : r.lim with
      | none => rfl
      | some l => exact if_neg fun z => hlim ⟨l, hl, z⟩
    rw [hn]
    simp only
    have e0 : ∀ {A : SM}, sIf (tAnd2 (tB (rOp (notD isD) (eVar 12) (eC .non))) (tB (rOp gtD (eVar 3) (eVar 12)))) A sPass ⟨tl r s none none none none, ob⟩ = .ok .nx ⟨tl r s none none none none, ob⟩ := by
      intro A
      cases hl : r.lim with
      | none => simp [tl, hl, oD, notD, isD]
      | some l =>
        have hle : ¬ l < measure s := fun z => hlim ⟨l, hl, z⟩
        simp [tl, hl, oD, notD, isD, hle]
    by_cases hlong : isLong r s.units = false
    · rw [if_pos hlong]
      refine def_rt (sl := tl r s none none none none) ?_ rfl
      unfold e__law_treated
      refine (tl_top r h ob).trans ((seq_ok e0).trans ?_)
      refine seq_rt ?_
      have t1 : tOr2 (tB (rOp (yesD isD) (eVar 6) (eC .non))) (tB (rOp leD (eVar 20) (eVar 6))) ⟨tl r s none none none none, ob⟩ = .ok true ⟨tl r s none none none none, ob⟩ := by
        unfold isLong at hlong
        cases hh : r.hold with
        | none => simp [tl, hh, oD, yesD, isD]
        | some hd =>
          rw [hh] at hlong
          have hle : s.units ≤ hd := by simpa using hlong
          simp [tl, hh, oD, yesD, isD, hle]
      rw [ev_if, t1]
      simp only [bind_ok, if_true]
      have hb := law_body_s s.meant r.whole s.units ob
      have hon := law_on_s r s s.units .shut ob
      simp only [En.s] at hon
      unfold tl
      generalize readK s = k
      cases k <;> cases hc : r.ct <;> simp [hc, heldS, ix_rd, Kd.s, Ct.s, eq_str, ofS_beq, hb, hon, outD, oS, line_ok, eq_ok, eqOk]
    · rw [if_neg hlong]
      have hlong : isLong r s.units = true := by simpa using hlong
      obtain ⟨hd, hh, hlt2⟩ : ∃ hd, r.hold = some hd ∧ hd < s.units := by
        unfold isLong at hlong
        cases hh : r.hold with
        | none => rw [hh] at hlong; cases hlong
        | some hd => rw [hh] at hlong; exact ⟨hd, rfl, by simpa using hlong⟩
      have e1 : ∀ {A : SM}, sIf (tOr2 (tB (rOp (yesD isD) (eVar 6) (eC .non))) (tB (rOp leD (eVar 20) (eVar 6)))) A sPass ⟨tl r s none none none none, ob⟩ = .ok .nx ⟨tl r s none none none none, ob⟩ := by
        intro A
        have hle : ¬ s.units ≤ hd := by omega
        simp [tl, hh, oD, yesD, isD, hle]
      by_cases ho : r.over = .trim
      · rw [if_pos ho]
        refine def_rt (sl := tl r s none none none none) ?_ rfl
        unfold e__law_treated
        refine (tl_top r h ob).trans ((seq_ok e0).trans ((seq_ok e1).trans ?_))
        have hb := law_body_s s.meant r.whole hd ob
        have htr : trimS r s = wholeS s.meant r.whole hd := by unfold trimS; rw [hh]; rfl
        rw [htr]
        simp [tl, ho, hh, Over.s, eq_str, oD, hb, outD, oS, line_ok]
      · rw [if_neg ho]
        have ho' : r.over = .stream := by cases h : r.over <;> simp_all
        have e2 : ∀ {A : SM}, sIf (tB (rOp eqD (eVar 7) (eC (.str "trim")))) A sPass ⟨tl r s none none none none, ob⟩ = .ok .nx ⟨tl r s none none none none, ob⟩ := by
          intro A
          simp [tl, ho', Over.s, eq_str, ofS_beq]
        have e3 : sSet 4 (eIf (tB (rOp eqD (eVar 9) (eC (.str "same")))) (eVar 15) (eVar 9)) ⟨tl r s none none none none, ob⟩ = .ok .nx ⟨tl r s (some (.str (wayOf r s).s)) none none none, ob⟩ := by
          cases hs : r.strm <;> simp [tl, hs, wayOf, Strm.s, Way.s, eq_str, ofS_beq]
        have hon := law_on_s r s s.units (longEnd r (wayOf r s) (readK s)) ob
        have hlast : ∃ x5, sSet 5 (eFrz (rOp ixD (eFrz (rDisp (pCons (eC (.str "length")) (eC (.str "open")) (pCons (eC (.str "marks")) (eC (.str "mark")) (pCons (eC (.str "close")) (eC (.str "shut")) (pNil)))))) (eVar 4))) ⟨tl r s (some (.str (wayOf r s).s)) none none none, ob⟩ =
            .ok .nx ⟨tl r s (some (.str (wayOf r s).s)) (some (.str (endOf (wayOf r s)).s)) none none, ob⟩ ∧
            sIf (tAnd2 (tB (rOp eqD (eFrz (rOp ixD (eVar 2) (eC (.int 0)))) (eC (.str "cut")))) (tB (rOp neD (eVar 10) (eC (.str "whole"))))) (sSet 5 (eC (.str "shut"))) (sPass) ⟨tl r s (some (.str (wayOf r s).s)) (some (.str (endOf (wayOf r s)).s)) none none, ob⟩ =
            .ok .nx ⟨tl r s (some (.str (wayOf r s).s)) (some x5) none none, ob⟩ ∧
            eIf (tB (rOp eqD (eFrz (rOp ixD (eVar 2) (eC (.int 0)))) (eC (.str "waits")))) (eC (.str "open")) (eVar 5) ⟨tl r s (some (.str (wayOf r s).s)) (some x5) none none, ob⟩ = .ok (.str (longEnd r (wayOf r s) (readK s)).s) ⟨tl r s (some (.str (wayOf r s).s)) (some x5) none none, ob⟩ := by
          unfold tl
          generalize wayOf r s = w
          generalize readK s = k
          refine ⟨.str (if k = .cut ∧ r.ct ≠ .whole then En.shut else endOf w).s, ?_, ?_, ?_⟩
          · cases w <;> simp [Way.s, endOf, En.s, eq_str, ofS_beq, ofS_eq, dispD, putD, putVs, hasK, ixD, getK]
          · cases k <;> cases hc : r.ct <;> simp [hc, ix_rd, Kd.s, Ct.s, En.s, eq_str, ne_str, ofS_beq]
          · cases k <;> cases hc : r.ct <;> cases w <;> simp [hc, ix_rd, longEnd, endOf, Kd.s, Ct.s, En.s, eq_str, ne_str, ofS_beq]
        obtain ⟨x5, e4, e5, e6⟩ := hlast
        refine def_rt (sl := tl r s (some (.str (wayOf r s).s)) (some x5) none none) ?_ rfl
        unfold e__law_treated
        refine (tl_top r h ob).trans ((seq_ok e0).trans ((seq_ok e1).trans ((seq_ok e2).trans ((seq_ok e3).trans ((seq_ok e4).trans ((seq_ok e5).trans ?_))))))
        have v : ∀ {i : Nat} {d : D}, (tl r s (some (.str (wayOf r s).s)) (some x5) none none)[i]? = some (some d) → eVar i ⟨tl r s (some (.str (wayOf r s).s)) (some x5) none none, ob⟩ = .ok d ⟨tl r s (some (.str (wayOf r s).s)) (some x5) none none, ob⟩ := by
          intro i d hi
          unfold eVar
          simp [hi]
        have v0 := v (i := 0) (d := r.d) rfl
        have v1 := v (i := 1) (d := s.d) rfl
        have v20 := v (i := 20) (d := .int s.units) rfl
        have v19 := v (i := 19) (d := wdsD (trb s)) rfl
        simp only [ev_ret, ev_val, ev_tup, ev_cons, ev_frz, ev_call, ev_nil, v0, v1, v20, v19, bind_ok, e6, hon, fin_ok, toD_val, List.length_cons, List.length_nil, line_ok (show 0 + 1 + 1 ≤ 16777216 by omega), if_true]
        rfl
end Prog
end Cut
end
section
/-! CutProg7: the laws' own relaying, and what holds of all that is told. -/
namespace Cut
open PySem PySem.Spec PyProof.Rows L2
namespace Prog
open Lw
theorem law_relayed_s (r : Rly) {s : Snd} (h : s.Ok) (ob : Obs) : f__law_relayed [r.d, s.d] ob = .ok (.val (outD (ledS r s))) ob := by
  let s' : Snd := if r.wt = .cut ∧ readK s = .waits then { s with en := .shut } else s
  have hs' : s'.Ok := by
    show Snd.Ok (if _ then _ else _)
    split
    · exact h.shut
    · exact h
  have hr := law_read_s h ob
  have e1 : sIf (tAnd2 (tB (rOp eqD (eFrz (rOp ixD (eVar 0) (eC (.int 5)))) (eC (.str "cut")))) (tB (rOp eqD (eFrz (rOp ixD (eFrz (rCall f__law_read (aCons (eVar 1) (aNil)))) (eC (.int 0)))) (eC (.str "waits"))))) (sSet 1 (eFrz (rOp addD (eFrz (rSlice (eVar 1) (oNone) (oSome (eC (.int 4))))) (eTup (aCons (eC (.str "shut")) (aNil)))))) (sPass)
      ⟨[some r.d, some s.d, none, none, none], ob⟩ = .ok .nx ⟨[some r.d, some s'.d, none, none, none], ob⟩ := by
    have hc : sliceD s.d none (some 4) = some (.val (.tup [.int s.meant, .str s.way.s, oD s.told, .int s.units])) := rfl
    cases hw : r.wt with
    | wait => simp [hw, eq_str, ofS_beq, s']
    | cut =>
      cases hk : readK s with
      | waits =>
        have hsd : s'.d = .tup [.int s.meant, .str s.way.s, oD s.told, .int s.units, .str "shut"] := by simp [s', hw, hk, Snd.d]
        rw [hsd]
        simp [hw, hk, ix_rd, hr, eq_str, ofS_beq, hc, addD, lenOk, line_ok]
      | whole => simp [hw, hk, hr, ix_rd, eq_str, ofS_beq, s']
      | cut => simp [hw, hk, hr, ix_rd, eq_str, ofS_beq, s']
  have ht := law_treated_s r hs' ob
  have hr' := law_read_s hs' ob
  have hled : ledS r s = ((treatS r s').1, if (treatS r s').1 = none ∧ readK s' = .whole ∧ s'.units = s'.meant then (treatS r s').2 ++ [.lost] else (treatS r s').2) := rfl
  have hlen0 := treatS_len r s'
  rw [hled]
  generalize s' = t at *
  generalize treatS r t = p at *
  obtain ⟨out, found⟩ := p
  have e2 : sAsg (.tup [.var 3, .var 4]) (eFrz (rCall f__law_treated (aCons (eVar 0) (aCons (eVar 1) (aNil))))) ⟨[some r.d, some t.d, none, none, none], ob⟩ = .ok .nx ⟨[some r.d, some t.d, none, some (oS out), some (wdsD found)], ob⟩ := by
    have hp : ∀ x0 x1 x2 x3 x4 : Option D, (Tg.tup [.var 3, .var 4]).put (outD (out, found)) [x0, x1, x2, x3, x4] = some [x0, x1, x2, some (oS out), some (wdsD found)] := fun _ _ _ _ _ => rfl
    simp [ht, hp]
  have hwh : ∀ (k : Kd) (u m : Int), eqD (rdD k u) (.tup [.str "whole", .int m]) = some (.val (.bl (decide (k = .whole ∧ u = m)))) := by
    intro k u m
    rw [eq_ok (by simp [eqOk, rdD])]
    congr 3
    by_cases hu : u = m <;> cases k <;> simp [rdD, eqv_tup, eqv_str, eqv_int, ofS_beq, hu]
  have e3 : sSet 2 (eAnd (eFrz (rOp (yesD isD) (eVar 3) (eC .non))) (eFrz (rOp eqD (eFrz (rCall f__law_read (aCons (eVar 1) (aNil)))) (eTup (aCons (eC (.str "whole")) (aCons (eFrz (rOp ixD (eVar 1) (eC (.int 0)))) (aNil)))))))
      ⟨[some r.d, some t.d, none, some (oS out), some (wdsD found)], ob⟩ = .ok .nx ⟨[some r.d, some t.d, some (.bl (decide (out = none ∧ readK t = .whole ∧ t.units = t.meant))), some (oS out), some (wdsD found)], ob⟩ := by
    cases out with
    | some o => simp [Snd.d, yesD, isD]
    | none => simp [yesD, isD, hr', hwh, line_ok]
  refine def_rt (sl := [some r.d, some t.d, some (.bl (decide (out = none ∧ readK t = .whole ∧ t.units = t.meant))), some (oS out), some (wdsD found)]) ?_ rfl
  unfold e__law_relayed
  refine (seq_ok e1).trans <| (seq_ok e2).trans <| (seq_ok e3).trans ?_
  by_cases hk : out = none ∧ readK t = .whole ∧ t.units = t.meant
  · have hst : wdsD (found ++ [Wd.lost]) = .tup (found.map (fun w => .str w.s) ++ [.str "lost"]) := by simp [wdsD]
    have hlen1 : found.length ≤ 1 := hlen0
    have hadd : addD (wdsD found) (.tup [.str "lost"]) = some (.val (wdsD (found ++ [Wd.lost]))) := by
      rw [hst]
      have hl3 : found.length + 1 ≤ sizeLine := of_eq_true (line_ok (by omega))
      simp [wdsD, addD, lenOk, hl3]
    simp [hk, oS_look, hadd, line_ok, outD]
  · have hd : decide (out = none ∧ readK t = .whole ∧ t.units = t.meant) = false := by simpa using hk
    rw [if_neg hk, hd]
    simp [oS_look, line_ok, outD]
/-! ### bounds -/
structure Snd.Le (B : Int) (s : Snd) : Prop where
  meant : s.meant ≤ B
  units : s.units ≤ B
  told : ∀ t, s.told = some t → t ≤ B
structure Rly.Le (B : Int) (r : Rly) : Prop where
  hold : ∀ i, r.hold = some i → i ≤ B
  lim : ∀ i, r.lim = some i → i ≤ B
structure Fine (B : Int) (m : Int) (s : Snd) : Prop where
  ok : s.Ok
  le : s.Le B
  meant : s.meant = m
theorem whole_fine {B m b : Int} (w : Way) (hm : 0 ≤ m) (hb : 0 ≤ b) (hm2 : m ≤ B) (hb2 : b ≤ B) : Fine B m (wholeS m w b) := by
  refine ⟨⟨hm, hb, fun h => ?_, fun h => ?_, fun h => ?_⟩, ⟨hm2, hb2, fun t h => ?_⟩, rfl⟩
  · have h : w = .length := h
    subst h
    exact ⟨b, rfl, Int.le_refl _, hb⟩
  · have h : w ≠ .length := h
    show (if w = .length then some b else none) = none
    rw [if_neg h]
  · show w = .marks
    cases w <;> first | rfl | cases h
  · have h : (if w = .length then some b else none) = some t := h
    split at h
    · cases h; exact hb2
    · cases h
theorem stream_fine {B : Int} (r : Rly) {s : Snd} (h : s.Ok) (hl : s.Le B) {u : Int} (hu : 0 ≤ u) (hu2 : u ≤ B) (e : En) (hlen : r.strm = .same → s.way = .length → u ≤ s.units) (he : e = .mark → wayOf r s = .marks) : Fine B s.meant (streamS r s u e) := by
  unfold streamS
  unfold wayOf at he
  cases hs : r.strm with
  | same =>
    rw [hs] at he
    refine ⟨⟨h.meant, hu, fun hw => ?_, h.none_, he⟩, ⟨hl.meant, hu2, hl.told⟩, rfl⟩
    obtain ⟨t, h1, h2, h3⟩ := h.told hw
    have := hlen hs hw
    exact ⟨t, h1, by show u ≤ t; omega, h3⟩
  | marks =>
    rw [hs] at he
    exact ⟨⟨h.meant, hu, fun hw => (by cases hw), fun _ => rfl, he⟩, ⟨hl.meant, hu2, fun t ht => (by cases ht)⟩, rfl⟩
  | close =>
    rw [hs] at he
    exact ⟨⟨h.meant, hu, fun hw => (by cases hw), fun _ => rfl, he⟩, ⟨hl.meant, hu2, fun t ht => (by cases ht)⟩, rfl⟩
theorem trim_fine {B : Int} {r : Rly} (hr : r.Ok) (hrl : r.Le B) {s : Snd} (h : s.Ok) (hl : s.Le B) (h0 : 0 ≤ B) : Fine B s.meant (trimS r s) := by
  unfold trimS
  refine whole_fine _ h.meant ?_ hl.meant ?_
  · cases hh : r.hold with
    | none => exact Int.le_refl 0
    | some i => exact hr.hold i hh
  · cases hh : r.hold with
    | none => exact h0
    | some i => exact hrl.hold i hh
theorem treat_fine {B : Int} {r : Rly} (hr : r.Ok) (hrl : r.Le B) {s : Snd} (h : s.Ok) (hl : s.Le B) {o : Snd} (ho : (treatS r s).1 = some o) : Fine B s.meant o := by
  have h0 : 0 ≤ B := Int.le_trans h.meant hl.meant
  have ht : treatS r s = match leftOf r s with
    | some left => refS r s left
    | none => if isLong r s.units = false then (heldS r s (readK s), trb s) else if r.over = .trim then (some (trimS r s), trb s) else (some (streamS r s s.units (longEnd r (wayOf r s) (readK s))), trb s) := rfl
  rw [ht] at ho
  cases hlf : leftOf r s with
  | some left =>
    obtain ⟨l, hlim⟩ := leftOf_lim hlf
    rw [hlf] at ho
    simp only at ho
    rw [refS_eq, hlim] at ho
    simp only [Option.getD_some] at ho
    split at ho
    · cases ho
    · rename_i hc
      split at ho
      · cases ho; exact trim_fine hr hrl h hl h0
      · cases ho
        refine stream_fine r h hl (hr.lim l hlim) (hrl.lim l hlim) .shut (fun _ hw => absurd (.inl hw) hc) (fun z => by cases z)
  | none =>
    rw [hlf] at ho
    simp only at ho
    split at ho
    · have ho : heldS r s (readK s) = some o := ho
      unfold heldS at ho
      split at ho
      · cases ho; exact whole_fine _ h.meant h.units hl.meant hl.units
      · split at ho
        · cases ho; exact stream_fine r h hl h.units hl.units .shut (fun _ _ => Int.le_refl _) (fun z => by cases z)
        · cases ho
    · split at ho
      · cases ho; exact trim_fine hr hrl h hl h0
      · cases ho
        refine stream_fine r h hl h.units hl.units _ (fun _ _ => Int.le_refl _) (fun z => ?_)
        unfold longEnd at z
        split at z
        · cases z
        · split at z
          · cases hw : wayOf r s <;> rw [hw] at z <;> first | rfl | cases z
          · cases z
theorem led_fine {B : Int} {r : Rly} (hr : r.Ok) (hrl : r.Le B) {s : Snd} (h : s.Ok) (hl : s.Le B) {o : Snd} (ho : (ledS r s).1 = some o) : Fine B s.meant o := by
  have ho : (treatS r (if r.wt = .cut ∧ readK s = .waits then { s with en := .shut } else s)).1 = some o := ho
  split at ho
  · exact treat_fine hr hrl (s := { s with en := .shut }) h.shut ⟨hl.meant, hl.units, hl.told⟩ ho
  · exact treat_fine hr hrl h hl ho
theorem led_len (r : Rly) (s : Snd) : (ledS r s).2.length ≤ 2 := by
  suffices g : ∀ s', (if (treatS r s').1 = none ∧ readK s' = .whole ∧ s'.units = s'.meant then (treatS r s').2 ++ [Wd.lost] else (treatS r s').2).length ≤ 2 from g _
  intro s'
  have h := treatS_len r s'
  split
  · simp; omega
  · omega
/-! ### what is written out -/
theorem Snd.repr {B : Int} (hB : B ≤ 1606938044258990275541962092341162602522202993782792835301375) {s : Snd} (h : s.Ok) (hl : s.Le B) : s.d.plain = true ∧ s.d.wok = true ∧ s.d.depth = 1 ∧ s.d.wt ≤ 2000 := by
  obtain ⟨m, w, t, u, e⟩ := s
  obtain ⟨h1, h2, h3, h4, h5⟩ := h
  obtain ⟨l1, l2, l3⟩ := hl
  simp only at h1 h2 l1 l2 l3 h3 h4
  have w1 : (D.int m).wok = true := wok_int ⟨by omega, by omega⟩
  have w2 : (D.int u).wok = true := wok_int ⟨by omega, by omega⟩
  have hw : (D.str w.s).wok = true := by cases w <;> decide +kernel
  have he : (D.str e.s).wok = true := by cases e <;> decide +kernel
  have hwl : (D.str w.s).wt ≤ 100 := by cases w <;> decide +kernel
  have hel : (D.str e.s).wt ≤ 100 := by cases e <;> decide +kernel
  rw [wt_str] at hwl hel
  have hto : (oD t).plain = true ∧ (oD t).wok = true ∧ (oD t).depth = 0 ∧ (oD t).wt ≤ 201 := by
    cases t with
    | none => simp
    | some t =>
      have : 0 ≤ t := by
        cases w with
        | length => obtain ⟨t', h, _, h0⟩ := h3 rfl; cases h; exact h0
        | marks => cases h4 (by decide)
        | close => cases h4 (by decide)
      have lt := l3 t rfl
      exact ⟨by simp, by rw [oD_some]; exact wok_int ⟨by omega, by omega⟩, by simp, by simp⟩
  obtain ⟨t1, t2, t3, t4⟩ := hto
  refine ⟨by simp [Snd.d, t1], by simp [Snd.d, w1, w2, hw, he, t2], by simp [Snd.d, t3], ?_⟩
  simp only [Snd.d, wt_tup, wts_cons, wts_nil, wt_int, wt_str]
  omega
theorem Rly.repr {B : Int} (hB : B ≤ 1606938044258990275541962092341162602522202993782792835301375) {r : Rly} (h : r.Ok) (hl : r.Le B) : r.d.plain = true ∧ r.d.wok = true ∧ r.d.depth = 1 ∧ r.d.wt ≤ 3000 := by
  obtain ⟨hold, ov, wh, st, ct, wt, lim, rest⟩ := r
  obtain ⟨h1, h2⟩ := h
  obtain ⟨l1, l2⟩ := hl
  simp only at h1 h2 l1 l2
  have opt : ∀ o : Option Int, (∀ i, o = some i → 0 ≤ i) → (∀ i, o = some i → i ≤ B) → (oD o).plain = true ∧ (oD o).wok = true ∧ (oD o).depth = 0 ∧ (oD o).wt ≤ 201 := by
    intro o p q
    cases o with
    | none => simp
    | some t =>
      have := p t rfl
      have := q t rfl
      exact ⟨by simp, by rw [oD_some]; exact wok_int ⟨by omega, by omega⟩, by simp, by simp⟩
  obtain ⟨a1, a2, a3, a4⟩ := opt hold h1 l1
  obtain ⟨b1, b2, b3, b4⟩ := opt lim h2 l2
  have w1 : (D.str ov.s).wok = true ∧ (D.str ov.s).wt ≤ 100 := by cases ov <;> decide +kernel
  have w2 : (D.str wh.s).wok = true ∧ (D.str wh.s).wt ≤ 100 := by cases wh <;> decide +kernel
  have w3 : (D.str st.s).wok = true ∧ (D.str st.s).wt ≤ 100 := by cases st <;> decide +kernel
  have w4 : (D.str ct.s).wok = true ∧ (D.str ct.s).wt ≤ 100 := by cases ct <;> decide +kernel
  have w5 : (D.str wt.s).wok = true ∧ (D.str wt.s).wt ≤ 100 := by cases wt <;> decide +kernel
  have w6 : (D.str rest.s).wok = true ∧ (D.str rest.s).wt ≤ 100 := by cases rest <;> decide +kernel
  simp only [wt_str] at w1 w2 w3 w4 w5 w6
  refine ⟨by simp [Rly.d, a1, b1], by simp [Rly.d, a2, b2, w1, w2, w3, w4, w5, w6], by simp [Rly.d, a3, b3], ?_⟩
  simp only [Rly.d, wt_tup, wts_cons, wts_nil, wt_str]
  omega
theorem wds_repr (l : List Wd) : (wdsD l).plain = true ∧ (wdsD l).wok = true ∧ (wdsD l).depth = 1 ∧ (wdsD l).wt ≤ 4 + 104 * l.length := by
  have h : D.plains (l.map fun w => D.str w.s) = true ∧ D.woks (l.map fun w => D.str w.s) = true ∧ D.depths (l.map fun w => D.str w.s) = 0 ∧ D.wts (l.map fun w => D.str w.s) ≤ 104 * l.length := by
    induction l with
    | nil => simp
    | cons w l ih =>
      obtain ⟨i1, i2, i3, i4⟩ := ih
      have hw : (D.str w.s).wok = true ∧ (D.str w.s).wt ≤ 102 := by cases w <;> decide +kernel
      simp only [wt_str] at hw
      refine ⟨by simp [i1], by simp [i2, hw], by simp [i3], ?_⟩
      simp only [List.map_cons, wts_cons, List.length_cons, wt_str]
      omega
  obtain ⟨i1, i2, i3, i4⟩ := h
  exact ⟨by simp [wdsD, i1], by simp [wdsD, i2], by simp [wdsD, i3], by simp [wdsD]; omega⟩
end Prog
end Cut
end
section
/-! CutProg8: drawn sendings and relays. -/
namespace Cut
open PySem PySem.Spec PyProof.Rows L2
namespace Prog
open Lw
theorem is_below : Lw.f__law_below = Draw.f__law_below := rfl
theorem is_pick : Lw.f__law_pick = Draw.f__law_pick := rfl
open Draw in
theorem some_value {ob : Obs} {n k : Nat} (hn : n < ob.length) {p : List D} (hp : Pot k p) (hk : k < 2 ^ 58) {vals : List Int} (h0 : vals ≠ []) (hl : vals.length < 2 ^ 60) :
    ∃ v p', (0 ≤ v ∧ v ≤ 1000000000000) ∧ Lw.f__law_some_value [.ob n, .lst (vals.map D.int)] (at_ ob n p) = .ok (.val (.int v)) (at_ ob n p') ∧ Pot (k + 2) p' := by
  obtain ⟨x, p1, hx, e1, hp1⟩ := pick hn hp (by omega) (items := vals.map D.int) (by simpa using h0) (by simpa using hl)
  obtain ⟨v1, _, rfl⟩ := List.mem_map.mp hx
  obtain ⟨y, p2, hy, e2, hp2⟩ := pick hn hp1 (by omega) (items := [.int 0, .int 0, .int 1, .int 2, .int (-1)]) (by simp) (by simp)
  have hy : ∃ v2, y = .int v2 := by
    simp only [List.mem_cons, List.not_mem_nil, or_false] at hy
    rcases hy with rfl | rfl | rfl | rfl | rfl <;> exact ⟨_, rfl⟩
  obtain ⟨v2, rfl⟩ := hy
  have p12 : powD (.int 10) (.int 12) = some (.val (.int 1000000000000)) := by simp [powD]
  refine ⟨max 0 (min 1000000000000 (v1 + v2)), p2, by omega, ?_, hp2⟩
  · unfold Lw.f__law_some_value evDef Lw.e__law_some_value
    simp only [List.map_cons, List.map_nil, List.replicate, List.append_nil, List.cons_append, List.nil_append, ev_ret, ev_op, ev_var, vr_1, vr_0, vr_some, bind_ok, ev_frz, ev_call, ev_cons, ev_b, ev_nil, ev_C, look_int, p12, opt_some, toD_val, is_pick, e1, fin_ok, ev_lst, sub_int, List.length_cons, List.length_nil, line_ok (show 0 + 1 + 1 + 1 + 1 + 1 ≤ 16777216 by omega), if_true, toD_fl, show (0 : Int) - 1 = -1 from rfl, e2, add_int, min_int2, max_int2]
    simp [leave]
open Draw in
theorem three {ob : Obs} {n k : Nat} (hn : n < ob.length) {p : List D} (hp : Pot k p) (hk : k < 2 ^ 57) {vals : List Int} (h0 : vals ≠ []) (hl : vals.length < 2 ^ 60) (l : List (Option D)) :
    ∃ a b c p', (0 ≤ a ∧ a ≤ 1000000000000 ∧ 0 ≤ b ∧ b ≤ 1000000000000 ∧ 0 ≤ c ∧ c ≤ 1000000000000) ∧
      lcGo (lcTurn (.var 7) tTrue (lcElt (eFrz (rCall Lw.f__law_some_value (aCons (eVar 0) (aCons (eVar 1) aNil))))) (some (.ob n) :: some (.lst (vals.map D.int)) :: l)) [.int 0, .int 1, .int 2] (at_ ob n p) = some ([.int a, .int b, .int c], at_ ob n p') ∧ Pot (k + 6) p' := by
  obtain ⟨a, p1, ha, e1, hp1⟩ := some_value hn hp (by omega) h0 hl
  obtain ⟨b, p2, hb, e2, hp2⟩ := some_value hn hp1 (by omega) h0 hl
  obtain ⟨c, p3, hc, e3, hp3⟩ := some_value hn hp2 (by omega) h0 hl
  refine ⟨a, b, c, p3, by omega, ?_, hp3⟩
  simp only [lcGo, lcTurn, lcElt, put_var, tTrue, List.set_cons_succ, List.set_cons_zero, ev_frz, ev_call, ev_cons, ev_var, vr_0, vr_1, vr_some, bind_ok, ev_nil, e1, e2, e3, fin_ok, toD_val]
  rfl
open Draw in
theorem way_of {ob : Obs} {n k : Nat} (hn : n < ob.length) {p : List D} (hp : Pot k p) (hk : k < 2 ^ 57) : ∃ w p', (w = ("length" : Str) ∨ w = "marks" ∨ w = "close") ∧
    Lw.f__law_pick [.ob n, .lst [.str "length", .str "length", .str "marks", .str "close"]] (at_ ob n p) = .ok (.val (.str w)) (at_ ob n p') ∧ Pot (k + 1) p' := by
  obtain ⟨x, p1, hx, e1, hp1⟩ := pick hn hp (by omega) (items := [.str "length", .str "length", .str "marks", .str "close"]) (by simp) (by simp)
  simp only [List.mem_cons, List.not_mem_nil, or_false] at hx
  rcases hx with rfl | rfl | rfl | rfl
  · exact ⟨_, p1, .inl rfl, e1, hp1⟩
  · exact ⟨_, p1, .inl rfl, e1, hp1⟩
  · exact ⟨_, p1, .inr (.inl rfl), e1, hp1⟩
  · exact ⟨_, p1, .inr (.inr rfl), e1, hp1⟩
theorem marks_is {w : Str} (h : w = ("length" : Str) ∨ w = "marks" ∨ w = "close") : ∃ l : List D, (l = [.str "open", .str "shut"] ∨ (l = [.str "open", .str "shut", .str "mark", .str "mark"] ∧ w = "marks")) ∧
    addD (.lst [.str "open", .str "shut"]) (.lst (List.replicate (if (w == ("marks" : Str)) = true then (1 : Int) else 0).toNat [D.str "mark", .str "mark"]).flatten) = some (.fl l) := by
  rcases h with rfl | rfl | rfl
  · refine ⟨_, .inl rfl, ?_⟩
    rw [ofS_beq]
    simp [addD, lenOk, line_ok]
  · refine ⟨_, .inr ⟨rfl, rfl⟩, ?_⟩
    simp [addD, lenOk, line_ok]
  · refine ⟨_, .inl rfl, ?_⟩
    rw [ofS_beq]
    simp [addD, lenOk, line_ok]
open Draw in
theorem end_of {ob : Obs} {n k : Nat} (hn : n < ob.length) {p : List D} (hp : Pot k p) (hk : k < 2 ^ 57) {w : Str} (h : w = ("length" : Str) ∨ w = "marks" ∨ w = "close") (L : D) (a b c : D) : ∃ e p', (e = ("open" : Str) ∨ e = "shut" ∨ (e = "mark" ∧ w = "marks")) ∧
    sSet 3 (eFrz (rCall Lw.f__law_pick (aCons (eVar 0) (aCons (eFrz (rOp addD (eFrz (rLst (aCons (eC (.str "open")) (aCons (eC (.str "shut")) (aNil))))) (eFrz (rOp mulD (eFrz (rLst (aCons (eC (.str "mark")) (aCons (eC (.str "mark")) (aNil))))) (eFrz (rB intD (aCons (eFrz (rOp eqD (eVar 2) (eC (.str "marks")))) (aNil)))))))) (aNil)))))
      ⟨[some (.ob n), some L, some (.str w), none, some a, some b, some c, none], at_ ob n p⟩ = .ok .nx ⟨[some (.ob n), some L, some (.str w), some (.str e), some a, some b, some c, none], at_ ob n p'⟩ ∧ Pot (k + 1) p' := by
  obtain ⟨l, hl, hadd⟩ := marks_is h
  have hm : ∀ q : Bool, mulD (.lst [D.str "mark", .str "mark"]) (.int (if q = true then 1 else 0)) = some (.fl (List.replicate (if q = true then (1 : Int) else 0).toNat [D.str "mark", .str "mark"]).flatten) := by
    intro q
    cases q <;> simp [mulD, lenOk, line_ok]
  have heq : eqD (.str w) (.str "marks") = some (.val (.bl (w == ("marks" : Str)))) := by rw [eq_ok (by simp [eqOk]), eqv_str]
  obtain ⟨x, p1, hx, e1, hp1⟩ := pick hn hp (by omega) (items := l) (by rcases hl with rfl | ⟨rfl, _⟩ <;> simp) (by rcases hl with rfl | ⟨rfl, _⟩ <;> simp)
  have hx : ∃ e : Str, x = .str e ∧ (e = ("open" : Str) ∨ e = "shut" ∨ (e = "mark" ∧ w = "marks")) := by
    rcases hl with rfl | ⟨rfl, hw⟩
    · simp only [List.mem_cons, List.not_mem_nil, or_false] at hx
      rcases hx with rfl | rfl
      · exact ⟨_, rfl, .inl rfl⟩
      · exact ⟨_, rfl, .inr (.inl rfl)⟩
    · simp only [List.mem_cons, List.not_mem_nil, or_false] at hx
      rcases hx with rfl | rfl | rfl | rfl
      · exact ⟨_, rfl, .inl rfl⟩
      · exact ⟨_, rfl, .inr (.inl rfl)⟩
      · exact ⟨_, rfl, .inr (.inr ⟨rfl, hw⟩)⟩
      · exact ⟨_, rfl, .inr (.inr ⟨rfl, hw⟩)⟩
  obtain ⟨e, rfl, he⟩ := hx
  refine ⟨e, p1, he, ?_, hp1⟩
  simp only [ev_set, ev_frz, ev_call, ev_cons, ev_var, vr_0, vr_1, vr_some, bind_ok, ev_op, ev_lst, ev_C, ev_nil, List.length_cons, List.length_nil, line_ok (show 0 + 1 + 1 ≤ 16777216 by omega), if_true, toD_fl, ev_b, look_str, heq, opt_some, toD_val, List.map_cons, List.map_nil, look_bl, int_bl, look_lst, look_int, hm, hadd, is_pick, e1, fin_ok, List.set_cons_succ, List.set_cons_zero]
open Draw in
theorem units_of {ob : Obs} {n k : Nat} (hn : n < ob.length) {p : List D} (hp : Pot k p) (hk : k < 2 ^ 57) (L w e : D) (a b c : Int) : ∃ b' p', (b' = a ∨ b' = b) ∧
    sIf (tB (rOp eqD (eFrz (rCall Lw.f__law_below (aCons (eVar 0) (aCons (eC (.int 3)) (aNil))))) (eC (.int 0)))) (sSet 5 (eVar 4)) (sPass)
      ⟨[some (.ob n), some L, some w, some e, some (.int a), some (.int b), some (.int c), none], at_ ob n p⟩ = .ok .nx ⟨[some (.ob n), some L, some w, some e, some (.int a), some (.int b'), some (.int c), none], at_ ob n p'⟩ ∧ Pot (k + 1) p' := by
  obtain ⟨r, p1, e1, hr, hp1⟩ := below hn hp (by omega) (b := 3) (by omega) (by omega)
  by_cases h : r = 0
  · subst h
    refine ⟨a, p1, .inl rfl, ?_, hp1⟩
    simp only [ev_if, ev_tB, ev_op, ev_frz, ev_call, ev_cons, ev_var, vr_0, vr_1, vr_some, bind_ok, ev_C, ev_nil, is_below, e1, fin_ok, toD_val, look_int, Prog.eq_int, opt_some, tbo_bl, beq_self_eq_true, if_true, ev_set, List.set_cons_succ, List.set_cons_zero]
  · have hb : (r == 0) = false := by simpa using h
    refine ⟨b, p1, .inr rfl, ?_, hp1⟩
    simp only [ev_if, ev_tB, ev_op, ev_frz, ev_call, ev_cons, ev_var, vr_0, vr_1, vr_some, bind_ok, ev_C, ev_nil, is_below, e1, fin_ok, toD_val, look_int, Prog.eq_int, opt_some, tbo_bl, hb, Bool.false_eq_true, if_false, ev_pass]
open Draw in
theorem told_of {ob : Obs} {n k : Nat} (hn : n < ob.length) {p : List D} (hp : Pot k p) (hk : k < 2 ^ 57) (L w e : D) (a b c : Int) : ∃ c' p', (c' = a ∨ c' = b ∨ c' = c) ∧
    sIf (tB (rOp eqD (eFrz (rCall Lw.f__law_below (aCons (eVar 0) (aCons (eC (.int 2)) (aNil))))) (eC (.int 0)))) (sSet 6 (eFrz (rCall Lw.f__law_pick (aCons (eVar 0) (aCons (eFrz (rLst (aCons (eVar 4) (aCons (eVar 5) (aNil))))) (aNil)))))) (sPass)
      ⟨[some (.ob n), some L, some w, some e, some (.int a), some (.int b), some (.int c), none], at_ ob n p⟩ = .ok .nx ⟨[some (.ob n), some L, some w, some e, some (.int a), some (.int b), some (.int c'), none], at_ ob n p'⟩ ∧ Pot (k + 2) p' := by
  obtain ⟨r, p1, e1, hr, hp1⟩ := below hn hp (by omega) (b := 2) (by omega) (by omega)
  by_cases h : r = 0
  · subst h
    obtain ⟨x, p2, hx, e2, hp2⟩ := pick hn hp1 (by omega) (items := [.int a, .int b]) (by simp) (by simp)
    have hx : ∃ v, x = .int v ∧ (v = a ∨ v = b) := by
      simp only [List.mem_cons, List.not_mem_nil, or_false] at hx
      rcases hx with rfl | rfl
      · exact ⟨_, rfl, .inl rfl⟩
      · exact ⟨_, rfl, .inr rfl⟩
    obtain ⟨v, rfl, hv⟩ := hx
    refine ⟨v, p2, hv.imp id .inl, ?_, hp2⟩
    simp only [ev_if, ev_tB, ev_op, ev_frz, ev_call, ev_cons, ev_var, vr_0, vr_1, vr_some, bind_ok, ev_C, ev_nil, is_below, is_pick, e1, e2, fin_ok, toD_val, look_int, Prog.eq_int, opt_some, tbo_bl, beq_self_eq_true, if_true, ev_set, List.set_cons_succ, List.set_cons_zero, ev_lst, List.length_cons, List.length_nil, line_ok (show 0 + 1 + 1 ≤ 16777216 by omega), toD_fl]
  · have hb : (r == 0) = false := by simpa using h
    refine ⟨c, p1, .inr (.inr rfl), ?_, hp1.mono (by omega)⟩
    simp only [ev_if, ev_tB, ev_op, ev_frz, ev_call, ev_cons, ev_var, vr_0, vr_1, vr_some, bind_ok, ev_C, ev_nil, is_below, e1, fin_ok, toD_val, look_int, Prog.eq_int, opt_some, tbo_bl, hb, Bool.false_eq_true, if_false, ev_pass]
open Draw in
theorem some_sending {ob : Obs} {n k : Nat} (hn : n < ob.length) {p : List D} (hp : Pot k p) (hk : k < 2 ^ 56) {vals : List Int} (h0 : vals ≠ []) (hl : vals.length < 2 ^ 60) :
    ∃ (s : Snd) (p' : List D), s.Ok ∧ s.Le 1000000000000 ∧ Lw.f__law_some_sending [.ob n, .lst (vals.map D.int)] (at_ ob n p) = .ok (.val s.d) (at_ ob n p') ∧ Pot (k + 12) p' := by
  obtain ⟨a, b, c, p1, hb, e1, hp1⟩ := three hn hp (by omega) h0 hl [none, none, none, none, none, none]
  obtain ⟨w, p2, hw, e2, hp2⟩ := way_of hn hp1 (by omega)
  obtain ⟨e, p3, he, e3, hp3⟩ := end_of hn hp2 (by omega) hw (.lst (vals.map D.int)) (.int a) (.int b) (.int c)
  obtain ⟨b', p4, hb', e4, hp4⟩ := units_of hn hp3 (by omega) (.lst (vals.map D.int)) (.str w) (.str e) a b c
  obtain ⟨c', p5, hc', e5, hp5⟩ := told_of hn hp4 (by omega) (.lst (vals.map D.int)) (.str w) (.str e) a b' c
  have r3 : rangeD 0 (3 : Int).toNat = [.int 0, .int 1, .int 2] := rfl
  have hrt : ∃ s : Snd, s.Ok ∧ s.Le 1000000000000 ∧ sRet (rVal (eTup (aCons (eVar 4) (aCons (eVar 2) (aCons (eFrz (rIf (tB (rOp eqD (eVar 2) (eC (.str "length")))) (rB maxD (aCons (eVar 6) (aCons (eVar 5) (aNil)))) (rVal (eC .non)))) (aCons (eVar 5) (aCons (eVar 3) (aNil))))))))
      ⟨[some (.ob n), some (.lst (vals.map D.int)), some (.str w), some (.str e), some (.int a), some (.int b'), some (.int c'), none], at_ ob n p5⟩ =
      .ok (.rt (.val s.d)) ⟨[some (.ob n), some (.lst (vals.map D.int)), some (.str w), some (.str e), some (.int a), some (.int b'), some (.int c'), none], at_ ob n p5⟩ := by
    have hen : ∃ en : En, e = (en.s : Str) ∧ (en = .mark → w = ("marks" : Str)) := by
      rcases he with h | h | ⟨h, h2⟩
      · exact ⟨.opn, h, fun z => by cases z⟩
      · exact ⟨.shut, h, fun z => by cases z⟩
      · exact ⟨.mark, h, fun _ => h2⟩
    obtain ⟨en, rfl, hen⟩ := hen
    have hlw : ("length" : Str) ≠ "marks" := by rw [Ne, ofS_eq]; decide
    have hcw : ("close" : Str) ≠ "marks" := by rw [Ne, ofS_eq]; decide
    rcases hw with rfl | rfl | rfl
    · refine ⟨⟨a, .length, some (max c' b'), b', en⟩, ⟨by show 0 ≤ a; omega, by show 0 ≤ b'; omega, fun _ => ⟨_, rfl, by show b' ≤ max c' b'; omega, by omega⟩, fun z => absurd rfl z, fun z => absurd (hen z) hlw⟩, ⟨by show a ≤ _; omega, by show b' ≤ _; omega, fun t ht => by cases ht; omega⟩, ?_⟩
      simp only [ev_ret, ev_val, ev_tup, ev_cons, ev_var, vr_0, vr_1, vr_some, bind_ok, ev_frz, ev_rif, ev_tB, ev_op, ev_C, look_str, Prog.eq_str, beq_self_eq_true, opt_some, tbo_bl, if_true, ev_b, ev_nil, List.map_cons, List.map_nil, look_int, max_int2, toD_val, List.length_cons, List.length_nil, line_ok (show 0 + 1 + 1 + 1 + 1 + 1 ≤ 16777216 by omega)]
      rfl
    · refine ⟨⟨a, .marks, none, b', en⟩, ⟨by show 0 ≤ a; omega, by show 0 ≤ b'; omega, fun z => (by cases z), fun _ => rfl, fun _ => rfl⟩, ⟨by show a ≤ _; omega, by show b' ≤ _; omega, fun t ht => by cases ht⟩, ?_⟩
      have hf : (("marks" : Str) == ("length" : Str)) = false := by rw [ofS_beq]; decide
      simp only [ev_ret, ev_val, ev_tup, ev_cons, ev_var, vr_0, vr_1, vr_some, bind_ok, ev_frz, ev_rif, ev_tB, ev_op, ev_C, look_str, Prog.eq_str, hf, opt_some, tbo_bl, Bool.false_eq_true, if_false, if_true, ev_nil, toD_val, List.length_cons, List.length_nil, line_ok (show 0 + 1 + 1 + 1 + 1 + 1 ≤ 16777216 by omega)]
      rfl
    · refine ⟨⟨a, .close, none, b', en⟩, ⟨by show 0 ≤ a; omega, by show 0 ≤ b'; omega, fun z => (by cases z), fun _ => rfl, fun z => absurd (hen z) hcw⟩, ⟨by show a ≤ _; omega, by show b' ≤ _; omega, fun t ht => by cases ht⟩, ?_⟩
      have hf : (("close" : Str) == ("length" : Str)) = false := by rw [ofS_beq]; decide
      simp only [ev_ret, ev_val, ev_tup, ev_cons, ev_var, vr_0, vr_1, vr_some, bind_ok, ev_frz, ev_rif, ev_tB, ev_op, ev_C, look_str, Prog.eq_str, hf, opt_some, tbo_bl, Bool.false_eq_true, if_false, if_true, ev_nil, toD_val, List.length_cons, List.length_nil, line_ok (show 0 + 1 + 1 + 1 + 1 + 1 ≤ 16777216 by omega)]
      rfl
  obtain ⟨s, hok, hle, e6⟩ := hrt
  refine ⟨s, p5, hok, hle, ?_, hp5.mono (by omega)⟩
  have s1 : sAsg (.tup [.var 4, .var 5, .var 6]) (eFrz (rComp [7] (iRange1 (eC (.int 3))) (.var 7) (tTrue) (eFrz (rCall Lw.f__law_some_value (aCons (eVar 0) (aCons (eVar 1) (aNil)))))))
      ⟨[some (.ob n), some (.lst (vals.map D.int)), none, none, none, none, none, none], at_ ob n p⟩ = .ok .nx ⟨[some (.ob n), some (.lst (vals.map D.int)), none, none, some (.int a), some (.int b), some (.int c), none], at_ ob n p1⟩ := by
    simp only [ev_asg, ev_frz, ev_comp, ev_range1, ev_C, bind_ok, rng_int (show (-4611686018427387904 : Int) ≤ 3 ∧ (3 : Int) < 4611686018427387904 by omega), r3, wipeD, List.set_cons_succ, List.set_cons_zero, e1, cfin_ok (show [D.int a, D.int b, D.int c].length ≤ 16777216 by simp), toD_fl, Tg.put, seqD, Tg.puts, tgo_some]
  have s2 : sSet 2 (eFrz (rCall Lw.f__law_pick (aCons (eVar 0) (aCons (eFrz (rLst (aCons (eC (.str "length")) (aCons (eC (.str "length")) (aCons (eC (.str "marks")) (aCons (eC (.str "close")) (aNil))))))) (aNil)))))
      ⟨[some (.ob n), some (.lst (vals.map D.int)), none, none, some (.int a), some (.int b), some (.int c), none], at_ ob n p1⟩ = .ok .nx ⟨[some (.ob n), some (.lst (vals.map D.int)), some (.str w), none, some (.int a), some (.int b), some (.int c), none], at_ ob n p2⟩ := by
    simp only [ev_set, ev_frz, ev_call, ev_cons, ev_var, vr_0, vr_1, vr_some, bind_ok, ev_lst, ev_C, ev_nil, List.length_cons, List.length_nil, line_ok (show 0 + 1 + 1 + 1 + 1 ≤ 16777216 by omega), if_true, toD_fl, e2, fin_ok, toD_val, List.set_cons_succ, List.set_cons_zero]
  unfold Lw.f__law_some_sending
  exact def_rt ((seq_ok s1).trans <| (seq_ok s2).trans <| (seq_ok e3).trans <| (seq_ok e4).trans <| (seq_ok e5).trans e6) (by simp)
theorem oD_mem {vals : List Int} {l : List D} (hl : ∀ x ∈ l, x = .non) {x : D} (h : x ∈ l ++ vals.map D.int) : ∃ o : Option Int, x = oD o ∧ ∀ i, o = some i → i ∈ vals := by
  rcases List.mem_append.mp h with h | h
  · exact ⟨none, hl x h, fun i z => by cases z⟩
  · obtain ⟨i, hi, rfl⟩ := List.mem_map.mp h
    exact ⟨some i, rfl, fun j z => by cases z; exact hi⟩
theorem add_lst {l m : List D} (h : l.length + m.length ≤ 16777216) : addD (.lst l) (.lst m) = some (.fl (l ++ m)) := by
  have := line_ok h
  simp [addD, lenOk, this]
open Draw in
theorem pick_mem {ob : Obs} {n k : Nat} (hn : n < ob.length) {p : List D} (hp : Pot k p) (hk : k < 2 ^ 57) {α : Type} (f : α → String) (l : List α) (h0 : l ≠ []) (hl : l.length < 2 ^ 60) : ∃ x p', Draw.f__law_pick [.ob n, .lst (l.map fun x => D.str (f x))] (at_ ob n p) = .ok (.val (.str (f x))) (at_ ob n p') ∧ Pot (k + 1) p' := by
  obtain ⟨x, p1, hx, e1, hp1⟩ := pick hn hp (by omega) (items := l.map fun x => D.str (f x)) (by simpa using h0) (by simpa using hl)
  obtain ⟨y, _, rfl⟩ := List.mem_map.mp hx
  exact ⟨y, p1, e1, hp1⟩
open Draw in
theorem some_relay {ob : Obs} {n k : Nat} (hn : n < ob.length) {p : List D} (hp : Pot k p) (hk : k < 2 ^ 56) {vals : List Int} (hl : vals.length ≤ 1000) :
    ∃ (r : Rly) (p' : List D), (∀ i, r.hold = some i → i ∈ vals) ∧ (∀ i, r.lim = some i → i ∈ vals) ∧ Lw.f__law_some_relay [.ob n, .lst (vals.map D.int)] (at_ ob n p) = .ok (.val r.d) (at_ ob n p') ∧ Pot (k + 8) p' := by
  obtain ⟨ov, p1, e1, hp1⟩ := pick_mem hn hp (by omega) Over.s [.stream, .trim] (by simp) (by simp)
  obtain ⟨wh, p2, e2, hp2⟩ := pick_mem hn hp1 (by omega) Way.s [.length, .marks, .close] (by simp) (by simp)
  obtain ⟨st, p3, e3, hp3⟩ := pick_mem hn hp2 (by omega) Strm.s [.same, .marks, .close] (by simp) (by simp)
  obtain ⟨ct, p4, e4, hp4⟩ := pick_mem hn hp3 (by omega) Ct.s [.pass, .whole, .refuse] (by simp) (by simp)
  obtain ⟨wt, p5, e5, hp5⟩ := pick_mem hn hp4 (by omega) Wt.s [.wait, .cut] (by simp) (by simp)
  obtain ⟨x6, p6, hx6, e6, hp6⟩ := pick hn hp5 (by omega) (items := [.non, .non] ++ vals.map D.int) (by simp) (by simp; omega)
  obtain ⟨lim, rfl, hlim⟩ := oD_mem (l := [.non, .non]) (by simp) hx6
  obtain ⟨rest, p7, e7, hp7⟩ := pick_mem hn hp6 (by omega) Rst.s [.drain, .shut, .leave] (by simp) (by simp)
  obtain ⟨x8, p8, hx8, e8, hp8⟩ := pick hn hp7 (by omega) (items := [.non] ++ vals.map D.int) (by simp) (by simp; omega)
  obtain ⟨hold, rfl, hhold⟩ := oD_mem (l := [.non]) (by simp) hx8
  refine ⟨⟨hold, ov, wh, st, ct, wt, lim, rest⟩, p8, hhold, hlim, ?_, hp8⟩
  simp only [List.map_cons, List.map_nil, over_stream, over_trim, way_length, way_marks, way_close, strm_same, strm_marks, strm_close, ct_pass, ct_whole, ct_refuse, wt_wait, wt_cut, rst_drain, rst_shut, rst_leave] at e1 e2 e3 e4 e5 e7
  have a6 := add_lst (l := [.non, .non]) (m := vals.map D.int) (by simp; omega)
  have a8 := add_lst (l := [.non]) (m := vals.map D.int) (by simp; omega)
  let menus : List D := [.lst [.str "stream", .str "trim"], .lst [.str "length", .str "marks", .str "close"], .lst [.str "same", .str "marks", .str "close"], .lst [.str "pass", .str "whole", .str "refuse"]]
  let middle : List D := [.str ov.s, .str wh.s, .str st.s, .str ct.s, .str wt.s]
  have hc : lcGo (lcTurn (.var 5) tTrue (lcElt (eFrz (rCall Lw.f__law_pick (aCons (eVar 0) (aCons (eVar 5) (aNil)))))) [some (.ob n), some (.lst (vals.map D.int)), some (.lst menus), none, none, none]) (menus ++ [.lst [.str "wait", .str "cut"]]) (at_ ob n p) = some (middle, at_ ob n p5) := by
    simp only [menus, List.cons_append, List.nil_append, lcGo, lcTurn, lcElt, put_var, tTrue, List.set_cons_succ, List.set_cons_zero, ev_frz, ev_call, ev_cons, ev_var, vr_0, vr_1, vr_some, bind_ok, ev_nil, is_pick, e1, e2, e3, e4, e5, fin_ok, toD_val]
    rfl
  have am : addD (.lst menus) (.lst [.lst [.str "wait", .str "cut"]]) = some (.fl (menus ++ [.lst [.str "wait", .str "cut"]])) := add_lst (by simp [menus])
  simp only [List.cons_append, List.nil_append] at a6 a8 e6 e8
  unfold Lw.f__law_some_relay
  refine def_rt (sl := [some (.ob n), some (.lst (vals.map D.int)), some (.lst menus), some (.lst middle), some (.lst [oD lim, .str rest.s]), none]) ?_ (by simp)
  have hlen : (at_ ob n p).length = ob.length := by simp
  generalize at_ ob n p = o at *
  generalize at_ ob n p5 = o5 at *
  generalize at_ ob n p6 = o6 at *
  generalize at_ ob n p7 = o7 at *
  generalize at_ ob n p8 = o8 at *
  unfold Lw.e__law_some_relay
  rw [seq_ok (s1 := ⟨[some (.ob n), some (.lst (vals.map D.int)), some (.lst menus), none, none, none], o⟩) (by simp [line_ok, menus])]
  rw [seq_ok (s1 := ⟨[some (.ob n), some (.lst (vals.map D.int)), some (.lst menus), some (.lst middle), none, none], o5⟩) (by
    simp only [ev_set, ev_frz, ev_comp, ev_iseq, ev_op, ev_var, vr_0, vr_1, vr_some, bind_ok, ev_lst, ev_cons, ev_C, ev_nil, List.length_cons, List.length_nil, line_ok (show 0 + 1 ≤ 16777216 by omega), line_ok (show 0 + 1 + 1 ≤ 16777216 by omega), if_true, toD_fl, look_lst, am, opt_some, itemsD, sqo_some, wipeD, List.set_cons_succ, List.set_cons_zero, hc, cfin_ok (show middle.length ≤ 16777216 by simp [middle])])]
  rw [seq_ok (s1 := ⟨[some (.ob n), some (.lst (vals.map D.int)), some (.lst menus), some (.lst middle), some (.lst [oD lim, .str rest.s]), none], o7⟩) (by simp [line_ok, a6, is_pick, e6, e7])]
  have b1 := add_lst (l := [oD hold]) (m := middle) (by simp [middle])
  have b2 := add_lst (l := [oD hold] ++ middle) (m := [oD lim, .str rest.s]) (by simp [middle])
  simp only [ev_ret, ev_b, ev_op, ev_frz, ev_var, vr_0, vr_1, vr_some, bind_ok, ev_lst, ev_cons, ev_C, ev_nil, ev_call, List.length_cons, List.length_nil, line_ok (show 0 + 1 ≤ 16777216 by omega), line_ok (show 0 + 1 + 1 ≤ 16777216 by omega), if_true, toD_fl, look_lst, opt_some, a8, is_pick, e8, fin_ok, toD_val, b1, b2, List.map_cons, List.map_nil, tupleD]
  rfl
end Prog
end Cut
end
section
/-! CutOdd: what the program's tests tell of any object. -/
namespace Cut
open PySem PySem.Spec PyProof.Rows L2
namespace Prog

def intB : D → Bool | .int _ => true | _ => false
def cntB : D → Bool | .int i => decide (0 ≤ i) | _ => false
def oneB (x : D) (l : List D) : Bool := match x with | .str s => memD (.str s) l | _ => false
theorem integer_d {x : D} (hx : x.shp = true) (ob : Obs) : f_is_integer [x] ob = .ok (.val (.bl (intB x))) ob := by
  refine def_rt (sl := [some x]) ?_ rfl
  unfold e_is_integer
  cases x <;> first | (simp [isD1, D.ty, Ty.sub, intB]; done) | (rw [D.shp] at hx; cases hx)
theorem count_d {x : D} (hx : x.shp = true) (ob : Obs) : f_is_count [x] ob = .ok (.val (.bl (cntB x))) ob := by
  refine def_rt (sl := [some x]) ?_ rfl
  unfold e_is_count
  cases x <;> simp [integer_d hx, intB, cntB]
def bndB (x : D) : Bool := match x with | .non => true | x => cntB x
theorem bound_d {x : D} (hx : x.shp = true) (ob : Obs) : f_is_bound [x] ob = .ok (.val (.bl (bndB x))) ob := by
  refine def_rt (sl := [some x]) ?_ rfl
  unfold e_is_bound
  cases x <;> first | (simp [count_d hx, yesD, isD, cntB, bndB]; done) | (rw [D.shp] at hx; cases hx)
theorem one_d {x : D} (hx : x.shp = true) {l : List D} (hp : D.plains l = true) (hd : D.depths l = 0) (ob : Obs) : f_is_one_of [x, .tup l] ob = .ok (.val (.bl (oneB x l))) ob := by
  refine def_rt (sl := [some x, some (.tup l)]) ?_ rfl
  unfold e_is_one_of
  cases x <;> first | (simp [isD1, D.ty, Ty.sub, yesD, inD, inOk, hp, hd, oneB]; done) | (rw [D.shp] at hx; cases hx)
/-- units <= told, two counts -/
def leB : D → D → Bool | .int i, .int j => decide (i ≤ j) | _, _ => false
def nonB : D → Bool | .non => true | _ => false
def strB : D → String → Bool | .str s, t => s == (t : Str) | _, _ => false
def wayB (x : D) : Bool := oneB x [.str "length", .str "marks", .str "close"]
def enB (x : D) : Bool := oneB x [.str "mark", .str "open", .str "shut"]
def partsB (m w t u e : D) : Bool := wayB w && cntB m && cntB u && enB e && !(strB e "mark" && !strB w "marks") && (if strB w "length" = true then cntB t && leB u t else nonB t)
def sndB : D → Bool
  | .tup [m, w, t, u, e] => partsB m w t u e
  | _ => false
theorem five {l : List D} (h : l.length = 5) : ∃ m w t u e, l = [m, w, t, u, e] := by
  match l, h with
  | [m, w, t, u, e], _ => exact ⟨m, w, t, u, e, rfl⟩
theorem sndB_len {l : List D} (h : l.length ≠ 5) : sndB (.tup l) = false := by
  unfold sndB
  split
  · rename_i z
    cases z
    exact absurd rfl h
  · rfl
theorem str_of {x : D} {l : List D} (h : oneB x l = true) : ∃ s, x = .str s := by
  cases x <;> first | exact ⟨_, rfl⟩ | cases h
theorem int_of {x : D} (h : cntB x = true) : ∃ i : Int, x = .int i ∧ 0 ≤ i := by
  cases x <;> first | exact ⟨_, rfl, of_decide_eq_true h⟩ | cases h
theorem is_sending_d {d : D} (hd : d.shp = true) (ob : Obs) : f_is_sending [d] ob = .ok (.val (.bl (sndB d))) ob := by
  by_cases ht : ∃ l, d = .tup l
  · obtain ⟨l, rfl⟩ := ht
    by_cases hl : l.length = 5
    · obtain ⟨m, w, t, u, e, rfl⟩ := five hl
      simp only [shp_tup, shps_cons, shps_nil, Bool.and_eq_true, and_true] at hd
      obtain ⟨hm, hw, ht, hu, he⟩ := hd
      have oW := one_d hw (l := [.str "length", .str "marks", .str "close"]) (by simp) (by simp) ob
      have oE := one_d he (l := [.str "mark", .str "open", .str "shut"]) (by simp) (by simp) ob
      have kw : k_WAYS = .tup [.str "length", .str "marks", .str "close"] := rfl
      have ke : k_ENDS = .tup [.str "mark", .str "open", .str "shut"] := rfl
      rw [← kw] at oW; rw [← ke] at oE
      show f_is_sending [.tup [m, w, t, u, e]] ob = .ok (.val (.bl (partsB m w t u e))) ob
      unfold partsB
      have top : (sIf (tOr2 (tNot1 (tTru (eFrz (rIs (eVar 0) [.tuple])))) (tOr2 (tB (rOp neD (eFrz (rB lenD (aCons (eVar 0) (aNil)))) (eC (.int 5)))) (tNot1 (tTru (eFrz (rCall f_is_one_of (aCons (eFrz (rOp ixD (eVar 0) (eC (.int 1)))) (aCons (eC k_WAYS) (aNil))))))))) (sRet (rVal (eC (.bl false)))) (sPass)) ⟨[some (.tup [m, w, t, u, e]), none, none, none, none, none], ob⟩
          = if wayB w = true then .ok .nx ⟨[some (.tup [m, w, t, u, e]), none, none, none, none, none], ob⟩ else .ok (.rt (.val (.bl false))) ⟨[some (.tup [m, w, t, u, e]), none, none, none, none, none], ob⟩ := by
        simp [isD1, D.ty, Ty.sub, lenD, ne_int, ixD, oW, wayB]
        split <;> simp_all
      cases hwb : wayB w with
      | false =>
        rw [hwb] at top
        refine def_rt (sl := [some (.tup [m, w, t, u, e]), none, none, none, none, none]) ?_ rfl
        unfold e_is_sending
        rw [seq_rt (r := .val (.bl false)) (s1 := ⟨[some (.tup [m, w, t, u, e]), none, none, none, none, none], ob⟩) (by simpa using top)]
        simp
      | true =>
        rw [hwb] at top
        obtain ⟨ws, rfl⟩ := str_of hwb
        refine def_rt (sl := [some (.tup [m, .str ws, t, u, e]), some m, some (.str ws), some t, some u, some e]) ?_ rfl
        unfold e_is_sending
        rw [seq_ok (s1 := ⟨[some (.tup [m, .str ws, t, u, e]), none, none, none, none, none], ob⟩) (by simpa using top)]
        rw [seq_ok (s1 := ⟨[some (.tup [m, .str ws, t, u, e]), some m, some (.str ws), some t, some u, some e], ob⟩) (by simp [Tg.put, Tg.puts, seqD])]
        cases hmb : cntB m with
        | false => simp [count_d hm, hmb]
        | true =>
          cases hub : cntB u with
          | false => simp [count_d hm, count_d hu, hmb, hub]
          | true =>
            cases heb : enB e with
            | false =>
              have heb' : oneB e [.str "mark", .str "open", .str "shut"] = false := heb
              simp [count_d hm, count_d hu, hmb, hub, oE, heb']
            | true =>
              have heb' : oneB e [.str "mark", .str "open", .str "shut"] = true := heb
              obtain ⟨es, rfl⟩ := str_of heb
              obtain ⟨ui, rfl, hui⟩ := int_of hub
              obtain ⟨mi, rfl, hmi⟩ := int_of hmb
              rw [seq_ok (s1 := ⟨[some (.tup [.int mi, .str ws, t, .int ui, .str es]), some (.int mi), some (.str ws), some t, some (.int ui), some (.str es)], ob⟩) (by simp [count_d hm, count_d hu, hmb, hub, oE, heb'])]
              have eqm : strB (.str es) "mark" = (es == ("mark" : Str)) := rfl
              have eqw : strB (.str ws) "marks" = (ws == ("marks" : Str)) := rfl
              have eql : strB (.str ws) "length" = (ws == ("length" : Str)) := rfl
              rw [eqm, eqw, eql]
              have fin : (sRet (rIf (tB (rOp eqD (eVar 2) (eC (.str "length")))) (rVal (eAnd (eFrz (rCall f_is_count (aCons (eVar 3) (aNil)))) (eFrz (rOp leD (eVar 4) (eVar 3))))) (rOp (yesD isD) (eVar 3) (eC .non)))) ⟨[some (.tup [.int mi, .str ws, t, .int ui, .str es]), some (.int mi), some (.str ws), some t, some (.int ui), some (.str es)], ob⟩
                  = .ok (.rt (.val (.bl (if (ws == ("length" : Str)) = true then cntB t && leB (.int ui) t else nonB t)))) ⟨[some (.tup [.int mi, .str ws, t, .int ui, .str es]), some (.int mi), some (.str ws), some t, some (.int ui), some (.str es)], ob⟩ := by
                cases hlw : (ws == ("length" : Str)) with
                | true =>
                  have hl2 : ws = ("length" : Str) := eq_of_beq hlw
                  cases htb : cntB t with
                  | false => simp [eq_str, hl2, count_d ht, htb]
                  | true =>
                    obtain ⟨ti, rfl, hti⟩ := int_of htb
                    simp [eq_str, hl2, count_d ht, htb, leB]
                | false =>
                  have hl2 : ws ≠ ("length" : Str) := fun z => by rw [z] at hlw; simp at hlw
                  cases t <;> first | (simp [eq_str, hl2, yesD, isD, nonB]; done) | (rw [D.shp] at ht; cases ht)
              cases hE : (es == ("mark" : Str)) with
              | false =>
                rw [seq_ok (s1 := ⟨[some (.tup [.int mi, .str ws, t, .int ui, .str es]), some (.int mi), some (.str ws), some t, some (.int ui), some (.str es)], ob⟩) (by simp [eq_str, hE])]
                rw [fin]; simp
              | true =>
                cases hW : (ws == ("marks" : Str)) with
                | true =>
                  rw [seq_ok (s1 := ⟨[some (.tup [.int mi, .str ws, t, .int ui, .str es]), some (.int mi), some (.str ws), some t, some (.int ui), some (.str es)], ob⟩) (by simp [eq_str, ne_str, hE, hW])]
                  rw [fin]; simp
                | false =>
                  rw [seq_rt (r := .val (.bl false)) (s1 := ⟨[some (.tup [.int mi, .str ws, t, .int ui, .str es]), some (.int mi), some (.str ws), some t, some (.int ui), some (.str es)], ob⟩) (by simp [eq_str, ne_str, hE, hW])]
                  simp
    · rw [sndB_len hl]
      refine def_rt (sl := [some (.tup l), none, none, none, none, none]) ?_ rfl
      unfold e_is_sending
      have e5 : (l.length : Int) ≠ 5 := fun z => hl (by omega)
      simp [isD1, D.ty, Ty.sub, lenD, ne_int, e5]
  · have e : sndB d = false := by
      cases d <;> first | rfl | exact absurd ⟨_, rfl⟩ ht
    rw [e]
    refine def_rt (sl := [some d, none, none, none, none, none]) ?_ rfl
    unfold e_is_sending
    cases d <;> first | exact absurd ⟨_, rfl⟩ ht | (simp [isD1, D.ty, Ty.sub]; done) | (rw [D.shp] at hd; cases hd)
end Prog
end Cut
end
section
/-! CutNice: objects of any form that can be written out; is_relay of any object; how an error leaves a def. -/
namespace Cut
open PySem PySem.Spec PyProof.Rows L2
section
variable {s : PSt} {sl : List (Option D)} {ob : Obs} {fs : SM} {x f : Str} {fe : EM}
@[simp] theorem ev_raise : sRaise x s = .ex ⟨x, []⟩ s := rfl
@[simp] theorem ev_raiseF : sRaiseF x f fe s = (fe s).bind fun d s1 => match d with
  | .int i => if smallN i = true then .ex ⟨x, [(f, .int i)]⟩ s1 else .bad
  | _ => .bad := rfl
@[simp] theorem fin_ex {e : Ex} {ob : Obs} {sl : List (Option D)} : fin (.ex e ob) sl = .ex e ⟨sl, ob⟩ := rfl
theorem smallN_ok {i : Int} (h : -1000000000000000 ≤ i ∧ i ≤ 1000000000000000) : smallN i = true := by
  unfold smallN
  refine decide_eq_true ?_
  by_cases h0 : i.natAbs = 0
  · rw [h0]; decide
  · refine (Nat.log2_lt h0).mpr ?_
    have e : (2 : Nat) ^ 60 ≤ 2 ^ 1920 := Nat.pow_le_pow_right (by decide) (by decide)
    have e2 : (2 : Nat) ^ 60 = 1152921504606846976 := by decide
    omega
theorem def_ex {ds : List D} {k : Nat} {e : Ex} {ob' : Obs} (h : fs ⟨ds.map some ++ List.replicate k none, ob⟩ = .ex e ⟨sl, ob'⟩) (hl : ob'.length = ob.length) : evDef k fs ds ob = .ex e ob' := by
  unfold evDef
  rw [h]
  show leave _ _ _ _ = _
  unfold leave
  rw [if_pos hl]
theorem seq_ex {gs : SM} {e : Ex} {s1 : PSt} (h : fs s = .ex e s1) : sSeq fs gs s = .ex e s1 := by rw [ev_seq, h]; rfl
theorem try_ok {m : List (Str × Str × Bool)} {l : List Hd} {fl : Fl} {s1 : PSt} (h : fs s = .ok fl s1) : sTry m fs l s = .ok fl s1 := by unfold sTry; rw [h]
theorem try_ex {m : List (Str × Str × Bool)} {l : List Hd} {e : Ex} {s1 : PSt} (h : fs s = .ex e s1) : sTry m fs l s = sHand m l e s1 := by unfold sTry; rw [h]
end
namespace Prog
/-! ### data that is small enough -/
structure G (x : D) : Prop where
  shp : x.shp = true
  wok : x.wok = true
  depth : x.depth ≤ 2
  wt : x.wt ≤ 1000
structure Nice (d : D) : Prop where
  shp : d.shp = true
  wok : d.wok = true
  depth : d.depth ≤ 5
  wt : d.wt ≤ 100000
theorem G.nice {x : D} (h : G x) : Nice x := ⟨h.shp, h.wok, by have := h.depth; omega, by have := h.wt; omega⟩
theorem G_all : ∀ {l : List D}, (∀ x ∈ l, G x) → D.shps l = true ∧ D.woks l = true ∧ D.depths l ≤ 2 ∧ D.wts l ≤ 1002 * l.length
  | [], _ => by simp
  | x :: l, h => by
    obtain ⟨a, b, c, d⟩ := h x List.mem_cons_self
    obtain ⟨a2, b2, c2, d2⟩ := G_all (l := l) fun y hy => h y (List.mem_cons_of_mem _ hy)
    simp only [shps_cons, woks_cons, depths_cons, wts_cons, a, b, a2, b2, List.length_cons]
    exact ⟨rfl, rfl, by omega, by omega⟩
theorem nice_tup {l : List D} (hl : l.length ≤ 40) (h : ∀ x ∈ l, G x) : Nice (.tup l) := by
  obtain ⟨a, b, c, d⟩ := G_all h
  exact ⟨by simp [a], by simp [b], by simp; omega, by simp; omega⟩
theorem nice_lst {l : List D} (hl : l.length ≤ 40) (h : ∀ x ∈ l, G x) : Nice (.lst l) := by
  obtain ⟨a, b, c, d⟩ := G_all h
  exact ⟨by simp [a], by simp [b], by simp; omega, by simp; omega⟩
theorem G_int {i : Int} (h : -1000000000000 ≤ i ∧ i ≤ 1000000000000) : G (.int i) := ⟨by simp, wok_int (by omega), by simp, by simp⟩
theorem G_str {s : String} (h : ((Str.ofString s : Str).cps.toList.all fun c => decide (c < 4294967296)) = true) (h2 : (Str.ofString s).length ≤ 90) : G (.str s) := ⟨by simp, by rw [D.wok]; exact h, by simp, by simp; omega⟩
theorem G_non : G .non := ⟨by simp, by simp, by simp, by simp⟩
theorem G_bl (b : Bool) : G (.bl b) := ⟨by simp, by simp, by simp, by simp⟩
theorem G_nil : G (.lst []) := ⟨by simp, by simp, by simp, by simp⟩
theorem G_dct : G (.dct [] []) := ⟨by simp, by simp, by simp, by simp⟩
theorem G_tup0 : G (.tup []) := ⟨by simp, by simp, by simp, by simp⟩
theorem G_tup1 : G (.tup [.int 1]) := ⟨by simp, by simp [wok_int], by simp, by simp⟩
theorem repr_nice {d : D} (h : Nice d) : ∃ x, reprD [d] = some (.val (.str x)) := ⟨_, repr_okS h.shp h.wok (by have := h.depth; omega) (by have := h.wt; omega)⟩
theorem repr_two {d e : D} (h : Nice d) (h2 : Nice e) : ∃ x, reprD [.tup [d, e]] = some (.val (.str x)) := by
  obtain ⟨a1, a2, a3, a4⟩ := h
  obtain ⟨b1, b2, b3, b4⟩ := h2
  exact ⟨_, repr_okS (by simp [a1, b1]) (by simp [a2, b2]) (by simp; omega) (by simp; omega)⟩
theorem look_nice {d : D} (h : Nice d) (ob : Obs) : look ob d = d := by
  have h := h.shp
  cases d <;> first | rfl | (rw [D.shp] at h; cases h)
theorem cut_mem {α : Type} {l : List α} {lo hi : Option Int} {x : α} (h : x ∈ cut l lo hi) : x ∈ l := by
  unfold cut at h
  exact List.mem_of_mem_drop (List.mem_of_mem_take h)
theorem cut_len {α : Type} {l : List α} {lo hi : Option Int} : (cut l lo hi).length ≤ l.length := by
  unfold cut
  rw [List.length_take, List.length_drop]
  omega
theorem add_tup {l m : List D} (h : l.length + m.length ≤ 16777216) : addD (.tup l) (.tup m) = some (.val (.tup (l ++ m))) := by
  have := line_ok h
  simp [addD, lenOk, this]
theorem G_oD {o : Option Int} (h : ∀ i, o = some i → -1000000000000 ≤ i ∧ i ≤ 1000000000000) : G (oD o) := by
  cases o with
  | none => exact G_non
  | some i => exact G_int (h i rfl)
theorem G_snd {s : Snd} (h : s.Ok) (hl : s.Le 1000000000000) : ∀ x ∈ [D.int s.meant, .str s.way.s, oD s.told, .int s.units, .str s.en.s], G x := by
  have h1 := h.meant; have h2 := h.units; have h3 := hl.meant; have h4 := hl.units
  have hw : G (.str s.way.s) := by cases s.way <;> exact G_str (by decide) (by decide)
  have he : G (.str s.en.s) := by cases s.en <;> exact G_str (by decide) (by decide)
  have ho : G (oD s.told) := G_oD fun t ht => by
    have := hl.told t ht
    by_cases hwl : s.way = .length
    · obtain ⟨t', e, _, h0⟩ := h.told hwl
      rw [ht] at e; cases e; omega
    · rw [h.none_ hwl] at ht; cases ht
  intro x hx
  simp only [List.mem_cons, List.not_mem_nil, or_false] at hx
  rcases hx with rfl | rfl | rfl | rfl | rfl
  · exact G_int ⟨by omega, h3⟩
  · exact hw
  · exact ho
  · exact G_int ⟨by omega, h4⟩
  · exact he
def Rly.l (r : Rly) : List D := [oD r.hold, .str r.over.s, .str r.whole.s, .str r.strm.s, .str r.ct.s, .str r.wt.s, oD r.lim, .str r.rest.s]
def Snd.l (s : Snd) : List D := [.int s.meant, .str s.way.s, oD s.told, .int s.units, .str s.en.s]
theorem G_rly {r : Rly} (h : r.Ok) (hl : r.Le 1000000000000) : ∀ x ∈ r.l, G x := by
  have hh : G (oD r.hold) := G_oD fun i e => ⟨by have := h.hold i e; omega, hl.hold i e⟩
  have hm : G (oD r.lim) := G_oD fun i e => ⟨by have := h.lim i e; omega, hl.lim i e⟩
  have h1 : G (.str r.over.s) := by cases r.over <;> exact G_str (by decide) (by decide)
  have h2 : G (.str r.whole.s) := by cases r.whole <;> exact G_str (by decide) (by decide)
  have h3 : G (.str r.strm.s) := by cases r.strm <;> exact G_str (by decide) (by decide)
  have h4 : G (.str r.ct.s) := by cases r.ct <;> exact G_str (by decide) (by decide)
  have h5 : G (.str r.wt.s) := by cases r.wt <;> exact G_str (by decide) (by decide)
  have h6 : G (.str r.rest.s) := by cases r.rest <;> exact G_str (by decide) (by decide)
  intro x hx
  simp only [Rly.l, List.mem_cons, List.not_mem_nil, or_false] at hx
  rcases hx with rfl | rfl | rfl | rfl | rfl | rfl | rfl | rfl <;> assumption
/-! ### is_relay of any object -/
def rlyP (h o w s c p l r : D) : Bool := bndB h && bndB l && oneB r [.str "drain", .str "shut", .str "leave"] && (oneB o [.str "stream", .str "trim"] && oneB w [.str "length", .str "marks", .str "close"] && oneB s [.str "same", .str "marks", .str "close"] && oneB c [.str "pass", .str "whole", .str "refuse"] && oneB p [.str "wait", .str "cut"])
def rlyB : D → Bool
  | .tup [h, o, w, s, c, p, l, r] => rlyP h o w s c p l r
  | _ => false
theorem eight {l : List D} (h : l.length = 8) : ∃ a b c d e f g i, l = [a, b, c, d, e, f, g, i] := by
  match l, h with
  | [a, b, c, d, e, f, g, i], _ => exact ⟨a, b, c, d, e, f, g, i, rfl⟩
theorem rlyB_len {l : List D} (h : l.length ≠ 8) : rlyB (.tup l) = false := by
  unfold rlyB
  split
  · rename_i z
    cases z
    exact absurd rfl h
  · rfl
theorem is_relay_d {d : D} (hd : d.shp = true) (ob : Obs) : f_is_relay [d] ob = .ok (.val (.bl (rlyB d))) ob := by
  by_cases ht : ∃ l, d = .tup l
  · obtain ⟨l, rfl⟩ := ht
    by_cases hl : l.length = 8
    · obtain ⟨h, o, w, s, c, p, li, r, rfl⟩ := eight hl
      simp only [shp_tup, shps_cons, shps_nil, Bool.and_eq_true, and_true] at hd
      obtain ⟨hh, ho, hw, hs, hc, hp, hli, hr⟩ := hd
      show f_is_relay [.tup [h, o, w, s, c, p, li, r]] ob = .ok (.val (.bl (rlyP h o w s c p li r))) ob
      have b1 : f_is_bound [h] ob = .ok (.val (.bl (bndB h))) ob := bound_d hh ob
      have b2 : f_is_bound [li] ob = .ok (.val (.bl (bndB li))) ob := bound_d hli ob
      have or : f_is_one_of [r, k_RESTS] ob = .ok (.val (.bl (oneB r [.str "drain", .str "shut", .str "leave"]))) ob := one_d hr (by simp) (by simp) ob
      have o1 := one_d ho (l := [.str "stream", .str "trim"]) (by simp) (by simp) ob
      have o2 := one_d hw (l := [.str "length", .str "marks", .str "close"]) (by simp) (by simp) ob
      have o3 := one_d hs (l := [.str "same", .str "marks", .str "close"]) (by simp) (by simp) ob
      have o4 := one_d hc (l := [.str "pass", .str "whole", .str "refuse"]) (by simp) (by simp) ob
      have o5 := one_d hp (l := [.str "wait", .str "cut"]) (by simp) (by simp) ob
      unfold rlyP
      refine def_rt (sl := [some (.tup [h, o, w, s, c, p, li, r]), none, none]) ?_ rfl
      unfold e_is_relay
      generalize bndB h = B1 at b1 ⊢
      generalize bndB li = B2 at b2 ⊢
      generalize oneB r [.str "drain", .str "shut", .str "leave"] = B3 at or ⊢
      cases B1 with
      | false => simp [isD1, D.ty, Ty.sub, lenD, ne_int, ixD, b1]
      | true =>
        cases B2 with
        | false => simp [isD1, D.ty, Ty.sub, lenD, ne_int, ixD, b1, b2]
        | true =>
          rw [seq_ok (s1 := ⟨[some (.tup [h, o, w, s, c, p, li, r]), none, none], ob⟩) (by simp [isD1, D.ty, Ty.sub, lenD, ne_int, ixD, b1, b2])]
          cases B3 with
          | false => simp [ixD, or]
          | true =>
            rw [seq_ok (s1 := ⟨[some (.tup [h, o, w, s, c, p, li, r]), none, none], ob⟩) (by simp [ixD, or])]
            have hcut : cut [h, o, w, s, c, p, li, r] (some 1) (some 6) = [o, w, s, c, p] := rfl
            generalize oneB o [.str "stream", .str "trim"] = C1 at o1 ⊢
            generalize oneB w [.str "length", .str "marks", .str "close"] = C2 at o2 ⊢
            generalize oneB s [.str "same", .str "marks", .str "close"] = C3 at o3 ⊢
            generalize oneB c [.str "pass", .str "whole", .str "refuse"] = C4 at o4 ⊢
            generalize oneB p [.str "wait", .str "cut"] = C5 at o5 ⊢
            have hcc : lcGo (lcTurn (.tup [.var 1, .var 2]) tTrue (lcElt (eFrz (rCall f_is_one_of (aCons (eVar 1) (aCons (eVar 2) aNil))))) (wipeD [some (.tup [h, o, w, s, c, p, li, r]), none, none] [1, 2]))
                (zipD [o, w, s, c, p] [.tup [.str "stream", .str "trim"], .tup [.str "length", .str "marks", .str "close"], .tup [.str "same", .str "marks", .str "close"], .tup [.str "pass", .str "whole", .str "refuse"], .tup [.str "wait", .str "cut"]]) ob =
                some ([.bl C1, .bl C2, .bl C3, .bl C4, .bl C5], ob) := by
              simp only [zipD, lcGo, lcTurn, lcElt, wipeD, Tg.put, Tg.puts, seqD, tTrue, List.set_cons_succ, List.set_cons_zero, ev_frz, ev_call, ev_cons, ev_var, vr_0, vr_1, vr_some, bind_ok, ev_nil, o1, o2, o3, o4, o5, fin_ok, toD_val]
              rfl
            unfold k_CHOICES
            simp [iZipD, sliceD, hcut, hcc, cfin_ok, allD, blsD, Bool.and_assoc]
    · rw [rlyB_len hl]
      refine def_rt (sl := [some (.tup l), none, none]) ?_ rfl
      unfold e_is_relay
      have e8 : (l.length : Int) ≠ 8 := fun z => hl (by omega)
      simp [isD1, D.ty, Ty.sub, lenD, ne_int, e8]
  · have e : rlyB d = false := by
      cases d <;> first | rfl | exact absurd ⟨_, rfl⟩ ht
    rw [e]
    refine def_rt (sl := [some d, none, none]) ?_ rfl
    unfold e_is_relay
    cases d <;> first | exact absurd ⟨_, rfl⟩ ht | (simp [isD1, D.ty, Ty.sub]; done) | (rw [D.shp] at hd; cases hd)
end Prog
end Cut
end
section
/-! CutNice2: more of what is small enough; drawing a list of relays. -/
namespace Cut
open PySem PySem.Spec PyProof.Rows L2
theorem cut_at {α : Type} (l : List α) (k : Nat) : cut l (some (k : Int)) none = l.drop k := by
  unfold cut
  have h1 : HT.sIx l.length l.length none = l.length := rfl
  have h2 : HT.sIx l.length 0 (some (k : Int)) = min k l.length := by
    unfold HT.sIx
    simp
    try omega
  rw [h1, h2]
  by_cases h : k ≤ l.length
  · rw [Nat.min_eq_left h, List.take_of_length_le (by rw [List.length_drop]; omega)]
  · rw [Nat.min_eq_right (by omega), List.drop_of_length_le (by omega : l.length ≤ k)]
    simp
namespace Prog
theorem rly_nice {r : Rly} (h : r.Ok) (hl : r.Le 1000000000000) : Nice r.d := nice_tup (l := r.l) (by simp [Rly.l]) (G_rly h hl)
theorem snd_nice {s : Snd} (h : s.Ok) (hl : s.Le 1000000000000) : Nice s.d := nice_tup (l := s.l) (by simp [Snd.l]) (G_snd h hl)
theorem rly_yes {r : Rly} (h : r.Ok) (hl : r.Le 1000000000000) : rlyB r.d = true := by
  have e1 := is_relay_r h []
  have e2 := is_relay_d (rly_nice h hl).shp []
  rw [e1] at e2
  injection e2 with e2 _
  injection e2 with e2
  injection e2 with e2
  exact e2.symm
theorem in_parts {l : List D} {w : D} {k : Nat} (hl : ∀ x ∈ l, G x) (hw : G w) : ∀ x ∈ l.take k ++ [w] ++ l.drop (k + 1), G x := by
  intro x hx
  rcases List.mem_append.mp hx with hx | hx
  · rcases List.mem_append.mp hx with hx | hx
    · exact hl x (List.mem_of_mem_take hx)
    · rw [List.mem_singleton.mp hx]; exact hw
  · exact hl x (List.mem_of_mem_drop hx)
/-- things of the size of a relay -/
structure G2 (x : D) : Prop where
  shp : x.shp = true
  wok : x.wok = true
  depth : x.depth ≤ 3
  wt : x.wt ≤ 9000
theorem G.g2 {x : D} (h : G x) : G2 x := ⟨h.shp, h.wok, by have := h.depth; omega, by have := h.wt; omega⟩
theorem G2.nice {x : D} (h : G2 x) : Nice x := ⟨h.shp, h.wok, by have := h.depth; omega, by have := h.wt; omega⟩
theorem g2_tup {l : List D} (hl : l.length ≤ 8) (h : ∀ x ∈ l, G x) : G2 (.tup l) := by
  obtain ⟨a, b, c, d⟩ := G_all h
  exact ⟨by simp [a], by simp [b], by simp; omega, by simp; omega⟩
theorem g2_lst {l : List D} (hl : l.length ≤ 8) (h : ∀ x ∈ l, G x) : G2 (.lst l) := by
  obtain ⟨a, b, c, d⟩ := G_all h
  exact ⟨by simp [a], by simp [b], by simp; omega, by simp; omega⟩
theorem G2_all : ∀ {l : List D}, (∀ x ∈ l, G2 x) → D.shps l = true ∧ D.woks l = true ∧ D.depths l ≤ 3 ∧ D.wts l ≤ 9002 * l.length
  | [], _ => by simp
  | x :: l, h => by
    obtain ⟨a, b, c, d⟩ := h x List.mem_cons_self
    obtain ⟨a2, b2, c2, d2⟩ := G2_all (l := l) fun y hy => h y (List.mem_cons_of_mem _ hy)
    simp only [shps_cons, woks_cons, depths_cons, wts_cons, a, b, a2, b2, List.length_cons]
    exact ⟨rfl, rfl, by omega, by omega⟩
theorem nice_tup2 {l : List D} (hl : l.length ≤ 8) (h : ∀ x ∈ l, G2 x) : Nice (.tup l) := by
  obtain ⟨a, b, c, d⟩ := G2_all h
  exact ⟨by simp [a], by simp [b], by simp; omega, by simp; omega⟩
theorem nice_lst2 {l : List D} (hl : l.length ≤ 8) (h : ∀ x ∈ l, G2 x) : Nice (.lst l) := by
  obtain ⟨a, b, c, d⟩ := G2_all h
  exact ⟨by simp [a], by simp [b], by simp; omega, by simp; omega⟩
theorem nice_one {l : List D} (hl : l.length ≤ 8) (h : ∀ x ∈ l, G2 x) : Nice (.lst [.tup l]) := by
  obtain ⟨a, b, c, d⟩ := G2_all h
  exact ⟨by simp [a], by simp [b], by simp; omega, by simp; omega⟩
theorem rly_g2 {r : Rly} (h : r.Ok) (hl : r.Le 1000000000000) : G2 r.d := g2_tup (l := r.l) (by simp [Rly.l]) (G_rly h hl)
end Prog
open Draw Prog in
theorem draw_relays {ob : Obs} {n : Nat} (hn : n < ob.length) {vals : List Int} (hv : vals.length ≤ 1000) {step : D → Obs → Option (List D × Obs)}
    (hs : ∀ (p p' : List D) (r : Rly) (i : Int), Lw.f__law_some_relay [.ob n, .lst (vals.map D.int)] (at_ ob n p) = .ok (.val r.d) (at_ ob n p') → step (.int i) (at_ ob n p) = some ([r.d], at_ ob n p')) :
    ∀ (m : Nat) (lo : Int) (k : Nat) (p : List D), Pot k p → k + 8 * m < 2 ^ 56 → ∃ (rs : List Rly) (p' : List D), rs.length = m ∧ (∀ r ∈ rs, (∀ i, r.hold = some i → i ∈ vals) ∧ ∀ i, r.lim = some i → i ∈ vals) ∧ lcGo step (rangeD lo m) (at_ ob n p) = some (rs.map Rly.d, at_ ob n p') ∧ Pot (k + 8 * m) p'
  | 0, lo, k, p, hp, _ => ⟨[], p, rfl, fun r hr => absurd hr List.not_mem_nil, rfl, hp⟩
  | m + 1, lo, k, p, hp, hk => by
    obtain ⟨r, p1, h1, h2, e1, hp1⟩ := some_relay hn hp (by omega) (vals := vals) hv
    obtain ⟨rs, p2, g1, g2, g3, g4⟩ := draw_relays hn hv hs m (lo + 1) (k + 8) p1 hp1 (by omega)
    refine ⟨r :: rs, p2, by rw [List.length_cons, g1], fun x hx => ?_, ?_, g4.mono (by omega)⟩
    · rcases List.mem_cons.mp hx with rfl | hx
      · exact ⟨h1, h2⟩
      · exact g2 x hx
    · rw [rangeD, lcGo, hs p p1 r lo e1]
      simp only [g3, List.map_cons, List.singleton_append]
end Cut
end
section
namespace Cut
open PySem PySem.Spec PyProof.Rows L2
namespace Ch
noncomputable def e_is_integer : SM :=
  sRet (rVal (eAnd (eFrz (rIs (eVar 0) [.int])) (eNot (eFrz (rIs (eVar 0) [.bool])))))
noncomputable def f_is_integer : FM := evDef 0 e_is_integer
noncomputable def e_is_count : SM :=
  sRet (rVal (eAnd (eFrz (rCall f_is_integer (aCons (eVar 0) (aNil)))) (eFrz (rOp geD (eVar 0) (eC (.int 0))))))
noncomputable def f_is_count : FM := evDef 0 e_is_count
noncomputable def e_is_bound : SM :=
  sRet (rVal (eOr (eFrz (rOp (yesD isD) (eVar 0) (eC .non))) (eFrz (rCall f_is_count (aCons (eVar 0) (aNil))))))
noncomputable def f_is_bound : FM := evDef 0 e_is_bound
noncomputable def e_is_one_of : SM :=
  sRet (rVal (eAnd (eFrz (rIs (eVar 0) [.str])) (eFrz (rOp (yesD inD) (eVar 0) (eVar 1)))))
noncomputable def f_is_one_of : FM := evDef 0 e_is_one_of
def k_RESTS : D := .tup [.str "drain", .str "shut", .str "leave"]
def k_CHOICES : D := .tup [.tup [.str "stream", .str "trim"], .tup [.str "length", .str "marks", .str "close"], .tup [.str "same", .str "marks", .str "close"], .tup [.str "pass", .str "whole", .str "refuse"], .tup [.str "wait", .str "cut"]]
noncomputable def e_is_relay : SM :=
  sSeq (sIf (tOr2 (tNot1 (tTru (eFrz (rIs (eVar 0) [.tuple])))) (tOr2 (tB (rOp neD (eFrz (rB lenD (aCons (eVar 0) (aNil)))) (eC (.int 8)))) (tOr2 (tNot1 (tTru (eFrz (rCall f_is_bound (aCons (eFrz (rOp ixD (eVar 0) (eC (.int 0)))) (aNil)))))) (tNot1 (tTru (eFrz (rCall f_is_bound (aCons (eFrz (rOp ixD (eVar 0) (eC (.int 6)))) (aNil))))))))) (sRet (rVal (eC (.bl false)))) (sPass)) <|
  sSeq (sIf (tNot1 (tTru (eFrz (rCall f_is_one_of (aCons (eFrz (rOp ixD (eVar 0) (eC (.int 7)))) (aCons (eC k_RESTS) (aNil))))))) (sRet (rVal (eC (.bl false)))) (sPass)) <|
  sRet (rB allD (aCons (eFrz (rComp [1, 2] (iZipD (eFrz (rSlice (eVar 0) (oSome (eC (.int 1))) (oSome (eC (.int 6))))) (eC k_CHOICES)) (.tup [.var 1, .var 2]) (tTrue) (eFrz (rCall f_is_one_of (aCons (eVar 1) (aCons (eVar 2) (aNil))))))) (aNil)))
noncomputable def f_is_relay : FM := evDef 2 e_is_relay
noncomputable def l_need_chain_0 : SM :=
  sIf (tNot1 (tTru (eFrz (rCall f_is_relay (aCons (eVar 2) (aNil)))))) (sRaiseF "NoRelay" "place" (eVar 1)) (sPass)
noncomputable def e_need_chain : SM :=
  sSeq (sIf (tNot1 (tTru (eFrz (rIs (eVar 0) [.tuple])))) (sRaiseF "NoRelay" "place" (eNeg (eC (.int 1)))) (sPass)) <|
  sFor (iEnumD (eVar 0)) (.tup [.var 1, .var 2]) l_need_chain_0
noncomputable def f_need_chain : FM := evDef 2 e_need_chain
noncomputable def e_bounds_of : SM :=
  sSeq (sExp (rCall f_need_chain (aCons (eVar 0) (aNil)))) <|
  sSeq (sSet 1 (eFrz (rComp2 [2, 3] (iSeq (eVar 0)) (.var 2) (tTrue) [3] (iSeq (eTup (aCons (eFrz (rOp ixD (eVar 2) (eC (.int 0)))) (aCons (eFrz (rOp ixD (eVar 2) (eC (.int 6)))) (aNil))))) (.var 3) (tB (rOp (notD isD) (eVar 3) (eC .non))) (eVar 3)))) <|
  sRet (rSortSet (eFrz (rOp addD (eFrz (rLst (aCons (eC (.int 0)) (aNil)))) (eVar 1))))
noncomputable def f_bounds_of : FM := evDef 3 e_bounds_of
def k_WAYS : D := .tup [.str "length", .str "marks", .str "close"]
def k_ENDS : D := .tup [.str "mark", .str "open", .str "shut"]
noncomputable def e_is_sending : SM :=
  sSeq (sIf (tOr2 (tNot1 (tTru (eFrz (rIs (eVar 0) [.tuple])))) (tOr2 (tB (rOp neD (eFrz (rB lenD (aCons (eVar 0) (aNil)))) (eC (.int 5)))) (tNot1 (tTru (eFrz (rCall f_is_one_of (aCons (eFrz (rOp ixD (eVar 0) (eC (.int 1)))) (aCons (eC k_WAYS) (aNil))))))))) (sRet (rVal (eC (.bl false)))) (sPass)) <|
  sSeq (sAsg (.tup [.var 1, .var 2, .var 3, .var 4, .var 5]) (eVar 0)) <|
  sSeq (sIf (tOr2 (tNot1 (tTru (eFrz (rCall f_is_count (aCons (eVar 1) (aNil)))))) (tOr2 (tNot1 (tTru (eFrz (rCall f_is_count (aCons (eVar 4) (aNil)))))) (tNot1 (tTru (eFrz (rCall f_is_one_of (aCons (eVar 5) (aCons (eC k_ENDS) (aNil))))))))) (sRet (rVal (eC (.bl false)))) (sPass)) <|
  sSeq (sIf (tAnd2 (tB (rOp eqD (eVar 5) (eC (.str "mark")))) (tB (rOp neD (eVar 2) (eC (.str "marks"))))) (sRet (rVal (eC (.bl false)))) (sPass)) <|
  sRet (rIf (tB (rOp eqD (eVar 2) (eC (.str "length")))) (rVal (eAnd (eFrz (rCall f_is_count (aCons (eVar 3) (aNil)))) (eFrz (rOp leD (eVar 4) (eVar 3))))) (rOp (yesD isD) (eVar 3) (eC .non)))
noncomputable def f_is_sending : FM := evDef 5 e_is_sending
noncomputable def e_need_run : SM :=
  sSeq (sExp (rCall f_need_chain (aCons (eVar 0) (aNil)))) <|
  sIf (tNot1 (tTru (eFrz (rCall f_is_sending (aCons (eVar 1) (aNil)))))) (sRaise "NoSending") (sPass)
noncomputable def f_need_run : FM := evDef 0 e_need_run
noncomputable def e_reading : SM :=
  sSeq (sAsg (.tup [.var 1, .var 2, .var 3, .var 4, .var 5]) (eVar 0)) <|
  sSeq (sIf (tOr2 (tAnd2 (tB (rOp eqD (eVar 2) (eC (.str "length")))) (tB (rOp eqD (eVar 4) (eVar 3)))) (tOr2 (tAnd2 (tB (rOp eqD (eVar 2) (eC (.str "marks")))) (tB (rOp eqD (eVar 5) (eC (.str "mark"))))) (tAnd2 (tB (rOp eqD (eVar 2) (eC (.str "close")))) (tB (rOp eqD (eVar 5) (eC (.str "shut"))))))) (sRet (rVal (eTup (aCons (eC (.str "whole")) (aCons (eVar 4) (aNil)))))) (sPass)) <|
  sRet (rVal (eTup (aCons (eIf (tB (rOp eqD (eVar 5) (eC (.str "open")))) (eC (.str "waits")) (eC (.str "cut"))) (aCons (eVar 4) (aNil)))))
noncomputable def f_reading : FM := evDef 5 e_reading
noncomputable def e_left_of : SM :=
  sSeq (sAsg (.tup [.var 2, .var 3, .var 4, .var 5, .var 6]) (eVar 1)) <|
  sSeq (sIf (tB (rOp (yesD isD) (eFrz (rOp ixD (eVar 0) (eC (.int 6)))) (eC .non))) (sRet (rVal (eC .non))) (sPass)) <|
  sSeq (sIf (tB (rOp eqD (eVar 3) (eC (.str "length")))) (sRet (rVal (eIf (tB (rOp gtD (eVar 4) (eFrz (rOp ixD (eVar 0) (eC (.int 6)))))) (eVar 5) (eC .non)))) (sPass)) <|
  sRet (rIf (tB (rOp gtD (eVar 5) (eFrz (rOp ixD (eVar 0) (eC (.int 6)))))) (rOp subD (eVar 5) (eFrz (rOp ixD (eVar 0) (eC (.int 6))))) (rVal (eC .non)))
noncomputable def f_left_of : FM := evDef 5 e_left_of
noncomputable def e_troubles : SM :=
  sSeq (sSet 1 (eFrz (rCall f_reading (aCons (eVar 0) (aNil))))) <|
  sSeq (sIf (tB (rOp eqD (eFrz (rOp ixD (eVar 1) (eC (.int 0)))) (eC (.str "waits")))) (sRet (rVal (eTup (aCons (eC (.str "waits")) (aNil))))) (sPass)) <|
  sRet (rVal (eIf (tAnd2 (tB (rOp eqD (eFrz (rOp ixD (eVar 1) (eC (.int 0)))) (eC (.str "whole")))) (tB (rOp neD (eFrz (rOp ixD (eVar 1) (eC (.int 1)))) (eFrz (rOp ixD (eVar 0) (eC (.int 0))))))) (eTup (aCons (eC (.str "fooled")) (aNil))) (eTup (aNil))))
noncomputable def f_troubles : FM := evDef 1 e_troubles
noncomputable def e_is_long : SM :=
  sRet (rVal (eAnd (eFrz (rOp (notD isD) (eFrz (rOp ixD (eVar 0) (eC (.int 0)))) (eC .non))) (eFrz (rOp gtD (eVar 1) (eFrz (rOp ixD (eVar 0) (eC (.int 0))))))))
noncomputable def f_is_long : FM := evDef 0 e_is_long
def k_WHOLE_ENDS : List (Str × D) := [("length", .str "open"), ("marks", .str "mark"), ("close", .str "shut")]
noncomputable def e_whole_sending : SM :=
  sRet (rVal (eTup (aCons (eVar 0) (aCons (eVar 1) (aCons (eIf (tB (rOp eqD (eVar 1) (eC (.str "length")))) (eVar 2) (eC .non)) (aCons (eVar 2) (aCons (eFrz (rKd k_WHOLE_ENDS (eVar 1))) (aNil))))))))
noncomputable def f_whole_sending : FM := evDef 0 e_whole_sending
noncomputable def e_trimmed : SM :=
  sRet (rCall f_whole_sending (aCons (eFrz (rOp ixD (eVar 1) (eC (.int 0)))) (aCons (eFrz (rOp ixD (eVar 0) (eC (.int 2)))) (aCons (eFrz (rOp ixD (eVar 0) (eC (.int 0)))) (aNil)))))
noncomputable def f_trimmed : FM := evDef 0 e_trimmed
noncomputable def e_streamed : SM :=
  sSeq (sIf (tB (rOp eqD (eFrz (rOp ixD (eVar 0) (eC (.int 3)))) (eC (.str "same")))) (sRet (rVal (eTup (aCons (eFrz (rOp ixD (eVar 1) (eC (.int 0)))) (aCons (eFrz (rOp ixD (eVar 1) (eC (.int 1)))) (aCons (eFrz (rOp ixD (eVar 1) (eC (.int 2)))) (aCons (eVar 2) (aCons (eVar 3) (aNil))))))))) (sPass)) <|
  sRet (rVal (eTup (aCons (eFrz (rOp ixD (eVar 1) (eC (.int 0)))) (aCons (eFrz (rOp ixD (eVar 0) (eC (.int 3)))) (aCons (eC .non) (aCons (eVar 2) (aCons (eVar 3) (aNil))))))))
noncomputable def f_streamed : FM := evDef 0 e_streamed
noncomputable def e_refused : SM :=
  sSeq (sSet 3 (eTup (aNil))) <|
  sSeq (sIf (tAnd2 (tB (rOp eqD (eFrz (rOp ixD (eVar 0) (eC (.int 7)))) (eC (.str "leave")))) (tAnd2 (tB (rOp gtD (eVar 2) (eC (.int 0)))) (tB (rOp neD (eFrz (rOp ixD (eVar 1) (eC (.int 4)))) (eC (.str "shut")))))) (sSet 3 (eTup (aCons (eC (.str "spills")) (aNil)))) (sPass)) <|
  sSeq (sIf (tB (rOp eqD (eFrz (rOp ixD (eVar 0) (eC (.int 7)))) (eC (.str "drain")))) (sSet 3 (eFrz (rB tupleD (aCons (eFrz (rComp [4] (iSeq (eFrz (rCall f_troubles (aCons (eVar 1) (aNil))))) (.var 4) (tB (rOp neD (eVar 4) (eC (.str "fooled")))) (eVar 4))) (aNil))))) (sPass)) <|
  sSeq (sIf (tOr2 (tB (rOp eqD (eFrz (rOp ixD (eVar 1) (eC (.int 1)))) (eC (.str "length")))) (tNot1 (tTru (eFrz (rCall f_is_long (aCons (eVar 0) (aCons (eFrz (rOp ixD (eVar 0) (eC (.int 6)))) (aNil)))))))) (sRet (rVal (eTup (aCons (eC .non) (aCons (eVar 3) (aNil)))))) (sPass)) <|
  sSeq (sIf (tB (rOp eqD (eFrz (rOp ixD (eVar 0) (eC (.int 1)))) (eC (.str "trim")))) (sRet (rVal (eTup (aCons (eFrz (rCall f_trimmed (aCons (eVar 0) (aCons (eVar 1) (aNil))))) (aCons (eVar 3) (aNil)))))) (sPass)) <|
  sRet (rVal (eTup (aCons (eFrz (rCall f_streamed (aCons (eVar 0) (aCons (eVar 1) (aCons (eFrz (rOp ixD (eVar 0) (eC (.int 6)))) (aCons (eC (.str "shut")) (aNil))))))) (aCons (eVar 3) (aNil)))))
noncomputable def f_refused : FM := evDef 2 e_refused
noncomputable def e_held : SM :=
  sSeq (sIf (tOr2 (tB (rOp eqD (eFrz (rOp ixD (eVar 2) (eC (.int 0)))) (eC (.str "whole")))) (tAnd2 (tB (rOp eqD (eFrz (rOp ixD (eVar 2) (eC (.int 0)))) (eC (.str "cut")))) (tB (rOp eqD (eFrz (rOp ixD (eVar 0) (eC (.int 4)))) (eC (.str "whole")))))) (sRet (rCall f_whole_sending (aCons (eFrz (rOp ixD (eVar 1) (eC (.int 0)))) (aCons (eFrz (rOp ixD (eVar 0) (eC (.int 2)))) (aCons (eFrz (rOp ixD (eVar 2) (eC (.int 1)))) (aNil)))))) (sPass)) <|
  sSeq (sIf (tAnd2 (tB (rOp eqD (eFrz (rOp ixD (eVar 2) (eC (.int 0)))) (eC (.str "cut")))) (tB (rOp eqD (eFrz (rOp ixD (eVar 0) (eC (.int 4)))) (eC (.str "pass"))))) (sRet (rCall f_streamed (aCons (eVar 0) (aCons (eVar 1) (aCons (eFrz (rOp ixD (eVar 2) (eC (.int 1)))) (aCons (eC (.str "shut")) (aNil))))))) (sPass)) <|
  sRet (rVal (eC .non))
noncomputable def f_held : FM := evDef 0 e_held
noncomputable def e_long_end : SM :=
  sSeq (sIf (tOr2 (tB (rOp eqD (eFrz (rOp ixD (eVar 2) (eC (.int 0)))) (eC (.str "waits")))) (tAnd2 (tB (rOp eqD (eFrz (rOp ixD (eVar 2) (eC (.int 0)))) (eC (.str "cut")))) (tAnd2 (tB (rOp eqD (eFrz (rOp ixD (eVar 0) (eC (.int 4)))) (eC (.str "whole")))) (tB (rOp eqD (eVar 1) (eC (.str "length"))))))) (sRet (rVal (eC (.str "open")))) (sPass)) <|
  sSeq (sIf (tOr2 (tB (rOp eqD (eFrz (rOp ixD (eVar 2) (eC (.int 0)))) (eC (.str "whole")))) (tB (rOp eqD (eFrz (rOp ixD (eVar 0) (eC (.int 4)))) (eC (.str "whole"))))) (sRet (rKd k_WHOLE_ENDS (eVar 1))) (sPass)) <|
  sRet (rVal (eC (.str "shut")))
noncomputable def f_long_end : FM := evDef 0 e_long_end
noncomputable def e_treated : SM :=
  sSeq (sSet 2 (eFrz (rCall f_left_of (aCons (eVar 0) (aCons (eVar 1) (aNil)))))) <|
  sSeq (sIf (tB (rOp (notD isD) (eVar 2) (eC .non))) (sRet (rCall f_refused (aCons (eVar 0) (aCons (eVar 1) (aCons (eVar 2) (aNil)))))) (sPass)) <|
  sSeq (sSet 3 (eFrz (rCall f_reading (aCons (eVar 1) (aNil))))) <|
  sSeq (sIf (tNot1 (tTru (eFrz (rCall f_is_long (aCons (eVar 0) (aCons (eFrz (rOp ixD (eVar 3) (eC (.int 1)))) (aNil))))))) (sRet (rVal (eTup (aCons (eFrz (rCall f_held (aCons (eVar 0) (aCons (eVar 1) (aCons (eVar 3) (aNil)))))) (aCons (eFrz (rCall f_troubles (aCons (eVar 1) (aNil)))) (aNil)))))) (sPass)) <|
  sSeq (sIf (tB (rOp eqD (eFrz (rOp ixD (eVar 0) (eC (.int 1)))) (eC (.str "trim")))) (sRet (rVal (eTup (aCons (eFrz (rCall f_trimmed (aCons (eVar 0) (aCons (eVar 1) (aNil))))) (aCons (eFrz (rCall f_troubles (aCons (eVar 1) (aNil)))) (aNil)))))) (sPass)) <|
  sSeq (sSet 4 (eFrz (rIf (tB (rOp eqD (eFrz (rOp ixD (eVar 0) (eC (.int 3)))) (eC (.str "same")))) (rOp ixD (eVar 1) (eC (.int 1))) (rOp ixD (eVar 0) (eC (.int 3)))))) <|
  sRet (rVal (eTup (aCons (eFrz (rCall f_streamed (aCons (eVar 0) (aCons (eVar 1) (aCons (eFrz (rOp ixD (eVar 3) (eC (.int 1)))) (aCons (eFrz (rCall f_long_end (aCons (eVar 0) (aCons (eVar 4) (aCons (eVar 3) (aNil)))))) (aNil))))))) (aCons (eFrz (rCall f_troubles (aCons (eVar 1) (aNil)))) (aNil)))))
noncomputable def f_treated : FM := evDef 3 e_treated
noncomputable def e_led_by : SM :=
  sSeq (sIf (tAnd2 (tB (rOp eqD (eFrz (rOp ixD (eVar 0) (eC (.int 5)))) (eC (.str "cut")))) (tB (rOp eqD (eFrz (rOp ixD (eFrz (rCall f_reading (aCons (eVar 1) (aNil)))) (eC (.int 0)))) (eC (.str "waits"))))) (sSet 1 (eTup (aStar (eFrz (rSlice (eVar 1) (oNone) (oSome (eC (.int 4))))) (aCons (eC (.str "shut")) (aNil))))) (sPass)) <|
  sSeq (sAsg (.tup [.var 2, .var 3]) (eFrz (rCall f_treated (aCons (eVar 0) (aCons (eVar 1) (aNil)))))) <|
  sSeq (sIf (tAnd2 (tB (rOp (yesD isD) (eVar 2) (eC .non))) (tB (rOp eqD (eFrz (rCall f_reading (aCons (eVar 1) (aNil)))) (eTup (aCons (eC (.str "whole")) (aCons (eFrz (rOp ixD (eVar 1) (eC (.int 0)))) (aNil))))))) (sSet 3 (eTup (aStar (eVar 3) (aCons (eC (.str "lost")) (aNil))))) (sPass)) <|
  sRet (rVal (eTup (aCons (eVar 2) (aCons (eVar 3) (aNil)))))
noncomputable def f_led_by : FM := evDef 2 e_led_by
noncomputable def l_steps_of_0 : SM :=
  sSeq (sSet 5 (eFrz (rIf (tB (rOp (yesD isD) (eVar 3) (eC .non))) (rVal (eTup (aCons (eC .non) (aCons (eTup (aNil)) (aNil))))) (rCall f_led_by (aCons (eVar 4) (aCons (eVar 3) (aNil))))))) <|
  sSeq (sExp (rMeth "list" appendM (eVar 2) (aCons (eVar 5) (aNil)))) <|
  sSet 3 (eFrz (rOp ixD (eVar 5) (eC (.int 0))))
noncomputable def e_steps_of : SM :=
  sSeq (sSet 2 (eOwn (rLst (aNil)))) <|
  sSeq (sSet 3 (eVar 1)) <|
  sSeq (sFor (iSeq (eVar 0)) (.var 4) l_steps_of_0) <|
  sRetO (eVar 2)
noncomputable def f_steps_of : FM := evDef 4 e_steps_of
noncomputable def e_passed : SM :=
  sSeq (sExp (rCall f_need_run (aCons (eVar 0) (aCons (eVar 1) (aNil))))) <|
  sRet (rOp addD (eFrz (rLst (aCons (eVar 1) (aNil)))) (eFrz (rComp [2, 3] (iSeq (eFrz (rCall f_steps_of (aCons (eVar 0) (aCons (eVar 1) (aNil)))))) (.tup [.var 2, .var 3]) (tTrue) (eVar 2))))
noncomputable def f_passed : FM := evDef 2 e_passed
noncomputable def e_run_troubles : SM :=
  sSeq (sSet 2 (eFrz (rOp ixD (eFrz (rCall f_passed (aCons (eVar 0) (aCons (eVar 1) (aNil))))) (eNeg (eC (.int 1)))))) <|
  sSeq (sSet 3 (eOwn (rComp [5, 6] (iSeq (eFrz (rCall f_steps_of (aCons (eVar 0) (aCons (eVar 1) (aNil)))))) (.tup [.var 5, .var 6]) (tTrue) (eVar 6)))) <|
  sSeq (sExp (rMeth "list" appendM (eVar 3) (aCons (eFrz (rIf (tB (rOp (yesD isD) (eVar 2) (eC .non))) (rVal (eTup (aNil))) (rCall f_troubles (aCons (eVar 2) (aNil))))) (aNil)))) <|
  sRet (rComp2 [7, 6, 4] (iEnumD (eFz (eVar 3))) (.tup [.var 7, .var 6]) (tTrue) [4] (iSeq (eVar 6)) (.var 4) (tTrue) (eTup (aCons (eVar 7) (aCons (eVar 4) (aNil)))))
noncomputable def f_run_troubles : FM := evDef 6 e_run_troubles
noncomputable def e_read_behind : SM :=
  sSeq (sSet 2 (eFrz (rOp ixD (eFrz (rCall f_passed (aCons (eVar 0) (aCons (eVar 1) (aNil))))) (eNeg (eC (.int 1)))))) <|
  sRet (rIf (tB (rOp (yesD isD) (eVar 2) (eC .non))) (rVal (eC .non)) (rCall f_reading (aCons (eVar 2) (aNil))))
noncomputable def f_read_behind : FM := evDef 1 e_read_behind
def k_WORDS : D := .tup [.str "fooled", .str "lost", .str "spills", .str "waits"]
noncomputable def e_words_of : SM :=
  sSeq (sExp (rCall f_need_run (aCons (eVar 0) (aCons (eVar 1) (aNil))))) <|
  sSeq (sSet 2 (eFrz (rComp2 [4, 5, 3] (iSeq (eFrz (rCall f_steps_of (aCons (eVar 0) (aCons (eVar 1) (aNil)))))) (.tup [.var 4, .var 5]) (tTrue) [3] (iSeq (eVar 5)) (.var 3) (tTrue) (eVar 3)))) <|
  sRet (rB tupleD (aCons (eFrz (rComp [3] (iSeq (eC k_WORDS)) (.var 3) (tB (rOp (yesD inD) (eVar 3) (eVar 2))) (eVar 3))) (aNil)))
noncomputable def f_words_of : FM := evDef 4 e_words_of
end Ch
end Cut
end
section
/-! CutChain2: chains of relays, as plain Lean. -/
namespace Cut
open PySem PySem.Spec PyProof.Rows L2
section
variable {s : PSt} {sl : List (Option D)} {ob : Obs}
@[simp] theorem ev_comp2 {own own1 : List Nat} {src src1 : IM} {g g1 : Tg} {tt tt1 : TM} {f : EM} : rComp2 own src g tt own1 src1 g1 tt1 f s = (src s).bind fun items s1 => cfin (lcGo (lcTurn g tt (lcSrc src1 own1 (lcTurn g1 tt1 (lcElt f))) (wipeD s1.sl own)) items s1.ob) s1 := rfl
def ssfin (o : Option (List Int)) (s : PSt) : Out Rv := match o with
  | some ns => if ns.length < 64 then .ok (.fl (uniq ns)) s else .bad
  | none => .bad
@[simp] theorem ev_sortSet {f : EM} : rSortSet f s = (f s).bind fun d s1 => ssfin (intsOf (look s1.ob d)) s1 := rfl
theorem ssfin_ok {ns : List Int} (h : ns.length < 64) : ssfin (some ns) s = .ok (.fl (uniq ns)) s := if_pos h
theorem intsD_map : ∀ ns : List Int, intsD (ns.map D.int) = some ns
  | [] => rfl
  | i :: ns => by rw [List.map_cons, intsD, intsD_map ns]; rfl
theorem lcGo_flat {α : Type} {step : D → Obs → Option (List D × Obs)} (f : α → D) (g : α → List D) : ∀ l : List α, (∀ a ∈ l, step (f a) ob = some (g a, ob)) → lcGo step (l.map f) ob = some (l.flatMap g, ob)
  | [], _ => rfl
  | a :: l, h => by
    rw [List.map_cons, lcGo, h a List.mem_cons_self]
    simp only [lcGo_flat f g l fun b hb => h b (List.mem_cons_of_mem _ hb), List.flatMap_cons]
theorem flat1 {α β : Type} (f : α → β) : ∀ l : List α, (l.flatMap fun a => [f a]) = l.map f
  | [] => rfl
  | a :: l => by rw [List.flatMap_cons, flat1 f l]; rfl
theorem unders_all {n : Nat} : ∀ {l : List D}, (∀ x ∈ l, x.under n = true) → D.unders n l = true
  | [], _ => by rw [D.unders]
  | x :: l, h => by rw [D.unders, h x List.mem_cons_self, unders_all fun y hy => h y (List.mem_cons_of_mem _ hy)]; rfl
theorem def_rto {fs : SM} {ds l : List D} {k : Nat} {t : Obs} (h : fs ⟨ds.map some ++ List.replicate k none, ob⟩ = .ok (.rto ob.length) ⟨sl, ob ++ some (.lst l) :: t⟩) (hu : D.unders ob.length l = true) : evDef k fs ds ob = .ok (.fl l) ob := by
  unfold evDef
  rw [h]
  simp only [Nat.lt_irrefl, if_false]
  rw [List.getElem?_append_right (Nat.le_refl _), Nat.sub_self]
  show leave _ _ _ _ = _
  unfold leave
  rw [if_neg (by simp), if_pos ⟨hu, .inl (by simp)⟩]
  simp
theorem ty_ob {l : List D} : tyD "list" (.ob ob.length) (ob ++ [some (.lst l)]) = true := by
  have h : (ob ++ [some (Ob.lst l)])[ob.length]? = some (some (.lst l)) := by simp
  simp only [tyD, h]
  rfl
theorem app_ob {l : List D} {d : D} (h : l.length < 16777216) : appendM (.ob ob.length) [d] (ob ++ [some (.lst l)]) = some (.val .non, ob ++ [some (.lst (l ++ [d]))]) := by
  unfold appendM
  have := sizeLine_eq
  simp only
  rw [List.getElem?_append_right (Nat.le_refl _), Nat.sub_self]
  simp only [List.getElem?_cons_zero]
  rw [if_pos (by omega)]
  simp
theorem at_last {α : Type} {l : List α} {x : α} (h : l.getLast? = some x) : atI l (-1) = some x := by
  have h0 : l ≠ [] := fun z => by subst z; cases h
  have hl : 0 < l.length := List.length_pos_iff.mpr h0
  rw [List.getLast?_eq_getElem?] at h
  have e1 : ixN l.length (-1) = some (l.length - 1) := by
    unfold ixN
    have a1 : ((-1 : Int) < 0) := by omega
    have a2 : (0 : Int) ≤ (l.length : Int) + -1 := by omega
    simp [a1, a2]
    try omega
  unfold atI
  rw [e1]
  exact h
end
namespace Ch
open Prog
theorem is_is_relay : f_is_relay = Prog.f_is_relay := rfl
theorem is_is_sending : f_is_sending = Prog.f_is_sending := rfl
theorem is_led_by : f_led_by = Prog.f_led_by := rfl
theorem is_reading : f_reading = Prog.f_reading := rfl
theorem is_troubles : f_troubles = Prog.f_troubles := rfl
def noRelay (i : Int) : Ex := ⟨"NoRelay", [("place", .int i)]⟩
def noSending : Ex := ⟨"NoSending", []⟩
theorem need_not {d : D} (hd : d.shp = true) (ht : ∀ l, d ≠ .tup l) (ob : Obs) : f_need_chain [d] ob = .ex (noRelay (-1)) ob := by
  refine def_ex (sl := [some d, none, none]) ?_ rfl
  unfold e_need_chain
  rw [seq_ex (e := noRelay (-1)) (s1 := ⟨[some d, none, none], ob⟩)]
  cases d <;> first | exact absurd rfl (ht _) | (simp [isD1, D.ty, Ty.sub, smallN_ok, noRelay]; done) | (rw [D.shp] at hd; cases hd)
theorem go_good : ∀ (l : List D) (i : Nat) (x1 x2 : Option D) (d : D) (ob : Obs), (∀ x ∈ l, x.shp = true ∧ rlyB x = true) → ∃ y1 y2, forGo (.tup [.var 1, .var 2]) l_need_chain_0 (enumD i l) ⟨[some d, x1, x2], ob⟩ = .ok .nx ⟨[some d, y1, y2], ob⟩
  | [], i, x1, x2, d, ob, _ => ⟨x1, x2, rfl⟩
  | a :: l, i, x1, x2, d, ob, h => by
    obtain ⟨h1, h2⟩ := h a List.mem_cons_self
    obtain ⟨y1, y2, e⟩ := go_good l (i + 1) (some (.int i)) (some a) d ob fun x hx => h x (List.mem_cons_of_mem _ hx)
    refine ⟨y1, y2, ?_⟩
    have e1 : ((i : Int) + 1) = ((i + 1 : Nat) : Int) := by omega
    rw [enumD, for_cons]
    have hb : l_need_chain_0 ⟨[some d, some (.int i), some a], ob⟩ = .ok .nx ⟨[some d, some (.int i), some a], ob⟩ := by
      unfold l_need_chain_0
      simp [is_is_relay, is_relay_d h1, h2]
    have hp : (Tg.tup [.var 1, .var 2]).put (.tup [.int i, a]) [some d, x1, x2] = some [some d, some (.int i), some a] := rfl
    simp only [hp, fput_some, hb, bind_ok, fgo_nx, e1, e]
theorem go_bad : ∀ (l : List D) (i : Nat) (x1 x2 : Option D) (d b : D) (r : List D) (ob : Obs), (∀ x ∈ l, x.shp = true ∧ rlyB x = true) → b.shp = true → rlyB b = false → i + l.length ≤ 1000000 → ∃ y1 y2, forGo (.tup [.var 1, .var 2]) l_need_chain_0 (enumD i (l ++ b :: r)) ⟨[some d, x1, x2], ob⟩ = .ex (noRelay ((i + l.length : Nat) : Int)) ⟨[some d, y1, y2], ob⟩
  | [], i, x1, x2, d, b, r, ob, _, hb, hr, hi => by
    refine ⟨some (.int i), some b, ?_⟩
    rw [List.nil_append, enumD, for_cons]
    have hb : l_need_chain_0 ⟨[some d, some (.int i), some b], ob⟩ = .ex (noRelay i) ⟨[some d, some (.int i), some b], ob⟩ := by
      have hs : smallN (i : Int) = true := smallN_ok (by omega)
      unfold l_need_chain_0
      simp [is_is_relay, is_relay_d hb, hr, hs, noRelay]
    have hp : (Tg.tup [.var 1, .var 2]).put (.tup [.int i, b]) [some d, x1, x2] = some [some d, some (.int i), some b] := rfl
    simp only [hp, fput_some, hb, bind_ex, List.length_nil, Nat.add_zero]
  | a :: l, i, x1, x2, d, b, r, ob, h, hb, hr, hi => by
    obtain ⟨h1, h2⟩ := h a List.mem_cons_self
    rw [List.length_cons] at hi
    obtain ⟨y1, y2, e⟩ := go_bad l (i + 1) (some (.int i)) (some a) d b r ob (fun x hx => h x (List.mem_cons_of_mem _ hx)) hb hr (by omega)
    refine ⟨y1, y2, ?_⟩
    have e1 : ((i : Int) + 1) = ((i + 1 : Nat) : Int) := by omega
    have e2 : i + (a :: l).length = i + 1 + l.length := by rw [List.length_cons]; omega
    rw [List.cons_append, enumD, for_cons, e2]
    have hb : l_need_chain_0 ⟨[some d, some (.int i), some a], ob⟩ = .ok .nx ⟨[some d, some (.int i), some a], ob⟩ := by
      unfold l_need_chain_0
      simp [is_is_relay, is_relay_d h1, h2]
    have hp : (Tg.tup [.var 1, .var 2]).put (.tup [.int i, a]) [some d, x1, x2] = some [some d, some (.int i), some a] := rfl
    simp only [hp, fput_some, hb, bind_ok, fgo_nx, e1, e]
theorem need_ok {l : List D} (h : ∀ x ∈ l, x.shp = true ∧ rlyB x = true) (ob : Obs) : f_need_chain [.tup l] ob = .ok (.val .non) ob := by
  obtain ⟨y1, y2, e⟩ := go_good l 0 none none (.tup l) ob h
  have e : forGo (.tup [.var 1, .var 2]) l_need_chain_0 (enumD 0 l) ⟨[some (.tup l), none, none], ob⟩ = .ok .nx ⟨[some (.tup l), y1, y2], ob⟩ := e
  have hh : e_need_chain ⟨[some (.tup l), none, none], ob⟩ = .ok .nx ⟨[some (.tup l), y1, y2], ob⟩ := by
    unfold e_need_chain
    rw [seq_ok (s1 := ⟨[some (.tup l), none, none], ob⟩) (by simp [isD1, D.ty, Ty.sub])]
    simp [lstD, e]
  show evDef 2 e_need_chain [.tup l] ob = _
  unfold evDef
  have e0 : (⟨[D.tup l].map some ++ List.replicate 2 none, ob⟩ : PSt) = ⟨[some (.tup l), none, none], ob⟩ := rfl
  rw [e0, hh]
  show leave _ _ _ _ = _
  unfold leave
  rw [if_pos rfl]
theorem need_at {l r : List D} {b : D} (h : ∀ x ∈ l, x.shp = true ∧ rlyB x = true) (hb : b.shp = true) (hr : rlyB b = false) (hl : l.length ≤ 1000000) (ob : Obs) : f_need_chain [.tup (l ++ b :: r)] ob = .ex (noRelay l.length) ob := by
  obtain ⟨y1, y2, e⟩ := go_bad l 0 none none (.tup (l ++ b :: r)) b r ob h hb hr (by omega)
  rw [Nat.zero_add] at e
  have e : forGo (.tup [.var 1, .var 2]) l_need_chain_0 (enumD 0 (l ++ b :: r)) ⟨[some (.tup (l ++ b :: r)), none, none], ob⟩ = .ex (noRelay l.length) ⟨[some (.tup (l ++ b :: r)), y1, y2], ob⟩ := e
  refine def_ex (sl := [some (.tup (l ++ b :: r)), y1, y2]) ?_ rfl
  unfold e_need_chain
  have e0 : (⟨[D.tup (l ++ b :: r)].map some ++ List.replicate 2 none, ob⟩ : PSt) = ⟨[some (.tup (l ++ b :: r)), none, none], ob⟩ := rfl
  rw [e0, seq_ok (s1 := ⟨[some (.tup (l ++ b :: r)), none, none], ob⟩) (by simp [isD1, D.ty, Ty.sub])]
  simp [lstD, e]
/-! need_run -/
theorem run_ex {d e : D} {x : Ex} (ob : Obs) (h : f_need_chain [d] ob = .ex x ob) : f_need_run [d, e] ob = .ex x ob := by
  refine def_ex (sl := [some d, some e]) ?_ rfl
  unfold e_need_run
  rw [seq_ex (e := x) (s1 := ⟨[some d, some e], ob⟩) (by simp [h])]
theorem run_ns {d e : D} (ob : Obs) (h : f_need_chain [d] ob = .ok (.val .non) ob) (he : e.shp = true) (hs : sndB e = false) : f_need_run [d, e] ob = .ex noSending ob := by
  refine def_ex (sl := [some d, some e]) ?_ rfl
  unfold e_need_run
  rw [seq_ok (s1 := ⟨[some d, some e], ob⟩) (by simp [h])]
  simp [is_is_sending, is_sending_d he, hs, noSending]
theorem run_ok {d : D} {s : Snd} (ob : Obs) (h : f_need_chain [d] ob = .ok (.val .non) ob) (hs : s.Ok) : f_need_run [d, s.d] ob = .ok (.val .non) ob := by
  have hh : e_need_run ⟨[some d, some s.d], ob⟩ = .ok .nx ⟨[some d, some s.d], ob⟩ := by
    unfold e_need_run
    rw [seq_ok (s1 := ⟨[some d, some s.d], ob⟩) (by simp [h])]
    simp [is_is_sending, is_sending_s hs]
  show evDef 0 e_need_run [d, s.d] ob = _
  unfold evDef
  have e0 : (⟨[d, s.d].map some ++ List.replicate 0 none, ob⟩ : PSt) = ⟨[some d, some s.d], ob⟩ := rfl
  rw [e0, hh]
  show leave _ _ _ _ = _
  unfold leave
  rw [if_pos rfl]
/-! steps -/
def stepS (r : Rly) : Option Snd → Option Snd × List Wd
  | none => (none, [])
  | some s => ledS r s
def steps : List Rly → Option Snd → List (Option Snd × List Wd)
  | [], _ => []
  | r :: rs, h => stepS r h :: steps rs (stepS r h).1
def lastS : List Rly → Option Snd → Option Snd
  | [], h => h
  | r :: rs, h => lastS rs (stepS r h).1
theorem steps_len : ∀ (rs : List Rly) (h : Option Snd), (steps rs h).length = rs.length
  | [], _ => rfl
  | r :: rs, h => by rw [steps, List.length_cons, steps_len rs, List.length_cons]
structure Good (B : Int) (rs : List Rly) : Prop where
  ok : ∀ r ∈ rs, r.Ok
  le : ∀ r ∈ rs, r.Le B
def Fit (B : Int) (h : Option Snd) : Prop := ∀ s, h = some s → s.Ok ∧ s.Le B
theorem step_fit {B : Int} {r : Rly} (hr : r.Ok) (hl : r.Le B) {h : Option Snd} (hf : Fit B h) : Fit B (stepS r h).1 := by
  cases h with
  | none => intro s e; cases e
  | some s =>
    intro o e
    obtain ⟨h1, h2⟩ := hf s rfl
    have := led_fine hr hl h1 h2 e
    exact ⟨this.ok, this.le⟩
theorem steps_wds : ∀ (rs : List Rly) (h : Option Snd), ∀ p ∈ steps rs h, p.2.length ≤ 2
  | [], _, p, hp => by cases hp
  | r :: rs, h, p, hp => by
    rw [steps] at hp
    rcases List.mem_cons.mp hp with rfl | hp
    · cases h with
      | none => simp [stepS]
      | some s => exact led_len r s
    · exact steps_wds rs _ p hp
theorem out_under (p : Option Snd × List Wd) (n : Nat) : (outD p).under n = true := by
  obtain ⟨o, l⟩ := p
  have h1 : (wdsD l).under n = true := by
    rw [wdsD, D.under]
    refine unders_all fun x hx => ?_
    obtain ⟨w, _, rfl⟩ := List.mem_map.mp hx
    rw [D.under]
  have h2 : (oS o).under n = true := by
    cases o with
    | none => rw [oS, D.under]
    | some s =>
      rw [oS, Snd.d]
      have h3 : (oD s.told).under n = true := by cases s.told <;> rw [oD, D.under]
      simp [D.under, D.unders, h3]
  rw [outD, D.under, D.unders, D.unders, D.unders]
  simp only [h1, h2, Bool.and_self]
theorem steps_go {B : Int} (x0 x1 : Option D) (ob : Obs) : ∀ (rs : List Rly) (h : Option Snd) (acc : List D) (x4 x5 : Option D), Good B rs → Fit B h → acc.length + rs.length ≤ 10000 →
    ∃ h' y4 y5, forGo (.var 4) l_steps_of_0 (rs.map Rly.d) ⟨[x0, x1, some (.ob ob.length), some (oS h), x4, x5], ob ++ [some (.lst acc)]⟩ = .ok .nx ⟨[x0, x1, some (.ob ob.length), some (oS h'), y4, y5], ob ++ [some (.lst (acc ++ (steps rs h).map outD))]⟩
  | [], h, acc, x4, x5, _, _, _ => ⟨h, x4, x5, by rw [steps, List.map_nil, List.map_nil, List.append_nil]; rfl⟩
  | r :: rs, h, acc, x4, x5, hg, hf, hl => by
    rw [List.length_cons] at hl
    have hr := hg.ok r List.mem_cons_self
    have hrl := hg.le r List.mem_cons_self
    obtain ⟨h', y4, y5, e⟩ := steps_go x0 x1 ob rs (stepS r h).1 (acc ++ [outD (stepS r h)]) (some r.d) (some (outD (stepS r h))) ⟨fun x hx => hg.ok x (List.mem_cons_of_mem _ hx), fun x hx => hg.le x (List.mem_cons_of_mem _ hx)⟩ (step_fit hr hrl hf) (by rw [List.length_append, List.length_singleton]; omega)
    refine ⟨h', y4, y5, ?_⟩
    have hb : l_steps_of_0 ⟨[x0, x1, some (.ob ob.length), some (oS h), some r.d, x5], ob ++ [some (.lst acc)]⟩ = .ok .nx ⟨[x0, x1, some (.ob ob.length), some (oS (stepS r h).1), some r.d, some (outD (stepS r h))], ob ++ [some (.lst (acc ++ [outD (stepS r h)]))]⟩ := by
      have hix : ixD (outD (stepS r h)) (.int 0) = some (.val (oS (stepS r h).1)) := rfl
      have hlk : look (ob ++ [some (Ob.lst (acc ++ [outD (stepS r h)]))]) (outD (stepS r h)) = outD (stepS r h) := rfl
      have h1 : sSet 5 (eFrz (rIf (tB (rOp (yesD isD) (eVar 3) (eC .non))) (rVal (eTup (aCons (eC .non) (aCons (eTup (aNil)) (aNil))))) (rCall f_led_by (aCons (eVar 4) (aCons (eVar 3) (aNil)))))) ⟨[x0, x1, some (.ob ob.length), some (oS h), some r.d, x5], ob ++ [some (.lst acc)]⟩ =
          .ok .nx ⟨[x0, x1, some (.ob ob.length), some (oS h), some r.d, some (outD (stepS r h))], ob ++ [some (.lst acc)]⟩ := by
        cases h with
        | none => simp [yesD, isD, line_ok, stepS, outD, wdsD]
        | some s =>
          have hs : ∀ ob, look ob s.d = s.d := fun _ => rfl
          have hn : isD s.d .non = some false := rfl
          simp [yesD, hs, hn, is_led_by, led_s r (hf s rfl).1, stepS]
      unfold l_steps_of_0
      rw [seq_ok h1]
      rw [seq_ok (s1 := ⟨[x0, x1, some (.ob ob.length), some (oS h), some r.d, some (outD (stepS r h))], ob ++ [some (.lst (acc ++ [outD (stepS r h)]))]⟩)
        (by simp only [ev_exp, ev_meth, ev_var, vr_0, vr_1, vr_some, bind_ok, ty_ob, if_true, ev_cons, ev_nil, app_ob (ob := ob) (l := acc) (d := outD (stepS r h)) (by omega), mfin_some])]
      simp [hix, hlk]
    have e0 : steps (r :: rs) h = stepS r h :: steps rs (stepS r h).1 := rfl
    rw [List.map_cons, for_cons, e0]
    have hp : (Tg.var 4).put r.d [x0, x1, some (.ob ob.length), some (oS h), x4, x5] = some [x0, x1, some (.ob ob.length), some (oS h), some r.d, x5] := rfl
    simp only [hp, fput_some, hb, bind_ok, fgo_nx, e, List.map_cons, List.append_assoc, List.singleton_append]
def chD (rs : List Rly) : D := .tup (rs.map Rly.d)
theorem steps_of_s {B : Int} {rs : List Rly} {s : Snd} (hg : Good B rs) (hs : s.Ok) (hl : s.Le B) (hn : rs.length ≤ 1000) (ob : Obs) : f_steps_of [chD rs, s.d] ob = .ok (.fl ((steps rs (some s)).map outD)) ob := by
  obtain ⟨h', y4, y5, e⟩ := steps_go (some (chD rs)) (some s.d) ob rs (some s) [] none none hg (fun t ht => by cases ht; exact ⟨hs, hl⟩) (by simp; omega)
  rw [List.nil_append] at e
  refine def_rto (sl := [some (chD rs), some s.d, some (.ob ob.length), some (oS h'), y4, y5]) (t := []) ?_ (unders_all fun x hx => by
    obtain ⟨p, _, rfl⟩ := List.mem_map.mp hx
    exact out_under p _)
  unfold e_steps_of
  have hi : itemsD (chD rs) = some (rs.map Rly.d) := rfl
  have hos : oS (some s) = s.d := rfl
  rw [hos] at e
  simp [line_ok, hi, e, sRetO]
theorem lcGo_outs (rs : List Rly) (h : Option Snd) (ob : Obs) (c d : Option D) : lcGo (lcTurn (.tup [.var 2, .var 3]) tTrue (lcElt (eVar 2)) [c, d, none, none]) ((steps rs h).map outD) ob = some ((steps rs h).flatMap fun p => [oS p.1], ob) := lcGo_flat _ _ _ fun p _ => rfl
def outsS (rs : List Rly) (s : Snd) : List D := s.d :: (steps rs (some s)).map fun p => oS p.1
theorem passed_s {B : Int} {rs : List Rly} {s : Snd} (hg : Good B rs) (hs : s.Ok) (hl : s.Le B) (hn : rs.length ≤ 1000) (ob : Obs) (hc : f_need_chain [chD rs] ob = .ok (.val .non) ob) : f_passed [chD rs, s.d] ob = .ok (.fl (outsS rs s)) ob := by
  have h1 := run_ok ob hc hs
  have h2 := steps_of_s hg hs hl hn ob
  have hg2 := lcGo_outs rs (some s) ob (some (chD rs)) (some s.d)
  have hfm : ((steps rs (some s)).flatMap fun p => [oS p.1]) = (steps rs (some s)).map fun p => oS p.1 := flat1 _ _
  rw [hfm] at hg2
  have hlen := steps_len rs (some s)
  refine def_rt (sl := [some (chD rs), some s.d, none, none]) ?_ rfl
  unfold e_passed
  rw [seq_ok (s1 := ⟨[some (chD rs), some s.d, none, none], ob⟩) (by simp [h1])]
  have hadd := add_lst (l := [s.d]) (m := (steps rs (some s)).map fun p => oS p.1) (by simp; omega)
  have hi : ∀ l : List D, itemsD (.lst l) = some l := fun _ => rfl
  simp [line_ok, h2, hi, wipeD, hg2, cfin_ok (l := (steps rs (some s)).map fun p => oS p.1) (by simp; omega), hadd, outsS]
end Ch
end Cut
namespace Cut
open PySem PySem.Spec PyProof.Rows L2
namespace Ch
open Prog
theorem last_outs : ∀ (rs : List Rly) (h : Option Snd), (oS h :: (steps rs h).map fun p => oS p.1).getLast? = some (oS (lastS rs h))
  | [], h => rfl
  | r :: rs, h => by
    have := last_outs rs (stepS r h).1
    rw [steps, List.map_cons, List.getLast?_cons_cons]
    exact this
theorem ix_outs (rs : List Rly) (s : Snd) : ixD (.lst (outsS rs s)) (.int (-1)) = some (.val (oS (lastS rs (some s)))) := by
  have h : (outsS rs s).getLast? = some (oS (lastS rs (some s))) := last_outs rs (some s)
  show (atI (outsS rs s) (-1)).map Rv.val = _
  rw [at_last h]
  rfl
theorem last_fit {B : Int} : ∀ (rs : List Rly) (h : Option Snd), Good B rs → Fit B h → Fit B (lastS rs h)
  | [], h, _, hf => hf
  | r :: rs, h, hg, hf => last_fit rs _ ⟨fun x hx => hg.ok x (List.mem_cons_of_mem _ hx), fun x hx => hg.le x (List.mem_cons_of_mem _ hx)⟩ (step_fit (hg.ok r List.mem_cons_self) (hg.le r List.mem_cons_self) hf)
def readS : Option Snd → D
  | none => .non
  | some t => rdD (readK t) t.units
theorem read_behind_s {B : Int} {rs : List Rly} {s : Snd} (hg : Good B rs) (hs : s.Ok) (hl : s.Le B) (hn : rs.length ≤ 1000) (ob : Obs) (hc : f_need_chain [chD rs] ob = .ok (.val .non) ob) : f_read_behind [chD rs, s.d] ob = .ok (.val (readS (lastS rs (some s)))) ob := by
  have h1 := passed_s hg hs hl hn ob hc
  have h2 := ix_outs rs s
  refine def_rt (sl := [some (chD rs), some s.d, some (oS (lastS rs (some s)))]) ?_ rfl
  unfold e_read_behind
  have hlk : look ob (oS (lastS rs (some s))) = oS (lastS rs (some s)) := by cases lastS rs (some s) <;> rfl
  rw [seq_ok (s1 := ⟨[some (chD rs), some s.d, some (oS (lastS rs (some s)))], ob⟩) (by simp [h1, h2])]
  cases lastS rs (some s) with
  | none => simp [yesD, isD, readS]
  | some t =>
    have hs2 : ∀ ob, look ob t.d = t.d := fun _ => rfl
    have hn2 : isD t.d .non = some false := rfl
    simp [yesD, hs2, hn2, is_reading, reading_s, readS]
/-! words -/
def lastW (h : Option Snd) : List Wd := match h with
  | none => []
  | some t => trb t
def rowsS (rs : List Rly) (s : Snd) : List (List Wd) := (steps rs (some s)).map (·.2) ++ [lastW (lastS rs (some s))]
def enumP (k : Nat) : List (List Wd) → List (Nat × List Wd)
  | [] => []
  | w :: l => (k, w) :: enumP (k + 1) l
theorem enumP_eq : ∀ (l : List (List Wd)) (k : Nat), enumD k (l.map wdsD) = (enumP k l).map fun p => .tup [.int p.1, wdsD p.2]
  | [], _ => rfl
  | w :: l, k => by
    have e1 : ((k : Int) + 1) = ((k + 1 : Nat) : Int) := by omega
    rw [List.map_cons, enumD, enumP, List.map_cons, e1, enumP_eq l]
def pairsS (l : List (Nat × List Wd)) : List D := l.flatMap fun p => p.2.map fun w => .tup [.int p.1, .str w.s]
theorem pairs_len (n : Nat) : ∀ (l : List (List Wd)) (k : Nat), (∀ w ∈ l, w.length ≤ n) → (pairsS (enumP k l)).length ≤ n * l.length
  | [], _, _ => by simp [enumP, pairsS]
  | w :: l, k, h => by
    have h1 := h w List.mem_cons_self
    have h2 := pairs_len n l (k + 1) fun x hx => h x (List.mem_cons_of_mem _ hx)
    have h3 : (pairsS (enumP k (w :: l))).length = w.length + (pairsS (enumP (k + 1) l)).length := by simp [enumP, pairsS]
    rw [h3, List.length_cons, Nat.mul_succ]
    omega
theorem lcGo_rows (rs : List Rly) (h : Option Snd) (ob : Obs) (x0 x1 x2 x3 x4 x7 : Option D) : lcGo (lcTurn (.tup [.var 5, .var 6]) tTrue (lcElt (eVar 6)) [x0, x1, x2, x3, x4, none, none, x7]) ((steps rs h).map outD) ob = some ((steps rs h).flatMap fun p => [wdsD p.2], ob) := lcGo_flat _ _ _ fun p _ => rfl
theorem lcGo_pairs (l : List (Nat × List Wd)) (ob : Obs) (x0 x1 x2 x3 x5 : Option D) :
    lcGo (lcTurn (.tup [.var 7, .var 6]) tTrue (lcSrc (iSeq (eVar 6)) [4] (lcTurn (.var 4) tTrue (lcElt (eTup (aCons (eVar 7) (aCons (eVar 4) aNil)))))) [x0, x1, x2, x3, none, x5, none, none]) (l.map fun p => .tup [.int p.1, wdsD p.2]) ob = some (pairsS l, ob) := by
  refine lcGo_flat _ _ _ fun p _ => ?_
  have hin := lcGo_flat (ob := ob) (step := lcTurn (.var 4) tTrue (lcElt (eTup (aCons (eVar 7) (aCons (eVar 4) aNil)))) [x0, x1, x2, x3, none, x5, some (wdsD p.2), some (.int p.1)]) (fun w : Wd => D.str w.s) (fun w => [.tup [.int p.1, .str w.s]]) p.2 (fun w _ => by simp [lcTurn, lcElt, line_ok])
  have hfm : (p.2.flatMap fun w => [D.tup [.int p.1, .str w.s]]) = p.2.map fun w => .tup [.int p.1, .str w.s] := flat1 _ _
  rw [hfm] at hin
  have hi : itemsD (wdsD p.2) = some (p.2.map fun w => D.str w.s) := rfl
  have hp : (Tg.tup [.var 7, .var 6]).put (.tup [.int p.1, wdsD p.2]) [x0, x1, x2, x3, none, x5, none, none] = some [x0, x1, x2, x3, none, x5, some (wdsD p.2), some (.int p.1)] := rfl
  simp [lcTurn, hp, lcSrc, hi, wipeD] 
  exact hin
theorem rows_le (rs : List Rly) (s : Snd) : ∀ w ∈ rowsS rs s, w.length ≤ 2 := by
  intro w hw
  rcases List.mem_append.mp hw with hw | hw
  · obtain ⟨p, hp, rfl⟩ := List.mem_map.mp hw
    exact steps_wds _ _ p hp
  · rw [List.mem_singleton.mp hw]
    unfold lastW
    split
    · simp
    · rename_i t _
      have := trb_len t
      omega
theorem pairs_under (n : Nat) (l : List (Nat × List Wd)) : D.unders n (pairsS l) = true := by
  refine unders_all fun x hx => ?_
  obtain ⟨p, _, hp⟩ := List.mem_flatMap.mp hx
  obtain ⟨w, _, rfl⟩ := List.mem_map.mp hp
  simp [D.under, D.unders]
theorem run_troubles_s {B : Int} {rs : List Rly} {s : Snd} (hg : Good B rs) (hs : s.Ok) (hl : s.Le B) (hn : rs.length ≤ 1000) (ob : Obs) (hc : ∀ ob, f_need_chain [chD rs] ob = .ok (.val .non) ob) : f_run_troubles [chD rs, s.d] ob = .ok (.fl (pairsS (enumP 0 (rowsS rs s)))) ob := by
  have h1 := passed_s hg hs hl hn ob (hc ob)
  have h2 := ix_outs rs s
  have h3 := steps_of_s hg hs hl hn ob
  have hlen := steps_len rs (some s)
  have hrows := lcGo_rows rs (some s) ob (some (chD rs)) (some s.d) (some (oS (lastS rs (some s)))) none none none
  have hfm : ((steps rs (some s)).flatMap fun p => [wdsD p.2]) = ((steps rs (some s)).map (·.2)).map wdsD := by rw [flat1, List.map_map]; rfl
  rw [hfm] at hrows
  have hpl : (pairsS (enumP 0 (rowsS rs s))).length ≤ 16777216 := by
    have := pairs_len 2 (rowsS rs s) 0 (rows_le rs s)
    have h5 : (rowsS rs s).length = rs.length + 1 := by simp [rowsS, hlen]
    omega
  have hi : ∀ l : List D, itemsD (.lst l) = some l := fun _ => rfl
  let rows0 : List D := ((steps rs (some s)).map (·.2)).map wdsD
  have hr0 : rows0.length = rs.length := by simp [rows0, hlen]
  have e1 : sSet 2 (eFrz (rOp ixD (eFrz (rCall f_passed (aCons (eVar 0) (aCons (eVar 1) (aNil))))) (eNeg (eC (.int 1))))) ⟨[some (chD rs), some s.d, none, none, none, none, none, none], ob⟩ = .ok .nx ⟨[some (chD rs), some s.d, some (oS (lastS rs (some s))), none, none, none, none, none], ob⟩ := by simp [h1, h2]
  have e2 : sSet 3 (eOwn (rComp [5, 6] (iSeq (eFrz (rCall f_steps_of (aCons (eVar 0) (aCons (eVar 1) (aNil)))))) (.tup [.var 5, .var 6]) (tTrue) (eVar 6))) ⟨[some (chD rs), some s.d, some (oS (lastS rs (some s))), none, none, none, none, none], ob⟩ =
      .ok .nx ⟨[some (chD rs), some s.d, some (oS (lastS rs (some s))), some (.ob ob.length), none, none, none, none], ob ++ [some (.lst rows0)]⟩ := by
    have hcf := cfin_ok (ob := ob) (s := ⟨[some (chD rs), some s.d, some (oS (lastS rs (some s))), none, none, none, none, none], ob⟩) (l := rows0) (by omega)
    simp only [ev_set, ev_own, ev_comp, ev_iseq, ev_frz, ev_call, ev_cons, ev_var, vr_0, vr_1, vr_some, bind_ok, ev_nil, h3, fin_ok, toD_fl, hi, sqo_some, wipeD, List.set_cons_succ, List.set_cons_zero, hrows]
    rw [hcf]
    rfl
  have e3 : sExp (rMeth "list" appendM (eVar 3) (aCons (eFrz (rIf (tB (rOp (yesD isD) (eVar 2) (eC .non))) (rVal (eTup (aNil))) (rCall f_troubles (aCons (eVar 2) (aNil))))) (aNil))) ⟨[some (chD rs), some s.d, some (oS (lastS rs (some s))), some (.ob ob.length), none, none, none, none], ob ++ [some (.lst rows0)]⟩ =
      .ok .nx ⟨[some (chD rs), some s.d, some (oS (lastS rs (some s))), some (.ob ob.length), none, none, none, none], ob ++ [some (.lst (rows0 ++ [wdsD (lastW (lastS rs (some s)))]))]⟩ := by
    have h4 : (eFrz (rIf (tB (rOp (yesD isD) (eVar 2) (eC .non))) (rVal (eTup (aNil))) (rCall f_troubles (aCons (eVar 2) (aNil))))) ⟨[some (chD rs), some s.d, some (oS (lastS rs (some s))), some (.ob ob.length), none, none, none, none], ob ++ [some (.lst rows0)]⟩ = .ok (wdsD (lastW (lastS rs (some s)))) ⟨[some (chD rs), some s.d, some (oS (lastS rs (some s))), some (.ob ob.length), none, none, none, none], ob ++ [some (.lst rows0)]⟩ := by
      cases lastS rs (some s) with
      | none => simp [yesD, isD, lastW, wdsD, line_ok]
      | some t =>
        have hs2 : ∀ ob, look ob t.d = t.d := fun _ => rfl
        have hn2 : isD t.d .non = some false := rfl
        simp [yesD, hs2, hn2, is_troubles, troubles_s, lastW]
    simp only [ev_exp, ev_meth, ev_var, vr_0, vr_1, vr_some, bind_ok, ty_ob, if_true, ev_cons, h4, ev_nil, app_ob (ob := ob) (l := rows0) (d := wdsD (lastW (lastS rs (some s)))) (by omega), mfin_some]
  have e4 : rows0 ++ [wdsD (lastW (lastS rs (some s)))] = (rowsS rs s).map wdsD := by simp [rows0, rowsS]
  refine def_new (sl := [some (chD rs), some s.d, some (oS (lastS rs (some s))), some (.lst ((rowsS rs s).map wdsD)), none, none, none, none]) (t := [none]) ?_ (by rw [Rv.under]; exact pairs_under _ _)
  unfold e_run_troubles
  refine (seq_ok e1).trans ?_
  refine (seq_ok e2).trans ?_
  refine (seq_ok e3).trans ?_
  rw [e4]
  have hfz : eFz (eVar 3) ⟨[some (chD rs), some s.d, some (oS (lastS rs (some s))), some (.ob ob.length), none, none, none, none], ob ++ [some (.lst ((rowsS rs s).map wdsD))]⟩ =
      .ok (.lst ((rowsS rs s).map wdsD)) ⟨[some (chD rs), some s.d, some (oS (lastS rs (some s))), some (.lst ((rowsS rs s).map wdsD)), none, none, none, none], ob ++ [none]⟩ := by
    unfold eFz
    simp only [ev_var, vr_0, vr_1, vr_some, bind_ok]
    rw [List.getElem?_append_right (Nat.le_refl _), Nat.sub_self]
    simp only [List.getElem?_cons_zero]
    have ht : thawS ob.length (.lst ((rowsS rs s).map wdsD)) (some (oS (lastS rs (some s)))) = some (oS (lastS rs (some s))) := by cases lastS rs (some s) <;> rfl
    have ht0 : thawS ob.length (.lst ((rowsS rs s).map wdsD)) (some (chD rs)) = some (chD rs) := rfl
    have ht1 : thawS ob.length (.lst ((rowsS rs s).map wdsD)) (some s.d) = some s.d := rfl
    have ht2 : thawS ob.length (.lst ((rowsS rs s).map wdsD)) (some (.ob ob.length)) = some (.lst ((rowsS rs s).map wdsD)) := by simp [thawS]
    have ht3 : thawS ob.length (.lst ((rowsS rs s).map wdsD)) none = none := rfl
    simp only [List.map_cons, List.map_nil, ht, ht0, ht1, ht2, ht3]
    simp
  have hen : enumD 0 ((rowsS rs s).map wdsD) = (enumP 0 (rowsS rs s)).map fun p => .tup [.int p.1, wdsD p.2] := enumP_eq _ 0
  have hld : lstD (.lst ((rowsS rs s).map wdsD)) = some ((rowsS rs s).map wdsD) := rfl
  have hgo := lcGo_pairs (enumP 0 (rowsS rs s)) (ob ++ [none]) (some (chD rs)) (some s.d) (some (oS (lastS rs (some s)))) (some (.lst ((rowsS rs s).map wdsD))) none
  simp only [ev_ret, ev_comp2, ev_ienum, hfz, bind_ok, hld, hen, wipeD, List.set_cons_succ, List.set_cons_zero, hgo, cfin_ok hpl]
/-! words_of -/
def allW (rs : List Rly) (s : Snd) : List Wd := (steps rs (some s)).flatMap (·.2)
def wordsS (l : List Wd) : List Wd := [Wd.fooled, .lost, .spills, .waits].filter fun w => decide (w ∈ l)
theorem flat_len {α β : Type} (n : Nat) (f : α → List β) : ∀ l : List α, (∀ a ∈ l, (f a).length ≤ n) → (l.flatMap f).length ≤ n * l.length
  | [], _ => by simp
  | a :: l, h => by
    have h1 := h a List.mem_cons_self
    have h2 := flat_len n f l fun x hx => h x (List.mem_cons_of_mem _ hx)
    rw [List.flatMap_cons, List.length_append, List.length_cons, Nat.mul_succ]
    omega
theorem wd_inj {a b : Wd} (h : (a.s : Str) = (b.s : Str)) : a = b := by
  cases a <;> cases b <;> first | rfl | (exact absurd h (by decide))
theorem memW_in (w : Wd) (l : List Wd) : memD (.str w.s) (l.map fun w => .str w.s) = decide (w ∈ l) := by
  rw [Bool.eq_iff_iff, decide_eq_true_iff]
  unfold memD
  rw [List.any_eq_true]
  constructor
  · rintro ⟨x, hx, he⟩
    obtain ⟨v, hv, rfl⟩ := List.mem_map.mp hx
    rw [eqv_str] at he
    have := wd_inj (eq_of_beq he)
    rw [← this]; exact hv
  · intro h
    exact ⟨_, List.mem_map.mpr ⟨w, h, rfl⟩, by rw [eqv_str]; exact beq_self_eq_true _⟩
theorem strs_plain (l : List Wd) : D.plains (l.map fun w => .str w.s) = true := by
  induction l with
  | nil => simp
  | cons w l ih => simp [ih]
theorem strs_depth (l : List Wd) : D.depths (l.map fun w => .str w.s) = 0 := by
  induction l with
  | nil => simp
  | cons w l ih => simp [ih]
theorem lcGo_words2 (rs : List Rly) (h : Option Snd) (ob : Obs) (x0 x1 x2 : Option D) :
    lcGo (lcTurn (.tup [.var 4, .var 5]) tTrue (lcSrc (iSeq (eVar 5)) [3] (lcTurn (.var 3) tTrue (lcElt (eVar 3)))) [x0, x1, x2, none, none, none]) ((steps rs h).map outD) ob = some (((steps rs h).flatMap (·.2)).map (fun w => .str w.s), ob) := by
  rw [lcGo_flat (ob := ob) outD (fun p => p.2.map fun w => D.str w.s)]
  · rw [List.map_flatMap]
  · intro p _
    have hin := lcGo_flat (ob := ob) (step := lcTurn (.var 3) tTrue (lcElt (eVar 3)) [x0, x1, x2, none, some (oS p.1), some (wdsD p.2)]) (fun w : Wd => D.str w.s) (fun w => [.str w.s]) p.2 (fun w _ => by simp [lcTurn, lcElt])
    have hfm : (p.2.flatMap fun w => [D.str w.s]) = p.2.map fun w => .str w.s := flat1 _ _
    rw [hfm] at hin
    have hi : itemsD (wdsD p.2) = some (p.2.map fun w => D.str w.s) := rfl
    have hp : (Tg.tup [.var 4, .var 5]).put (outD p) [x0, x1, x2, none, none, none] = some [x0, x1, x2, none, some (oS p.1), some (wdsD p.2)] := rfl
    simp [lcTurn, hp, lcSrc, hi, wipeD]
    exact hin
theorem words_of_s {B : Int} {rs : List Rly} {s : Snd} (hg : Good B rs) (hs : s.Ok) (hl : s.Le B) (hn : rs.length ≤ 1000) (ob : Obs) (hc : f_need_chain [chD rs] ob = .ok (.val .non) ob) : f_words_of [chD rs, s.d] ob = .ok (.val (wdsD (wordsS (allW rs s)))) ob := by
  have h1 := run_ok ob hc hs
  have h3 := steps_of_s hg hs hl hn ob
  have hlen := steps_len rs (some s)
  have hi : ∀ l : List D, itemsD (.lst l) = some l := fun _ => rfl
  have hgo := lcGo_words2 rs (some s) ob (some (chD rs)) (some s.d) none
  have hal : ((allW rs s).map fun w => D.str w.s).length ≤ 16777216 := by
    rw [List.length_map]
    have := flat_len 2 (fun p : Option Snd × List Wd => p.2) (steps rs (some s)) (steps_wds rs (some s))
    have e : allW rs s = (steps rs (some s)).flatMap fun p => p.2 := rfl
    rw [e]
    omega
  have hw := lcGo_words (fun w => decide (w ∈ allW rs s)) (tB (rOp (yesD inD) (eVar 3) (eVar 2))) [some (chD rs), some s.d, some (.lst ((allW rs s).map fun w => .str w.s)), none, none, none] 3 ob (by simp) (fun w => by
    have hin : inD (.str w.s) (.lst ((allW rs s).map fun w => .str w.s)) = some (decide (w ∈ allW rs s)) := by
      show (if inOk (.str w.s) ((allW rs s).map fun w => .str w.s) then some (memD (.str w.s) ((allW rs s).map fun w => .str w.s)) else none) = _
      rw [if_pos (by simp [inOk, strs_plain, strs_depth]), memW_in]
    simp [yesD, hin]) [Wd.fooled, .lost, .spills, .waits]
  have hk : itemsD k_WORDS = some ([Wd.fooled, .lost, .spills, .waits].map fun w => .str w.s) := rfl
  have hfl : (([Wd.fooled, .lost, .spills, .waits].filter fun w => decide (w ∈ allW rs s)).map fun w => D.str w.s).length ≤ 16777216 := by
    rw [List.length_map]
    exact Nat.le_trans (List.length_filter_le _ _) (by decide)
  refine def_rt (sl := [some (chD rs), some s.d, some (.lst ((allW rs s).map fun w => .str w.s)), none, none, none]) ?_ rfl
  unfold e_words_of
  rw [seq_ok (s1 := ⟨[some (chD rs), some s.d, none, none, none, none], ob⟩) (by simp [h1])]
  rw [seq_ok (s1 := ⟨[some (chD rs), some s.d, some (.lst ((allW rs s).map fun w => .str w.s)), none, none, none], ob⟩) (by
    have hal2 := cfin_ok (ob := ob) (s := ⟨[some (chD rs), some s.d, none, none, none, none], ob⟩) hal
    unfold allW at hal2
    simp only [ev_set, ev_frz, ev_comp2, ev_iseq, ev_call, ev_cons, ev_var, vr_0, vr_1, vr_some, bind_ok, ev_nil, h3, fin_ok, toD_fl, hi, sqo_some, wipeD, List.set_cons_succ, List.set_cons_zero, hgo, hal2]
    rfl)]
  have hco : rComp [3] (iSeq (eC k_WORDS)) (.var 3) (tB (rOp (yesD inD) (eVar 3) (eVar 2))) (eVar 3) ⟨[some (chD rs), some s.d, some (.lst ((allW rs s).map fun w => .str w.s)), none, none, none], ob⟩ = .ok (.fl ((wordsS (allW rs s)).map fun w => .str w.s)) ⟨[some (chD rs), some s.d, some (.lst ((allW rs s).map fun w => .str w.s)), none, none, none], ob⟩ := by
    have hcf := cfin_ok (ob := ob) (s := ⟨[some (chD rs), some s.d, some (.lst ((allW rs s).map fun w => .str w.s)), none, none, none], ob⟩) hfl
    simp only [ev_comp, ev_iseq, ev_C, bind_ok, hk, sqo_some, wipeD, List.set_cons_succ, List.set_cons_zero, hw]
    exact hcf
  simp only [ev_ret, ev_b, ev_cons, ev_frz, hco, bind_ok, toD_fl, ev_nil, List.map_cons, List.map_nil, look_lst, tupleD, opt_some]
  rfl
/-! bounds_of -/
def numsS (rs : List Rly) : List Int := rs.flatMap fun r => r.hold.toList ++ r.lim.toList
theorem lcGo_nums (rs : List Rly) (ob : Obs) (x0 x1 : Option D) :
    lcGo (lcTurn (.var 2) tTrue (lcSrc (iSeq (eTup (aCons (eFrz (rOp ixD (eVar 2) (eC (.int 0)))) (aCons (eFrz (rOp ixD (eVar 2) (eC (.int 6)))) (aNil))))) [3] (lcTurn (.var 3) (tB (rOp (notD isD) (eVar 3) (eC .non))) (lcElt (eVar 3)))) [x0, x1, none, none]) (rs.map Rly.d) ob = some ((numsS rs).map D.int, ob) := by
  rw [lcGo_flat (ob := ob) Rly.d (fun r => (r.hold.toList ++ r.lim.toList).map D.int)]
  · rw [numsS, List.map_flatMap]
  · intro r _
    have hr : ∀ ob, look ob r.d = r.d := fun _ => rfl
    have hi : ∀ l : List D, itemsD (.tup l) = some l := fun _ => rfl
    cases hh : r.hold <;> cases hm : r.lim <;> simp [lcTurn, lcSrc, lcGo, lcElt, hr, hh, hm, oD, line_ok, hi, wipeD, notD, isD]
theorem nums_len (rs : List Rly) : (numsS rs).length ≤ 2 * rs.length := flat_len 2 _ rs fun r _ => by cases r.hold <;> cases r.lim <;> simp
theorem bounds_of_s {rs : List Rly} (hn : rs.length ≤ 30) (ob : Obs) (hc : f_need_chain [chD rs] ob = .ok (.val .non) ob) : f_bounds_of [chD rs] ob = .ok (.fl (uniq (0 :: numsS rs))) ob := by
  have hgo := lcGo_nums rs ob (some (chD rs)) none
  have hl := nums_len rs
  have hi : itemsD (chD rs) = some (rs.map Rly.d) := rfl
  have hadd := add_lst (l := [.int 0]) (m := (numsS rs).map D.int) (by simp; omega)
  have hint : intsOf (.lst ([D.int 0] ++ (numsS rs).map D.int)) = some (0 :: numsS rs) := intsD_map (0 :: numsS rs)
  refine def_rt (sl := [some (chD rs), some (.lst ((numsS rs).map D.int)), none, none]) ?_ rfl
  unfold e_bounds_of
  rw [seq_ok (s1 := ⟨[some (chD rs), none, none, none], ob⟩) (by simp [hc])]
  rw [seq_ok (s1 := ⟨[some (chD rs), some (.lst ((numsS rs).map D.int)), none, none], ob⟩) (by
    simp only [List.map_cons, List.map_nil, List.replicate, ev_set, ev_frz, ev_comp2, ev_iseq, ev_var, vr_0, vr_some, bind_ok, hi, sqo_some, wipeD, List.set_cons_succ, List.set_cons_zero, hgo, cfin_ok (l := (numsS rs).map D.int) (by simp; omega), toD_fl])]
  have hs := ssfin_ok (s := ⟨[some (chD rs), some (.lst ((numsS rs).map D.int)), none, none], ob⟩) (ns := 0 :: numsS rs) (by simp; omega)
  simp only [ev_ret, ev_sortSet, ev_frz, ev_op, ev_lst, ev_cons, ev_C, ev_nil, bind_ok, ev_var, vr_0, vr_1, vr_some, toD_fl, look_lst, List.length_cons, List.length_nil, line_ok, if_true, hadd, opt_some, hint, hs, show (0 + 1 ≤ 16777216) from by decide]
end Ch
end Cut
end
section
/-! CutLoop: a while loop that runs through a known line of states. -/
namespace Cut
open PySem PySem.Spec PyProof.Rows L2
theorem while_fam {tt : TM} {f : SM} (S : Nat → PSt) (N : Nat) : ∀ (n k : Nat), N - k < n → k ≤ N → (∀ i, k ≤ i → i < N → tt (S i) = .ok true (S i) ∧ f (S i) = .ok .nx (S (i + 1))) → tt (S N) = .ok false (S N) → whileGo tt f n (S k) = .ok .nx (S N)
  | 0, k, hn, _, _, _ => absurd hn (Nat.not_lt_zero _)
  | n + 1, k, hn, hk, hs, he => by
    rw [whileGo]
    by_cases h : k = N
    · subst h
      rw [he]
      rfl
    · obtain ⟨h1, h2⟩ := hs k (Nat.le_refl k) (by omega)
      rw [h1]
      simp only [Out.bind, if_true, h2]
      exact while_fam S N n (k + 1) (by omega) (by omega) (fun i hi hN => hs i (by omega) hN) he
theorem while_fuel {tt : TM} {f : SM} (S : Nat → PSt) (N : Nat) (hN : N < 2 ^ 100) (hs : ∀ i, i < N → tt (S i) = .ok true (S i) ∧ f (S i) = .ok .nx (S (i + 1))) (he : tt (S N) = .ok false (S N)) : sWhile fuel tt f (S 0) = .ok .nx (S N) :=
  while_fam S N fuel 0 (by show N - 0 < 2 ^ 100; omega) (Nat.zero_le N) (fun i _ h => hs i h) he
mutual
theorem eqv_refl : ∀ d : D, d.plain = true → D.eqv d d = true
  | .non, _ => by simp
  | .bl _, _ => by simp
  | .int _, _ => by simp
  | .str _, _ => by simp
  | .tup l, h => by rw [eqv_tup]; exact eqvs_refl l (by rw [D.plain] at h; exact h)
  | .lst l, h => by rw [eqv_lst]; exact eqvs_refl l (by rw [D.plain] at h; exact h)
  | .scr _, h => by rw [D.plain] at h; cases h
  | .dct _ _, h => by rw [D.plain] at h; cases h
  | .set _, h => by rw [D.plain] at h; cases h
  | .tbl _ _, h => by rw [D.plain] at h; cases h
  | .ob _, h => by rw [D.plain] at h; cases h
theorem eqvs_refl : ∀ l : List D, D.plains l = true → D.eqvs l l = true
  | [], _ => by simp
  | d :: l, h => by
    rw [D.plains, Bool.and_eq_true] at h
    rw [eqvs_cons, eqv_refl d h.1, eqvs_refl l h.2]; rfl
end
theorem eq_refl {d : D} (h : d.plain = true) (hd : d.depth ≤ 60) : eqD d d = some (.val (.bl true)) := by
  rw [eq_ok (by simp [eqOk, h, hd]), eqv_refl d h]
theorem ne_refl {d : D} (h : d.plain = true) (hd : d.depth ≤ 60) : neD d d = some (.val (.bl false)) := by
  rw [ne_ok (by simp [eqOk, h, hd]), eqv_refl d h]; rfl
end Cut
end
section
/-! CutMath: bounds and the pushing down of numbers, plain lists of ints. -/
namespace Cut
namespace Mt
structure IsLow (v : Int) (bs : List Int) (m : Int) : Prop where
  mem : m ∈ bs
  le : m ≤ v
  top : ∀ b ∈ bs, b ≤ v → b ≤ m
theorem IsLow.uniq {v : Int} {bs : List Int} {m n : Int} (a : IsLow v bs m) (b : IsLow v bs n) : m = n := by
  have h1 := b.top m a.mem a.le
  have h2 := a.top n b.mem b.le
  omega
def lowOf (v : Int) (bs : List Int) : Int := match bs.filter (fun b => decide (b ≤ v)) with
  | [] => 0
  | i :: l => greatest i l
structure Bds (bs : List Int) : Prop where
  asc : bs.Pairwise (· < ·)
  zero : bs.head? = some 0
theorem Bds.cons {bs : List Int} (h : Bds bs) : ∃ t, bs = 0 :: t := by
  cases bs with
  | nil => have := h.zero; cases this
  | cons b t => have := h.zero; simp at this; subst this; exact ⟨t, rfl⟩
theorem Bds.mem0 {bs : List Int} (h : Bds bs) : (0 : Int) ∈ bs := by
  obtain ⟨t, rfl⟩ := h.cons
  exact List.mem_cons_self
theorem Bds.nonneg {bs : List Int} (h : Bds bs) : ∀ b ∈ bs, 0 ≤ b := by
  have ha := h.asc
  obtain ⟨t, rfl⟩ := h.cons
  intro b hb
  rcases List.mem_cons.mp hb with rfl | hb
  · exact Int.le_refl _
  · have := (List.pairwise_cons.mp ha).1 b hb
    omega
theorem low_is {bs : List Int} (h : Bds bs) {v : Int} (hv : 0 ≤ v) : IsLow v bs (lowOf v bs) := by
  unfold lowOf
  have h0 : (0 : Int) ∈ bs.filter (fun b => decide (b ≤ v)) := List.mem_filter.mpr ⟨h.mem0, by simpa using hv⟩
  split
  · rename_i e
    rw [e] at h0; cases h0
  · rename_i i l e
    obtain ⟨a, b, c⟩ := greatest_is l i
    have hm : greatest i l ∈ bs.filter (fun b => decide (b ≤ v)) := by
      rw [e]
      rcases a with a | a
      · rw [a]; exact List.mem_cons_self
      · exact List.mem_cons_of_mem _ a
    obtain ⟨h1, h2⟩ := List.mem_filter.mp hm
    refine ⟨h1, by simpa using h2, fun x hx hl => ?_⟩
    have : x ∈ bs.filter (fun b => decide (b ≤ v)) := List.mem_filter.mpr ⟨hx, by simpa using hl⟩
    rw [e] at this
    rcases List.mem_cons.mp this with rfl | this
    · exact b
    · exact c x this
theorem low_eq {bs : List Int} (h : Bds bs) {v m : Int} (hv : 0 ≤ v) (hm : IsLow v bs m) : lowOf v bs = m := (low_is h hv).uniq hm
theorem low_nonneg {bs : List Int} (h : Bds bs) {v : Int} (hv : 0 ≤ v) : 0 ≤ lowOf v bs := h.nonneg _ (low_is h hv).mem
/-! numbers of members -/
theorem nodup_sub_len : ∀ {l m : List Int}, l.Nodup → (∀ x ∈ l, x ∈ m) → l.length ≤ m.length
  | [], _, _, _ => Nat.zero_le _
  | x :: l, m, h, hs => by
    obtain ⟨h1, h2⟩ := List.nodup_cons.mp h
    have hx := hs x List.mem_cons_self
    have := nodup_sub_len (l := l) (m := m.erase x) h2 fun y hy => (List.mem_erase_of_ne (fun (z : y = x) => h1 (by rw [← z]; exact hy))).mpr (hs y (List.mem_cons_of_mem _ hy))
    rw [List.length_erase_of_mem hx] at this
    have hp : 0 < m.length := List.length_pos_of_mem hx
    rw [List.length_cons]
    omega
theorem asc_len : ∀ {l : List Int} {a b : Int}, l.Pairwise (· < ·) → (∀ x ∈ l, a < x ∧ x < b) → a < b → (l.length : Int) ≤ b - a - 1
  | [], a, b, _, _, h => by simp; omega
  | x :: l, a, b, h, hs, hab => by
    obtain ⟨h1, h2⟩ := List.pairwise_cons.mp h
    obtain ⟨h3, h4⟩ := hs x List.mem_cons_self
    have := asc_len (l := l) (a := x) (b := b) h2 (fun y hy => ⟨h1 y hy, (hs y (List.mem_cons_of_mem _ hy)).2⟩) h4
    rw [List.length_cons]
    omega
def btw (a b : Int) (vs : List Int) : List Int := vs.filter fun x => decide (a < x) && decide (x < b)
theorem mem_btw {a b x : Int} {vs : List Int} : x ∈ btw a b vs ↔ x ∈ vs ∧ a < x ∧ x < b := by
  unfold btw
  rw [List.mem_filter, Bool.and_eq_true, decide_eq_true_iff, decide_eq_true_iff]
def rk (a b : Int) (vs : List Int) : Nat := (sortU (btw a b vs)).length
theorem rk_le {a b : Int} {vs : List Int} (h : a < b) : (rk a b vs : Int) ≤ b - a - 1 := by
  refine asc_len (sortU_asc _) (fun x hx => ?_) h
  exact (mem_btw.mp ((sortU_mem _ _).mp hx)).2
theorem rk_mono {a b c : Int} {vs : List Int} (h : b ≤ c) : rk a b vs ≤ rk a c vs := by
  refine nodup_sub_len (sortU_nodup _) fun x hx => ?_
  rw [sortU_mem, mem_btw] at hx ⊢
  exact ⟨hx.1, hx.2.1, by omega⟩
theorem rk_lt {a b c : Int} {vs : List Int} (hb : b ∈ vs) (h1 : a < b) (h : b < c) : rk a b vs < rk a c vs := by
  have : (b :: sortU (btw a b vs)).length ≤ (sortU (btw a c vs)).length := by
    refine nodup_sub_len (List.nodup_cons.mpr ⟨fun z => ?_, sortU_nodup _⟩) fun x hx => ?_
    · rw [sortU_mem, mem_btw] at z
      omega
    · rw [sortU_mem, mem_btw]
      rcases List.mem_cons.mp hx with rfl | hx
      · exact ⟨hb, h1, h⟩
      · rw [sortU_mem, mem_btw] at hx
        exact ⟨hx.1, hx.2.1, by omega⟩
  rw [List.length_cons] at this
  exact this
/-! pushing down -/
def pushI (v : Int) (vs bs : List Int) : Int := if v = lowOf v bs then v else lowOf v bs + 1 + rk (lowOf v bs) v vs
section
variable {bs vs : List Int} {v : Int}
theorem push_range (h : Bds bs) (hv : 0 ≤ v) : lowOf v bs ≤ pushI v vs bs ∧ pushI v vs bs ≤ v ∧ (v ≠ lowOf v bs → lowOf v bs < pushI v vs bs) := by
  have hl := (low_is h hv).le
  unfold pushI
  split
  · rename_i e
    exact ⟨hl, Int.le_refl _, fun z => absurd e z⟩
  · rename_i e
    have := rk_le (vs := vs) (show lowOf v bs < v by omega)
    exact ⟨by omega, by omega, fun _ => by omega⟩
theorem push_nonneg (h : Bds bs) (hv : 0 ≤ v) : 0 ≤ pushI v vs bs := Int.le_trans (low_nonneg h hv) (push_range h hv).1
theorem low_mid (h : Bds bs) (hv : 0 ≤ v) {u : Int} (h1 : lowOf v bs ≤ u) (h2 : u ≤ v) : lowOf u bs = lowOf v bs := by
  have hl := low_is h hv
  have := low_nonneg h hv
  exact low_eq h (by omega) ⟨hl.mem, h1, fun b hb hbu => hl.top b hb (by omega)⟩
theorem low_push (h : Bds bs) (hv : 0 ≤ v) : lowOf (pushI v vs bs) bs = lowOf v bs := low_mid h hv (push_range h hv).1 (push_range h hv).2.1
theorem push_mono (h : Bds bs) {x y : Int} (hx : 0 ≤ x) (hm : x ∈ vs) (h1 : lowOf y bs < x) (h2 : x < y) : pushI x vs bs < pushI y vs bs := by
  have e : lowOf x bs = lowOf y bs := low_mid h (by omega) (by omega) (by omega)
  unfold pushI
  rw [e, if_neg (by omega), if_neg (by omega)]
  have := rk_lt (vs := vs) hm h1 h2
  omega
theorem push_mono' (h : Bds bs) {x y : Int} (hx : 0 ≤ x) (h1 : lowOf y bs < x) (h2 : x ≤ y) : pushI x vs bs ≤ pushI y vs bs := by
  have e : lowOf x bs = lowOf y bs := low_mid h (by omega) (by omega) (by omega)
  unfold pushI
  rw [e, if_neg (by omega), if_neg (by omega)]
  have := rk_mono (a := lowOf y bs) (vs := vs) h2
  omega
/-- pushed down once more, nothing changes -/
theorem push_idem (h : Bds bs) (hs : ∀ x ∈ vs, 0 ≤ x) (hv : 0 ≤ v) : pushI (pushI v vs bs) (vs.map fun x => pushI x vs bs) bs = pushI v vs bs := by
  have hl := low_push (vs := vs) h hv
  obtain ⟨r1, r2, r3⟩ := push_range (vs := vs) h hv
  by_cases e : v = lowOf v bs
  · have e1 : pushI v vs bs = v := by unfold pushI; rw [if_pos e]
    rw [e1]
    unfold pushI
    rw [if_pos e]
  · have e1 : pushI v vs bs = lowOf v bs + 1 + rk (lowOf v bs) v vs := by unfold pushI; rw [if_neg e]
    have hlt := r3 e
    have hlow := low_is h hv
    have hk : rk (lowOf v bs) (pushI v vs bs) (vs.map fun x => pushI x vs bs) = rk (lowOf v bs) v vs := by
      unfold rk
      have hlen : ((sortU (btw (lowOf v bs) v vs)).map fun x => pushI x vs bs).length = (sortU (btw (lowOf v bs) v vs)).length := List.length_map ..
      rw [← hlen]
      refine nodup_len (sortU_nodup _) ?_ fun k => ?_
      · refine List.Pairwise.imp (fun h => Int.ne_of_lt h) (List.pairwise_map.mpr ((sortU_asc _).imp_of_mem fun {a b} ha hb hab => ?_))
        have ha := mem_btw.mp ((sortU_mem _ _).mp ha)
        have hb := mem_btw.mp ((sortU_mem _ _).mp hb)
        have eb : lowOf b bs = lowOf v bs := low_mid h hv (by omega) (by omega)
        exact push_mono h (hs a ha.1) ha.1 (by omega) hab
      · rw [sortU_mem, mem_btw]
        constructor
        · rintro ⟨hk, k1, k2⟩
          obtain ⟨x, hx, rfl⟩ := List.mem_map.mp hk
          have hx0 := hs x hx
          have e2 : lowOf (pushI x vs bs) bs = lowOf v bs := low_mid h hv (by omega) (by omega)
          rw [low_push h hx0] at e2
          obtain ⟨x1, x2, x3⟩ := push_range (vs := vs) h hx0
          have hxl : lowOf v bs < x := by
            by_cases z : x = lowOf x bs
            · have : pushI x vs bs = x := by unfold pushI; rw [if_pos z]
              omega
            · have := (low_is h hx0).le
              omega
          have hxv : x < v := by
            rcases Int.lt_or_le x v with z | z
            · exact z
            · have := push_mono' (vs := vs) h hv (x := v) (y := x) (by omega) z
              omega
          exact List.mem_map.mpr ⟨x, (sortU_mem _ _).mpr (mem_btw.mpr ⟨hx, hxl, hxv⟩), rfl⟩
        · intro hk
          obtain ⟨x, hx, rfl⟩ := List.mem_map.mp hk
          obtain ⟨g1, g2, g3⟩ := mem_btw.mp ((sortU_mem _ _).mp hx)
          have hx0 := hs x g1
          have ex : lowOf x bs = lowOf v bs := low_mid h hv (by omega) (by omega)
          refine ⟨List.mem_map.mpr ⟨x, g1, rfl⟩, ?_, push_mono h hx0 g1 g2 g3⟩
          have := (push_range (vs := vs) h hx0).2.2 (by omega)
          omega
    have e2 : pushI (pushI v vs bs) (vs.map fun x => pushI x vs bs) bs = lowOf v bs + 1 + rk (lowOf v bs) (pushI v vs bs) (vs.map fun x => pushI x vs bs) := by
      show (if pushI v vs bs = lowOf (pushI v vs bs) bs then _ else _) = _
      rw [hl, if_neg (by omega)]
    rw [e2, hk, e1]
end
/-! the law's way: interval by interval -/
def stepG (vs : List Int) (g : Int → Option Int) (p : Int × Int) : Int → Option Int := fun k => if k ∈ btw p.1 p.2 vs then some (p.1 + 1 + rk p.1 k vs) else g k
def pairsB (top : Int) : Int → List Int → List (Int × Int)
  | b, [] => [(b, top)]
  | b, c :: r => (b, c) :: pairsB top c r
theorem pairs_keep (top : Int) (vs : List Int) {k : Int} : ∀ (r : List Int) (b : Int) (g : Int → Option Int), (b :: r).Pairwise (· < ·) → k ≤ b → ((pairsB top b r).foldl (stepG vs) g) k = g k
  | [], b, g, _, hk => by
    simp only [pairsB, List.foldl_cons, List.foldl_nil, stepG]
    rw [if_neg fun z => by have := mem_btw.mp z; omega]
  | c :: r, b, g, h, hk => by
    obtain ⟨h1, h2⟩ := List.pairwise_cons.mp h
    have hbc := h1 c List.mem_cons_self
    rw [pairsB, List.foldl_cons, pairs_keep top vs r c _ h2 (by omega)]
    simp only [stepG]
    rw [if_neg fun z => by have := mem_btw.mp z; omega]
theorem pairs_low (top : Int) {vs : List Int} {k : Int} (hk : k ∈ vs) (ht : k < top) : ∀ (r : List Int) (b : Int) (g : Int → Option Int) (m : Int), (b :: r).Pairwise (· < ·) → IsLow k (b :: r) m →
    ((pairsB top b r).foldl (stepG vs) g) k = if k = m then g k else some (m + 1 + rk m k vs)
  | [], b, g, m, _, hm => by
    have e : m = b := List.mem_singleton.mp hm.mem
    subst e
    have := hm.le
    simp only [pairsB, List.foldl_cons, List.foldl_nil, stepG]
    by_cases h : k = m
    · rw [if_pos h, if_neg fun z => by have := mem_btw.mp z; omega]
    · rw [if_neg h, if_pos (mem_btw.mpr ⟨hk, by omega, ht⟩)]
  | c :: r, b, g, m, h, hm => by
    obtain ⟨h1, h2⟩ := List.pairwise_cons.mp h
    have hbc := h1 c List.mem_cons_self
    rw [pairsB, List.foldl_cons]
    by_cases hck : c ≤ k
    · have hmc : m ∈ c :: r := by
        rcases List.mem_cons.mp hm.mem with e | e
        · have := hm.top c (List.mem_cons_of_mem _ List.mem_cons_self) hck
          omega
        · exact e
      rw [pairs_low top hk ht r c _ m h2 ⟨hmc, hm.le, fun x hx hxk => hm.top x (List.mem_cons_of_mem _ hx) hxk⟩]
      simp only [stepG]
      rw [if_neg (c := k ∈ btw b c vs) fun z => by have := mem_btw.mp z; omega]
    · have e : m = b := by
        rcases List.mem_cons.mp hm.mem with e | e
        · exact e
        · exfalso
          have := hm.le
          rcases List.mem_cons.mp e with e | e
          · omega
          · have := (List.pairwise_cons.mp h2).1 m e
            omega
      subst e
      have hle := hm.le
      rw [pairs_keep top vs r c _ h2 (by omega)]
      simp only [stepG]
      by_cases h : k = m
      · rw [if_pos h, if_neg fun z => by have := mem_btw.mp z; omega]
      · rw [if_neg h, if_pos (mem_btw.mpr ⟨hk, by omega, by omega⟩)]
theorem pairs_push {bs vs : List Int} (h : Bds bs) {top k : Int} (hk : k ∈ vs) (h0 : 0 ≤ k) (ht : k < top) (g : Int → Option Int) : ((pairsB top 0 bs.tail).foldl (stepG vs) g) k = if k = lowOf k bs then g k else some (pushI k vs bs) := by
  have hl := low_is h h0
  have ha := h.asc
  obtain ⟨t, rfl⟩ := h.cons
  rw [List.tail_cons, pairs_low top hk ht t 0 g _ ha hl]
  by_cases e : k = lowOf k (0 :: t)
  · rw [if_pos e, if_pos e]
  · rw [if_neg e, if_neg e]
    unfold pushI
    rw [if_neg e]
/-- the place of a number in the ascending row is how many are less -/
theorem place_rk {a b : Int} {vs : List Int} {j : Nat} {k : Int} (h : (sortU (btw a b vs))[j]? = some k) : rk a k vs = j := by
  have ha := sortU_asc (btw a b vs)
  generalize hL : sortU (btw a b vs) = L at h ha
  have hlt : j < L.length := (List.getElem?_eq_some_iff.mp h).1
  have hk : L[j] = k := (List.getElem?_eq_some_iff.mp h).2
  have htl : (L.take j).length = j := by rw [List.length_take]; omega
  rw [← htl]
  unfold rk
  have hp := List.pairwise_iff_getElem.mp ha
  refine nodup_len (sortU_nodup _) ((ha.sublist (List.take_sublist _ _)).imp fun h => Int.ne_of_lt h) fun x => ?_
  rw [sortU_mem, mem_btw]
  have hmem : ∀ y, y ∈ L ↔ y ∈ vs ∧ a < y ∧ y < b := fun y => by rw [← hL, sortU_mem, mem_btw]
  have hkm := (hmem k).mp (by rw [← hk]; exact List.getElem_mem hlt)
  constructor
  · rintro ⟨h1, h2, h3⟩
    have hx := (hmem x).mpr ⟨h1, h2, by omega⟩
    obtain ⟨i, hi, e⟩ := List.getElem_of_mem hx
    have hij : i < j := by
      rcases Nat.lt_or_ge i j with z | z
      · exact z
      · rcases Nat.eq_or_lt_of_le z with z | z
        · subst z
          rw [hk] at e; omega
        · have := hp j i hlt hi z
          rw [hk, e] at this
          omega
    rw [← e]
    exact List.mem_take_iff_getElem.mpr ⟨i, by omega, rfl⟩
  · intro hx
    obtain ⟨i, hi, e⟩ := List.mem_take_iff_getElem.mp hx
    have hil : i < L.length := by omega
    have := hp i j hil hlt (by omega)
    rw [hk, e] at this
    have hxm := (hmem x).mp (by rw [← e]; exact List.getElem_mem hil)
    exact ⟨hxm.1, hxm.2.1, this⟩
theorem head_zero {l : List Int} (h : ∀ x ∈ l, 0 ≤ x) : Bds (sortU (0 :: l)) := by
  refine ⟨sortU_asc _, ?_⟩
  have hm : (0 : Int) ∈ sortU (0 :: l) := (sortU_mem _ _).mpr List.mem_cons_self
  have ha := sortU_asc (0 :: l)
  have hs : ∀ x ∈ sortU (0 :: l), 0 ≤ x := fun x hx => by
    rcases List.mem_cons.mp ((sortU_mem _ _).mp hx) with rfl | hx
    · exact Int.le_refl _
    · exact h x hx
  cases hL : sortU (0 :: l) with
  | nil => rw [hL] at hm; cases hm
  | cons x t =>
    rw [hL] at hm ha hs
    have hx := hs x List.mem_cons_self
    rcases List.mem_cons.mp hm with e | e
    · rw [List.head?_cons, ← e]
    · have := (List.pairwise_cons.mp ha).1 0 e
      omega
end Mt
end Cut
namespace Cut
namespace Mt
theorem push_le {bs vs : List Int} (h : Bds bs) {x y : Int} (hx : 0 ≤ x) (hxy : x ≤ y) : pushI x vs bs ≤ pushI y vs bs := by
  have hy : 0 ≤ y := by omega
  have lx := low_is h hx
  have ly := low_is h hy
  obtain ⟨x1, x2, x3⟩ := push_range (vs := vs) h hx
  obtain ⟨y1, y2, y3⟩ := push_range (vs := vs) h hy
  by_cases e : x < lowOf y bs
  · omega
  · have : lowOf x bs = lowOf y bs := low_mid h hy (by omega) hxy
    by_cases e2 : x = lowOf y bs
    · omega
    · exact push_mono' h hx (by omega) hxy
end Mt
end Cut
end
section
namespace Cut
open PySem PySem.Spec PyProof.Rows L2
namespace Bn
noncomputable def e_is_one_of : SM :=
  sRet (rVal (eAnd (eFrz (rIs (eVar 0) [.str])) (eFrz (rOp (yesD inD) (eVar 0) (eVar 1)))))
noncomputable def f_is_one_of : FM := evDef 0 e_is_one_of
noncomputable def e_is_integer : SM :=
  sRet (rVal (eAnd (eFrz (rIs (eVar 0) [.int])) (eNot (eFrz (rIs (eVar 0) [.bool])))))
noncomputable def f_is_integer : FM := evDef 0 e_is_integer
noncomputable def e_is_count : SM :=
  sRet (rVal (eAnd (eFrz (rCall f_is_integer (aCons (eVar 0) (aNil)))) (eFrz (rOp geD (eVar 0) (eC (.int 0))))))
noncomputable def f_is_count : FM := evDef 0 e_is_count
def k_WAYS : D := .tup [.str "length", .str "marks", .str "close"]
def k_ENDS : D := .tup [.str "mark", .str "open", .str "shut"]
noncomputable def e_is_sending : SM :=
  sSeq (sIf (tOr2 (tNot1 (tTru (eFrz (rIs (eVar 0) [.tuple])))) (tOr2 (tB (rOp neD (eFrz (rB lenD (aCons (eVar 0) (aNil)))) (eC (.int 5)))) (tNot1 (tTru (eFrz (rCall f_is_one_of (aCons (eFrz (rOp ixD (eVar 0) (eC (.int 1)))) (aCons (eC k_WAYS) (aNil))))))))) (sRet (rVal (eC (.bl false)))) (sPass)) <|
  sSeq (sAsg (.tup [.var 1, .var 2, .var 3, .var 4, .var 5]) (eVar 0)) <|
  sSeq (sIf (tOr2 (tNot1 (tTru (eFrz (rCall f_is_count (aCons (eVar 1) (aNil)))))) (tOr2 (tNot1 (tTru (eFrz (rCall f_is_count (aCons (eVar 4) (aNil)))))) (tNot1 (tTru (eFrz (rCall f_is_one_of (aCons (eVar 5) (aCons (eC k_ENDS) (aNil))))))))) (sRet (rVal (eC (.bl false)))) (sPass)) <|
  sSeq (sIf (tAnd2 (tB (rOp eqD (eVar 5) (eC (.str "mark")))) (tB (rOp neD (eVar 2) (eC (.str "marks"))))) (sRet (rVal (eC (.bl false)))) (sPass)) <|
  sRet (rIf (tB (rOp eqD (eVar 2) (eC (.str "length")))) (rVal (eAnd (eFrz (rCall f_is_count (aCons (eVar 3) (aNil)))) (eFrz (rOp leD (eVar 4) (eVar 3))))) (rOp (yesD isD) (eVar 3) (eC .non)))
noncomputable def f_is_sending : FM := evDef 5 e_is_sending
noncomputable def e_is_bounds : SM :=
  sSeq (sIf (tOr2 (tNot1 (tTru (eFrz (rIs (eVar 0) [.list, .tuple])))) (tOr2 (tB (rOp eqD (eFrz (rB lenD (aCons (eVar 0) (aNil)))) (eC (.int 0)))) (tNot1 (tTru (eFrz (rB allD (aCons (eFrz (rComp [1] (iSeq (eVar 0)) (.var 1) (tTrue) (eFrz (rCall f_is_count (aCons (eVar 1) (aNil)))))) (aNil)))))))) (sRet (rVal (eC (.bl false)))) (sPass)) <|
  sRet (rVal (eAnd (eFrz (rOp eqD (eFrz (rOp ixD (eVar 0) (eC (.int 0)))) (eC (.int 0)))) (eFrz (rB allD (aCons (eFrz (rComp [1, 2] (iZipD (eFrz (rSlice (eVar 0) (oNone) (oSome (eNeg (eC (.int 1)))))) (eFrz (rSlice (eVar 0) (oSome (eC (.int 1))) (oNone)))) (.tup [.var 1, .var 2]) (tTrue) (eFrz (rOp ltD (eVar 1) (eVar 2))))) (aNil))))))
noncomputable def f_is_bounds : FM := evDef 2 e_is_bounds
noncomputable def e_need_bounds : SM :=
  sIf (tNot1 (tTru (eFrz (rCall f_is_bounds (aCons (eVar 0) (aNil)))))) (sRaise "NoBounds") (sPass)
noncomputable def f_need_bounds : FM := evDef 0 e_need_bounds
noncomputable def e_below : SM :=
  sRet (rB maxD (aCons (eFrz (rComp [2] (iSeq (eVar 1)) (.var 2) (tB (rOp leD (eVar 2) (eVar 0))) (eVar 2))) (aNil)))
noncomputable def f_below : FM := evDef 1 e_below
noncomputable def e_pushed : SM :=
  sSeq (sSet 3 (eFrz (rCall f_below (aCons (eVar 0) (aCons (eVar 2) (aNil)))))) <|
  sSeq (sIf (tB (rOp eqD (eVar 0) (eVar 3))) (sRet (rVal (eVar 0))) (sPass)) <|
  sSeq (sSet 4 (eSetC [5] (iSeq (eVar 1)) (.var 5) (tB (rChain ltD ltD (eVar 3) (eVar 5) (eVar 0))) (eVar 5))) <|
  sRet (rOp addD (eFrz (rOp addD (eVar 3) (eC (.int 1)))) (eFrz (rB lenD (aCons (eVar 4) (aNil)))))
noncomputable def f_pushed : FM := evDef 3 e_pushed
noncomputable def e_pushed_sending : SM :=
  sSeq (sAsg (.tup [.var 4, .var 5, .var 3, .var 6, .var 7]) (eVar 0)) <|
  sSeq (sSet 3 (eFrz (rIf (tB (rOp (yesD isD) (eVar 3) (eC .non))) (rVal (eC .non)) (rCall f_pushed (aCons (eVar 3) (aCons (eVar 1) (aCons (eVar 2) (aNil)))))))) <|
  sRet (rVal (eTup (aCons (eFrz (rCall f_pushed (aCons (eVar 4) (aCons (eVar 1) (aCons (eVar 2) (aNil)))))) (aCons (eVar 5) (aCons (eVar 3) (aCons (eFrz (rCall f_pushed (aCons (eVar 6) (aCons (eVar 1) (aCons (eVar 2) (aNil)))))) (aCons (eVar 7) (aNil))))))))
noncomputable def f_pushed_sending : FM := evDef 5 e_pushed_sending
noncomputable def e_values_of : SM :=
  sRet (rOp addD (eFrz (rLst (aCons (eFrz (rOp ixD (eVar 0) (eC (.int 0)))) (aCons (eFrz (rOp ixD (eVar 0) (eC (.int 3)))) (aNil))))) (eFrz (rIf (tB (rOp (notD isD) (eFrz (rOp ixD (eVar 0) (eC (.int 2)))) (eC .non))) (rLst (aCons (eFrz (rOp ixD (eVar 0) (eC (.int 2)))) (aNil))) (rLst (aNil)))))
noncomputable def f_values_of : FM := evDef 0 e_values_of
noncomputable def e_standing : SM :=
  sSeq (sIf (tNot1 (tTru (eFrz (rCall f_is_sending (aCons (eVar 0) (aNil)))))) (sRaise "NoSending") (sPass)) <|
  sSeq (sExp (rCall f_need_bounds (aCons (eVar 1) (aNil)))) <|
  sRet (rCall f_pushed_sending (aCons (eVar 0) (aCons (eFrz (rCall f_values_of (aCons (eVar 0) (aNil)))) (aCons (eVar 1) (aNil)))))
noncomputable def f_standing : FM := evDef 0 e_standing
noncomputable def e_is_standing : SM :=
  sRet (rVal (eAnd (eFrz (rCall f_is_sending (aCons (eVar 0) (aNil)))) (eFrz (rOp eqD (eFrz (rCall f_standing (aCons (eVar 0) (aCons (eVar 1) (aNil))))) (eVar 0)))))
noncomputable def f_is_standing : FM := evDef 0 e_is_standing
noncomputable def l__law_standing_0 : SM :=
  sPut (eVar 3) (eVar 13) (eFrz (rOp addD (eFrz (rOp addD (eVar 9) (eC (.int 1)))) (eVar 12)))
noncomputable def l__law_standing_1 : SM :=
  sSeq (sSet 11 (eFrz (rSortSet (eFrz (rComp [13] (iSeq (eVar 2)) (.var 13) (tB (rChain ltD ltD (eVar 9) (eVar 13) (eVar 10))) (eVar 13)))))) <|
  sFor (iEnumD (eVar 11)) (.tup [.var 12, .var 13]) l__law_standing_0
noncomputable def e__law_standing : SM :=
  sSeq (sAsg (.tup [.var 4, .var 5, .var 6, .var 7, .var 8]) (eVar 0)) <|
  sSeq (sSet 2 (eFrz (rOp addD (eFrz (rLst (aCons (eVar 4) (aCons (eVar 7) (aNil))))) (eFrz (rIf (tB (rOp (notD isD) (eVar 6) (eC .non))) (rLst (aCons (eVar 6) (aNil))) (rLst (aNil))))))) <|
  sSeq (sSet 3 (eOwn (rDisp0))) <|
  sSeq (sFor (iZipD (eVar 1) (eFrz (rOp addD (eFrz (rB listD (aCons (eFrz (rSlice (eVar 1) (oSome (eC (.int 1))) (oNone))) (aNil)))) (eFrz (rLst (aCons (eFrz (rOp powD (eC (.int 10)) (eC (.int 13)))) (aNil))))))) (.tup [.var 9, .var 10]) l__law_standing_1) <|
  sRet (rVal (eTup (aCons (eFrz (rMeth "dict" getM (eVar 3) (aCons (eVar 4) (aCons (eVar 4) (aNil))))) (aCons (eVar 5) (aCons (eFrz (rMeth "dict" getM (eVar 3) (aCons (eVar 6) (aCons (eVar 6) (aNil))))) (aCons (eFrz (rMeth "dict" getM (eVar 3) (aCons (eVar 7) (aCons (eVar 7) (aNil))))) (aCons (eVar 8) (aNil))))))))
noncomputable def f__law_standing : FM := evDef 12 e__law_standing
noncomputable def l__law_bounds_0 : SM :=
  sSet 1 (eFrz (rOp addD (eVar 1) (eFrz (rComp [3] (iSeq (eTup (aCons (eFrz (rOp ixD (eVar 2) (eC (.int 0)))) (aCons (eFrz (rOp ixD (eVar 2) (eC (.int 6)))) (aNil))))) (.var 3) (tB (rOp (notD isD) (eVar 3) (eC .non))) (eVar 3)))))
noncomputable def e__law_bounds : SM :=
  sSeq (sSet 1 (eFrz (rLst (aCons (eC (.int 0)) (aNil))))) <|
  sSeq (sFor (iSeq (eVar 0)) (.var 2) l__law_bounds_0) <|
  sRet (rSortSet (eVar 1))
noncomputable def f__law_bounds : FM := evDef 3 e__law_bounds
end Bn
end Cut
end
section
/-! CutBnd2: bounds and standings, as plain Lean. -/
namespace Cut
open PySem PySem.Spec PyProof.Rows L2
section
variable {s : PSt} {sl : List (Option D)} {ob : Obs}
def chfin (g' : D → D → Option Rv) (o : Option Rv) (fc : EM) (dy : D) (s : PSt) : Out Rv := match o with
  | some (.val (.bl true)) => (fc s).bind fun dz s3 => opt (g' (look s3.ob dy) (look s3.ob dz)) s3
  | some (.val (.bl false)) => .ok (.val (.bl false)) s
  | _ => .bad
@[simp] theorem ev_chain {g g' : D → D → Option Rv} {fa fb fc : EM} : rChain g g' fa fb fc s = (fa s).bind fun dx s1 => (fb s1).bind fun dy s2 => chfin g' (g (look s2.ob dx) (look s2.ob dy)) fc dy s2 := by
  unfold rChain
  congr 1
@[simp] theorem chfin_bl {g' : D → D → Option Rv} {fc : EM} {dy : D} {b : Bool} : chfin g' (some (.val (.bl b))) fc dy s = if b = true then (fc s).bind fun dz s3 => opt (g' (look s3.ob dy) (look s3.ob dz)) s3 else .ok (.val (.bl false)) s := by cases b <;> rfl
def scfin (o : Option (List D × Obs)) (s : PSt) : Out D := match o with
  | some (l, ob) => match intsD l with
    | some ns => if ns.length + 1 < scanBound then .ok (.set (uniq ns)) { s with ob := ob } else .bad
    | none => .bad
  | none => .bad
@[simp] theorem ev_setc {own : List Nat} {src : IM} {g : Tg} {tt : TM} {f : EM} : eSetC own src g tt f s = (src s).bind fun items s1 => scfin (lcGo (lcTurn g tt (lcElt f) (wipeD s1.sl own)) items s1.ob) s1 := rfl
theorem scfin_ok {ns : List Int} (h : ns.length ≤ 4000) : scfin (some (ns.map D.int, ob)) s = .ok (.set (uniq ns)) ⟨s.sl, ob⟩ := by
  unfold scfin
  simp only [intsD_map]
  rw [if_pos (by unfold scanBound; omega)]
theorem flat_if {α β : Type} (p : α → Bool) (f : α → β) : ∀ l : List α, (l.flatMap fun a => if p a = true then [f a] else []) = (l.filter p).map f
  | [] => rfl
  | a :: l => by
    rw [List.flatMap_cons, flat_if p f l]
    cases h : p a with
    | true => rw [if_pos rfl, List.filter_cons_of_pos h]; rfl
    | false => rw [if_neg (by simp), List.filter_cons_of_neg (by simp [h])]; rfl
theorem blsD_map {α : Type} (p : α → Bool) : ∀ l : List α, blsD (l.map fun a => D.bl (p a)) = some (l.map p)
  | [] => rfl
  | a :: l => by rw [List.map_cons, blsD, blsD_map p l]; rfl
theorem zipD_ints : ∀ l m : List Int, zipD (l.map D.int) (m.map D.int) = (l.zip m).map fun p => .tup [.int p.1, .int p.2]
  | [], m => by simp [zipD]
  | a :: l, [] => by simp [zipD]
  | a :: l, b :: m => by rw [List.map_cons, List.map_cons, zipD, zipD_ints l m]; rfl
theorem cut_init {α : Type} (l : List α) : cut l none (some (-1)) = l.dropLast := by
  unfold cut
  have e1 : HT.sIx l.length 0 none = 0 := rfl
  have e2 : HT.sIx l.length l.length (some (-1)) = l.length - 1 := by
    show (if (-1 : Int) < 0 then (-1 + (l.length : Int)).toNat else min (-1 : Int).toNat l.length) = _
    rw [if_pos (by omega)]
    omega
  rw [e1, e2, List.drop_zero, Nat.sub_zero]
  exact List.dropLast_eq_take.symm
theorem cut_tail {α : Type} (l : List α) : cut l (some 1) none = l.tail := by
  have := cut_at l 1
  rw [show ((1 : Nat) : Int) = 1 from rfl] at this
  rw [this, List.drop_one]
end
namespace Bn
open Prog Mt
theorem is_is_sending : f_is_sending = Prog.f_is_sending := rfl
theorem is_is_count : f_is_count = Prog.f_is_count := rfl
/-- a row of bounds: a list or a tuple -/
def SeqI (d : D) (bs : List Int) : Prop := d = .lst (bs.map D.int) ∨ d = .tup (bs.map D.int)
theorem asc_next : ∀ {l : List Int}, l.Pairwise (· < ·) → ∀ p ∈ l.dropLast.zip l.tail, p.1 < p.2
  | [], _, p, hp => by cases hp
  | [a], _, p, hp => by cases hp
  | a :: b :: l, h, p, hp => by
    obtain ⟨h1, h2⟩ := List.pairwise_cons.mp h
    rw [List.dropLast_cons₂, List.tail_cons, List.zip_cons_cons] at hp
    rcases List.mem_cons.mp hp with rfl | hp
    · exact h1 b List.mem_cons_self
    · exact asc_next (l := b :: l) h2 p (by simpa using hp)
theorem is_bounds_s {d : D} {bs : List Int} (hd : SeqI d bs) (h : Bds bs) (hl : bs.length ≤ 1000) (ob : Obs) : f_is_bounds [d] ob = .ok (.val (.bl true)) ob := by
  have hc : ∀ (x1 x2 : Option D) , lcGo (lcTurn (.var 1) tTrue (lcElt (eFrz (rCall f_is_count (aCons (eVar 1) aNil)))) [some d, x1, x2]) (bs.map D.int) ob = some (bs.map (fun _ => D.bl true), ob) := fun x1 x2 => by
    rw [lcGo_flat (ob := ob) D.int (fun _ => [D.bl true]) bs (fun b hb => by simp [lcTurn, lcElt, is_is_count, is_count_i (h.nonneg b hb)]), flat1]
  have hz : lcGo (lcTurn (.tup [.var 1, .var 2]) tTrue (lcElt (eFrz (rOp ltD (eVar 1) (eVar 2)))) [some d, none, none]) ((bs.dropLast.zip bs.tail).map fun p => .tup [.int p.1, .int p.2]) ob = some ((bs.dropLast.zip bs.tail).map (fun p => D.bl (decide (p.1 < p.2))), ob) := by
    rw [lcGo_flat (ob := ob) (fun p : Int × Int => D.tup [.int p.1, .int p.2]) (fun p => [D.bl (decide (p.1 < p.2))]) _ (fun p _ => by
      have hp : (Tg.tup [.var 1, .var 2]).put (.tup [.int p.1, .int p.2]) [some d, none, none] = some [some d, some (.int p.1), some (.int p.2)] := rfl
      simp [lcTurn, hp, lcElt]), flat1]
  have hall : ((bs.dropLast.zip bs.tail).map fun p => decide (p.1 < p.2)).all id = true := by
    rw [List.all_eq_true]
    intro b hb
    obtain ⟨p, hp, rfl⟩ := List.mem_map.mp hb
    simpa using asc_next h.asc p hp
  have hall1 : (bs.map fun _ => true).all id = true := by
    rw [List.all_eq_true]
    intro b hb
    obtain ⟨p, hp, rfl⟩ := List.mem_map.mp hb
    rfl
  have hm : ∀ b, blsD ((bs.map fun _ => D.bl b)) = some (bs.map fun _ => b) := fun b => blsD_map (fun _ => b) bs
  have hm2 : blsD ((bs.dropLast.zip bs.tail).map fun p => D.bl (decide (p.1 < p.2))) = some ((bs.dropLast.zip bs.tail).map fun p => decide (p.1 < p.2)) := blsD_map _ _
  have hnil : bs ≠ [] := by
    obtain ⟨t, rfl⟩ := h.cons
    simp
  have hix : atI (bs.map D.int) 0 = some (.int 0) := by
    obtain ⟨t, rfl⟩ := h.cons
    rw [List.map_cons]
    exact at_nat (n := 0) (by simp)
  have hzl : (bs.dropLast.zip bs.tail).length ≤ 1000 := by
    rw [List.length_zip, List.length_dropLast]
    omega
  have cf1 := fun (x1 x2 : Option D) => cfin_ok (ob := ob) (s := ⟨[some d, x1, x2], ob⟩) (l := bs.map fun _ => D.bl true) (by rw [List.length_map]; omega)
  have cf2 := fun (x1 x2 : Option D) => cfin_ok (ob := ob) (s := ⟨[some d, x1, x2], ob⟩) (l := (bs.dropLast.zip bs.tail).map fun p => D.bl (decide (p.1 < p.2))) (by rw [List.length_map]; omega)
  have zz : zipD (bs.map D.int).dropLast (bs.map D.int).tail = (bs.dropLast.zip bs.tail).map fun p => .tup [.int p.1, .int p.2] := by
    rw [← List.map_dropLast, ← List.map_tail]
    exact zipD_ints bs.dropLast bs.tail
  refine def_rt (sl := [some d, none, none]) ?_ rfl
  unfold e_is_bounds
  rcases hd with rfl | rfl
  · have hi : itemsD (.lst (bs.map D.int)) = some (bs.map D.int) := rfl
    have c1 : sliceD (.lst (bs.map D.int)) none (some (-1)) = some (.fl (bs.map D.int).dropLast) := by
      show some (Rv.fl (cut (bs.map D.int) none (some (-1)))) = _
      rw [cut_init]
    have c2 : sliceD (.lst (bs.map D.int)) (some 1) none = some (.fl (bs.map D.int).tail) := by
      show some (Rv.fl (cut (bs.map D.int) (some 1) none)) = _
      rw [cut_tail]
    rw [seq_ok (s1 := ⟨[some (.lst (bs.map D.int)), none, none], ob⟩) (by simp [isD1, D.ty, Ty.sub, lenD, Prog.eq_int, hnil, hi, wipeD, hc, cf1, allD, hm, hall1])]
    simp [ixD, hix, Prog.eq_int, iZipD, c1, c2, zz, wipeD, hz, cf2, allD, hm2, hall]
  · have hi : itemsD (.tup (bs.map D.int)) = some (bs.map D.int) := rfl
    have c1 : sliceD (.tup (bs.map D.int)) none (some (-1)) = some (.val (.tup (bs.map D.int).dropLast)) := by
      show some (Rv.val (.tup (cut (bs.map D.int) none (some (-1))))) = _
      rw [cut_init]
    have c2 : sliceD (.tup (bs.map D.int)) (some 1) none = some (.val (.tup (bs.map D.int).tail)) := by
      show some (Rv.val (.tup (cut (bs.map D.int) (some 1) none))) = _
      rw [cut_tail]
    rw [seq_ok (s1 := ⟨[some (.tup (bs.map D.int)), none, none], ob⟩) (by simp [isD1, D.ty, Ty.sub, lenD, Prog.eq_int, hnil, hi, wipeD, hc, cf1, allD, hm, hall1])]
    simp [ixD, hix, Prog.eq_int, iZipD, c1, c2, zz, wipeD, hz, cf2, allD, hm2, hall]
theorem def_nx {fs : SM} {ds : List D} {k : Nat} {sl : List (Option D)} {ob : Obs} (h : fs ⟨ds.map some ++ List.replicate k none, ob⟩ = .ok .nx ⟨sl, ob⟩) : evDef k fs ds ob = .ok (.val .non) ob := by
  unfold evDef
  rw [h]
  show leave _ _ _ _ = _
  unfold leave
  rw [if_pos rfl]
theorem need_bounds_s {d : D} {bs : List Int} (hd : SeqI d bs) (h : Bds bs) (hl : bs.length ≤ 1000) (ob : Obs) : f_need_bounds [d] ob = .ok (.val .non) ob := by
  refine def_nx (sl := [some d]) ?_
  unfold e_need_bounds
  simp [is_bounds_s hd h hl]
theorem below_s {d : D} {bs : List Int} (hd : SeqI d bs) (h : Bds bs) (hl : bs.length ≤ 1000) {v : Int} (hv : 0 ≤ v) (ob : Obs) : f_below [.int v, d] ob = .ok (.val (.int (lowOf v bs))) ob := by
  have hg : lcGo (lcTurn (.var 2) (tB (rOp leD (eVar 2) (eVar 0))) (lcElt (eVar 2)) [some (.int v), some d, none]) (bs.map D.int) ob = some ((bs.filter fun b => decide (b ≤ v)).map D.int, ob) := by
    rw [lcGo_flat (ob := ob) D.int (fun b => if decide (b ≤ v) = true then [D.int b] else []) bs (fun b hb => by
      by_cases hbv : b ≤ v <;> simp [lcTurn, lcElt, hbv]), flat_if]
  have hi : itemsD d = some (bs.map D.int) := by rcases hd with rfl | rfl <;> rfl
  have hlen : ((bs.filter fun b => decide (b ≤ v)).map D.int).length ≤ 16777216 := by
    rw [List.length_map]
    have := List.length_filter_le (fun b => decide (b ≤ v)) bs
    omega
  have hmax : maxD [.lst ((bs.filter fun b => decide (b ≤ v)).map D.int)] = some (.val (.int (lowOf v bs))) := by
    have h0 : (0 : Int) ∈ bs.filter (fun b => decide (b ≤ v)) := List.mem_filter.mpr ⟨h.mem0, by simpa using hv⟩
    unfold lowOf
    generalize bs.filter (fun b => decide (b ≤ v)) = l at h0
    cases l with
    | nil => cases h0
    | cons i l =>
      show (match intsD ((i :: l).map D.int) with
        | some (i :: ns) => some (Rv.val (.int (greatest i ns)))
        | _ => none) = _
      rw [intsD_map]
  refine def_rt (sl := [some (.int v), some d, none]) ?_ rfl
  unfold e_below
  simp [hi, wipeD, hg, cfin_ok hlen, hmax]
theorem pushed_s {d : D} {bs : List Int} (hd : SeqI d bs) (h : Bds bs) (hl : bs.length ≤ 1000) {v : Int} (hv : 0 ≤ v) {vs : List Int} (hvl : vs.length ≤ 1000) (ob : Obs) : f_pushed [.int v, .lst (vs.map D.int), d] ob = .ok (.val (.int (pushI v vs bs))) ob := by
  have hb := below_s hd h hl hv ob
  have hg : lcGo (lcTurn (.var 5) (tB (rChain ltD ltD (eVar 3) (eVar 5) (eVar 0))) (lcElt (eVar 5)) [some (.int v), some (.lst (vs.map D.int)), some d, some (.int (lowOf v bs)), none, none]) (vs.map D.int) ob = some ((btw (lowOf v bs) v vs).map D.int, ob) := by
    rw [lcGo_flat (ob := ob) D.int (fun x => if (decide (lowOf v bs < x) && decide (x < v)) = true then [D.int x] else []) vs (fun x hx => by
      by_cases h1 : lowOf v bs < x <;> by_cases h2 : x < v <;> simp [lcTurn, lcElt, h1, h2]), flat_if]
    rfl
  have hi : itemsD (.lst (vs.map D.int)) = some (vs.map D.int) := rfl
  have hlen : (btw (lowOf v bs) v vs).length ≤ 4000 := by
    have := List.length_filter_le (fun x => decide (lowOf v bs < x) && decide (x < v)) vs
    unfold btw
    omega
  have hsc := fun st => scfin_ok (ob := ob) (s := st) hlen
  by_cases e : v = lowOf v bs
  · have ep : pushI v vs bs = v := by unfold pushI; rw [if_pos e]
    rw [ep]
    refine def_rt (sl := [some (.int v), some (.lst (vs.map D.int)), some d, some (.int (lowOf v bs)), none, none]) ?_ rfl
    unfold e_pushed
    rw [seq_ok (s1 := ⟨[some (.int v), some (.lst (vs.map D.int)), some d, some (.int (lowOf v bs)), none, none], ob⟩) (by simp [hb])]
    simp [Prog.eq_int, ← e]
  · have ep : pushI v vs bs = lowOf v bs + 1 + rk (lowOf v bs) v vs := by unfold pushI; rw [if_neg e]
    rw [ep]
    refine def_rt (sl := [some (.int v), some (.lst (vs.map D.int)), some d, some (.int (lowOf v bs)), some (.set (uniq (btw (lowOf v bs) v vs))), none]) ?_ rfl
    have hlenD : lenD [.set (uniq (btw (lowOf v bs) v vs))] = some (.val (.int (rk (lowOf v bs) v vs))) := by
      show some (Rv.val (.int ((uniq (btw (lowOf v bs) v vs)).length : Nat))) = _
      rw [uniq_len]
      rfl
    have lk : ∀ ob l, look ob (.set l) = .set l := fun _ _ => rfl
    unfold e_pushed
    rw [seq_ok (s1 := ⟨[some (.int v), some (.lst (vs.map D.int)), some d, some (.int (lowOf v bs)), none, none], ob⟩) (by simp [hb])]
    rw [seq_ok (s1 := ⟨[some (.int v), some (.lst (vs.map D.int)), some d, some (.int (lowOf v bs)), none, none], ob⟩) (by simp [Prog.eq_int, e])]
    rw [seq_ok (s1 := ⟨[some (.int v), some (.lst (vs.map D.int)), some d, some (.int (lowOf v bs)), some (.set (uniq (btw (lowOf v bs) v vs))), none], ob⟩) (by
      rw [ev_set, ev_setc]
      simp only [ev_iseq, ev_var, vr_0, vr_1, vr_some, bind_ok, hi, sqo_some, wipeD, List.set_cons_succ, List.set_cons_zero, hg, hsc])]
    simp [lk, hlenD]
/-! standings -/
def valsS (s : Snd) : List Int := [s.meant, s.units] ++ s.told.toList
def standS (s : Snd) (bs : List Int) : Snd := ⟨pushI s.meant (valsS s) bs, s.way, s.told.map fun t => pushI t (valsS s) bs, pushI s.units (valsS s) bs, s.en⟩
theorem vals_nonneg {s : Snd} (h : s.Ok) : ∀ x ∈ valsS s, 0 ≤ x := by
  intro x hx
  rcases List.mem_append.mp hx with hx | hx
  · simp only [List.mem_cons, List.not_mem_nil, or_false] at hx
    rcases hx with rfl | rfl
    · exact h.meant
    · exact h.units
  · cases ht : s.told with
    | none => rw [ht] at hx; cases hx
    | some t =>
      rw [ht] at hx
      rw [List.mem_singleton.mp hx]
      by_cases hw : s.way = .length
      · obtain ⟨t', e, _, h0⟩ := h.told hw
        rw [ht] at e; cases e; exact h0
      · rw [h.none_ hw] at ht; cases ht
theorem values_of_s (s : Snd) (ob : Obs) : f_values_of [s.d] ob = .ok (.fl ((valsS s).map D.int)) ob := by
  have ls : ∀ ob, look ob s.d = s.d := fun _ => rfl
  refine def_rt (sl := [some s.d]) ?_ rfl
  unfold e_values_of
  cases ht : s.told with
  | none => 
    have ha := add_lst (l := [.int s.meant, .int s.units]) (m := []) (by simp)
    simp [ls, notD, isD, ht, oD, line_ok, valsS, ha]
  | some t =>
    have ha := add_lst (l := [.int s.meant, .int s.units]) (m := [.int t]) (by simp)
    simp [ls, notD, isD, ht, oD, line_ok, valsS, ha]
theorem vals_len (s : Snd) : (valsS s).length ≤ 3 := by
  unfold valsS
  cases s.told <;> simp
theorem told_nonneg {s : Snd} (h : s.Ok) {t : Int} (ht : s.told = some t) : 0 ≤ t := vals_nonneg h t (by unfold valsS; rw [ht]; simp)
theorem pushed_sending_s {d : D} {bs : List Int} (hd : SeqI d bs) (h : Bds bs) (hl : bs.length ≤ 1000) {s : Snd} (hs : s.Ok) (ob : Obs) : f_pushed_sending [s.d, .lst ((valsS s).map D.int), d] ob = .ok (.val (standS s bs).d) ob := by
  have hvl := vals_len s
  have e1 := fun ob => pushed_s hd h hl hs.meant (vs := valsS s) (by omega) ob
  have e2 := fun ob => pushed_s hd h hl hs.units (vs := valsS s) (by omega) ob
  refine def_rt (sl := [some s.d, some (.lst ((valsS s).map D.int)), some d, some (oD ((standS s bs).told)), some (.int s.meant), some (.str s.way.s), some (.int s.units), some (.str s.en.s)]) ?_ rfl
  unfold e_pushed_sending
  have hp : (Tg.tup [.var 4, .var 5, .var 3, .var 6, .var 7]).put s.d [some s.d, some (.lst ((valsS s).map D.int)), some d, none, none, none, none, none] = some [some s.d, some (.lst ((valsS s).map D.int)), some d, some (oD s.told), some (.int s.meant), some (.str s.way.s), some (.int s.units), some (.str s.en.s)] := rfl
  rw [seq_ok (s1 := ⟨[some s.d, some (.lst ((valsS s).map D.int)), some d, some (oD s.told), some (.int s.meant), some (.str s.way.s), some (.int s.units), some (.str s.en.s)], ob⟩) (by simp [hp])]
  cases ht : s.told with
  | none => simp [yesD, isD, oD, standS, ht, line_ok, e1, e2, Snd.d]
  | some t =>
    have e3 := fun ob => pushed_s hd h hl (told_nonneg hs ht) (vs := valsS s) (by omega) ob
    simp [yesD, isD, oD, standS, ht, line_ok, e1, e2, e3, Snd.d]
theorem standing_s {d : D} {bs : List Int} (hd : SeqI d bs) (h : Bds bs) (hl : bs.length ≤ 1000) {s : Snd} (hs : s.Ok) (ob : Obs) : f_standing [s.d, d] ob = .ok (.val (standS s bs).d) ob := by
  have e1 := fun ob => need_bounds_s hd h hl ob
  have e2 := fun ob => values_of_s s ob
  have e3 := fun ob => pushed_sending_s hd h hl hs ob
  refine def_rt (sl := [some s.d, some d]) ?_ rfl
  unfold e_standing
  rw [seq_ok (s1 := ⟨[some s.d, some d], ob⟩) (by simp [is_is_sending, is_sending_s hs])]
  rw [seq_ok (s1 := ⟨[some s.d, some d], ob⟩) (by simp [e1])]
  simp [e2, e3]
theorem is_standing_s {d : D} {bs : List Int} (hd : SeqI d bs) (h : Bds bs) (hl : bs.length ≤ 1000) {s : Snd} (hs : s.Ok) (ob : Obs) : f_is_standing [s.d, d] ob = .ok (.val (.bl (D.eqv (standS s bs).d s.d))) ob := by
  have e1 := fun ob => standing_s hd h hl hs ob
  have ls : ∀ (s : Snd) ob, look ob s.d = s.d := fun _ _ => rfl
  have hq : eqD (standS s bs).d s.d = some (.val (.bl (D.eqv (standS s bs).d s.d))) := eq_ok (by
    have hp : ∀ t : Snd, t.d.plain = true ∧ t.d.depth = 1 := fun t => by
      unfold Snd.d
      cases t.told <;> simp [oD]
    simp [eqOk, hp])
  refine def_rt (sl := [some s.d, some d]) ?_ rfl
  unfold e_is_standing
  simp [is_is_sending, is_sending_s hs, e1, ls, hq]
theorem is_standing_no {d e : D} (hd : d.shp = true) (hs : sndB d = false) (ob : Obs) : f_is_standing [d, e] ob = .ok (.val (.bl false)) ob := by
  refine def_rt (sl := [some d, some e]) ?_ rfl
  unfold e_is_standing
  simp [is_is_sending, is_sending_d hd, hs]
/-! a sending by its parts -/
theorem way_inj {a b : Way} (h : (a.s : Str) = (b.s : Str)) : a = b := by
  cases a <;> cases b <;> first | rfl | (exact absurd h (by decide))
theorem en_inj {a b : En} (h : (a.s : Str) = (b.s : Str)) : a = b := by
  cases a <;> cases b <;> first | rfl | (exact absurd h (by decide))
theorem snd_eqv (s t : Snd) : D.eqv s.d t.d = decide (s = t) := by
  rw [Bool.eq_iff_iff, decide_eq_true_iff]
  constructor
  · intro h
    obtain ⟨m, w, o, u, e⟩ := s
    obtain ⟨m2, w2, o2, u2, e2⟩ := t
    unfold Snd.d at h
    simp only [eqv_tup, eqvs_cons, eqvs_nil, eqv_int, eqv_str, Bool.and_eq_true, beq_iff_eq, and_true] at h
    obtain ⟨h1, h2, h3, h4, h5⟩ := h
    have ho : o = o2 := by
      cases o <;> cases o2 <;> simp [oD] at h3
      · rfl
      · rw [h3]
    rw [h1, way_inj h2, ho, h4, en_inj h5]
  · rintro rfl
    unfold Snd.d
    cases s.told <;> simp [oD]
/-! the law's own standing -/
theorem hasK_get {key : Key} : ∀ {ks vs : List D}, hasK key ks = false → getK ks vs key = none
  | [], vs, _ => by cases vs <;> rfl
  | k :: ks, [], _ => rfl
  | k :: ks, v :: vs, h => by
    unfold hasK at h
    rw [List.any_cons, Bool.or_eq_false_iff] at h
    rw [getK, if_neg (by simpa using h.1)]
    exact hasK_get (by unfold hasK; exact h.2)
theorem getK_app {key : Key} (kd v : D) : ∀ {ks vs : List D}, ks.length = vs.length → getK (ks ++ [kd]) (vs ++ [v]) key = match getK ks vs key with
    | some x => some x
    | none => if keyD kd = some key then some v else none
  | [], [], _ => rfl
  | k :: ks, x :: vs, h => by
    rw [List.cons_append, List.cons_append, getK, getK]
    by_cases hk : keyD k = some key
    · rw [if_pos hk, if_pos hk]
    · rw [if_neg hk, if_neg hk]
      exact getK_app kd v (by simpa using h)
theorem getK_putVs {key key' : Key} (v : D) : ∀ {ks vs : List D}, ks.length = vs.length → getK ks (putVs key v ks vs) key' = if key' = key then (if hasK key ks = true then some v else none) else getK ks vs key'
  | [], [], _ => by unfold putVs; simp [getK, hasK]
  | k :: ks, x :: vs, h => by
    have ih := getK_putVs (key := key) (key' := key') v (ks := ks) (vs := vs) (by simpa using h)
    rw [putVs, getK, getK, ih]
    by_cases e : key' = key
    · subst e
      by_cases hk : keyD k = some key'
      · rw [if_pos hk, if_pos hk, if_pos rfl]
        have : hasK key' (k :: ks) = true := by unfold hasK; simp [hk]
        rw [if_pos this]
      · rw [if_neg hk, if_pos rfl, if_pos rfl]
        have : hasK key' (k :: ks) = hasK key' ks := by unfold hasK; simp [hk]
        rw [this]
    · rw [if_neg e, if_neg e]
      by_cases hk : keyD k = some key'
      · rw [if_pos hk, if_pos hk]
        have : ¬ keyD k = some key := fun z => e (by rw [hk] at z; exact Option.some.inj z)
        rw [if_neg this]
      · rw [if_neg hk, if_neg hk]
theorem putVs_len (key : Key) (v : D) : ∀ {ks vs : List D}, ks.length = vs.length → (putVs key v ks vs).length = vs.length
  | [], [], _ => by unfold putVs; rfl
  | k :: ks, x :: vs, h => by rw [putVs, List.length_cons, List.length_cons, putVs_len key v (by simpa using h)]
structure DI (ks vs : List D) (g : Int → Option Int) : Prop where
  len : ks.length = vs.length
  get : ∀ k : Int, getK ks vs (.inl k) = (g k).map D.int
theorem DI.nil : DI [] [] (fun _ => none) := ⟨rfl, fun _ => rfl⟩
theorem DI.put {ks vs : List D} {g : Int → Option Int} (h : DI ks vs g) (u w : Int) : DI (putD (.inl u) (.int u) (.int w) ks vs).1 (putD (.inl u) (.int u) (.int w) ks vs).2 (fun k => if k = u then some w else g k) ∧ (putD (.inl u) (.int u) (.int w) ks vs).1.length ≤ ks.length + 1 := by
  unfold putD
  cases hh : hasK (.inl u) ks with
  | true =>
    rw [if_pos rfl]
    refine ⟨⟨by rw [putVs_len _ _ h.len]; exact h.len, fun k => ?_⟩, Nat.le_succ _⟩
    rw [getK_putVs _ h.len, hh]
    by_cases e : k = u
    · subst e; simp
    · rw [if_neg (fun z => e (Sum.inl.inj z)), if_neg e]; exact h.get k
  | false =>
    rw [if_neg Bool.false_ne_true]
    refine ⟨⟨by simp [h.len], fun k => ?_⟩, by simp⟩
    rw [getK_app _ _ h.len]
    by_cases e : k = u
    · subst e
      rw [hasK_get hh, if_pos rfl]
      simp [keyD]
    · rw [if_neg e, h.get k]
      cases g k with
      | none =>
        simp only [Option.map_none]
        rw [if_neg (fun z => e (by have := Option.some.inj z; exact (Sum.inl.inj this).symm))]
      | some x => rfl
theorem put_ob {ob : Obs} {ks vs : List D} (u w : Int) (h : ks.length < 16777216) : setO (.ob ob.length) (.int u) (.int w) (ob ++ [some (.dct ks vs)]) = some (ob ++ [some (.dct (putD (.inl u) (.int u) (.int w) ks vs).1 (putD (.inl u) (.int u) (.int w) ks vs).2)]) := by
  have := sizeLine_eq
  have hk : keyD (.int u) = some (.inl u) := rfl
  have hg : (ob ++ [some (Ob.dct ks vs)])[ob.length]? = some (some (.dct ks vs)) := by simp
  unfold setO
  simp only [hg, hk]
  rw [if_pos (by omega)]
  simp
def putsG (low : Int) : Nat → List Int → (Int → Option Int) → Int → Option Int
  | _, [], g => g
  | j, u :: L, g => putsG low (j + 1) L (fun k => if k = u then some (low + 1 + j) else g k)
theorem putsG_is (low : Int) (r : Int → Nat) : ∀ (L : List Int) (j : Nat) (g : Int → Option Int), L.Nodup → (∀ i k, L[i]? = some k → r k = j + i) → ∀ k, putsG low j L g k = if k ∈ L then some (low + 1 + r k) else g k
  | [], j, g, _, _, k => by simp [putsG]
  | u :: L, j, g, hn, hr, k => by
    obtain ⟨h1, h2⟩ := List.nodup_cons.mp hn
    rw [putsG, putsG_is low r L (j + 1) _ h2 (fun i x hx => by rw [hr (i + 1) x (by simpa using hx)]; omega)]
    have hu := hr 0 u (by simp)
    by_cases hk : k ∈ L
    · rw [if_pos hk, if_pos (List.mem_cons_of_mem _ hk)]
    · rw [if_neg hk]
      by_cases e : k = u
      · subst e
        rw [if_pos rfl, if_pos List.mem_cons_self, hu]
        simp
      · rw [if_neg e, if_neg (fun z => (List.mem_cons.mp z).elim e hk)]
theorem inner_go (low : Int) (x0 x1 x2 x4 x5 x6 x7 x8 x10 x11 : Option D) (ob : Obs) : ∀ (L : List Int) (j : Nat) (ks vs : List D) (g : Int → Option Int) (x12 x13 : Option D), DI ks vs g → ks.length + L.length ≤ 10000 →
    ∃ ks' vs' y12 y13, forGo (.tup [.var 12, .var 13]) l__law_standing_0 (enumD j (L.map D.int)) ⟨[x0, x1, x2, some (.ob ob.length), x4, x5, x6, x7, x8, some (.int low), x10, x11, x12, x13], ob ++ [some (.dct ks vs)]⟩ =
      .ok .nx ⟨[x0, x1, x2, some (.ob ob.length), x4, x5, x6, x7, x8, some (.int low), x10, x11, y12, y13], ob ++ [some (.dct ks' vs')]⟩ ∧ DI ks' vs' (putsG low j L g) ∧ ks'.length ≤ ks.length + L.length
  | [], j, ks, vs, g, x12, x13, h, _ => ⟨ks, vs, x12, x13, rfl, h, Nat.le_refl _⟩
  | u :: L, j, ks, vs, g, x12, x13, h, hl => by
    rw [List.length_cons] at hl
    obtain ⟨h1, h2⟩ := h.put u (low + 1 + j)
    obtain ⟨ks', vs', y12, y13, e, h3, h4⟩ := inner_go low x0 x1 x2 x4 x5 x6 x7 x8 x10 x11 ob L (j + 1) _ _ _ (some (.int j)) (some (.int u)) h1 (by omega)
    refine ⟨ks', vs', y12, y13, ?_, h3, by rw [List.length_cons]; omega⟩
    have e1 : ((j : Int) + 1) = ((j + 1 : Nat) : Int) := by omega
    rw [List.map_cons, enumD, for_cons]
    have hp : (Tg.tup [.var 12, .var 13]).put (.tup [.int j, .int u]) [x0, x1, x2, some (.ob ob.length), x4, x5, x6, x7, x8, some (.int low), x10, x11, x12, x13] = some [x0, x1, x2, some (.ob ob.length), x4, x5, x6, x7, x8, some (.int low), x10, x11, some (.int j), some (.int u)] := rfl
    have hb : l__law_standing_0 ⟨[x0, x1, x2, some (.ob ob.length), x4, x5, x6, x7, x8, some (.int low), x10, x11, some (.int j), some (.int u)], ob ++ [some (.dct ks vs)]⟩ = .ok .nx ⟨[x0, x1, x2, some (.ob ob.length), x4, x5, x6, x7, x8, some (.int low), x10, x11, some (.int j), some (.int u)], ob ++ [some (.dct (putD (.inl u) (.int u) (.int (low + 1 + j)) ks vs).1 (putD (.inl u) (.int u) (.int (low + 1 + j)) ks vs).2)]⟩ := by
      have hpo := put_ob (ob := ob) (ks := ks) (vs := vs) u (low + 1 + j) (by omega)
      unfold l__law_standing_0
      simp [hpo]
    simp only [hp, fput_some, hb, bind_ok, fgo_nx, e1, e]
theorem outer_go {vs0 : List Int} (hv : vs0.length ≤ 20) (x0 x1 x4 x5 x6 x7 x8 : Option D) (ob : Obs) : ∀ (ps : List (Int × Int)) (ks vs : List D) (g : Int → Option Int) (x9 x10 x11 x12 x13 : Option D), DI ks vs g → ks.length + 20 * ps.length ≤ 9000 →
    ∃ ks' vs' y9 y10 y11 y12 y13, forGo (.tup [.var 9, .var 10]) l__law_standing_1 (ps.map fun p => .tup [.int p.1, .int p.2]) ⟨[x0, x1, some (.lst (vs0.map D.int)), some (.ob ob.length), x4, x5, x6, x7, x8, x9, x10, x11, x12, x13], ob ++ [some (.dct ks vs)]⟩ =
      .ok .nx ⟨[x0, x1, some (.lst (vs0.map D.int)), some (.ob ob.length), x4, x5, x6, x7, x8, y9, y10, y11, y12, y13], ob ++ [some (.dct ks' vs')]⟩ ∧ DI ks' vs' (ps.foldl (stepG vs0) g)
  | [], ks, vs, g, x9, x10, x11, x12, x13, h, _ => ⟨ks, vs, x9, x10, x11, x12, x13, rfl, h⟩
  | p :: ps, ks, vs, g, x9, x10, x11, x12, x13, h, hl => by
    rw [List.length_cons] at hl
    have hbl : (btw p.1 p.2 vs0).length ≤ 20 := Nat.le_trans (List.length_filter_le _ _) hv
    have hL := sortU_len (btw p.1 p.2 vs0)
    obtain ⟨ks1, vs1, z12, z13, e1, h1, hl1⟩ := inner_go p.1 x0 x1 (some (.lst (vs0.map D.int))) x4 x5 x6 x7 x8 (some (.int p.2)) (some (.lst (uniq (btw p.1 p.2 vs0)))) ob (sortU (btw p.1 p.2 vs0)) 0 ks vs g x12 x13 h (by omega)
    have hg : putsG p.1 0 (sortU (btw p.1 p.2 vs0)) g = stepG vs0 g p := by
      funext k
      rw [putsG_is p.1 (fun k => rk p.1 k vs0) _ 0 g (sortU_nodup _) (fun i k hk => by rw [Nat.zero_add]; exact place_rk hk)]
      simp only [sortU_mem, stepG]
    rw [hg] at h1
    obtain ⟨ks', vs', y9, y10, y11, y12, y13, e2, h2⟩ := outer_go hv x0 x1 x4 x5 x6 x7 x8 ob ps ks1 vs1 _ (some (.int p.1)) (some (.int p.2)) (some (.lst (uniq (btw p.1 p.2 vs0)))) z12 z13 h1 (by omega)
    refine ⟨ks', vs', y9, y10, y11, y12, y13, ?_, h2⟩
    rw [List.map_cons, for_cons]
    have hp : (Tg.tup [.var 9, .var 10]).put (.tup [.int p.1, .int p.2]) [x0, x1, some (.lst (vs0.map D.int)), some (.ob ob.length), x4, x5, x6, x7, x8, x9, x10, x11, x12, x13] = some [x0, x1, some (.lst (vs0.map D.int)), some (.ob ob.length), x4, x5, x6, x7, x8, some (.int p.1), some (.int p.2), x11, x12, x13] := rfl
    have hgo : lcGo (lcTurn (.var 13) (tB (rChain ltD ltD (eVar 9) (eVar 13) (eVar 10))) (lcElt (eVar 13)) [x0, x1, some (.lst (vs0.map D.int)), some (.ob ob.length), x4, x5, x6, x7, x8, some (.int p.1), some (.int p.2), x11, x12, none]) (vs0.map D.int) (ob ++ [some (.dct ks vs)]) = some ((btw p.1 p.2 vs0).map D.int, ob ++ [some (.dct ks vs)]) := by
      rw [lcGo_flat (ob := ob ++ [some (Ob.dct ks vs)]) D.int (fun x => if (decide (p.1 < x) && decide (x < p.2)) = true then [D.int x] else []) vs0 (fun x hx => by
        by_cases h1 : p.1 < x <;> by_cases h2 : x < p.2 <;> simp [lcTurn, lcElt, h1, h2]), flat_if]
      rfl
    have hi : itemsD (.lst (vs0.map D.int)) = some (vs0.map D.int) := rfl
    have hcf := fun st => cfin_ok (ob := ob ++ [some (Ob.dct ks vs)]) (s := st) (l := (btw p.1 p.2 vs0).map D.int) (by rw [List.length_map]; omega)
    have hint : intsOf (.lst ((btw p.1 p.2 vs0).map D.int)) = some (btw p.1 p.2 vs0) := intsD_map _
    have hss := fun st => ssfin_ok (s := st) (ns := btw p.1 p.2 vs0) (by omega)
    have hld : lstD (.lst (uniq (btw p.1 p.2 vs0))) = some (uniq (btw p.1 p.2 vs0)) := rfl
    have hen : enumD 0 (uniq (btw p.1 p.2 vs0)) = enumD ((0 : Nat) : Int) ((sortU (btw p.1 p.2 vs0)).map D.int) := rfl
    have hb : l__law_standing_1 ⟨[x0, x1, some (.lst (vs0.map D.int)), some (.ob ob.length), x4, x5, x6, x7, x8, some (.int p.1), some (.int p.2), x11, x12, x13], ob ++ [some (.dct ks vs)]⟩ = .ok .nx ⟨[x0, x1, some (.lst (vs0.map D.int)), some (.ob ob.length), x4, x5, x6, x7, x8, some (.int p.1), some (.int p.2), some (.lst (uniq (btw p.1 p.2 vs0))), z12, z13], ob ++ [some (.dct ks1 vs1)]⟩ := by
      unfold l__law_standing_1
      rw [seq_ok (s1 := ⟨[x0, x1, some (.lst (vs0.map D.int)), some (.ob ob.length), x4, x5, x6, x7, x8, some (.int p.1), some (.int p.2), some (.lst (uniq (btw p.1 p.2 vs0))), x12, x13], ob ++ [some (.dct ks vs)]⟩) (by
        simp only [ev_set, ev_frz, ev_sortSet, ev_comp, ev_iseq, ev_var, vr_0, vr_1, vr_some, bind_ok, hi, sqo_some, wipeD, List.set_cons_succ, List.set_cons_zero, hgo, hcf, toD_fl, look_lst, hint, hss])]
      simp only [ev_for, ev_ienum, ev_var, vr_0, vr_1, vr_some, bind_ok, hld]
      rw [hen]
      exact e1
    simp only [hp, fput_some, hb, bind_ok, fgo_nx, e2, List.foldl_cons]
theorem zip_pairs (top : Int) : ∀ (r : List Int) (b : Int), (b :: r).zip (r ++ [top]) = pairsB top b r
  | [], b => rfl
  | c :: r, b => by rw [List.cons_append, List.zip_cons_cons, pairsB, zip_pairs top r c]
theorem get_ob {ob : Obs} {ks vs : List D} {g : Int → Option Int} (h : DI ks vs g) (k : Int) : getM (.ob ob.length) [.int k, .int k] (ob ++ [some (.dct ks vs)]) = some (.val (.int ((g k).getD k)), ob ++ [some (.dct ks vs)]) := by
  have hl : look (ob ++ [some (Ob.dct ks vs)]) (.ob ob.length) = .dct ks vs := by simp
  have h2 : getD2 (.dct ks vs) (.int k) (.int k) = some (.int ((g k).getD k)) := by
    show some ((getK ks vs (.inl k)).getD (.int k)) = _
    rw [h.get k]
    cases g k <;> rfl
  unfold getM
  simp only [hl, h2, Option.map_some]
theorem get_non {ob : Obs} {ks vs : List D} : getM (.ob ob.length) [.non, .non] (ob ++ [some (.dct ks vs)]) = some (.val .non, ob ++ [some (.dct ks vs)]) := by
  have hl : look (ob ++ [some (Ob.dct ks vs)]) (.ob ob.length) = .dct ks vs := by simp
  unfold getM
  simp only [hl]
  rfl
theorem ty_obd {ob : Obs} {ks vs : List D} : tyD "dict" (.ob ob.length) (ob ++ [some (.dct ks vs)]) = true := by
  have h : (ob ++ [some (Ob.dct ks vs)])[ob.length]? = some (some (.dct ks vs)) := by simp
  simp only [tyD, h]
  rfl
theorem law_standing_s {bs : List Int} (h : Bds bs) (hl : bs.length ≤ 100) {s : Snd} (hs : s.Ok) (hle : s.Le 1000000000000) (ob : Obs) : f__law_standing [s.d, .lst (bs.map D.int)] ob = .ok (.val (standS s bs).d) ob := by
  have hvl := vals_len s
  have hv := vals_nonneg hs
  have hlt : ∀ x ∈ valsS s, x < 10000000000000 := by
    intro x hx
    rcases List.mem_append.mp hx with hx | hx
    · simp only [List.mem_cons, List.not_mem_nil, or_false] at hx
      rcases hx with rfl | rfl
      · have := hle.meant; omega
      · have := hle.units; omega
    · cases ht : s.told with
      | none => rw [ht] at hx; cases hx
      | some t =>
        rw [ht] at hx
        rw [List.mem_singleton.mp hx]
        have := hle.told t ht; omega
  have hpl : (pairsB 10000000000000 0 bs.tail).length = bs.length := by
    rw [← zip_pairs, List.length_zip]
    obtain ⟨t, rfl⟩ := h.cons
    simp
  obtain ⟨ks, vs, y9, y10, y11, y12, y13, e, hD⟩ := outer_go (vs0 := valsS s) (by omega) (some s.d) (some (.lst (bs.map D.int))) (some (.int s.meant)) (some (.str s.way.s)) (some (oD s.told)) (some (.int s.units)) (some (.str s.en.s)) ob (pairsB 10000000000000 0 bs.tail) [] [] _ none none none none none DI.nil (by simp; omega)
  have hget : ∀ k ∈ valsS s, ∀ ob : Obs, getM (.ob ob.length) [.int k, .int k] (ob ++ [some (.dct ks vs)]) = some (.val (.int (pushI k (valsS s) bs)), ob ++ [some (.dct ks vs)]) := fun k hk ob => by
    rw [get_ob hD k, pairs_push h hk (hv k hk) (hlt k hk)]
    by_cases e : k = lowOf k bs
    · rw [if_pos e]
      unfold pushI
      rw [if_pos e]
      rfl
    · rw [if_neg e]
      rfl
  have hgm := hget s.meant (by unfold valsS; simp) ob
  have hgu := hget s.units (by unfold valsS; simp) ob
  have hz := zipD_ints bs (bs.tail ++ [10000000000000])
  have hzp : bs.zip (bs.tail ++ [10000000000000]) = pairsB 10000000000000 0 bs.tail := by
    obtain ⟨t, rfl⟩ := h.cons
    exact zip_pairs _ t 0
  rw [hzp] at hz
  have hp : (Tg.tup [.var 4, .var 5, .var 6, .var 7, .var 8]).put s.d [some s.d, some (.lst (bs.map D.int)), none, none, none, none, none, none, none, none, none, none, none, none] = some [some s.d, some (.lst (bs.map D.int)), none, none, some (.int s.meant), some (.str s.way.s), some (oD s.told), some (.int s.units), some (.str s.en.s), none, none, none, none, none] := rfl
  have hadd := add_lst (l := (bs.map D.int).tail) (m := [.int 10000000000000]) (by simp; omega)
  have c2 : sliceD (.lst (bs.map D.int)) (some 1) none = some (.fl (bs.map D.int).tail) := by
    show some (Rv.fl (cut (bs.map D.int) (some 1) none)) = _
    rw [cut_tail]
  have hpow : powD (.int 10) (.int 13) = some (.val (.int 10000000000000)) := by rfl
  have hlist : listD [.lst (bs.map D.int).tail] = some (.fl (bs.map D.int).tail) := rfl
  have hz : zipD (bs.map D.int) ((bs.map D.int).tail ++ [.int 10000000000000]) = (pairsB 10000000000000 0 bs.tail).map fun p => .tup [.int p.1, .int p.2] := by
    rw [← hz, ← List.map_tail]
    simp
  refine def_new (sl := [some s.d, some (.lst (bs.map D.int)), some (.lst ((valsS s).map D.int)), some (.ob ob.length), some (.int s.meant), some (.str s.way.s), some (oD s.told), some (.int s.units), some (.str s.en.s), y9, y10, y11, y12, y13]) (t := [some (.dct ks vs)]) ?_ (by
    have h3 : ∀ o : Option Int, (oD o).under ob.length = true := fun o => by cases o <;> rw [oD, D.under]
    simp [Rv.under, Snd.d, D.under, D.unders, h3])
  unfold e__law_standing
  rw [seq_ok (s1 := ⟨[some s.d, some (.lst (bs.map D.int)), none, none, some (.int s.meant), some (.str s.way.s), some (oD s.told), some (.int s.units), some (.str s.en.s), none, none, none, none, none], ob⟩) (by simp [hp])]
  rw [seq_ok (s1 := ⟨[some s.d, some (.lst (bs.map D.int)), some (.lst ((valsS s).map D.int)), none, some (.int s.meant), some (.str s.way.s), some (oD s.told), some (.int s.units), some (.str s.en.s), none, none, none, none, none], ob⟩) (by
    cases ht : s.told with
    | none => 
      have ha := add_lst (l := [.int s.meant, .int s.units]) (m := []) (by simp)
      simp [notD, isD, oD, line_ok, valsS, ha, ht]
    | some t =>
      have ha := add_lst (l := [.int s.meant, .int s.units]) (m := [.int t]) (by simp)
      simp [notD, isD, oD, line_ok, valsS, ha, ht])]
  rw [seq_ok (s1 := ⟨[some s.d, some (.lst (bs.map D.int)), some (.lst ((valsS s).map D.int)), some (.ob ob.length), some (.int s.meant), some (.str s.way.s), some (oD s.told), some (.int s.units), some (.str s.en.s), none, none, none, none, none], ob ++ [some (.dct [] [])]⟩) (by simp)]
  rw [seq_ok (s1 := ⟨[some s.d, some (.lst (bs.map D.int)), some (.lst ((valsS s).map D.int)), some (.ob ob.length), some (.int s.meant), some (.str s.way.s), some (oD s.told), some (.int s.units), some (.str s.en.s), y9, y10, y11, y12, y13], ob ++ [some (.dct ks vs)]⟩) (by
    rw [← e]
    simp [iZipD, c2, hlist, hpow, line_ok, hadd, hz])]
  cases ht : s.told with
  | none => simp [ty_obd, hgm, hgu, get_non, line_ok, standS, ht, Snd.d, oD]
  | some t =>
    have hgt := hget t (by unfold valsS; rw [ht]; simp) ob
    simp [ty_obd, hgm, hgu, hgt, line_ok, standS, ht, Snd.d, oD]
/-! the law's own bounds -/
theorem law_bounds_go (x0 : Option D) (ob : Obs) : ∀ (rs : List Rly) (ns : List Int) (x2 x3 : Option D), ns.length + 2 * rs.length ≤ 100000 → ∃ y2 y3, forGo (.var 2) l__law_bounds_0 (rs.map Rly.d) ⟨[x0, some (.lst (ns.map D.int)), x2, x3], ob⟩ = .ok .nx ⟨[x0, some (.lst ((ns ++ Ch.numsS rs).map D.int)), y2, y3], ob⟩
  | [], ns, x2, x3, _ => ⟨x2, x3, by simp [Ch.numsS, for_nil]⟩
  | r :: rs, ns, x2, x3, h => by
    rw [List.length_cons] at h
    have hrl : (r.hold.toList ++ r.lim.toList).length ≤ 2 := by cases r.hold <;> cases r.lim <;> simp
    obtain ⟨y2, y3, e⟩ := law_bounds_go x0 ob rs (ns ++ (r.hold.toList ++ r.lim.toList)) (some r.d) x3 (by rw [List.length_append]; omega)
    refine ⟨y2, y3, ?_⟩
    rw [List.map_cons, for_cons]
    have hr : ∀ ob, look ob r.d = r.d := fun _ => rfl
    have hi : ∀ l : List D, itemsD (.tup l) = some l := fun _ => rfl
    have hg : lcGo (lcTurn (.var 3) (tB (rOp (notD isD) (eVar 3) (eC .non))) (lcElt (eVar 3)) [x0, some (.lst (ns.map D.int)), some r.d, none]) [oD r.hold, oD r.lim] ob = some ((r.hold.toList ++ r.lim.toList).map D.int, ob) := by
      cases r.hold <;> cases r.lim <;> simp [lcTurn, lcGo, lcElt, oD, notD, isD]
    have hadd := add_lst (l := ns.map D.int) (m := (r.hold.toList ++ r.lim.toList).map D.int) (by rw [List.length_map, List.length_map]; omega)
    have hcf := fun st => cfin_ok (ob := ob) (s := st) (l := (r.hold.toList ++ r.lim.toList).map D.int) (by rw [List.length_map]; omega)
    have hb : l__law_bounds_0 ⟨[x0, some (.lst (ns.map D.int)), some r.d, x3], ob⟩ = .ok .nx ⟨[x0, some (.lst ((ns ++ (r.hold.toList ++ r.lim.toList)).map D.int)), some r.d, x3], ob⟩ := by
      unfold l__law_bounds_0
      have hc2 : rComp [3] (iSeq (eTup (aCons (eFrz (rOp ixD (eVar 2) (eC (.int 0)))) (aCons (eFrz (rOp ixD (eVar 2) (eC (.int 6)))) (aNil))))) (.var 3) (tB (rOp (notD isD) (eVar 3) (eC .non))) (eVar 3) ⟨[x0, some (.lst (ns.map D.int)), some r.d, x3], ob⟩ = .ok (.fl ((r.hold.toList ++ r.lim.toList).map D.int)) ⟨[x0, some (.lst (ns.map D.int)), some r.d, x3], ob⟩ := by
        rw [ev_comp]
        have : iSeq (eTup (aCons (eFrz (rOp ixD (eVar 2) (eC (.int 0)))) (aCons (eFrz (rOp ixD (eVar 2) (eC (.int 6)))) (aNil)))) ⟨[x0, some (.lst (ns.map D.int)), some r.d, x3], ob⟩ = .ok [oD r.hold, oD r.lim] ⟨[x0, some (.lst (ns.map D.int)), some r.d, x3], ob⟩ := by simp [hr, line_ok, hi]
        rw [this, bind_ok]
        have hw : wipeD [x0, some (.lst (ns.map D.int)), some r.d, x3] [3] = [x0, some (.lst (ns.map D.int)), some r.d, none] := rfl
        rw [hw, hg, hcf]
      rw [ev_set, ev_frz, ev_op]
      simp only [ev_var, vr_0, vr_1, vr_some, bind_ok, ev_frz, hc2, toD_fl, look_lst, hadd, opt_some, List.set_cons_succ, List.set_cons_zero]
      rw [← List.map_append]
    have hp : (Tg.var 2).put r.d [x0, some (.lst (ns.map D.int)), x2, x3] = some [x0, some (.lst (ns.map D.int)), some r.d, x3] := rfl
    have hn : Ch.numsS (r :: rs) = (r.hold.toList ++ r.lim.toList) ++ Ch.numsS rs := by unfold Ch.numsS; rw [List.flatMap_cons]
    rw [hn, ← List.append_assoc]
    simp only [hp, fput_some, hb, bind_ok, fgo_nx, e]
theorem law_bounds_s {rs : List Rly} (hn : rs.length ≤ 30) (ob : Obs) : f__law_bounds [Ch.chD rs] ob = .ok (.fl (uniq (0 :: Ch.numsS rs))) ob := by
  obtain ⟨y2, y3, e⟩ := law_bounds_go (some (Ch.chD rs)) ob rs [0] none none (by simp; omega)
  have hl := Ch.nums_len rs
  have hi : itemsD (Ch.chD rs) = some (rs.map Rly.d) := rfl
  have hint : intsOf (.lst (([0] ++ Ch.numsS rs).map D.int)) = some ([0] ++ Ch.numsS rs) := intsD_map _
  have hss := fun st => ssfin_ok (s := st) (ns := [0] ++ Ch.numsS rs) (by simp; omega)
  refine def_rt (sl := [some (Ch.chD rs), some (.lst (([0] ++ Ch.numsS rs).map D.int)), y2, y3]) ?_ rfl
  unfold e__law_bounds
  rw [seq_ok (s1 := ⟨[some (Ch.chD rs), some (.lst ([0].map D.int)), none, none], ob⟩) (by simp [line_ok])]
  rw [seq_ok (s1 := ⟨[some (Ch.chD rs), some (.lst (([0] ++ Ch.numsS rs).map D.int)), y2, y3], ob⟩) (by
    rw [← e]
    simp only [ev_for, ev_iseq, ev_var, vr_0, vr_some, bind_ok, hi, sqo_some])]
  simp only [ev_ret, ev_sortSet, ev_var, vr_0, vr_1, vr_some, bind_ok, look_lst, hint, hss]
  rfl
end Bn
end Cut
end
section
namespace Cut
open PySem PySem.Spec PyProof.Rows L2
namespace DrawM
noncomputable def l__law_mixed_0 : SM :=
  sSet 3 (eFrz (rOp modD (eFrz (rB intD (aCons (eFrz (rOp addD (eFrz (rOp addD (eFrz (rOp addD (eFrz (rOp mulD (eVar 3) (eVar 3))) (eFrz (rOp mulD (eC (.int 29)) (eVar 3))))) (eFrz (rOp mulD (eC (.int 4001)) (eVar 4))))) (eVar 1))) (aNil)))) (eVar 2)))
noncomputable def e__law_mixed : SM :=
  sSeq (sSet 2 (eC (.int 2305843009213693951))) <|
  sSeq (sSet 3 (eFrz (rOp modD (eFrz (rB intD (aCons (eFrz (rOp addD (eFrz (rOp addD (eFrz (rOp mulD (eVar 0) (eC (.int 1181783497276652981)))) (eFrz (rOp mulD (eVar 1) (eC (.int 2685821657736338717)))))) (eC (.int 41)))) (aNil)))) (eVar 2)))) <|
  sSeq (sFor (iRange1 (eC (.int 4))) (.var 4) l__law_mixed_0) <|
  sRet (rOp addD (eFrz (rOp mulD (eVar 3) (eVar 2))) (eFrz (rOp modD (eFrz (rB intD (aCons (eFrz (rOp addD (eFrz (rOp mulD (eVar 3) (eC (.int 48271)))) (eVar 1))) (aNil)))) (eVar 2))))
noncomputable def f__law_mixed : FM := evDef 3 e__law_mixed
noncomputable def l__law_deck_of_0 : SM :=
  sPut (eVar 1) (eFrz (rOp modD (eVar 2) (eC (.int 16)))) (eFrz (rOp addD (eFrz (rOp ixD (eVar 1) (eFrz (rOp modD (eVar 2) (eC (.int 16)))))) (eFrz (rB absD (aCons (eVar 3) (aNil))))))
noncomputable def e__law_deck_of : SM :=
  sSeq (sSet 1 (eOwn (rComp [3] (iSeq (eFrz (rSlice (eVar 0) (oNone) (oSome (eC (.int 16)))))) (.var 3) (tTrue) (eFrz (rB absD (aCons (eVar 3) (aNil))))))) <|
  sSeq (sFor (iEnumD (eFrz (rSlice (eVar 0) (oSome (eC (.int 16))) (oSome (eC (.int 63)))))) (.tup [.var 2, .var 3]) l__law_deck_of_0) <|
  sRet (rLst (aCons (eFz (eVar 1)) (aCons (eC (.int 0)) (aCons (eC (.int 0)) (aCons (eC (.int 0)) (aNil))))))
noncomputable def f__law_deck_of : FM := evDef 3 e__law_deck_of
noncomputable def e__law_below : SM :=
  sSeq (sIf (tB (rOp ltD (eFrz (rOp ixD (eVar 0) (eC (.int 3)))) (eVar 1))) (sSeq (sPar 4 5 (eFrz (rOp ixD (eVar 0) (eC (.int 0)))) (eFrz (rOp ixD (eVar 0) (eC (.int 1))))) <|
  sSeq (sSet 3 (eFrz (rIf (tB (rOp neD (eVar 4) (eFrz (rLst (aNil))))) (rOp ixD (eVar 4) (eFrz (rOp modD (eFrz (rB intD (aCons (eVar 5) (aNil)))) (eFrz (rB lenD (aCons (eVar 4) (aNil))))))) (rVal (eC (.int 0)))))) <|
  sSeq (sIf (tOr2 (tB (rOp geD (eVar 5) (eFrz (rB lenD (aCons (eVar 4) (aNil)))))) (tB (rOp ltD (eVar 3) (eFrz (rOp powD (eC (.int 10)) (eC (.int 16))))))) (sSet 3 (eFrz (rCall f__law_mixed (aCons (eFrz (rOp modD (eFrz (rB intD (aCons (eVar 3) (aNil)))) (eC (.int 998244353)))) (aCons (eVar 5) (aNil)))))) (sPass)) <|
  sSeq (sPut (eVar 0) (eC (.int 1)) (eFrz (rOp addD (eVar 5) (eC (.int 1))))) <|
  sSeq (sPut (eVar 0) (eC (.int 2)) (eVar 3)) <|
  sPut (eVar 0) (eC (.int 3)) (eVar 3)) (sPass)) <|
  sSeq (sSet 2 (eFrz (rOp modD (eFrz (rB intD (aCons (eFrz (rOp ixD (eVar 0) (eC (.int 2)))) (aNil)))) (eVar 1)))) <|
  sSeq (sPut (eVar 0) (eC (.int 2)) (eFrz (rOp fdivD (eFrz (rOp ixD (eVar 0) (eC (.int 2)))) (eVar 1)))) <|
  sSeq (sPut (eVar 0) (eC (.int 3)) (eFrz (rOp fdivD (eFrz (rOp ixD (eVar 0) (eC (.int 3)))) (eVar 1)))) <|
  sRet (rVal (eVar 2))
noncomputable def f__law_below : FM := evDef 4 e__law_below
noncomputable def e__law_pick : SM :=
  sRet (rOp ixD (eVar 1) (eFrz (rCall f__law_below (aCons (eVar 0) (aCons (eFrz (rB lenD (aCons (eVar 1) (aNil)))) (aNil))))))
noncomputable def f__law_pick : FM := evDef 0 e__law_pick
end DrawM
end Cut
end
section
/-! CutDrawM: what the draws of the other laws give. -/
namespace Cut
open PySem PySem.Spec PyProof.Rows L2
namespace DrawM
open Draw (Pot Pot.mono enum_ints at_ at_get at_set at4_0 at4_1 at4_2 at4_3 ix4_1 ix4_2 ix4_3)
theorem mix_turn (ob : Obs) (a b : Int) (h3 : 0 ≤ b) (h4 : b < 2 ^ 60) (ds : List D) (x i : Int) (y : Option D) (hx1 : 0 ≤ x) (hx2 : x < 2 ^ 70) (hi1 : 0 ≤ i) (hi2 : i < 10) : ∃ x', (0 ≤ x' ∧ x' < 2 ^ 70) ∧
    forGo (.var 4) l__law_mixed_0 (.int i :: ds) ⟨[some (.int a), some (.int b), some (.int 2305843009213693951), some (.int x), y], ob⟩ =
      forGo (.var 4) l__law_mixed_0 ds ⟨[some (.int a), some (.int b), some (.int 2305843009213693951), some (.int x'), some (.int i)], ob⟩ := by
  refine ⟨(x * x + 29 * x + 4001 * i + b) % 2305843009213693951, by omega, ?_⟩
  rw [for_cons]
  unfold l__law_mixed_0
  simp (disch := omega)
theorem mixed (ob : Obs) (a b : Int) (h1 : 0 ≤ a) (h2 : a < 2 ^ 40) (h3 : 0 ≤ b) (h4 : b < 2 ^ 60) : ∃ v, f__law_mixed [.int a, .int b] ob = .ok (.val (.int v)) ob := by
  obtain ⟨x1, ⟨p1, q1⟩, e1⟩ := mix_turn ob a b h3 h4 [.int 1, .int 2, .int 3] ((a * 1181783497276652981 + b * 2685821657736338717 + 41) % 2305843009213693951) 0 none (by omega) (by omega) (by omega) (by omega)
  obtain ⟨x2, ⟨p2, q2⟩, e2⟩ := mix_turn ob a b h3 h4 [.int 2, .int 3] x1 1 (some (.int 0)) p1 q1 (by omega) (by omega)
  obtain ⟨x3, ⟨p3, q3⟩, e3⟩ := mix_turn ob a b h3 h4 [.int 3] x2 2 (some (.int 1)) p2 q2 (by omega) (by omega)
  obtain ⟨x4, ⟨p4, q4⟩, e4⟩ := mix_turn ob a b h3 h4 [] x3 3 (some (.int 2)) p3 q3 (by omega) (by omega)
  refine ⟨x4 * 2305843009213693951 + (x4 * 48271 + b) % 2305843009213693951, ?_⟩
  unfold f__law_mixed evDef e__law_mixed
  have r4 : rangeD 0 4 = [.int 0, .int 1, .int 2, .int 3] := rfl
  simp (disch := omega) [List.replicate, r4, e1, e2, e3, e4, for_nil]
  simp [leave]
theorem deck_of (ob : Obs) (ns : List Int) (hn : ns.length ≤ 63) : ∃ p, f__law_deck_of [.scr (ns.map D.int)] ob = .ok (.fl p) ob ∧ Pot 0 p := by
  let cells0 : List Int := (ns.take 16).map fun i => if i < 0 then -i else i
  have hc : lcGo (lcTurn (.var 3) tTrue (lcElt (eFrz (rB absD (aCons (eVar 3) aNil)))) (wipeD [some (.scr (ns.map D.int)), none, none, none] [3])) ((ns.take 16).map D.int) ob = some (cells0.map D.int, ob) := by
    have hh := lcGo_map (step := lcTurn (.var 3) tTrue (lcElt (eFrz (rB absD (aCons (eVar 3) aNil)))) (wipeD [some (.scr (ns.map D.int)), none, none, none] [3])) (ob := ob) (ds := (ns.take 16).map D.int)
      (h := fun d => match d with | .int i => .int (if i < 0 then -i else i) | d => d) (fun d hd => by
        obtain ⟨i, _, rfl⟩ := List.mem_map.mp hd
        simp [lcTurn, lcElt, tTrue, wipeD])
    rw [hh, List.map_map]
    show some ((ns.take 16).map _, ob) = some (((ns.take 16).map _).map _, ob)
    rw [List.map_map]
    rfl
  have hlen : (cells0.map D.int).length ≤ 16777216 := by simp only [cells0, List.length_map, List.length_take]; omega
  obtain ⟨s1, hl, ⟨cells, y, z, hcl, hs1⟩⟩ := for_all (t := .tup [.var 2, .var 3]) (fs := l__law_deck_of_0)
    (fun _ s => ∃ (cells : List Int) (y z : Option D), cells.length = min 16 ns.length ∧ s = ⟨[some (.scr (ns.map D.int)), some (.ob ob.length), y, z], ob ++ [some (.lst (cells.map D.int))]⟩)
    (enumD 0 ((cut ns (some ((16 : Nat) : Int)) (some ((63 : Nat) : Int))).map D.int)) 0 ⟨[some (.scr (ns.map D.int)), some (.ob ob.length), none, none], ob ++ [some (.lst (cells0.map D.int))]⟩
    ⟨cells0, none, none, by simp [cells0], rfl⟩ (by
      rintro i d s hd ⟨cells, y, z, hcl, rfl⟩
      obtain ⟨m, hm, rfl⟩ := enum_ints _ _ _ _ hd
      have h16 : 16 < ns.length := cut_fr (hi := some ((63 : Nat) : Int)) (fun e => by rw [e] at hm; cases hm)
      have hcl : cells.length = 16 := by omega
      refine ⟨[some (.scr (ns.map D.int)), some (.ob ob.length), some (.int (0 + i)), some (.int m)], by simp [Tg.put, Tg.puts, seqD], ?_⟩
      have hb : ((0 + (i : Int)) % 16).toNat < cells.length := by omega
      have h1 : atI (cells.map D.int) ((0 + (i : Int)) % 16) = some (.int cells[((0 + (i : Int)) % 16).toNat]) := atI_ok (by omega) (by rw [List.getElem?_map, List.getElem?_eq_getElem hb]; rfl)
      have h2 : ixN (cells.map D.int).length ((0 + (i : Int)) % 16) = some ((0 + (i : Int)) % 16).toNat := ixN_ok ⟨by omega, by rw [List.length_map]; omega⟩
      refine ⟨_, .inl ?_, cells.set ((0 + (i : Int)) % 16).toNat (cells[((0 + (i : Int)) % 16).toNat] + (if m < 0 then -m else m)), some (.int (0 + i)), some (.int m), by rw [List.length_set]; omega, rfl⟩
      unfold l__law_deck_of_0
      simp only [ev_put, ev_frz, ev_op, ev_var, vr_1, vr_0, vr_some, bind_ok, ev_C, look_int, mod_int (show (0 : Int) < 16 by omega), opt_some, toD_val, look_ob, ob_last, lk_lst, ixD, h1, Option.map_some, ev_b, ev_cons, ev_nil, List.map_cons, List.map_nil, abs_int, add_int]
      simp only [setO, ob_last, h2, Option.map_some, ob_setl, put_some, List.map_set])
  refine ⟨[.lst (cells.map D.int), .int 0, .int 0, .int 0], ?_, cells, 0, 0, 0, rfl, by omega, by omega, by omega⟩
  have e16 : cut ns none (some 16) = ns.take 16 := cut_to ns 16
  unfold f__law_deck_of evDef e__law_deck_of
  simp only [List.map_cons, List.map_nil, List.replicate, List.cons_append, List.nil_append, ev_seq, ev_set, ev_own, ev_comp, ev_iseq, ev_frz, ev_slice, ev_var, vr_0, vr_some, bind_ok, ev_oN, ev_oS, ev_C, look_scr, sliceD, opt_some, toD_fl, itemsD, sqo_some, cut_map, e16, hc, cfin_ok hlen, List.set_cons_succ, List.set_cons_zero, go_nx, ev_for, ev_ienum, lstD]
  have hl' : forGo (.tup [.var 2, .var 3]) l__law_deck_of_0 (enumD 0 (List.map D.int (cut ns (some 16) (some 63)))) ⟨[some (.scr (ns.map D.int)), some (.ob ob.length), none, none], ob ++ [some (.lst (cells0.map D.int))]⟩ = .ok .nx s1 := hl
  simp only [hl', bind_ok, go_nx, hs1, ev_ret, ev_lst, ev_cons, eFz, ev_var, vr_1, vr_0, vr_some, ob_last, ob_setl, ev_C, ev_nil, List.length_cons, List.length_nil, line_ok (show 0 + 1 + 1 + 1 + 1 ≤ 16777216 by omega), if_true]
  unfold leave
  rw [if_neg (by simp), if_pos]
  · simp
  · refine ⟨?_, .inl (by simp)⟩
    simp [Rv.under, D.unders, D.under, unders_ints]
section
variable {x0 x1 x2 x3 v : D}
end
theorem below_rest {ob : Obs} {n : Nat} (hn : n < ob.length) (b : Int) (hb : 0 < b) (hb2 : b ≤ 1606938044258990275541962092341162602522202993782792835301376) (L : D) (pl a left : Int) (y3 y4 y5 : Option D) :
    (sSeq (sSet 2 (eFrz (rOp modD (eFrz (rB intD (aCons (eFrz (rOp ixD (eVar 0) (eC (.int 2)))) (aNil)))) (eVar 1)))) <|
      sSeq (sPut (eVar 0) (eC (.int 2)) (eFrz (rOp fdivD (eFrz (rOp ixD (eVar 0) (eC (.int 2)))) (eVar 1)))) <|
      sSeq (sPut (eVar 0) (eC (.int 3)) (eFrz (rOp fdivD (eFrz (rOp ixD (eVar 0) (eC (.int 3)))) (eVar 1)))) <| sRet (rVal (eVar 2)))
      ⟨[some (.ob n), some (.int b), none, y3, y4, y5], at_ ob n [L, .int pl, .int a, .int left]⟩ =
    .ok (.rt (.val (.int (a % b)))) ⟨[some (.ob n), some (.int b), some (.int (a % b)), y3, y4, y5], at_ ob n [L, .int pl, .int (a / b), .int (left / b)]⟩ := by
  simp only [ev_seq, ev_set, ev_put, ev_frz, ev_op, ev_b, ev_cons, ev_nil, ev_var, vr_0, vr_1, vr_some, ev_C, bind_ok, look_ob, at_get hn, lk_lst, look_int, ixD, at4_2, at4_3, Option.map_some, opt_some, toD_val, List.map_cons, List.map_nil, int_int, mod_int hb, fdiv_int ⟨hb, hb2⟩,
    List.set_cons_zero, List.set_cons_succ, go_nx, setO, ix4_2, ix4_3, at_set, put_some, ev_ret, ev_val]
theorem below_fill {ob : Obs} {n : Nat} (hn : n < ob.length) {b : Int} {L : D} {place a left m m' : Int} {A B : SM} (hl : left < b)
    (hA : A ⟨[some (.ob n), some (.int b), none, none, some L, some (.int place)], at_ ob n [L, .int place, .int a, .int left]⟩ = .ok .nx ⟨[some (.ob n), some (.int b), none, some (.int m), some L, some (.int place)], at_ ob n [L, .int place, .int a, .int left]⟩)
    (hB : B ⟨[some (.ob n), some (.int b), none, some (.int m), some L, some (.int place)], at_ ob n [L, .int place, .int a, .int left]⟩ = .ok .nx ⟨[some (.ob n), some (.int b), none, some (.int m'), some L, some (.int place)], at_ ob n [L, .int place, .int a, .int left]⟩) :
    (sIf (tB (rOp ltD (eFrz (rOp ixD (eVar 0) (eC (.int 3)))) (eVar 1))) (sSeq (sPar 4 5 (eFrz (rOp ixD (eVar 0) (eC (.int 0)))) (eFrz (rOp ixD (eVar 0) (eC (.int 1))))) <| sSeq A <| sSeq B <|
        sSeq (sPut (eVar 0) (eC (.int 1)) (eFrz (rOp addD (eVar 5) (eC (.int 1))))) <|
        sSeq (sPut (eVar 0) (eC (.int 2)) (eVar 3)) <| sPut (eVar 0) (eC (.int 3)) (eVar 3)) (sPass))
        ⟨[some (.ob n), some (.int b), none, none, none, none], at_ ob n [L, .int place, .int a, .int left]⟩ =
      .ok .nx ⟨[some (.ob n), some (.int b), none, some (.int m'), some L, some (.int place)], at_ ob n [L, .int (place + 1), .int m', .int m']⟩ := by
  have hlt : decide (left < b) = true := decide_eq_true hl
  simp only [ev_if, ev_tB, ev_op, ev_frz, ev_var, vr_0, vr_1, vr_some, bind_ok, ev_C, look_ob, at_get hn, lk_lst, look_int, ixD, at4_3, at4_0, at4_1, Option.map_some, opt_some, toD_val, lt_int, tbo_bl, hlt, if_true, ev_seq, ev_par, List.set_cons_succ, List.set_cons_zero, go_nx, hA, hB,
    ev_put, add_int, setO, ix4_1, ix4_2, ix4_3, at_set, put_some]
theorem below {ob : Obs} {n k : Nat} (hn : n < ob.length) {p : List D} (hp : Pot k p) (hk : k < 2 ^ 59) {b : Int} (hb : 0 < b) (hb2 : b ≤ 1606938044258990275541962092341162602522202993782792835301376) :
    ∃ r p', f__law_below [.ob n, .int b] (at_ ob n p) = .ok (.val (.int r)) (at_ ob n p') ∧ (0 ≤ r ∧ r < b) ∧ Pot (k + 1) p' := by
  obtain ⟨cells, place, a, left, rfl, hp1, hp2, hc⟩ := hp
  -- the refill
  have fill : ∃ pl a' left' y3 y4 y5, (0 ≤ pl ∧ pl ≤ (k : Int) + 1) ∧
      (sIf (tB (rOp ltD (eFrz (rOp ixD (eVar 0) (eC (.int 3)))) (eVar 1))) (sSeq (sPar 4 5 (eFrz (rOp ixD (eVar 0) (eC (.int 0)))) (eFrz (rOp ixD (eVar 0) (eC (.int 1))))) <|
        sSeq (sSet 3 (eFrz (rIf (tB (rOp neD (eVar 4) (eFrz (rLst (aNil))))) (rOp ixD (eVar 4) (eFrz (rOp modD (eFrz (rB intD (aCons (eVar 5) (aNil)))) (eFrz (rB lenD (aCons (eVar 4) (aNil))))))) (rVal (eC (.int 0)))))) <|
        sSeq (sIf (tOr2 (tB (rOp geD (eVar 5) (eFrz (rB lenD (aCons (eVar 4) (aNil)))))) (tB (rOp ltD (eVar 3) (eFrz (rOp powD (eC (.int 10)) (eC (.int 16))))))) (sSet 3 (eFrz (rCall f__law_mixed (aCons (eFrz (rOp modD (eFrz (rB intD (aCons (eVar 3) (aNil)))) (eC (.int 998244353)))) (aCons (eVar 5) (aNil)))))) (sPass)) <|
        sSeq (sPut (eVar 0) (eC (.int 1)) (eFrz (rOp addD (eVar 5) (eC (.int 1))))) <|
        sSeq (sPut (eVar 0) (eC (.int 2)) (eVar 3)) <| sPut (eVar 0) (eC (.int 3)) (eVar 3)) (sPass))
        ⟨[some (.ob n), some (.int b), none, none, none, none], at_ ob n [.lst (cells.map D.int), .int place, .int a, .int left]⟩ =
      .ok .nx ⟨[some (.ob n), some (.int b), none, y3, y4, y5], at_ ob n [.lst (cells.map D.int), .int pl, .int a', .int left']⟩ := by
    by_cases hl : left < b
    · -- the amount from the cells
      have amt : ∃ m, (sSet 3 (eFrz (rIf (tB (rOp neD (eVar 4) (eFrz (rLst (aNil))))) (rOp ixD (eVar 4) (eFrz (rOp modD (eFrz (rB intD (aCons (eVar 5) (aNil)))) (eFrz (rB lenD (aCons (eVar 4) (aNil))))))) (rVal (eC (.int 0))))))
          ⟨[some (.ob n), some (.int b), none, none, some (.lst (cells.map D.int)), some (.int place)], at_ ob n [.lst (cells.map D.int), .int place, .int a, .int left]⟩ =
          .ok .nx ⟨[some (.ob n), some (.int b), none, some (.int m), some (.lst (cells.map D.int)), some (.int place)], at_ ob n [.lst (cells.map D.int), .int place, .int a, .int left]⟩ := by
        have heq : eqOk (.lst (cells.map D.int)) (.lst []) = true := by simp [eqOk, plains_ints]
        cases cells with
        | nil =>
          refine ⟨0, ?_⟩
          simp [ne_ok, eqOk, line_ok]
        | cons c cs =>
          have hb3 : (place % ((c :: cs).length : Int)).toNat < (c :: cs).length := by
            have h1 := Int.emod_nonneg place (b := ((c :: cs).length : Int)) (by simp only [List.length_cons]; omega)
            have h2 := Int.emod_lt_of_pos place (b := ((c :: cs).length : Int)) (by simp only [List.length_cons]; omega)
            omega
          have h1 : atI ((c :: cs).map D.int) (place % ((c :: cs).length : Int)) = some (.int (c :: cs)[(place % ((c :: cs).length : Int)).toNat]) :=
            atI_ok (Int.emod_nonneg _ (by simp only [List.length_cons]; omega)) (by rw [List.getElem?_map, List.getElem?_eq_getElem hb3]; rfl)
          refine ⟨(c :: cs)[(place % ((c :: cs).length : Int)).toNat], ?_⟩
          have hlen : lenD [.lst ((c :: cs).map D.int)] = some (.val (.int ((c :: cs).length : Int))) := by
            show some (Rv.val (.int (((c :: cs).map D.int).length : Int))) = _
            rw [List.length_map]
          have hlp : (0 : Int) < ((c :: cs).length : Int) := by simp only [List.length_cons]; omega
          have hne : neD (.lst ((c :: cs).map D.int)) (.lst []) = some (.val (.bl true)) := by rw [ne_ok heq]; simp
          generalize (c :: cs).map D.int = L at h1 hlen hne
          generalize (c :: cs)[(place % ((c :: cs).length : Int)).toNat] = mm at h1 ⊢
          generalize ((c :: cs).length : Int) = q at h1 hlen hlp
          simp only [ev_set, ev_frz, ev_rif, ev_tB, ev_op, ev_var, vr_0, vr_1, vr_some, bind_ok, ev_lst, ev_nil, List.length_nil, line_ok (show 0 ≤ 16777216 by omega), if_true, toD_fl, look_lst, hne, opt_some, tbo_bl, List.map_cons, ev_b, ev_cons, List.map_nil, hlen, toD_val, look_int, int_int, mod_int hlp, ixD, h1, Option.map_some, List.set_cons_succ, List.set_cons_zero]
      obtain ⟨m, amt⟩ := amt
      have hlen : lenD [.lst (cells.map D.int)] = some (.val (.int (cells.length : Int))) := by
        show some (Rv.val (.int ((cells.map D.int).length : Int))) = _
        rw [List.length_map]
      have p16 : powD (.int 10) (.int 16) = some (.val (.int 10000000000000000)) := by simp [powD]
      -- perhaps mixed
      have kn : ∃ m', (sIf (tOr2 (tB (rOp geD (eVar 5) (eFrz (rB lenD (aCons (eVar 4) (aNil)))))) (tB (rOp ltD (eVar 3) (eFrz (rOp powD (eC (.int 10)) (eC (.int 16))))))) (sSet 3 (eFrz (rCall f__law_mixed (aCons (eFrz (rOp modD (eFrz (rB intD (aCons (eVar 3) (aNil)))) (eC (.int 998244353)))) (aCons (eVar 5) (aNil)))))) (sPass))
          ⟨[some (.ob n), some (.int b), none, some (.int m), some (.lst (cells.map D.int)), some (.int place)], at_ ob n [.lst (cells.map D.int), .int place, .int a, .int left]⟩ =
          .ok .nx ⟨[some (.ob n), some (.int b), none, some (.int m'), some (.lst (cells.map D.int)), some (.int place)], at_ ob n [.lst (cells.map D.int), .int place, .int a, .int left]⟩ := by
        obtain ⟨v, hv⟩ := mixed (at_ ob n [.lst (cells.map D.int), .int place, .int a, .int left]) (m % 998244353) place (by omega) (by omega) hp1 (by omega)
        by_cases h1 : (cells.length : Int) ≤ place
        · refine ⟨v, ?_⟩
          simp [tOr2, hlen, h1, hv]
        · by_cases h2 : m < 10000000000000000
          · refine ⟨v, ?_⟩
            simp [tOr2, hlen, h1, h2, hv, p16]
          · refine ⟨m, ?_⟩
            simp [tOr2, hlen, h1, h2, p16]
      obtain ⟨m', kn⟩ := kn
      refine ⟨place + 1, m', m', some (.int m'), some (.lst (cells.map D.int)), some (.int place), by omega, ?_⟩
      exact below_fill hn hl amt kn
    · refine ⟨place, a, left, none, none, none, by omega, ?_⟩
      have hlt : decide (left < b) = false := decide_eq_false hl
      simp only [ev_if, ev_tB, ev_op, ev_frz, ev_var, vr_0, vr_1, vr_some, bind_ok, ev_C, look_ob, at_get hn, lk_lst, look_int, ixD, at4_3, Option.map_some, opt_some, toD_val, lt_int, tbo_bl, hlt, Bool.false_eq_true, if_false, ev_pass]
  obtain ⟨pl, a', left', y3, y4, y5, hpl, hf⟩ := fill
  refine ⟨a' % b, [.lst (cells.map D.int), .int pl, .int (a' / b), .int (left' / b)], ?_, ⟨Int.emod_nonneg _ (by omega), Int.emod_lt_of_pos _ hb⟩, cells, pl, _, _, rfl, hpl.1, by push_cast; exact hpl.2, hc⟩
  unfold f__law_below evDef
  have he : e__law_below ⟨[.ob n, .int b].map some ++ List.replicate 4 none, at_ ob n [.lst (cells.map D.int), .int place, .int a, .int left]⟩ = .ok (.rt (.val (.int (a' % b)))) ⟨[some (.ob n), some (.int b), some (.int (a' % b)), y3, y4, y5], at_ ob n [.lst (cells.map D.int), .int pl, .int (a' / b), .int (left' / b)]⟩ := by
    unfold e__law_below
    rw [ev_seq]
    show Out.bind (sIf _ _ _ ⟨[some (.ob n), some (.int b), none, none, none, none], _⟩) _ = _
    rw [hf, bind_ok, go_nx]
    exact below_rest hn b hb hb2 _ _ _ _ _ _ _
  rw [he]
  simp [leave]
theorem pick_gen {ob : Obs} {n k : Nat} (hn : n < ob.length) {p : List D} (hp : Pot k p) (hk : k < 2 ^ 59) {items : List D} (h0 : items ≠ []) (hl : items.length < 2 ^ 60) {I : D} (h1 : ∀ ob, look ob I = I) (h2 : lenD [I] = some (.val (.int items.length))) (h3 : ∀ i, ixD I (.int i) = (atI items i).map .val) :
    ∃ x p', x ∈ items ∧ f__law_pick [.ob n, I] (at_ ob n p) = .ok (.val x) (at_ ob n p') ∧ Pot (k + 1) p' := by
  have hpos : 0 < items.length := List.length_pos_iff.mpr h0
  obtain ⟨r, p', e, ⟨hr1, hr2⟩, hp'⟩ := below (ob := ob) hn hp hk (b := (items.length : Int)) (by omega) (by omega)
  have hb : r.toNat < items.length := by omega
  refine ⟨items[r.toNat], p', List.getElem_mem hb, ?_, hp'⟩
  have hat : atI items r = some items[r.toNat] := atI_ok hr1 (List.getElem?_eq_getElem hb)
  unfold f__law_pick evDef e__law_pick
  simp only [List.map_cons, List.map_nil, List.replicate, List.append_nil, List.cons_append, List.nil_append, ev_ret, ev_op, ev_var, vr_1, vr_0, vr_some, bind_ok, ev_frz, ev_call, ev_cons, ev_b, ev_nil, h1, h2, opt_some, toD_val, e, fin_ok, look_int, h3, hat, Option.map_some]
  simp [leave]
theorem pick {ob : Obs} {n k : Nat} (hn : n < ob.length) {p : List D} (hp : Pot k p) (hk : k < 2 ^ 59) {items : List D} (h0 : items ≠ []) (hl : items.length < 2 ^ 60) :
    ∃ x p', x ∈ items ∧ f__law_pick [.ob n, .lst items] (at_ ob n p) = .ok (.val x) (at_ ob n p') ∧ Pot (k + 1) p' := pick_gen hn hp hk h0 hl (fun _ => rfl) rfl (fun _ => rfl)
theorem pickT {ob : Obs} {n k : Nat} (hn : n < ob.length) {p : List D} (hp : Pot k p) (hk : k < 2 ^ 59) {items : List D} (h0 : items ≠ []) (hl : items.length < 2 ^ 60) :
    ∃ x p', x ∈ items ∧ f__law_pick [.ob n, .tup items] (at_ ob n p) = .ok (.val x) (at_ ob n p') ∧ Pot (k + 1) p' := pick_gen hn hp hk h0 hl (fun _ => rfl) rfl (fun _ => rfl)
end DrawM
end Cut
end
section
/-! CutStore: objects beside the numbers drawn from. -/
namespace Cut
open PySem PySem.Spec PyProof.Rows L2
namespace Store
open Draw (Pot Pot.mono at_ at_get at_set)
/-- no object of the store in it -/
def D.free (d : D) : Prop := ∀ N, d.under N = true
def frees (l : List D) : Prop := ∀ N, D.unders N l = true
theorem frees_of {l : List D} (h : ∀ d ∈ l, D.free d) : frees l := fun N => by
  induction l with
  | nil => simp [D.unders]
  | cons d l ih => simp only [D.unders, h d List.mem_cons_self N, ih fun x hx => h x (List.mem_cons_of_mem _ hx), Bool.and_self]
theorem frees_mem {l : List D} (h : frees l) {d : D} (hd : d ∈ l) : D.free d := fun N => by
  have h := h N
  induction l with
  | nil => cases hd
  | cons x l ih =>
    rw [D.unders, Bool.and_eq_true] at h
    rcases List.mem_cons.mp hd with rfl | hd
    · exact h.1
    · exact ih (fun M => by have := ‹frees (x :: l)› M; rw [D.unders, Bool.and_eq_true] at this; exact this.2) hd h.2
theorem frees_ints (l : List Int) : frees (l.map D.int) := fun N => unders_ints N l
theorem free_int (i : Int) : D.free (.int i) := fun N => by simp [D.under]
theorem free_str (i : Str) : D.free (.str i) := fun N => by simp [D.under]
theorem free_non : D.free .non := fun N => by simp [D.under]
theorem free_bl (b : Bool) : D.free (.bl b) := fun N => by simp [D.under]
theorem free_tup {l : List D} (h : frees l) : D.free (.tup l) := fun N => by rw [D.under]; exact h N
theorem free_lst {l : List D} (h : frees l) : D.free (.lst l) := fun N => by rw [D.under]; exact h N
theorem frees_nil : frees [] := fun N => by simp [D.unders]
theorem frees_cons {d : D} {l : List D} (h : D.free d) (hl : frees l) : frees (d :: l) := fun N => by simp only [D.unders, h N, hl N, Bool.and_self]
theorem frees_app {l m : List D} (h : frees l) (hm : frees m) : frees (l ++ m) := frees_of fun d hd => by
  rcases List.mem_append.mp hd with hd | hd
  · exact frees_mem h hd
  · exact frees_mem hm hd
theorem free_snd (s : Prog.Snd) : D.free s.d := by
  refine free_tup (frees_cons (free_int _) (frees_cons (free_str _) (frees_cons ?_ (frees_cons (free_int _) (frees_cons (free_str _) frees_nil)))))
  cases s.told with
  | none => exact free_non
  | some t => exact free_int t
theorem free_oS (o : Option Prog.Snd) : D.free (Prog.oS o) := by
  cases o with
  | none => exact free_non
  | some s => exact free_snd s
theorem free_rly (r : Prog.Rly) : D.free r.d := by
  have o : ∀ x : Option Int, D.free (Prog.oD x) := fun x => by
    cases x with
    | none => exact free_non
    | some i => exact free_int i
  exact free_tup (frees_cons (o _) (frees_cons (free_str _) (frees_cons (free_str _) (frees_cons (free_str _) (frees_cons (free_str _) (frees_cons (free_str _) (frees_cons (o _) (frees_cons (free_str _) frees_nil))))))))
/-- all objects but the n-th hold no objects -/
def Pure (ob : Obs) (n : Nat) : Prop := ∀ (m : Nat) (o : Ob), m ≠ n → ob[m]? = some (some o) → ∀ N, o.under N = true
theorem free_pot {k : Nat} {p : List D} (h : Pot k p) : frees p := by
  obtain ⟨cells, place, a, left, rfl, _, _, _⟩ := h
  exact frees_cons (free_lst (frees_ints _)) (frees_cons (free_int _) (frees_cons (free_int _) (frees_cons (free_int _) frees_nil)))
section
variable {ob : Obs} {n m k : Nat} {p : List D} {l : List D} {o : Ob}
theorem Pure.bel (h : Pure ob n) (hp : Pot k p) (N : Nat) : obsBelow N (at_ ob n p) := fun m o hm ho => by
  by_cases e : m = n
  · subst e
    by_cases hl : m < ob.length
    · rw [at_get hl] at ho
      cases ho
      exact free_pot hp N
    · have : (at_ ob m p)[m]? = none := List.getElem?_eq_none_iff.mpr (by simp; omega)
      rw [this] at ho; cases ho
  · have ho : (ob.set n (some (.lst p)))[m]? = some (some o) := ho
    rw [List.getElem?_set_ne (fun z => e z.symm)] at ho
    exact h m o e ho N
theorem Pure.app (h : Pure ob n) (ho : ∀ N, o.under N = true) : Pure (ob ++ [some o]) n := fun m o' hm h' => by
  rcases Nat.lt_or_ge m ob.length with hl | hl
  · rw [List.getElem?_append_left hl] at h'
    exact h m o' hm h'
  · rw [List.getElem?_append_right hl] at h'
    cases e : m - ob.length with
    | zero => rw [e] at h'; cases h'; exact ho
    | succ j => rw [e] at h'; simp at h'
theorem Pure.appN (h : Pure ob n) : Pure (ob ++ [none]) n := fun m o' hm h' => by
  rcases Nat.lt_or_ge m ob.length with hl | hl
  · rw [List.getElem?_append_left hl] at h'
    exact h m o' hm h'
  · rw [List.getElem?_append_right hl] at h'
    cases e : m - ob.length with
    | zero => rw [e] at h'; cases h'
    | succ j => rw [e] at h'; simp at h'
theorem Pure.setN (h : Pure ob n) : Pure (ob.set m none) n := fun j o' hj h' => by
  rw [List.getElem?_set] at h'
  split at h'
  · split at h' <;> cases h'
  · exact h j o' hj h'
theorem Pure.set (h : Pure ob n) (ho : ∀ N, o.under N = true) : Pure (ob.set m (some o)) n := fun j o' hj h' => by
  rw [List.getElem?_set] at h'
  split at h'
  · split at h'
    · cases h'; exact ho
    · cases h'
  · exact h j o' hj h'
theorem at_ne (h : m ≠ n) : (at_ ob n p)[m]? = ob[m]? := List.getElem?_set_ne fun z => h z.symm
theorem at_len : (at_ ob n p).length = ob.length := List.length_set
theorem at_app (hn : n < ob.length) (p : List D) (t : Obs) : at_ ob n p ++ t = at_ (ob ++ t) n p := by
  show ob.set n _ ++ t = (ob ++ t).set n _
  rw [List.set_append_left _ _ hn]
theorem at_setne (h : m ≠ n) (x : Option Ob) : (at_ ob n p).set m x = at_ (ob.set m x) n p := List.set_comm _ _ fun z => h z.symm
theorem look_m (h : m ≠ n) (hm : ob[m]? = some (some (.lst l))) : look (at_ ob n p) (.ob m) = .lst l := by rw [look_ob, at_ne h, hm]; rfl
theorem ty_m (h : m ≠ n) (hm : ob[m]? = some (some (.lst l))) : tyD "list" (.ob m) (at_ ob n p) = true := by
  unfold tyD
  simp only [at_ne h, hm]
  decide
theorem app_m (h : m ≠ n) (hm : ob[m]? = some (some (.lst l))) (hl : l.length < 16777216) (d : D) : appendM (.ob m) [d] (at_ ob n p) = some (.val .non, at_ (ob.set m (some (.lst (l ++ [d])))) n p) := by
  unfold appendM
  simp only [at_ne h, hm]
  rw [if_pos (by have := sizeLine_eq; omega), at_setne h]
theorem put_m (h : m ≠ n) (hm : ob[m]? = some (some (.lst l))) {i : Int} {j : Nat} (hi : ixN l.length i = some j) (v : D) : setO (.ob m) (.int i) v (at_ ob n p) = some (at_ (ob.set m (some (.lst (l.set j v)))) n p) := by
  unfold setO
  simp only [at_ne h, hm, hi, Option.map_some, at_setne h]
theorem fz_m {sl : List (Option D)} {i : Nat} (h : m ≠ n) (hm : ob[m]? = some (some (.lst l))) (hi : sl[i]? = some (some (.ob m))) : eFz (eVar i) ⟨sl, at_ ob n p⟩ = .ok (.lst l) ⟨sl.map (thawS m (.lst l)), at_ (ob.set m none) n p⟩ := by
  have e : eVar i ⟨sl, at_ ob n p⟩ = .ok (.ob m) ⟨sl, at_ ob n p⟩ := by unfold eVar; simp only [hi]
  unfold eFz
  rw [e]
  simp only [bind_ok, at_ne h, hm, at_setne h]
theorem fz_val {sl : List (Option D)} {o : Obs} {i : Nat} {l : List D} (hi : sl[i]? = some (some (.lst l))) : eFz (eVar i) ⟨sl, o⟩ = .ok (.lst l) ⟨sl, o⟩ := by
  have e : eVar i ⟨sl, o⟩ = .ok (.lst l) ⟨sl, o⟩ := by unfold eVar; simp only [hi]
  unfold eFz
  rw [e]
  rfl
theorem fz_tup {sl : List (Option D)} {o : Obs} {i : Nat} {l : List D} (hi : sl[i]? = some (some (.tup l))) : eFz (eVar i) ⟨sl, o⟩ = .ok (.tup l) ⟨sl, o⟩ := by
  have e : eVar i ⟨sl, o⟩ = .ok (.tup l) ⟨sl, o⟩ := by unfold eVar; simp only [hi]
  unfold eFz
  rw [e]
  rfl
@[simp] theorem thaw_none {d : D} : thawS m d none = none := rfl
@[simp] theorem thaw_int {d : D} {i : Int} : thawS m d (some (.int i)) = some (.int i) := rfl
@[simp] theorem thaw_str {d : D} {i : Str} : thawS m d (some (.str i)) = some (.str i) := rfl
@[simp] theorem thaw_bl {d : D} {i : Bool} : thawS m d (some (.bl i)) = some (.bl i) := rfl
@[simp] theorem thaw_non {d : D} : thawS m d (some .non) = some .non := rfl
@[simp] theorem thaw_tup {d : D} {l : List D} : thawS m d (some (.tup l)) = some (.tup l) := rfl
@[simp] theorem thaw_lst {d : D} {l : List D} : thawS m d (some (.lst l)) = some (.lst l) := rfl
@[simp] theorem thaw_scr {d : D} {l : List D} : thawS m d (some (.scr l)) = some (.scr l) := rfl
@[simp] theorem thaw_self {d : D} : thawS m d (some (.ob m)) = some d := by simp [thawS]
theorem thaw_ne {d : D} (h : n ≠ m) : thawS m d (some (.ob n)) = some (.ob n) := by unfold thawS; simp only [h, if_false]
theorem def_rtB {fs : SM} {ds : List D} {k : Nat} {sl : List (Option D)} {ob ob1 t : Obs} {r : Rv} (h : fs ⟨ds.map some ++ List.replicate k none, ob⟩ = .ok (.rt r) ⟨sl, ob1 ++ t⟩) (hl : ob1.length = ob.length) (hr : r.under ob.length = true) (hb : obsBelow ob.length ob1) : evDef k fs ds ob = .ok r ob1 := by
  unfold evDef
  rw [h]
  show leave _ _ _ _ = _
  unfold leave
  by_cases ht : t = []
  · subst ht
    rw [List.append_nil, if_pos hl]
  · have hne : (ob1 ++ t).length ≠ ob.length := by
      rw [List.length_append]
      have := List.length_pos_iff.mpr ht
      omega
    have htk : (ob1 ++ t).take ob.length = ob1 := by rw [← hl]; simp
    rw [if_neg hne, if_pos ⟨hr, .inr fun m o hm ho => hb m o hm (by rw [List.getElem?_append_left (by omega)] at ho; exact ho)⟩, htk]
end
/-! draws from an object -/
theorem pick_ob {ob : Obs} {n m k : Nat} (hn : n < ob.length) {p : List D} (hp : Pot k p) (hk : k < 2 ^ 59) {items : List D} (h0 : items ≠ []) (hl : items.length < 2 ^ 60) (hm : ob[m]? = some (some (.lst items))) (h : m ≠ n) :
    ∃ x p', x ∈ items ∧ DrawM.f__law_pick [.ob n, .ob m] (at_ ob n p) = .ok (.val x) (at_ ob n p') ∧ Pot (k + 1) p' := by
  have hpos : 0 < items.length := List.length_pos_iff.mpr h0
  obtain ⟨r, p', e, ⟨hr1, hr2⟩, hp'⟩ := DrawM.below (ob := ob) hn hp hk (b := (items.length : Int)) (by omega) (by omega)
  have hb : r.toNat < items.length := by omega
  refine ⟨items[r.toNat], p', List.getElem_mem hb, ?_, hp'⟩
  have hat : atI items r = some items[r.toNat] := atI_ok hr1 (List.getElem?_eq_getElem hb)
  have h2 : lenD [.lst items] = some (.val (.int items.length)) := rfl
  have h3 : ixD (.lst items) (.int r) = (atI items r).map .val := rfl
  have l1 := fun p => look_m (p := p) h hm
  unfold DrawM.f__law_pick evDef DrawM.e__law_pick
  simp only [List.map_cons, List.map_nil, List.replicate, List.append_nil, List.cons_append, List.nil_append, ev_ret, ev_op, ev_var, vr_1, vr_0, vr_some, bind_ok, ev_frz, ev_call, ev_cons, ev_b, ev_nil, l1, h2, opt_some, toD_val, e, fin_ok, look_int, h3, hat, Option.map_some]
  simp [leave]
end Store
end Cut
end
section
namespace Cut
open PySem PySem.Spec PyProof.Rows L2
namespace Od
def l_WAYS : List D := [.str "length", .str "marks", .str "close"]
def l_ENDS : List D := [.str "mark", .str "open", .str "shut"]
noncomputable def e_order_key : SM :=
  sSeq (sAsg (.tup [.var 1, .var 2, .var 3, .var 4, .var 5]) (eVar 0)) <|
  sRet (rVal (eTup (aCons (eVar 1) (aCons (eVar 4) (aCons (eFrz (rIdxC l_WAYS (eVar 2))) (aCons (eIf (tB (rOp eqD (eVar 2) (eC (.str "length")))) (eVar 3) (eC (.int 0))) (aCons (eFrz (rIdxC l_ENDS (eVar 5))) (aNil))))))))
noncomputable def f_order_key : FM := evDef 5 e_order_key
noncomputable def i_order_key : FnI := ⟨"order_key", 1, f_order_key⟩
noncomputable def e_ordered : SM :=
  sRet (rSortK i_order_key (eVar 0))
noncomputable def f_ordered : FM := evDef 0 e_ordered
noncomputable def l__law_is_ahead_0 : SM :=
  sExp (rMeth "list" appendM (eVar 2) (aCons (eFrz (rLst (aCons (eVar 5) (aCons (eVar 8) (aCons (eFrz (rMeth "list" indexM (eVar 3) (aCons (eVar 6) (aNil)))) (aCons (eIf (tB (rOp (yesD isD) (eVar 7) (eC .non))) (eC (.int 0)) (eVar 7)) (aCons (eFrz (rMeth "list" indexM (eVar 4) (aCons (eVar 9) (aNil)))) (aNil)))))))) (aNil)))
noncomputable def e__law_is_ahead : SM :=
  sSeq (sPar 3 4 (eFrz (rLst (aCons (eC (.str "length")) (aCons (eC (.str "marks")) (aCons (eC (.str "close")) (aNil)))))) (eFrz (rLst (aCons (eC (.str "mark")) (aCons (eC (.str "open")) (aCons (eC (.str "shut")) (aNil))))))) <|
  sSeq (sSet 2 (eOwn (rLst (aNil)))) <|
  sSeq (sFor (iSeq (eTup (aCons (eVar 0) (aCons (eVar 1) (aNil))))) (.tup [.var 5, .var 6, .var 7, .var 8, .var 9]) l__law_is_ahead_0) <|
  sRet (rOp ltD (eFrz (rOp ixD (eVar 2) (eC (.int 0)))) (eFrz (rOp ixD (eVar 2) (eC (.int 1)))))
noncomputable def f__law_is_ahead : FM := evDef 8 e__law_is_ahead
end Od
end Cut
end
section
/-! CutOrd: sendings in order. -/
namespace Cut
open PySem PySem.Spec PyProof.Rows L2
namespace Od
open Prog
def wIx : Way → Int | .length => 0 | .marks => 1 | .close => 2
def eIx : En → Int | .mark => 0 | .opn => 1 | .shut => 2
def keyI (s : Snd) : List Int := [s.meant, s.units, wIx s.way, if s.way = .length then s.told.getD 0 else 0, eIx s.en]
def keyD (s : Snd) : D := .tup ((keyI s).map D.int)
theorem ix_way (w : Way) (ob : Obs) : indexTM (.tup l_WAYS) [.str w.s] ob = some (.val (.int (wIx w)), ob) := by
  cases w <;> simp [indexTM, l_WAYS, strsI, List.findIdx?_cons, ofS_beq, Way.s, wIx]
theorem ix_en (e : En) (ob : Obs) : indexTM (.tup l_ENDS) [.str e.s] ob = some (.val (.int (eIx e)), ob) := by
  cases e <;> simp [indexTM, l_ENDS, strsI, List.findIdx?_cons, ofS_beq, En.s, eIx]
theorem il_way (w : Way) (ob : Obs) : indexM (.lst [.str "length", .str "marks", .str "close"]) [.str w.s] ob = some (.val (.int (wIx w)), ob) := by
  cases w <;> simp [indexM, strsI, List.findIdx?_cons, ofS_beq, Way.s, wIx]
theorem il_en (e : En) (ob : Obs) : indexM (.lst [.str "mark", .str "open", .str "shut"]) [.str e.s] ob = some (.val (.int (eIx e)), ob) := by
  cases e <;> simp [indexM, strsI, List.findIdx?_cons, ofS_beq, En.s, eIx]
theorem eq_len (w : Way) : eqD (.str w.s) (.str "length") = some (.val (.bl (decide (w = .length)))) := by
  rw [Prog.eq_str]
  cases w <;> simp [Way.s, ofS_beq]
theorem snd_put (s : Snd) (x0 x1 x2 x3 x4 x5 : Option D) : (Tg.tup [.var 1, .var 2, .var 3, .var 4, .var 5]).put s.d [x0, x1, x2, x3, x4, x5] = some [x0, some (.int s.meant), some (.str s.way.s), some (oD s.told), some (.int s.units), some (.str s.en.s)] := rfl
theorem told_key {s : Snd} (h : s.Ok) : (if s.way = .length then oD s.told else .int 0) = .int (if s.way = .length then s.told.getD 0 else 0) := by
  by_cases hw : s.way = .length
  · obtain ⟨t, ht, _⟩ := h.told hw
    rw [if_pos hw, if_pos hw, ht]; rfl
  · rw [if_neg hw, if_neg hw]
theorem order_key_s {s : Snd} (h : s.Ok) (ob : Obs) : f_order_key [s.d] ob = .ok (.val (keyD s)) ob := by
  refine def_rt (sl := [some s.d, some (.int s.meant), some (.str s.way.s), some (oD s.told), some (.int s.units), some (.str s.en.s)]) ?_ rfl
  unfold e_order_key
  have hk := told_key h
  have hd : keyD s = .tup [.int s.meant, .int s.units, .int (wIx s.way), .int (if s.way = .length then s.told.getD 0 else 0), .int (eIx s.en)] := rfl
  rw [hd, ← hk]
  rw [seq_ok (s1 := ⟨[some s.d, some (.int s.meant), some (.str s.way.s), some (oD s.told), some (.int s.units), some (.str s.en.s)], ob⟩) (by
    simp only [ev_asg, ev_var, List.map_cons, List.map_nil, List.replicate, List.cons_append, List.nil_append, vr_0, vr_some, bind_ok, snd_put, tgo_some])]
  by_cases hw : s.way = .length
  · have e1 : eqD (.str s.way.s) (.str "length") = some (.val (.bl true)) := by rw [eq_len]; simp [hw]
    rw [if_pos hw]
    simp [ix_way, ix_en, e1, line_ok]
  · have e1 : eqD (.str s.way.s) (.str "length") = some (.val (.bl false)) := by rw [eq_len]; simp [hw]
    rw [if_neg hw]
    simp [ix_way, ix_en, e1, line_ok]
def leS (a b : Snd) : Bool := PySem.W.dataLe false (fun p : D × D => p.2.pd) (a.d, keyD a) (b.d, keyD b)
def sortS (l : List Snd) : List Snd := l.mergeSort leS
theorem snd_flat (s : Snd) : s.d.flat = true := by
  unfold Snd.d
  cases s.told <;> simp [D.flat, D.flats, oD]
theorem key_flat (s : Snd) : (keyD s).flat = true := by simp [keyD, keyI, D.flat, D.flats]
theorem key_of {s : Snd} (h : s.Ok) : keyOfF f_order_key s.d = some (keyD s) := by
  unfold keyOfF
  rw [order_key_s h]
  simp only [key_flat, if_true]
theorem keys_of : ∀ {l : List Snd}, (∀ s ∈ l, s.Ok) → keysF f_order_key (l.map Snd.d) = some (l.map fun s => (s.d, keyD s))
  | [], _ => rfl
  | s :: l, h => by
    rw [List.map_cons, keysF, if_pos (snd_flat s), key_of (h s List.mem_cons_self), keys_of fun x hx => h x (List.mem_cons_of_mem _ hx)]
    rfl
theorem key_pd (s : Snd) : (keyD s).pd = .tuple [.int s.meant, .int s.units, .int (wIx s.way), .int (if s.way = .length then s.told.getD 0 else 0), .int (eIx s.en)] := by
  simp [keyD, keyI, D.pd, D.pds]
theorem sort_okS (l : List Snd) : sortOkD (l.map fun s => (s.d, keyD s)) = true := by
  unfold sortOkD
  rw [Bool.and_eq_true, Bool.and_eq_true, List.all_eq_true, List.all_eq_true, List.all_eq_true]
  refine ⟨fun p hp => List.all_eq_true.mpr fun q hq => ?_, fun p hp => ?_, fun p hp => ?_⟩
  · obtain ⟨s, _, rfl⟩ := List.mem_map.mp hp
    obtain ⟨t, _, rfl⟩ := List.mem_map.mp hq
    simp [key_pd, PySem.W.alike, PySem.W.alikeAll]
  · obtain ⟨s, _, rfl⟩ := List.mem_map.mp hp
    simp [key_pd]
  · obtain ⟨s, _, rfl⟩ := List.mem_map.mp hp
    simp [key_pd, PyData.depth, PyData.depthAll]
theorem sk_s {l : List Snd} (h : ∀ s ∈ l, s.Ok) (hl : l.length ≤ 16777216) : skD f_order_key (l.map Snd.d) = some ((sortS l).map Snd.d) := by
  unfold skD
  rw [keys_of h]
  simp only [sort_okS, Bool.true_and, List.length_map, line_ok hl, decide_true, if_true]
  have e := List.map_mergeSort (r := leS) (s := PySem.W.dataLe false fun p : D × D => p.2.pd) (f := fun s : Snd => (s.d, keyD s)) (l := l) (fun a _ b _ => rfl)
  rw [← e, List.map_map]
  rfl
theorem ordered_s {l : List Snd} (h : ∀ s ∈ l, s.Ok) (hl : l.length ≤ 16777216) (ob : Obs) : f_ordered [.lst (l.map Snd.d)] ob = .ok (.fl ((sortS l).map Snd.d)) ob := by
  refine def_rt (sl := [some (.lst (l.map Snd.d))]) ?_ rfl
  have e : i_order_key.f = f_order_key := rfl
  unfold e_ordered
  simp [e, sk_s h hl]
theorem sort_len (l : List Snd) : (sortS l).length = l.length := List.length_mergeSort l
theorem sort_perm (l : List Snd) : (sortS l).Perm l := List.mergeSort_perm l leS
theorem sort_mem {l : List Snd} {s : Snd} : s ∈ sortS l ↔ s ∈ l := (sort_perm l).mem_iff
/-- strictly ahead -/
def lexB (a b : Snd) : Bool := PySem.W.dataLt (keyD a).pd (keyD b).pd
theorem leS_lex (a b : Snd) : leS a b = !lexB b a := rfl
theorem sort_asc (l : List Snd) : (sortS l).Pairwise (fun a b => lexB b a = false) := by
  have T := PySem.W.sortLe_total (PyProof.Rows.listOrd PyProof.Rows.itemOrd) false (fun p : D × D => PySem.W.keyToks p.2.pd)
  have h := List.pairwise_mergeSort (le := leS) (fun a b c h1 h2 => T.trans _ _ _ h1 h2) (fun a b => by
    rcases T.total (a.d, keyD a) (b.d, keyD b) with z | z
    · rw [Bool.or_eq_true]; exact .inl z
    · rw [Bool.or_eq_true]; exact .inr z) l
  refine h.imp fun {a b} q => ?_
  rw [leS_lex, Bool.not_eq_true'] at q
  exact q
theorem row_lt (a b : Snd) : ltD (.lst ((keyI a).map D.int)) (.lst ((keyI b).map D.int)) = some (.val (.bl (lexB a b))) := by
  have ho : ordOk (.lst ((keyI a).map D.int)) (.lst ((keyI b).map D.int)) = true := by
    simp [ordOk, keyI, D.pd, D.pds, PySem.W.alike, PySem.W.alikeAll]
  show (if ordOk (.lst ((keyI a).map D.int)) (.lst ((keyI b).map D.int)) = true then some (Rv.val (.bl (PySem.W.dataLt (D.lst ((keyI a).map D.int)).pd (D.lst ((keyI b).map D.int)).pd))) else none) = _
  rw [if_pos ho]
  unfold lexB keyD PySem.W.dataLt
  simp [D.pd, PySem.W.keyToks]
theorem ahead_turn {s : Snd} (h : s.Ok) (ds : List D) (ob : Obs) (l : List D) (hl : l.length ≤ 4) (x0 x1 x5 x6 x7 x8 x9 : Option D) : ∃ y5 y6 y7 y8 y9,
    forGo (.tup [.var 5, .var 6, .var 7, .var 8, .var 9]) l__law_is_ahead_0 (s.d :: ds) ⟨[x0, x1, some (.ob ob.length), some (.lst [.str "length", .str "marks", .str "close"]), some (.lst [.str "mark", .str "open", .str "shut"]), x5, x6, x7, x8, x9], ob ++ [some (.lst l)]⟩ =
    forGo (.tup [.var 5, .var 6, .var 7, .var 8, .var 9]) l__law_is_ahead_0 ds ⟨[x0, x1, some (.ob ob.length), some (.lst [.str "length", .str "marks", .str "close"]), some (.lst [.str "mark", .str "open", .str "shut"]), y5, y6, y7, y8, y9], ob ++ [some (.lst (l ++ [.lst ((keyI s).map D.int)]))]⟩ := by
  refine ⟨some (.int s.meant), some (.str s.way.s), some (oD s.told), some (.int s.units), some (.str s.en.s), ?_⟩
  have hput : (Tg.tup [.var 5, .var 6, .var 7, .var 8, .var 9]).put s.d [x0, x1, some (.ob ob.length), some (.lst [.str "length", .str "marks", .str "close"]), some (.lst [.str "mark", .str "open", .str "shut"]), x5, x6, x7, x8, x9] =
      some [x0, x1, some (.ob ob.length), some (.lst [.str "length", .str "marks", .str "close"]), some (.lst [.str "mark", .str "open", .str "shut"]), some (.int s.meant), some (.str s.way.s), some (oD s.told), some (.int s.units), some (.str s.en.s)] := rfl
  have ht : (if s.told = none then D.int 0 else oD s.told) = .int (if s.way = .length then s.told.getD 0 else 0) := by
    by_cases hw : s.way = .length
    · obtain ⟨t, ht, _⟩ := h.told hw
      rw [ht]; simp [hw, oD]
    · rw [h.none_ hw]; simp [hw]
  have his : yesD isD (oD s.told) .non = some (.val (.bl (decide (s.told = none)))) := by cases s.told <;> rfl
  rw [for_cons, hput, fput_some]
  have e : l__law_is_ahead_0 ⟨[x0, x1, some (.ob ob.length), some (.lst [.str "length", .str "marks", .str "close"]), some (.lst [.str "mark", .str "open", .str "shut"]), some (.int s.meant), some (.str s.way.s), some (oD s.told), some (.int s.units), some (.str s.en.s)], ob ++ [some (.lst l)]⟩ =
      .ok .nx ⟨[x0, x1, some (.ob ob.length), some (.lst [.str "length", .str "marks", .str "close"]), some (.lst [.str "mark", .str "open", .str "shut"]), some (.int s.meant), some (.str s.way.s), some (oD s.told), some (.int s.units), some (.str s.en.s)], ob ++ [some (.lst (l ++ [.lst ((keyI s).map D.int)]))]⟩ := by
    have hty : tyD "list" (.ob ob.length) (ob ++ [some (.lst l)]) = true := by simp [tyD]
    have hty2 : ∀ l ob, tyD "list" (.lst l) ob = true := fun _ _ => rfl
    have happ : ∀ d, appendM (.ob ob.length) [d] (ob ++ [some (.lst l)]) = some (.val .non, ob ++ [some (.lst (l ++ [d]))]) := fun d => by
      unfold appendM
      simp [line_ok (show l.length ≤ 16777216 by omega), sizeLine_eq]
      omega
    have hk : (keyI s).map D.int = [.int s.meant, .int s.units, .int (wIx s.way), .int (if s.way = .length then s.told.getD 0 else 0), .int (eIx s.en)] := rfl
    have hl0 : ∀ ob, look ob (oD s.told) = oD s.told := fun ob => by cases s.told <;> rfl
    rw [hk, ← ht]
    unfold l__law_is_ahead_0
    by_cases hn : s.told = none
    · have h1 : yesD isD (oD s.told) .non = some (.val (.bl true)) := by rw [his]; simp [hn]
      rw [if_pos hn]
      simp [hty, hty2, il_way, il_en, h1, happ, line_ok, hl0]
    · have h1 : yesD isD (oD s.told) .non = some (.val (.bl false)) := by rw [his]; simp [hn]
      rw [if_neg hn]
      simp [hty, hty2, il_way, il_en, h1, happ, line_ok, hl0]
  rw [e, bind_ok, fgo_nx]
theorem ahead_s {a b : Snd} (ha : a.Ok) (hb : b.Ok) (ob : Obs) : f__law_is_ahead [a.d, b.d] ob = .ok (.val (.bl (lexB a b))) ob := by
  obtain ⟨y5, y6, y7, y8, y9, e1⟩ := ahead_turn ha [b.d] ob [] (by simp) (some a.d) (some b.d) none none none none none
  obtain ⟨z5, z6, z7, z8, z9, e2⟩ := ahead_turn hb [] ob [.lst ((keyI a).map D.int)] (by simp) (some a.d) (some b.d) y5 y6 y7 y8 y9
  refine def_new (sl := [some a.d, some b.d, some (.ob ob.length), some (.lst [.str "length", .str "marks", .str "close"]), some (.lst [.str "mark", .str "open", .str "shut"]), z5, z6, z7, z8, z9]) (t := [some (.lst [.lst ((keyI a).map D.int), .lst ((keyI b).map D.int)])]) ?_ (by simp [Rv.under, D.under])
  unfold e__law_is_ahead
  have hi : itemsD (.tup [a.d, b.d]) = some [a.d, b.d] := rfl
  simp only [List.nil_append, List.singleton_append, List.cons_append] at e1 e2
  simp [line_ok, hi, e1, e2, for_nil, ixD, row_lt]
end Od
end Cut
end
section
namespace Lk04
open PySem PySem.Spec PyProof.Rows L2 Cut
/-! _law_pot_of -/
noncomputable def l__law_pot_of_0 : SM :=
  sPut (eVar 1) (eFrz (rOp modD (eVar 2) (eC (.int 17)))) (eFrz (rOp addD (eFrz (rOp ixD (eVar 1) (eFrz (rOp modD (eVar 2) (eC (.int 17)))))) (eFrz (rB absD (aCons (eVar 3) (aNil))))))
noncomputable def e__law_pot_of : SM :=
  sSeq (sSet 1 (eOwn (rComp [3] (iSeq (eFrz (rSlice (eVar 0) (oNone) (oSome (eC (.int 17)))))) (.var 3) (tTrue) (eFrz (rB absD (aCons (eVar 3) (aNil))))))) <|
  sSeq (sFor (iEnumD (eFrz (rSlice (eVar 0) (oSome (eC (.int 17))) (oSome (eC (.int 60)))))) (.tup [.var 2, .var 3]) l__law_pot_of_0) <|
  sRet (rLst (aCons (eFz (eVar 1)) (aCons (eC (.int 0)) (aCons (eC (.int 0)) (aCons (eC (.int 0)) (aNil))))))
noncomputable def f__law_pot_of : FM := evDef 3 e__law_pot_of
noncomputable def i__law_pot_of : FnI := ⟨"_law_pot_of", 1, f__law_pot_of⟩
noncomputable def c__law_pot_of : SI := { N := ["script", "cells", "place", "cell"], sc := defScope s__law_pot_of, fn := fun _ => true, calm := true, fs := [], consts := [], excs := [], blts := ["abs", "enumerate"], kds := [] }
theorem w__law_pot_of : DSs c__law_pot_of (defBody s__law_pot_of) e__law_pot_of :=
  dss_cons (s_comp 1 [("cell", 3)] (.inr rfl) rfl rfl rfl (di_seq (DR.frz (dr_slice (dvar 0 rfl) (do_none) (do_some (de_int))))) (t_var 3 rfl) (dts_nil) (DR.frz (d_abs rfl (da_cons (dvar 3 rfl) (da_nil) rfl) rfl))) <|
  dss_cons (ds_for rfl (d_enum rfl (DR.frz (dr_slice (dvar 0 rfl) (do_some (de_int)) (do_some (de_int)))) rfl) (dg_tup rfl (dgs_cons (t_var 2 rfl) (dgs_cons (t_var 3 rfl) (dgs_nil) rfl) rfl) rfl rfl) (dss_one (ds_put rfl (dvar 1 rfl) (DR.frz (dr_bin (fun _ _ => opok_mod) (dvar 2 rfl) (de_int))) (DR.frz (dr_bin (fun _ _ => opok_add) (DR.frz (dr_ix rfl (dvar 1 rfl) (DR.frz (dr_bin (fun _ _ => opok_mod) (dvar 2 rfl) (de_int))) rfl)) (DR.frz (d_abs rfl (da_cons (dvar 3 rfl) (da_nil) rfl) rfl)))) rfl)) rfl) <|
  dss_one (ds_ret (dr_lst (da_cons (DE.fz (dvar 1 rfl)) (da_cons (de_int) (da_cons (de_int) (da_cons (de_int) (da_nil) rfl) rfl) rfl) rfl)))
/-! _law_kneaded -/
noncomputable def l__law_kneaded_0 : SM :=
  sSet 3 (eFrz (rOp modD (eFrz (rB intD (aCons (eFrz (rOp addD (eFrz (rOp addD (eFrz (rOp addD (eFrz (rOp mulD (eVar 3) (eVar 3))) (eFrz (rOp mulD (eC (.int 11)) (eVar 3))))) (eFrz (rOp mulD (eC (.int 4099)) (eVar 4))))) (eVar 1))) (aNil)))) (eVar 2)))
noncomputable def e__law_kneaded : SM :=
  sSeq (sSet 2 (eC (.int 2305843009213693907))) <|
  sSeq (sSet 3 (eFrz (rOp modD (eFrz (rB intD (aCons (eFrz (rOp addD (eFrz (rOp addD (eFrz (rOp mulD (eVar 0) (eC (.int 2862933555777941757)))) (eFrz (rOp mulD (eVar 1) (eC (.int 3037000493)))))) (eC (.int 29)))) (aNil)))) (eVar 2)))) <|
  sSeq (sFor (iRange1 (eC (.int 4))) (.var 4) l__law_kneaded_0) <|
  sRet (rOp addD (eFrz (rOp mulD (eVar 3) (eVar 2))) (eFrz (rOp modD (eFrz (rB intD (aCons (eFrz (rOp addD (eFrz (rOp mulD (eVar 3) (eC (.int 69621)))) (eVar 1))) (aNil)))) (eVar 2))))
noncomputable def f__law_kneaded : FM := evDef 3 e__law_kneaded
noncomputable def i__law_kneaded : FnI := ⟨"_law_kneaded", 2, f__law_kneaded⟩
noncomputable def c__law_kneaded : SI := { N := ["seed", "lap", "prime", "amount", "again"], sc := defScope s__law_kneaded, fn := fun _ => true, calm := true, fs := [], consts := [], excs := [], blts := ["int", "range"], kds := [] }
theorem w__law_kneaded : DSs c__law_kneaded (defBody s__law_kneaded) e__law_kneaded :=
  dss_cons (s_set 2 rfl (de_int) rfl) <|
  dss_cons (s_set 3 rfl (DR.frz (dr_bin (fun _ _ => opok_mod) (DR.frz (d_int rfl (da_cons (DR.frz (dr_bin (fun _ _ => opok_add) (DR.frz (dr_bin (fun _ _ => opok_add) (DR.frz (dr_bin (fun _ _ => opok_mul) (dvar 0 rfl) (de_int))) (DR.frz (dr_bin (fun _ _ => opok_mul) (dvar 1 rfl) (de_int))))) (de_int))) (da_nil) rfl) rfl)) (dvar 2 rfl))) rfl) <|
  dss_cons (ds_for rfl (d_range1 rfl (de_int) rfl) (t_var 4 rfl) (dss_one (s_set 3 rfl (DR.frz (dr_bin (fun _ _ => opok_mod) (DR.frz (d_int rfl (da_cons (DR.frz (dr_bin (fun _ _ => opok_add) (DR.frz (dr_bin (fun _ _ => opok_add) (DR.frz (dr_bin (fun _ _ => opok_add) (DR.frz (dr_bin (fun _ _ => opok_mul) (dvar 3 rfl) (dvar 3 rfl))) (DR.frz (dr_bin (fun _ _ => opok_mul) (de_int) (dvar 3 rfl))))) (DR.frz (dr_bin (fun _ _ => opok_mul) (de_int) (dvar 4 rfl))))) (dvar 1 rfl))) (da_nil) rfl) rfl)) (dvar 2 rfl))) rfl)) rfl) <|
  dss_one (ds_ret (dr_bin (fun _ _ => opok_add) (DR.frz (dr_bin (fun _ _ => opok_mul) (dvar 3 rfl) (dvar 2 rfl))) (DR.frz (dr_bin (fun _ _ => opok_mod) (DR.frz (d_int rfl (da_cons (DR.frz (dr_bin (fun _ _ => opok_add) (DR.frz (dr_bin (fun _ _ => opok_mul) (dvar 3 rfl) (de_int))) (dvar 1 rfl))) (da_nil) rfl) rfl)) (dvar 2 rfl)))))
/-! _law_below -/
noncomputable def e__law_below : SM :=
  sSeq (sIf (tB (rOp ltD (eFrz (rOp ixD (eVar 0) (eC (.int 3)))) (eVar 1))) (sSeq (sPar 4 5 (eFrz (rOp ixD (eVar 0) (eC (.int 0)))) (eFrz (rOp ixD (eVar 0) (eC (.int 1))))) <|
  sSeq (sSet 3 (eFrz (rIf (tB (rOp neD (eVar 4) (eFrz (rLst (aNil))))) (rOp ixD (eVar 4) (eFrz (rOp modD (eVar 5) (eFrz (rB lenD (aCons (eVar 4) (aNil))))))) (rVal (eC (.int 0)))))) <|
  sSeq (sIf (tOr2 (tB (rOp geD (eVar 5) (eFrz (rB lenD (aCons (eVar 4) (aNil)))))) (tB (rOp ltD (eVar 3) (eFrz (rOp powD (eC (.int 10)) (eC (.int 16))))))) (sSet 3 (eFrz (rCall f__law_kneaded (aCons (eFrz (rOp modD (eFrz (rB intD (aCons (eVar 3) (aNil)))) (eC (.int 982451629)))) (aCons (eVar 5) (aNil)))))) (sPass)) <|
  sSeq (sPut (eVar 0) (eC (.int 1)) (eFrz (rOp addD (eVar 5) (eC (.int 1))))) <|
  sSeq (sPut (eVar 0) (eC (.int 2)) (eVar 3)) <|
  sPut (eVar 0) (eC (.int 3)) (eVar 3)) (sPass)) <|
  sSeq (sSet 2 (eFrz (rOp modD (eFrz (rB intD (aCons (eFrz (rOp ixD (eVar 0) (eC (.int 2)))) (aNil)))) (eVar 1)))) <|
  sSeq (sPut (eVar 0) (eC (.int 2)) (eFrz (rOp fdivD (eFrz (rOp ixD (eVar 0) (eC (.int 2)))) (eVar 1)))) <|
  sSeq (sPut (eVar 0) (eC (.int 3)) (eFrz (rOp fdivD (eFrz (rOp ixD (eVar 0) (eC (.int 3)))) (eVar 1)))) <|
  sRet (rVal (eVar 2))
noncomputable def f__law_below : FM := evDef 4 e__law_below
noncomputable def i__law_below : FnI := ⟨"_law_below", 2, f__law_below⟩
noncomputable def c__law_below : SI := { N := ["pot", "bound", "found", "amount", "cells", "place"], sc := defScope s__law_below, fn := fun _ => true, calm := true, fs := [i__law_kneaded], consts := [], excs := [], blts := ["len", "int"], kds := [] }
theorem w__law_below : DSs c__law_below (defBody s__law_below) e__law_below :=
  dss_cons (ds_if (dt_cmp (fun _ S => opok_lt (S.room rfl).units) (DR.frz (dr_ix rfl (dvar 0 rfl) (de_int) rfl)) (dvar 1 rfl) rfl) (dss_cons (s_par 4 5 rfl (by kernel_rfl) (DR.frz (dr_ix rfl (dvar 0 rfl) (de_int) rfl)) (DR.frz (dr_ix rfl (dvar 0 rfl) (de_int) rfl))) <|
  dss_cons (s_set 3 rfl (DR.frz (dr_if (dt_cmp (fun _ S => opok_ne (S.room rfl).units) (dvar 4 rfl) (DR.frz (dr_lst (da_nil))) rfl) (dr_ix rfl (dvar 4 rfl) (DR.frz (dr_bin (fun _ _ => opok_mod) (dvar 5 rfl) (DR.frz (d_len rfl (da_cons (dvar 4 rfl) (da_nil) rfl) rfl)))) rfl) (DE.val (de_int)))) rfl) <|
  dss_cons (ds_if (DW.dt (dw_or (dt_cmp (fun _ S => opok_ge (S.room rfl).units) (dvar 5 rfl) (DR.frz (d_len rfl (da_cons (dvar 4 rfl) (da_nil) rfl) rfl)) rfl) (dw_one (dt_cmp (fun _ S => opok_lt (S.room rfl).units) (dvar 3 rfl) (DR.frz (dr_bin (fun _ _ => opok_pow) (de_int) (de_int))) rfl)))) (dss_one (s_set 3 rfl (DR.frz (d_call i__law_kneaded (.head _) rfl rfl (da_cons (DR.frz (dr_bin (fun _ _ => opok_mod) (DR.frz (d_int rfl (da_cons (dvar 3 rfl) (da_nil) rfl) rfl)) (de_int))) (da_cons (dvar 5 rfl) (da_nil) rfl) rfl) rfl (aCons_len (aCons_len aNil_len)))) rfl)) (dss_nil)) <|
  dss_cons (ds_put rfl (dvar 0 rfl) (de_int) (DR.frz (dr_bin (fun _ _ => opok_add) (dvar 5 rfl) (de_int))) rfl) <|
  dss_cons (ds_put rfl (dvar 0 rfl) (de_int) (dvar 3 rfl) rfl) <|
  dss_one (ds_put rfl (dvar 0 rfl) (de_int) (dvar 3 rfl) rfl)) (dss_nil)) <|
  dss_cons (s_set 2 rfl (DR.frz (dr_bin (fun _ _ => opok_mod) (DR.frz (d_int rfl (da_cons (DR.frz (dr_ix rfl (dvar 0 rfl) (de_int) rfl)) (da_nil) rfl) rfl)) (dvar 1 rfl))) rfl) <|
  dss_cons (ds_put rfl (dvar 0 rfl) (de_int) (DR.frz (dr_bin (fun _ _ => opok_fdiv) (DR.frz (dr_ix rfl (dvar 0 rfl) (de_int) rfl)) (dvar 1 rfl))) rfl) <|
  dss_cons (ds_put rfl (dvar 0 rfl) (de_int) (DR.frz (dr_bin (fun _ _ => opok_fdiv) (DR.frz (dr_ix rfl (dvar 0 rfl) (de_int) rfl)) (dvar 1 rfl))) rfl) <|
  dss_one (ds_ret (DE.val (dvar 2 rfl)))
/-! _law_pick -/
noncomputable def e__law_pick : SM :=
  sRet (rOp ixD (eVar 1) (eFrz (rCall f__law_below (aCons (eVar 0) (aCons (eFrz (rB lenD (aCons (eVar 1) (aNil)))) (aNil))))))
noncomputable def f__law_pick : FM := evDef 0 e__law_pick
noncomputable def i__law_pick : FnI := ⟨"_law_pick", 2, f__law_pick⟩
noncomputable def c__law_pick : SI := { N := ["pot", "items"], sc := defScope s__law_pick, fn := fun _ => true, calm := true, fs := [i__law_below], consts := [], excs := [], blts := ["len"], kds := [] }
theorem w__law_pick : DSs c__law_pick (defBody s__law_pick) e__law_pick :=
  dss_one (ds_ret (dr_ix rfl (dvar 1 rfl) (DR.frz (d_call i__law_below (.head _) rfl rfl (da_cons (dvar 0 rfl) (da_cons (DR.frz (d_len rfl (da_cons (dvar 1 rfl) (da_nil) rfl) rfl)) (da_nil) rfl) rfl) rfl (aCons_len (aCons_len aNil_len)))) rfl))
/-! _law_some_value -/
noncomputable def e__law_some_value : SM :=
  sRet (rB maxD (aCons (eC (.int 0)) (aCons (eFrz (rB minD (aCons (eFrz (rOp powD (eC (.int 10)) (eC (.int 12)))) (aCons (eFrz (rOp addD (eFrz (rCall f__law_pick (aCons (eVar 0) (aCons (eVar 1) (aNil))))) (eFrz (rCall f__law_pick (aCons (eVar 0) (aCons (eFrz (rLst (aCons (eC (.int 0)) (aCons (eC (.int 0)) (aCons (eC (.int 1)) (aCons (eC (.int 2)) (aCons (eFrz (rOp subD (eC (.int 0)) (eC (.int 1)))) (aNil)))))))) (aNil))))))) (aNil))))) (aNil))))
noncomputable def f__law_some_value : FM := evDef 0 e__law_some_value
noncomputable def i__law_some_value : FnI := ⟨"_law_some_value", 2, f__law_some_value⟩
noncomputable def c__law_some_value : SI := { N := ["pot", "some"], sc := defScope s__law_some_value, fn := fun _ => true, calm := true, fs := [i__law_pick], consts := [], excs := [], blts := ["max", "min"], kds := [] }
theorem w__law_some_value : DSs c__law_some_value (defBody s__law_some_value) e__law_some_value :=
  dss_one (ds_ret (d_max rfl rfl (da_cons (de_int) (da_cons (DR.frz (d_min rfl rfl (da_cons (DR.frz (dr_bin (fun _ _ => opok_pow) (de_int) (de_int))) (da_cons (DR.frz (dr_bin (fun _ _ => opok_add) (DR.frz (d_call i__law_pick (.head _) rfl rfl (da_cons (dvar 0 rfl) (da_cons (dvar 1 rfl) (da_nil) rfl) rfl) rfl (aCons_len (aCons_len aNil_len)))) (DR.frz (d_call i__law_pick (.head _) rfl rfl (da_cons (dvar 0 rfl) (da_cons (DR.frz (dr_lst (da_cons (de_int) (da_cons (de_int) (da_cons (de_int) (da_cons (de_int) (da_cons (DR.frz (dr_bin (fun _ _ => opok_sub) (de_int) (de_int))) (da_nil) rfl) rfl) rfl) rfl) rfl))) (da_nil) rfl) rfl) rfl (aCons_len (aCons_len aNil_len)))))) (da_nil) rfl) rfl) rfl)) (da_nil) rfl) rfl) rfl))
/-! _law_some_sending -/
noncomputable def e__law_some_sending : SM :=
  sSeq (sAsg (.tup [.var 4, .var 5, .var 6]) (eFrz (rComp [7] (iRange1 (eC (.int 3))) (.var 7) (tTrue) (eFrz (rCall f__law_some_value (aCons (eVar 0) (aCons (eVar 1) (aNil)))))))) <|
  sSeq (sSet 2 (eFrz (rCall f__law_pick (aCons (eVar 0) (aCons (eFrz (rLst (aCons (eC (.str "length")) (aCons (eC (.str "length")) (aCons (eC (.str "marks")) (aCons (eC (.str "close")) (aNil))))))) (aNil)))))) <|
  sSeq (sSet 3 (eFrz (rCall f__law_pick (aCons (eVar 0) (aCons (eFrz (rOp addD (eFrz (rLst (aCons (eC (.str "open")) (aCons (eC (.str "shut")) (aNil))))) (eFrz (rOp mulD (eFrz (rLst (aCons (eC (.str "mark")) (aCons (eC (.str "mark")) (aNil))))) (eFrz (rB intD (aCons (eFrz (rOp eqD (eVar 2) (eC (.str "marks")))) (aNil)))))))) (aNil)))))) <|
  sSeq (sIf (tB (rOp eqD (eFrz (rCall f__law_below (aCons (eVar 0) (aCons (eC (.int 3)) (aNil))))) (eC (.int 0)))) (sSet 5 (eVar 4)) (sPass)) <|
  sSeq (sIf (tB (rOp eqD (eFrz (rCall f__law_below (aCons (eVar 0) (aCons (eC (.int 2)) (aNil))))) (eC (.int 0)))) (sSet 6 (eFrz (rCall f__law_pick (aCons (eVar 0) (aCons (eFrz (rLst (aCons (eVar 4) (aCons (eVar 5) (aNil))))) (aNil)))))) (sPass)) <|
  sRet (rVal (eTup (aCons (eVar 4) (aCons (eVar 2) (aCons (eFrz (rIf (tB (rOp eqD (eVar 2) (eC (.str "length")))) (rB maxD (aCons (eVar 6) (aCons (eVar 5) (aNil)))) (rVal (eC .non)))) (aCons (eVar 5) (aCons (eVar 3) (aNil))))))))
noncomputable def f__law_some_sending : FM := evDef 6 e__law_some_sending
noncomputable def i__law_some_sending : FnI := ⟨"_law_some_sending", 2, f__law_some_sending⟩
noncomputable def c__law_some_sending : SI := { N := ["pot", "some", "way", "end", "meant", "units", "told", "lap"], sc := defScope s__law_some_sending, fn := fun _ => true, calm := true, fs := [i__law_some_value, i__law_pick, i__law_below], consts := [], excs := [], blts := ["range", "int", "max"], kds := [] }
theorem w__law_some_sending : DSs c__law_some_sending (defBody s__law_some_sending) e__law_some_sending :=
  dss_cons (ds_asg (DR.frz (r_comp [("lap", 7)] rfl (d_range1 rfl (de_int) rfl) (t_var 7 rfl) (dts_nil) (DR.frz (d_call i__law_some_value (.head _) rfl rfl (da_cons (dvar 0 rfl) (da_cons (dvar 1 rfl) (da_nil) rfl) rfl) rfl (aCons_len (aCons_len aNil_len)))))) (dg_tup rfl (dgs_cons (t_var 4 rfl) (dgs_cons (t_var 5 rfl) (dgs_cons (t_var 6 rfl) (dgs_nil) rfl) rfl) rfl) rfl rfl) rfl) <|
  dss_cons (s_set 2 rfl (DR.frz (d_call i__law_pick (.tail _ (.head _)) rfl rfl (da_cons (dvar 0 rfl) (da_cons (DR.frz (dr_lst (da_cons (de_str) (da_cons (de_str) (da_cons (de_str) (da_cons (de_str) (da_nil) rfl) rfl) rfl) rfl))) (da_nil) rfl) rfl) rfl (aCons_len (aCons_len aNil_len)))) rfl) <|
  dss_cons (s_set 3 rfl (DR.frz (d_call i__law_pick (.tail _ (.head _)) rfl rfl (da_cons (dvar 0 rfl) (da_cons (DR.frz (dr_bin (fun _ _ => opok_add) (DR.frz (dr_lst (da_cons (de_str) (da_cons (de_str) (da_nil) rfl) rfl))) (DR.frz (dr_bin (fun _ _ => opok_mul) (DR.frz (dr_lst (da_cons (de_str) (da_cons (de_str) (da_nil) rfl) rfl))) (DR.frz (d_int rfl (da_cons (DR.frz (dr_cmp (fun _ S => opok_eq (S.room rfl).units) (dvar 2 rfl) (de_str) rfl)) (da_nil) rfl) rfl)))))) (da_nil) rfl) rfl) rfl (aCons_len (aCons_len aNil_len)))) rfl) <|
  dss_cons (ds_if (dt_cmp (fun _ S => opok_eq (S.room rfl).units) (DR.frz (d_call i__law_below (.tail _ (.tail _ (.head _))) rfl rfl (da_cons (dvar 0 rfl) (da_cons (de_int) (da_nil) rfl) rfl) rfl (aCons_len (aCons_len aNil_len)))) (de_int) rfl) (dss_one (s_set 5 rfl (dvar 4 rfl) rfl)) (dss_nil)) <|
  dss_cons (ds_if (dt_cmp (fun _ S => opok_eq (S.room rfl).units) (DR.frz (d_call i__law_below (.tail _ (.tail _ (.head _))) rfl rfl (da_cons (dvar 0 rfl) (da_cons (de_int) (da_nil) rfl) rfl) rfl (aCons_len (aCons_len aNil_len)))) (de_int) rfl) (dss_one (s_set 6 rfl (DR.frz (d_call i__law_pick (.tail _ (.head _)) rfl rfl (da_cons (dvar 0 rfl) (da_cons (DR.frz (dr_lst (da_cons (dvar 4 rfl) (da_cons (dvar 5 rfl) (da_nil) rfl) rfl))) (da_nil) rfl) rfl) rfl (aCons_len (aCons_len aNil_len)))) rfl)) (dss_nil)) <|
  dss_one (ds_ret (DE.val (de_tup (da_cons (dvar 4 rfl) (da_cons (dvar 2 rfl) (da_cons (DR.frz (dr_if (dt_cmp (fun _ S => opok_eq (S.room rfl).units) (dvar 2 rfl) (de_str) rfl) (d_max rfl rfl (da_cons (dvar 6 rfl) (da_cons (dvar 5 rfl) (da_nil) rfl) rfl) rfl) (DE.val (de_non)))) (da_cons (dvar 5 rfl) (da_cons (dvar 3 rfl) (da_nil) rfl) rfl) rfl) rfl) rfl))))
/-! order_key -/
noncomputable def e_order_key : SM :=
  sSeq (sAsg (.tup [.var 1, .var 2, .var 3, .var 4, .var 5]) (eVar 0)) <|
  sRet (rVal (eTup (aCons (eVar 1) (aCons (eVar 4) (aCons (eFrz (rIdxC l_WAYS (eVar 2))) (aCons (eIf (tB (rOp eqD (eVar 2) (eC (.str "length")))) (eVar 3) (eC (.int 0))) (aCons (eFrz (rIdxC l_ENDS (eVar 5))) (aNil))))))))
noncomputable def f_order_key : FM := evDef 5 e_order_key
noncomputable def i_order_key : FnI := ⟨"order_key", 1, f_order_key⟩
noncomputable def c_order_key : SI := { N := ["sending", "meant", "way", "told", "units", "end"], sc := defScope s_order_key, fn := fun _ => true, calm := true, fs := [], consts := [("ENDS", k_ENDS), ("WAYS", k_WAYS)], excs := [], blts := [], kds := [], facts := [.tc "ENDS" l_ENDS, .tc "WAYS" l_WAYS] }
theorem w_order_key : DSs c_order_key (defBody s_order_key) e_order_key :=
  dss_cons (ds_asg (dvar 0 rfl) (dg_tup rfl (dgs_cons (t_var 1 rfl) (dgs_cons (t_var 2 rfl) (dgs_cons (t_var 3 rfl) (dgs_cons (t_var 4 rfl) (dgs_cons (t_var 5 rfl) (dgs_nil) rfl) rfl) rfl) rfl) rfl) rfl rfl) rfl) <|
  dss_one (ds_ret (DE.val (de_tup (da_cons (dvar 1 rfl) (da_cons (dvar 4 rfl) (da_cons (DR.frz (r_idxC (x := "WAYS") (l := l_WAYS) (.tail _ (.head _)) rfl rfl rfl (dvar 2 rfl))) (da_cons (de_if (dt_cmp (fun _ S => opok_eq (S.room rfl).units) (dvar 2 rfl) (de_str) rfl) (dvar 3 rfl) (de_int)) (da_cons (DR.frz (r_idxC (x := "ENDS") (l := l_ENDS) (.head _) rfl rfl rfl (dvar 5 rfl))) (da_nil) rfl) rfl) rfl) rfl) rfl))))
/-! ordered -/
noncomputable def e_ordered : SM :=
  sRet (rSortK i_order_key (eVar 0))
noncomputable def f_ordered : FM := evDef 0 e_ordered
noncomputable def i_ordered : FnI := ⟨"ordered", 1, f_ordered⟩
noncomputable def c_ordered : SI := { N := ["sendings"], sc := defScope s_ordered, fn := fun _ => true, calm := true, fs := [], consts := [], excs := [], blts := ["sorted"], kds := [], facts := [.sk i_order_key] }
theorem w_ordered : DSs c_ordered (defBody s_ordered) e_ordered :=
  dss_one (ds_ret (d_sortK (i := i_order_key) (.head _) rfl rfl rfl rfl (dvar 0 rfl) rfl))
/-! _law_is_ahead -/
noncomputable def l__law_is_ahead_0 : SM :=
  sExp (rMeth "list" appendM (eVar 2) (aCons (eFrz (rLst (aCons (eVar 5) (aCons (eVar 8) (aCons (eFrz (rMeth "list" indexM (eVar 3) (aCons (eVar 6) (aNil)))) (aCons (eIf (tB (rOp (yesD isD) (eVar 7) (eC .non))) (eC (.int 0)) (eVar 7)) (aCons (eFrz (rMeth "list" indexM (eVar 4) (aCons (eVar 9) (aNil)))) (aNil)))))))) (aNil)))
noncomputable def e__law_is_ahead : SM :=
  sSeq (sPar 3 4 (eFrz (rLst (aCons (eC (.str "length")) (aCons (eC (.str "marks")) (aCons (eC (.str "close")) (aNil)))))) (eFrz (rLst (aCons (eC (.str "mark")) (aCons (eC (.str "open")) (aCons (eC (.str "shut")) (aNil))))))) <|
  sSeq (sSet 2 (eOwn (rLst (aNil)))) <|
  sSeq (sFor (iSeq (eTup (aCons (eVar 0) (aCons (eVar 1) (aNil))))) (.tup [.var 5, .var 6, .var 7, .var 8, .var 9]) l__law_is_ahead_0) <|
  sRet (rOp ltD (eFrz (rOp ixD (eVar 2) (eC (.int 0)))) (eFrz (rOp ixD (eVar 2) (eC (.int 1)))))
noncomputable def f__law_is_ahead : FM := evDef 8 e__law_is_ahead
noncomputable def i__law_is_ahead : FnI := ⟨"_law_is_ahead", 2, f__law_is_ahead⟩
noncomputable def c__law_is_ahead : SI := { N := ["one", "other", "rows", "ways", "ends", "meant", "way", "told", "units", "end"], sc := defScope s__law_is_ahead, fn := fun _ => true, calm := true, fs := [], consts := [], excs := [], blts := [], kds := [] }
theorem w__law_is_ahead : DSs c__law_is_ahead (defBody s__law_is_ahead) e__law_is_ahead :=
  dss_cons (s_par 3 4 rfl (by kernel_rfl) (DR.frz (dr_lst (da_cons (de_str) (da_cons (de_str) (da_cons (de_str) (da_nil) rfl) rfl) rfl))) (DR.frz (dr_lst (da_cons (de_str) (da_cons (de_str) (da_cons (de_str) (da_nil) rfl) rfl) rfl)))) <|
  dss_cons (s_set 2 rfl (DR.own (dr_lst (da_nil))) rfl) <|
  dss_cons (ds_for rfl (di_seq (de_tup (da_cons (dvar 0 rfl) (da_cons (dvar 1 rfl) (da_nil) rfl) rfl))) (dg_tup rfl (dgs_cons (t_var 5 rfl) (dgs_cons (t_var 6 rfl) (dgs_cons (t_var 7 rfl) (dgs_cons (t_var 8 rfl) (dgs_cons (t_var 9 rfl) (dgs_nil) rfl) rfl) rfl) rfl) rfl) rfl rfl) (dss_one (ds_exp (m_append rfl (dvar 2 rfl) (da_cons (DR.frz (dr_lst (da_cons (dvar 5 rfl) (da_cons (dvar 8 rfl) (da_cons (DR.frz (m_index rfl (dvar 3 rfl) (da_cons (dvar 6 rfl) (da_nil) rfl))) (da_cons (de_if (dt_cmp (fun _ _ => opok_is) (dvar 7 rfl) (de_non) rfl) (de_int) (dvar 7 rfl)) (da_cons (DR.frz (m_index rfl (dvar 4 rfl) (da_cons (dvar 9 rfl) (da_nil) rfl))) (da_nil) rfl) rfl) rfl) rfl) rfl))) (da_nil) rfl)) rfl)) rfl) <|
  dss_one (ds_ret (dr_cmp (fun _ S => opok_lt (S.room rfl).units) (DR.frz (dr_ix rfl (dvar 2 rfl) (de_int) rfl)) (DR.frz (dr_ix rfl (dvar 2 rfl) (de_int) rfl)) rfl))
/-! law -/
noncomputable def l_law_0 : SM :=
  sIf (tB (rOp neD (eFrz (rMeth "list" countM (eVar 6) (aCons (eVar 7) (aNil)))) (eFrz (rMeth "list" countM (eVar 4) (aCons (eVar 7) (aNil)))))) (sRet (rVal (eC (.bl false)))) (sPass)
noncomputable def l_law_1 : SM :=
  sIf (tTru (eFrz (rCall f__law_is_ahead (aCons (eVar 8) (aCons (eVar 7) (aNil)))))) (sRet (rVal (eC (.bl false)))) (sPass)
noncomputable def l_law_2 : SM :=
  sSeq (sSet 4 (eFrz (rComp [9] (iRange1 (eFrz (rCall f__law_below (aCons (eVar 1) (aCons (eC (.int 12)) (aNil)))))) (.var 9) (tTrue) (eFrz (rCall f__law_some_sending (aCons (eVar 1) (aCons (eVar 2) (aNil)))))))) <|
  sSeq (sSet 4 (eFrz (rOp addD (eFrz (rOp addD (eVar 4) (eFrz (rComp [7] (iSeq (eFrz (rSlice (eVar 4) (oNone) (oSome (eC (.int 3)))))) (.var 7) (tTrue) (eFrz (rOp addD (eFrz (rSlice (eVar 7) (oNone) (oSome (eC (.int 4))))) (eTup (aCons (eC (.str "shut")) (aNil))))))))) (eFrz (rSlice (eVar 4) (oNone) (oSome (eC (.int 2)))))))) <|
  sSeq (sSet 5 (eFrz (rB listD (aCons (eVar 4) (aNil))))) <|
  sSeq (sSet 6 (eOwn (rCall f_ordered (aCons (eVar 4) (aNil))))) <|
  sSeq (sIf (tOr2 (tB (rOp neD (eVar 4) (eVar 5))) (tOr2 (tNot1 (tTru (eFrz (rIs (eVar 6) [.list])))) (tB (rOp neD (eFrz (rB lenD (aCons (eVar 6) (aNil)))) (eFrz (rB lenD (aCons (eVar 4) (aNil)))))))) (sRet (rVal (eC (.bl false)))) (sPass)) <|
  sSeq (sFor (iSeq (eVar 4)) (.var 7) l_law_0) <|
  sSeq (sFor (iZipD (eFrz (rSlice (eVar 6) (oNone) (oSome (eNeg (eC (.int 1)))))) (eFrz (rSlice (eVar 6) (oSome (eC (.int 1))) (oNone)))) (.tup [.var 7, .var 8]) l_law_1) <|
  sSeq (sExp (rMeth "list" appendM (eVar 6) (aCons (eC .non) (aNil)))) <|
  sIf (tOr2 (tB (rOp neD (eFrz (rB lenD (aCons (eFrz (rCall f_ordered (aCons (eVar 4) (aNil)))) (aNil)))) (eFrz (rB lenD (aCons (eVar 4) (aNil)))))) (tB (rOp neD (eFrz (rCall f_ordered (aCons (eFrz (rLst (aNil))) (aNil)))) (eFrz (rLst (aNil)))))) (sRet (rVal (eC (.bl false)))) (sPass)
noncomputable def e_law : SM :=
  sSeq (sSet 1 (eOwn (rCall f__law_pot_of (aCons (eVar 0) (aNil))))) <|
  sSeq (sSet 2 (eFrz (rLst (aCons (eC (.int 0)) (aCons (eC (.int 1)) (aCons (eC (.int 2)) (aCons (eFrz (rCall f__law_below (aCons (eVar 1) (aCons (eFrz (rOp powD (eC (.int 10)) (eC (.int 12)))) (aNil))))) (aNil)))))))) <|
  sSeq (sFor (iRange1 (eC (.int 4))) (.var 3) l_law_2) <|
  sRet (rVal (eC (.bl true)))
noncomputable def f_law : FM := evDef 9 e_law
noncomputable def i_law : FnI := ⟨"law", 1, f_law⟩
noncomputable def c_law : SI := { N := ["script", "pot", "some", "turn", "lots", "before", "found", "one", "other", "lap"], sc := defScope s_law, fn := fun _ => true, calm := true, fs := [i__law_pot_of, i__law_below, i__law_some_sending, i_ordered, i__law_is_ahead], consts := [], excs := [], blts := ["range", "list", "isinstance", "len", "zip"], kds := [] }
theorem w_law : DSs c_law (defBody s_law) e_law :=
  dss_cons (s_set 1 rfl (DR.own (d_call i__law_pot_of (.head _) rfl rfl (da_cons (dvar 0 rfl) (da_nil) rfl) rfl (aCons_len aNil_len))) rfl) <|
  dss_cons (s_set 2 rfl (DR.frz (dr_lst (da_cons (de_int) (da_cons (de_int) (da_cons (de_int) (da_cons (DR.frz (d_call i__law_below (.tail _ (.head _)) rfl rfl (da_cons (dvar 1 rfl) (da_cons (DR.frz (dr_bin (fun _ _ => opok_pow) (de_int) (de_int))) (da_nil) rfl) rfl) rfl (aCons_len (aCons_len aNil_len)))) (da_nil) rfl) rfl) rfl) rfl))) rfl) <|
  dss_cons (ds_for rfl (d_range1 rfl (de_int) rfl) (t_var 3 rfl) (dss_cons (s_comp 4 [("lap", 9)] (.inl rfl) rfl rfl rfl (d_range1 rfl (DR.frz (d_call i__law_below (.tail _ (.head _)) rfl rfl (da_cons (dvar 1 rfl) (da_cons (de_int) (da_nil) rfl) rfl) rfl (aCons_len (aCons_len aNil_len)))) rfl) (t_var 9 rfl) (dts_nil) (DR.frz (d_call i__law_some_sending (.tail _ (.tail _ (.head _))) rfl rfl (da_cons (dvar 1 rfl) (da_cons (dvar 2 rfl) (da_nil) rfl) rfl) rfl (aCons_len (aCons_len aNil_len))))) <|
  dss_cons (s_set 4 rfl (DR.frz (dr_bin (fun _ _ => opok_add) (DR.frz (dr_bin (fun _ _ => opok_add) (dvar 4 rfl) (DR.frz (r_comp [("one", 7)] rfl (di_seq (DR.frz (dr_slice (dvar 4 rfl) (do_none) (do_some (de_int))))) (t_var 7 rfl) (dts_nil) (DR.frz (dr_bin (fun _ _ => opok_add) (DR.frz (dr_slice (dvar 7 rfl) (do_none) (do_some (de_int)))) (de_tup (da_cons (de_str) (da_nil) rfl)))))))) (DR.frz (dr_slice (dvar 4 rfl) (do_none) (do_some (de_int)))))) rfl) <|
  dss_cons (s_set 5 rfl (DR.frz (d_list rfl (da_cons (dvar 4 rfl) (da_nil) rfl) rfl)) rfl) <|
  dss_cons (s_set 6 rfl (DR.own (d_call i_ordered (.tail _ (.tail _ (.tail _ (.head _)))) rfl rfl (da_cons (dvar 4 rfl) (da_nil) rfl) rfl (aCons_len aNil_len))) rfl) <|
  dss_cons (ds_if (DW.dt (dw_or (dt_cmp (fun _ S => opok_ne (S.room rfl).units) (dvar 4 rfl) (dvar 5 rfl) rfl) (dw_or (dt_not (dt_val (DR.frz (d_is .list rfl (dvar 6 rfl) rfl (by kernel_rfl))) rfl)) (dw_one (dt_cmp (fun _ S => opok_ne (S.room rfl).units) (DR.frz (d_len rfl (da_cons (dvar 6 rfl) (da_nil) rfl) rfl)) (DR.frz (d_len rfl (da_cons (dvar 4 rfl) (da_nil) rfl) rfl)) rfl))))) (dss_one (ds_ret (DE.val (de_bl)))) (dss_nil)) <|
  dss_cons (ds_for rfl (di_seq (dvar 4 rfl)) (t_var 7 rfl) (dss_one (ds_if (dt_cmp (fun _ S => opok_ne (S.room rfl).units) (DR.frz (m_count rfl rfl (dvar 6 rfl) (da_cons (dvar 7 rfl) (da_nil) rfl))) (DR.frz (m_count rfl rfl (dvar 4 rfl) (da_cons (dvar 7 rfl) (da_nil) rfl))) rfl) (dss_one (ds_ret (DE.val (de_bl)))) (dss_nil))) rfl) <|
  dss_cons (ds_for rfl (d_zip rfl (DR.frz (dr_slice (dvar 6 rfl) (do_none) (do_some (de_neg (de_int))))) (DR.frz (dr_slice (dvar 6 rfl) (do_some (de_int)) (do_none))) rfl rfl) (dg_tup rfl (dgs_cons (t_var 7 rfl) (dgs_cons (t_var 8 rfl) (dgs_nil) rfl) rfl) rfl rfl) (dss_one (ds_if (dt_val (DR.frz (d_call i__law_is_ahead (.tail _ (.tail _ (.tail _ (.tail _ (.head _))))) rfl rfl (da_cons (dvar 8 rfl) (da_cons (dvar 7 rfl) (da_nil) rfl) rfl) rfl (aCons_len (aCons_len aNil_len)))) rfl) (dss_one (ds_ret (DE.val (de_bl)))) (dss_nil))) rfl) <|
  dss_cons (ds_exp (m_append rfl (dvar 6 rfl) (da_cons (de_non) (da_nil) rfl)) rfl) <|
  dss_one (ds_if (DW.dt (dw_or (dt_cmp (fun _ S => opok_ne (S.room rfl).units) (DR.frz (d_len rfl (da_cons (DR.frz (d_call i_ordered (.tail _ (.tail _ (.tail _ (.head _)))) rfl rfl (da_cons (dvar 4 rfl) (da_nil) rfl) rfl (aCons_len aNil_len))) (da_nil) rfl) rfl)) (DR.frz (d_len rfl (da_cons (dvar 4 rfl) (da_nil) rfl) rfl)) rfl) (dw_one (dt_cmp (fun _ S => opok_ne (S.room rfl).units) (DR.frz (d_call i_ordered (.tail _ (.tail _ (.tail _ (.head _)))) rfl rfl (da_cons (DR.frz (dr_lst (da_nil))) (da_nil) rfl) rfl (aCons_len aNil_len))) (DR.frz (dr_lst (da_nil))) rfl)))) (dss_one (ds_ret (DE.val (de_bl)))) (dss_nil))) rfl) <|
  dss_one (ds_ret (DE.val (de_bl)))
end Lk04
end
section
namespace Lk04
open PySem PySem.Spec PyProof.Rows L2 Cut
section
variable {P : Program} {w : World} {K : PySem.W.Frag} {h base : Heap} {mg : Str → Option Value}
theorem x_ex (c : He.SaysX faD fnD tsD [] exD w h K) : constB K "WAYS" k_WAYS = true ∧ constB K "ENDS" k_ENDS = true ∧ tupB K "WAYS" l_WAYS = true ∧ tupB K "ENDS" l_ENDS = true := by
  have e : exD K = true := c.more
  unfold exD at e
  simp only [Bool.and_eq_true, and_assoc] at e
  exact e
theorem sc__law_pot_of : FnScope c__law_pot_of.N ["script"] (defScope s__law_pot_of) := ⟨rfl, rfl, rfl, by decide +kernel, rfl, by decide +kernel, by decide +kernel⟩
theorem x__law_pot_of (kin : K.In base) (ns : base.Ns mainGlobals mg) (c : He.SaysX faD fnD tsD [] exD w h K) : FnX P w K mg base 1 i__law_pot_of := by
  obtain ⟨fd, F⟩ := c.t.d.def_ 0 (d := ⟨("_law_pot_of", none), "_law_pot_of", "_law_pot_of", defArgs s__law_pot_of, defBody s__law_pot_of, defScope s__law_pot_of, [], []⟩) rfl
  exact F.okX (c := c__law_pot_of) (g := e__law_pot_of) (ps := ["script"]) (He.glo_ok kin ns (c.t.d.fact 0 (f := .glo "_law_pot_of") rfl)) sc__law_pot_of (fun _ _ _ _ _ _ us hl => match us, hl with | [_], _ => rfl) rfl rfl
    (AllX.nil) (ConsX.nil)
    (.cons (He.free_ok kin ns (c.t.d.fact 10 (f := .free "abs") rfl)) (.cons (He.free_ok kin ns (c.t.d.fact 11 (f := .free "enumerate") rfl)) (BltX.nil)))
    (KdsX.nil) w__law_pot_of rfl rfl
theorem sc__law_kneaded : FnScope c__law_kneaded.N ["seed", "lap"] (defScope s__law_kneaded) := ⟨rfl, rfl, rfl, by decide +kernel, rfl, by decide +kernel, by decide +kernel⟩
theorem x__law_kneaded (kin : K.In base) (ns : base.Ns mainGlobals mg) (c : He.SaysX faD fnD tsD [] exD w h K) : FnX P w K mg base 1 i__law_kneaded := by
  obtain ⟨fd, F⟩ := c.t.d.def_ 1 (d := ⟨("_law_kneaded", none), "_law_kneaded", "_law_kneaded", defArgs s__law_kneaded, defBody s__law_kneaded, defScope s__law_kneaded, [], []⟩) rfl
  exact F.okX (c := c__law_kneaded) (g := e__law_kneaded) (ps := ["seed", "lap"]) (He.glo_ok kin ns (c.t.d.fact 1 (f := .glo "_law_kneaded") rfl)) sc__law_kneaded (fun _ _ _ _ _ _ us hl => match us, hl with | [_, _], _ => rfl) rfl rfl
    (AllX.nil) (ConsX.nil)
    (.cons (He.free_ok kin ns (c.t.d.fact 12 (f := .free "int") rfl)) (.cons (He.free_ok kin ns (c.t.d.fact 13 (f := .free "range") rfl)) (BltX.nil)))
    (KdsX.nil) w__law_kneaded rfl rfl
theorem sc__law_below : FnScope c__law_below.N ["pot", "bound"] (defScope s__law_below) := ⟨rfl, rfl, rfl, by decide +kernel, rfl, by decide +kernel, by decide +kernel⟩
theorem x__law_below (kin : K.In base) (ns : base.Ns mainGlobals mg) (c : He.SaysX faD fnD tsD [] exD w h K) : FnX P w K mg base 2 i__law_below := by
  obtain ⟨fd, F⟩ := c.t.d.def_ 2 (d := ⟨("_law_below", none), "_law_below", "_law_below", defArgs s__law_below, defBody s__law_below, defScope s__law_below, [], []⟩) rfl
  exact F.okX (c := c__law_below) (g := e__law_below) (ps := ["pot", "bound"]) (He.glo_ok kin ns (c.t.d.fact 2 (f := .glo "_law_below") rfl)) sc__law_below (fun _ _ _ _ _ _ us hl => match us, hl with | [_, _], _ => rfl) rfl rfl
    (.cons (x__law_kneaded kin ns c) (by decide) (AllX.nil)) (ConsX.nil)
    (.cons (He.free_ok kin ns (c.t.d.fact 14 (f := .free "len") rfl)) (.cons (He.free_ok kin ns (c.t.d.fact 12 (f := .free "int") rfl)) (BltX.nil)))
    (KdsX.nil) w__law_below rfl rfl
theorem sc__law_pick : FnScope c__law_pick.N ["pot", "items"] (defScope s__law_pick) := ⟨rfl, rfl, rfl, by decide +kernel, rfl, by decide +kernel, by decide +kernel⟩
theorem x__law_pick (kin : K.In base) (ns : base.Ns mainGlobals mg) (c : He.SaysX faD fnD tsD [] exD w h K) : FnX P w K mg base 3 i__law_pick := by
  obtain ⟨fd, F⟩ := c.t.d.def_ 3 (d := ⟨("_law_pick", none), "_law_pick", "_law_pick", defArgs s__law_pick, defBody s__law_pick, defScope s__law_pick, [], []⟩) rfl
  exact F.okX (c := c__law_pick) (g := e__law_pick) (ps := ["pot", "items"]) (He.glo_ok kin ns (c.t.d.fact 3 (f := .glo "_law_pick") rfl)) sc__law_pick (fun _ _ _ _ _ _ us hl => match us, hl with | [_, _], _ => rfl) rfl rfl
    (.cons (x__law_below kin ns c) (by decide) (AllX.nil)) (ConsX.nil)
    (.cons (He.free_ok kin ns (c.t.d.fact 14 (f := .free "len") rfl)) (BltX.nil))
    (KdsX.nil) w__law_pick rfl rfl
theorem sc__law_some_value : FnScope c__law_some_value.N ["pot", "some"] (defScope s__law_some_value) := ⟨rfl, rfl, rfl, by decide +kernel, rfl, by decide +kernel, by decide +kernel⟩
theorem x__law_some_value (kin : K.In base) (ns : base.Ns mainGlobals mg) (c : He.SaysX faD fnD tsD [] exD w h K) : FnX P w K mg base 4 i__law_some_value := by
  obtain ⟨fd, F⟩ := c.t.d.def_ 4 (d := ⟨("_law_some_value", none), "_law_some_value", "_law_some_value", defArgs s__law_some_value, defBody s__law_some_value, defScope s__law_some_value, [], []⟩) rfl
  exact F.okX (c := c__law_some_value) (g := e__law_some_value) (ps := ["pot", "some"]) (He.glo_ok kin ns (c.t.d.fact 4 (f := .glo "_law_some_value") rfl)) sc__law_some_value (fun _ _ _ _ _ _ us hl => match us, hl with | [_, _], _ => rfl) rfl rfl
    (.cons (x__law_pick kin ns c) (by decide) (AllX.nil)) (ConsX.nil)
    (.cons (He.free_ok kin ns (c.t.d.fact 15 (f := .free "max") rfl)) (.cons (He.free_ok kin ns (c.t.d.fact 16 (f := .free "min") rfl)) (BltX.nil)))
    (KdsX.nil) w__law_some_value rfl rfl
theorem sc__law_some_sending : FnScope c__law_some_sending.N ["pot", "some"] (defScope s__law_some_sending) := ⟨rfl, rfl, rfl, by decide +kernel, rfl, by decide +kernel, by decide +kernel⟩
theorem x__law_some_sending (kin : K.In base) (ns : base.Ns mainGlobals mg) (c : He.SaysX faD fnD tsD [] exD w h K) : FnX P w K mg base 5 i__law_some_sending := by
  obtain ⟨fd, F⟩ := c.t.d.def_ 5 (d := ⟨("_law_some_sending", none), "_law_some_sending", "_law_some_sending", defArgs s__law_some_sending, defBody s__law_some_sending, defScope s__law_some_sending, [], []⟩) rfl
  exact F.okX (c := c__law_some_sending) (g := e__law_some_sending) (ps := ["pot", "some"]) (He.glo_ok kin ns (c.t.d.fact 5 (f := .glo "_law_some_sending") rfl)) sc__law_some_sending (fun _ _ _ _ _ _ us hl => match us, hl with | [_, _], _ => rfl) rfl rfl
    (.cons (x__law_some_value kin ns c) (by decide) (.cons (x__law_pick kin ns c) (by decide) (.cons (x__law_below kin ns c) (by decide) (AllX.nil)))) (ConsX.nil)
    (.cons (He.free_ok kin ns (c.t.d.fact 13 (f := .free "range") rfl)) (.cons (He.free_ok kin ns (c.t.d.fact 12 (f := .free "int") rfl)) (.cons (He.free_ok kin ns (c.t.d.fact 15 (f := .free "max") rfl)) (BltX.nil))))
    (KdsX.nil) w__law_some_sending rfl rfl
theorem sc_order_key : FnScope c_order_key.N ["sending"] (defScope s_order_key) := ⟨rfl, rfl, rfl, by decide +kernel, rfl, by decide +kernel, by decide +kernel⟩
theorem x_order_key (kin : K.In base) (ns : base.Ns mainGlobals mg) (c : He.SaysX faD fnD tsD [] exD w h K) : FnX P w K mg base 1 i_order_key := by
  obtain ⟨fd, F⟩ := c.t.d.def_ 6 (d := ⟨("order_key", none), "order_key", "order_key", defArgs s_order_key, defBody s_order_key, defScope s_order_key, [], []⟩) rfl
  exact F.okX (c := c_order_key) (g := e_order_key) (ps := ["sending"]) (He.glo_ok kin ns (c.t.d.fact 6 (f := .glo "order_key") rfl)) sc_order_key (fun _ _ _ _ _ _ us hl => match us, hl with | [_], _ => rfl) rfl rfl
    (AllX.nil) (.cons (constB_ok kin ns (x_ex c).2.1) (.cons (constB_ok kin ns (x_ex c).1) (ConsX.nil)))
    (BltX.nil)
    (KdsX.nil) w_order_key rfl rfl (ExcsX.nil) (ExmsX.nil) (.cons (tc_at kin ns (x_ex c).2.2.2) (.cons (tc_at kin ns (x_ex c).2.2.1) (FactsX.nil)))
theorem sc_ordered : FnScope c_ordered.N ["sendings"] (defScope s_ordered) := ⟨rfl, rfl, rfl, by decide +kernel, rfl, by decide +kernel, by decide +kernel⟩
theorem x_ordered (kin : K.In base) (ns : base.Ns mainGlobals mg) (c : He.SaysX faD fnD tsD [] exD w h K) : FnX P w K mg base 4 i_ordered := by
  obtain ⟨fd, F⟩ := c.t.d.def_ 7 (d := ⟨("ordered", none), "ordered", "ordered", defArgs s_ordered, defBody s_ordered, defScope s_ordered, [], []⟩) rfl
  exact F.okX (c := c_ordered) (g := e_ordered) (ps := ["sendings"]) (He.glo_ok kin ns (c.t.d.fact 7 (f := .glo "ordered") rfl)) sc_ordered (fun _ _ _ _ _ _ us hl => match us, hl with | [_], _ => rfl) rfl rfl
    (AllX.nil) (ConsX.nil)
    (.cons (He.free_ok kin ns (c.t.d.fact 17 (f := .free "sorted") rfl)) (BltX.nil))
    (KdsX.nil) w_ordered rfl rfl (ExcsX.nil) (ExmsX.nil) (.cons (sk_at (x_order_key kin ns c) (by decide)) (FactsX.nil))
theorem sc__law_is_ahead : FnScope c__law_is_ahead.N ["one", "other"] (defScope s__law_is_ahead) := ⟨rfl, rfl, rfl, by decide +kernel, rfl, by decide +kernel, by decide +kernel⟩
theorem x__law_is_ahead (kin : K.In base) (ns : base.Ns mainGlobals mg) (c : He.SaysX faD fnD tsD [] exD w h K) : FnX P w K mg base 1 i__law_is_ahead := by
  obtain ⟨fd, F⟩ := c.t.d.def_ 8 (d := ⟨("_law_is_ahead", none), "_law_is_ahead", "_law_is_ahead", defArgs s__law_is_ahead, defBody s__law_is_ahead, defScope s__law_is_ahead, [], []⟩) rfl
  exact F.okX (c := c__law_is_ahead) (g := e__law_is_ahead) (ps := ["one", "other"]) (He.glo_ok kin ns (c.t.d.fact 8 (f := .glo "_law_is_ahead") rfl)) sc__law_is_ahead (fun _ _ _ _ _ _ us hl => match us, hl with | [_, _], _ => rfl) rfl rfl
    (AllX.nil) (ConsX.nil)
    (BltX.nil)
    (KdsX.nil) w__law_is_ahead rfl rfl
theorem sc_law : FnScope c_law.N ["script"] (defScope s_law) := ⟨rfl, rfl, rfl, by decide +kernel, rfl, by decide +kernel, by decide +kernel⟩
theorem x_law (kin : K.In base) (ns : base.Ns mainGlobals mg) (c : He.SaysX faD fnD tsD [] exD w h K) : FnX P w K mg base 6 i_law := by
  obtain ⟨fd, F⟩ := c.t.d.def_ 9 (d := ⟨("law", none), "law", "law", defArgs s_law, defBody s_law, defScope s_law, [], []⟩) rfl
  exact F.okX (c := c_law) (g := e_law) (ps := ["script"]) (He.glo_ok kin ns (c.t.d.fact 9 (f := .glo "law") rfl)) sc_law (fun _ _ _ _ _ _ us hl => match us, hl with | [_], _ => rfl) rfl rfl
    (.cons (x__law_pot_of kin ns c) (by decide) (.cons (x__law_below kin ns c) (by decide) (.cons (x__law_some_sending kin ns c) (by decide) (.cons (x_ordered kin ns c) (by decide) (.cons (x__law_is_ahead kin ns c) (by decide) (AllX.nil)))))) (ConsX.nil)
    (.cons (He.free_ok kin ns (c.t.d.fact 13 (f := .free "range") rfl)) (.cons (He.free_ok kin ns (c.t.d.fact 18 (f := .free "list") rfl)) (.cons (He.free_ok kin ns (c.t.d.fact 19 (f := .free "isinstance") rfl)) (.cons (He.free_ok kin ns (c.t.d.fact 14 (f := .free "len") rfl)) (.cons (He.free_ok kin ns (c.t.d.fact 20 (f := .free "zip") rfl)) (BltX.nil))))))
    (KdsX.nil) w_law rfl rfl
theorem factsD {f : Addr} (kin : K.In h) (ns : h.Ns mainGlobals mg) (hfa : mg ("law" : Str) = some (.ref f)) (c : He.SaysX faD fnD tsD [] exD w h K) :
    ∃ fd : FuncData, (∀ (s : Shared) (v : Value), BindsTo s fd ⟨[v], []⟩ [("script", v)]) ∧ ∀ base : Heap, K.In base → base.Ns mainGlobals mg → FnG P w K mg base 6 f fd ["script"] (spD ⟨K, w, P⟩ mg 1 (evDef 9 e_law)) := by
  obtain ⟨fd, F⟩ := c.t.d.def_ 9 (d := ⟨("law", none), "law", "law", defArgs s_law, defBody s_law, defScope s_law, [], []⟩) rfl
  have e := hfa.symm.trans (He.glo_ok kin ns (c.t.d.fact 9 (f := .glo "law") rfl))
  cases e
  have b := FunD.bindsA (ps := ["script"]) F fun _ _ _ _ _ _ us hl => match us, hl with | [_], _ => rfl
  refine ⟨fd, fun s v => b s [v] rfl, fun base kin ns => ?_⟩
  exact F.okG (c := c_law) (g := e_law) (ps := ["script"]) sc_law rfl rfl
    (.cons (x__law_pot_of kin ns c) (by decide) (.cons (x__law_below kin ns c) (by decide) (.cons (x__law_some_sending kin ns c) (by decide) (.cons (x_ordered kin ns c) (by decide) (.cons (x__law_is_ahead kin ns c) (by decide) (AllX.nil)))))) (ConsX.nil)
    (.cons (He.free_ok kin ns (c.t.d.fact 13 (f := .free "range") rfl)) (.cons (He.free_ok kin ns (c.t.d.fact 18 (f := .free "list") rfl)) (.cons (He.free_ok kin ns (c.t.d.fact 19 (f := .free "isinstance") rfl)) (.cons (He.free_ok kin ns (c.t.d.fact 14 (f := .free "len") rfl)) (.cons (He.free_ok kin ns (c.t.d.fact 20 (f := .free "zip") rfl)) (BltX.nil))))))
    (KdsX.nil) w_law rfl rfl
end
end Lk04
open PySem PySem.W PySem.Calls PyProof.Rows
theorem row_of_k04 (yes : ∀ ns : List Int, ns.length ≤ 63 → ∃ ob', Cut.evDef 9 Lk04.e_law [.scr (ns.map Cut.D.int)] [] = .ok (.val (.bl true)) ob') : PySem.Challenge.rw_cutrelays_k04_sendings_in_order.Holds := by
  w_on; o_law
  refine HandSHeadRun.head_any (r := OpenLaw.row PySem.Challenge.rw_cutrelays_k04_sendings_in_order) (q := view (OpenLaw.row PySem.Challenge.rw_cutrelays_k04_sendings_in_order).prog [13]) (H := Lk04.hk) (ob := Lk04.obD) (M := 3000) (loose := Lk04.looseD) (d := HandSHeadRun.topDef (OpenLaw.row PySem.Challenge.rw_cutrelays_k04_sendings_in_order).prog 13) (kwd := []) Lk04.obD_eq
    (by kernel_rfl) (fun s => by kernel_rfl) Lk04.runD (by kernel_rfl) (by kernel_rfl) (by kernel_rfl) (by rfl) (by first | assumption | decide +kernel) (by decide +kernel) ⟨rfl, rfl, rfl, rfl, rfl, by decide +kernel⟩ ?hw ?hc
  case hw => w_witness2
  case hc =>
    refine Cut.walk_G (l := PySem.Challenge.rw_cutrelays_k04_sendings_in_order) (n := 63) (k := 6) (m := 9) (x := "script") (g := Lk04.e_law) rfl (by decide) (by kernel_rfl) ⟨rfl, by decide, by decide⟩ ?F yes
    intro w mg fa h Y G hmg0
    obtain ⟨K, KX, c⟩ := Y
    have hmg : mg ("law" : PySem.Str) = some (.ref fa) := by
      have e : (HandSHeadRun.topDef (OpenLaw.row PySem.Challenge.rw_cutrelays_k04_sendings_in_order).prog 13).name = ("law" : PySem.Str) := by kernel_rfl
      rw [← e]
      exact hmg0
    obtain ⟨fd, hb, hF⟩ := Lk04.factsD (P := (PySem.Challenge.rw_cutrelays_k04_sendings_in_order).prog) (w := w) KX G hmg c
    exact ⟨K, fd, KX, hb, hF⟩
end
section
namespace Lk04
open PySem L2 Cut
theorem is_below : f__law_below = Draw.f__law_below := rfl
theorem is_pot_of : f__law_pot_of = Draw.f__law_pot_of := rfl
theorem is_some_sending : f__law_some_sending = Lw.f__law_some_sending := rfl
theorem is_ordered : f_ordered = Od.f_ordered := rfl
theorem is_ahead : f__law_is_ahead = Od.f__law_is_ahead := rfl
open Prog Od Store
theorem zipD_mapS (f : Snd → D) : ∀ l m : List Snd, zipD (l.map f) (m.map f) = (l.zip m).map fun p => .tup [f p.1, f p.2]
  | [], _ => by simp [zipD]
  | _ :: _, [] => by simp [zipD]
  | a :: l, b :: m => by simp [zipD, zipD_mapS f l m]
theorem sndsP (l : List Snd) : D.plains (l.map Snd.d) = true ∧ D.depths (l.map Snd.d) ≤ 1 := by
  induction l with
  | nil => simp
  | cons s l ih =>
    have h1 : s.d.plain = true ∧ s.d.depth = 1 := by
      unfold Snd.d
      cases s.told <;> simp [oD]
    simp only [List.map_cons, plains_cons, depths_cons, h1.1, h1.2, ih.1]
    exact ⟨rfl, by have := ih.2; omega⟩
theorem sndP (s : Snd) : s.d.plain = true ∧ s.d.depth = 1 := by
  unfold Snd.d
  cases s.told <;> simp [oD]
def shutS (s : Snd) : Snd := { s with en := .shut }
def lotsS (l : List Snd) : List Snd := l ++ (l.take 3).map shutS ++ l.take 2
theorem lots_ok {l : List Snd} (h : ∀ s ∈ l, s.Ok) : ∀ s ∈ lotsS l, s.Ok := by
  intro s hs
  unfold lotsS at hs
  rcases List.mem_append.mp hs with hs | hs
  · rcases List.mem_append.mp hs with hs | hs
    · exact h s hs
    · obtain ⟨t, ht, rfl⟩ := List.mem_map.mp hs
      exact (h t (List.mem_of_mem_take ht)).shut
  · exact h s (List.mem_of_mem_take hs)
open Draw in
theorem draw_sends {ob : Obs} {n : Nat} (hn : n < ob.length) {vals : List Int} (hv0 : vals ≠ []) (hv : vals.length ≤ 1000) {step : D → Obs → Option (List D × Obs)}
    (hs : ∀ (p p' : List D) (s : Snd) (i : Int), Lw.f__law_some_sending [.ob n, .lst (vals.map D.int)] (at_ ob n p) = .ok (.val s.d) (at_ ob n p') → step (.int i) (at_ ob n p) = some ([s.d], at_ ob n p')) :
    ∀ (m : Nat) (lo : Int) (k : Nat) (p : List D), Pot k p → k + 12 * m < 2 ^ 56 → ∃ (ss : List Snd) (p' : List D), ss.length = m ∧ (∀ s ∈ ss, s.Ok) ∧ lcGo step (rangeD lo m) (at_ ob n p) = some (ss.map Snd.d, at_ ob n p') ∧ Pot (k + 12 * m) p'
  | 0, lo, k, p, hp, _ => ⟨[], p, rfl, fun r hr => absurd hr List.not_mem_nil, rfl, hp⟩
  | m + 1, lo, k, p, hp, hk => by
    obtain ⟨s, p1, h1, h2, e1, hp1⟩ := some_sending hn hp (by omega) hv0 (by omega)
    obtain ⟨ss, p2, g1, g2, g3, g4⟩ := draw_sends hn hv0 hv hs m (lo + 1) (k + 12) p1 hp1 (by omega)
    refine ⟨s :: ss, p2, by rw [List.length_cons, g1], fun x hx => ?_, ?_, g4.mono (by omega)⟩
    · rcases List.mem_cons.mp hx with rfl | hx
      · exact h1
      · exact g2 x hx
    · rw [rangeD, lcGo, hs p p1 s lo e1]
      simp only [g3, List.map_cons, List.singleton_append]
theorem cnt_same {l : List Snd} (s : Snd) : cntD s.d ((sortS l).map Snd.d) = cntD s.d (l.map Snd.d) := by
  unfold cntD
  exact ((sort_perm l).map Snd.d).countP_eq _
theorem in_ok (s : Snd) (l : List Snd) : inOk s.d (l.map Snd.d) = true := by
  unfold inOk
  rw [(sndP s).1, (sndsP l).1]
  have := (sndsP l).2
  simp only [Bool.true_and, decide_eq_true_eq]
  omega
/-- one sending's count -/
theorem one_cnt {ob : Obs} {m : Nat} {l : List Snd} {s : Snd} (hm : ob[m]? = some (some (.lst ((sortS l).map Snd.d)))) (x0 x1 x2 x3 x5 x8 x9 : Option D) :
    l_law_0 ⟨[x0, x1, x2, x3, some (.lst (l.map Snd.d)), x5, some (.ob m), some s.d, x8, x9], ob⟩ = .ok .nx ⟨[x0, x1, x2, x3, some (.lst (l.map Snd.d)), x5, some (.ob m), some s.d, x8, x9], ob⟩ := by
  have t1 : tyD "list" (.ob m) ob = true := by simp [tyD, hm]
  have t2 : tyD "list" (.lst (l.map Snd.d)) ob = true := rfl
  have lk : look ob (.ob m) = .lst ((sortS l).map Snd.d) := by rw [look_ob, hm]; rfl
  have c1 : countM (.ob m) [s.d] ob = some (.val (.int (cntD s.d (l.map Snd.d))), ob) := by
    unfold countM
    rw [lk]
    simp only [in_ok, if_true, cnt_same]
  have c2 : countM (.lst (l.map Snd.d)) [s.d] ob = some (.val (.int (cntD s.d (l.map Snd.d))), ob) := by
    unfold countM
    simp only [look_lst, in_ok, if_true]
  unfold l_law_0
  simp [t1, t2, c1, c2, Prog.ne_int]
/-- a pair -/
theorem one_pair {ob : Obs} {a b : Snd} (ha : a.Ok) (hb : b.Ok) (h : lexB b a = false) (x0 x1 x2 x3 x4 x5 x6 x9 : Option D) :
    l_law_1 ⟨[x0, x1, x2, x3, x4, x5, x6, some a.d, some b.d, x9], ob⟩ = .ok .nx ⟨[x0, x1, x2, x3, x4, x5, x6, some a.d, some b.d, x9], ob⟩ := by
  have e := fun ob => ahead_s hb ha ob
  rw [h] at e
  have lk : ∀ (s : Snd) ob, look ob s.d = s.d := fun _ _ => rfl
  unfold l_law_1
  simp [is_ahead, e, lk]
theorem adj_pair {l : List Snd} (h : l.Pairwise (fun a b => lexB b a = false)) : ∀ p ∈ l.dropLast.zip (l.drop 1), lexB p.2 p.1 = false := by
  induction l with
  | nil => intro p hp; simp at hp
  | cons a l ih =>
    cases l with
    | nil => intro p hp; simp at hp
    | cons b l =>
      intro p hp
      have hp : p ∈ (a :: (b :: l).dropLast).zip (b :: l) := by simpa using hp
      rw [List.zip_cons_cons] at hp
      obtain ⟨h1, h2⟩ := List.pairwise_cons.mp h
      rcases List.mem_cons.mp hp with rfl | hp
      · exact h1 b List.mem_cons_self
      · exact ih h2 p (by simpa using hp)
theorem adj_mem {l : List Snd} : ∀ p ∈ l.dropLast.zip (l.drop 1), p.1 ∈ l ∧ p.2 ∈ l := fun p hp => by
  obtain ⟨h1, h2⟩ := List.of_mem_zip (a := p.1) (b := p.2) hp
  exact ⟨List.dropLast_subset _ h1, List.mem_of_mem_drop h2⟩
theorem shut_cut (s : Snd) : addD (.tup (cut s.l none (some 4))) (.tup [.str "shut"]) = some (.val (shutS s).d) := by
  rw [show (some (4 : Int)) = some ((4 : Nat) : Int) from rfl, cut_to, add_tup (by simp [Snd.l])]
  rfl
theorem shut_comp {own : List Nat} (l : List Snd) (hl : l.length ≤ 1000) (x0 x1 x2 x3 x4 x5 x6 x8 x9 : Option D) (ob : Obs) :
    lcGo (lcTurn (.var 7) tTrue (lcElt (eFrz (rOp addD (eFrz (rSlice (eVar 7) (oNone) (oSome (eC (.int 4))))) (eTup (aCons (eC (.str "shut")) (aNil)))))) [x0, x1, x2, x3, x4, x5, x6, none, x8, x9]) (l.map Snd.d) ob = some ((l.map shutS).map Snd.d, ob) := by
  have hs : ∀ s : Snd, sliceD s.d none (some 4) = some (.val (.tup (cut s.l none (some 4)))) := fun _ => rfl
  have lk : ∀ (s : Snd) ob, look ob s.d = s.d := fun _ _ => rfl
  induction l with
  | nil => rfl
  | cons s l ih =>
    have ih := ih (by rw [List.length_cons] at hl; omega)
    have e : lcTurn (.var 7) tTrue (lcElt (eFrz (rOp addD (eFrz (rSlice (eVar 7) (oNone) (oSome (eC (.int 4))))) (eTup (aCons (eC (.str "shut")) (aNil)))))) [x0, x1, x2, x3, x4, x5, x6, none, x8, x9] s.d ob = some ([(shutS s).d], ob) := by
      simp [lcTurn, lcElt, hs, lk, line_ok, shut_cut]
    rw [List.map_cons, lcGo, e]
    simp only [ih, List.map_cons, List.singleton_append]
open Draw in
theorem turn {ob : Obs} (hn : 0 < ob.length) {k0 : Nat} {p : List D} (hp : Pot k0 p) (hk : k0 < 2 ^ 40) {vals : List Int} (hv0 : vals ≠ []) (hv : vals.length ≤ 1000) (x0 x3 x4 x5 x6 x7 x8 x9 : Option D) :
    ∃ y4 y5 y6 y7 y8 y9 p' o', l_law_2 ⟨[x0, some (.ob 0), some (.lst (vals.map D.int)), x3, x4, x5, x6, x7, x8, x9], at_ ob 0 p⟩ =
      .ok .nx ⟨[x0, some (.ob 0), some (.lst (vals.map D.int)), x3, y4, y5, y6, y7, y8, y9], at_ (ob ++ [some o']) 0 p'⟩ ∧ Pot (k0 + 200) p' := by
  obtain ⟨mi, p1, e1, ⟨hm1, hm2⟩, hp1⟩ := below hn hp (by omega) (b := 12) (by omega) (by omega)
  obtain ⟨m, rfl⟩ : ∃ j : Nat, mi = j := ⟨mi.toNat, by omega⟩
  obtain ⟨ss, p2, hlen, hok, e2, hp2⟩ := draw_sends hn hv0 hv (step := lcTurn (.var 9) tTrue (lcElt (eFrz (rCall f__law_some_sending (aCons (eVar 1) (aCons (eVar 2) (aNil)))))) [x0, some (.ob 0), some (.lst (vals.map D.int)), x3, x4, x5, x6, x7, x8, none])
    (fun p p' s i e => by simp [lcTurn, lcElt, is_some_sending, e]) m 0 (k0 + 1) p1 hp1 (by omega)
  have hlok := lots_ok hok
  have hll : (lotsS ss).length ≤ 40 := by
    unfold lotsS
    simp only [List.length_append, List.length_map, List.length_take]
    omega
  have hss : ss.length ≤ 12 := by omega
  -- the list drawn
  have c1 : ∀ x4, rComp [9] (iRange1 (eFrz (rCall f__law_below (aCons (eVar 1) (aCons (eC (.int 12)) (aNil)))))) (.var 9) (tTrue) (eFrz (rCall f__law_some_sending (aCons (eVar 1) (aCons (eVar 2) (aNil))))) ⟨[x0, some (.ob 0), some (.lst (vals.map D.int)), x3, x4, x5, x6, x7, x8, x9], at_ ob 0 p⟩ =
      (cfin (lcGo (lcTurn (.var 9) tTrue (lcElt (eFrz (rCall f__law_some_sending (aCons (eVar 1) (aCons (eVar 2) (aNil)))))) [x0, some (.ob 0), some (.lst (vals.map D.int)), x3, x4, x5, x6, x7, x8, none]) (rangeD 0 m) (at_ ob 0 p1)) ⟨[x0, some (.ob 0), some (.lst (vals.map D.int)), x3, x4, x5, x6, x7, x8, x9], at_ ob 0 p1⟩) := fun x4 => by
    have h1 : iRange1 (eFrz (rCall f__law_below (aCons (eVar 1) (aCons (eC (.int 12)) (aNil))))) ⟨[x0, some (.ob 0), some (.lst (vals.map D.int)), x3, x4, x5, x6, x7, x8, x9], at_ ob 0 p⟩ = .ok (rangeD 0 m) ⟨[x0, some (.ob 0), some (.lst (vals.map D.int)), x3, x4, x5, x6, x7, x8, x9], at_ ob 0 p1⟩ := by
      rw [ev_range1, ev_frz]
      have : rCall f__law_below (aCons (eVar 1) (aCons (eC (.int 12)) (aNil))) ⟨[x0, some (.ob 0), some (.lst (vals.map D.int)), x3, x4, x5, x6, x7, x8, x9], at_ ob 0 p⟩ = .ok (.val (.int m)) ⟨[x0, some (.ob 0), some (.lst (vals.map D.int)), x3, x4, x5, x6, x7, x8, x9], at_ ob 0 p1⟩ := by
        simp only [ev_call, ev_cons, ev_var, vr_0, vr_1, vr_some, bind_ok, ev_C, ev_nil, is_below, e1, fin_ok]
      rw [this, bind_ok, bind_ok, toD_val, rng_int (by omega)]
      simp
    rw [ev_comp, h1, bind_ok]
    rfl
  have hsn : ∀ ob, f_ordered [.lst ((lotsS ss).map Snd.d)] ob = .ok (.fl ((sortS (lotsS ss)).map Snd.d)) ob := fun ob => ordered_s hlok (by omega) ob
  have hsn0 : ∀ ob, f_ordered [.lst []] ob = .ok (.fl []) ob := fun ob => by
    have e := ordered_s (l := []) (fun s hs => absurd hs List.not_mem_nil) (by simp) ob
    rw [show sortS [] = [] by simp [sortS]] at e
    exact e
  have hsl := sort_len (lotsS ss)
  have hasc := sort_asc (lotsS ss)
  have hsok : ∀ s ∈ sortS (lotsS ss), s.Ok := fun s hs => hlok s (sort_mem.mp hs)
  have hsh := shut_comp (own := [7]) (ss.take 3) (by rw [List.length_take]; omega) x0 (some (.ob 0)) (some (.lst (vals.map D.int))) x3 (some (.lst (ss.map Snd.d))) x5 x6 x8 x9 (at_ ob 0 p2)
  have hadd : addD (.lst (ss.map Snd.d)) (.lst (((ss.take 3).map shutS).map Snd.d)) = some (.fl ((ss ++ (ss.take 3).map shutS).map Snd.d)) := by
    rw [add_lst (by simp only [List.length_map, List.length_take]; omega), List.map_append]
  have hadd2 : addD (.lst ((ss ++ (ss.take 3).map shutS).map Snd.d)) (.lst ((ss.take 2).map Snd.d)) = some (.fl ((lotsS ss).map Snd.d)) := by
    rw [add_lst (by simp only [List.length_map, List.length_take, List.length_append]; omega), ← List.map_append]
    rfl
  have sl3 : sliceD (.lst (ss.map Snd.d)) none (some 3) = some (.fl ((ss.take 3).map Snd.d)) := by
    show some (Rv.fl (cut _ _ _)) = _
    rw [cut_map, show (some (3 : Int)) = some ((3 : Nat) : Int) from rfl, cut_to]
  have sl2 : sliceD (.lst (ss.map Snd.d)) none (some 2) = some (.fl ((ss.take 2).map Snd.d)) := by
    show some (Rv.fl (cut _ _ _)) = _
    rw [cut_map, show (some (2 : Int)) = some ((2 : Nat) : Int) from rfl, cut_to]
  have hlist : listD [.lst ((lotsS ss).map Snd.d)] = some (.fl ((lotsS ss).map Snd.d)) := rfl
  have hne := ne_refl (d := .lst ((lotsS ss).map Snd.d)) (by rw [plain_lst]; exact (sndsP _).1) (by rw [depth_lst]; have := (sndsP (lotsS ss)).2; omega)
  generalize lotsS ss = L at *
  -- behind the list
  have hL : ob.length ≠ 0 := by omega
  have getn : (at_ ob 0 p2 ++ [some (Ob.lst ((sortS L).map Snd.d))])[ob.length]? = some (some (.lst ((sortS L).map Snd.d))) := by
    rw [List.getElem?_append_right (by simp)]
    simp
  obtain ⟨t1, f1, y7, rfl⟩ := for_all (t := .var 7) (fs := l_law_0) (fun _ st => ∃ y7, st = ⟨[x0, some (.ob 0), some (.lst (vals.map D.int)), x3, some (.lst (L.map Snd.d)), some (.lst (L.map Snd.d)), some (.ob ob.length), y7, x8, x9], at_ ob 0 p2 ++ [some (Ob.lst ((sortS L).map Snd.d))]⟩)
    (L.map Snd.d) 0 ⟨[x0, some (.ob 0), some (.lst (vals.map D.int)), x3, some (.lst (L.map Snd.d)), some (.lst (L.map Snd.d)), some (.ob ob.length), x7, x8, x9], at_ ob 0 p2 ++ [some (Ob.lst ((sortS L).map Snd.d))]⟩ ⟨x7, rfl⟩ (by
      rintro i d st hd ⟨y7, rfl⟩
      obtain ⟨s, _, rfl⟩ := List.mem_map.mp (List.mem_of_getElem? hd)
      exact ⟨_, rfl, _, .inl (one_cnt getn _ _ _ _ _ _ _), some s.d, rfl⟩)
  obtain ⟨t2, f2, z7, z8, rfl⟩ := for_all (t := .tup [.var 7, .var 8]) (fs := l_law_1) (fun _ st => ∃ y7 y8, st = ⟨[x0, some (.ob 0), some (.lst (vals.map D.int)), x3, some (.lst (L.map Snd.d)), some (.lst (L.map Snd.d)), some (.ob ob.length), y7, y8, x9], at_ ob 0 p2 ++ [some (Ob.lst ((sortS L).map Snd.d))]⟩)
    (((sortS L).dropLast.zip ((sortS L).drop 1)).map fun p => .tup [p.1.d, p.2.d]) 0 ⟨[x0, some (.ob 0), some (.lst (vals.map D.int)), x3, some (.lst (L.map Snd.d)), some (.lst (L.map Snd.d)), some (.ob ob.length), y7, x8, x9], at_ ob 0 p2 ++ [some (Ob.lst ((sortS L).map Snd.d))]⟩ ⟨y7, x8, rfl⟩ (by
      rintro i d st hd ⟨y7, y8, rfl⟩
      obtain ⟨q, hq, rfl⟩ := List.mem_map.mp (List.mem_of_getElem? hd)
      have h1 := adj_pair hasc q hq
      obtain ⟨h2, h3⟩ := adj_mem q hq
      exact ⟨_, rfl, _, .inl (one_pair (hsok _ h2) (hsok _ h3) h1 _ _ _ _ _ _ _ _), some q.1.d, some q.2.d, rfl⟩)
  refine ⟨some (.lst (L.map Snd.d)), some (.lst (L.map Snd.d)), some (.ob ob.length), z7, z8, x9, p2, .lst ((sortS L).map Snd.d ++ [.non]), ?_, hp2.mono (by omega)⟩
  have lkn : look (at_ ob 0 p2 ++ [some (Ob.lst ((sortS L).map Snd.d))]) (.ob ob.length) = .lst ((sortS L).map Snd.d) := by rw [look_ob, getn]; rfl
  have tyn : tyD "list" (.ob ob.length) (at_ ob 0 p2 ++ [some (Ob.lst ((sortS L).map Snd.d))]) = true := by simp [tyD, getn]
  have app : appendM (.ob ob.length) [.non] (at_ ob 0 p2 ++ [some (Ob.lst ((sortS L).map Snd.d))]) = some (.val .non, at_ (ob ++ [some (.lst ((sortS L).map Snd.d ++ [.non]))]) 0 p2) := by
    have e3 : (at_ ob 0 p2 ++ [some (Ob.lst ((sortS L).map Snd.d))]).set ob.length (some (.lst ((sortS L).map Snd.d ++ [.non]))) = at_ (ob ++ [some (.lst ((sortS L).map Snd.d ++ [.non]))]) 0 p2 := by
      rw [at_app hn, at_setne hL]
      simp
    have hz : ((sortS L).map Snd.d).length < sizeLine := by
      have := sizeLine_eq
      rw [List.length_map, hsl]
      omega
    unfold appendM
    simp only [getn, hz, if_true, e3]
  have ln1 : lenD [.lst ((sortS L).map Snd.d)] = some (.val (.int L.length)) := by
    show some (Rv.val (.int (((sortS L).map Snd.d).length : Int))) = _
    rw [List.length_map, hsl]
  have ln2 : lenD [.lst (L.map Snd.d)] = some (.val (.int L.length)) := by
    show some (Rv.val (.int ((L.map Snd.d).length : Int))) = _
    rw [List.length_map]
  have own : ∀ x5 x6, eOwn (rCall f_ordered (aCons (eVar 4) (aNil))) ⟨[x0, some (.ob 0), some (.lst (vals.map D.int)), x3, some (.lst (L.map Snd.d)), x5, x6, x7, x8, x9], at_ ob 0 p2⟩ = .ok (.ob ob.length) ⟨[x0, some (.ob 0), some (.lst (vals.map D.int)), x3, some (.lst (L.map Snd.d)), x5, x6, x7, x8, x9], at_ ob 0 p2 ++ [some (Ob.lst ((sortS L).map Snd.d))]⟩ := fun x5 x6 => by
    simp [hsn]
  have slA : sliceD (.lst ((sortS L).map Snd.d)) none (some (-1)) = some (.fl ((sortS L).dropLast.map Snd.d)) := by
    show some (Rv.fl (cut _ _ _)) = _
    rw [cut_map, cut_init]
  have slB : sliceD (.lst ((sortS L).map Snd.d)) (some 1) none = some (.fl (((sortS L).drop 1).map Snd.d)) := by
    show some (Rv.fl (cut _ _ _)) = _
    rw [cut_map, show (some (1 : Int)) = some ((1 : Nat) : Int) from rfl, cut_at]
  have hzz := zipD_mapS Snd.d (sortS L).dropLast ((sortS L).drop 1)
  have hil : itemsD (.lst (L.map Snd.d)) = some (L.map Snd.d) := rfl
  have hil2 : itemsD (.lst ((ss.take 3).map Snd.d)) = some ((ss.take 3).map Snd.d) := rfl
  have hisl : isD1 (.lst ((sortS L).map Snd.d)) [.list] = some true := rfl
  have cf2 : ∀ st : PSt, cfin (some (((ss.take 3).map shutS).map Snd.d, at_ ob 0 p2)) st = .ok (.fl (((ss.take 3).map shutS).map Snd.d)) ⟨st.sl, at_ ob 0 p2⟩ := fun st => cfin_ok (by simp only [List.length_map, List.length_take]; omega)
  have hnn : ∀ i : Int, neD (.int i) (.int i) = some (.val (.bl false)) := fun i => by rw [Prog.ne_int]; simp
  have hn0 : neD (.lst []) (.lst []) = some (.val (.bl false)) := by rw [ne_ok (by simp [eqOk])]; simp
  unfold l_law_2
  rw [seq_ok (s1 := ⟨[x0, some (.ob 0), some (.lst (vals.map D.int)), x3, some (.lst (ss.map Snd.d)), x5, x6, x7, x8, x9], at_ ob 0 p2⟩) (by
    rw [ev_set, ev_frz, c1, e2, cfin_ok (by rw [List.length_map]; omega)]
    simp only [bind_ok, toD_fl, List.set_cons_succ, List.set_cons_zero])]
  rw [seq_ok (s1 := ⟨[x0, some (.ob 0), some (.lst (vals.map D.int)), x3, some (.lst (L.map Snd.d)), x5, x6, x7, x8, x9], at_ ob 0 p2⟩) (by
    generalize at_ ob 0 p2 = o2 at *
    simp only [ev_set, ev_frz, ev_op, ev_var, vr_0, vr_1, vr_some, bind_ok, ev_comp, ev_iseq, ev_slice, ev_oN, ev_oS, ev_C, look_lst, sl3, sl2, opt_some, toD_fl, hil2, sqo_some]
    rw [show wipeD [x0, some (.ob 0), some (.lst (vals.map D.int)), x3, some (.lst (ss.map Snd.d)), x5, x6, x7, x8, x9] [7] = [x0, some (.ob 0), some (.lst (vals.map D.int)), x3, some (.lst (ss.map Snd.d)), x5, x6, none, x8, x9] from rfl, hsh]
    simp only [cf2, bind_ok, toD_fl, look_lst, hadd, hadd2, opt_some, ev_var, vr_0, vr_1, vr_some, ev_slice, ev_oN, ev_oS, ev_C, sl2, List.set_cons_succ, List.set_cons_zero])]
  rw [seq_ok (s1 := ⟨[x0, some (.ob 0), some (.lst (vals.map D.int)), x3, some (.lst (L.map Snd.d)), some (.lst (L.map Snd.d)), x6, x7, x8, x9], at_ ob 0 p2⟩) (by
    generalize at_ ob 0 p2 = o2 at *
    simp [hlist])]
  rw [seq_ok (s1 := ⟨[x0, some (.ob 0), some (.lst (vals.map D.int)), x3, some (.lst (L.map Snd.d)), some (.lst (L.map Snd.d)), some (.ob ob.length), x7, x8, x9], at_ ob 0 p2 ++ [some (Ob.lst ((sortS L).map Snd.d))]⟩) (by
    rw [ev_set, own, bind_ok]
    rfl)]
  generalize at_ ob 0 p2 ++ [some (Ob.lst ((sortS L).map Snd.d))] = o3 at *
  generalize at_ (ob ++ [some (.lst ((sortS L).map Snd.d ++ [.non]))]) 0 p2 = o4 at *
  rw [seq_ok (s1 := ⟨[x0, some (.ob 0), some (.lst (vals.map D.int)), x3, some (.lst (L.map Snd.d)), some (.lst (L.map Snd.d)), some (.ob ob.length), x7, x8, x9], o3⟩) (by
    simp only [ev_if, ev_or2, ev_tB, ev_op, ev_var, vr_0, vr_1, vr_some, bind_ok, look_lst, hne, opt_some, tbo_bl, ev_not1, ev_tru, ev_frz, ev_is, lkn, hisl, isfin_some, toD_val, look_bl, truD_bl, tru_some, ev_b, ev_cons, ev_nil, List.map_cons, List.map_nil, ln1, ln2, look_int, hnn, Bool.not_true, Bool.false_eq_true, if_false, ev_pass])]
  rw [seq_ok (s1 := ⟨[x0, some (.ob 0), some (.lst (vals.map D.int)), x3, some (.lst (L.map Snd.d)), some (.lst (L.map Snd.d)), some (.ob ob.length), y7, x8, x9], o3⟩) (by
    rw [← f1]
    simp only [ev_for, ev_iseq, ev_var, vr_0, vr_1, vr_some, bind_ok, hil, sqo_some])]
  rw [seq_ok (s1 := ⟨[x0, some (.ob 0), some (.lst (vals.map D.int)), x3, some (.lst (L.map Snd.d)), some (.lst (L.map Snd.d)), some (.ob ob.length), z7, z8, x9], o3⟩) (by
    rw [← f2]
    simp only [ev_for, iZipD, ev_frz, ev_slice, ev_var, vr_0, vr_1, vr_some, bind_ok, ev_oN, ev_oS, ev_neg, ev_C, lkn, slA, slB, opt_some, toD_fl, hzz])]
  rw [seq_ok (s1 := ⟨[x0, some (.ob 0), some (.lst (vals.map D.int)), x3, some (.lst (L.map Snd.d)), some (.lst (L.map Snd.d)), some (.ob ob.length), z7, z8, x9], o4⟩) (by
    simp only [ev_exp, ev_meth, ev_var, vr_0, vr_1, vr_some, bind_ok, tyn, if_true, ev_cons, ev_C, ev_nil, app, mfin_some])]
  simp [hsn, hsn0, ln1, ln2, hnn, hn0, line_ok]
open Draw in
theorem law_yes (ns : List Int) (hn : ns.length ≤ 63) : ∃ ob', evDef 9 e_law [.scr (ns.map D.int)] [] = .ok (.val (.bl true)) ob' := by
  obtain ⟨p, e1, hp⟩ := pot_of [] ns hn
  have h0 : 0 < ([none] : Obs).length := by simp
  obtain ⟨a, p1, e2, ⟨ha1, ha2⟩, hp1⟩ := below h0 hp (by omega) (b := 1000000000000) (by omega) (by omega)
  obtain ⟨s3, e4, z3, z4, z5, z6, z7, z8, z9, p3, o3, ho3, rfl, _⟩ := for_all (t := .var 3) (fs := l_law_2)
    (fun i s => ∃ y3 y4 y5 y6 y7 y8 y9 p2 o2, 0 < o2.length ∧ s = ⟨[some (.scr (ns.map D.int)), some (.ob 0), some (.lst ([0, 1, 2, a].map D.int)), y3, y4, y5, y6, y7, y8, y9], at_ o2 0 p2⟩ ∧ Pot (1 + 200 * i) p2)
    (rangeD 0 4) 0 ⟨[some (.scr (ns.map D.int)), some (.ob 0), some (.lst ([0, 1, 2, a].map D.int)), none, none, none, none, none, none, none], at_ [none] 0 p1⟩
    ⟨none, none, none, none, none, none, none, p1, [none], h0, rfl, hp1⟩ (by
      rintro i d s hd ⟨y3, y4, y5, y6, y7, y8, y9, p2, o2, ho2, rfl, hp2⟩
      obtain ⟨hi, rfl⟩ := rangeD_get _ _ _ _ hd
      obtain ⟨w4, w5, w6, w7, w8, w9, p3, o', e, hp3⟩ := turn ho2 hp2 (by omega) (vals := [0, 1, 2, a]) (by simp) (by simp) (some (.scr (ns.map D.int))) (some (.int (0 + i))) y4 y5 y6 y7 y8 y9
      exact ⟨_, rfl, _, .inl e, _, w4, w5, w6, w7, w8, w9, p3, o2 ++ [some o'], by simp, rfl, hp3.mono (by omega)⟩)
  have s1 : sSet 1 (eOwn (rCall f__law_pot_of (aCons (eVar 0) (aNil)))) ⟨[some (.scr (ns.map D.int)), none, none, none, none, none, none, none, none, none], []⟩ =
      .ok .nx ⟨[some (.scr (ns.map D.int)), some (.ob 0), none, none, none, none, none, none, none, none], at_ [none] 0 p⟩ := by
    simp only [ev_set, ev_own, ev_call, ev_cons, ev_var, vr_0, vr_some, bind_ok, ev_nil, is_pot_of, e1, fin_ok, List.set_cons_succ, List.set_cons_zero]
    rfl
  have hpow : powD (.int 10) (.int 12) = some (.val (.int 1000000000000)) := by rfl
  have s2 : sSet 2 (eFrz (rLst (aCons (eC (.int 0)) (aCons (eC (.int 1)) (aCons (eC (.int 2)) (aCons (eFrz (rCall f__law_below (aCons (eVar 1) (aCons (eFrz (rOp powD (eC (.int 10)) (eC (.int 12)))) (aNil))))) (aNil))))))) ⟨[some (.scr (ns.map D.int)), some (.ob 0), none, none, none, none, none, none, none, none], at_ [none] 0 p⟩ =
      .ok .nx ⟨[some (.scr (ns.map D.int)), some (.ob 0), some (.lst ([0, 1, 2, a].map D.int)), none, none, none, none, none, none, none], at_ [none] 0 p1⟩ := by
    generalize at_ [none] 0 p = o0 at *
    generalize at_ [none] 0 p1 = o1 at *
    simp [hpow, is_below, e2, line_ok]
  generalize at_ [none] 0 p = o1 at *
  generalize at_ [none] 0 p1 = o2 at *
  generalize at_ o3 0 p3 = o4 at *
  have s4 : sFor (iRange1 (eC (.int 4))) (.var 3) l_law_2 ⟨[some (.scr (ns.map D.int)), some (.ob 0), some (.lst ([0, 1, 2, a].map D.int)), none, none, none, none, none, none, none], o2⟩ =
      .ok .nx ⟨[some (.scr (ns.map D.int)), some (.ob 0), some (.lst ([0, 1, 2, a].map D.int)), z3, z4, z5, z6, z7, z8, z9], o4⟩ := by
    rw [← e4]
    simp only [ev_for, ev_range1, ev_C, bind_ok, rng_int (show (-4611686018427387904 : Int) ≤ 4 ∧ (4 : Int) < 4611686018427387904 by omega)]
    rfl
  refine ⟨[], def_new (sl := [some (.scr (ns.map D.int)), some (.ob 0), some (.lst ([0, 1, 2, a].map D.int)), z3, z4, z5, z6, z7, z8, z9]) (t := o4) ?_ (by simp [Rv.under, D.under])⟩
  unfold e_law
  refine (seq_ok s1).trans ?_
  refine (seq_ok s2).trans ?_
  refine (seq_ok s4).trans ?_
  simp
end Lk04
end
theorem PySem.Challenge.cw_cutrelays_k04_sendings_in_order_holds : PySem.Challenge.rw_cutrelays_k04_sendings_in_order.Holds := by
  exact row_of_k04 Lk04.law_yes
