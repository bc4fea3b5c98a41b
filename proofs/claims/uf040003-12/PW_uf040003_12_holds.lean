import PyProof.Rows.All
import PyProof.EqLayable
import PyProof.Cells
import PyProof.CompFree
import PyProof.Rows.InDataRows
import PyProof.DictRoadsH
import PyProof.DictRoads
import PyProof.TupleKey
import PyProof.DictKinds
import KE.KSortTup
import PyProof.Rows.MinMaxN
import PyProof.Rows.SortWalk
import PyProof.ListMulRoad
import PyProof.IsiNone
import PyProof.ListRange
import PyProof.WalksPairs
import PyProof.EnumFor
import PyProof.EnumMake
import PyProof.EnumStmt
import PyProof.Rows.TupIter
import Open.Line
import Wide.All
import Wide.FinOn
import PySem.Challenge.RW_uf040003_12
set_option maxRecDepth 10000
set_option linter.unusedSimpArgs false
set_option linter.unusedVariables false
namespace Mw
open PySem

noncomputable abbrev lObj (vs : Array Value) (n : Nat) : Obj := { cls := .type "list", data := .seq vs n }
noncomputable abbrev tObj (vs : Array Value) (n : Nat) : Obj := { cls := .type "tuple", data := .seq vs n }
inductive Rep (h : Heap) (W : Addr → Prop) : Value → PyData → Prop
  | none : Rep h W .none .none
  | bool (b : Bool) : Rep h W (.bool b) (.bool b)
  | int (i : Int) (t : Tok) : Rep h W (.int i t) (.int i)
  | str (x : Str) (t : Tok) : Rep h W (.str x t) (.str x)
  | list {a : Addr} {vs : Array Value} {n : Nat} {xs : List PyData} : ¬ W a → h.get? a = some (lObj vs n) →
      vs.toList.length = xs.length → (∀ (i : Nat) (v : Value) (x : PyData), vs.toList[i]? = some v → xs[i]? = some x → Rep h W v x) → Rep h W (.ref a) (.list xs)
  | tuple {a : Addr} {vs : Array Value} {n : Nat} {xs : List PyData} : ¬ W a → h.get? a = some (tObj vs n) →
      vs.toList.length = xs.length → (∀ (i : Nat) (v : Value) (x : PyData), vs.toList[i]? = some v → xs[i]? = some x → Rep h W v x) → Rep h W (.ref a) (.tuple xs)

noncomputable def RepL (h : Heap) (W : Addr → Prop) (vs : List Value) (xs : List PyData) : Prop :=
  vs.length = xs.length ∧ ∀ (i : Nat) (v : Value) (x : PyData), vs[i]? = some v → xs[i]? = some x → Rep h W v x

theorem Rep.mono {h h' : Heap} {W W' : Addr → Prop} (H : ∀ a o, ¬ W a → h.get? a = some o → ¬ W' a ∧ h'.get? a = some o) {v : Value} {d : PyData} (r : Rep h W v d) : Rep h' W' v d := by
  induction r with
  | none => exact .none
  | bool b => exact .bool b
  | int i t => exact .int i t
  | str x t => exact .str x t
  | list hw ho hl _ ih => exact .list (H _ _ hw ho).1 (H _ _ hw ho).2 hl ih
  | tuple hw ho hl _ ih => exact .tuple (H _ _ hw ho).1 (H _ _ hw ho).2 hl ih

theorem RepL.mono {h h' : Heap} {W W' : Addr → Prop} (H : ∀ a o, ¬ W a → h.get? a = some o → ¬ W' a ∧ h'.get? a = some o) {vs : List Value} {xs : List PyData} (r : RepL h W vs xs) : RepL h' W' vs xs :=
  ⟨r.1, fun i v x hv hx => (r.2 i v x hv hx).mono H⟩

theorem RepL.nil {h : Heap} {W : Addr → Prop} : RepL h W [] [] := ⟨rfl, fun i v x hv => by simp at hv⟩
theorem RepL.cons {h : Heap} {W : Addr → Prop} {v : Value} {x : PyData} {vs : List Value} {xs : List PyData} (r : Rep h W v x) (rs : RepL h W vs xs) : RepL h W (v :: vs) (x :: xs) := by
  refine ⟨by simp [rs.1], fun i v' x' hv hx => ?_⟩
  cases i with
  | zero => simp at hv hx; subst hv; subst hx; exact r
  | succ i => simp at hv hx; exact rs.2 i v' x' hv hx
theorem RepL.inv {h : Heap} {W : Addr → Prop} {v : Value} {x : PyData} {vs : List Value} {xs : List PyData} (r : RepL h W (v :: vs) (x :: xs)) : Rep h W v x ∧ RepL h W vs xs :=
  ⟨r.2 0 v x rfl rfl, by simpa using r.1, fun i v' x' hv hx => r.2 (i + 1) v' x' (by simpa using hv) (by simpa using hx)⟩
theorem RepL.nil_inv {h : Heap} {W : Addr → Prop} {vs : List Value} (r : RepL h W vs []) : vs = [] := List.length_eq_zero_iff.mp (by simpa using r.1)
theorem RepL.cons_inv {h : Heap} {W : Addr → Prop} {x : PyData} {vs : List Value} {xs : List PyData} (r : RepL h W vs (x :: xs)) : ∃ v vs', vs = v :: vs' ∧ Rep h W v x ∧ RepL h W vs' xs := by
  cases vs with
  | nil => simp [RepL] at r
  | cons v vs => exact ⟨v, vs, rfl, r.inv⟩
theorem RepL.append {h : Heap} {W : Addr → Prop} {vs ws : List Value} {xs ys : List PyData} (r : RepL h W vs xs) (q : RepL h W ws ys) : RepL h W (vs ++ ws) (xs ++ ys) := by
  induction vs generalizing xs with
  | nil =>
    have : xs = [] := List.length_eq_zero_iff.mp (by simpa using r.1.symm)
    subst this; exact q
  | cons v vs ih =>
    cases xs with
    | nil => simp [RepL] at r
    | cons x xs => exact .cons r.inv.1 (ih r.inv.2)
theorem RepL.one {h : Heap} {W : Addr → Prop} {v : Value} {x : PyData} (r : Rep h W v x) : RepL h W [v] [x] := .cons r .nil
theorem RepL.get {h : Heap} {W : Addr → Prop} {vs : List Value} {xs : List PyData} (r : RepL h W vs xs) {i : Nat} {x : PyData} (hx : xs[i]? = some x) : ∃ v, vs[i]? = some v ∧ Rep h W v x := by
  have hi : i < vs.length := by rw [r.1]; exact (List.getElem?_eq_some_iff.mp hx).1
  exact ⟨vs[i], List.getElem?_eq_getElem hi, r.2 i _ x (List.getElem?_eq_getElem hi) hx⟩
theorem RepL.take {h : Heap} {W : Addr → Prop} {vs : List Value} {xs : List PyData} (r : RepL h W vs xs) (k : Nat) : RepL h W (vs.take k) (xs.take k) := by
  refine ⟨by simp [r.1], fun i v x hv hx => ?_⟩
  rw [List.getElem?_take] at hv hx
  split at hv
  · rename_i hk; rw [if_pos hk] at hx; exact r.2 i v x hv hx
  · cases hv
theorem RepL.drop {h : Heap} {W : Addr → Prop} {vs : List Value} {xs : List PyData} (r : RepL h W vs xs) (k : Nat) : RepL h W (vs.drop k) (xs.drop k) := by
  refine ⟨by simp [r.1], fun i v x hv hx => ?_⟩
  rw [List.getElem?_drop] at hv hx
  exact r.2 _ v x hv hx

theorem readsAll_of {h : Heap} : ∀ (vs : List Value) (xs : List PyData), vs.length = xs.length → (∀ (i : Nat) (v : Value) (x : PyData), vs[i]? = some v → xs[i]? = some x → ∃ as, Reads h v x as) → ∃ as, ReadsAll h vs xs as
  | [], [], _, _ => ⟨_, .nil⟩
  | [], _ :: _, hl, _ => by simp at hl
  | _ :: _, [], hl, _ => by simp at hl
  | v :: vs, x :: xs, hl, H => by
    obtain ⟨as, ra⟩ := H 0 v x rfl rfl
    obtain ⟨bs, rb⟩ := readsAll_of vs xs (by simpa using hl) fun i v' x' hv hx => H (i + 1) v' x' (by simpa using hv) (by simpa using hx)
    exact ⟨_, .cons ra rb⟩

theorem Rep.reads {h : Heap} {W : Addr → Prop} {v : Value} {d : PyData} (r : Rep h W v d) : ∃ as, Reads h v d as := by
  induction r with
  | none => exact ⟨_, .none⟩
  | bool b => exact ⟨_, .bool b⟩
  | int i t => exact ⟨_, .int i t⟩
  | str x t => exact ⟨_, .str x t⟩
  | list hw ho hl _ ih => obtain ⟨as, q⟩ := readsAll_of _ _ hl ih; exact ⟨_, .list ho rfl rfl q⟩
  | tuple hw ho hl _ ih => obtain ⟨as, q⟩ := readsAll_of _ _ hl ih; exact ⟨_, .tuple ho rfl rfl q⟩

theorem keeps_refl (s : Shared) : Keeps s s := ⟨s.heap, s.toks, rfl, fun _ _ e => e⟩
theorem keeps_trans {s₁ s₂ s₃ : Shared} (x : Keeps s₁ s₂) (y : Keeps s₂ s₃) : Keeps s₁ s₃ := by
  obtain ⟨h₂, t₂, rfl, k₂⟩ := x
  obtain ⟨h₃, t₃, rfl, k₃⟩ := y
  exact ⟨h₃, t₃, rfl, fun b o e => k₃ b o (k₂ b o e)⟩
theorem Keeps.heap {s s' : Shared} (x : Keeps s s') : ∀ b o, s.heap.get? b = some o → s'.heap.get? b = some o := by
  obtain ⟨h', tk, rfl, k⟩ := x; exact k
theorem keeps_toks (s : Shared) (t : Nat) : Keeps s { s with toks := t } := ⟨s.heap, t, rfl, fun _ _ e => e⟩
theorem keeps_push (s : Shared) (o : Obj) : Keeps s { s with heap := s.heap.push o } := ⟨_, s.toks, rfl, fun _ _ e => Heap.get?_push_of_some o e⟩
theorem Rep.keeps {s s' : Shared} {W : Addr → Prop} {v : Value} {d : PyData} (k : Keeps s s') (r : Rep s.heap W v d) : Rep s'.heap W v d := r.mono fun a o hw ho => ⟨hw, Keeps.heap k a o ho⟩
theorem RepL.keeps {s s' : Shared} {W : Addr → Prop} {vs : List Value} {ds : List PyData} (k : Keeps s s') (r : RepL s.heap W vs ds) : RepL s'.heap W vs ds := r.mono fun a o hw ho => ⟨hw, Keeps.heap k a o ho⟩
theorem none_of_keeps {s s' : Shared} (k : Keeps s s') {a : Addr} (h : s'.heap.get? a = none) : s.heap.get? a = none := by
  cases e : s.heap.get? a with
  | none => rfl
  | some o => rw [Keeps.heap k a o e] at h; cases h
theorem none_of_size {h : Heap} : h.get? h.objs.size = none := by
  cases e : h.get? h.objs.size with
  | none => rfl
  | some o => exact absurd (Heap.lt_size e) (Nat.lt_irrefl _)

noncomputable def isAtom : PyData → Bool
  | .none | .bool _ | .int _ | .str _ => true
  | _ => false
theorem Z70 : isAtom .none = true := rfl
theorem Z71 (b : Bool) : isAtom (.bool b) = true := rfl
theorem Z72 (i : Int) : isAtom (.int i) = true := rfl
theorem Z73 (x : Str) : isAtom (.str x) = true := rfl
theorem Z74 (xs : List PyData) : isAtom (.list xs) = false := rfl
theorem Z75 (xs : List PyData) : isAtom (.tuple xs) = false := rfl
theorem Z76 (kvs : List (PyData × PyData)) : isAtom (.dict kvs) = false := rfl
theorem Rep.atom {h h' : Heap} {W W' : Addr → Prop} {v : Value} {d : PyData} (r : Rep h W v d) (ha : isAtom d = true) : Rep h' W' v d := by
  cases r with
  | none => exact .none
  | bool b => exact .bool b
  | int i t => exact .int i t
  | str x t => exact .str x t
  | list => cases ha
  | tuple => cases ha
theorem Rep.atom_ref {h : Heap} {W : Addr → Prop} {a : Addr} {d : PyData} (r : Rep h W (.ref a) d) (ha : isAtom d = true) : False := by
  cases r <;> cases ha

theorem Rep.list_inv {h : Heap} {W : Addr → Prop} {v : Value} {xs : List PyData} (r : Rep h W v (.list xs)) : ∃ a vs n, v = .ref a ∧ ¬ W a ∧ h.get? a = some (lObj vs n) ∧ RepL h W vs.toList xs := by
  cases r with
  | list hw ho hl hi => exact ⟨_, _, _, rfl, hw, ho, hl, hi⟩
theorem Rep.tuple_inv {h : Heap} {W : Addr → Prop} {v : Value} {xs : List PyData} (r : Rep h W v (.tuple xs)) : ∃ a vs n, v = .ref a ∧ ¬ W a ∧ h.get? a = some (tObj vs n) ∧ RepL h W vs.toList xs := by
  cases r with
  | tuple hw ho hl hi => exact ⟨_, _, _, rfl, hw, ho, hl, hi⟩
theorem Rep.int_inv {h : Heap} {W : Addr → Prop} {v : Value} {i : Int} (r : Rep h W v (.int i)) : ∃ t, v = .int i t := by cases r; exact ⟨_, rfl⟩
theorem Rep.bool_inv {h : Heap} {W : Addr → Prop} {v : Value} {b : Bool} (r : Rep h W v (.bool b)) : v = .bool b := by cases r; rfl
theorem Rep.none_inv {h : Heap} {W : Addr → Prop} {v : Value} (r : Rep h W v .none) : v = .none := by cases r; rfl

theorem lt_ne {vs vs' : Array Value} {n n' : Nat} (e : some (lObj vs n) = some (tObj vs' n')) : False := by
  have := congrArg (fun o : Option Obj => o.map (·.cls)) e
  simp at this
theorem items_eq {h : Heap} {W : Addr → Prop} {vs : List Value} {xs ys : List PyData} (hl : vs.length = xs.length) (hl' : vs.length = ys.length)
    (ih : ∀ (i : Nat) (v : Value) (x : PyData), vs[i]? = some v → xs[i]? = some x → ∀ {d' : PyData}, Rep h W v d' → x = d')
    (hi' : ∀ (i : Nat) (v : Value) (x : PyData), vs[i]? = some v → ys[i]? = some x → Rep h W v x) : xs = ys := by
  refine List.ext_getElem? fun i => ?_
  cases hx : xs[i]? with
  | none =>
    have h1 : xs.length ≤ i := List.getElem?_eq_none_iff.mp hx
    exact (List.getElem?_eq_none_iff.mpr (by omega)).symm
  | some x =>
    have h1 := (List.getElem?_eq_some_iff.mp hx).1
    have h2 : i < ys.length := by omega
    have h3 : i < vs.length := by omega
    rw [List.getElem?_eq_getElem h2]
    exact congrArg some (ih i vs[i] x (List.getElem?_eq_getElem h3) hx (hi' i _ _ (List.getElem?_eq_getElem h3) (List.getElem?_eq_getElem h2)))
theorem Rep.unique {h : Heap} {W : Addr → Prop} {v : Value} {d d' : PyData} (r : Rep h W v d) (r' : Rep h W v d') : d = d' := by
  induction r generalizing d' with
  | none => cases r'; rfl
  | bool b => cases r'; rfl
  | int i t => cases r'; rfl
  | str x t => cases r'; rfl
  | list hw ho hl hi ih =>
    cases r' with
    | list _ ho' hl' hi' =>
      rw [ho] at ho'; cases ho'
      exact congrArg PyData.list (items_eq hl hl' ih hi')
    | tuple _ ho' => rw [ho] at ho'; exact (lt_ne ho').elim
  | tuple hw ho hl hi ih =>
    cases r' with
    | tuple _ ho' hl' hi' =>
      rw [ho] at ho'; cases ho'
      exact congrArg PyData.tuple (items_eq hl hl' ih hi')
    | list _ ho' => rw [ho] at ho'; exact (lt_ne ho'.symm).elim

theorem size_item {xs : List PyData} {i : Nat} {x : PyData} (hx : xs[i]? = some x) : sizeOf x < sizeOf xs := List.sizeOf_lt_of_mem (List.mem_of_getElem? hx)

theorem Rep.avoid {h : Heap} {W : Addr → Prop} {a : Addr} {ds : List PyData} (q : Rep h W (.ref a) (.list ds)) {v : Value} {d : PyData} (r : Rep h W v d) (hs : sizeOf d < sizeOf (PyData.list ds)) :
    Rep h (fun b => W b ∨ b = a) v d := by
  induction r with
  | none => exact .none
  | bool b => exact .bool b
  | int i t => exact .int i t
  | str x t => exact .str x t
  | @list b vs n xs hw ho hl hi ih =>
    refine .list (fun e => e.elim hw fun e => ?_) ho hl fun i v x hv hx => ih i v x hv hx ?_
    · subst e
      have := Rep.unique q (.list hw ho hl hi)
      rw [this] at hs
      exact Nat.lt_irrefl _ hs
    · have := size_item hx
      simp only [PyData.list.sizeOf_spec] at hs ⊢
      omega
  | @tuple b vs n xs hw ho hl hi ih =>
    refine .tuple (fun e => e.elim hw fun e => ?_) ho hl fun i v x hv hx => ih i v x hv hx ?_
    · subst e
      cases q with
      | list _ ho' => rw [ho] at ho'; exact (lt_ne ho'.symm).elim
    · have := size_item hx
      simp only [PyData.list.sizeOf_spec, PyData.tuple.sizeOf_spec] at hs ⊢
      omega
theorem RepL.avoid {h : Heap} {W : Addr → Prop} {a : Addr} {ds : List PyData} (q : Rep h W (.ref a) (.list ds)) {vs : List Value} (r : RepL h W vs ds) : RepL h (fun b => W b ∨ b = a) vs ds :=
  ⟨r.1, fun i v x hv hx => Rep.avoid q (r.2 i v x hv hx) (by have := size_item hx; simp only [PyData.list.sizeOf_spec]; omega)⟩

end Mw

set_option maxRecDepth 10000
namespace Mw
open PySem

inductive Cl where | fresh | clean | shell | dirty
inductive Fn1 where | len | all | maxL | minL | sorted | list | tuple
inductive Fn2 where | max | min
inductive Ty where | int | bool | tuple | list
inductive Tg where | one (n : Nat) | two (n m : Nat)

set_option genSizeOf false in
set_option genInjectivity false in
inductive X where
  | const (c : Const)
  | var (n : Nat)
  | glob (x : Str)
  | bin (op : Operator) (a b : X)
  | not (a : X)
  | and (l : X)
  | or (l : X)
  | cmp (op : CmpOp) (a b : X)
  | cmp2 (op op' : CmpOp) (a b c : X)
  | isinst (t : Ty) (a : X)
  | un (f : Fn1) (a : X)
  | bi (f : Fn2) (a b : X)
  | listRange (a : X)
  | sortedSet (a : X)
  | revList (a : X)
  | idx (a i : X)
  | upto (a i : X)
  | since (a i : X)
  | tup (l : X)
  | lst (l : X)
  | comp0 (t : Tg) (elt it : X)
  | comp1 (t : Tg) (elt it c : X)
  | call (f : Str) (l : X)
  | inDic (neg : Bool) (a : X) (n : Nat)
  | getDic (n : Nat) (a : X)
  | nil
  | cons (a l : X)
  | seq (a : X)
  | range1 (a : X)
  | range2 (a b : X)
  | enum (a : X)

inductive Ent where
  | val (d : PyData)
  | own (ds : List PyData)
  | ownT (d : PyData) (ds : List PyData)
noncomputable abbrev Rho := List (Option Ent)
noncomputable abbrev R1 := Cl × PyData
structure Fns where
  fn : Str → List PyData → Option (Bool × PyData)
  gl : Str → Option Int

noncomputable def maxLen : Nat := 4096
noncomputable def Cl.isClean : Cl → Bool
  | .fresh | .clean => true
  | _ => false
noncomputable def Cl.isDirty : Cl → Bool
  | .dirty => true
  | _ => false
noncomputable def pureD : PyData → Bool
  | .none | .bool _ | .int _ | .str _ => true
  | .tuple xs => xs.all isAtom
  | _ => false
theorem Z77 : pureD .none = true := rfl
theorem Z78 (b : Bool) : pureD (.bool b) = true := rfl
theorem Z79 (i : Int) : pureD (.int i) = true := rfl
theorem Z80 (x : Str) : pureD (.str x) = true := rfl
theorem Z81 (xs : List PyData) : pureD (.list xs) = false := rfl
theorem Z82 (xs : List PyData) : pureD (.tuple xs) = xs.all isAtom := rfl
theorem Z83 (kvs : List (PyData × PyData)) : pureD (.dict kvs) = false := rfl
noncomputable def Cl.item (c : Cl) (d : PyData) : Cl :=
  if isAtom d then .fresh else if c.isDirty then (if pureD d then .clean else .dirty) else .clean
noncomputable def rangeL (a b : Int) : List PyData := (List.range (b - a).toNat).map fun (i : Nat) => .int (a + (i : Int))
noncomputable def enumL (xs : List PyData) : List PyData := (List.range xs.length).map fun (i : Nat) => .tuple [.int (i : Int), xs.getD i .none]

noncomputable def allB : List PyData → Option Bool
  | [] => some true
  | .bool b :: r => (allB r).map (b && ·)
  | _ => none
noncomputable def intsOf : List PyData → Option (List Int)
  | [] => some []
  | .int i :: r => (intsOf r).map (i :: ·)
  | _ => none
noncomputable def pairsOf : List PyData → Option (List (Int × Int))
  | [] => some []
  | .tuple [.int i, .int j] :: r => (pairsOf r).map ((i, j) :: ·)
  | _ => none
noncomputable def maxI : List Int → Int
  | [] => 0
  | [a] => a
  | a :: r => max a (maxI r)
noncomputable def minI : List Int → Int
  | [] => 0
  | [a] => a
  | a :: r => min a (minI r)
noncomputable def insI (a : Int) : List Int → List Int
  | [] => [a]
  | b :: r => if a ≤ b then a :: b :: r else b :: insI a r
noncomputable def sortI : List Int → List Int
  | [] => []
  | a :: r => insI a (sortI r)
noncomputable def leP (a b : Int × Int) : Bool := decide (a.1 < b.1) || (decide (a.1 = b.1) && decide (a.2 ≤ b.2))
noncomputable def insP (a : Int × Int) : List (Int × Int) → List (Int × Int)
  | [] => [a]
  | b :: r => if leP a b then a :: b :: r else b :: insP a r
noncomputable def sortP : List (Int × Int) → List (Int × Int)
  | [] => []
  | a :: r => insP a (sortP r)
noncomputable def dedup : List Int → List Int
  | [] => []
  | a :: r => if r.any (· == a) then dedup r else a :: dedup r
noncomputable def pairD (q : Int × Int) : PyData := .tuple [.int q.1, .int q.2]
noncomputable def sortD (xs : List PyData) : Option (List PyData) := match intsOf xs with
  | some is => some ((sortI is).map .int)
  | none => match pairsOf xs with
    | some ps => if ps.Nodup then some ((sortP ps).map pairD) else none
    | none => none
noncomputable def setL (is : List Int) : List PyData := ((List.range 9).filter fun n : Nat => decide ((n : Int) ∈ is)).map fun n : Nat => .int (n : Int)
noncomputable def setD (xs : List PyData) : Option (List PyData) := (intsOf xs).bind fun is => if is.all (fun i => decide (0 ≤ i) && decide (i < 9)) then some (setL is) else none
noncomputable def itemsOf : PyData → Option (List PyData)
  | .list xs => some xs
  | .tuple xs => some xs
  | _ => none
theorem Z91 : itemsOf .none = none := rfl
theorem Z92 (b : Bool) : itemsOf (.bool b) = none := rfl
theorem Z93 (i : Int) : itemsOf (.int i) = none := rfl
theorem Z94 (x : Str) : itemsOf (.str x) = none := rfl
theorem Z95 (xs : List PyData) : itemsOf (.list xs) = some xs := rfl
theorem Z96 (xs : List PyData) : itemsOf (.tuple xs) = some xs := rfl
theorem Z97 (kvs : List (PyData × PyData)) : itemsOf (.dict kvs) = none := rfl

noncomputable def onI {α : Type} (d : PyData) (k : Int → Option α) : Option α := match d with
  | .int i => k i
  | _ => none
noncomputable def onL {α : Type} (d : PyData) (k : List PyData → Option α) : Option α := match d with
  | .list xs => k xs
  | _ => none
theorem onI_inv {α : Type} {d : PyData} {k : Int → Option α} {r : α} (h : onI d k = some r) : ∃ i, d = .int i ∧ k i = some r := by
  cases d <;> first | exact ⟨_, rfl, h⟩ | cases h
theorem onL_inv {α : Type} {d : PyData} {k : List PyData → Option α} {r : α} (h : onL d k = some r) : ∃ xs, d = .list xs ∧ k xs = some r := by
  cases d <;> first | exact ⟨_, rfl, h⟩ | cases h
theorem if_inv {α : Type} {p : Prop} [Decidable p] {o : Option α} {r : α} (h : (if p then o else none) = some r) : p ∧ o = some r := by
  by_cases e : p
  · rw [if_pos e] at h; exact ⟨e, h⟩
  · rw [if_neg e] at h; cases h
theorem ifn_inv {α : Type} {p : Prop} [Decidable p] {o : Option α} {r : α} (h : (if p then none else o) = some r) : ¬p ∧ o = some r := by
  by_cases e : p
  · rw [if_pos e] at h; cases h
  · rw [if_neg e] at h; exact ⟨e, h⟩

noncomputable def unSem (f : Fn1) (x : R1) : Option R1 := match f with
  | .len => (itemsOf x.2).bind fun xs => if xs.length ≤ maxLen then some (.fresh, .int xs.length) else none
  | .all => onL x.2 fun xs => if xs.length ≤ maxLen then (allB xs).map fun b => (.fresh, .bool b) else none
  | .maxL => onL x.2 fun xs => if xs ≠ [] ∧ xs.length ≤ maxLen then (intsOf xs).map fun l => (.fresh, .int (maxI l)) else none
  | .minL => onL x.2 fun xs => if xs ≠ [] ∧ xs.length ≤ maxLen then (intsOf xs).map fun l => (.fresh, .int (minI l)) else none
  | .sorted => onL x.2 fun xs => if x.1.isDirty || decide (xs.length ≥ 64) then none else (sortD xs).map fun ys => (.fresh, .list ys)
  | .list => onL x.2 fun xs => if x.1.isDirty || decide (xs.length > maxLen) then none else some (.fresh, .list xs)
  | .tuple => onL x.2 fun xs => if x.1.isDirty || decide (xs.length > maxLen) then none else some (.clean, .tuple xs)

noncomputable def Fn2.sem : Fn2 → Int → Int → Int
  | .max, a, b => Max.max a b
  | .min, a, b => Min.min a b
noncomputable def biSem (f : Fn2) (x y : R1) : Option R1 := onI x.2 fun a => onI y.2 fun b => some (.fresh, .int (f.sem a b))

noncomputable def mulOk (a b : Int) : Bool := decide (a.natAbs < 2 ^ 60) || decide (b.natAbs < 2 ^ 60) || (decide (a.natAbs < 2 ^ 200) && decide (b.natAbs < 2 ^ 200))

noncomputable def addSem (x y : R1) : Option R1 := match x.2 with
  | .int a => onI y.2 fun b => some (.fresh, .int (a + b))
  | .list xs => onL y.2 fun ys => if x.1.isDirty || y.1.isDirty || decide (xs.length + ys.length > maxLen) then none else some (.fresh, .list (xs ++ ys))
  | _ => none
noncomputable def mulSem (x y : R1) : Option R1 := match x.2 with
  | .int a => onI y.2 fun b => if mulOk a b then some (.fresh, .int (a * b)) else none
  | .list xs => onI y.2 fun n => if x.1.isDirty || decide (xs.length ≠ 1) || decide (n < 1) || decide (n > 64) then none else some (.fresh, .list (List.replicate n.toNat (xs.getD 0 .none)))
  | _ => none
noncomputable def binSem (op : Operator) (x y : R1) : Option R1 := match op with
  | .Add => addSem x y
  | .Sub => onI x.2 fun a => onI y.2 fun b => some (.fresh, .int (a - b))
  | .Mult => mulSem x y
  | .FloorDiv => onI x.2 fun a => onI y.2 fun b => if b = 0 ∨ 1073741824 ≤ b.natAbs then none else some (.fresh, .int (Int.fdiv a b))
  | .Mod => onI x.2 fun a => onI y.2 fun b => if b = 0 then none else some (.fresh, .int (Int.fmod a b))
  | .Pow => onI x.2 fun a => onI y.2 fun b => if 2 ≤ a ∧ a < 2 ^ 60 ∧ 1 ≤ b ∧ b ≤ 64 then some (.fresh, .int (a ^ b.toNat)) else none
  | _ => none
theorem Z98 (x y : R1) : binSem .Add x y = (addSem x y) := rfl
theorem Z99 (x y : R1) : binSem .Sub x y = (onI x.2 fun a => onI y.2 fun b => some (.fresh, .int (a - b))) := rfl
theorem Z100 (x y : R1) : binSem .Mult x y = (mulSem x y) := rfl
theorem Z101 (x y : R1) : binSem .FloorDiv x y = (onI x.2 fun a => onI y.2 fun b => if b = 0 ∨ 1073741824 ≤ b.natAbs then none else some (.fresh, .int (Int.fdiv a b))) := rfl
theorem Z102 (x y : R1) : binSem .Mod x y = (onI x.2 fun a => onI y.2 fun b => if b = 0 then none else some (.fresh, .int (Int.fmod a b))) := rfl
theorem Z103 (x y : R1) : binSem .Pow x y = (onI x.2 fun a => onI y.2 fun b => if 2 ≤ a ∧ a < 2 ^ 60 ∧ 1 ≤ b ∧ b ≤ 64 then some (.fresh, .int (a ^ b.toNat)) else none) := rfl
noncomputable def isNoneD : PyData → Bool
  | .none => true
  | _ => false
theorem Z84 : isNoneD .none = true := rfl
theorem Z85 (b : Bool) : isNoneD (.bool b) = false := rfl
theorem Z86 (i : Int) : isNoneD (.int i) = false := rfl
theorem Z87 (x : Str) : isNoneD (.str x) = false := rfl
theorem Z88 (xs : List PyData) : isNoneD (.list xs) = false := rfl
theorem Z89 (xs : List PyData) : isNoneD (.tuple xs) = false := rfl
theorem Z90 (kvs : List (PyData × PyData)) : isNoneD (.dict kvs) = false := rfl

noncomputable def cmpSem (op : CmpOp) (d d' : PyData) : Option Bool := match op with
  | .Lt => onI d fun a => onI d' fun b => some (decide (a < b))
  | .LtE => onI d fun a => onI d' fun b => some (decide (a ≤ b))
  | .Gt => onI d fun a => onI d' fun b => some (decide (a > b))
  | .GtE => onI d fun a => onI d' fun b => some (decide (a ≥ b))
  | .Eq => if SeqAt.shaped d && SeqAt.shaped d' then some (PyData.eqv d d') else none
  | .NotEq => if SeqAt.shaped d && SeqAt.shaped d' then some (!PyData.eqv d d') else none
  | .In => onL d' fun xs => if SeqAt.shaped d && SeqAt.shaped (.list xs) then some (xs.any fun y => PyData.eqv y d) else none
  | .NotIn => onL d' fun xs => if SeqAt.shaped d && SeqAt.shaped (.list xs) then some (!xs.any fun y => PyData.eqv y d) else none
  | .Is => if isNoneD d' then some (isNoneD d) else none
  | .IsNot => if isNoneD d' then some (!isNoneD d) else none

noncomputable def isinstSem : Ty → PyData → Bool
  | .int, .int _ => true
  | .int, .bool _ => true
  | .bool, .bool _ => true
  | .tuple, .tuple _ => true
  | .list, .list _ => true
  | _, _ => false
theorem Z113 : isinstSem .int .none = false := rfl
theorem Z110 (b : Bool) : isinstSem .int (.bool b) = true := rfl
theorem Z111 (i : Int) : isinstSem .int (.int i) = true := rfl
theorem Z114 (x : Str) : isinstSem .int (.str x) = false := rfl
theorem Z112 (xs : List PyData) : isinstSem .int (.list xs) = false := rfl
theorem Z115 (xs : List PyData) : isinstSem .int (.tuple xs) = false := rfl
theorem Z107 : isinstSem .bool .none = false := rfl
theorem Z104 (b : Bool) : isinstSem .bool (.bool b) = true := rfl
theorem Z105 (i : Int) : isinstSem .bool (.int i) = false := rfl
theorem Z108 (x : Str) : isinstSem .bool (.str x) = false := rfl
theorem Z106 (xs : List PyData) : isinstSem .bool (.list xs) = false := rfl
theorem Z109 (xs : List PyData) : isinstSem .bool (.tuple xs) = false := rfl
theorem Z125 : isinstSem .tuple .none = false := rfl
theorem Z122 (b : Bool) : isinstSem .tuple (.bool b) = false := rfl
theorem Z123 (i : Int) : isinstSem .tuple (.int i) = false := rfl
theorem Z126 (x : Str) : isinstSem .tuple (.str x) = false := rfl
theorem Z124 (xs : List PyData) : isinstSem .tuple (.list xs) = false := rfl
theorem Z127 (xs : List PyData) : isinstSem .tuple (.tuple xs) = true := rfl
theorem Z119 : isinstSem .list .none = false := rfl
theorem Z116 (b : Bool) : isinstSem .list (.bool b) = false := rfl
theorem Z117 (i : Int) : isinstSem .list (.int i) = false := rfl
theorem Z120 (x : Str) : isinstSem .list (.str x) = false := rfl
theorem Z118 (xs : List PyData) : isinstSem .list (.list xs) = true := rfl
theorem Z121 (xs : List PyData) : isinstSem .list (.tuple xs) = false := rfl

noncomputable def idxSem (x : R1) (d : PyData) : Option R1 := onI d fun i => (itemsOf x.2).bind fun xs => if 0 ≤ i ∧ i < 4096 then (xs[i.toNat]?).map fun y => (x.1.item y, y) else none
noncomputable def uptoSem (x : R1) (d : PyData) : Option R1 := onL x.2 fun xs => onI d fun i => if x.1.isDirty || decide (i < 0) || decide (xs.length > maxLen) || decide (i > 4096) then none else some (.fresh, .list (xs.take i.toNat))
noncomputable def sinceSem (x : R1) (d : PyData) : Option R1 := onL x.2 fun xs => onI d fun i => if x.1.isDirty || decide (i < 0) || decide (xs.length > maxLen) || decide (i > xs.length) then none else some (.fresh, .list (xs.drop i.toNat))
noncomputable def isDic : List PyData → Bool
  | .dict _ :: _ => true
  | _ => false
noncomputable def varSem : Ent → Option R1
  | .val d => some (.clean, d)
  | .own ds => if isDic ds then none else some (.shell, .list ds)
  | .ownT d ds => some (.dirty, .tuple [d, .list ds])
noncomputable def keyI : PyData → Option Int
  | .int i => some i
  | _ => none
noncomputable def keyT : PyData → Option (List Int)
  | .tuple xs => intsOf xs
  | _ => none
noncomputable def lookI (kvs : List (PyData × PyData)) (i : Int) : Option PyData := (kvs.find? fun p => match p.1 with | .int j => i == j | _ => false).map (·.2)
noncomputable def hasT (kvs : List (PyData × PyData)) (k : List Int) : Bool := kvs.any fun p => match keyT p.1 with | some j => k == j | none => false
noncomputable def dicHas (ds : List PyData) (d : PyData) : Option Bool := match ds with
  | [.dict kvs] => match keyI d with
    | some i => some (lookI kvs i).isSome
    | none => none
  | [.dict kvs, _] => match keyT d with
    | some k => if k.length ≤ 8 then some (hasT kvs k) else none
    | none => none
  | _ => none
noncomputable def dicGet (ds : List PyData) (d : PyData) : Option PyData := match ds with
  | [.dict kvs] => match keyI d with
    | some i => lookI kvs i
    | none => none
  | _ => none
noncomputable def dicPut (ds : List PyData) (k v : PyData) : Option (List PyData) := match ds with
  | [.dict kvs] => match keyI k with
    | some _ => if kvs.length ≤ maxLen then some [.dict ((k, v) :: kvs)] else none
    | none => none
  | [.dict kvs, u] => match keyT k with
    | some j => if j.length ≤ 8 && !hasT kvs j && decide (kvs.length ≤ maxLen) then some [.dict ((k, v) :: kvs), u] else none
    | none => none
  | _ => none
noncomputable def dicAt (ρ : Rho) (n : Nat) : Option (List PyData) := match ρ[n]? with
  | some (some (.own ds)) => if isDic ds then some ds else none
  | _ => none
noncomputable def callSem (Φ : Fns) (f : Str) (args : List R1) : Option R1 :=
  match Φ.fn f (args.map (·.2)) with
  | some (fr, d) => some (if isAtom d then .fresh else if args.all (·.1.isClean) then (if fr then .fresh else .clean) else .dirty, d)
  | none => none
noncomputable def tupSem (args : List R1) : Option R1 :=
  if args.length ≤ maxLen then some (if args.all (·.1.isClean) then .clean else .dirty, .tuple (args.map (·.2))) else none
noncomputable def lstSem (args : List R1) : Option R1 :=
  if args.length ≤ maxLen && args.all (·.1.isClean) then some (.fresh, .list (args.map (·.2))) else none

noncomputable def bindT : Tg → Rho → PyData → Option Rho
  | .one n, ρ, d => some (ρ.set n (some (.val d)))
  | .two n m, ρ, .tuple [x, y] => some ((ρ.set n (some (.val x))).set m (some (.val y)))
  | _, _, _ => none
noncomputable def asBool : Option R1 → Option Bool
  | some (_, .bool b) => some b
  | _ => none
noncomputable def asClean : Option R1 → Option PyData
  | some (c, d) => if c.isClean then some d else none
  | none => none
noncomputable def compGo (f : PyData → Option (Option PyData)) : List PyData → Option (List PyData)
  | [] => some []
  | d :: r => match f d with
    | none => none
    | some o => match compGo f r with
      | none => none
      | some rest => some (match o with | some x => x :: rest | none => rest)
noncomputable def seqItems : R1 → Option (Bool × List PyData)
  | (c, d) => match itemsOf d with
    | some xs => if (!c.isDirty || xs.all pureD) && decide (xs.length ≤ maxLen) then some (!c.isClean, xs) else none
    | none => none

mutual
noncomputable def evE (Φ : Fns) : X → Rho → Option R1
  | .const c, _ => match c with
    | .none => some (.fresh, .none)
    | .bool b => some (.fresh, .bool b)
    | .int i => some (.fresh, .int i)
    | .str x => some (.fresh, .str x)
    | _ => none
  | .var n, ρ => match ρ[n]? with
    | some (some e) => varSem e
    | _ => none
  | .glob x, _ => (Φ.gl x).map fun i => (.fresh, .int i)
  | .bin op a b, ρ => match evE Φ a ρ, evE Φ b ρ with
    | some x, some y => binSem op x y
    | _, _ => none
  | .not a, ρ => (asBool (evE Φ a ρ)).map fun b => (.fresh, .bool !b)
  | .and l, ρ => (evB Φ true l ρ).map fun b => (.fresh, .bool b)
  | .or l, ρ => (evB Φ false l ρ).map fun b => (.fresh, .bool b)
  | .cmp op a b, ρ => match evE Φ a ρ, evE Φ b ρ with
    | some x, some y => (cmpSem op x.2 y.2).map fun b => (.fresh, .bool b)
    | _, _ => none
  | .cmp2 op op' a b c, ρ => match evE Φ a ρ, evE Φ b ρ with
    | some x, some y => match cmpSem op x.2 y.2 with
      | some true => match evE Φ c ρ with
        | some z => (cmpSem op' y.2 z.2).map fun b => (.fresh, .bool b)
        | none => none
      | some false => some (.fresh, .bool false)
      | none => none
    | _, _ => none
  | .isinst t a, ρ => match evE Φ a ρ with
    | some x => some (.fresh, .bool (isinstSem t x.2))
    | none => none
  | .un f a, ρ => match evE Φ a ρ with
    | some x => unSem f x
    | none => none
  | .bi f a b, ρ => match evE Φ a ρ, evE Φ b ρ with
    | some x, some y => biSem f x y
    | _, _ => none
  | .listRange a, ρ => match evE Φ a ρ with
    | some (_, .int n) => if -4096 ≤ n ∧ n ≤ 4096 then some (.fresh, .list (rangeL 0 n)) else none
    | _ => none
  | .sortedSet a, ρ => match evE Φ a ρ with
    | some x => onL x.2 fun xs => (setD xs).map fun ys => (.fresh, .list ys)
    | none => none
  | .revList _, _ => none
  | .idx a i, ρ => match evE Φ a ρ, evE Φ i ρ with
    | some x, some y => idxSem x y.2
    | _, _ => none
  | .upto a i, ρ => match evE Φ a ρ, evE Φ i ρ with
    | some x, some y => uptoSem x y.2
    | _, _ => none
  | .since a i, ρ => match evE Φ a ρ, evE Φ i ρ with
    | some x, some y => sinceSem x y.2
    | _, _ => none
  | .tup l, ρ => match evL Φ l ρ with
    | some xs => tupSem xs
    | none => none
  | .lst l, ρ => match evL Φ l ρ with
    | some xs => lstSem xs
    | none => none
  | .comp0 t elt it, ρ => match evI Φ it ρ with
    | some (_, items) => match compGo (fun d => match bindT t ρ d with
        | some ρ' => (asClean (evE Φ elt ρ')).map some
        | none => none) items with
      | some out => some (.fresh, .list out)
      | none => none
    | none => none
  | .comp1 t elt it c, ρ => match evI Φ it ρ with
    | some (_, items) => match compGo (fun d => match bindT t ρ d with
        | some ρ' => match asBool (evE Φ c ρ') with
          | some true => (asClean (evE Φ elt ρ')).map some
          | some false => some none
          | none => none
        | none => none) items with
      | some out => some (.fresh, .list out)
      | none => none
    | none => none
  | .call f l, ρ => match evL Φ l ρ with
    | some xs => callSem Φ f xs
    | none => none
  | .inDic _ _ _, _ => none
  | .getDic _ _, _ => none
  | .nil, _ => none
  | .cons _ _, _ => none
  | .seq _, _ => none
  | .range1 _, _ => none
  | .range2 _ _, _ => none
  | .enum _, _ => none
noncomputable def evB (Φ : Fns) : Bool → X → Rho → Option Bool
  | k, .nil, _ => some k
  | k, .cons a l, ρ => match asBool (evE Φ a ρ) with
    | some b => if b = k then evB Φ k l ρ else some b
    | none => none
  | _, _, _ => none
noncomputable def evL (Φ : Fns) : X → Rho → Option (List R1)
  | .nil, _ => some []
  | .cons a l, ρ => match evE Φ a ρ with
    | some x => match evL Φ l ρ with
      | some xs => some (x :: xs)
      | none => none
    | none => none
  | _, _ => none
noncomputable def evI (Φ : Fns) : X → Rho → Option (Bool × List PyData)
  | .seq a, ρ => match evE Φ a ρ with
    | some x => seqItems x
    | none => none
  | .range1 a, ρ => match evE Φ a ρ with
    | some (_, .int n) => if -4096 ≤ n ∧ n ≤ 4096 then some (false, rangeL 0 n) else none
    | _ => none
  | .range2 a b, ρ => match evE Φ a ρ, evE Φ b ρ with
    | some (_, .int i), some (_, .int j) => if -4096 ≤ i ∧ i ≤ 4096 ∧ -4096 ≤ j ∧ j ≤ 4096 ∧ j - i ≤ 4096 then some (false, rangeL i j) else none
    | _, _ => none
  | .enum a, ρ => match evE Φ a ρ with
    | some (c, .list xs) => if c.isDirty || decide (xs.length > maxLen) then none else some (!c.isClean, enumL xs)
    | _ => none
  | _, _ => none
end
theorem Z1 {Φ : Fns} (c : Const) (u1 : Rho) : evE Φ (.const c) u1 = ( match c with
    | .none => some (.fresh, .none)
    | .bool b => some (.fresh, .bool b)
    | .int i => some (.fresh, .int i)
    | .str x => some (.fresh, .str x)
    | _ => none) := rfl
theorem Z2 {Φ : Fns} (n : Nat) (ρ : Rho) : evE Φ (.var n) ρ = ( match ρ[n]? with
    | some (some e) => varSem e
    | _ => none) := rfl
theorem Z3 {Φ : Fns} (x : Str) (u1 : Rho) : evE Φ (.glob x) u1 = ( (Φ.gl x).map fun i => (.fresh, .int i)) := rfl
theorem Z4 {Φ : Fns} (op : Operator) (a : X) (b : X) (ρ : Rho) : evE Φ (.bin op a b) ρ = ( match evE Φ a ρ, evE Φ b ρ with
    | some x, some y => binSem op x y
    | _, _ => none) := rfl
theorem Z5 {Φ : Fns} (a : X) (ρ : Rho) : evE Φ (.not a) ρ = ( (asBool (evE Φ a ρ)).map fun b => (.fresh, .bool !b)) := rfl
theorem Z6 {Φ : Fns} (l : X) (ρ : Rho) : evE Φ (.and l) ρ = ( (evB Φ true l ρ).map fun b => (.fresh, .bool b)) := rfl
theorem Z7 {Φ : Fns} (l : X) (ρ : Rho) : evE Φ (.or l) ρ = ( (evB Φ false l ρ).map fun b => (.fresh, .bool b)) := rfl
theorem Z8 {Φ : Fns} (op : CmpOp) (a : X) (b : X) (ρ : Rho) : evE Φ (.cmp op a b) ρ = ( match evE Φ a ρ, evE Φ b ρ with
    | some x, some y => (cmpSem op x.2 y.2).map fun b => (.fresh, .bool b)
    | _, _ => none) := rfl
theorem Z9 {Φ : Fns} (op : CmpOp) (op' : CmpOp) (a : X) (b : X) (c : X) (ρ : Rho) : evE Φ (.cmp2 op op' a b c) ρ = ( match evE Φ a ρ, evE Φ b ρ with
    | some x, some y => match cmpSem op x.2 y.2 with
      | some true => match evE Φ c ρ with
        | some z => (cmpSem op' y.2 z.2).map fun b => (.fresh, .bool b)
        | none => none
      | some false => some (.fresh, .bool false)
      | none => none
    | _, _ => none) := rfl
theorem Z10 {Φ : Fns} (t : Ty) (a : X) (ρ : Rho) : evE Φ (.isinst t a) ρ = ( match evE Φ a ρ with
    | some x => some (.fresh, .bool (isinstSem t x.2))
    | none => none) := rfl
theorem Z11 {Φ : Fns} (f : Fn1) (a : X) (ρ : Rho) : evE Φ (.un f a) ρ = ( match evE Φ a ρ with
    | some x => unSem f x
    | none => none) := rfl
theorem Z12 {Φ : Fns} (f : Fn2) (a : X) (b : X) (ρ : Rho) : evE Φ (.bi f a b) ρ = ( match evE Φ a ρ, evE Φ b ρ with
    | some x, some y => biSem f x y
    | _, _ => none) := rfl
theorem Z13 {Φ : Fns} (a : X) (ρ : Rho) : evE Φ (.listRange a) ρ = ( match evE Φ a ρ with
    | some (_, .int n) => if -4096 ≤ n ∧ n ≤ 4096 then some (.fresh, .list (rangeL 0 n)) else none
    | _ => none) := rfl
theorem Z14 {Φ : Fns} (a : X) (ρ : Rho) : evE Φ (.sortedSet a) ρ = ( match evE Φ a ρ with
    | some x => onL x.2 fun xs => (setD xs).map fun ys => (.fresh, .list ys)
    | none => none) := rfl
theorem Z15 {Φ : Fns} (u1 : X) (u2 : Rho) : evE Φ (.revList u1) u2 = ( none) := rfl
theorem Z16 {Φ : Fns} (a : X) (i : X) (ρ : Rho) : evE Φ (.idx a i) ρ = ( match evE Φ a ρ, evE Φ i ρ with
    | some x, some y => idxSem x y.2
    | _, _ => none) := rfl
theorem Z17 {Φ : Fns} (a : X) (i : X) (ρ : Rho) : evE Φ (.upto a i) ρ = ( match evE Φ a ρ, evE Φ i ρ with
    | some x, some y => uptoSem x y.2
    | _, _ => none) := rfl
theorem Z18 {Φ : Fns} (a : X) (i : X) (ρ : Rho) : evE Φ (.since a i) ρ = ( match evE Φ a ρ, evE Φ i ρ with
    | some x, some y => sinceSem x y.2
    | _, _ => none) := rfl
theorem Z19 {Φ : Fns} (l : X) (ρ : Rho) : evE Φ (.tup l) ρ = ( match evL Φ l ρ with
    | some xs => tupSem xs
    | none => none) := rfl
theorem Z20 {Φ : Fns} (l : X) (ρ : Rho) : evE Φ (.lst l) ρ = ( match evL Φ l ρ with
    | some xs => lstSem xs
    | none => none) := rfl
theorem Z21 {Φ : Fns} (t : Tg) (elt : X) (it : X) (ρ : Rho) : evE Φ (.comp0 t elt it) ρ = ( match evI Φ it ρ with
    | some (_, items) => match compGo (fun d => match bindT t ρ d with
        | some ρ' => (asClean (evE Φ elt ρ')).map some
        | none => none) items with
      | some out => some (.fresh, .list out)
      | none => none
    | none => none) := rfl
theorem Z22 {Φ : Fns} (t : Tg) (elt : X) (it : X) (c : X) (ρ : Rho) : evE Φ (.comp1 t elt it c) ρ = ( match evI Φ it ρ with
    | some (_, items) => match compGo (fun d => match bindT t ρ d with
        | some ρ' => match asBool (evE Φ c ρ') with
          | some true => (asClean (evE Φ elt ρ')).map some
          | some false => some none
          | none => none
        | none => none) items with
      | some out => some (.fresh, .list out)
      | none => none
    | none => none) := rfl
theorem Z23 {Φ : Fns} (f : Str) (l : X) (ρ : Rho) : evE Φ (.call f l) ρ = ( match evL Φ l ρ with
    | some xs => callSem Φ f xs
    | none => none) := rfl
theorem Z24 {Φ : Fns} (u1 : Bool) (u2 : X) (u3 : Nat) (u4 : Rho) : evE Φ (.inDic u1 u2 u3) u4 = ( none) := rfl
theorem Z25 {Φ : Fns} (u1 : Nat) (u2 : X) (u3 : Rho) : evE Φ (.getDic u1 u2) u3 = ( none) := rfl
theorem Z26 {Φ : Fns} (u1 : Rho) : evE Φ (.nil : X) u1 = ( none) := rfl
theorem Z27 {Φ : Fns} (u1 : X) (u2 : X) (u3 : Rho) : evE Φ (.cons u1 u2) u3 = ( none) := rfl
theorem Z28 {Φ : Fns} (u1 : X) (u2 : Rho) : evE Φ (.seq u1) u2 = ( none) := rfl
theorem Z29 {Φ : Fns} (u1 : X) (u2 : Rho) : evE Φ (.range1 u1) u2 = ( none) := rfl
theorem Z30 {Φ : Fns} (u1 : X) (u2 : X) (u3 : Rho) : evE Φ (.range2 u1 u2) u3 = ( none) := rfl
theorem Z31 {Φ : Fns} (u1 : X) (u2 : Rho) : evE Φ (.enum u1) u2 = ( none) := rfl
theorem Z32 {Φ : Fns} (k : Bool) (u1 : Rho) : evB Φ k (.nil : X) u1 = ( some k) := rfl
theorem Z33 {Φ : Fns} (k : Bool) (a : X) (l : X) (ρ : Rho) : evB Φ k (.cons a l) ρ = ( match asBool (evE Φ a ρ) with
    | some b => if b = k then evB Φ k l ρ else some b
    | none => none) := rfl
theorem Z34 {Φ : Fns} (u1 : Rho) : evL Φ (.nil : X) u1 = ( some []) := rfl
theorem Z35 {Φ : Fns} (a : X) (l : X) (ρ : Rho) : evL Φ (.cons a l) ρ = ( match evE Φ a ρ with
    | some x => match evL Φ l ρ with
      | some xs => some (x :: xs)
      | none => none
    | none => none) := rfl
theorem Z36 {Φ : Fns} (a : X) (ρ : Rho) : evI Φ (.seq a) ρ = ( match evE Φ a ρ with
    | some x => seqItems x
    | none => none) := rfl
theorem Z37 {Φ : Fns} (a : X) (ρ : Rho) : evI Φ (.range1 a) ρ = ( match evE Φ a ρ with
    | some (_, .int n) => if -4096 ≤ n ∧ n ≤ 4096 then some (false, rangeL 0 n) else none
    | _ => none) := rfl
theorem Z38 {Φ : Fns} (a : X) (b : X) (ρ : Rho) : evI Φ (.range2 a b) ρ = ( match evE Φ a ρ, evE Φ b ρ with
    | some (_, .int i), some (_, .int j) => if -4096 ≤ i ∧ i ≤ 4096 ∧ -4096 ≤ j ∧ j ≤ 4096 ∧ j - i ≤ 4096 then some (false, rangeL i j) else none
    | _, _ => none) := rfl
theorem Z39 {Φ : Fns} (a : X) (ρ : Rho) : evI Φ (.enum a) ρ = ( match evE Φ a ρ with
    | some (c, .list xs) => if c.isDirty || decide (xs.length > maxLen) then none else some (!c.isClean, enumL xs)
    | _ => none) := rfl

set_option genSizeOf false in
set_option genInjectivity false in
inductive S where
  | done
  | seq (a rest : S)
  | asg (n : Nat) (e : X)
  | asgOwn (n : Nat) (e : X)
  | move (n m : Nat)
  | asgT (n : Nat) (f : Str) (l : X)
  | dic0 (n : Nat) (tup : Bool)
  | dic1 (n : Nat) (k v : X)
  | setKey (n : Nat) (k v : X)
  | setAt (n : Nat) (i e : X)
  | app (n : Nat) (e : X)
  | clear (n : Nat)
  | clearT (n : Nat)
  | remove (n : Nat) (e : X)
  | appPop (n m : Nat) (e : X)
  | exec (f : Str) (l : X)
  | ife (c : X) (a b : S)
  | for (t : Tg) (it : X) (body : S)
  | wh (fuel : Nat) (c : X) (body : S)
  | ret (e : X)
  | retOwn (n : Nat)
  | retT (e : X) (n : Nat)
  | raise

inductive Out where
  | next (ρ : Rho)
  | ret (fr : Bool) (d : PyData)
  | retT (d : PyData) (ds : List PyData)

structure Fns2 extends Fns where
  fnT : Str → List PyData → Option (PyData × List PyData)

noncomputable def forGo (f : Rho → PyData → Option Out) : List PyData → Rho → Option Out
  | [], ρ => some (.next ρ)
  | d :: r, ρ => match f ρ d with
    | some (.next ρ') => forGo f r ρ'
    | o => o
noncomputable def whGo (c : Rho → Option Bool) (f : Rho → Option Out) : Nat → Rho → Option Out
  | 0, _ => none
  | k + 1, ρ => match c ρ with
    | some true => match f ρ with
      | some (.next ρ') => whGo c f k ρ'
      | o => o
    | some false => some (.next ρ)
    | none => none

noncomputable def pureS : S → Bool
  | .done => true
  | .seq a r => pureS a && pureS r
  | .asg _ _ | .asgOwn _ _ | .ret _ | .retOwn _ => true
  | .ife _ a b => pureS a && pureS b
  | _ => false
theorem Z63  : pureS (.done : S) = ( true) := rfl
theorem Z64 (a : S) (r : S) : pureS (.seq a r) = ( pureS a && pureS r) := rfl
theorem Z65 (u1 : Nat) (u2 : X) : pureS (.asg u1 u2) = ( true) := rfl
theorem Z66 (u1 : Nat) (u2 : X) : pureS (.asgOwn u1 u2) = ( true) := rfl
theorem Z67 (u1 : X) : pureS (.ret u1) = ( true) := rfl
theorem Z68 (u1 : Nat) : pureS (.retOwn u1) = ( true) := rfl
theorem Z69 (u1 : X) (a : S) (b : S) : pureS (.ife u1 a b) = ( pureS a && pureS b) := rfl

noncomputable def upd (ρ : Rho) (n : Nat) (e : Ent) : Rho := ρ.set n (some e)
noncomputable def ownAt (ρ : Rho) (n : Nat) : Option (List PyData) := match ρ[n]? with
  | some (some (.own ds)) => if isDic ds then none else some ds
  | _ => none
noncomputable def evS (Φ : Fns2) : S → Rho → Option Out
  | .done, ρ => some (.next ρ)
  | .seq a r, ρ => match evS Φ a ρ with
    | some (.next ρ') => evS Φ r ρ'
    | o => o
  | .asg n e, ρ => match evE Φ.toFns e ρ with
    | some (c, d) => if c.isClean then some (.next (upd ρ n (.val d))) else none
    | none => none
  | .asgOwn n e, ρ => match evE Φ.toFns e ρ with
    | some (.fresh, .list ds) => some (.next (upd ρ n (.own ds)))
    | some (.fresh, d) => if isAtom d then some (.next (upd ρ n (.val d))) else none
    | _ => none
  | .move n m, ρ => match ownAt ρ m with
    | some ds => if n = m then none else some (.next ((ρ.set m none).set n (some (.own ds))))
    | none => none
  | .asgT n f l, ρ => match evL Φ.toFns l ρ with
    | some xs => if xs.all (·.1.isClean) then match Φ.fnT f (xs.map (·.2)) with
        | some (d, ds) => some (.next (upd ρ n (.ownT d ds)))
        | none => none
      else none
    | none => none
  | .dic0 _ _, _ => none
  | .dic1 _ _ _, _ => none
  | .setKey _ _ _, _ => none
  | .setAt n i e, ρ => match ownAt ρ n, evE Φ.toFns i ρ, evE Φ.toFns e ρ with
    | some ds, some (_, .int k), some (c, d) => if c.isClean && decide (0 ≤ k) && decide (k < ds.length) && decide (ds.length ≤ maxLen) then some (.next (upd ρ n (.own (ds.set k.toNat d)))) else none
    | _, _, _ => none
  | .app n e, ρ => match ownAt ρ n, evE Φ.toFns e ρ with
    | some ds, some (c, d) => if c.isClean && decide (ds.length < maxLen) then some (.next (upd ρ n (.own (ds ++ [d])))) else none
    | _, _ => none
  | .clear n, ρ => match ownAt ρ n with
    | some ds => if ds.length ≤ maxLen then some (.next (upd ρ n (.own []))) else none
    | none => none
  | .clearT n, ρ => match ρ[n]? with
    | some (some (.ownT _ ds)) => if ds.length ≤ maxLen then some (.next (ρ.set n none)) else none
    | _ => none
  | .remove _ _, _ => none
  | .appPop _ _ _, _ => none
  | .exec f l, ρ => match evE Φ.toFns (.call f l) ρ with
    | some _ => some (.next ρ)
    | none => none
  | .ife c a b, ρ => match asBool (evE Φ.toFns c ρ) with
    | some true => evS Φ a ρ
    | some false => evS Φ b ρ
    | none => none
  | .for t it body, ρ => match evI Φ.toFns it ρ with
    | some (np, items) => if np && !pureS body then none else forGo (fun ρ d => match bindT t ρ d with
        | some ρ' => evS Φ body ρ'
        | none => none) items ρ
    | none => none
  | .wh _ _ _, _ => none
  | .ret e, ρ => match evE Φ.toFns e ρ with
    | some (.fresh, d) => some (.ret true d)
    | some (_, d) => some (.ret false d)
    | none => none
  | .retOwn n, ρ => match ownAt ρ n with
    | some ds => some (.ret true (.list ds))
    | none => none
  | .retT _ _, _ => none
  | .raise, _ => none
theorem Z40 {Φ : Fns2} (ρ : Rho) : evS Φ (.done : S) ρ = ( some (.next ρ)) := rfl
theorem Z41 {Φ : Fns2} (a : S) (r : S) (ρ : Rho) : evS Φ (.seq a r) ρ = ( match evS Φ a ρ with
    | some (.next ρ') => evS Φ r ρ'
    | o => o) := rfl
theorem Z42 {Φ : Fns2} (n : Nat) (e : X) (ρ : Rho) : evS Φ (.asg n e) ρ = ( match evE Φ.toFns e ρ with
    | some (c, d) => if c.isClean then some (.next (upd ρ n (.val d))) else none
    | none => none) := rfl
theorem Z43 {Φ : Fns2} (n : Nat) (e : X) (ρ : Rho) : evS Φ (.asgOwn n e) ρ = ( match evE Φ.toFns e ρ with
    | some (.fresh, .list ds) => some (.next (upd ρ n (.own ds)))
    | some (.fresh, d) => if isAtom d then some (.next (upd ρ n (.val d))) else none
    | _ => none) := rfl
theorem Z44 {Φ : Fns2} (n : Nat) (m : Nat) (ρ : Rho) : evS Φ (.move n m) ρ = ( match ownAt ρ m with
    | some ds => if n = m then none else some (.next ((ρ.set m none).set n (some (.own ds))))
    | none => none) := rfl
theorem Z45 {Φ : Fns2} (n : Nat) (f : Str) (l : X) (ρ : Rho) : evS Φ (.asgT n f l) ρ = ( match evL Φ.toFns l ρ with
    | some xs => if xs.all (·.1.isClean) then match Φ.fnT f (xs.map (·.2)) with
        | some (d, ds) => some (.next (upd ρ n (.ownT d ds)))
        | none => none
      else none
    | none => none) := rfl
theorem Z46 {Φ : Fns2} (u1 : Nat) (u2 : Bool) (u3 : Rho) : evS Φ (.dic0 u1 u2) u3 = ( none) := rfl
theorem Z47 {Φ : Fns2} (u1 : Nat) (u2 : X) (u3 : X) (u4 : Rho) : evS Φ (.dic1 u1 u2 u3) u4 = ( none) := rfl
theorem Z48 {Φ : Fns2} (u1 : Nat) (u2 : X) (u3 : X) (u4 : Rho) : evS Φ (.setKey u1 u2 u3) u4 = ( none) := rfl
theorem Z49 {Φ : Fns2} (n : Nat) (i : X) (e : X) (ρ : Rho) : evS Φ (.setAt n i e) ρ = ( match ownAt ρ n, evE Φ.toFns i ρ, evE Φ.toFns e ρ with
    | some ds, some (_, .int k), some (c, d) => if c.isClean && decide (0 ≤ k) && decide (k < ds.length) && decide (ds.length ≤ maxLen) then some (.next (upd ρ n (.own (ds.set k.toNat d)))) else none
    | _, _, _ => none) := rfl
theorem Z50 {Φ : Fns2} (n : Nat) (e : X) (ρ : Rho) : evS Φ (.app n e) ρ = ( match ownAt ρ n, evE Φ.toFns e ρ with
    | some ds, some (c, d) => if c.isClean && decide (ds.length < maxLen) then some (.next (upd ρ n (.own (ds ++ [d])))) else none
    | _, _ => none) := rfl
theorem Z51 {Φ : Fns2} (n : Nat) (ρ : Rho) : evS Φ (.clear n) ρ = ( match ownAt ρ n with
    | some ds => if ds.length ≤ maxLen then some (.next (upd ρ n (.own []))) else none
    | none => none) := rfl
theorem Z52 {Φ : Fns2} (n : Nat) (ρ : Rho) : evS Φ (.clearT n) ρ = ( match ρ[n]? with
    | some (some (.ownT _ ds)) => if ds.length ≤ maxLen then some (.next (ρ.set n none)) else none
    | _ => none) := rfl
theorem Z53 {Φ : Fns2} (u1 : Nat) (u2 : X) (u3 : Rho) : evS Φ (.remove u1 u2) u3 = ( none) := rfl
theorem Z54 {Φ : Fns2} (u1 : Nat) (u2 : Nat) (u3 : X) (u4 : Rho) : evS Φ (.appPop u1 u2 u3) u4 = ( none) := rfl
theorem Z55 {Φ : Fns2} (f : Str) (l : X) (ρ : Rho) : evS Φ (.exec f l) ρ = ( match evE Φ.toFns (.call f l) ρ with
    | some _ => some (.next ρ)
    | none => none) := rfl
theorem Z56 {Φ : Fns2} (c : X) (a : S) (b : S) (ρ : Rho) : evS Φ (.ife c a b) ρ = ( match asBool (evE Φ.toFns c ρ) with
    | some true => evS Φ a ρ
    | some false => evS Φ b ρ
    | none => none) := rfl
theorem Z57 {Φ : Fns2} (t : Tg) (it : X) (body : S) (ρ : Rho) : evS Φ (.for t it body) ρ = ( match evI Φ.toFns it ρ with
    | some (np, items) => if np && !pureS body then none else forGo (fun ρ d => match bindT t ρ d with
        | some ρ' => evS Φ body ρ'
        | none => none) items ρ
    | none => none) := rfl
theorem Z58 {Φ : Fns2} (u1 : Nat) (u2 : X) (u3 : S) (u4 : Rho) : evS Φ (.wh u1 u2 u3) u4 = ( none) := rfl
theorem Z59 {Φ : Fns2} (e : X) (ρ : Rho) : evS Φ (.ret e) ρ = ( match evE Φ.toFns e ρ with
    | some (.fresh, d) => some (.ret true d)
    | some (_, d) => some (.ret false d)
    | none => none) := rfl
theorem Z60 {Φ : Fns2} (n : Nat) (ρ : Rho) : evS Φ (.retOwn n) ρ = ( match ownAt ρ n with
    | some ds => some (.ret true (.list ds))
    | none => none) := rfl
theorem Z61 {Φ : Fns2} (u1 : X) (u2 : Nat) (u3 : Rho) : evS Φ (.retT u1 u2) u3 = ( none) := rfl
theorem Z62 {Φ : Fns2} (u1 : Rho) : evS Φ (.raise : S) u1 = ( none) := rfl

end Mw

set_option maxRecDepth 10000
namespace Mw
open PySem

theorem dite_inv {p : Prop} [Decidable p] {f : p → Bool} {Q : Prop} (h : (if e : p then f e else false) = true) (hq : ∀ e, f e = true → Q) : Q := by
  by_cases e : p
  · rw [dif_pos e] at h; exact hq e h
  · rw [dif_neg e] at h; cases h
noncomputable def kBool (x : PySem.Expr) (k : BoolOp → List PySem.Expr → Pos → Bool) : Bool := if h : x.ctorIdx = 0 then @PySem.Expr.BoolOp.elim (fun _ => Bool) x h k else false
@[elab_as_elim] theorem eBool {P : PySem.Expr → Prop} {x : PySem.Expr} {k : BoolOp → List PySem.Expr → Pos → Bool} (h : kBool x k = true) (H : ∀ a0 a1 a2, k a0 a1 a2 = true → P (.BoolOp a0 a1 a2)) : P x := dite_inv h fun e => @PySem.Expr.BoolOp.elim (fun x => ∀ e, @PySem.Expr.BoolOp.elim (fun _ => Bool) x e k = true → P x) x e (fun a0 a1 a2 _ h => H a0 a1 a2 h) e
noncomputable def kBin (x : PySem.Expr) (k : PySem.Expr → Operator → PySem.Expr → Pos → Bool) : Bool := if h : x.ctorIdx = 2 then @PySem.Expr.BinOp.elim (fun _ => Bool) x h k else false
@[elab_as_elim] theorem eBin {P : PySem.Expr → Prop} {x : PySem.Expr} {k : PySem.Expr → Operator → PySem.Expr → Pos → Bool} (h : kBin x k = true) (H : ∀ a0 a1 a2 a3, k a0 a1 a2 a3 = true → P (.BinOp a0 a1 a2 a3)) : P x := dite_inv h fun e => @PySem.Expr.BinOp.elim (fun x => ∀ e, @PySem.Expr.BinOp.elim (fun _ => Bool) x e k = true → P x) x e (fun a0 a1 a2 a3 _ h => H a0 a1 a2 a3 h) e
theorem iBin {x : PySem.Expr} {k : PySem.Expr → Operator → PySem.Expr → Pos → Bool} (h : kBin x k = true) : ∃ a0 a1 a2 a3, x = .BinOp a0 a1 a2 a3 ∧ k a0 a1 a2 a3 = true := eBin h fun a0 a1 a2 a3 h => ⟨a0, a1, a2, a3, rfl, h⟩
noncomputable def kUn (x : PySem.Expr) (k : UnaryOp → PySem.Expr → Pos → Bool) : Bool := if h : x.ctorIdx = 3 then @PySem.Expr.UnaryOp.elim (fun _ => Bool) x h k else false
@[elab_as_elim] theorem eUn {P : PySem.Expr → Prop} {x : PySem.Expr} {k : UnaryOp → PySem.Expr → Pos → Bool} (h : kUn x k = true) (H : ∀ a0 a1 a2, k a0 a1 a2 = true → P (.UnaryOp a0 a1 a2)) : P x := dite_inv h fun e => @PySem.Expr.UnaryOp.elim (fun x => ∀ e, @PySem.Expr.UnaryOp.elim (fun _ => Bool) x e k = true → P x) x e (fun a0 a1 a2 _ h => H a0 a1 a2 h) e
noncomputable def kDict (x : PySem.Expr) (k : List (Option PySem.Expr) → List PySem.Expr → Pos → Bool) : Bool := if h : x.ctorIdx = 6 then @PySem.Expr.Dict.elim (fun _ => Bool) x h k else false
noncomputable def kComp (x : PySem.Expr) (k : PySem.Expr → List Comprehension → Scope → Pos → Bool) : Bool := if h : x.ctorIdx = 8 then @PySem.Expr.ListComp.elim (fun _ => Bool) x h k else false
@[elab_as_elim] theorem eComp {P : PySem.Expr → Prop} {x : PySem.Expr} {k : PySem.Expr → List Comprehension → Scope → Pos → Bool} (h : kComp x k = true) (H : ∀ a0 a1 a2 a3, k a0 a1 a2 a3 = true → P (.ListComp a0 a1 a2 a3)) : P x := dite_inv h fun e => @PySem.Expr.ListComp.elim (fun x => ∀ e, @PySem.Expr.ListComp.elim (fun _ => Bool) x e k = true → P x) x e (fun a0 a1 a2 a3 _ h => H a0 a1 a2 a3 h) e
noncomputable def kCmp (x : PySem.Expr) (k : PySem.Expr → List CmpOp → List PySem.Expr → Pos → Bool) : Bool := if h : x.ctorIdx = 15 then @PySem.Expr.Compare.elim (fun _ => Bool) x h k else false
@[elab_as_elim] theorem eCmp {P : PySem.Expr → Prop} {x : PySem.Expr} {k : PySem.Expr → List CmpOp → List PySem.Expr → Pos → Bool} (h : kCmp x k = true) (H : ∀ a0 a1 a2 a3, k a0 a1 a2 a3 = true → P (.Compare a0 a1 a2 a3)) : P x := dite_inv h fun e => @PySem.Expr.Compare.elim (fun x => ∀ e, @PySem.Expr.Compare.elim (fun _ => Bool) x e k = true → P x) x e (fun a0 a1 a2 a3 _ h => H a0 a1 a2 a3 h) e
noncomputable def kCall0 (x : PySem.Expr) (k : PySem.Expr → List PySem.Expr → List Keyword → Pos → Bool) : Bool := if h : x.ctorIdx = 16 then @PySem.Expr.Call.elim (fun _ => Bool) x h k else false
@[elab_as_elim] theorem eCall0 {P : PySem.Expr → Prop} {x : PySem.Expr} {k : PySem.Expr → List PySem.Expr → List Keyword → Pos → Bool} (h : kCall0 x k = true) (H : ∀ a0 a1 a2 a3, k a0 a1 a2 a3 = true → P (.Call a0 a1 a2 a3)) : P x := dite_inv h fun e => @PySem.Expr.Call.elim (fun x => ∀ e, @PySem.Expr.Call.elim (fun _ => Bool) x e k = true → P x) x e (fun a0 a1 a2 a3 _ h => H a0 a1 a2 a3 h) e
noncomputable def kConst (x : PySem.Expr) (k : Const → Nat → Pos → Bool) : Bool := if h : x.ctorIdx = 19 then @PySem.Expr.Constant.elim (fun _ => Bool) x h k else false
@[elab_as_elim] theorem eConst {P : PySem.Expr → Prop} {x : PySem.Expr} {k : Const → Nat → Pos → Bool} (h : kConst x k = true) (H : ∀ a0 a1 a2, k a0 a1 a2 = true → P (.Constant a0 a1 a2)) : P x := dite_inv h fun e => @PySem.Expr.Constant.elim (fun x => ∀ e, @PySem.Expr.Constant.elim (fun _ => Bool) x e k = true → P x) x e (fun a0 a1 a2 _ h => H a0 a1 a2 h) e
theorem iConst {x : PySem.Expr} {k : Const → Nat → Pos → Bool} (h : kConst x k = true) : ∃ a0 a1 a2, x = .Constant a0 a1 a2 ∧ k a0 a1 a2 = true := eConst h fun a0 a1 a2 h => ⟨a0, a1, a2, rfl, h⟩
noncomputable def kAttr (x : PySem.Expr) (k : PySem.Expr → Str → Pos → Bool) : Bool := if h : x.ctorIdx = 20 then @PySem.Expr.Attribute.elim (fun _ => Bool) x h k else false
@[elab_as_elim] theorem eAttr {P : PySem.Expr → Prop} {x : PySem.Expr} {k : PySem.Expr → Str → Pos → Bool} (h : kAttr x k = true) (H : ∀ a0 a1 a2, k a0 a1 a2 = true → P (.Attribute a0 a1 a2)) : P x := dite_inv h fun e => @PySem.Expr.Attribute.elim (fun x => ∀ e, @PySem.Expr.Attribute.elim (fun _ => Bool) x e k = true → P x) x e (fun a0 a1 a2 _ h => H a0 a1 a2 h) e
noncomputable def kSub (x : PySem.Expr) (k : PySem.Expr → PySem.Expr → Pos → Bool) : Bool := if h : x.ctorIdx = 21 then @PySem.Expr.Subscript.elim (fun _ => Bool) x h k else false
@[elab_as_elim] theorem eSub {P : PySem.Expr → Prop} {x : PySem.Expr} {k : PySem.Expr → PySem.Expr → Pos → Bool} (h : kSub x k = true) (H : ∀ a0 a1 a2, k a0 a1 a2 = true → P (.Subscript a0 a1 a2)) : P x := dite_inv h fun e => @PySem.Expr.Subscript.elim (fun x => ∀ e, @PySem.Expr.Subscript.elim (fun _ => Bool) x e k = true → P x) x e (fun a0 a1 a2 _ h => H a0 a1 a2 h) e
noncomputable def kName (x : PySem.Expr) (k : Str → Pos → Bool) : Bool := if h : x.ctorIdx = 23 then @PySem.Expr.Name.elim (fun _ => Bool) x h k else false
@[elab_as_elim] theorem eName {P : PySem.Expr → Prop} {x : PySem.Expr} {k : Str → Pos → Bool} (h : kName x k = true) (H : ∀ a0 a1, k a0 a1 = true → P (.Name a0 a1)) : P x := dite_inv h fun e => @PySem.Expr.Name.elim (fun x => ∀ e, @PySem.Expr.Name.elim (fun _ => Bool) x e k = true → P x) x e (fun a0 a1 _ h => H a0 a1 h) e
theorem iName {x : PySem.Expr} {k : Str → Pos → Bool} (h : kName x k = true) : ∃ a0 a1, x = .Name a0 a1 ∧ k a0 a1 = true := eName h fun a0 a1 h => ⟨a0, a1, rfl, h⟩
noncomputable def kLst (x : PySem.Expr) (k : List PySem.Expr → Pos → Bool) : Bool := if h : x.ctorIdx = 24 then @PySem.Expr.List.elim (fun _ => Bool) x h k else false
@[elab_as_elim] theorem eLst {P : PySem.Expr → Prop} {x : PySem.Expr} {k : List PySem.Expr → Pos → Bool} (h : kLst x k = true) (H : ∀ a0 a1, k a0 a1 = true → P (.List a0 a1)) : P x := dite_inv h fun e => @PySem.Expr.List.elim (fun x => ∀ e, @PySem.Expr.List.elim (fun _ => Bool) x e k = true → P x) x e (fun a0 a1 _ h => H a0 a1 h) e
theorem iLst {x : PySem.Expr} {k : List PySem.Expr → Pos → Bool} (h : kLst x k = true) : ∃ a0 a1, x = .List a0 a1 ∧ k a0 a1 = true := eLst h fun a0 a1 h => ⟨a0, a1, rfl, h⟩
noncomputable def kTup (x : PySem.Expr) (k : List PySem.Expr → Nat → Pos → Bool) : Bool := if h : x.ctorIdx = 25 then @PySem.Expr.Tuple.elim (fun _ => Bool) x h k else false
@[elab_as_elim] theorem eTup {P : PySem.Expr → Prop} {x : PySem.Expr} {k : List PySem.Expr → Nat → Pos → Bool} (h : kTup x k = true) (H : ∀ a0 a1 a2, k a0 a1 a2 = true → P (.Tuple a0 a1 a2)) : P x := dite_inv h fun e => @PySem.Expr.Tuple.elim (fun x => ∀ e, @PySem.Expr.Tuple.elim (fun _ => Bool) x e k = true → P x) x e (fun a0 a1 a2 _ h => H a0 a1 a2 h) e
theorem iTup {x : PySem.Expr} {k : List PySem.Expr → Nat → Pos → Bool} (h : kTup x k = true) : ∃ a0 a1 a2, x = .Tuple a0 a1 a2 ∧ k a0 a1 a2 = true := eTup h fun a0 a1 a2 h => ⟨a0, a1, a2, rfl, h⟩
noncomputable def kSlice (x : PySem.Expr) (k : Option PySem.Expr → Option PySem.Expr → Option PySem.Expr → Pos → Bool) : Bool := if h : x.ctorIdx = 26 then @PySem.Expr.Slice.elim (fun _ => Bool) x h k else false
@[elab_as_elim] theorem eSlice {P : PySem.Expr → Prop} {x : PySem.Expr} {k : Option PySem.Expr → Option PySem.Expr → Option PySem.Expr → Pos → Bool} (h : kSlice x k = true) (H : ∀ a0 a1 a2 a3, k a0 a1 a2 a3 = true → P (.Slice a0 a1 a2 a3)) : P x := dite_inv h fun e => @PySem.Expr.Slice.elim (fun x => ∀ e, @PySem.Expr.Slice.elim (fun _ => Bool) x e k = true → P x) x e (fun a0 a1 a2 a3 _ h => H a0 a1 a2 a3 h) e
noncomputable def kRet (x : PySem.Stmt) (k : Option PySem.Expr → Pos → Bool) : Bool := if h : x.ctorIdx = 3 then @PySem.Stmt.Return.elim (fun _ => Bool) x h k else false
@[elab_as_elim] theorem eRet {P : PySem.Stmt → Prop} {x : PySem.Stmt} {k : Option PySem.Expr → Pos → Bool} (h : kRet x k = true) (H : ∀ a0 a1, k a0 a1 = true → P (.Return a0 a1)) : P x := dite_inv h fun e => @PySem.Stmt.Return.elim (fun x => ∀ e, @PySem.Stmt.Return.elim (fun _ => Bool) x e k = true → P x) x e (fun a0 a1 _ h => H a0 a1 h) e
noncomputable def kAsg (x : PySem.Stmt) (k : List PySem.Expr → PySem.Expr → Pos → Bool) : Bool := if h : x.ctorIdx = 5 then @PySem.Stmt.Assign.elim (fun _ => Bool) x h k else false
@[elab_as_elim] theorem eAsg {P : PySem.Stmt → Prop} {x : PySem.Stmt} {k : List PySem.Expr → PySem.Expr → Pos → Bool} (h : kAsg x k = true) (H : ∀ a0 a1 a2, k a0 a1 a2 = true → P (.Assign a0 a1 a2)) : P x := dite_inv h fun e => @PySem.Stmt.Assign.elim (fun x => ∀ e, @PySem.Stmt.Assign.elim (fun _ => Bool) x e k = true → P x) x e (fun a0 a1 a2 _ h => H a0 a1 a2 h) e
noncomputable def kFor (x : PySem.Stmt) (k : PySem.Expr → PySem.Expr → List PySem.Stmt → List PySem.Stmt → Pos → Bool) : Bool := if h : x.ctorIdx = 9 then @PySem.Stmt.For.elim (fun _ => Bool) x h k else false
@[elab_as_elim] theorem eFor {P : PySem.Stmt → Prop} {x : PySem.Stmt} {k : PySem.Expr → PySem.Expr → List PySem.Stmt → List PySem.Stmt → Pos → Bool} (h : kFor x k = true) (H : ∀ a0 a1 a2 a3 a4, k a0 a1 a2 a3 a4 = true → P (.For a0 a1 a2 a3 a4)) : P x := dite_inv h fun e => @PySem.Stmt.For.elim (fun x => ∀ e, @PySem.Stmt.For.elim (fun _ => Bool) x e k = true → P x) x e (fun a0 a1 a2 a3 a4 _ h => H a0 a1 a2 a3 a4 h) e
noncomputable def kWh (x : PySem.Stmt) (k : PySem.Expr → List PySem.Stmt → List PySem.Stmt → Pos → Bool) : Bool := if h : x.ctorIdx = 11 then @PySem.Stmt.While.elim (fun _ => Bool) x h k else false
noncomputable def kIf (x : PySem.Stmt) (k : PySem.Expr → List PySem.Stmt → List PySem.Stmt → Pos → Bool) : Bool := if h : x.ctorIdx = 12 then @PySem.Stmt.If.elim (fun _ => Bool) x h k else false
@[elab_as_elim] theorem eIf {P : PySem.Stmt → Prop} {x : PySem.Stmt} {k : PySem.Expr → List PySem.Stmt → List PySem.Stmt → Pos → Bool} (h : kIf x k = true) (H : ∀ a0 a1 a2 a3, k a0 a1 a2 a3 = true → P (.If a0 a1 a2 a3)) : P x := dite_inv h fun e => @PySem.Stmt.If.elim (fun x => ∀ e, @PySem.Stmt.If.elim (fun _ => Bool) x e k = true → P x) x e (fun a0 a1 a2 a3 _ h => H a0 a1 a2 a3 h) e
theorem iIf {x : PySem.Stmt} {k : PySem.Expr → List PySem.Stmt → List PySem.Stmt → Pos → Bool} (h : kIf x k = true) : ∃ a0 a1 a2 a3, x = .If a0 a1 a2 a3 ∧ k a0 a1 a2 a3 = true := eIf h fun a0 a1 a2 a3 h => ⟨a0, a1, a2, a3, rfl, h⟩
noncomputable def kRaise (x : PySem.Stmt) (k : Option PySem.Expr → Option PySem.Expr → Pos → Bool) : Bool := if h : x.ctorIdx = 16 then @PySem.Stmt.Raise.elim (fun _ => Bool) x h k else false
noncomputable def kEx (x : PySem.Stmt) (k : PySem.Expr → Pos → Bool) : Bool := if h : x.ctorIdx = 24 then @PySem.Stmt.Expr.elim (fun _ => Bool) x h k else false
@[elab_as_elim] theorem eEx {P : PySem.Stmt → Prop} {x : PySem.Stmt} {k : PySem.Expr → Pos → Bool} (h : kEx x k = true) (H : ∀ a0 a1, k a0 a1 = true → P (.Expr a0 a1)) : P x := dite_inv h fun e => @PySem.Stmt.Expr.elim (fun x => ∀ e, @PySem.Stmt.Expr.elim (fun _ => Bool) x e k = true → P x) x e (fun a0 a1 _ h => H a0 a1 h) e
theorem iEx {x : PySem.Stmt} {k : PySem.Expr → Pos → Bool} (h : kEx x k = true) : ∃ a0 a1, x = .Expr a0 a1 ∧ k a0 a1 = true := eEx h fun a0 a1 h => ⟨a0, a1, rfl, h⟩
noncomputable def kCall (x : PySem.Expr) (k : PySem.Expr → List PySem.Expr → Pos → Bool) : Bool := kCall0 x fun f as ks p => ks.isEmpty && k f as p
@[elab_as_elim] theorem eCall {P : PySem.Expr → Prop} {x : PySem.Expr} {k : PySem.Expr → List PySem.Expr → Pos → Bool} (h : kCall x k = true) (H : ∀ f as p, k f as p = true → P (.Call f as [] p)) : P x := by
  refine eCall0 h fun f as ks p h => ?_
  obtain ⟨h1, h2⟩ := Bool.and_eq_true_iff.mp h
  cases List.isEmpty_iff.mp h1
  exact H f as p h2
noncomputable def k1 {α : Type} (l : List α) (k : α → Bool) : Bool := match l with
  | [] => false
  | a :: r => r.isEmpty && k a
@[elab_as_elim] theorem e1 {α : Type} {P : List α → Prop} {l : List α} {k : α → Bool} (h : k1 l k = true) (H : ∀ a, k a = true → P [a]) : P l := by
  cases l with
  | nil => cases h
  | cons a r =>
    obtain ⟨h1, h2⟩ := Bool.and_eq_true_iff.mp h
    cases List.isEmpty_iff.mp h1
    exact H a h2
noncomputable def kC {α : Type} (l : List α) (k : α → List α → Bool) : Bool := match l with
  | [] => false
  | a :: r => k a r
@[elab_as_elim] theorem eC {α : Type} {P : List α → Prop} {l : List α} {k : α → List α → Bool} (h : kC l k = true) (H : ∀ a r, k a r = true → P (a :: r)) : P l := by
  cases l with
  | nil => cases h
  | cons a r => exact H a r h
theorem iC {α : Type} {l : List α} {k : α → List α → Bool} (h : kC l k = true) : ∃ a r, l = a :: r ∧ k a r = true := eC h fun a r h => ⟨a, r, rfl, h⟩
noncomputable def k2 {α : Type} (l : List α) (k : α → α → Bool) : Bool := kC l fun a r => k1 r fun b => k a b
@[elab_as_elim] theorem e2 {α : Type} {P : List α → Prop} {l : List α} {k : α → α → Bool} (h : k2 l k = true) (H : ∀ a b, k a b = true → P [a, b]) : P l := by
  refine eC h fun a r h => ?_
  refine e1 h fun b h => ?_
  exact H a b h
noncomputable def kSome {α : Type} (l : Option α) (k : α → Bool) : Bool := match l with
  | none => false
  | some a => k a
@[elab_as_elim] theorem eSome {α : Type} {P : Option α → Prop} {l : Option α} {k : α → Bool} (h : kSome l k = true) (H : ∀ a, k a = true → P (some a)) : P l := by
  cases l with
  | none => cases h
  | some a => exact H a h
noncomputable def kNest (x : PySem.Expr) (k : Str → Str → PySem.Expr → Bool) : Bool := kCall x fun f as _ => kName f fun id _ => k1 as fun z => kCall z fun g bs _ => kName g fun id' _ => k1 bs fun y => k id id' y
theorem iNest {x : PySem.Expr} {k : Str → Str → PySem.Expr → Bool} (h : kNest x k = true) : ∃ id p id' p' y pos' pos, x = .Call (.Name id p) [.Call (.Name id' p') [y] [] pos'] [] pos ∧ k id id' y = true := by
  refine eCall h fun f as pos h1 => ?_
  refine eName h1 fun id p h2 => ?_
  refine e1 h2 fun z h3 => ?_
  refine eCall h3 fun f as pos' h4 => ?_
  refine eName h4 fun id' p' h5 => ?_
  refine e1 h5 fun y h6 => ?_
  exact ⟨id, p, id', p', y, pos', pos, rfl, h6⟩
noncomputable abbrev Sc := List (Str × NameKind)
noncomputable def Sc.isVar (sc : Sc) (x : Str) : Bool := (sc.lookup x == some .local || sc.lookup x == some .cell) && !(x == ("__debug__" : Str))
noncomputable def Sc.isGlob (sc : Sc) (x : Str) : Bool := sc.lookup x == some .globalImplicit && !(x == ("__debug__" : Str))
noncomputable def notSet : Expr → Bool
  | .Set .. => false
  | _ => true
noncomputable def notStar : Expr → Bool
  | .Starred .. => false
  | _ => true
noncomputable def relabelN (names : Sc) (sc : Sc) : Sc := names.map fun (n, k) => if (k == .free && true && sc.lookup n == some .cell) then (n, .cell) else (n, k)
noncomputable def Fn1.name : Fn1 → String
  | .len => "len" | .all => "all" | .maxL => "max" | .minL => "min" | .sorted => "sorted" | .list => "list" | .tuple => "tuple"
noncomputable def Fn2.name : Fn2 → String
  | .max => "max" | .min => "min"
noncomputable def Ty.name : Ty → String
  | .int => "int" | .bool => "bool" | .tuple => "tuple" | .list => "list"

noncomputable def nameIs (names : List Str) (n : Nat) (x : Str) : Bool := names[n]? == some x
noncomputable def notSlice (x : PySem.Expr) : Bool := x.ctorIdx != 26
theorem notSlice_iff {x : PySem.Expr} (h : notSlice x = true) : ∀ a b c p, x ≠ .Slice a b c p := by rintro a b c p rfl; cases h
noncomputable def okTg (names : List Str) (sc : Sc) (t : Tg) (x : PySem.Expr) : Bool := match t with
  | .one n => kName x fun y _ => nameIs names n y && sc.isVar y
  | .two n m => kTup x fun l _ _ => k2 l fun a b => kName a fun x _ => kName b fun y _ => nameIs names n x && sc.isVar x && nameIs names m y && sc.isVar y && !(n == m)
theorem ivOne {names : List Str} {sc : Sc} {n : Nat} {x : PySem.Expr} (h : okTg names sc (.one n) x = true) : ∃ y p, x = .Name y p ∧ (nameIs names n y && sc.isVar y) = true := iName h
theorem ivTwo {names : List Str} {sc : Sc} {n m : Nat} {t : PySem.Expr} (h : okTg names sc (.two n m) t = true) : ∃ x px y py k p, t = .Tuple [.Name x px, .Name y py] k p ∧ (nameIs names n x && sc.isVar x && nameIs names m y && sc.isVar y && !(n == m)) = true := by
  refine eTup h fun l k p h => ?_
  refine e2 h fun a b h => ?_
  refine eName h fun x px h => ?_
  refine eName h fun y py h => ?_
  exact ⟨x, px, y, py, k, p, rfl, h⟩
noncomputable def Tg.names (names : List Str) : Tg → List Str
  | .one n => [names.getD n ""]
  | .two n m => [names.getD n "", names.getD m ""]
noncomputable def okScope (names : List Str) (sc : Sc) (t : Tg) (scope : Scope) : Bool :=
  scope.kind == .function && scope.names.all (fun p => p.2 != .cell) && scope.names.all (fun p => p.2 != .local || scope.names.lookup p.1 == some .local) &&
  scope.names.all (fun p => p.2 != .local || p.1 == (".0" : Str) || (t.names names).contains p.1) &&
  scope.names.all (fun p => p.2 != .free || (sc.lookup p.1 == some .cell && scope.names.lookup p.1 == some .free)) &&
  (t.names names).all (fun x => scope.names.lookup x == some .local && !(x == (".0" : Str))) && !(t.names names).contains ""

noncomputable def itOk : Tg → X → Bool
  | .one _, .enum _ => false
  | _, _ => true

mutual
noncomputable def okX (names : List Str) (sc : Sc) : X → PySem.Expr → Bool
  | .const c, x => kConst x fun c' _ _ => decide (c = c')
  | .var n, x => kName x fun id _ => nameIs names n id && sc.isVar id
  | .glob g, x => kName x fun id _ => id == g && sc.isGlob id
  | .bin op a b, x => kBin x fun l op' r _ => decide (op = op') && okX names sc a l && okX names sc b r
  | .not a, x => kUn x fun o y _ => decide (o = .Not) && okX names sc a y
  | .and l, x => kBool x fun o ys _ => decide (o = .And) && kC ys fun y r => kC r fun z ys => okL names sc l (y :: z :: ys)
  | .or l, x => kBool x fun o ys _ => decide (o = .Or) && kC ys fun y r => kC r fun z ys => okL names sc l (y :: z :: ys)
  | .cmp op a b, x => kCmp x fun l os rs _ => k1 os fun op' => k1 rs fun r => decide (op = op') && notSet r && okX names sc a l && okX names sc b r
  | .cmp2 op₁ op₂ a b c, x => kCmp x fun l os rs _ => k2 os fun op' op'' => k2 rs fun r t => decide (op₁ = op') && decide (op₂ = op'') && notSet r && notSet t && okX names sc a l && okX names sc b r && okX names sc c t
  | .isinst t a, x => kCall x fun f as _ => kName f fun id _ => k2 as fun y z => kName z fun ty _ => id == ("isinstance" : Str) && sc.isGlob id && ty == Str.ofString t.name && sc.isGlob ty && notStar y && okX names sc a y
  | .un f a, x => kCall x fun g as _ => kName g fun id _ => k1 as fun y => id == Str.ofString f.name && sc.isGlob id && notStar y && okX names sc a y
  | .bi f a b, x => kCall x fun g as _ => kName g fun id _ => k2 as fun y z => id == Str.ofString f.name && sc.isGlob id && notStar y && notStar z && okX names sc a y && okX names sc b z
  | .listRange a, x => kNest x fun id id' y => id == ("list" : Str) && sc.isGlob id && id' == ("range" : Str) && sc.isGlob id' && notStar y && okX names sc a y
  | .sortedSet a, x => kNest x fun id id' y => id == ("sorted" : Str) && sc.isGlob id && id' == ("set" : Str) && sc.isGlob id' && notStar y && okX names sc a y
  | .revList a, x => kNest x fun id id' y => id == ("list" : Str) && sc.isGlob id && id' == ("reversed" : Str) && sc.isGlob id' && notStar y && okX names sc a y
  | .idx a i, x => kSub x fun y z _ => notSlice z && (okX names sc a y && okX names sc i z)
  | .upto a i, x => kSub x fun y s _ => kSlice s fun l u t _ => l.isNone && t.isNone && kSome u fun z => okX names sc a y && okX names sc i z
  | .since a i, x => kSub x fun y s _ => kSlice s fun l u t _ => u.isNone && t.isNone && kSome l fun z => okX names sc a y && okX names sc i z
  | .tup l, x => kTup x fun ys _ _ => okL names sc l ys
  | .lst l, x => kLst x fun ys _ => okL names sc l ys
  | .comp0 t elt it, x => kComp x fun e gs scope _ => k1 gs fun g => g.ifs.isEmpty && (decide (g.is_async = 0) && itOk t it && okScope names sc t scope && okTg names (relabelN scope.names sc) t g.target && notSet g.iter && okI names sc it g.iter && okX names (relabelN scope.names sc) elt e)
  | .comp1 t elt it c, x => kComp x fun e gs scope _ => k1 gs fun g => k1 g.ifs fun cond => decide (g.is_async = 0) && itOk t it && okScope names sc t scope && okTg names (relabelN scope.names sc) t g.target && notSet g.iter && okI names sc it g.iter && okX names (relabelN scope.names sc) elt e && okX names (relabelN scope.names sc) c cond
  | .call f l, x => kCall x fun g as _ => kName g fun id _ => kC as fun y ys => id == f && sc.isGlob id && okL names sc l (y :: ys)
  | .inDic neg a n, x => kCmp x fun l os rs _ => k1 os fun op => k1 rs fun r => kName r fun id _ => decide (op = if neg then .NotIn else .In) && nameIs names n id && sc.isVar id && okX names sc a l
  | .getDic n a, x => kSub x fun v z _ => notSlice z && kName v fun id _ => nameIs names n id && sc.isVar id && okX names sc a z
  | .nil, _ => false
  | .cons _ _, _ => false
  | .seq _, _ => false
  | .range1 _, _ => false
  | .range2 _ _, _ => false
  | .enum _, _ => false
noncomputable def okL (names : List Str) (sc : Sc) : X → List PySem.Expr → Bool
  | .nil, ys => ys.isEmpty
  | .cons a l, ys => kC ys fun y r => notStar y && okX names sc a y && okL names sc l r
  | _, _ => false
noncomputable def okI (names : List Str) (sc : Sc) : X → PySem.Expr → Bool
  | .seq a, x => okX names sc a x
  | .range1 a, x => kCall x fun g as _ => kName g fun id _ => k1 as fun y => id == ("range" : Str) && sc.isGlob id && notStar y && okX names sc a y
  | .range2 a b, x => kCall x fun g as _ => kName g fun id _ => k2 as fun y z => id == ("range" : Str) && sc.isGlob id && notStar y && notStar z && okX names sc a y && okX names sc b z
  | .enum a, x => kCall x fun g as _ => kName g fun id _ => k1 as fun y => id == ("enumerate" : Str) && sc.isGlob id && notStar y && okX names sc a y
  | _, _ => false
end

section
variable {names : List Str} {sc : Sc} {x : PySem.Expr} {a b c l : X} {n : Nat}
theorem asBool_inv {o : Option R1} {b : Bool} (h : asBool o = some b) : ∃ c, o = some (c, .bool b) := by
  cases o with
  | none => cases h
  | some q =>
    obtain ⟨c, d⟩ := q
    cases d <;> first | (cases h; exact ⟨c, rfl⟩) | cases h
theorem and_inv {p q : Bool} (h : (p && q) = true) : p = true ∧ q = true := Bool.and_eq_true_iff.mp h
theorem iv_const {c : Const} (h : okX names sc (.const c) x = true) : ∃ c' k pos, x = .Constant c' k pos ∧ decide (c = c') = true := iConst h
theorem iv_var (h : okX names sc (.var n) x = true) : ∃ id pos, x = .Name id pos ∧ (nameIs names n id && sc.isVar id) = true := iName h
theorem iv_glob {g : Str} (h : okX names sc (.glob g) x = true) : ∃ id pos, x = .Name id pos ∧ (id == g && sc.isGlob id) = true := iName h
theorem iv_bin {op : Operator} (h : okX names sc (.bin op a b) x = true) : ∃ l op' r pos, x = .BinOp l op' r pos ∧ (decide (op = op') && okX names sc a l && okX names sc b r) = true := iBin h
theorem iv_not (h : okX names sc (.not a) x = true) : ∃ y pos, x = .UnaryOp .Not y pos ∧ okX names sc a y = true := by
  refine eUn h fun o y p h => ?_
  obtain ⟨h1, h2⟩ := and_inv h
  cases of_decide_eq_true h1
  exact ⟨y, p, rfl, h2⟩
theorem iv_and (h : okX names sc (.and l) x = true) : ∃ y z ys pos, x = .BoolOp .And (y :: z :: ys) pos ∧ okL names sc l (y :: z :: ys) = true := by
  refine eBool h fun o y p h => ?_
  obtain ⟨h1, h2⟩ := and_inv h
  cases of_decide_eq_true h1
  refine eC h2 fun y r h => ?_
  refine eC h fun z r h => ?_
  exact ⟨y, z, r, p, rfl, h⟩
theorem iv_or (h : okX names sc (.or l) x = true) : ∃ y z ys pos, x = .BoolOp .Or (y :: z :: ys) pos ∧ okL names sc l (y :: z :: ys) = true := by
  refine eBool h fun o y p h => ?_
  obtain ⟨h1, h2⟩ := and_inv h
  cases of_decide_eq_true h1
  refine eC h2 fun y r h => ?_
  refine eC h fun z r h => ?_
  exact ⟨y, z, r, p, rfl, h⟩
theorem iv_cmp {op : CmpOp} (h : okX names sc (.cmp op a b) x = true) : ∃ l op' r pos, x = .Compare l [op'] [r] pos ∧ (decide (op = op') && notSet r && okX names sc a l && okX names sc b r) = true := by
  refine eCmp h fun l os rs p h => ?_
  refine e1 h fun o h => ?_
  refine e1 h fun r h => ?_
  exact ⟨l, o, r, p, rfl, h⟩
theorem iv_cmp2 {op₁ op₂ : CmpOp} (h : okX names sc (.cmp2 op₁ op₂ a b c) x = true) : ∃ l op' op'' r t pos, x = .Compare l [op', op''] [r, t] pos ∧ (decide (op₁ = op') && decide (op₂ = op'') && notSet r && notSet t && okX names sc a l && okX names sc b r && okX names sc c t) = true := by
  refine eCmp h fun l os rs p h => ?_
  refine e2 h fun o o' h => ?_
  refine e2 h fun r t h => ?_
  exact ⟨l, o, o', r, t, p, rfl, h⟩
theorem iv_isinst {t : Ty} (h : okX names sc (.isinst t a) x = true) : ∃ id p y ty q pos, x = .Call (.Name id p) [y, .Name ty q] [] pos ∧ (id == ("isinstance" : Str) && sc.isGlob id && ty == Str.ofString t.name && sc.isGlob ty && notStar y && okX names sc a y) = true := by
  refine eCall h fun f as pos h => ?_
  refine eName h fun id p h => ?_
  refine e2 h fun y z h => ?_
  refine eName h fun ty q h => ?_
  exact ⟨id, p, y, ty, q, pos, rfl, h⟩
theorem i_call1 {k : Str → PySem.Expr → Bool} (h : (kCall x fun g as _ => kName g fun id _ => k1 as fun y => k id y) = true) : ∃ id p y pos, x = .Call (.Name id p) [y] [] pos ∧ k id y = true := by
  refine eCall h fun f as pos h => ?_
  refine eName h fun id p h => ?_
  refine e1 h fun y h => ?_
  exact ⟨id, p, y, pos, rfl, h⟩
theorem i_call2 {k : Str → PySem.Expr → PySem.Expr → Bool} (h : (kCall x fun g as _ => kName g fun id _ => k2 as fun y z => k id y z) = true) : ∃ id p y z pos, x = .Call (.Name id p) [y, z] [] pos ∧ k id y z = true := by
  refine eCall h fun f as pos h => ?_
  refine eName h fun id p h => ?_
  refine e2 h fun y z h => ?_
  exact ⟨id, p, y, z, pos, rfl, h⟩
theorem iv_un {f : Fn1} (h : okX names sc (.un f a) x = true) : ∃ id p y pos, x = .Call (.Name id p) [y] [] pos ∧ (id == Str.ofString f.name && sc.isGlob id && notStar y && okX names sc a y) = true := i_call1 h
theorem iv_bi {f : Fn2} (h : okX names sc (.bi f a b) x = true) : ∃ id p y z pos, x = .Call (.Name id p) [y, z] [] pos ∧ (id == Str.ofString f.name && sc.isGlob id && notStar y && notStar z && okX names sc a y && okX names sc b z) = true := i_call2 h
theorem iv_listRange (h : okX names sc (.listRange a) x = true) : ∃ id p id' p' y pos' pos, x = .Call (.Name id p) [.Call (.Name id' p') [y] [] pos'] [] pos ∧ (id == ("list" : Str) && sc.isGlob id && id' == ("range" : Str) && sc.isGlob id' && notStar y && okX names sc a y) = true := iNest h
theorem iv_sortedSet (h : okX names sc (.sortedSet a) x = true) : ∃ id p id' p' y pos' pos, x = .Call (.Name id p) [.Call (.Name id' p') [y] [] pos'] [] pos ∧ (id == ("sorted" : Str) && sc.isGlob id && id' == ("set" : Str) && sc.isGlob id' && notStar y && okX names sc a y) = true := iNest h
theorem iv_idx (h : okX names sc (.idx a b) x = true) : ∃ y z pos, x = .Subscript y z pos ∧ (∀ u v w p, z ≠ .Slice u v w p) ∧ (okX names sc a y && okX names sc b z) = true := by
  refine eSub h fun y z p h => ?_
  exact ⟨y, z, p, rfl, notSlice_iff (and_inv h).1, (and_inv h).2⟩
theorem iv_upto (h : okX names sc (.upto a b) x = true) : ∃ y z p pos, x = .Subscript y (.Slice none (some z) none p) pos ∧ (okX names sc a y && okX names sc b z) = true := by
  refine eSub h fun y s p h => ?_
  refine eSlice h fun u v w q h => ?_
  obtain ⟨h1, h⟩ := and_inv h
  refine eSome h fun z h9 => ?_
  obtain ⟨h1, h2⟩ := and_inv h1
  cases Option.isNone_iff_eq_none.mp h1
  cases Option.isNone_iff_eq_none.mp h2
  exact ⟨y, z, q, p, rfl, h9⟩
theorem iv_since (h : okX names sc (.since a b) x = true) : ∃ y z p pos, x = .Subscript y (.Slice (some z) none none p) pos ∧ (okX names sc a y && okX names sc b z) = true := by
  refine eSub h fun y s p h => ?_
  refine eSlice h fun u v w q h => ?_
  obtain ⟨h1, h⟩ := and_inv h
  refine eSome h fun z h9 => ?_
  obtain ⟨h1, h2⟩ := and_inv h1
  cases Option.isNone_iff_eq_none.mp h1
  cases Option.isNone_iff_eq_none.mp h2
  exact ⟨y, z, q, p, rfl, h9⟩
theorem iv_tup (h : okX names sc (.tup l) x = true) : ∃ ys k pos, x = .Tuple ys k pos ∧ okL names sc l ys = true := iTup h
theorem iv_lst (h : okX names sc (.lst l) x = true) : ∃ ys pos, x = .List ys pos ∧ okL names sc l ys = true := iLst h
theorem iv_comp0 {t : Tg} (h : okX names sc (.comp0 t a b) x = true) : ∃ e tg iter asy scope pos, x = .ListComp e [⟨tg, iter, [], asy⟩] scope pos ∧ (decide (asy = 0) && itOk t b && okScope names sc t scope && okTg names (relabelN scope.names sc) t tg && notSet iter && okI names sc b iter && okX names (relabelN scope.names sc) a e) = true := by
  refine eComp h fun e gs scope p h => ?_
  refine e1 h fun g h => ?_
  obtain ⟨tg, it, ifs, asy⟩ := g
  obtain ⟨h1, h⟩ := and_inv h
  cases List.isEmpty_iff.mp h1
  exact ⟨e, tg, it, asy, scope, p, rfl, h⟩
theorem iv_comp1 {t : Tg} (h : okX names sc (.comp1 t a b c) x = true) : ∃ e tg iter cond asy scope pos, x = .ListComp e [⟨tg, iter, [cond], asy⟩] scope pos ∧ (decide (asy = 0) && itOk t b && okScope names sc t scope && okTg names (relabelN scope.names sc) t tg && notSet iter && okI names sc b iter && okX names (relabelN scope.names sc) a e && okX names (relabelN scope.names sc) c cond) = true := by
  refine eComp h fun e gs scope p h => ?_
  refine e1 h fun g h => ?_
  obtain ⟨tg, it, ifs, asy⟩ := g
  change k1 ifs _ = true at h
  refine e1 h fun cond h => ?_
  exact ⟨e, tg, it, cond, asy, scope, p, rfl, h⟩
theorem iv_call {f : Str} (h : okX names sc (.call f l) x = true) : ∃ id p y ys pos, x = .Call (.Name id p) (y :: ys) [] pos ∧ (id == f && sc.isGlob id && okL names sc l (y :: ys)) = true := by
  refine eCall h fun g as pos h => ?_
  refine eName h fun id p h => ?_
  refine eC h fun y r h => ?_
  exact ⟨id, p, y, r, pos, rfl, h⟩
theorem iv_cons {ys : List PySem.Expr} (h : okL names sc (.cons a l) ys = true) : ∃ y r, ys = y :: r ∧ (notStar y && okX names sc a y && okL names sc l r) = true := iC h
theorem iv_range1 (h : okI names sc (.range1 a) x = true) : ∃ id p y pos, x = .Call (.Name id p) [y] [] pos ∧ (id == ("range" : Str) && sc.isGlob id && notStar y && okX names sc a y) = true := i_call1 h
theorem iv_range2 (h : okI names sc (.range2 a b) x = true) : ∃ id p y z pos, x = .Call (.Name id p) [y, z] [] pos ∧ (id == ("range" : Str) && sc.isGlob id && notStar y && notStar z && okX names sc a y && okX names sc b z) = true := i_call2 h
theorem iv_enum (h : okI names sc (.enum a) x = true) : ∃ id p y pos, x = .Call (.Name id p) [y] [] pos ∧ (id == ("enumerate" : Str) && sc.isGlob id && notStar y && okX names sc a y) = true := i_call1 h
end
end Mw

set_option maxRecDepth 10000
namespace Mw
open PySem

noncomputable def NoTup (o : Obj) : Prop := ∀ vs n, o.data = .seq vs n → o.cls ≠ .type "tuple"
noncomputable def VarAt (env : Env) (h : Heap) (x : Str) (v : Value) : Prop :=
  (env.kindOf x = some .local ∧ ∃ m, h.Ns env.locals m ∧ m x = some v) ∨ (env.kindOf x = some .cell ∧ ∃ c, env.cells.lookup x = some c ∧ h.IsCell c (some v))
theorem VarAt.keeps {env : Env} {h h' : Heap} {x : Str} {v : Value} (q : VarAt env h x v) (k : ∀ b o, h.get? b = some o → h'.get? b = some o) : VarAt env h' x v := by
  rcases q with ⟨e, m, hn, hm⟩ | ⟨e, c, hc, hv⟩
  · exact .inl ⟨e, m, hn.keeps k, hm⟩
  · exact .inr ⟨e, c, hc, hv.keeps k⟩
theorem load_var {M : Model} {A : Around} {E : Value → Shared → Prop} {s : Shared} {env : Env} {x : Str} {v : Value} {Q : Value → Shared → Prop} (hk : env.scope.kind = .function) (hv : VarAt env s.heap x v) (h : Q v s) :
    wpAny M A (loadName env x) Q E s := by
  rcases hv with ⟨e, m, hn, hm⟩ | ⟨e, c, hc, hv⟩
  · exact wpAny_loadName_local hk e hn hm h
  · exact wpAny_loadName_cell hk e hc hv h

noncomputable def ShellAt (h : Heap) (W : Addr → Prop) (a : Addr) (ds : List PyData) : Prop := ∃ vs n, h.get? a = some (lObj vs n) ∧ RepL h W vs.toList ds
theorem ShellAt.mono {h h' : Heap} {W W' : Addr → Prop} {a : Addr} {ds : List PyData} (H : ∀ a o, ¬ W a → h.get? a = some o → ¬ W' a ∧ h'.get? a = some o) (ha : ∀ o, h.get? a = some o → h'.get? a = some o)
    (q : ShellAt h W a ds) : ShellAt h' W' a ds := let ⟨vs, n, e, r⟩ := q; ⟨vs, n, ha _ e, r.mono H⟩

noncomputable def DicAt (h : Heap) (W : Addr → Prop) (a : Addr) (ds : List PyData) : Prop := a ≠ sysModules ∧ match ds with
  | [.dict kvs] => ∃ prog w ks, h.DictOf (intKind prog w) a ks ∧ ks.length ≤ kvs.length ∧ ∀ i, match lookI kvs i with | none => valueAt ks i = none | some d => ∃ v, valueAt ks i = some v ∧ Rep h W v d
  | [.dict kvs, _] => ∃ prog w xs, h.DictOfH (tupleKind (intKind prog w)) a xs ∧ xs.length ≤ kvs.length ∧ (∀ x ∈ xs, ¬ W x.2.1) ∧ ∀ k, (atKey xs k).isSome = hasT kvs k
  | _ => False
theorem DicAt.mono {h h' : Heap} {W W' : Addr → Prop} {a : Addr} {ds : List PyData} (H : ∀ a o, ¬ W a → h.get? a = some o → ¬ W' a ∧ h'.get? a = some o) (ha : ∀ o, h.get? a = some o → h'.get? a = some o)
    (q : DicAt h W a ds) : DicAt h' W' a ds := by
  refine ⟨q.1, ?_⟩
  have q := q.2
  split at q
  · obtain ⟨prog, w, f, ⟨o, es, ep, ho, r⟩, hl, hf⟩ := q
    refine ⟨prog, w, f, ⟨o, es, ep, ha _ ho, r⟩, hl, fun i => ?_⟩
    have := hf i
    split at this
    · exact this
    · obtain ⟨v, e1, r⟩ := this
      exact ⟨v, e1, r.mono H⟩
  · obtain ⟨prog, w, xs, ⟨o, es, ep, ho, hc, hd, he, hk, nd⟩, hl, hw, hh⟩ := q
    refine ⟨prog, w, xs, ⟨o, es, ep, ha _ ho, hc, hd, he, fun x hx => ?_, nd⟩, hl, fun x hx => ?_, hh⟩
    · obtain ⟨o', items, n, ho', hc', hd', hi⟩ := hk x hx
      exact ⟨o', items, n, (H _ _ (hw x hx) ho').2, hc', hd', hi⟩
    · obtain ⟨o', items, n, ho', hc', hd', hi⟩ := hk x hx
      exact (H _ _ (hw x hx) ho').1
  · exact q.elim
theorem DicAt.isDic {h : Heap} {W : Addr → Prop} {a : Addr} {ds : List PyData} (q : DicAt h W a ds) : isDic ds = true := by
  have q := q.2
  split at q
  · rfl
  · rfl
  · exact q.elim
noncomputable def OwnAt (h : Heap) (W : Addr → Prop) (a : Addr) (ds : List PyData) : Prop := ShellAt h W a ds ∨ DicAt h W a ds
theorem OwnAt.mono {h h' : Heap} {W W' : Addr → Prop} {a : Addr} {ds : List PyData} (H : ∀ a o, ¬ W a → h.get? a = some o → ¬ W' a ∧ h'.get? a = some o) (ha : ∀ o, h.get? a = some o → h'.get? a = some o)
    (q : OwnAt h W a ds) : OwnAt h' W' a ds := q.imp (·.mono H ha) (·.mono H ha)
theorem OwnAt.shell {h : Heap} {W : Addr → Prop} {a : Addr} {ds : List PyData} (q : OwnAt h W a ds) (hd : isDic ds = false) : ShellAt h W a ds := q.elim id fun q => by rw [q.isDic] at hd; cases hd
noncomputable def Priv (env : Env) (b : Addr) : Prop := b = env.locals ∨ ∃ x, env.cells.lookup x = some b

noncomputable def EntOk (h : Heap) (W₀ W : Addr → Prop) (v : Value) : Ent → Prop
  | .val d => Rep h W v d
  | .own ds => ∃ a, v = .ref a ∧ W a ∧ ¬ W₀ a ∧ OwnAt h W a ds
  | .ownT d ds => ∃ t a v₀ n, v = .ref t ∧ ¬ W t ∧ h.get? t = some (tObj #[v₀, .ref a] n) ∧ Rep h W v₀ d ∧ W a ∧ ¬ W₀ a ∧ ShellAt h W a ds
theorem EntOk.keeps {h h' : Heap} {W₀ W : Addr → Prop} {v : Value} {e : Ent} (q : EntOk h W₀ W v e) (k : ∀ b o, h.get? b = some o → h'.get? b = some o) : EntOk h' W₀ W v e := by
  have H : ∀ a o, ¬ W a → h.get? a = some o → ¬ W a ∧ h'.get? a = some o := fun a o hw ho => ⟨hw, k a o ho⟩
  cases e with
  | val d => exact Rep.mono H q
  | own ds => obtain ⟨a, e, w, w₀, sh⟩ := q; exact ⟨a, e, w, w₀, sh.mono H fun o => k a o⟩
  | ownT d ds => obtain ⟨t, a, v₀, n, e, wt, ht, r, w, w₀, sh⟩ := q; exact ⟨t, a, v₀, n, e, wt, k _ _ ht, r.mono H, w, w₀, sh.mono H fun o => k a o⟩

noncomputable def EnvOk (env : Env) (names : List Str) (W₀ W : Addr → Prop) (ρ : Rho) (h : Heap) : Prop :=
  ∀ (n : Nat) (e : Ent) (x : Str), ρ[n]? = some (some e) → names[n]? = some x → (env.kindOf x = some .local ∨ env.kindOf x = some .cell) → ∃ v, VarAt env h x v ∧ EntOk h (fun a => W₀ a ∨ Priv env a) W v e
theorem EnvOk.keeps {env : Env} {names : List Str} {W₀ W : Addr → Prop} {ρ : Rho} {h h' : Heap} (q : EnvOk env names W₀ W ρ h) (k : ∀ b o, h.get? b = some o → h'.get? b = some o) : EnvOk env names W₀ W ρ h' :=
  fun n e x h1 h2 h3 => let ⟨v, a, b⟩ := q n e x h1 h2 h3; ⟨v, a.keeps k, b.keeps k⟩

noncomputable def RV (h₁ h : Heap) (W₀ W : Addr → Prop) (v : Value) : Cl → PyData → Prop
  | .fresh, d => Rep h W v d ∧ ∀ a, v = .ref a → h₁.get? a = none
  | .clean, d => Rep h W v d
  | .shell, d => ∃ a ds, v = .ref a ∧ d = .list ds ∧ ¬ W₀ a ∧ ShellAt h W a ds
  | .dirty, d => Rep h W₀ v d

theorem RV.keeps {h₁ : Heap} {s s' : Shared} {W₀ W : Addr → Prop} {v : Value} {c : Cl} {d : PyData} (k : Keeps s s') (q : RV h₁ s.heap W₀ W v c d) : RV h₁ s'.heap W₀ W v c d := by
  cases c with
  | fresh => exact ⟨q.1.keeps k, q.2⟩
  | clean => exact Rep.keeps k q
  | shell => obtain ⟨a, ds, e1, e2, w, sh⟩ := q; exact ⟨a, ds, e1, e2, w, sh.mono (fun a o hw ho => ⟨hw, Keeps.heap k a o ho⟩) fun o => Keeps.heap k a o⟩
  | dirty => exact Rep.keeps k q
theorem RV.dirty {h₁ h : Heap} {W₀ W : Addr → Prop} {v : Value} {c : Cl} {d : PyData} (le : ∀ a, W₀ a → W a) (q : RV h₁ h W₀ W v c d) : Rep h W₀ v d := by
  have H : ∀ a o, ¬ W a → h.get? a = some o → ¬ W₀ a ∧ h.get? a = some o := fun a o hw ho => ⟨fun x => hw (le a x), ho⟩
  cases c with
  | fresh => exact Rep.mono H q.1
  | clean => exact Rep.mono H q
  | shell => obtain ⟨a, ds, rfl, rfl, w, ⟨vs, n, e, r⟩⟩ := q; exact .list w e (r.mono H).1 (r.mono H).2
  | dirty => exact q
theorem RV.ofClean {h₁ h : Heap} {W₀ W : Addr → Prop} {v : Value} {c : Cl} {d : PyData} (hc : c.isClean = true) (q : RV h₁ h W₀ W v c d) : Rep h W v d := by
  cases c with
  | fresh => exact q.1
  | clean => exact q
  | shell => cases hc
  | dirty => cases hc
theorem RV.shellOf {h₁ h : Heap} {W₀ W : Addr → Prop} {v : Value} {c : Cl} {ds : List PyData} (hc : c.isDirty = false) (q : RV h₁ h W₀ W v c (.list ds)) : ∃ a vs n, v = .ref a ∧ h.get? a = some (lObj vs n) ∧ RepL h W vs.toList ds := by
  have aux : Rep h W v (.list ds) → ∃ a vs n, v = .ref a ∧ h.get? a = some (lObj vs n) ∧ RepL h W vs.toList ds := fun r => let ⟨a, vs, n, e, _, ho, rl⟩ := r.list_inv; ⟨a, vs, n, e, ho, rl⟩
  cases c with
  | fresh => exact aux q.1
  | clean => exact aux q
  | shell => obtain ⟨a, es, e, e', w, ⟨vs, n, ho, r⟩⟩ := q; cases e'; exact ⟨a, vs, n, e, ho, r⟩
  | dirty => cases hc
theorem RV.tupOf {h₁ h : Heap} {W₀ W : Addr → Prop} {v : Value} {c : Cl} {ds : List PyData} (hc : c.isDirty = false) (q : RV h₁ h W₀ W v c (.tuple ds)) : ∃ a vs n, v = .ref a ∧ h.get? a = some (tObj vs n) ∧ RepL h W vs.toList ds := by
  have aux : Rep h W v (.tuple ds) → ∃ a vs n, v = .ref a ∧ h.get? a = some (tObj vs n) ∧ RepL h W vs.toList ds := fun r => let ⟨a, vs, n, e, _, ho, rl⟩ := r.tuple_inv; ⟨a, vs, n, e, ho, rl⟩
  cases c with
  | fresh => exact aux q.1
  | clean => exact aux q
  | shell => obtain ⟨a, es, e, e', _⟩ := q; cases e'
  | dirty => cases hc
theorem RV.start {h₁ h₂ h : Heap} {W₀ W : Addr → Prop} {v : Value} {c : Cl} {d : PyData} (k : ∀ b o, h₁.get? b = some o → h₂.get? b = some o) (q : RV h₂ h W₀ W v c d) : RV h₁ h W₀ W v c d := by
  cases c with
  | fresh => refine ⟨q.1, fun a e => ?_⟩
             cases e' : h₁.get? a with
             | none => rfl
             | some o => have := q.2 a e; rw [k a o e'] at this; cases this
  | clean => exact q
  | shell => exact q
  | dirty => exact q
theorem RV.atom {h₁ h : Heap} {W₀ W : Addr → Prop} {v : Value} {d : PyData} (r : Rep h W v d) (ha : isAtom d = true) : RV h₁ h W₀ W v .fresh d :=
  ⟨r, fun a e => by subst e; exact (r.atom_ref ha).elim⟩
theorem RV.bool {h₁ h : Heap} {W₀ W : Addr → Prop} (b : Bool) : RV h₁ h W₀ W (.bool b) .fresh (.bool b) := ⟨.bool b, fun _ e => by cases e⟩
theorem RV.int {h₁ h : Heap} {W₀ W : Addr → Prop} (i : Int) (t : Tok) : RV h₁ h W₀ W (.int i t) .fresh (.int i) := ⟨.int i t, fun _ e => by cases e⟩
theorem RV.reads {h₁ h : Heap} {W₀ W : Addr → Prop} {v : Value} {c : Cl} {d : PyData} (le : ∀ a, W₀ a → W a) (q : RV h₁ h W₀ W v c d) : ∃ as, Reads h v d as := (q.dirty le).reads
theorem RV.int_inv {h₁ h : Heap} {W₀ W : Addr → Prop} {v : Value} {c : Cl} {i : Int} (le : ∀ a, W₀ a → W a) (q : RV h₁ h W₀ W v c (.int i)) : ∃ t, v = .int i t := (q.dirty le).int_inv
theorem RV.bool_inv {h₁ h : Heap} {W₀ W : Addr → Prop} {v : Value} {c : Cl} {b : Bool} (le : ∀ a, W₀ a → W a) (q : RV h₁ h W₀ W v c (.bool b)) : v = .bool b := (q.dirty le).bool_inv

structure Bs where
  prog : Program
  w : World
  H : Heap
  mg : Str → Option Value
  mb : Str → Option Value
noncomputable def btab : List (String × Value) := [("len", .builtin "len"), ("all", .builtin "all"), ("max", .builtin "max"), ("min", .builtin "min"), ("sorted", .builtin "sorted"), ("isinstance", .builtin "isinstance"),
  ("list", .type "list"), ("tuple", .type "tuple"), ("set", .type "set"), ("range", .type "range"), ("enumerate", .type "enumerate"), ("reversed", .type "reversed"), ("int", .type "int"), ("bool", .type "bool")]
structure Bs.Ok (B : Bs) : Prop where
  g : B.H.Ns mainGlobals B.mg
  b : B.H.Ns builtinsNs B.mb
  nolimit : B.H.NoLimit
  bt : ∀ p ∈ btab, B.mg (Str.ofString p.1) = none ∧ B.mb (Str.ofString p.1) = some p.2
noncomputable abbrev Bs.M (B : Bs) : Model := model B.prog B.w

structure Room (n : Nat) (A : Around) : Prop where
  handled : A.handled = none
  depth : A.depth + n < 990
  units : A.units + 300 + 8 * n < 9900
theorem Room.deeper {n : Nat} {A : Around} {env : Env} (r : Room (n + 1) A) : Room n (A.deeper env) :=
  ⟨r.handled, by have := r.depth; show A.depth + 1 + n < 990; omega, by have := r.units; show A.units + 3 + 300 + 8 * n < 9900; omega⟩

structure Frm (env : Env) (h : Heap) : Prop where
  ns : ∃ m, h.Ns env.locals m
  has : ∀ x, env.kindOf x = some .cell → ∃ c, env.cells.lookup x = some c
  cell : ∀ x c, env.cells.lookup x = some c → ∃ v, h.IsCell c v
  off : ∀ x c, env.cells.lookup x = some c → c ≠ env.locals
  apart : ∀ x y c, env.cells.lookup x = some c → env.cells.lookup y = some c → x = y
theorem Frm.keeps {env : Env} {h h' : Heap} (q : Frm env h) (k : ∀ b o, h.get? b = some o → h'.get? b = some o) : Frm env h' :=
  ⟨let ⟨m, e⟩ := q.ns; ⟨m, e.keeps k⟩, q.has, fun x c e => let ⟨v, hv⟩ := q.cell x c e; ⟨v, hv.keeps k⟩, q.off, q.apart⟩
theorem Frm.not_seq {env : Env} {h : Heap} (q : Frm env h) {b : Addr} {o : Obj} {vs : Array Value} {n : Nat} (ho : h.get? b = some o) (hd : o.data = .seq vs n) : ¬ Priv env b := by
  rintro (rfl | ⟨x, hx⟩)
  · obtain ⟨m, o', es, ep, ho', hd', _⟩ := q.ns
    rw [ho] at ho'; cases ho'; rw [hd] at hd'; cases hd'
  · obtain ⟨v, o', ho', hd'⟩ := q.cell x b hx
    rw [ho] at ho'; cases ho'; rw [hd] at hd'; cases hd'

structure Cx (B : Bs) (n : Nat) (A : Around) (env : Env) (names : List Str) (W₀ W : Addr → Prop) (ρ : Rho) (s : Shared) : Prop where
  room : Room n A
  fn : env.scope.kind = .function
  gl : env.globals = mainGlobals
  bl : env.builtins = builtinsNs
  base : ∀ b o, B.H.get? b = some o → s.heap.get? b = some o
  le : ∀ a, W₀ a → W a
  wok : ∀ a, W a → ∃ o, s.heap.get? a = some o ∧ NoTup o
  frm : Frm env s.heap
  priv : ∀ b, Priv env b → W b
  offH : ∀ b, Priv env b → B.H.get? b = none
  nd : names.Nodup
  dot : (".0" : Str) ∉ names
  env : EnvOk env names W₀ W ρ s.heap
theorem Cx.keeps {B : Bs} {n : Nat} {A : Around} {env : Env} {names : List Str} {W₀ W : Addr → Prop} {ρ : Rho} {s s' : Shared} (q : Cx B n A env names W₀ W ρ s) (k : Keeps s s') : Cx B n A env names W₀ W ρ s' where
  room := q.room
  fn := q.fn
  gl := q.gl
  bl := q.bl
  base := fun b o e => Keeps.heap k b o (q.base b o e)
  le := q.le
  wok := fun a ha => let ⟨o, ho, hc⟩ := q.wok a ha; ⟨o, Keeps.heap k a o ho, hc⟩
  env := q.env.keeps (Keeps.heap k)
  frm := q.frm.keeps (Keeps.heap k)
  priv := q.priv
  offH := q.offH
  nd := q.nd
  dot := q.dot

noncomputable def FnOk (B : Bs) (f : Str) (sp : List PyData → Option (Bool × PyData)) (lvl : Nat) : Prop :=
  ∃ fa o fd, B.mg f = some (.ref fa) ∧ B.H.get? fa = some o ∧ o.data = .func fd ∧
    ∀ ds fr d, sp ds = some (fr, d) → ∀ A s W vs, Room lvl A → (∀ b o, B.H.get? b = some o → s.heap.get? b = some o) → (∀ a, W a → ∃ o, s.heap.get? a = some o ∧ NoTup o) → RepL s.heap W vs ds →
      codeAny B.M A (.call (.ref fa) ⟨vs, []⟩) (fun r s' => ∃ v, r = .ok (.ret v) ∧ Keeps s s' ∧ Rep s'.heap W v d ∧ (fr = true → ∀ a, v = .ref a → s.heap.get? a = none)) s
noncomputable def FnsOk (B : Bs) (Φ : Fns) (lvl : Nat) : Prop :=
  (∀ f, (∃ ds r, Φ.fn f ds = some r) → FnOk B f (Φ.fn f) lvl) ∧ (∀ x i, Φ.gl x = some i → ∃ t, B.mg x = some (.int i t))

section
variable {B : Bs} {n : Nat} {A : Around} {env : Env} {names : List Str} {W₀ W : Addr → Prop} {ρ : Rho} {s : Shared} {E : Value → Shared → Prop}

theorem load_glob {x : Str} {pos : Pos} {v : Value} {Q : Value → Shared → Prop} (hB : B.Ok) (c : Cx B n A env names W₀ W ρ s) (hx : Sc.isGlob env.scope.names x = true) (hv : B.mg x = some v) (h : Q v s) :
    wpAny B.M A (eval (.Name x pos) env) Q E s := by
  simp only [Sc.isGlob, Bool.and_eq_true, beq_iff_eq, Bool.not_eq_true'] at hx
  refine Calls.Name_function_global c.fn hx.1 (Calls.loadGlobal_global (mg := B.mg) ?_ hv h) hx.2
  rw [c.gl]; exact hB.g.keeps c.base
theorem load_built {x : String} {pos : Pos} {v : Value} {Q : Value → Shared → Prop} (hB : B.Ok) (c : Cx B n A env names W₀ W ρ s) (hx : Sc.isGlob env.scope.names (Str.ofString x) = true) (hm : (x, v) ∈ btab) (h : Q v s) :
    wpAny B.M A (eval (.Name (Str.ofString x) pos) env) Q E s := by
  simp only [Sc.isGlob, Bool.and_eq_true, beq_iff_eq, Bool.not_eq_true'] at hx
  have hb := hB.bt _ hm
  refine Calls.Name_function_global c.fn hx.1 (Calls.loadGlobal_builtin (mg := B.mg) (mb := B.mb) ?_ hb.1 ?_ hb.2 h) hx.2
  · rw [c.gl]; exact hB.g.keeps c.base
  · rw [c.bl]; exact hB.b.keeps c.base
end
end Mw

set_option maxRecDepth 10000
namespace Mw
open PySem PySem.W PyProof.Rows

inductive Runs {α : Type} (n : Nat) (c : Nat → Nat → Bool) : KasT α → α → Prop
  | ret (a : α) : Runs n c (.ret a) a
  | ask {i j : Nat} {k : Bool → KasT α} {a : α} : i < n → j < n → Runs n c (k (c i j)) a → Runs n c (.ask i j k) a
theorem Runs.bind {α β : Type} {n : Nat} {c : Nat → Nat → Bool} {f : α → KasT β} {a : α} {b : β} {t : KasT α} (h : Runs n c t a) (h' : Runs n c (f a) b) : Runs n c (t.bind f) b := by
  induction h with
  | ret a => exact h'
  | ask hi hj _ ih => exact .ask hi hj (ih h')
theorem Runs.wp {α : Type} {n : Nat} {c : Nat → Nat → Bool} {cmp : Nat → Nat → (Bool → Shared → Prop) → Shared → Prop} {s : Shared} (hc : ∀ i j C, i < n → j < n → C (c i j) s → cmp i j C s) {t : KasT α} {a : α} {Q : α → Shared → Prop} (h : Runs n c t a) (hq : Q a s) :
    t.kasWp cmp Q s := by
  induction h with
  | ret a => exact hq
  | ask hi hj _ ih => exact hc _ _ _ hi hj (ih hq)

structure Ord (n : Nat) (c : Nat → Nat → Bool) : Prop where
  trans : ∀ i j k, c i j = true → c j k = true → c i k = true
  irr : ∀ i, c i i = false
  tri : ∀ i j, i < n → j < n → i ≠ j → c i j = false → c j i = true
structure Pm (n : Nat) (p : Array Nat) : Prop where
  perm : p.toList.Perm (List.range n)
noncomputable abbrev at' (p : Array Nat) (i : Nat) : Nat := p.getD i 0
section
variable {n : Nat} {c : Nat → Nat → Bool} {p : Array Nat}
theorem Pm.size (h : Pm n p) : p.size = n := by have := h.perm.length_eq; simpa using this
theorem at_eq {i : Nat} (hi : i < p.size) : at' p i = p[i] := by simp [at', Array.getD, hi]
theorem at_opt {q : Array Nat} {i j : Nat} (h : p[i]? = q[j]?) : at' p i = at' q j := by
  simp only [at', Array.getD_eq_getD_getElem?, h]
theorem Pm.lt (h : Pm n p) {i : Nat} (hi : i < n) : at' p i < n := by
  rw [at_eq (by rw [h.size]; exact hi)]
  have : p[i]'(by rw [h.size]; exact hi) ∈ p.toList := Array.getElem_mem_toList _
  simpa using h.perm.mem_iff.mp this
theorem Pm.ne (h : Pm n p) {i j : Nat} (hi : i < n) (hj : j < n) (hij : i ≠ j) : at' p i ≠ at' p j := by
  have nd : p.toList.Nodup := h.perm.nodup_iff.mpr List.nodup_range
  have hi' : i < p.size := by rw [h.size]; exact hi
  have hj' : j < p.size := by rw [h.size]; exact hj
  rw [at_eq hi', at_eq hj']
  intro e
  apply hij
  have := (List.getElem_inj (xs := p.toList) (i := i) (j := j) (h₀ := by simpa using hi') (h₁ := by simpa using hj') nd).mp (by simpa using e)
  exact this
theorem Pm.of_perm {q : Array Nat} (h : Pm n p) (e : q.Perm p) : Pm n q := ⟨(Array.perm_iff_toList_perm.mp e).trans h.perm⟩

noncomputable def Up (c : Nat → Nat → Bool) (p : Array Nat) (m : Nat) : Prop := ∀ i j, i < j → j < m → c (at' p i) (at' p j) = true
noncomputable def Down (c : Nat → Nat → Bool) (p : Array Nat) (m : Nat) : Prop := ∀ i j, i < j → j < m → c (at' p j) (at' p i) = true

theorem Up.succ (o : Ord n c) (h : Pm n p) {m : Nat} (u : Up c p m) (h1 : 1 ≤ m) (hm : m < n) (hc : c (at' p m) (at' p (m - 1)) = false) : Up c p (m + 1) := by
  have hl : c (at' p (m - 1)) (at' p m) = true := o.tri _ _ (h.lt hm) (h.lt (by omega)) (h.ne hm (by omega) (by omega)) hc
  intro i j hij hj
  by_cases e : j = m
  · subst e
    by_cases e' : i = j - 1
    · subst e'; exact hl
    · exact o.trans _ _ _ (u i (j - 1) (by omega) (by omega)) hl
  · exact u i j hij (by omega)
theorem Down.succ (o : Ord n c) {m : Nat} (u : Down c p m) (h1 : 1 ≤ m) (hc : c (at' p m) (at' p (m - 1)) = true) : Down c p (m + 1) := by
  intro i j hij hj
  by_cases e : j = m
  · subst e
    by_cases e' : i = j - 1
    · subst e'; exact hc
    · exact o.trans _ _ _ hc (u i (j - 1) (by omega) (by omega))
  · exact u i j hij (by omega)

theorem run_asc (o : Ord n c) (h : Pm n p) : ∀ (f a : Nat), 1 ≤ a → a + f ≤ n → Up c p a → ∃ m, Runs n c (kas_asc p f a) m ∧ a ≤ m ∧ m ≤ a + f ∧ Up c p m ∧ (m = a + f ∨ c (at' p m) (at' p (m - 1)) = true)
  | 0, a, _, _, u => ⟨a, .ret a, Nat.le_refl _, Nat.le_refl _, u, .inl rfl⟩
  | f + 1, a, h1, h2, u => by
    unfold kas_asc
    cases hc : c (at' p a) (at' p (a - 1)) with
    | true => exact ⟨a, .ask (h.lt (by omega)) (h.lt (by omega)) (by rw [hc]; exact .ret a), Nat.le_refl _, by omega, u, .inr hc⟩
    | false =>
      obtain ⟨m, r, m1, m2, um, e⟩ := run_asc o h f (a + 1) (by omega) (by omega) (u.succ o h h1 (by omega) hc)
      exact ⟨m, .ask (h.lt (by omega)) (h.lt (by omega)) (by rw [hc]; exact r), by omega, by omega, um, e.imp (by omega) id⟩
theorem run_desc (o : Ord n c) (h : Pm n p) : ∀ (f a : Nat), 1 ≤ a → a + f ≤ n → Down c p a → ∃ m, Runs n c (kas_desc f p a 0) (p, m, 0) ∧ a ≤ m ∧ m ≤ a + f ∧ Down c p m
  | 0, a, _, _, u => ⟨a, .ret _, Nat.le_refl _, Nat.le_refl _, u⟩
  | f + 1, a, h1, h2, u => by
    unfold kas_desc
    cases hc : c (at' p a) (at' p (a - 1)) with
    | true =>
      obtain ⟨m, r, m1, m2, um⟩ := run_desc o h f (a + 1) (by omega) (by omega) (u.succ o h1 hc)
      exact ⟨m, .ask (h.lt (by omega)) (h.lt (by omega)) (by rw [hc]; simpa using r), by omega, by omega, um⟩
    | false =>
      have hd : c (at' p (a - 1)) (at' p a) = true := o.tri _ _ (h.lt (by omega)) (h.lt (by omega)) (h.ne (by omega) (by omega) (by omega)) hc
      refine ⟨a, .ask (h.lt (by omega)) (h.lt (by omega)) ?_, Nat.le_refl _, by omega, u⟩
      rw [hc]
      simp only [Bool.false_eq_true, if_false]
      refine .ask (h.lt (by omega)) (h.lt (by omega)) ?_
      rw [hd]
      exact .ret _

theorem at_rev {a : Nat} (ha : a ≤ p.size) {k : Nat} (hk : k < a) : at' (kas_rev p 0 a) k = at' p (a - 1 - k) := by
  refine at_opt ?_
  unfold kas_rev
  rw [getElem?_mirror_all ha, if_pos ⟨by omega, hk⟩]
  congr 1; omega
theorem Pm.rev (h : Pm n p) (a b : Nat) : Pm n (kas_rev p a b) := h.of_perm (mirror_perm _ _ _ _)
theorem Down.rev {a : Nat} (ha : a ≤ p.size) (u : Down c p a) : Up c (kas_rev p 0 a) a := fun i j hij hj => by
  rw [at_rev ha (by omega), at_rev ha hj]
  exact u _ _ (by omega) (by omega)

theorem run_tail3 (o : Ord n c) (h : Pm n p) {a : Nat} (h1 : 1 ≤ a) (h2 : a ≤ n) (u : Down c p a) : ∃ m q, Runs n c (kas_tail3 a n p) (m, q) ∧ Pm n q ∧ a ≤ m ∧ m ≤ n ∧ Up c q m := by
  obtain ⟨m, r, m1, m2, um, _⟩ := run_asc o (h.rev 0 a) (n - a) a h1 (by omega) (u.rev (by rw [h.size]; exact h2))
  exact ⟨m, _, r.bind (.ret _), h.rev 0 a, m1, by omega, um⟩

theorem run_count (o : Ord n c) (h : Pm n p) (hn : 2 ≤ n) : ∃ m q, Runs n c (kas_count n p) (m, q) ∧ Pm n q ∧ 1 ≤ m ∧ m ≤ n ∧ Up c q m := by
  unfold kas_count
  obtain ⟨a, r, a1, a2, ua, e⟩ := run_asc o h (n - 1) 1 (Nat.le_refl _) (by omega) (fun i j hij hj => by omega)
  by_cases ha : a = n
  · subst ha
    exact ⟨a, p, r.bind (by simpa using .ret _), h, a1, Nat.le_refl _, ua⟩
  · have hc : c (at' p a) (at' p (a - 1)) = true := e.resolve_left (by omega)
    by_cases h1 : a > 1
    · have h0 : c (at' p 0) (at' p (a - 1)) = true := ua 0 (a - 1) (by omega) (by omega)
      refine ⟨a, p, r.bind ?_, h, a1, by omega, ua⟩
      rw [if_neg (by simpa using ha), if_pos h1]
      refine .ask (h.lt (by omega)) (h.lt (by omega)) ?_
      rw [h0]
      exact .ret _
    · have : a = 1 := by omega
      subst this
      have d2 : Down c p 2 := fun i j hij hj => by
        have hi : i = 0 := by omega
        have hj : j = 1 := by omega
        subst hi; subst hj; exact hc
      obtain ⟨m, r', m1, m2, dm⟩ := run_desc o h (n - 2) 2 (by omega) (by omega) d2
      obtain ⟨k, q, r'', hq, k1, k2, uk⟩ := run_tail3 o h (by omega) (by omega) dm
      refine ⟨k, q, r.bind ?_, hq, by omega, k2, uk⟩
      rw [if_neg (by simpa using ha), if_neg h1]
      unfold kas_descPart
      refine Runs.bind (a := (p, m, 0)) (by simpa using r') ?_
      simpa using r''

theorem run_place (o : Ord n c) (h : Pm n p) {k : Nat} (hk : k < n) : ∀ (f l r : Nat), l ≤ r → r ≤ k → r - l ≤ f → (∀ i, i < l → c (at' p i) (at' p k) = true) → (∀ i, r ≤ i → i < k → c (at' p k) (at' p i) = true) → Up c p k →
    ∃ m, Runs n c (kas_place p k f l r) m ∧ m ≤ k ∧ (∀ i, i < m → c (at' p i) (at' p k) = true) ∧ (∀ i, m ≤ i → i < k → c (at' p k) (at' p i) = true)
  | 0, l, r, h1, h2, h3, a1, a2, u => by
    have : l = r := by omega
    subst this
    exact ⟨l, .ret l, h2, a1, a2⟩
  | f + 1, l, r, h1, h2, h3, a1, a2, u => by
    unfold kas_place
    by_cases hlr : l ≥ r
    · have : l = r := by omega
      subst this
      rw [if_pos hlr]
      exact ⟨l, .ret l, h2, a1, a2⟩
    · rw [if_neg hlr]
      cases hc : c (at' p k) (at' p ((l + r) / 2)) with
      | true =>
        obtain ⟨m, rr, m1, b1, b2⟩ := run_place o h hk f l ((l + r) / 2) (by omega) (by omega) (by omega) a1 (fun i hi1 hi2 => by
          by_cases e : i = (l + r) / 2
          · rw [e]; exact hc
          · exact o.trans _ _ _ hc (u ((l + r) / 2) i (by omega) hi2)) u
        exact ⟨m, .ask (h.lt hk) (h.lt (by omega)) (by rw [hc]; exact rr), m1, b1, b2⟩
      | false =>
        have hd : c (at' p ((l + r) / 2)) (at' p k) = true := o.tri _ _ (h.lt hk) (h.lt (by omega)) (h.ne hk (by omega) (by omega)) hc
        obtain ⟨m, rr, m1, b1, b2⟩ := run_place o h hk f ((l + r) / 2 + 1) r (by omega) h2 (by omega) (fun i hi => by
          by_cases e : i = (l + r) / 2
          · rw [e]; exact hd
          · exact o.trans _ _ _ (u i ((l + r) / 2) (by omega) (by omega)) hd) a2 u
        exact ⟨m, .ask (h.lt hk) (h.lt (by omega)) (by rw [hc]; exact rr), m1, b1, b2⟩

theorem at_bubble {k l : Nat} (hk : k < p.size) (hl : l ≤ k) (i : Nat) : at' (bubble p k (k - l)) i = if i = l then at' p k else if l < i ∧ i ≤ k then at' p (i - 1) else at' p i := by
  have e := getElem?_bubble hk (k - l) (by omega) i
  rw [show k - (k - l) = l by omega] at e
  by_cases h1 : i = l
  · rw [if_pos h1] at e ⊢; exact at_opt e
  · rw [if_neg h1] at e ⊢
    by_cases h2 : l < i ∧ i ≤ k
    · rw [if_pos h2] at e ⊢; exact at_opt e
    · rw [if_neg h2] at e ⊢; exact at_opt e

theorem run_bin (o : Ord n c) : ∀ (f : Nat) (p : Array Nat) (k : Nat), Pm n p → 1 ≤ k → k + f = n → Up c p k → ∃ q, Runs n c (kas_bin f p k) q ∧ Pm n q ∧ Up c q n
  | 0, p, k, h, _, hk, u => by
    have : k = n := by omega
    subst this
    exact ⟨p, .ret p, h, u⟩
  | f + 1, p, k, h, h1, hk, u => by
    obtain ⟨l, r, l1, b1, b2⟩ := run_place o h (by omega : k < n) k 0 k (by omega) (Nat.le_refl _) (by omega) (fun i hi => by omega) (fun i hi1 hi2 => by omega) u
    have hks : k < p.size := by rw [h.size]; omega
    have u' : Up c (bubble p k (k - l)) (k + 1) := by
      intro i j hij hj
      rw [at_bubble hks l1, at_bubble hks l1]
      by_cases e1 : i = l
      · subst e1
        rw [if_pos rfl, if_neg (by omega), if_pos ⟨by omega, by omega⟩]
        exact b2 _ (by omega) (by omega)
      · rw [if_neg e1]
        by_cases e2 : j = l
        · subst e2
          rw [if_neg (by omega), if_pos rfl]
          exact b1 _ (by omega)
        · rw [if_neg e2]
          by_cases e3 : l < i ∧ i ≤ k
          · rw [if_pos e3, if_pos ⟨by omega, by omega⟩]; exact u _ _ (by omega) (by omega)
          · rw [if_neg e3]
            by_cases e4 : l < j ∧ j ≤ k
            · rw [if_pos e4]; exact u _ _ (by omega) (by omega)
            · rw [if_neg e4]; exact u _ _ hij (by omega)
    obtain ⟨q, r', hq, uq⟩ := run_bin o f _ (k + 1) (h.of_perm (bubble_perm _ _ _)) (by omega) (by omega) u'
    exact ⟨q, r.bind r', hq, uq⟩

theorem run_sort (o : Ord n c) (hn : 2 ≤ n) : ∃ q, Runs n c (kas_sort n) q ∧ Pm n q ∧ Up c q n := by
  obtain ⟨m, p, r, hp, m1, m2, um⟩ := run_count o (p := (List.range n).toArray) ⟨by simp⟩ hn
  unfold kas_sort
  by_cases h : m < n
  · obtain ⟨q, r', hq, uq⟩ := run_bin o (n - m) p m hp m1 (by omega) um
    refine ⟨q, r.bind ?_, hq, uq⟩
    show Runs n c (if m < n then kas_bin (n - max m 1) p (max m 1) else .ret p) q
    rw [if_pos h, show max m 1 = m by omega]
    exact r'
  · have : m = n := by omega
    subst this
    refine ⟨p, r.bind ?_, hp, um⟩
    show Runs m c (if m < m then kas_bin (m - max m 1) p (max m 1) else .ret p) p
    rw [if_neg h]
    exact .ret p
end
end Mw

set_option maxRecDepth 100000
namespace Mw
open PySem PySem.W PyProof.Rows

noncomputable def ltP (a b : Int × Int) : Bool := decide (a.1 < b.1) || (decide (a.1 = b.1) && decide (a.2 < b.2))
noncomputable def PairsAt (h : Heap) (vs : List Value) (ps : List (Int × Int)) : Prop :=
  vs.length = ps.length ∧ ∀ (i : Nat) (v : Value) (q : Int × Int), vs[i]? = some v → ps[i]? = some q → ∃ a t u k, v = .ref a ∧ h.get? a = some (tObj #[.int q.1 t, .int q.2 u] k)
theorem PairsAt.mono {h h' : Heap} {vs : List Value} {ps : List (Int × Int)} (x : PairsAt h vs ps) (k : ∀ b vs n, h.get? b = some (tObj vs n) → h'.get? b = some (tObj vs n)) : PairsAt h' vs ps :=
  ⟨x.1, fun i v q h1 h2 => let ⟨a, t, u, j, e, ho⟩ := x.2 i v q h1 h2; ⟨a, t, u, j, e, k _ _ _ ho⟩⟩
theorem PairsAt.tail {h : Heap} {v : Value} {vs : List Value} {q : Int × Int} {ps : List (Int × Int)} (x : PairsAt h (v :: vs) (q :: ps)) : PairsAt h vs ps :=
  ⟨by simpa using x.1, fun i v' q' h1 h2 => x.2 (i + 1) v' q' (by simpa using h1) (by simpa using h2)⟩

noncomputable abbrev cP (ps : List (Int × Int)) (i j : Nat) : Bool := ltP (ps.getD i (0, 0)) (ps.getD j (0, 0))
theorem ltP_trans {a b c : Int × Int} (h : ltP a b = true) (h' : ltP b c = true) : ltP a c = true := by
  simp only [ltP, Bool.or_eq_true, Bool.and_eq_true, decide_eq_true_eq] at *; omega
theorem ltP_irr (a : Int × Int) : ltP a a = false := by simp [ltP]
theorem ltP_tri {a b : Int × Int} (hne : a ≠ b) (h : ltP a b = false) : ltP b a = true := by
  have hne' : ¬ (a.1 = b.1 ∧ a.2 = b.2) := fun e => hne (Prod.ext e.1 e.2)
  simp only [ltP, Bool.or_eq_true, Bool.and_eq_true, decide_eq_true_eq, Bool.or_eq_false_iff, Bool.and_eq_false_iff, decide_eq_false_iff_not] at *
  omega
theorem ordP {ps : List (Int × Int)} (nd : ps.Nodup) : Ord ps.length (cP ps) where
  trans := fun i j k => ltP_trans
  irr := fun i => ltP_irr _
  tri := fun i j hi hj hij h => ltP_tri (fun e => hij (by
    rw [List.getD_eq_getElem?_getD, List.getD_eq_getElem?_getD, List.getElem?_eq_getElem hi, List.getElem?_eq_getElem hj] at e
    exact (List.getElem_inj nd).mp e)) h

section
variable {prog : Program} {w : World} {A : Around} {E : Value → Shared → Prop} {s : Shared} {vs : List Value} {ps : List (Int × Int)}

theorem katTups : ∀ {vs : List Value} {ps : List (Int × Int)}, PairsAt s.heap vs ps → ∃ fs, KatTups s.heap vs fs ∧ fs.length = ps.length ∧ ∀ v ∈ fs, ∃ i t, v = .int i t
  | [], [], _ => ⟨[], trivial, rfl, fun v h => by cases h⟩
  | [], _ :: _, h => by simp [PairsAt] at h
  | _ :: _, [], h => by simp [PairsAt] at h
  | v :: vs, q :: ps, h => by
    obtain ⟨fs, h1, h2, h3⟩ := katTups h.tail
    obtain ⟨a, t, u, k, rfl, ho⟩ := h.2 0 v q rfl rfl
    refine ⟨.int q.1 t :: fs, .cons ho rfl rfl rfl h1, by simp [h2], fun x hx => ?_⟩
    rcases List.mem_cons.mp hx with rfl | hx
    · exact ⟨_, _, rfl⟩
    · exact h3 x hx

theorem ask_ok (h : PairsAt s.heap vs ps) {i j : Nat} {C : Bool → Shared → Prop} (hi : i < vs.length) (hj : j < vs.length) (hc : C (cP ps i j) s) : kas_ask prog w A (tuples' true) vs i j C s := by
  have item : ∀ k, k < vs.length → ∃ a t u n, vs.getD k .none = .ref a ∧ s.heap.get? a = some (tObj #[.int (ps.getD k (0, 0)).1 t, .int (ps.getD k (0, 0)).2 u] n) := fun k hk => by
    have hk' : k < ps.length := by rw [← h.1]; exact hk
    obtain ⟨a, t, u, n, e, ho⟩ := h.2 k vs[k] ps[k] (List.getElem?_eq_getElem hk) (List.getElem?_eq_getElem hk')
    exact ⟨a, t, u, n, by rw [List.getD_eq_getElem?_getD, List.getElem?_eq_getElem hk]; exact e, by rw [List.getD_eq_getElem?_getD, List.getElem?_eq_getElem hk']; exact ho⟩
  obtain ⟨a, t, u, n, e, ho⟩ := item i hi
  obtain ⟨a', t', u', n', e', ho'⟩ := item j hj
  unfold kas_ask
  rw [e, e']
  unfold cP at hc
  generalize ps.getD i (0, 0) = x at *
  generalize ps.getD j (0, 0) = y at *
  obtain ⟨x1, x2⟩ := x
  obtain ⟨y1, y2⟩ := y
  refine kat_lt ho rfl ho' rfl ?_
  show KatLex prog w A true _ C [(.int x1 t, .int y1 t'), (.int x2 u, .int y2 u')] 0 s
  refine kat_cons (wpAny_eqBool_int ?_)
  by_cases h1 : x1 = y1
  · subst h1
    rw [beq_self_eq_true]
    refine kat_yes (kat_cons (wpAny_eqBool_int ?_))
    by_cases h2 : x2 = y2
    · subst h2
      rw [beq_self_eq_true]
      refine kat_yes (kat_nil ?_)
      simpa [ltP] using hc
    · rw [show (x2 == y2) = false by simpa using h2]
      refine kat_no ?_
      show wpAny _ _ (oneLt' false _ _) _ _ _
      refine kat_one _ _ ?_
      refine P.lt_int ?_
      show C _ s
      simpa [ltP] using hc
  · rw [show (x1 == y1) = false by simpa using h1]
    refine kat_no ?_
    show wpAny _ _ (oneLt' true _ _) _ _ _
    refine oneLt_int ?_
    simpa [ltP, h1] using hc

theorem list_sort_pairs {a : Addr} {n : Nat} {P : Fin → Shared → Prop} (ho : s.heap.get? a = some (seqObj "list" vs.toArray n)) (hp : PairsAt s.heap vs ps) (nd : ps.Nodup) (h64 : vs.length < 64)
    (h : ∀ q : Array Nat, Pm vs.length q → Up (cP ps) q vs.length → P (.done (.ret .none)) { s with heap := sortedHeap s.heap a vs (List.toArray (q.toList.map fun i => vs.getD i Value.none)) }) :
    wpAny (model prog w) A (Builtin.«list.sort» ⟨[.ref a], []⟩) P E s := by
  rw [list_sort_plain]
  have ha : a < s.heap.objs.size := Heap.lt_size ho
  refine wpAny_bind (listItems_at ho rfl ?_)
  refine wpAny_bind (listUpdate_at ho rfl ?_)
  obtain ⟨e1, ho1⟩ : ∃ e1, (s.heap.update a (Obj.mapSeq fun _ => #[])).get? a = some (seqObj "list" #[] e1) := ⟨_, get?_update_seq ho (fun _ => #[])⟩
  refine wpAny_bind (seqEpoch_at ho1 rfl ?_)
  refine wpAny_bind (wpAny_newTuple ?_)
  refine wpAny_bind (wpAny_newList ?_)
  refine wpAny_holding ?_
  have old : ∀ b o, b ≠ a → s.heap.get? b = some o → (((s.heap.update a (Obj.mapSeq fun _ => #[])).push (seqObj "tuple" vs.toArray 0)).push (seqObj "list" #[] 0)).get? b = some o := fun b o hb e => by
    have hlt : b < s.heap.objs.size := Heap.lt_size e
    rw [Heap.get?_push_ne _ _ _ (by rw [size_push', Heap.size_update]; exact Nat.ne_of_lt (Nat.lt_succ_of_lt hlt)), Heap.get?_push_ne _ _ _ (by rw [Heap.size_update]; exact Nat.ne_of_lt hlt), Heap.get?_update_ne _ _ _ _ hb]
    exact e
  have ho6 : (((s.heap.update a (Obj.mapSeq fun _ => #[])).push (seqObj "tuple" vs.toArray 0)).push (seqObj "list" #[] 0)).get? a = some (seqObj "list" #[] e1) := by
    rw [Heap.get?_push_ne _ _ _ (by rw [size_push', Heap.size_update]; exact Nat.ne_of_lt (Nat.lt_succ_of_lt ha)), Heap.get?_push_ne _ _ _ (by rw [Heap.size_update]; exact Nat.ne_of_lt ha)]
    exact ho1
  show wpAny (model prog w) A _ P E { s with heap := ((s.heap.update a (Obj.mapSeq fun _ => #[])).push (seqObj "tuple" vs.toArray 0)).push (seqObj "list" #[] 0) }
  dsimp only
  have hsz : vs.toArray.size = vs.length := by simp
  by_cases h2 : vs.toArray.size < 2
  · rw [if_pos h2, if_pos h2]
    refine wpAny_bind (wpAny_pure ?_)
    rw [StateT.run_pure]
    refine wpAny_bind (wpAny_pure ?_)
    dsimp only
    refine wpAny_bind (seqEpoch_at ho6 rfl ?_)
    refine wpAny_bind (listUpdate_at ho6 rfl ?_ (hsz2 := by rw [Array.size_map]; show (PyProof.Rows.pairsOf vs).size ≤ _; rw [pairsOf_size, sizeLine_eq]; omega))
    simp only [bne_self_eq_false, Bool.false_eq_true, if_false]
    refine wpAny_pure ?_
    have := h (List.range vs.length).toArray ⟨by simp⟩ (fun i j hij hj => by rw [hsz] at h2; omega)
    have e : List.toArray ((List.range vs.length).toArray.toList.map fun i => vs.getD i Value.none) = (arrOf (SortSt.mk' general' (vs.toArray.zip vs.toArray) #[] 7 none)).map (·.2) := by
      show _ = (vs.toArray.zip vs.toArray).map (·.2)
      clear this h ho
      match vs, h2 with
      | [], _ => simp
      | [v], _ => simp
      | _ :: _ :: _, h2 => simp at h2; omega
    rw [e] at this
    exact this
  · rw [if_neg h2, if_neg h2]
    have hpa := hp.mono (h' := ((s.heap.update a (Obj.mapSeq fun _ => #[])).push (seqObj "tuple" vs.toArray 0)).push (seqObj "list" #[] 0)) fun b xs k e => old b _ (fun eb => by subst eb; rw [ho] at e; simp at e) e
    generalize hs' : ({ s with heap := ((s.heap.update a (Obj.mapSeq fun _ => #[])).push (seqObj "tuple" vs.toArray 0)).push (seqObj "list" #[] 0) } : Shared) = s' at *
    have hh : ((s.heap.update a (Obj.mapSeq fun _ => #[])).push (seqObj "tuple" vs.toArray 0)).push (seqObj "list" #[] 0) = s'.heap := by rw [← hs']
    rw [hh] at hpa ho6
    obtain ⟨fs, k1, k2, k3⟩ := katTups (s := s') hpa
    refine wpAny_bind (kat_kind (T := .type "int") k1 (by rw [k2, ← hp.1]; omega) (fun v hv => by obtain ⟨i, t, rfl⟩ := k3 v hv; exact Looks.now) rfl ?_)
    obtain ⟨q, hr, hq, hu⟩ := run_sort (ordP nd) (by rw [← hp.1]; omega)
    rw [← hp.1] at hr hq hu
    refine wpAny_bind (wpAny_mono (kat_run (G := fun p s'' => p = q ∧ s'' = s') (Q := fun st' s'' => s'' = s' ∧ failedOf st' = none ∧ arrOf st' = q.map (kas_item (vs.toArray.zip vs.toArray))) rfl (by omega) h64 ?_ (hr.wp (fun i j C hi hj hC => ask_ok hpa hi hj hC) ⟨rfl, rfl⟩)) ?_ fun _ _ e => e)
    · rintro p st' s'' hpz har hf ⟨rfl, rfl⟩
      exact ⟨rfl, hf, har⟩
    rintro ⟨⟨⟩, st'⟩ s'' ⟨rfl, hf, har⟩
    dsimp only
    have hout := kat_snds (ks := vs) rfl har
    rw [hout]
    refine wpAny_bind (seqEpoch_at ho6 rfl ?_)
    refine wpAny_bind (listUpdate_at ho6 rfl ?_ (Nat.zero_le _) (by
      show (List.toArray (q.toList.map fun i => vs.getD i Value.none)).size ≤ _
      rw [List.size_toArray, List.length_map, Array.length_toList, hq.size, sizeLine_eq]; omega))
    rw [hf]
    simp only [bne_self_eq_false, Bool.false_eq_true, if_false]
    refine wpAny_pure ?_
    have := h q hq hu
    subst hs'
    exact this

theorem sorted_pairs {l : Addr} {Q : Value → Shared → Prop} (hl : s.heap.IsList l vs.toArray) (hp : PairsAt s.heap vs ps) (nd : ps.Nodup) (h64 : vs.length < 64)
    (h : ∀ q : Array Nat, Pm vs.length q → Up (cP ps) q vs.length → Q (.ref (s.heap.objs.size + 1)) { s with heap := sortedAll s.heap vs (List.toArray (q.toList.map fun i => vs.getD i Value.none)) }) :
    wpAny (model prog w) A (call (.builtin "sorted") [.ref l]) Q E s := by
  refine Calls.call_function_entry kind_sorted plain_sorted entry_sorted (args_sorted1 _) ?_
  unfold Builtin.«sorted»
  refine wpAny_bind (m := checkCount "sorted" 1 1 _) (wpAny_pure ?_)
  refine wpAny_bind (collect_list hl ?_)
  refine wpAny_bind (wpAny_newList ?_)
  have hsz : ((s.heap.push (seqObj "list" #[] 0)).update s.heap.objs.size (Obj.mapSeq (· ++ vs.toArray))).objs.size = s.heap.objs.size + 1 := by
    rw [Heap.size_update, size_push']
  have hoL : (((s.heap.push (seqObj "list" #[] 0)).update s.heap.objs.size (Obj.mapSeq (· ++ vs.toArray))).push (seqObj "list" vs.toArray 0)).get? (s.heap.objs.size + 1) = some (seqObj "list" vs.toArray 0) := by
    rw [← hsz]; exact Heap.get?_push_size _ rfl
  have old : ∀ b o, s.heap.get? b = some o → (((s.heap.push (seqObj "list" #[] 0)).update s.heap.objs.size (Obj.mapSeq (· ++ vs.toArray))).push (seqObj "list" vs.toArray 0)).get? b = some o := fun b o e => by
    have hlt : b < s.heap.objs.size := Heap.lt_size e
    rw [Heap.get?_push_ne _ _ _ (by rw [hsz]; exact Nat.ne_of_lt (Nat.lt_succ_of_lt hlt)), Heap.get?_update_ne _ _ _ _ (Nat.ne_of_lt hlt), Heap.get?_push_ne _ _ _ (Nat.ne_of_lt hlt)]
    exact e
  show wpAny _ _ _ _ _ { s with heap := ((s.heap.push (seqObj "list" #[] 0)).update s.heap.objs.size (Obj.mapSeq (· ++ vs.toArray))).push (seqObj "list" vs.toArray 0) }
  rw [hsz]
  refine wpAny_bind (wpAny_holding (wpAny_call_entry slot_list_sort ⟨_, hoL, rfl⟩ entry_list_sort (list_sort_pairs hoL (hp.mono fun b xs k e => old b _ e) nd h64 fun q a1 a2 => ⟨_, rfl, ?_⟩) (args_list_sort _)))
  exact wpAny_pure ⟨_, rfl, h q a1 a2⟩
end
end Mw

set_option maxRecDepth 10000
namespace Mw
open PySem

section
variable {B : Bs} {A : Around} {h₁ : Heap} {W₀ W : Addr → Prop} {s : Shared} {E : Value → Shared → Prop} {v v' : Value} {c c' : Cl} {d d' : PyData}

noncomputable abbrev Post (s : Shared) (W₀ W : Addr → Prop) (r : R1) : Value → Shared → Prop := fun v s' => Keeps s s' ∧ RV s.heap s'.heap W₀ W v r.1 r.2

theorem keeps_of {s : Shared} {h' : Heap} {tk : Nat} (k : ∀ b o, s.heap.get? b = some o → h'.get? b = some o) : Keeps s { s with heap := h', toks := tk } := ⟨h', tk, rfl, k⟩

theorem maxLen_le : maxLen ≤ sizeLine := by decide
theorem wfresh (wok : ∀ a, W a → ∃ o, s.heap.get? a = some o ∧ NoTup o) {a : Addr} (h : s.heap.get? a = none) : ¬ W a := fun x => by
  obtain ⟨o, ho, _⟩ := wok a x; rw [h] at ho; cases ho

theorem rv_new_list {vs : List Value} {ds : List PyData} {h : Heap} {a : Addr} {n : Nat} (hw : ¬ W a) (hn : s.heap.get? a = none) (ho : h.get? a = some (lObj vs.toArray n)) (r : RepL h W vs ds) : RV s.heap h W₀ W (.ref a) .fresh (.list ds) :=
  ⟨.list hw ho r.1 (by simpa using r.2), fun _ e => by cases e; exact hn⟩

theorem seq_size {vs : Array Value} {xs : List PyData} {h : Heap} (r : RepL h W vs.toList xs) : vs.size = xs.length := by rw [← r.1, Array.length_toList]

theorem len_ok (q : RV h₁ s.heap W₀ W v c d) (le : ∀ a, W₀ a → W a) {xs : List PyData} (hi : itemsOf d = some xs) (hx : xs.length ≤ maxLen) :
    wpAny B.M A (call (.builtin "len") [v]) (Post s W₀ W (.fresh, .int xs.length)) E s := by
  have r := q.dirty le
  cases d with
  | list ys =>
    cases hi
    obtain ⟨a, vs, n, rfl, _, ho, rl⟩ := r.list_inv
    have e := seq_size rl
    refine PyProof.Rows.len_list ⟨_, ho, rfl, n, rfl⟩ (by rw [e]; simp only [maxLen] at hx; omega) ?_
    rw [e]; exact ⟨keeps_toks s _, RV.int _ _⟩
  | tuple ys =>
    cases hi
    obtain ⟨a, vs, n, rfl, _, ho, rl⟩ := r.tuple_inv
    have e := seq_size rl
    refine PyProof.Rows.len_tuple ⟨_, ho, rfl, n, rfl⟩ (by rw [e]; simp only [maxLen] at hx; omega) ?_
    rw [e]; exact ⟨keeps_toks s _, RV.int _ _⟩
  | _ => cases hi

theorem intsAre_of {vs : List Value} {xs : List PyData} {h : Heap} : ∀ {is : List Int}, RepL h W vs xs → intsOf xs = some is → PyProof.Rows.IntsAre vs is := by
  induction vs generalizing xs with
  | nil =>
    intro is r hi
    have : xs = [] := List.length_eq_zero_iff.mp (by simpa using r.1.symm)
    subst this; simp [intsOf] at hi; subst hi; exact .nil
  | cons v vs ih =>
    intro is r hi
    cases xs with
    | nil => simp [RepL] at r
    | cons x xs =>
      cases x with
      | int i =>
        simp only [intsOf, Option.map_eq_some_iff] at hi
        obtain ⟨js, hj, rfl⟩ := hi
        obtain ⟨t, rfl⟩ := r.inv.1.int_inv
        exact .cons i t (ih r.inv.2 hj)
      | _ => simp [intsOf] at hi
theorem ofInts {vs : List Value} {is : List Int} (h : Heap) (W : Addr → Prop) (q : PyProof.Rows.IntsAre vs is) : RepL h W vs (is.map .int) := by
  induction q with
  | nil => exact .nil
  | cons i t _ ih => exact .cons (.int i t) ih

theorem maxI_spec : ∀ (a : Int) (r : List Int), maxI (a :: r) ∈ a :: r ∧ ∀ x ∈ a :: r, x ≤ maxI (a :: r)
  | a, [] => by simp [maxI]
  | a, b :: r => by
    obtain ⟨h1, h2⟩ := maxI_spec b r
    simp only [maxI]
    refine ⟨?_, fun x hx => ?_⟩
    · rcases Int.le_total a (maxI (b :: r)) with h | h
      · rw [Int.max_eq_right h]; exact List.mem_cons_of_mem _ h1
      · rw [Int.max_eq_left h]; exact List.mem_cons_self
    · rcases List.mem_cons.mp hx with rfl | hx
      · exact Int.le_max_left _ _
      · exact Int.le_trans (h2 x hx) (Int.le_max_right _ _)
theorem minI_spec : ∀ (a : Int) (r : List Int), minI (a :: r) ∈ a :: r ∧ ∀ x ∈ a :: r, minI (a :: r) ≤ x
  | a, [] => by simp [minI]
  | a, b :: r => by
    obtain ⟨h1, h2⟩ := minI_spec b r
    simp only [minI]
    refine ⟨?_, fun x hx => ?_⟩
    · rcases Int.le_total a (minI (b :: r)) with h | h
      · rw [Int.min_eq_left h]; exact List.mem_cons_self
      · rw [Int.min_eq_right h]; exact List.mem_cons_of_mem _ h1
    · rcases List.mem_cons.mp hx with rfl | hx
      · exact Int.min_le_left _ _
      · exact Int.le_trans (Int.min_le_right _ _) (h2 x hx)

theorem getD_in {l : List Int} {j : Nat} (h : j < l.length) : l.getD j 0 ∈ l := by
  rw [List.getD_eq_getElem?_getD, List.getElem?_eq_getElem h]; exact List.getElem_mem h
theorem in_getD {l : List Int} {x : Int} (h : x ∈ l) : ∃ j, j < l.length ∧ l.getD j 0 = x := by
  obtain ⟨j, hj, rfl⟩ := List.mem_iff_getElem.mp h
  exact ⟨j, hj, by rw [List.getD_eq_getElem?_getD, List.getElem?_eq_getElem hj]; rfl⟩
theorem max_ok {l : Addr} {vs : List Value} {n : Nat} {i : Int} {is : List Int} (hh : A.handled = none) (ho : s.heap.get? l = some (lObj vs.toArray n)) (hi : PyProof.Rows.IntsAre vs (i :: is)) :
    wpAny B.M A (call (.builtin "max") [.ref l]) (Post s W₀ W (.fresh, .int (maxI (i :: is)))) E s := by
  obtain ⟨xs, e⟩ := hi.allInts.items
  have hl : s.heap.IsList l vs.toArray := ⟨_, ho, rfl, n, rfl⟩
  obtain ⟨m1, m2⟩ := maxI_spec i is
  have hpos : 0 < (i :: is).length := by simp
  generalize hg : i :: is = ns at hi m1 m2 hpos
  have hns : ns = xs.toList.map (·.1) := by rw [← hi.numsOf, ← nums_intItems, ← e]
  have hsz : 0 < xs.size := by
    have h3 := hpos; rw [hns, List.length_map, Array.length_toList] at h3; exact h3
  rw [e] at hl
  refine max_intList hh hl hsz fun v h' tk hv hk => ?_
  obtain ⟨t, rfl⟩ := intItems_at hv
  obtain ⟨h1, h2⟩ := argBest_gt (numAt xs) (xs.size - 1)
  have a1 : numAt xs (argBest (fun i j => decide (numAt xs i > numAt xs j)) (xs.size - 1)) ∈ ns := by
    rw [hns, numAt_eq]; exact getD_in (by rw [List.length_map, Array.length_toList]; omega)
  have a2 : maxI ns ≤ numAt xs (argBest (fun i j => decide (numAt xs i > numAt xs j)) (xs.size - 1)) := by
    obtain ⟨j, hj, ej⟩ := in_getD m1
    have hj' : j < xs.size := by rw [hns, List.length_map, Array.length_toList] at hj; exact hj
    have e3 : numAt xs j = ns.getD j 0 := by rw [numAt_eq, hns]
    rw [← ej, ← e3]; exact h2 j (by omega)
  have hm := Int.le_antisymm (m2 _ a1) a2
  rw [hm]
  exact ⟨keeps_of hk, RV.int _ _⟩
theorem min_ok {l : Addr} {vs : List Value} {n : Nat} {i : Int} {is : List Int} (hh : A.handled = none) (ho : s.heap.get? l = some (lObj vs.toArray n)) (hi : PyProof.Rows.IntsAre vs (i :: is)) :
    wpAny B.M A (call (.builtin "min") [.ref l]) (Post s W₀ W (.fresh, .int (minI (i :: is)))) E s := by
  obtain ⟨xs, e⟩ := hi.allInts.items
  have hl : s.heap.IsList l vs.toArray := ⟨_, ho, rfl, n, rfl⟩
  obtain ⟨m1, m2⟩ := minI_spec i is
  have hpos : 0 < (i :: is).length := by simp
  generalize hg : i :: is = ns at hi m1 m2 hpos
  have hns : ns = xs.toList.map (·.1) := by rw [← hi.numsOf, ← nums_intItems, ← e]
  have hsz : 0 < xs.size := by
    have h3 := hpos; rw [hns, List.length_map, Array.length_toList] at h3; exact h3
  rw [e] at hl
  refine min_intList hh hl hsz fun v h' tk hv hk => ?_
  obtain ⟨t, rfl⟩ := intItems_at hv
  obtain ⟨h1, h2⟩ := argBest_lt (numAt xs) (xs.size - 1)
  have a1 : numAt xs (argBest (fun i j => decide (numAt xs i < numAt xs j)) (xs.size - 1)) ∈ ns := by
    rw [hns, numAt_eq]; exact getD_in (by rw [List.length_map, Array.length_toList]; omega)
  have a2 : numAt xs (argBest (fun i j => decide (numAt xs i < numAt xs j)) (xs.size - 1)) ≤ minI ns := by
    obtain ⟨j, hj, ej⟩ := in_getD m1
    have hj' : j < xs.size := by rw [hns, List.length_map, Array.length_toList] at hj; exact hj
    have e3 : numAt xs j = ns.getD j 0 := by rw [numAt_eq, hns]
    rw [← ej, ← e3]; exact h2 j (by omega)
  have hm := Int.le_antisymm a2 (m2 _ a1)
  rw [hm]
  exact ⟨keeps_of hk, RV.int _ _⟩

theorem bool_tr {vs : Array Value} {xs : List PyData} {h : Heap} (r : RepL h W vs.toList xs) {b : Bool} (hb : allB xs = some b) :
    (∀ (i : Nat) (v : Value), vs[i]? = some v → v = .bool ((vs[i]?.map fun v => v == .bool true).getD false)) ∧ (List.range vs.size).all (fun i => (vs[i]?.map fun v => v == .bool true).getD false) = b := by
  have key : ∀ (l : List Value) (xs : List PyData) (b : Bool), RepL h W l xs → allB xs = some b → (∀ v ∈ l, ∃ c, v = Value.bool c) ∧ l.all (fun v => v == .bool true) = b := by
    intro l
    induction l with
    | nil =>
      intro xs b r hb
      have : xs = [] := List.length_eq_zero_iff.mp (by simpa using r.1.symm)
      subst this; simp [allB] at hb; subst hb; simp
    | cons v l ih =>
      intro xs b r hb
      cases xs with
      | nil => simp [RepL] at r
      | cons x xs =>
        cases x with
        | bool c =>
          simp only [allB, Option.map_eq_some_iff] at hb
          obtain ⟨b', hb', rfl⟩ := hb
          have hv := r.inv.1.bool_inv
          obtain ⟨i1, i2⟩ := ih xs b' r.inv.2 hb'
          refine ⟨fun v' hm => ?_, ?_⟩
          · rcases List.mem_cons.mp hm with rfl | hm
            · exact ⟨c, hv⟩
            · exact i1 v' hm
          · rw [List.all_cons, i2, hv]; cases c <;> rfl
        | _ => simp [allB] at hb
  obtain ⟨k1, k2⟩ := key vs.toList xs b r hb
  refine ⟨fun i v hv => ?_, ?_⟩
  · obtain ⟨c, rfl⟩ := k1 v (by rw [Array.mem_toList_iff]; exact Array.mem_of_getElem? hv)
    rw [hv]; cases c <;> rfl
  · rw [← k2, Bool.eq_iff_iff, List.all_eq_true, List.all_eq_true]
    constructor
    · intro H v hv
      obtain ⟨j, hj, rfl⟩ := List.mem_iff_getElem.mp hv
      rw [Array.length_toList] at hj
      have := H j (List.mem_range.mpr hj)
      rw [Array.getElem?_eq_getElem hj] at this
      simpa using this
    · intro H i hi
      have hi' := List.mem_range.mp hi
      rw [Array.getElem?_eq_getElem hi']
      simpa using H vs[i] (by rw [Array.mem_toList_iff]; exact Array.getElem_mem hi')

theorem all_ok {W' : Addr → Prop} {l : Addr} {vs : Array Value} {n : Nat} {xs : List PyData} {b : Bool} (hh : A.handled = none) (ho : s.heap.get? l = some (lObj vs n)) (r : RepL s.heap W' vs.toList xs) (hb : allB xs = some b) :
    wpAny B.M A (call (.builtin "all") [.ref l]) (Post s W₀ W (.fresh, .bool b)) E s := by
  have hl : s.heap.IsList l vs := ⟨_, ho, rfl, n, rfl⟩
  obtain ⟨t1, t2⟩ := bool_tr r hb
  refine call_all_walk (wpAny_pyIter_list hl ?_)
  have hne : l ≠ s.heap.objs.size := Nat.ne_of_lt (Heap.lt_size ho)
  refine ⟨_, _, _, _, _, _, fun i => (vs[i]?.map fun v => v == .bool true).getD false, rfl, Walks.list (A := A.in1) hh _ l hne vs, ⟨⟨_, Heap.get?_push_size _ rfl, rfl, rfl⟩, hl.push _⟩, ?_, ?_⟩
  · intro i v s' Q E' hv hq
    have e := t1 i v hv
    rw [e]
    exact wpAny_truthy_bool hq
  · intro h' tk hk
    rw [t2]
    refine ⟨⟨h', tk, rfl, fun b o e => hk b o ?_ (Heap.get?_push_of_some _ e)⟩, RV.bool _⟩
    rw [List.mem_singleton]
    exact fun e' => Nat.lt_irrefl _ (e' ▸ Heap.lt_size e)

theorem insI_perm (a : Int) : ∀ l : List Int, (insI a l).Perm (a :: l)
  | [] => .refl _
  | b :: r => by
    unfold insI
    split
    · exact .refl _
    · exact ((insI_perm a r).cons b).trans (.swap a b r)
theorem insI_sorted (a : Int) : ∀ l : List Int, l.Pairwise (· ≤ ·) → (insI a l).Pairwise (· ≤ ·)
  | [], _ => by simp [insI]
  | b :: r, h => by
    unfold insI
    obtain ⟨h1, h2⟩ := List.pairwise_cons.mp h
    split
    · rename_i hab
      refine List.pairwise_cons.mpr ⟨fun x hx => ?_, h⟩
      rcases List.mem_cons.mp hx with rfl | hx
      · exact hab
      · exact Int.le_trans hab (h1 x hx)
    · rename_i hab
      refine List.pairwise_cons.mpr ⟨fun x hx => ?_, insI_sorted a r h2⟩
      rcases List.mem_cons.mp ((insI_perm a r).mem_iff.mp hx) with rfl | hx
      · omega
      · exact h1 x hx
theorem sortI_perm : ∀ l : List Int, (sortI l).Perm l
  | [] => .refl _
  | a :: r => (insI_perm a _).trans ((sortI_perm r).cons a)
theorem sortI_sorted : ∀ l : List Int, (sortI l).Pairwise (· ≤ ·)
  | [] => .nil
  | a :: r => insI_sorted a _ (sortI_sorted r)
theorem sorted_unique {l l' : List Int} (hp : l.Perm l') (h : l.Pairwise (· ≤ ·)) (h' : l'.Pairwise (· ≤ ·)) : l = l' :=
  hp.eq_of_pairwise (fun _ _ _ _ a b => Int.le_antisymm a b) h h'

theorem sorted_ok {l : Addr} {vs : Array Value} {n : Nat} {is : List Int} (wok : ∀ a, W a → ∃ o, s.heap.get? a = some o ∧ NoTup o) (ho : s.heap.get? l = some (lObj vs n)) (hi : PyProof.Rows.IntsAre vs.toList is) (h64 : is.length < 64) :
    wpAny B.M A (call (.builtin "sorted") [.ref l]) (Post s W₀ W (.fresh, .list ((sortI is).map .int))) E s := by
  have hlen := PyProof.Rows.IntsAre.length hi
  have hl : s.heap.IsList l vs.toList.toArray := ⟨_, ho, rfl, n, by simp⟩
  refine PyProof.Rows.sorted_ints hl hi (by rw [hlen]; exact h64) fun out ns' hI hp hs => ?_
  have e := sorted_unique (hp.trans (sortI_perm is).symm) hs (sortI_sorted is)
  subst e
  obtain ⟨e, he⟩ := PyProof.Rows.sortedAll_at s.heap vs.toList out
  have hnone : s.heap.get? (s.heap.objs.size + 1) = none := by
    cases q : s.heap.get? (s.heap.objs.size + 1) with
    | none => rfl
    | some o => exact absurd (Heap.lt_size q) (Nat.not_lt.mpr (Nat.le_succ _))
  refine ⟨⟨_, s.toks, rfl, fun b o => PyProof.Rows.sortedAll_old⟩, ?_⟩
  refine rv_new_list (n := e) (vs := out.toList) (wfresh wok hnone) hnone ?_ (ofInts _ _ hI)
  show (PyProof.Rows.sortedAll s.heap vs.toList out).get? _ = _
  rw [he]

theorem insP_perm (a : Int × Int) : ∀ l : List (Int × Int), (insP a l).Perm (a :: l)
  | [] => .refl _
  | b :: r => by
    unfold insP
    split
    · exact .refl _
    · exact ((insP_perm a r).cons b).trans (.swap a b r)
theorem leP_trans {a b c : Int × Int} (h : leP a b = true) (h' : leP b c = true) : leP a c = true := by
  simp only [leP, Bool.or_eq_true, Bool.and_eq_true, decide_eq_true_eq] at *; omega
theorem leP_total {a b : Int × Int} (h : ¬ leP a b = true) : leP b a = true := by
  simp only [leP, Bool.or_eq_true, Bool.and_eq_true, decide_eq_true_eq] at *; omega
theorem leP_anti {a b : Int × Int} (h : leP a b = true) (h' : leP b a = true) : a = b := by
  simp only [leP, Bool.or_eq_true, Bool.and_eq_true, decide_eq_true_eq] at *
  exact Prod.ext (by omega) (by omega)
theorem leP_of_lt {a b : Int × Int} (h : ltP a b = true) : leP a b = true := by
  simp only [ltP, leP, Bool.or_eq_true, Bool.and_eq_true, decide_eq_true_eq] at *; omega
theorem insP_sorted (a : Int × Int) : ∀ l : List (Int × Int), l.Pairwise (fun x y => leP x y = true) → (insP a l).Pairwise (fun x y => leP x y = true)
  | [], _ => by simp [insP]
  | b :: r, h => by
    obtain ⟨h1, h2⟩ := List.pairwise_cons.mp h
    unfold insP
    split
    · rename_i hab
      exact List.pairwise_cons.mpr ⟨fun x hx => by
        rcases List.mem_cons.mp hx with rfl | hx
        · exact hab
        · exact leP_trans hab (h1 x hx), h⟩
    · rename_i hab
      refine List.pairwise_cons.mpr ⟨fun x hx => ?_, insP_sorted a r h2⟩
      rcases List.mem_cons.mp ((insP_perm a r).mem_iff.mp hx) with rfl | hx
      · exact leP_total hab
      · exact h1 x hx
theorem sortP_perm : ∀ l : List (Int × Int), (sortP l).Perm l
  | [] => .refl _
  | a :: r => (insP_perm a _).trans ((sortP_perm r).cons a)
theorem sortP_sorted : ∀ l : List (Int × Int), (sortP l).Pairwise (fun x y => leP x y = true)
  | [] => .nil
  | a :: r => insP_sorted a _ (sortP_sorted r)

theorem pairsOf_map : ∀ {xs : List PyData} {ps : List (Int × Int)}, pairsOf xs = some ps → xs = ps.map pairD
  | [], ps, h => by cases h; rfl
  | d :: r, ps, h => by
    unfold pairsOf at h
    split at h
    · rename_i e; cases e
    · rename_i i j r' e
      cases e
      simp only [Option.map_eq_some_iff] at h
      obtain ⟨qs, hq, rfl⟩ := h
      rw [pairsOf_map hq]; rfl
    · cases h

theorem pairsAt_of {vs : List Value} {ps : List (Int × Int)} {h : Heap} (rl : RepL h W vs (ps.map pairD)) : PairsAt h vs ps := by
  refine ⟨by rw [rl.1]; simp, fun i v q hv hq => ?_⟩
  have r := rl.2 i v (pairD q) hv (by rw [List.getElem?_map, hq]; rfl)
  obtain ⟨a, us, k, rfl, _, ho, rl'⟩ := r.tuple_inv
  have hus : ∃ va vb, us = #[va, vb] := by
    have := seq_size rl'
    obtain ⟨l⟩ := us
    match l, this with
    | [va, vb], _ => exact ⟨va, vb, rfl⟩
  obtain ⟨va, vb, rfl⟩ := hus
  obtain ⟨t, e1⟩ := (rl'.2 0 va (.int q.1) rfl rfl).int_inv
  obtain ⟨u, e2⟩ := (rl'.2 1 vb (.int q.2) rfl rfl).int_inv
  subst e1; subst e2
  exact ⟨a, t, u, k, rfl, ho⟩

theorem sortedP_ok {l : Addr} {vs : Array Value} {n : Nat} {ps : List (Int × Int)} (wok : ∀ a, W a → ∃ o, s.heap.get? a = some o ∧ NoTup o) (ho : s.heap.get? l = some (lObj vs n)) (rl : RepL s.heap W vs.toList (ps.map pairD)) (nd : ps.Nodup) (h64 : ps.length < 64) :
    wpAny B.M A (call (.builtin "sorted") [.ref l]) (Post s W₀ W (.fresh, .list ((sortP ps).map pairD))) E s := by
  have hp := pairsAt_of rl
  have hlen : vs.toList.length = ps.length := hp.1
  have hl : s.heap.IsList l vs.toList.toArray := ⟨_, ho, rfl, n, by simp⟩
  refine sorted_pairs hl hp nd (by rw [hlen]; exact h64) fun q hq hu => ?_
  obtain ⟨e, he⟩ := PyProof.Rows.sortedAll_at s.heap vs.toList (List.toArray (q.toList.map fun i => vs.toList.getD i Value.none))
  have hnone : s.heap.get? (s.heap.objs.size + 1) = none := by
    cases q : s.heap.get? (s.heap.objs.size + 1) with
    | none => rfl
    | some o => exact absurd (Heap.lt_size q) (Nat.not_lt.mpr (Nat.le_succ _))
  rw [hlen] at hq hu
  have hperm : (q.toList.map fun i => ps.getD i (0, 0)).Perm ps := by
    have h1 := hq.perm.map (fun i => ps.getD i (0, 0))
    have h2 : (List.range ps.length).map (fun i => ps.getD i (0, 0)) = ps := by
      refine List.ext_getElem (by simp) fun i h1 h2 => ?_
      simp [List.getD_eq_getElem?_getD, h2]
    rwa [h2] at h1
  have hsort : (q.toList.map fun i => ps.getD i (0, 0)).Pairwise (fun x y => leP x y = true) := by
    rw [List.pairwise_map, List.pairwise_iff_getElem]
    intro i j hi hj hij
    have hi' : i < q.size := by simpa using hi
    have hj' : j < q.size := by simpa using hj
    have := hu i j hij (by rw [← hq.size]; exact hj')
    rw [at_eq hi', at_eq hj'] at this
    exact leP_of_lt (by simpa [cP, List.getD_eq_getElem?_getD] using this)
  have heq : (q.toList.map fun i => ps.getD i (0, 0)) = sortP ps := (hperm.trans (sortP_perm ps).symm).eq_of_pairwise (fun _ _ _ _ a b => leP_anti a b) hsort (sortP_sorted ps)
  have keep : ∀ b o, s.heap.get? b = some o → (PyProof.Rows.sortedAll s.heap vs.toList (List.toArray (q.toList.map fun i => vs.toList.getD i Value.none))).get? b = some o := fun b o => PyProof.Rows.sortedAll_old
  refine ⟨⟨_, s.toks, rfl, keep⟩, ?_⟩
  refine rv_new_list (n := e) (vs := (q.toList.map fun i => vs.toList.getD i Value.none)) (wfresh wok hnone) hnone ?_ ?_
  · show (PyProof.Rows.sortedAll s.heap vs.toList _).get? _ = _
    rw [he]
  · rw [← heq]
    refine ⟨by simp, fun i v d hv hd => ?_⟩
    rw [List.getElem?_map, Option.map_eq_some_iff] at hv hd
    obtain ⟨a, ha, rfl⟩ := hv
    obtain ⟨x, hx, rfl⟩ := hd
    rw [List.getElem?_map, Option.map_eq_some_iff] at hx
    obtain ⟨a', ha', rfl⟩ := hx
    rw [ha] at ha'; cases ha'
    have hlt : a < ps.length := by
      have : a ∈ q.toList := List.mem_of_getElem? ha
      simpa using hq.perm.mem_iff.mp this
    have hlt' : a < vs.toList.length := by omega
    have r := rl.2 a vs.toList[a] (pairD ps[a]) (List.getElem?_eq_getElem hlt') (by rw [List.getElem?_map, List.getElem?_eq_getElem hlt]; rfl)
    rw [List.getD_eq_getElem?_getD, List.getD_eq_getElem?_getD, List.getElem?_eq_getElem hlt, List.getElem?_eq_getElem hlt']
    exact r.mono fun b o hw e => ⟨hw, keep b o e⟩
theorem list_ok {a : Addr} {o : Obj} {T : String} {vs : Array Value} {n : Nat} {xs : List PyData} (wok : ∀ a, W a → ∃ o, s.heap.get? a = some o ∧ NoTup o) (hT : T = "list" ∨ T = "tuple") (ho : s.heap.get? a = some o)
    (hc : o.cls = .type T) (hd : o.data = .seq vs n) (r : RepL s.heap W vs.toList xs) (hx : xs.length ≤ maxLen) :
    wpAny B.M A (call (.type "list") [.ref a]) (Post s W₀ W (.fresh, .list xs)) E s := by
  refine call_list_seq a hT ho hc hd (fun h' c' hk he => ?_) (by rw [seq_size r]; exact Nat.le_trans hx maxLen_le)
  refine ⟨⟨h', s.toks, rfl, hk⟩, rv_new_list (n := c') (vs := vs.toList) (wfresh wok none_of_size) none_of_size ?_ (r.mono fun a o hw ho => ⟨hw, hk a o ho⟩)⟩
  show h'.get? _ = _
  rw [he]

theorem tuple_ok {a : Addr} {vs : Array Value} {n : Nat} {xs : List PyData} (wok : ∀ a, W a → ∃ o, s.heap.get? a = some o ∧ NoTup o) (ho : s.heap.get? a = some (lObj vs n)) (r : RepL s.heap W vs.toList xs) (hx : xs.length ≤ maxLen) :
    wpAny B.M A (call (.type "tuple") [.ref a]) (Post s W₀ W (.clean, .tuple xs)) E s := by
  refine call_tuple_list ⟨_, ho, rfl, n, rfl⟩ (fun h' hk => ?_) (by rw [seq_size r]; exact Nat.le_trans hx maxLen_le)
  have hk' : ∀ b o, s.heap.get? b = some o → (h'.push (tObj vs 0)).get? b = some o := fun b o e => Heap.get?_push_of_some _ (hk b o e)
  refine ⟨⟨_, s.toks, rfl, hk'⟩, ?_⟩
  have hnone : s.heap.get? h'.objs.size = none := by
    cases q : s.heap.get? h'.objs.size with
    | none => rfl
    | some o => exact absurd (Heap.lt_size (hk _ _ q)) (Nat.lt_irrefl _)
  have r' : RepL (h'.push (tObj vs 0)) W vs.toList xs := r.mono fun a o hw ho => ⟨hw, hk' a o ho⟩
  exact Rep.tuple (n := 0) (wfresh wok hnone) (Heap.get?_push_size _ rfl) r'.1 r'.2

theorem ints_nil {xs : List PyData} (h : intsOf xs = some []) : xs = [] := by
  cases xs with
  | nil => rfl
  | cons x r =>
    cases x with
    | int i =>
      obtain ⟨l, _, e⟩ := Option.map_eq_some_iff.mp (show (intsOf r).map (i :: ·) = some [] from h)
      cases e
    | _ => cases h
theorem sortD_ok {l : Addr} {vs : Array Value} {n : Nat} {xs ys : List PyData} (wok : ∀ a, W a → ∃ o, s.heap.get? a = some o ∧ NoTup o) (ho : s.heap.get? l = some (lObj vs n)) (rl : RepL s.heap W₀ vs.toList xs) (rl' : RepL s.heap W vs.toList xs) (hx : xs.length < 64)
    (hy : sortD xs = some ys) : wpAny B.M A (call (.builtin "sorted") [.ref l]) (Post s W₀ W (.fresh, .list ys)) E s := by
  unfold sortD at hy
  split at hy
  · rename_i is hi
    cases hy
    have hI := intsAre_of rl hi
    have := PyProof.Rows.IntsAre.length hI
    have e := rl.1
    exact sorted_ok wok ho hI (by omega)
  · split at hy
    · rename_i ps hps
      obtain ⟨nd, hy⟩ := if_inv hy
      cases hy
      have hm := pairsOf_map hps
      rw [hm] at rl'
      exact sortedP_ok wok ho rl' nd (by have := congrArg List.length hm; rw [List.length_map] at this; omega)
    · cases hy

theorem un_ok {f : Fn1} {x r : R1} (hh : A.handled = none) (le : ∀ a, W₀ a → W a) (wok : ∀ a, W a → ∃ o, s.heap.get? a = some o ∧ NoTup o) (q : RV h₁ s.heap W₀ W v x.1 x.2) (h : unSem f x = some r) :
    ∃ g, (f.name, g) ∈ btab ∧ wpAny B.M A (call g [v]) (Post s W₀ W r) E s := by
  obtain ⟨c, d⟩ := x
  have key : ∀ {k : List PyData → Option R1}, onL (c, d).2 k = some r → ∃ xs a vs n, d = .list xs ∧ v = .ref a ∧ s.heap.get? a = some (lObj vs n) ∧ RepL s.heap W₀ vs.toList xs ∧ (c.isDirty = false → RepL s.heap W vs.toList xs) ∧ k xs = some r := by
    intro k h
    obtain ⟨xs, rfl, h⟩ := onL_inv h
    obtain ⟨a, vs, n, rfl, _, ho, rl⟩ := (q.dirty le).list_inv
    refine ⟨xs, a, vs, n, rfl, rfl, ho, rl, fun hc => ?_, h⟩
    obtain ⟨a', vs', n', e, ho', rl'⟩ := q.shellOf hc
    cases e; rw [ho] at ho'; cases ho'; exact rl'
  cases f with
  | len =>
    obtain ⟨xs, hi, h⟩ := Option.bind_eq_some_iff.mp h
    obtain ⟨hx, h⟩ := if_inv h
    cases h
    exact ⟨.builtin "len", by decide, len_ok q le hi hx⟩
  | all =>
    obtain ⟨xs, a, vs, n, rfl, rfl, ho, rl, _, h⟩ := key h
    obtain ⟨b, hb, rfl⟩ := Option.map_eq_some_iff.mp (if_inv h).2
    exact ⟨.builtin "all", by decide, all_ok hh ho rl hb⟩
  | maxL =>
    obtain ⟨xs, a, vs, n, rfl, rfl, ho, rl, _, h⟩ := key h
    obtain ⟨⟨hn, _⟩, h⟩ := if_inv h
    obtain ⟨l, hl, rfl⟩ := Option.map_eq_some_iff.mp h
    cases l with
    | nil => exact (hn (ints_nil hl)).elim
    | cons i is => exact ⟨.builtin "max", by decide, max_ok (vs := vs.toList) (n := n) hh (by rw [ho]) (intsAre_of rl hl)⟩
  | minL =>
    obtain ⟨xs, a, vs, n, rfl, rfl, ho, rl, _, h⟩ := key h
    obtain ⟨⟨hn, _⟩, h⟩ := if_inv h
    obtain ⟨l, hl, rfl⟩ := Option.map_eq_some_iff.mp h
    cases l with
    | nil => exact (hn (ints_nil hl)).elim
    | cons i is => exact ⟨.builtin "min", by decide, min_ok (vs := vs.toList) (n := n) hh (by rw [ho]) (intsAre_of rl hl)⟩
  | sorted =>
    obtain ⟨xs, a, vs, n, rfl, rfl, ho, rl, rl', h⟩ := key h
    obtain ⟨hc, h⟩ := ifn_inv h
    simp only [Bool.or_eq_true, decide_eq_true_eq, not_or, Bool.not_eq_true] at hc
    obtain ⟨ys, hy, rfl⟩ := Option.map_eq_some_iff.mp h
    exact ⟨.builtin "sorted", by decide, sortD_ok wok ho rl (rl' hc.1) (by omega) hy⟩
  | list =>
    obtain ⟨xs, a, vs, n, rfl, rfl, ho, rl, rl', h⟩ := key h
    obtain ⟨hc, h⟩ := ifn_inv h
    simp only [Bool.or_eq_true, decide_eq_true_eq, not_or, Bool.not_eq_true] at hc
    cases h
    exact ⟨.type "list", by decide, list_ok wok (.inl rfl) ho rfl rfl (rl' hc.1) (by omega)⟩
  | tuple =>
    obtain ⟨xs, a, vs, n, rfl, rfl, ho, rl, rl', h⟩ := key h
    obtain ⟨hc, h⟩ := ifn_inv h
    simp only [Bool.or_eq_true, decide_eq_true_eq, not_or, Bool.not_eq_true] at hc
    cases h
    exact ⟨.type "tuple", by decide, tuple_ok wok ho (rl' hc.1) (by omega)⟩
end
end Mw

set_option maxRecDepth 10000
namespace Mw
open PySem

section
variable {B : Bs} {A : Around} {h₁ h₂ : Heap} {W₀ W : Addr → Prop} {s : Shared} {E : Value → Shared → Prop} {v v' : Value}

theorem bi_ok {f : Fn2} {x y r : R1} (hh : A.handled = none) (le : ∀ a, W₀ a → W a) (q : RV h₁ s.heap W₀ W v x.1 x.2) (q' : RV h₂ s.heap W₀ W v' y.1 y.2) (h : biSem f x y = some r) :
    ∃ g, (f.name, g) ∈ btab ∧ wpAny B.M A (call g [v, v']) (Post s W₀ W r) E s := by
  obtain ⟨a, e, h⟩ := onI_inv h
  obtain ⟨b, e', h⟩ := onI_inv h
  cases h
  rw [e] at q; rw [e'] at q'
  obtain ⟨t, rfl⟩ := q.int_inv le
  obtain ⟨u, rfl⟩ := q'.int_inv le
  cases f with
  | max =>
    refine ⟨.builtin "max", by decide, max_two_ints hh fun h' tk hk => ⟨keeps_of hk, ?_⟩⟩
    show RV _ _ _ _ _ _ (.int (max a b))
    split
    · rename_i hab; rw [Int.max_eq_right (Int.le_of_lt hab)]; exact RV.int _ _
    · rename_i hab; rw [Int.max_eq_left (by omega)]; exact RV.int _ _
  | min =>
    refine ⟨.builtin "min", by decide, min_two_ints hh fun h' tk hk => ⟨keeps_of hk, ?_⟩⟩
    show RV _ _ _ _ _ _ (.int (min a b))
    split
    · rename_i hab; rw [Int.min_eq_right (Int.le_of_lt hab)]; exact RV.int _ _
    · rename_i hab; rw [Int.min_eq_left (by omega)]; exact RV.int _ _

theorem intBits_le {a : Int} {k : Nat} (h : a.natAbs < 2 ^ k) : Builtin.Int.intBits a ≤ k := by
  unfold Builtin.Int.intBits
  split
  · exact Nat.zero_le _
  · rename_i h0
    have h0' : a.natAbs ≠ 0 := by
      intro e
      exact h0 (by simpa using Int.natAbs_eq_zero.mp e)
    exact (Nat.log2_lt h0').mpr h
theorem mulOk_ok {a b : Int} (h : mulOk a b = true) : IntMulOk a b := by
  simp only [mulOk, Bool.or_eq_true, Bool.and_eq_true, decide_eq_true_eq] at h
  rcases h with (h | h) | h
  · exact IntMulOk.of_left (Nat.le_trans (intBits_le h) (by decide))
  · exact IntMulOk.of_right (Nat.le_trans (intBits_le h) (by decide))
  · have h1 := intBits_le h.1
    have h2 := intBits_le h.2
    unfold IntMulOk
    have : Builtin.Int.intTooBig ((Builtin.Int.intBits a : Int) + (Builtin.Int.intBits b : Int)) = false := by
      unfold Builtin.Int.intTooBig bitsLine
      exact decide_eq_false (by omega)
    simp [this]

theorem add_ok {x y r : R1} (le : ∀ a, W₀ a → W a) (wok : ∀ a, W a → ∃ o, s.heap.get? a = some o ∧ NoTup o) (q : RV h₁ s.heap W₀ W v x.1 x.2) (q' : RV h₂ s.heap W₀ W v' y.1 y.2) (h : addSem x y = some r) :
    wpAny B.M A (binaryOp .Add v v') (Post s W₀ W r) E s := by
  obtain ⟨c, d⟩ := x
  obtain ⟨c', d'⟩ := y
  cases d with
  | int a =>
    obtain ⟨b, e', h⟩ := onI_inv (show onI d' (fun b => some (Cl.fresh, PyData.int (a + b))) = some r from h)
    cases h; subst e'
    obtain ⟨t, rfl⟩ := q.int_inv le
    obtain ⟨u, rfl⟩ := q'.int_inv le
    exact P.add_int ⟨keeps_toks s _, RV.int _ _⟩
  | list xs =>
    obtain ⟨ys, e', h⟩ := onL_inv (show onL d' (fun ys => if c.isDirty || c'.isDirty || decide (xs.length + ys.length > maxLen) then none else some (Cl.fresh, PyData.list (xs ++ ys))) = some r from h)
    subst e'
    obtain ⟨hc, h⟩ := ifn_inv h
    simp only [Bool.or_eq_true, decide_eq_true_eq, not_or, Bool.not_eq_true] at hc
    cases h
    obtain ⟨a, vs, n, rfl, ho, rl⟩ := q.shellOf hc.1.1
    obtain ⟨a', vs', n', rfl, ho', rl'⟩ := q'.shellOf hc.1.2
    have e1 := seq_size rl
    have e2 := seq_size rl'
    refine P.add_list (n := n) (n2 := n') ho ho' ?_ (by rw [e1, e2]; have := maxLen_le; omega)
    refine ⟨keeps_push s _, rv_new_list (n := 0) (vs := vs.toList ++ vs'.toList) (wfresh wok none_of_size) none_of_size ?_ ?_⟩
    · rw [show (vs.toList ++ vs'.toList).toArray = vs ++ vs' by simp]; exact Heap.get?_push_size _ rfl
    · exact RepL.keeps (keeps_push s _) (rl.append rl')
  | _ => cases h
theorem mul_ok {x y r : R1} (le : ∀ a, W₀ a → W a) (wok : ∀ a, W a → ∃ o, s.heap.get? a = some o ∧ NoTup o) (q : RV h₁ s.heap W₀ W v x.1 x.2) (q' : RV h₂ s.heap W₀ W v' y.1 y.2) (h : mulSem x y = some r) :
    wpAny B.M A (binaryOp .Mult v v') (Post s W₀ W r) E s := by
  obtain ⟨c, d⟩ := x
  obtain ⟨c', d'⟩ := y
  cases d with
  | int a =>
    obtain ⟨b, e', h⟩ := onI_inv (show onI d' (fun b => if mulOk a b then some (Cl.fresh, PyData.int (a * b)) else none) = some r from h)
    obtain ⟨hm, h⟩ := if_inv h
    cases h; subst e'
    obtain ⟨t, rfl⟩ := q.int_inv le
    obtain ⟨u, rfl⟩ := q'.int_inv le
    exact P.mul_int ⟨keeps_toks s _, RV.int _ _⟩ (mulOk_ok hm)
  | list xs =>
    obtain ⟨k, e', h⟩ := onI_inv (show onI d' (fun n => if c.isDirty || decide (xs.length ≠ 1) || decide (n < 1) || decide (n > 64) then none else some (Cl.fresh, PyData.list (List.replicate n.toNat (xs.getD 0 .none)))) = some r from h)
    subst e'
    obtain ⟨hc, h⟩ := ifn_inv h
    simp only [Bool.or_eq_true, decide_eq_true_eq, not_or, Bool.not_eq_true] at hc
    cases h
    obtain ⟨a, vs, n, rfl, ho, rl⟩ := q.shellOf hc.1.1.1
    obtain ⟨u, rfl⟩ := q'.int_inv le
    obtain ⟨x, rfl⟩ : ∃ x, xs = [x] := List.length_eq_one_iff.mp (by have := hc.1.1.2; omega)
    obtain ⟨w, hw, rw0⟩ := rl.get (i := 0) rfl
    have hvs : vs = #[w] := by
      have e1 := seq_size rl
      simp only [List.length_cons, List.length_nil] at e1
      rw [Array.getElem?_toList] at hw
      obtain ⟨w', e⟩ := Array.size_eq_one_iff.mp e1
      subst e; simp at hw; rw [hw]
    subst hvs
    have key : ∀ k : Nat, List.foldl (fun x1 x2 => x1 ++ x2) #[] (List.replicate k #[w]) = (List.replicate k w).toArray := by
      intro k
      have : ∀ (k : Nat) (acc : Array Value), List.foldl (fun x1 x2 => x1 ++ x2) acc (List.replicate k #[w]) = acc ++ (List.replicate k w).toArray := by
        intro k
        induction k with
        | zero => intro acc; simp
        | succ k ih => intro acc; rw [List.replicate_succ, List.foldl_cons, ih, List.replicate_succ]; apply Array.toList_inj.mp; simp only [Array.toList_append, List.append_assoc]; rfl
      rw [this]; simp
    refine wpAny_binaryOp_repeat_ref (T := "list") (U := "int") (by decide) ⟨_, ho, rfl⟩ (fun s' => typeIs_int s' k u) noFill_list_mul F.fills_int_mul F.slot_int_rmul repeat_list F.slot_int_index.lookup
      (call_meets F.slot_int_rmul (typeIs_int s k u) F.entry_int_rmul (F.args_int_rmul_2 _ _) (int___rmul___int_list k u a #[w] n)
        ⟨ho, rfl, ⟨_, ho, rfl⟩, call_meets F.slot_list_mul ⟨_, ho, rfl⟩ F.entry_list_mul (F.args_list_mul_2 _ _)
          (AutoListH.list___mul___list_int_3 a #[w] n k u (by simp [Builtin.List.listFitsIndex]; omega) (by simp; omega) (by simp [Builtin.List.listTooLong, sizeLine]; omega))
          ⟨ho, ?_⟩⟩)
    have e2 : (if (#[w] : Array Value).isEmpty = true then 0 else k.toNat) = k.toNat := by simp
    rw [e2, key]
    refine ⟨keeps_push s _, rv_new_list (n := 0) (wfresh wok none_of_size) none_of_size (Heap.get?_push_size _ rfl) ?_⟩
    refine RepL.keeps (keeps_push s _) ?_
    refine ⟨by simp, fun i v x' hv hx => ?_⟩
    rw [List.getElem?_replicate] at hv hx
    split at hv
    · rename_i hk; cases hv; rw [if_pos hk] at hx; cases hx; exact rw0
    · cases hv
  | _ => cases h

theorem ints_both {x y r : R1} {k : Int → Int → Option R1} (le : ∀ a, W₀ a → W a) (q : RV h₁ s.heap W₀ W v x.1 x.2) (q' : RV h₂ s.heap W₀ W v' y.1 y.2) (h : (onI x.2 fun a => onI y.2 fun b => k a b) = some r) : ∃ a t b u, v = .int a t ∧ v' = .int b u ∧ k a b = some r := by
  obtain ⟨a, e, h⟩ := onI_inv h
  obtain ⟨b, e', h⟩ := onI_inv h
  rw [e] at q; rw [e'] at q'
  obtain ⟨t, rfl⟩ := q.int_inv le
  obtain ⟨u, rfl⟩ := q'.int_inv le
  exact ⟨a, t, b, u, rfl, rfl, h⟩
theorem bin_ok {op : Operator} {x y r : R1} (le : ∀ a, W₀ a → W a) (wok : ∀ a, W a → ∃ o, s.heap.get? a = some o ∧ NoTup o) (q : RV h₁ s.heap W₀ W v x.1 x.2) (q' : RV h₂ s.heap W₀ W v' y.1 y.2) (h : binSem op x y = some r) :
    wpAny B.M A (binaryOp op v v') (Post s W₀ W r) E s := by
  cases op with
  | Add => exact add_ok le wok q q' h
  | Mult => exact mul_ok le wok q q' h
  | Sub =>
    obtain ⟨a, t, b, u, rfl, rfl, h⟩ := ints_both le q q' h
    cases h; exact P.sub_int ⟨keeps_toks s _, RV.int _ _⟩
  | Mod =>
    obtain ⟨a, t, b, u, rfl, rfl, h⟩ := ints_both le q q' h
    obtain ⟨hb, h⟩ := ifn_inv h
    cases h; exact PyProof.Rows.mod_int' hb ⟨keeps_toks s _, RV.int _ _⟩
  | FloorDiv =>
    obtain ⟨a, t, b, u, rfl, rfl, h⟩ := ints_both le q q' h
    obtain ⟨hb, h⟩ := ifn_inv h
    cases h
    simp only [not_or, Nat.not_le] at hb
    exact PyProof.Rows.floordiv_int hb.1 ⟨keeps_toks s _, RV.int _ _⟩ (.inl (PyProof.noPylong_small hb.2))
  | Pow =>
    obtain ⟨a, t, b, u, rfl, rfl, h⟩ := ints_both le q q' h
    obtain ⟨hb, h⟩ := if_inv h
    cases h
    refine AutoIntOps.pow_4 (by omega) (by simp; omega) (by simp; omega) (by simp; omega) ?_ ⟨keeps_toks s _, RV.int _ _⟩
    have h1 : Builtin.Int.intBits a ≤ 60 := intBits_le (by have := hb.2.1; have := hb.1; omega)
    unfold Builtin.Int.intTooBig bitsLine
    have h3 : ((Builtin.Int.intBits a : Nat) : Int) * b ≤ 60 * 64 := Int.mul_le_mul (by omega) hb.2.2.2 (by omega) (by omega)
    simp only [decide_eq_true_eq]
    omega
  | _ => cases h

theorem str_isi {x : Str} {t : Tok} {ty : Ty} : wpAny B.M A (call (.builtin "isinstance") [.str x t, .type ty.name]) (fun r s' => Keeps s s' ∧ r = .bool false) E s := by
  cases ty
  · exact IsiPair.str_int ⟨keeps_toks s _, rfl⟩
  · exact IsiPair.str_bool ⟨keeps_toks s _, rfl⟩
  · exact IsiPair.str_tuple ⟨keeps_toks s _, rfl⟩
  · exact IsiPair.str_list ⟨keeps_toks s _, rfl⟩
theorem none_isi {ty : Ty} : wpAny B.M A (call (.builtin "isinstance") [.none, .type ty.name]) (fun r s' => Keeps s s' ∧ r = .bool false) E s := by
  cases ty
  · exact IsiPair.NoneType_int ⟨keeps_toks s _, rfl⟩
  · exact IsiPair.NoneType_bool ⟨keeps_toks s _, rfl⟩
  · exact IsiPair.NoneType_tuple ⟨keeps_toks s _, rfl⟩
  · exact IsiPair.NoneType_list ⟨keeps_toks s _, rfl⟩
theorem isi_ok {ty : Ty} {x : R1} (le : ∀ a, W₀ a → W a) (hd : ∀ kvs, x.2 ≠ .dict kvs) (q : RV h₁ s.heap W₀ W v x.1 x.2) :
    wpAny B.M A (call (.builtin "isinstance") [v, .type ty.name]) (Post s W₀ W (.fresh, .bool (isinstSem ty x.2))) E s := by
  obtain ⟨c, d⟩ := x
  have r := q.dirty le
  cases d with
  | none =>
    rw [r.none_inv]
    refine wpAny_mono none_isi (fun r s' h => ⟨h.1, ?_⟩) fun _ _ e => e
    rw [h.2]; cases ty <;> exact RV.bool _
  | bool b =>
    rw [r.bool_inv]
    cases ty
    · exact IsiPair.bool_int ⟨keeps_toks s _, RV.bool _⟩
    · exact IsiPair.bool_bool ⟨keeps_refl s, RV.bool _⟩
    · exact IsiPair.bool_tuple ⟨keeps_toks s _, RV.bool _⟩
    · exact IsiPair.bool_list ⟨keeps_toks s _, RV.bool _⟩
  | int i =>
    obtain ⟨t, rfl⟩ := r.int_inv
    cases ty
    · exact IsiPair.int_int ⟨keeps_refl s, RV.bool _⟩
    · exact IsiPair.int_bool ⟨keeps_toks s _, RV.bool _⟩
    · exact IsiPair.int_tuple ⟨keeps_toks s _, RV.bool _⟩
    · exact IsiPair.int_list ⟨keeps_toks s _, RV.bool _⟩
  | str x =>
    cases r
    refine wpAny_mono str_isi (fun r s' h => ⟨h.1, ?_⟩) fun _ _ e => e
    rw [h.2]; cases ty <;> exact RV.bool _
  | list xs =>
    obtain ⟨a, vs, n, rfl, _, ho, _⟩ := r.list_inv
    cases ty
    · exact IsiPair.list_int ho rfl ⟨keeps_toks s _, RV.bool _⟩
    · exact IsiPair.list_bool ho rfl ⟨keeps_toks s _, RV.bool _⟩
    · exact IsiPair.list_tuple ho rfl ⟨keeps_toks s _, RV.bool _⟩
    · exact IsiPair.list_list ho rfl ⟨keeps_refl s, RV.bool _⟩
  | tuple xs =>
    obtain ⟨a, vs, n, rfl, _, ho, _⟩ := r.tuple_inv
    cases ty
    · exact IsiPair.tuple_int ho rfl ⟨keeps_toks s _, RV.bool _⟩
    · exact IsiPair.tuple_bool ho rfl ⟨keeps_toks s _, RV.bool _⟩
    · exact IsiPair.tuple_tuple ho rfl ⟨keeps_refl s, RV.bool _⟩
    · exact IsiPair.tuple_list ho rfl ⟨keeps_toks s _, RV.bool _⟩
  | dict kvs => exact (hd kvs rfl).elim

theorem units_ok {n : Nat} (r : Room n A) : A.units + 65 < cLine := by have := r.units; unfold cLine; omega

theorem cmp_ok {n : Nat} {op : CmpOp} {x y : R1} {b : Bool} (rm : Room n A) (le : ∀ a, W₀ a → W a) (q : RV h₁ s.heap W₀ W v x.1 x.2) (q' : RV h₂ s.heap W₀ W v' y.1 y.2) (h : cmpSem op x.2 y.2 = some b) :
    wpAny B.M A (compareOp op v v') (fun r s' => Keeps s s' ∧ r = .bool b) E s := by
  have hu := units_ok rm
  have hu' : A.units + 64 < cLine := by omega
  obtain ⟨as, ra⟩ := q.reads le
  obtain ⟨bs, rb⟩ := q'.reads le
  have two : ∀ {k : Int → Int → Option Bool}, (onI x.2 fun a => onI y.2 fun b => k a b) = some b → ∃ i t j u, v = .int i t ∧ v' = .int j u ∧ k i j = some b := by
    intro k h
    obtain ⟨i, e, h⟩ := onI_inv h
    obtain ⟨j, e', h⟩ := onI_inv h
    rw [e] at q; rw [e'] at q'
    obtain ⟨t, rfl⟩ := q.int_inv le
    obtain ⟨u, rfl⟩ := q'.int_inv le
    exact ⟨i, t, j, u, rfl, rfl, h⟩
  have non : isNoneD y.2 = true → v' = .none := fun h => by
    have e : y.2 = .none := by cases e : y.2 <;> first | rfl | (rw [e] at h; cases h)
    rw [e] at q'
    exact (q'.dirty le).none_inv
  have isn : ∀ {c d}, RV h₁ s.heap W₀ W v c d → (v == .none) = isNoneD d := fun q => by cases (q.dirty le) <;> rfl
  cases op with
  | Eq =>
    obtain ⟨hs, h⟩ := if_inv h; cases h
    exact SeqAt.compareEq_shaped ra rb (and_inv hs).1 (and_inv hs).2 hu' ⟨keeps_refl s, rfl⟩
  | NotEq =>
    obtain ⟨hs, h⟩ := if_inv h; cases h
    exact SeqAt.compareNe_shaped ra rb (and_inv hs).1 (and_inv hs).2 hu' ⟨keeps_refl s, rfl⟩
  | Lt => obtain ⟨i, t, j, u, rfl, rfl, h⟩ := two h; cases h; exact P.lt_int ⟨keeps_refl s, rfl⟩
  | LtE => obtain ⟨i, t, j, u, rfl, rfl, h⟩ := two h; cases h; exact P.le_int ⟨keeps_refl s, rfl⟩
  | Gt => obtain ⟨i, t, j, u, rfl, rfl, h⟩ := two h; cases h; exact P.gt_int ⟨keeps_refl s, rfl⟩
  | GtE => obtain ⟨i, t, j, u, rfl, rfl, h⟩ := two h; cases h; exact P.ge_int ⟨keeps_refl s, rfl⟩
  | Is =>
    obtain ⟨hs, h⟩ := if_inv h; cases h
    rw [non hs]
    exact is_none ⟨keeps_refl s, congrArg Value.bool (isn q)⟩
  | IsNot =>
    obtain ⟨hs, h⟩ := if_inv h; cases h
    rw [non hs]
    refine isNot_none ⟨keeps_refl s, congrArg Value.bool ?_⟩
    rw [← isn q]
  | In =>
    obtain ⟨xs, e, h⟩ := onL_inv h
    obtain ⟨hs, h⟩ := if_inv h; cases h
    rw [e] at rb
    exact SeqAt.in_list_reads rb ra (SeqAt.canLay_of_shaped (and_inv hs).2) (SeqAt.canLay_of_shaped (and_inv hs).1) (PyProof.Rows.room_in_shaped (and_inv hs).1 hu) ⟨keeps_refl s, rfl⟩
  | NotIn =>
    obtain ⟨xs, e, h⟩ := onL_inv h
    obtain ⟨hs, h⟩ := if_inv h; cases h
    rw [e] at rb
    exact SeqAt.notIn_list_reads rb ra (SeqAt.canLay_of_shaped (and_inv hs).2) (SeqAt.canLay_of_shaped (and_inv hs).1) (PyProof.Rows.room_in_shaped (and_inv hs).1 hu) ⟨keeps_refl s, rfl⟩
end
end Mw

set_option maxRecDepth 10000
namespace Mw
open PySem

section
variable {M : Model} {A : Around} {s : Shared} {E : Value → Shared → Prop} {env : Env}

theorem star_cons {y : PySem.Expr} {ys : List PySem.Expr} (h : notStar y = true) : starEach (y :: ys) env = (false, eval y env) :: starEach ys env := by
  cases y <;> first | rfl | cases h
theorem plain_args {pos : Pos} : ∀ {ys : List PySem.Expr}, ys.all notStar = true → (backTo pos (starEach ys env)).any (·.1) = false
  | [], _ => rfl
  | y :: ys, h => by
    simp only [List.all_cons, Bool.and_eq_true] at h
    rw [star_cons h.1]
    have ih := plain_args (pos := pos) h.2
    simp only [backTo, List.map_cons, List.any_cons, Bool.false_or] at ih ⊢
    exact ih
theorem args_ok {f : Value} {pos : Pos} {y : PySem.Expr} {ys : List PySem.Expr} {Q : Args → Shared → Prop} (hy : notStar y = true)
    (h : wpAny M A (spliced (backTo pos (starEach (y :: ys) env))) (fun vs s' => Q ⟨vs, []⟩ s') E s) : wpAny M A (evalArgs f true (backTo pos (starEach (y :: ys) env)) []) Q E s := by
  rw [star_cons hy] at h ⊢
  exact Calls.evalArgs_plain h

theorem call_any {g : Value} {pos : Pos} {y : PySem.Expr} {ys : List PySem.Expr} {Q : Value → Shared → Prop} (hg : (∃ id, g = .builtin id) ∨ ∃ T, g = .type T) (hs : (y :: ys).all notStar = true)
    (h : wpAny M A (spliced (backTo pos (starEach (y :: ys) env))) (fun vs s₁ => wpAny M A (call g vs) Q E s₁) E s) :
    wpAny M A (callWith pos g [] (backTo pos (starEach (y :: ys) env)) []) Q E s := by
  have hy : notStar y = true := by simp only [List.all_cons, Bool.and_eq_true] at hs; exact hs.1
  rcases hg with ⟨id, rfl⟩ | ⟨T, rfl⟩
  · exact Calls.callWith_builtin (plain_args hs) (args_ok hy h)
  · exact callWith_type (plain_args hs) (args_ok hy h)
theorem eval_call {f : Str} {p pos : Pos} {ys : List PySem.Expr} {Q : Value → Shared → Prop}
    (h : wpAny M A (eval (.Name f p) env) (fun g s₁ => wpAny M A (callWith pos g [] (backTo pos (starEach ys env)) []) Q E s₁) E s) : wpAny M A (eval (.Call (.Name f p) ys [] pos) env) Q E s := by
  show wpAny M A (do callWith pos (← eval (.Name f p) env) [] (backTo pos (starEach ys env)) []) Q E s
  exact wpAny_bind h
theorem btab_kind {x : String} {g : Value} (h : (x, g) ∈ btab) : (∃ id, g = .builtin id) ∨ ∃ T, g = .type T := by
  simp only [btab, List.mem_cons, Prod.mk.injEq, List.not_mem_nil, or_false] at h
  rcases h with ⟨_, rfl⟩ | ⟨_, rfl⟩ | ⟨_, rfl⟩ | ⟨_, rfl⟩ | ⟨_, rfl⟩ | ⟨_, rfl⟩ | ⟨_, rfl⟩ | ⟨_, rfl⟩ | ⟨_, rfl⟩ | ⟨_, rfl⟩ | ⟨_, rfl⟩ | ⟨_, rfl⟩ | ⟨_, rfl⟩ | ⟨_, rfl⟩ <;> first | exact .inl ⟨_, rfl⟩ | exact .inr ⟨_, rfl⟩
theorem sub_plain {slice : PySem.Expr} {o i : Value} (h : ∀ a b c p, slice ≠ .Slice a b c p) : subscripted slice false o i = operate [o, i] (getItem o i) := by
  cases slice <;> first | rfl | exact (h _ _ _ _ rfl).elim
theorem isTrue_plain {x : PySem.Expr} {whole : Sem Value} (h : (match x with | .UnaryOp .Not _ _ => false | .BoolOp .. => false | .IfExp .. => false | .Compare .. => false | _ => true) = true) :
    isTrue x env whole = (do let v ← whole; standAt x.pos; holding [v] (truthy v)) := by
  cases x <;> first | rfl | (simp at h; done) | (rename_i op _ _; cases op <;> first | rfl | simp at h)
end

noncomputable def RVL (h₁ h : Heap) (W₀ W : Addr → Prop) (vs : List Value) (xs : List R1) : Prop :=
  vs.length = xs.length ∧ ∀ (i : Nat) (v : Value) (x : R1), vs[i]? = some v → xs[i]? = some x → RV h₁ h W₀ W v x.1 x.2
section
variable {h₁ h : Heap} {W₀ W : Addr → Prop} {vs : List Value} {xs : List R1} {v : Value} {x : R1}
theorem RVL.nil : RVL h₁ h W₀ W [] [] := ⟨rfl, fun i v x hv => by simp at hv⟩
theorem RVL.cons (r : RV h₁ h W₀ W v x.1 x.2) (rs : RVL h₁ h W₀ W vs xs) : RVL h₁ h W₀ W (v :: vs) (x :: xs) := by
  refine ⟨by simp [rs.1], fun i v' x' hv hx => ?_⟩
  cases i with
  | zero => simp at hv hx; subst hv; subst hx; exact r
  | succ i => simp at hv hx; exact rs.2 i v' x' hv hx
theorem RVL.one (r : RVL h₁ h W₀ W vs [x]) : ∃ v, vs = [v] ∧ RV h₁ h W₀ W v x.1 x.2 := by
  obtain ⟨v, rfl⟩ := List.length_eq_one_iff.mp (by simpa using r.1)
  exact ⟨v, rfl, r.2 0 v x rfl rfl⟩
theorem RVL.clean (r : RVL h₁ h W₀ W vs xs) (hc : xs.all (·.1.isClean) = true) : RepL h W vs (xs.map (·.2)) := by
  refine ⟨by simp [r.1], fun i v d hv hd => ?_⟩
  rw [List.getElem?_map, Option.map_eq_some_iff] at hd
  obtain ⟨x, hx, rfl⟩ := hd
  exact RV.ofClean (List.all_eq_true.mp hc x (List.mem_of_getElem? hx)) (r.2 i v x hv hx)
theorem RVL.dirty (r : RVL h₁ h W₀ W vs xs) (le : ∀ a, W₀ a → W a) : RepL h W₀ vs (xs.map (·.2)) := by
  refine ⟨by simp [r.1], fun i v d hv hd => ?_⟩
  rw [List.getElem?_map, Option.map_eq_some_iff] at hd
  obtain ⟨x, hx, rfl⟩ := hd
  exact RV.dirty le (r.2 i v x hv hx)
end

theorem Post.trans {s₀ s s' : Shared} {W₀ W : Addr → Prop} {r : R1} {v : Value} (k : Keeps s₀ s) (p : Post s W₀ W r v s') : Post s₀ W₀ W r v s' := ⟨keeps_trans k p.1, p.2.start (Keeps.heap k)⟩

section
variable (B : Bs) (Φ : Fns) (n : Nat)
noncomputable def SndE (e : X) : Prop := ∀ (A : Around) (env : Env) (names : List Str) (W₀ W : Addr → Prop) (ρ : Rho) (s : Shared) (x : PySem.Expr) (r : R1) (E : Value → Shared → Prop), okX names env.scope.names e x = true →
  Cx B n A env names W₀ W ρ s → evE Φ e ρ = some r → wpAny B.M A (eval x env) (Post s W₀ W r) E s
noncomputable def SndT (e : X) : Prop := ∀ (A : Around) (env : Env) (names : List Str) (W₀ W : Addr → Prop) (ρ : Rho) (s : Shared) (x : PySem.Expr) (b : Bool) (E : Value → Shared → Prop), okX names env.scope.names e x = true →
  Cx B n A env names W₀ W ρ s → asBool (evE Φ e ρ) = some b → wpAny B.M A (isTrue x env (eval x env)) (fun b' s' => b' = b ∧ Keeps s s') E s
noncomputable def SndL (e : X) : Prop := ∀ (A : Around) (env : Env) (names : List Str) (W₀ W : Addr → Prop) (ρ : Rho) (s : Shared) (ys : List PySem.Expr) (xs : List R1) (pos : Pos) (E : Value → Shared → Prop), okL names env.scope.names e ys = true →
  Cx B n A env names W₀ W ρ s → evL Φ e ρ = some xs → wpAny B.M A (spliced (backTo pos (starEach ys env))) (fun vs s' => Keeps s s' ∧ RVL s.heap s'.heap W₀ W vs xs) E s
noncomputable def bOp (k : Bool) : BoolOp := if k then .And else .Or
noncomputable def SndB (e : X) : Prop := ∀ (k : Bool) (A : Around) (env : Env) (names : List Str) (W₀ W : Addr → Prop) (ρ : Rho) (s : Shared) (ys : List PySem.Expr) (b : Bool) (E : Value → Shared → Prop), okL names env.scope.names e ys = true →
  Cx B n A env names W₀ W ρ s → evB Φ k e ρ = some b → wpAny B.M A (allTrue (bOp k) ys env) (fun b' s' => b' = b ∧ Keeps s s') E s ∧
    (∀ pos, ys ≠ [] → wpAny B.M A (boolOp pos (bOp k) (evalEach ys env)) (fun v s' => v = .bool b ∧ Keeps s s') E s)
end

theorem okL_star {names : List Str} {sc : Sc} : ∀ {e : X} {ys : List PySem.Expr}, okL names sc e ys = true → ys.all notStar = true := by
  intro e
  induction e with
  | nil => intro ys h; cases List.isEmpty_iff.mp h; rfl
  | cons a l _ ih =>
    intro ys h
    (replace h := iv_cons h); obtain ⟨y, r, rfl, h⟩ := h
    obtain ⟨h1, h2⟩ := and_inv h
    rw [List.all_cons, (and_inv h1).1, ih h2]; rfl
  | _ => intro ys h; cases h

section
variable {B : Bs} {Φ : Fns} {n : Nat}
theorem sndT_of {e : X} (hE : SndE B Φ n e)
    (hx : ∀ names sc x, okX names sc e x = true → (match x with | .UnaryOp .Not _ _ => false | .BoolOp .. => false | .IfExp .. => false | .Compare .. => false | _ => true) = true) : SndT B Φ n e := by
  intro A env names W₀ W ρ s x b E hok cx hev
  obtain ⟨c, hr⟩ := asBool_inv hev
  · refine wpAny_isTrue_value (wpAny_mono (hE A env names W₀ W ρ s x _ E hok cx hr) (fun v s' h => ?_) fun _ _ e => e) (isTrue_plain (hx _ _ _ hok))
    rw [h.2.bool_inv cx.le]
    exact wpAny_truthy_bool ⟨rfl, h.1⟩

theorem snd_const (c : Const) : SndE B Φ n (.const c) := by
  intro A env names W₀ W ρ s x r E hok cx hev
  · (replace hok := iv_const hok); obtain ⟨c', k, pos, rfl, hok⟩ := hok
    have := of_decide_eq_true hok
    subst this
    cases c <;> first
      | (cases hev; exact wpAny_Constant_none ⟨keeps_refl s, .none, fun _ e => by cases e⟩)
      | (cases hev; exact wpAny_Constant_bool ⟨keeps_refl s, RV.bool _⟩)
      | (cases hev; exact wpAny_Constant_int ⟨keeps_toks s _, RV.int _ _⟩)
      | (cases hev; exact wpAny_Constant_str ⟨keeps_toks s _, .str _ _, fun _ e => by cases e⟩)
      | (cases hev; done)

theorem snd_var (m : Nat) : SndE B Φ n (.var m) := by
  intro A env names W₀ W ρ s x r E hok cx hev
  · (replace hok := iv_var hok); obtain ⟨id, pos, rfl, hok⟩ := hok
    simp only [nameIs, Sc.isVar, Bool.and_eq_true, beq_iff_eq, Bool.or_eq_true, Bool.not_eq_true'] at hok
    obtain ⟨hn, hk, hd⟩ := hok
    simp only [Z1, Z2, Z3, Z4, Z5, Z6, Z7, Z8, Z9, Z10, Z11, Z12, Z13, Z14, Z15, Z16, Z17, Z18, Z19, Z20, Z21, Z22, Z23, Z24, Z25, Z26, Z27, Z28, Z29, Z30, Z31] at hev
    split at hev
    · rename_i e he
      obtain ⟨v, hv, ho⟩ := cx.env m e id he hn hk
      refine wpAny_Name (load_var cx.fn hv ⟨keeps_refl s, ?_⟩) hd
      cases e with
      | val d => cases hev; exact ho
      | own ds =>
        simp only [varSem] at hev
        split at hev
        · cases hev
        · rename_i hdic
          cases hev
          obtain ⟨a, e, _, w₀, sh⟩ := ho
          exact ⟨a, ds, e, rfl, fun w => w₀ (.inl w), sh.shell (by simpa using hdic)⟩
      | ownT d ds =>
        cases hev
        revert ho
        rintro ⟨t, a, v₀, k, e1, wt, ht, r, wa, w₀', sh⟩
        have w₀ : ¬ W₀ a := fun w => w₀' (.inl w)
        have ho : ∃ t a v₀ n, v = .ref t ∧ ¬ W t ∧ s.heap.get? t = some (tObj #[v₀, .ref a] n) ∧ Rep s.heap W v₀ d ∧ W a ∧ ¬ W₀ a ∧ ShellAt s.heap W a ds := ⟨t, a, v₀, k, e1, wt, ht, r, wa, w₀, sh⟩
        clear e1 wt ht r wa w₀' sh w₀
        obtain ⟨t, a, v₀, k, rfl, wt, ht, r, wa, w₀, ⟨vs, j, ho, rl⟩⟩ := ho
        have H : ∀ a o, ¬ W a → s.heap.get? a = some o → ¬ W₀ a ∧ s.heap.get? a = some o := fun a o hw ho => ⟨fun x => hw (cx.le a x), ho⟩
        have rl' := rl.mono H
        have r1 : RepL s.heap W₀ [v₀, .ref a] [d, .list ds] := .cons (r.mono H) (.one (.list w₀ ho rl'.1 rl'.2))
        exact Rep.tuple (n := k) (fun x => wt (cx.le t x)) ht r1.1 r1.2
    · cases hev

theorem snd_glob (hB : B.Ok) (hΦ : FnsOk B Φ n) (g : Str) : SndE B Φ n (.glob g) := by
  intro A env names W₀ W ρ s x r E hok cx hev
  · (replace hok := iv_glob hok); obtain ⟨id, pos, rfl, hok⟩ := hok
    simp only [Bool.and_eq_true, beq_iff_eq] at hok
    obtain ⟨rfl, hg⟩ := hok
    simp only [Z1, Z2, Z3, Z4, Z5, Z6, Z7, Z8, Z9, Z10, Z11, Z12, Z13, Z14, Z15, Z16, Z17, Z18, Z19, Z20, Z21, Z22, Z23, Z24, Z25, Z26, Z27, Z28, Z29, Z30, Z31] at hev
    obtain ⟨i, hi, rfl⟩ := Option.map_eq_some_iff.mp hev
    obtain ⟨t, ht⟩ := hΦ.2 _ _ hi
    exact load_glob hB cx hg ht ⟨keeps_refl s, RV.int _ _⟩

theorem snd_bin {op : Operator} {a b : X} (ha : SndE B Φ n a) (hb : SndE B Φ n b) : SndE B Φ n (.bin op a b) := by
  intro A env names W₀ W ρ s x r E hok cx hev
  · (replace hok := iv_bin hok); obtain ⟨l, op', r', pos, rfl, hok⟩ := hok
    simp only [Bool.and_eq_true, decide_eq_true_eq] at hok
    obtain ⟨⟨rfl, h1⟩, h2⟩ := hok
    simp only [Z1, Z2, Z3, Z4, Z5, Z6, Z7, Z8, Z9, Z10, Z11, Z12, Z13, Z14, Z15, Z16, Z17, Z18, Z19, Z20, Z21, Z22, Z23, Z24, Z25, Z26, Z27, Z28, Z29, Z30, Z31] at hev
    split at hev
    · rename_i xa xb ea eb
      refine wpAny_BinOp (wpAny_mono (ha A env names W₀ W ρ s _ _ _ h1 cx ea) (fun v s₁ p => ?_) fun _ _ e => e)
      have cx₁ := cx.keeps p.1
      refine wpAny_mono (hb A env names W₀ W ρ s₁ _ _ _ h2 cx₁ eb) (fun v' s₂ p' => ?_) fun _ _ e => e
      have cx₂ := cx₁.keeps p'.1
      exact wpAny_mono (bin_ok (h₁ := s.heap) (h₂ := s₁.heap) cx.le cx₂.wok (p.2.keeps p'.1) p'.2 hev) (fun _ _ q => Post.trans (keeps_trans p.1 p'.1) q) fun _ _ e => e
    · cases hev

theorem snd_not {a : X} (ha : SndE B Φ n a) (ta : SndT B Φ n a) : SndE B Φ n (.not a) ∧ SndT B Φ n (.not a) := by
  refine ⟨fun A env names W₀ W ρ s x r E hok cx hev => ?_, fun A env names W₀ W ρ s x b E hok cx hev => ?_⟩
  · skip
    · (replace hok := iv_not hok); obtain ⟨_, _, rfl, hok⟩ := hok
      simp only [Z1, Z2, Z3, Z4, Z5, Z6, Z7, Z8, Z9, Z10, Z11, Z12, Z13, Z14, Z15, Z16, Z17, Z18, Z19, Z20, Z21, Z22, Z23, Z24, Z25, Z26, Z27, Z28, Z29, Z30, Z31] at hev
      obtain ⟨b, hb, rfl⟩ := Option.map_eq_some_iff.mp hev
      cases he : evE Φ a ρ with
      | none => rw [he] at hb; cases hb
      | some q =>
        obtain ⟨c, d⟩ := q
        rw [he] at hb
        cases d <;> simp only [asBool] at hb <;> first | (cases hb; done) | skip
        cases hb
        refine wpAny_UnaryOp (wpAny_mono (ha A env names W₀ W ρ s _ _ _ hok cx he) (fun v s₁ p => ?_) fun _ _ e => e)
        rw [p.2.bool_inv cx.le]
        exact not_value (wpAny_truthy_bool ⟨p.1, RV.bool _⟩)
  · skip
    · (replace hok := iv_not hok); obtain ⟨_, _, rfl, hok⟩ := hok
      simp only [Z1, Z2, Z3, Z4, Z5, Z6, Z7, Z8, Z9, Z10, Z11, Z12, Z13, Z14, Z15, Z16, Z17, Z18, Z19, Z20, Z21, Z22, Z23, Z24, Z25, Z26, Z27, Z28, Z29, Z30, Z31] at hev
      cases hb : asBool (evE Φ a ρ) with
      | none => rw [hb] at hev; cases hev
      | some b' =>
        rw [hb] at hev; cases hev
        exact wpAny_isTrue_Not (wpAny_mono (ta A env names W₀ W ρ s _ _ _ hok cx hb) (fun b s₁ p => ⟨by rw [p.1], p.2⟩) fun _ _ e => e)
end
end Mw

set_option maxRecDepth 10000
namespace Mw
open PySem

section
variable {B : Bs} {Φ : Fns} {n : Nat}

theorem sndB_nil : SndB B Φ n .nil := by
  intro k A env names W₀ W ρ s ys b E hok cx hev
  replace hok := List.isEmpty_iff.mp hok
  subst hok
  simp only [Z32, Z33] at hev
  cases hev
  refine ⟨?_, fun pos h => (h rfl).elim⟩
  cases k
  · exact wpAny_allTrue_Or_nil ⟨rfl, keeps_refl s⟩
  · exact wpAny_allTrue_And_nil ⟨rfl, keeps_refl s⟩

theorem sndB_cons {a l : X} (ha : SndE B Φ n a) (ta : SndT B Φ n a) (hl : SndB B Φ n l) : SndB B Φ n (.cons a l) := by
  intro k A env names W₀ W ρ s ys b E hok cx hev
  · (replace hok := iv_cons hok); obtain ⟨y, r, rfl, hok⟩ := hok
    simp only [Bool.and_eq_true] at hok
    obtain ⟨⟨_, hy⟩, hr⟩ := hok
    simp only [Z32, Z33] at hev
    split at hev
    · rename_i c hc
      have tst := ta A env names W₀ W ρ s y c E hy cx hc
      constructor
      · cases k
        · refine wpAny_allTrue_Or_cons (wpAny_mono tst (fun b' s₁ p => ?_) fun _ _ e => e)
          obtain ⟨rfl, k₁⟩ := p
          split at hev
          · rename_i e; subst e
            simp only [Bool.false_eq_true, if_false]
            exact wpAny_mono ((hl false A env names W₀ W ρ s₁ r b E hr (cx.keeps k₁) hev).1) (fun _ _ q => ⟨q.1, keeps_trans k₁ q.2⟩) fun _ _ e => e
          · rename_i e
            cases hev
            cases b <;> simp at e ⊢
            exact k₁
        · refine wpAny_allTrue_And_cons (wpAny_mono tst (fun b' s₁ p => ?_) fun _ _ e => e)
          obtain ⟨rfl, k₁⟩ := p
          split at hev
          · rename_i e; subst e
            simp only [if_true]
            exact wpAny_mono ((hl true A env names W₀ W ρ s₁ r b E hr (cx.keeps k₁) hev).1) (fun _ _ q => ⟨q.1, keeps_trans k₁ q.2⟩) fun _ _ e => e
          · rename_i e
            cases hev
            cases b <;> simp at e ⊢
            exact k₁
      · intro pos _
        obtain ⟨cc, he⟩ := asBool_inv hc
        · have hE := ha A env names W₀ W ρ s y _ E hy cx he
          cases r with
          | nil =>
            have hnil : evB Φ k l ρ = some k := by
              cases l <;> first | rfl | cases hr
            have hb : b = c := by
              split at hev
              · rename_i e; rw [hnil] at hev; cases hev; exact e.symm
              · cases hev; rfl
            subst hb
            show wpAny B.M A (eval y env) _ E s
            exact wpAny_mono hE (fun v s₁ p => ⟨p.2.bool_inv cx.le, p.1⟩) fun _ _ e => e
          | cons z zs =>
            show wpAny B.M A (do
              let v ← eval y env
              standAt pos
              let t ← holding [v] (truthy v)
              match bOp k, t with
              | .And, false | .Or, true => pure v
              | _, _ => boolOp pos (bOp k) (evalEach (z :: zs) env)) _ E s
            refine wpAny_bind (wpAny_mono hE (fun v s₁ p => wpAny_bind (wpAny_standAt (wpAny_bind (wpAny_holding ?_)))) fun _ _ e => e)
            rw [p.2.bool_inv cx.le]
            refine wpAny_truthy_bool ?_
            split at hev
            · rename_i e; subst e
              have rest := (hl c A env names W₀ W ρ s₁ (z :: zs) b E hr (cx.keeps p.1) hev).2 pos (by simp)
              cases c <;> exact wpAny_mono rest (fun _ _ q => ⟨q.1, keeps_trans p.1 q.2⟩) fun _ _ e => e
            · rename_i e
              cases hev
              cases k <;> cases b <;> simp at e
              · exact wpAny_pure ⟨rfl, p.1⟩
              · exact wpAny_pure ⟨rfl, p.1⟩
    · cases hev

theorem snd_and {l : X} (hl : SndB B Φ n l) : SndE B Φ n (.and l) ∧ SndT B Φ n (.and l) := by
  refine ⟨fun A env names W₀ W ρ s x r E hok cx hev => ?_, fun A env names W₀ W ρ s x b E hok cx hev => ?_⟩
  · skip
    · (replace hok := iv_and hok); obtain ⟨_, _, _, _, rfl, hok⟩ := hok
      simp only [Z1, Z2, Z3, Z4, Z5, Z6, Z7, Z8, Z9, Z10, Z11, Z12, Z13, Z14, Z15, Z16, Z17, Z18, Z19, Z20, Z21, Z22, Z23, Z24, Z25, Z26, Z27, Z28, Z29, Z30, Z31] at hev
      obtain ⟨b, hb, rfl⟩ := Option.map_eq_some_iff.mp hev
      rename_i y z ys pos
      show wpAny B.M A (boolOp pos .And (evalEach (y :: z :: ys) env)) _ _ _
      exact wpAny_mono ((hl true A env names W₀ W ρ s _ b E hok cx hb).2 pos (by simp)) (fun v s' p => ⟨p.2, by rw [p.1]; exact RV.bool _⟩) fun _ _ e => e
  · skip
    · (replace hok := iv_and hok); obtain ⟨_, _, _, _, rfl, hok⟩ := hok
      simp only [Z1, Z2, Z3, Z4, Z5, Z6, Z7, Z8, Z9, Z10, Z11, Z12, Z13, Z14, Z15, Z16, Z17, Z18, Z19, Z20, Z21, Z22, Z23, Z24, Z25, Z26, Z27, Z28, Z29, Z30, Z31] at hev
      cases hb : evB Φ true l ρ with
      | none => rw [hb] at hev; cases hev
      | some b' =>
        rw [hb] at hev; cases hev
        exact wpAny_isTrue_BoolOp (hl true A env names W₀ W ρ s _ _ E hok cx hb).1
theorem snd_or {l : X} (hl : SndB B Φ n l) : SndE B Φ n (.or l) ∧ SndT B Φ n (.or l) := by
  refine ⟨fun A env names W₀ W ρ s x r E hok cx hev => ?_, fun A env names W₀ W ρ s x b E hok cx hev => ?_⟩
  · skip
    · (replace hok := iv_or hok); obtain ⟨_, _, _, _, rfl, hok⟩ := hok
      simp only [Z1, Z2, Z3, Z4, Z5, Z6, Z7, Z8, Z9, Z10, Z11, Z12, Z13, Z14, Z15, Z16, Z17, Z18, Z19, Z20, Z21, Z22, Z23, Z24, Z25, Z26, Z27, Z28, Z29, Z30, Z31] at hev
      obtain ⟨b, hb, rfl⟩ := Option.map_eq_some_iff.mp hev
      rename_i y z ys pos
      show wpAny B.M A (boolOp pos .Or (evalEach (y :: z :: ys) env)) _ _ _
      exact wpAny_mono ((hl false A env names W₀ W ρ s _ b E hok cx hb).2 pos (by simp)) (fun v s' p => ⟨p.2, by rw [p.1]; exact RV.bool _⟩) fun _ _ e => e
  · skip
    · (replace hok := iv_or hok); obtain ⟨_, _, _, _, rfl, hok⟩ := hok
      simp only [Z1, Z2, Z3, Z4, Z5, Z6, Z7, Z8, Z9, Z10, Z11, Z12, Z13, Z14, Z15, Z16, Z17, Z18, Z19, Z20, Z21, Z22, Z23, Z24, Z25, Z26, Z27, Z28, Z29, Z30, Z31] at hev
      cases hb : evB Φ false l ρ with
      | none => rw [hb] at hev; cases hev
      | some b' =>
        rw [hb] at hev; cases hev
        exact wpAny_isTrue_BoolOp (hl false A env names W₀ W ρ s _ _ E hok cx hb).1

theorem marks_no {op : CmpOp} {r : PySem.Expr} (h : notSet r = true) : behindInMarks op r = false := by cases r <;> first | rfl | cases h

theorem cmp_core {op : CmpOp} {a b : X} (ha : SndE B Φ n a) (hb : SndE B Φ n b) {A : Around} {env : Env} {names : List Str} {W₀ W : Addr → Prop} {ρ : Rho} {s : Shared} {l r : PySem.Expr} {xa xb : R1} {bb : Bool}
    (h1 : okX names env.scope.names a l = true) (h2 : okX names env.scope.names b r = true) (cx : Cx B n A env names W₀ W ρ s) (ea : evE Φ a ρ = some xa) (eb : evE Φ b ρ = some xb) (hc : cmpSem op xa.2 xb.2 = some bb)
    (Q : Value → Shared → Prop) {E : Value → Shared → Prop} (hQ : ∀ s', Keeps s s' → Q (.bool bb) s') :
    wpAny B.M A (eval l env) (fun v s₁ => wpAny B.M A (eval r env) (fun v' s₂ => wpAny B.M A (compareOp op v v') Q E s₂) E s₁) E s := by
  refine wpAny_mono (ha A env names W₀ W ρ s _ _ _ h1 cx ea) (fun v s₁ p => ?_) fun _ _ e => e
  have cx₁ := cx.keeps p.1
  refine wpAny_mono (hb A env names W₀ W ρ s₁ _ _ _ h2 cx₁ eb) (fun v' s₂ p' => ?_) fun _ _ e => e
  refine wpAny_mono (cmp_ok (h₁ := s.heap) (h₂ := s₁.heap) cx.room cx.le (p.2.keeps p'.1) p'.2 hc) (fun c s₃ q => ?_) fun _ _ e => e
  rw [q.2]
  exact hQ s₃ (keeps_trans (keeps_trans p.1 p'.1) q.1)

theorem snd_cmp {op : CmpOp} {a b : X} (ha : SndE B Φ n a) (hb : SndE B Φ n b) : SndE B Φ n (.cmp op a b) ∧ SndT B Φ n (.cmp op a b) := by
  refine ⟨fun A env names W₀ W ρ s x r E hok cx hev => ?_, fun A env names W₀ W ρ s x b' E hok cx hev => ?_⟩
  · skip
    · (replace hok := iv_cmp hok); obtain ⟨l, op', r', pos, rfl, hok⟩ := hok
      simp only [Bool.and_eq_true, decide_eq_true_eq] at hok
      obtain ⟨⟨⟨rfl, hs⟩, h1⟩, h2⟩ := hok
      simp only [Z1, Z2, Z3, Z4, Z5, Z6, Z7, Z8, Z9, Z10, Z11, Z12, Z13, Z14, Z15, Z16, Z17, Z18, Z19, Z20, Z21, Z22, Z23, Z24, Z25, Z26, Z27, Z28, Z29, Z30, Z31] at hev
      split at hev
      · rename_i xa xb ea eb
        obtain ⟨bb, hc, rfl⟩ := Option.map_eq_some_iff.mp hev
        exact wpAny_Compare1 (cmp_core ha hb h1 h2 cx ea eb hc _ fun s' k => ⟨k, RV.bool _⟩) (marks_no hs)
      · cases hev
  · skip
    · (replace hok := iv_cmp hok); obtain ⟨l, op', r', pos, rfl, hok⟩ := hok
      simp only [Bool.and_eq_true, decide_eq_true_eq] at hok
      obtain ⟨⟨⟨rfl, hs⟩, h1⟩, h2⟩ := hok
      simp only [Z1, Z2, Z3, Z4, Z5, Z6, Z7, Z8, Z9, Z10, Z11, Z12, Z13, Z14, Z15, Z16, Z17, Z18, Z19, Z20, Z21, Z22, Z23, Z24, Z25, Z26, Z27, Z28, Z29, Z30, Z31] at hev
      split at hev
      · rename_i xa xb ea eb
        cases hc : cmpSem op xa.2 xb.2 with
        | none => rw [hc] at hev; cases hev
        | some bb =>
          rw [hc] at hev; cases hev
          exact wpAny_isTrue_Compare1 (cmp_core ha hb h1 h2 cx ea eb hc _ fun s' k => wpAny_truthy_bool ⟨rfl, k⟩) (marks_no hs)
      · cases hev

theorem marked2 {op₁ op₂ : CmpOp} {r t : PySem.Expr} {env : Env} (ht : notSet t = true) : markedEach [op₁, op₂] [r, t] (evalEach [r, t] env) = [eval r env, eval t env] := by
  show [eval r env, markedBehindIn op₂ t (eval t env)] = _
  rw [markedBehindIn_of_false (marks_no ht)]

theorem cmp2_core {op op' : CmpOp} {a b c : X} (ha : SndE B Φ n a) (hb : SndE B Φ n b) (hc : SndE B Φ n c) {A : Around} {env : Env} {names : List Str} {W₀ W : Addr → Prop} {ρ : Rho} {s : Shared} {l r t : PySem.Expr} {bb : Bool} {rr : R1}
    (h1 : okX names env.scope.names a l = true) (h2 : okX names env.scope.names b r = true) (h3 : okX names env.scope.names c t = true) (cx : Cx B n A env names W₀ W ρ s) (hev : evE Φ (.cmp2 op op' a b c) ρ = some rr) (hr : rr = (.fresh, .bool bb))
    {E : Value → Shared → Prop} {pos : Pos} :
    wpAny B.M A (do compareChain pos (← eval l env) [op, op'] [eval r env, eval t env]) (fun v s' => v = .bool bb ∧ Keeps s s') E s ∧
    wpAny B.M A (do testChain pos (← eval l env) [op, op'] [eval r env, eval t env]) (fun v s' => v = bb ∧ Keeps s s') E s := by
  subst hr
  simp only [Z1, Z2, Z3, Z4, Z5, Z6, Z7, Z8, Z9, Z10, Z11, Z12, Z13, Z14, Z15, Z16, Z17, Z18, Z19, Z20, Z21, Z22, Z23, Z24, Z25, Z26, Z27, Z28, Z29, Z30, Z31] at hev
  split at hev
  · rename_i xa xb ea eb
    have first : ∀ {α : Type} (k : Value → Value → Value → Sem α) (Q : α → Shared → Prop) (b₁ : Bool), cmpSem op xa.2 xb.2 = some b₁ →
        (∀ (v v' : Value) (s₂ s₃ : Shared), Keeps s s₃ → RV s₂.heap s₃.heap W₀ W v' xb.1 xb.2 → wpAny B.M A (k v v' (.bool b₁)) Q E s₃) →
        wpAny B.M A (do
          let left ← eval l env
          let rv ← holding [left] (eval r env)
          standAt pos
          let c ← holding [left, rv] (compareOp op left rv)
          release [left, rv] [c]
          k left rv c) Q E s := by
      intro α k Q b₁ hb₁ hk
      refine wpAny_bind (wpAny_mono (ha A env names W₀ W ρ s _ _ _ h1 cx ea) (fun v s₁ p => ?_) fun _ _ e => e)
      have cx₁ := cx.keeps p.1
      refine wpAny_bind (wpAny_holding (wpAny_mono (hb A env names W₀ W ρ s₁ _ _ _ h2 cx₁ eb) (fun v' s₂ p' => ?_) fun _ _ e => e))
      refine wpAny_bind (wpAny_standAt (wpAny_bind (wpAny_holding (wpAny_mono (cmp_ok (h₁ := s.heap) (h₂ := s₁.heap) cx.room cx.le (p.2.keeps p'.1) p'.2 hb₁) (fun c s₃ q => ?_) fun _ _ e => e))))
      rw [q.2]
      exact wpAny_bind (fun Γ p hΓ => by
        rw [release, Sem.wp_release_go]
        exact hk v v' s₁ s₃ (keeps_trans (keeps_trans ‹Post s W₀ W xa v s₁›.1 p'.1) q.1) (p'.2.keeps q.1))
    split at hev
    · rename_i hb₁
      split at hev
      · rename_i xc ec
        obtain ⟨b₂, hc₂, e⟩ := Option.map_eq_some_iff.mp hev
        cases e
        constructor
        · refine first (fun left rv c => do if ← holding [c, rv] (truthy c) then compareChain pos rv [op'] [eval t env] else pure c) _ true hb₁ fun v v' s₂ s₃ k₃ r₃ => ?_
          refine wpAny_bind (wpAny_holding (wpAny_truthy_bool ?_))
          show wpAny B.M A (do
            let rv ← holding [v'] (eval t env)
            standAt pos
            operate [v', rv] (compareOp op' v' rv)) _ _ _
          have cx₃ := cx.keeps k₃
          refine wpAny_bind (wpAny_holding (wpAny_mono (hc A env names W₀ W ρ s₃ _ _ _ h3 cx₃ ec) (fun v'' s₄ p'' => ?_) fun _ _ e => e))
          refine wpAny_bind (wpAny_standAt (wpAny_operating (wpAny_mono (cmp_ok (h₁ := s₂.heap) (h₂ := s₃.heap) cx.room cx.le (r₃.keeps p''.1) p''.2 hc₂) (fun c s₅ q => ⟨q.2, keeps_trans (keeps_trans k₃ p''.1) q.1⟩) fun _ _ e => e)))
        · refine first (fun left rv c => do if ← holding [c, rv] (truthy c) then testChain pos rv [op'] [eval t env] else pure false) _ true hb₁ fun v v' s₂ s₃ k₃ r₃ => ?_
          refine wpAny_bind (wpAny_holding (wpAny_truthy_bool ?_))
          show wpAny B.M A (do
            let rv ← holding [v'] (eval t env)
            standAt pos
            let c ← operate [v', rv] (compareOp op' v' rv)
            holding [c] (truthy c)) _ _ _
          have cx₃ := cx.keeps k₃
          refine wpAny_bind (wpAny_holding (wpAny_mono (hc A env names W₀ W ρ s₃ _ _ _ h3 cx₃ ec) (fun v'' s₄ p'' => ?_) fun _ _ e => e))
          refine wpAny_bind (wpAny_standAt (wpAny_bind (wpAny_operating (wpAny_mono (cmp_ok (h₁ := s₂.heap) (h₂ := s₃.heap) cx.room cx.le (r₃.keeps p''.1) p''.2 hc₂) (fun c s₅ q => ?_) fun _ _ e => e))))
          rw [q.2]
          exact wpAny_holding (wpAny_truthy_bool ⟨rfl, keeps_trans (keeps_trans k₃ p''.1) q.1⟩)
      · cases hev
    · rename_i hb₁
      cases hev
      constructor
      · refine first (fun left rv c => do if ← holding [c, rv] (truthy c) then compareChain pos rv [op'] [eval t env] else pure c) _ false hb₁ fun v v' s₂ s₃ k₃ r₃ => ?_
        exact wpAny_bind (wpAny_holding (wpAny_truthy_bool (wpAny_pure ⟨rfl, k₃⟩)))
      · refine first (fun left rv c => do if ← holding [c, rv] (truthy c) then testChain pos rv [op'] [eval t env] else pure false) _ false hb₁ fun v v' s₂ s₃ k₃ r₃ => ?_
        exact wpAny_bind (wpAny_holding (wpAny_truthy_bool (wpAny_pure ⟨rfl, k₃⟩)))
    · cases hev
  · cases hev

theorem evE_cmp2_bool {op op' : CmpOp} {a b c : X} {ρ : Rho} {rr : R1} (hev : evE Φ (.cmp2 op op' a b c) ρ = some rr) : ∃ bb, rr = (.fresh, .bool bb) := by
  simp only [Z1, Z2, Z3, Z4, Z5, Z6, Z7, Z8, Z9, Z10, Z11, Z12, Z13, Z14, Z15, Z16, Z17, Z18, Z19, Z20, Z21, Z22, Z23, Z24, Z25, Z26, Z27, Z28, Z29, Z30, Z31] at hev
  split at hev
  · split at hev
    · split at hev
      · obtain ⟨b₂, _, rfl⟩ := Option.map_eq_some_iff.mp hev; exact ⟨_, rfl⟩
      · cases hev
    · cases hev; exact ⟨_, rfl⟩
    · cases hev
  · cases hev

theorem snd_cmp2 {op op' : CmpOp} {a b c : X} (ha : SndE B Φ n a) (hb : SndE B Φ n b) (hc : SndE B Φ n c) : SndE B Φ n (.cmp2 op op' a b c) ∧ SndT B Φ n (.cmp2 op op' a b c) := by
  refine ⟨fun A env names W₀ W ρ s x r E hok cx hev => ?_, fun A env names W₀ W ρ s x b' E hok cx hev => ?_⟩
  · skip
    · (replace hok := iv_cmp2 hok); obtain ⟨l, p, q, r', t, pos, rfl, hok⟩ := hok
      simp only [Bool.and_eq_true, decide_eq_true_eq] at hok
      obtain ⟨⟨⟨⟨⟨⟨rfl, rfl⟩, _⟩, ht⟩, h1⟩, h2⟩, h3⟩ := hok
      obtain ⟨bb, hr⟩ := evE_cmp2_bool hev
      have := (cmp2_core ha hb hc h1 h2 h3 cx hev hr (E := E) (pos := pos)).1
      rw [arm_eval_Compare, marked2 ht]
      subst hr
      exact wpAny_mono this (fun v s' p => ⟨p.2, by rw [p.1]; exact RV.bool _⟩) fun _ _ e => e
  · skip
    · (replace hok := iv_cmp2 hok); obtain ⟨l, p, q, r', t, pos, rfl, hok⟩ := hok
      simp only [Bool.and_eq_true, decide_eq_true_eq] at hok
      obtain ⟨⟨⟨⟨⟨⟨rfl, rfl⟩, _⟩, ht⟩, h1⟩, h2⟩, h3⟩ := hok
      cases he : evE Φ (.cmp2 op op' a b c) ρ with
      | none => rw [he] at hev; cases hev
      | some rr =>
        obtain ⟨bb, hr⟩ := evE_cmp2_bool he
        rw [he, hr] at hev
        cases hev
        have := (cmp2_core ha hb hc h1 h2 h3 cx he hr (E := E) (pos := pos)).2
        rw [arm_isTrue_Compare, marked2 ht]
        exact this
end
end Mw

set_option maxRecDepth 10000
namespace Mw
open PySem

section
variable {B : Bs} {Φ : Fns} {n : Nat}

theorem btab_uniq {x : String} {g g' : Value} (h : (x, g) ∈ btab) (h' : (x, g') ∈ btab) : g' = g := by
  have key : ∀ p ∈ btab, btab.lookup p.1 = some p.2 := by decide
  have a := key _ h
  have b := key _ h'
  simp only at a b
  rw [a] at b; cases b; rfl
theorem sndL_nil : SndL B Φ n .nil := by
  intro A env names W₀ W ρ s ys xs pos E hok cx hev
  replace hok := List.isEmpty_iff.mp hok
  subst hok
  simp only [Z34, Z35] at hev
  cases hev
  exact wpAny_items_nil ⟨keeps_refl s, .nil⟩
theorem sndL_cons {a l : X} (ha : SndE B Φ n a) (hl : SndL B Φ n l) : SndL B Φ n (.cons a l) := by
  intro A env names W₀ W ρ s ys xs pos E hok cx hev
  · (replace hok := iv_cons hok); obtain ⟨y, r, rfl, hok⟩ := hok
    simp only [Bool.and_eq_true] at hok
    obtain ⟨⟨hs, hy⟩, hr⟩ := hok
    simp only [Z34, Z35] at hev
    split at hev
    · rename_i x ex
      split at hev
      · rename_i xs' exs
        cases hev
        refine wpAny_items_cons (wpAny_mono (ha A env names W₀ W ρ s _ _ _ hy cx ex) (fun v s₁ p => ?_) fun _ _ e => e) (star_cons hs)
        refine wpAny_mono (hl A env names W₀ W ρ s₁ _ _ pos _ hr (cx.keeps p.1) exs) (fun vs s₂ p' => ⟨keeps_trans p.1 p'.1, .cons (p.2.keeps p'.1) ?_⟩) fun _ _ e => e
        exact ⟨p'.2.1, fun i v x hv hx => (p'.2.2 i v x hv hx).start (Keeps.heap p.1)⟩
      · cases hev
    · cases hev

theorem one_arg {a : X} (ha : SndE B Φ n a) {A : Around} {env : Env} {names : List Str} {W₀ W : Addr → Prop} {ρ : Rho} {s : Shared} {y : PySem.Expr} {r : R1} {pos : Pos} {E : Value → Shared → Prop} {Q : List Value → Shared → Prop}
    (hs : notStar y = true) (hy : okX names env.scope.names a y = true) (cx : Cx B n A env names W₀ W ρ s) (he : evE Φ a ρ = some r) (hQ : ∀ v s', Post s W₀ W r v s' → Q [v] s') :
    wpAny B.M A (spliced (backTo pos (starEach [y] env))) Q E s :=
  wpAny_items_cons (wpAny_mono (ha A env names W₀ W ρ s _ _ _ hy cx he) (fun v s₁ p => wpAny_items_nil (hQ v s₁ p)) fun _ _ e => e) (star_cons hs)
theorem two_args {a b : X} (ha : SndE B Φ n a) (hb : SndE B Φ n b) {A : Around} {env : Env} {names : List Str} {W₀ W : Addr → Prop} {ρ : Rho} {s : Shared} {y z : PySem.Expr} {r t : R1} {pos : Pos} {E : Value → Shared → Prop} {Q : List Value → Shared → Prop}
    (hs : notStar y = true) (hs' : notStar z = true) (hy : okX names env.scope.names a y = true) (hz : okX names env.scope.names b z = true) (cx : Cx B n A env names W₀ W ρ s) (he : evE Φ a ρ = some r) (he' : evE Φ b ρ = some t)
    (hQ : ∀ v v' s', Keeps s s' → RV s.heap s'.heap W₀ W v r.1 r.2 → RV s.heap s'.heap W₀ W v' t.1 t.2 → Q [v, v'] s') :
    wpAny B.M A (spliced (backTo pos (starEach [y, z] env))) Q E s :=
  wpAny_items_cons (wpAny_mono (ha A env names W₀ W ρ s _ _ _ hy cx he) (fun v s₁ p => wpAny_items_cons (wpAny_mono (hb A env names W₀ W ρ s₁ _ _ _ hz (cx.keeps p.1) he')
    (fun v' s₂ p' => wpAny_items_nil (hQ v v' s₂ (keeps_trans p.1 p'.1) (p.2.keeps p'.1) (p'.2.start (Keeps.heap p.1)))) fun _ _ e => e) (star_cons hs')) fun _ _ e => e) (star_cons hs)

theorem snd_isinst (hB : B.Ok) {t : Ty} {a : X} (ha : SndE B Φ n a) : SndE B Φ n (.isinst t a) := by
  intro A env names W₀ W ρ s x r E hok cx hev
  · (replace hok := iv_isinst hok); obtain ⟨id, p, y, ty, p', pos, rfl, hok⟩ := hok
    simp only [Bool.and_eq_true, beq_iff_eq] at hok
    obtain ⟨⟨⟨⟨⟨rfl, h1⟩, rfl⟩, h2⟩, hs⟩, hy⟩ := hok
    simp only [Z1, Z2, Z3, Z4, Z5, Z6, Z7, Z8, Z9, Z10, Z11, Z12, Z13, Z14, Z15, Z16, Z17, Z18, Z19, Z20, Z21, Z22, Z23, Z24, Z25, Z26, Z27, Z28, Z29, Z30, Z31] at hev
    split at hev
    · rename_i xa ea
      cases hev
      refine eval_call (load_built (v := .builtin "isinstance") hB cx h1 (by decide) (call_any (.inl ⟨_, rfl⟩) (by simp only [List.all_cons, hs, Bool.true_and]; rfl) ?_))
      refine wpAny_items_cons (wpAny_mono (ha A env names W₀ W ρ s _ _ _ hy cx ea) (fun v s₁ q => ?_) fun _ _ e => e) (star_cons hs)
      refine wpAny_items_cons ?_ (star_cons rfl)
      have htab : (t.name, Value.type t.name) ∈ btab := by cases t <;> decide
      refine load_built (v := .type t.name) hB (cx.keeps q.1) h2 htab (wpAny_items_nil ?_)
      have hd : ∀ kvs, xa.2 ≠ .dict kvs := by
        intro kvs e
        have r := q.2.dirty cx.le
        rw [e] at r; cases r
      exact wpAny_mono (isi_ok (h₁ := s.heap) cx.le hd q.2) (fun _ _ z => Post.trans q.1 z) fun _ _ e => e
    · cases hev

theorem snd_un (hB : B.Ok) {f : Fn1} {a : X} (ha : SndE B Φ n a) : SndE B Φ n (.un f a) := by
  intro A env names W₀ W ρ s x r E hok cx hev
  · (replace hok := iv_un hok); obtain ⟨id, p, y, pos, rfl, hok⟩ := hok
    simp only [Bool.and_eq_true, beq_iff_eq] at hok
    obtain ⟨⟨⟨rfl, h1⟩, hs⟩, hy⟩ := hok
    simp only [Z1, Z2, Z3, Z4, Z5, Z6, Z7, Z8, Z9, Z10, Z11, Z12, Z13, Z14, Z15, Z16, Z17, Z18, Z19, Z20, Z21, Z22, Z23, Z24, Z25, Z26, Z27, Z28, Z29, Z30, Z31] at hev
    split at hev
    · rename_i xa ea
      have hg : ∃ g, (f.name, g) ∈ btab := by
        have := (List.mem_map (f := Prod.fst) (l := btab) (b := f.name)).mp (by cases f <;> decide)
        obtain ⟨⟨x, g⟩, hm, e⟩ := this
        exact ⟨g, by simp only at e; subst e; exact hm⟩
      obtain ⟨g, hm⟩ := hg
      refine eval_call (load_built hB cx h1 hm (call_any (btab_kind hm) (by simp [hs]) (one_arg ha hs hy cx ea fun v s₁ q => ?_)))
      obtain ⟨g', hm', hw⟩ := un_ok (B := B) (A := A) (E := E) cx.room.handled cx.le (cx.keeps q.1).wok q.2 hev
      rw [btab_uniq hm hm'] at hw
      exact wpAny_mono hw (fun _ _ z => Post.trans q.1 z) fun _ _ e => e
    · cases hev

theorem snd_bi (hB : B.Ok) {f : Fn2} {a b : X} (ha : SndE B Φ n a) (hb : SndE B Φ n b) : SndE B Φ n (.bi f a b) := by
  intro A env names W₀ W ρ s x r E hok cx hev
  · (replace hok := iv_bi hok); obtain ⟨id, p, y, z, pos, rfl, hok⟩ := hok
    simp only [Bool.and_eq_true, beq_iff_eq] at hok
    obtain ⟨⟨⟨⟨⟨rfl, h1⟩, hs⟩, hs'⟩, hy⟩, hz⟩ := hok
    simp only [Z1, Z2, Z3, Z4, Z5, Z6, Z7, Z8, Z9, Z10, Z11, Z12, Z13, Z14, Z15, Z16, Z17, Z18, Z19, Z20, Z21, Z22, Z23, Z24, Z25, Z26, Z27, Z28, Z29, Z30, Z31] at hev
    split at hev
    · rename_i xa xb ea eb
      have hg : ∃ g, (f.name, g) ∈ btab := by
        have := (List.mem_map (f := Prod.fst) (l := btab) (b := f.name)).mp (by cases f <;> decide)
        obtain ⟨⟨x, g⟩, hm, e⟩ := this
        exact ⟨g, by simp only at e; subst e; exact hm⟩
      obtain ⟨g, hm⟩ := hg
      refine eval_call (load_built hB cx h1 hm (call_any (btab_kind hm) (by simp [hs, hs']) (two_args ha hb hs hs' hy hz cx ea eb fun v v' s₁ k q q' => ?_)))
      obtain ⟨g', hm', hw⟩ := bi_ok (B := B) (A := A) (E := E) cx.room.handled cx.le q q' hev
      rw [btab_uniq hm hm'] at hw
      exact wpAny_mono hw (fun _ _ z => Post.trans k z) fun _ _ e => e
    · cases hev

theorem itemClass {h₁ h : Heap} {W₀ W : Addr → Prop} {v : Value} {c : Cl} {x : PyData} (wok : ∀ a, W a → ∃ o, h.get? a = some o ∧ NoTup o) (q : (c.isDirty = false → Rep h W v x) ∧ Rep h W₀ v x) : RV h₁ h W₀ W v (c.item x) x := by
  unfold Cl.item
  split
  · rename_i ha; exact RV.atom (q.2.atom ha) ha
  · rename_i hna
    split
    · split
      · rename_i hp
        cases x with
        | tuple xs =>
          obtain ⟨a, vs, n, rfl, w₀, ho, rl⟩ := q.2.tuple_inv
          refine Rep.tuple (n := n) (fun hw => ?_) ho rl.1 fun i v x hv hx => (rl.2 i v x hv hx).atom (List.all_eq_true.mp hp x (List.mem_of_getElem? hx))
          obtain ⟨o, ho', hc⟩ := wok a hw
          rw [ho] at ho'; cases ho'; exact hc _ _ rfl rfl
        | list xs => cases hp
        | dict kvs => cases hp
        | _ => exact (hna rfl).elim
      · exact q.2
    · rename_i hd; exact q.1 (by simpa using hd)

theorem snd_idx {a i : X} (ha : SndE B Φ n a) (hi : SndE B Φ n i) : SndE B Φ n (.idx a i) := by
  intro A env names W₀ W ρ s x r E hok cx hev
  · (replace hok := iv_idx hok); obtain ⟨y, z, pos, rfl, hz, hok⟩ := hok
    simp only [Bool.and_eq_true] at hok
    simp only [Z1, Z2, Z3, Z4, Z5, Z6, Z7, Z8, Z9, Z10, Z11, Z12, Z13, Z14, Z15, Z16, Z17, Z18, Z19, Z20, Z21, Z22, Z23, Z24, Z25, Z26, Z27, Z28, Z29, Z30, Z31] at hev
    split at hev
    · rename_i xa xi ea ei
      refine PyProof.Rows.Subscript_ (wpAny_mono (ha A env names W₀ W ρ s _ _ _ hok.1 cx ea) (fun v s₁ p => ?_) fun _ _ e => e)
      refine wpAny_mono (hi A env names W₀ W ρ s₁ _ _ _ hok.2 (cx.keeps p.1) ei) (fun v' s₂ p' => ?_) fun _ _ e => e
      obtain ⟨c, d⟩ := xa
      have q := p.2.keeps p'.1
      have k := keeps_trans p.1 p'.1
      have wok := (cx.keeps k).wok
      obtain ⟨j, ej, hev⟩ := onI_inv hev
      have pj := p'.2
      rw [ej] at pj
      obtain ⟨t, rfl⟩ := pj.int_inv cx.le
      obtain ⟨xs, hxs, hev⟩ := Option.bind_eq_some_iff.mp hev
      obtain ⟨hj, hev⟩ := if_inv hev
      · · obtain ⟨x, hx, rfl⟩ := Option.map_eq_some_iff.mp hev
          cases d <;> simp only [Z91, Z92, Z93, Z94, Z95, Z96, Z97] at hxs <;> first | (cases hxs; done) | skip
          · cases hxs
            obtain ⟨a', vs, m, rfl, w₀, ho, rl⟩ := (q.dirty cx.le).list_inv
            obtain ⟨u, hu, ru⟩ := rl.get hx
            have hl : s₂.heap.IsList a' vs := ⟨_, ho, rfl, m, rfl⟩
            refine PyProof.Rows.tail_any hl.typeIs slot_list_getitem.lookup (wpAny_getItem_list (x := u) hl hj.1 (by omega) (by rw [← Array.getElem?_toList]; exact hu) ?_) (sub_plain fun _ _ _ _ e => hz _ _ _ _ e)
            refine ⟨k, itemClass wok ⟨fun hd => ?_, ru⟩⟩
            obtain ⟨a2, vs2, m2, e2, ho2, rl2⟩ := q.shellOf hd
            cases e2; rw [ho] at ho2; cases ho2
            exact rl2.2 _ _ _ hu hx
          · cases hxs
            obtain ⟨a', vs, m, rfl, w₀, ho, rl⟩ := (q.dirty cx.le).tuple_inv
            obtain ⟨u, hu, ru⟩ := rl.get hx
            have hl : PyProof.Rows.IsTup s₂.heap a' vs := ⟨_, ho, rfl, m, rfl⟩
            have hlt : j.toNat < vs.size := by have := (List.getElem?_eq_some_iff.mp hu).1; rwa [Array.length_toList] at this
            refine PyProof.Rows.tail_any (T := "tuple") ⟨_, ho, rfl⟩ PyProof.Rows.slot_tuple_getitem.lookup (PyProof.Rows.getItem_tuple (j := j.toNat) (x := u) hl (by omega) (by omega) ?_ (by rw [← Array.getElem?_toList]; exact hu) ?_)
              (sub_plain fun _ _ _ _ e => hz _ _ _ _ e)
            · unfold seqIndex?
              have h1 : ¬ j < 0 := by omega
              simp only [h1, if_false]
              rw [if_pos (by simp; omega)]
            · refine ⟨k, itemClass wok ⟨fun hd => ?_, ru⟩⟩
              obtain ⟨a2, vs2, m2, e2, ho2, rl2⟩ := q.tupOf hd
              cases e2; rw [ho] at ho2; cases ho2
              exact rl2.2 _ _ _ hu hx
    · cases hev
end
end Mw

set_option maxRecDepth 10000
namespace Mw
open PySem

section
variable {B : Bs} {Φ : Fns} {n : Nat}

theorem pick_upto (items : Array Value) (b : Nat) : slicePick items none (some (b : Int)) none = (items.toList.take b).toArray := by
  by_cases hb : b ≤ items.size
  · exact slicePick_upto items b hb
  · have e : sliceBounds none (some (b : Int)) none items.size = sliceBounds none (some (items.size : Int)) none items.size := by
      simp only [sliceBounds, Option.getD_none]
      have h1 : ¬ ((b : Int) < 0) := by omega
      have h2 : ¬ ((items.size : Int) < 0) := by omega
      simp only [h1, h2, if_false, show (1 : Int) > 0 by decide, if_true]
      congr 1
      congr 1
      rw [Int.min_eq_right (Int.ofNat_le.mpr (Nat.le_of_not_le hb)), Int.min_self]
    have e2 : slicePick items none (some (b : Int)) none = slicePick items none (some (items.size : Int)) none := by unfold slicePick; rw [e]
    rw [e2, slicePick_upto items items.size (Nat.le_refl _)]
    rw [List.take_of_length_le (by simp), List.take_of_length_le (by simp; omega)]

theorem slice_core {a : X} (ha : SndE B Φ n a) {A : Around} {env : Env} {names : List Str} {W₀ W : Addr → Prop} {ρ : Rho} {s : Shared} {y : PySem.Expr} {lo up : Option PySem.Expr} {p pos : Pos} {c : Cl} {xs ys : List PyData} {E : Value → Shared → Prop}
    (hy : okX names env.scope.names a y = true) (cx : Cx B n A env names W₀ W ρ s) (ea : evE Φ a ρ = some (c, .list xs)) (hc : c.isDirty = false) (hlen : xs.length ≤ maxLen)
    (hp : ∀ s₁, Cx B n A env names W₀ W ρ s₁ → wpAny B.M A (evalPart lo env) (fun vl s₂ => wpAny B.M A (evalPart up env) (fun vu s₃ => Keeps s₁ s₃ ∧ ∃ l u, IsPart vl l ∧ IsPart vu u ∧
      ∀ (vs : Array Value), vs.size = xs.length → ∃ ws : List Value, slicePick vs l u none = ws.toArray ∧ ∀ h W, RepL h W vs.toList xs → RepL h W ws ys) E s₂) E s₁) :
    wpAny B.M A (eval (.Subscript y (.Slice lo up none p) pos) env) (Post s W₀ W (.fresh, .list ys)) E s := by
  refine PyProof.Rows.Subscript_ (wpAny_mono (ha A env names W₀ W ρ s _ _ _ hy cx ea) (fun v s₁ q => ?_) fun _ _ e => e)
  refine wpAny_Slice (wpAny_mono (hp s₁ (cx.keeps q.1)) (fun vl s₂ h₂ => wpAny_mono h₂ (fun vu s₃ h₃ => ?_) fun _ _ e => e) fun _ _ e => e)
  rw [evalPart_none]
  refine wpAny_pure ?_
  obtain ⟨k, l, u, pl, pu, hpick⟩ := h₃
  obtain ⟨a', vs, m, rfl, ho, rl⟩ := (q.2.keeps k).shellOf hc
  have e1 := seq_size rl
  obtain ⟨ws, hws, hrep⟩ := hpick vs e1
  have hl : s₃.heap.IsList a' vs := ⟨_, ho, rfl, m, rfl⟩
  have k3 := keeps_trans q.1 k
  have cx₃ := cx.keeps k3
  refine PyProof.Rows.tail_any (ops := [.ref s₃.heap.objs.size, .ref a']) (T := "list") (hl.push _).typeIs slot_list_getitem.lookup
    (wpAny_getItem_list_slice (hl.push _) (Heap.IsSliceOf.new ..) pl pu .none (by simp) ?_ (by rw [e1]; exact Nat.le_trans hlen maxLen_le)) rfl
  rw [hws]
  have hn : s₃.heap.get? (s₃.heap.push { cls := .type "slice", data := .fields #[vl, vu, .none] }).objs.size = none := by
    rw [Heap.size_push]
    cases e : s₃.heap.get? (s₃.heap.objs.size + 1) with
    | none => rfl
    | some o => exact absurd (Heap.lt_size e) (Nat.not_lt.mpr (Nat.le_succ _))
  have hk : ∀ b o, s₃.heap.get? b = some o → ((s₃.heap.push { cls := .type "slice", data := .fields #[vl, vu, .none] }).push (lObj ws.toArray 0)).get? b = some o := fun b o e => Heap.get?_push_of_some _ (Heap.get?_push_of_some _ e)
  refine Post.trans k3 ⟨⟨_, s₃.toks, rfl, hk⟩, rv_new_list (n := 0) (wfresh cx₃.wok hn) hn (Heap.get?_push_size _ rfl) ?_⟩
  exact (hrep _ _ rl).mono fun a o hw ho => ⟨hw, hk a o ho⟩

theorem snd_upto {a i : X} (ha : SndE B Φ n a) (hi : SndE B Φ n i) : SndE B Φ n (.upto a i) := by
  intro A env names W₀ W ρ s x r E hok cx hev
  · (replace hok := iv_upto hok); obtain ⟨y, z, p, pos, rfl, hok⟩ := hok
    simp only [Bool.and_eq_true] at hok
    simp only [Z1, Z2, Z3, Z4, Z5, Z6, Z7, Z8, Z9, Z10, Z11, Z12, Z13, Z14, Z15, Z16, Z17, Z18, Z19, Z20, Z21, Z22, Z23, Z24, Z25, Z26, Z27, Z28, Z29, Z30, Z31] at hev
    split at hev
    · rename_i xa xi ea ei
      obtain ⟨c, d⟩ := xa
      obtain ⟨c', d'⟩ := xi
      obtain ⟨xs, rfl, hev⟩ := onL_inv hev
      obtain ⟨j, rfl, hev⟩ := onI_inv hev
      obtain ⟨hc, hev⟩ := ifn_inv hev
      · simp only [Bool.or_eq_true, decide_eq_true_eq, not_or, Bool.not_eq_true] at hc
        cases hev
        refine slice_core ha hok.1 cx ea hc.1.1.1 (by omega) fun s₁ cx₁ => ?_
        rw [evalPart_none, evalPart_some]
        refine wpAny_pure (wpAny_mono (hi A env names W₀ W ρ s₁ _ _ _ hok.2 cx₁ ei) (fun v s₂ q => ?_) fun _ _ e => e)
        obtain ⟨t, rfl⟩ := q.2.int_inv cx.le
        refine ⟨q.1, none, some j, .none, .int j t, fun vs _ => ⟨vs.toList.take j.toNat, ?_, fun h W r => r.take _⟩⟩
        have := pick_upto vs j.toNat
        rwa [Int.toNat_of_nonneg (by omega)] at this
    · cases hev
theorem snd_since {a i : X} (ha : SndE B Φ n a) (hi : SndE B Φ n i) : SndE B Φ n (.since a i) := by
  intro A env names W₀ W ρ s x r E hok cx hev
  · (replace hok := iv_since hok); obtain ⟨y, z, p, pos, rfl, hok⟩ := hok
    simp only [Bool.and_eq_true] at hok
    simp only [Z1, Z2, Z3, Z4, Z5, Z6, Z7, Z8, Z9, Z10, Z11, Z12, Z13, Z14, Z15, Z16, Z17, Z18, Z19, Z20, Z21, Z22, Z23, Z24, Z25, Z26, Z27, Z28, Z29, Z30, Z31] at hev
    split at hev
    · rename_i xa xi ea ei
      obtain ⟨c, d⟩ := xa
      obtain ⟨c', d'⟩ := xi
      obtain ⟨xs, rfl, hev⟩ := onL_inv hev
      obtain ⟨j, rfl, hev⟩ := onI_inv hev
      obtain ⟨hc, hev⟩ := ifn_inv hev
      · simp only [Bool.or_eq_true, decide_eq_true_eq, not_or, Bool.not_eq_true] at hc
        cases hev
        refine slice_core ha hok.1 cx ea hc.1.1.1 (by omega) fun s₁ cx₁ => ?_
        rw [evalPart_none, evalPart_some]
        refine wpAny_mono (hi A env names W₀ W ρ s₁ _ _ _ hok.2 cx₁ ei) (fun v s₂ q => wpAny_pure ?_) fun _ _ e => e
        obtain ⟨t, rfl⟩ := q.2.int_inv cx.le
        refine ⟨q.1, some j, none, .int j t, .none, fun vs hv => ⟨vs.toList.drop j.toNat, ?_, fun h W r => r.drop _⟩⟩
        have := slicePick_from vs j.toNat (by omega)
        rwa [Int.toNat_of_nonneg (by omega)] at this
    · cases hev

theorem snd_tup {l : X} (hl : SndL B Φ n l) : SndE B Φ n (.tup l) := by
  intro A env names W₀ W ρ s x r E hok cx hev
  · (replace hok := iv_tup hok); obtain ⟨ys, k, pos, rfl, hok⟩ := hok
    simp only [Z1, Z2, Z3, Z4, Z5, Z6, Z7, Z8, Z9, Z10, Z11, Z12, Z13, Z14, Z15, Z16, Z17, Z18, Z19, Z20, Z21, Z22, Z23, Z24, Z25, Z26, Z27, Z28, Z29, Z30, Z31] at hev
    split at hev
    · rename_i xs ex
      simp only [tupSem] at hev
      split at hev
      · rename_i hlen
        cases hev
        refine wpAny_Tuple (wpAny_mono (hl A env names W₀ W ρ s _ _ pos _ hok cx ex) (fun vs s₁ q => ⟨by rw [q.2.1]; exact Nat.le_trans hlen maxLen_le, ?_⟩) fun _ _ e => e)
        have cx₁ := cx.keeps q.1
        have kp := keeps_push s₁ (tObj vs.toArray 0)
        refine Post.trans q.1 ⟨kp, ?_⟩
        have hw := wfresh cx₁.wok (none_of_size (h := s₁.heap))
        split
        · rename_i hc
          have rl := RepL.keeps kp (q.2.clean hc)
          exact Rep.tuple (n := 0) hw (Heap.get?_push_size _ rfl) rl.1 (by simpa using rl.2)
        · have rl := RepL.keeps kp (q.2.dirty cx.le)
          exact Rep.tuple (n := 0) (fun x => hw (cx.le _ x)) (Heap.get?_push_size _ rfl) rl.1 (by simpa using rl.2)
      · cases hev
    · cases hev
theorem snd_lst {l : X} (hl : SndL B Φ n l) : SndE B Φ n (.lst l) := by
  intro A env names W₀ W ρ s x r E hok cx hev
  · (replace hok := iv_lst hok); obtain ⟨ys, pos, rfl, hok⟩ := hok
    simp only [Z1, Z2, Z3, Z4, Z5, Z6, Z7, Z8, Z9, Z10, Z11, Z12, Z13, Z14, Z15, Z16, Z17, Z18, Z19, Z20, Z21, Z22, Z23, Z24, Z25, Z26, Z27, Z28, Z29, Z30, Z31] at hev
    split at hev
    · rename_i xs ex
      simp only [lstSem] at hev
      split at hev
      · rename_i hlen
        simp only [Bool.and_eq_true, decide_eq_true_eq] at hlen
        cases hev
        refine wpAny_List (wpAny_mono (hl A env names W₀ W ρ s _ _ pos _ hok cx ex) (fun vs s₁ q => ⟨by rw [q.2.1]; exact Nat.le_trans hlen.1 maxLen_le, ?_⟩) fun _ _ e => e)
        have cx₁ := cx.keeps q.1
        have kp := keeps_push s₁ (lObj vs.toArray 0)
        exact Post.trans q.1 ⟨kp, rv_new_list (n := 0) (wfresh cx₁.wok none_of_size) none_of_size (Heap.get?_push_size _ rfl) (RepL.keeps kp (q.2.clean hlen.2))⟩
      · cases hev
    · cases hev

theorem callF_ok {f : Str} {xs : List R1} {r : R1} {A : Around} {W₀ W : Addr → Prop} {s₀ s : Shared} {vs : List Value} {E : Value → Shared → Prop} (hΦ : FnsOk B Φ n) (rm : Room n A) (base : ∀ b o, B.H.get? b = some o → s.heap.get? b = some o)
    (le : ∀ a, W₀ a → W a) (wok : ∀ a, W a → ∃ o, s.heap.get? a = some o ∧ NoTup o) (q : RVL s₀.heap s.heap W₀ W vs xs) (h : callSem Φ f xs = some r) :
    ∃ fa o fd, B.mg f = some (.ref fa) ∧ s.heap.get? fa = some o ∧ o.data = .func fd ∧ wpAny B.M A (call (.ref fa) vs) (Post s W₀ W r) E s := by
  unfold callSem at h
  split at h
  · rename_i fr d hf
    cases h
    obtain ⟨fa, o, fd, h1, h2, h3, H⟩ := hΦ.1 f ⟨_, _, hf⟩
    refine ⟨fa, o, fd, h1, base _ _ h2, h3, wpAny_call ?_⟩
    by_cases hc : xs.all (·.1.isClean) = true
    · refine codeAny_mono (H _ fr d hf A s W vs rm base wok (q.clean hc)) fun r s' hr => ?_
      obtain ⟨v, rfl, k, rep, hfr⟩ := hr
      refine ⟨k, ?_⟩
      dsimp only
      split
      · rename_i ha; exact RV.atom rep ha
      · first | rw [if_pos hc] | skip
        split
        · rename_i hf'; exact ⟨rep, hfr hf'⟩
        · exact rep
    · refine codeAny_mono (H _ fr d hf A s W₀ vs rm base (fun a ha => wok a (le a ha)) (q.dirty le)) fun r s' hr => ?_
      obtain ⟨v, rfl, k, rep, hfr⟩ := hr
      refine ⟨k, ?_⟩
      dsimp only
      split
      · rename_i ha; exact RV.atom (rep.atom ha) ha
      · first | rw [if_neg hc] | skip
        exact rep
  · cases h

theorem snd_call (hB : B.Ok) (hΦ : FnsOk B Φ n) {f : Str} {l : X} (hl : SndL B Φ n l) : SndE B Φ n (.call f l) := by
  intro A env names W₀ W ρ s x r E hok cx hev
  · (replace hok := iv_call hok); obtain ⟨id, p, y, ys, pos, rfl, hok⟩ := hok
    simp only [Bool.and_eq_true, beq_iff_eq] at hok
    obtain ⟨⟨rfl, h1⟩, hys⟩ := hok
    simp only [Z1, Z2, Z3, Z4, Z5, Z6, Z7, Z8, Z9, Z10, Z11, Z12, Z13, Z14, Z15, Z16, Z17, Z18, Z19, Z20, Z21, Z22, Z23, Z24, Z25, Z26, Z27, Z28, Z29, Z30, Z31] at hev
    split at hev
    · rename_i xs ex
      have hstar := okL_star hys
      have hy : notStar y = true := by simp only [List.all_cons, Bool.and_eq_true] at hstar; exact hstar.1
      have hfn : ∃ fa, B.mg id = some (.ref fa) := by
        simp only [callSem] at hev
        split at hev
        · rename_i fr d hf
          obtain ⟨fa, _, _, h1, _⟩ := hΦ.1 id ⟨_, _, hf⟩
          exact ⟨fa, h1⟩
        · cases hev
      obtain ⟨fa, hfa⟩ := hfn
      have hfd : ∃ o fd, B.H.get? fa = some o ∧ o.data = .func fd := by
        simp only [callSem] at hev
        split at hev
        · rename_i fr d hf
          obtain ⟨fa', o, fd, h1, h2, h3, _⟩ := hΦ.1 id ⟨_, _, hf⟩
          rw [hfa] at h1; cases h1
          exact ⟨o, fd, h2, h3⟩
        · cases hev
      obtain ⟨o, fd, ho, hd⟩ := hfd
      refine eval_call (load_glob hB cx h1 hfa (Calls.callWith_function (o := o) (fd := fd) (args_ok hy (wpAny_mono (hl A env names W₀ W ρ s _ _ pos _ hys cx ex) (fun vs s₁ q => ?_) fun _ _ e => e))))
      have cx₁ := cx.keeps q.1
      obtain ⟨fa', o', fd', e1, e2, e3, hw⟩ := callF_ok (B := B) (E := E) hΦ cx.room cx₁.base cx.le cx₁.wok q.2 hev
      rw [hfa] at e1; cases e1
      exact ⟨⟨cx₁.base _ _ ho, hd⟩, wpAny_mono hw (fun _ _ z => Post.trans q.1 z) fun _ _ e => e⟩
    · cases hev

theorem range_size {a b : Int} : Builtin.Range.rangeSize a b 1 = ((b - a).toNat : Int) := by
  rw [rangeSize_one]; split <;> omega

theorem snd_listRange (hB : B.Ok) {a : X} (ha : SndE B Φ n a) : SndE B Φ n (.listRange a) := by
  intro A env names W₀ W ρ s x r E hok cx hev
  · (replace hok := iv_listRange hok); obtain ⟨id, p, id', p', y, pos', pos, rfl, hok⟩ := hok
    simp only [Bool.and_eq_true, beq_iff_eq] at hok
    obtain ⟨⟨⟨⟨⟨rfl, h1⟩, rfl⟩, h2⟩, hs⟩, hy⟩ := hok
    simp only [Z1, Z2, Z3, Z4, Z5, Z6, Z7, Z8, Z9, Z10, Z11, Z12, Z13, Z14, Z15, Z16, Z17, Z18, Z19, Z20, Z21, Z22, Z23, Z24, Z25, Z26, Z27, Z28, Z29, Z30, Z31] at hev
    split at hev
    · rename_i c k ea
      split at hev
      · rename_i hk
        cases hev
        refine eval_call (load_built (v := .type "list") hB cx h1 (by decide) (call_any (.inr ⟨_, rfl⟩) rfl ?_))
        refine wpAny_items_cons ?_ (star_cons rfl)
        refine eval_call (load_built (v := .type "range") hB cx h2 (by decide) (call_any (.inr ⟨_, rfl⟩) (by simp [hs]) (one_arg ha hs hy cx ea fun v s₁ q => ?_)))
        obtain ⟨t, rfl⟩ := q.2.int_inv cx.le
        refine call_range_1 (wpAny_items_nil ?_)
        have cx₁ := cx.keeps q.1
        generalize hs2 : ({ s₁ with heap := s₁.heap.push { cls := .type "range", data := .fields #[.int 0 s₁.toks, .int k t, .int 1 (s₁.toks + 1)] }, toks := s₁.toks + 1 + 1 } : Shared) = s₂
        have k2 : Keeps s₁ s₂ := by subst hs2; exact ⟨_, _, rfl, fun _ _ e => Heap.get?_push_of_some _ e⟩
        have hr : IsRange s₂.heap s₁.heap.objs.size 0 k 1 s₁.toks t (s₁.toks + 1) := by subst hs2; exact IsRange.new ..
        have cx₂ := cx₁.keeps k2
        have hsz := range_size (a := 0) (b := k)
        refine call_list_range (n := (k - 0).toNat) cx.room.handled hr (small_one (by decide) (by decide) (by omega) (by omega)) hsz (by omega) fun h' tk acc c' hkp he hit => ?_
        refine Post.trans (keeps_trans q.1 k2) ⟨keeps_of hkp, ?_⟩
        refine rv_new_list (n := c') (vs := acc.toList) (wfresh cx₂.wok none_of_size) none_of_size (by rw [he]) ?_
        refine ⟨by rw [Array.length_toList, hit.1]; simp [rangeL], fun i v x hv hx => ?_⟩
        rw [Array.getElem?_toList] at hv
        obtain ⟨u, rfl⟩ := hit.2 i v hv
        simp only [rangeL, List.getElem?_map, Option.map_eq_some_iff] at hx
        obtain ⟨j, hj, rfl⟩ := hx
        have hji : j = i := by
          have := List.getElem?_eq_some_iff.mp hj
          obtain ⟨_, e⟩ := this
          simpa using e.symm
        subst hji
        rw [Int.mul_one]
        exact .int _ _
      · cases hev
    · cases hev
end
end Mw

set_option maxRecDepth 10000
namespace Mw
open PySem

theorem len_sub {α : Type} [DecidableEq α] : ∀ {l l' : List α}, l.Nodup → (∀ x ∈ l, x ∈ l') → l.length ≤ l'.length
  | [], _, _, _ => Nat.zero_le _
  | a :: l, l', nd, h => by
    have ha := h a (by simp)
    have := len_sub (l := l) (l' := l'.erase a) (List.nodup_cons.mp nd).2 (fun x hx => by
      refine (List.mem_erase_of_ne ?_).mpr (h x (by simp [hx]))
      rintro rfl; exact (List.nodup_cons.mp nd).1 hx)
    rw [List.length_erase_of_mem ha] at this
    have : 0 < l'.length := List.length_pos_of_mem ha
    simp only [List.length_cons]; omega

abbrev Rise (l : List Nat) : Prop := l.Pairwise (· < ·)
theorem rise_iff : ∀ {l : List Nat}, Rise l → ∀ (i x j : Nat), l[i]? = some x → (x < j ↔ i < l.countP (· < j))
  | [], _, i, x, j, h => by simp at h
  | a :: l, hr, i, x, j, h => by
    obtain ⟨h1, h2⟩ := List.pairwise_cons.mp hr
    rw [List.countP_cons]
    by_cases ha : a < j
    · simp only [ha, decide_true, if_true]
      cases i with
      | zero => simp at h; subst h; simp [ha]
      | succ i => rw [List.getElem?_cons_succ] at h; rw [rise_iff h2 i x j h]; omega
    · have h0 : l.countP (fun y => decide (y < j)) = 0 := List.countP_eq_zero.mpr fun y hy => by have := h1 y hy; simp; omega
      simp only [ha, decide_false, h0]
      have : a ≤ x := by
        cases i with
        | zero => simp at h; omega
        | succ i => rw [List.getElem?_cons_succ] at h; exact Nat.le_of_lt (h1 x (List.mem_of_getElem? h))
      simp; omega
theorem below_go {l : List Nat} (hr : Rise l) (j : Nat) : ∀ (f lo hi : Nat), hi - lo ≤ f → lo ≤ l.countP (· < j) → l.countP (· < j) ≤ hi → hi ≤ l.length → SetTable.below.go l.toArray j f lo hi = l.countP (· < j)
  | 0, lo, hi, h1, h2, h3, h4 => by unfold SetTable.below.go; omega
  | f + 1, lo, hi, h1, h2, h3, h4 => by
    unfold SetTable.below.go
    by_cases hl : lo < hi
    · rw [if_pos hl]
      have hm : (lo + hi) / 2 < l.length := by omega
      obtain ⟨x, hx⟩ : ∃ x, l[(lo + hi) / 2]? = some x := ⟨_, List.getElem?_eq_getElem hm⟩
      have hg : l.toArray.getD ((lo + hi) / 2) j = x := by
        rw [Array.getD_eq_getD_getElem?, List.getElem?_toArray, hx]; rfl
      have := rise_iff hr _ x j hx
      simp only [hg]
      split
      · exact below_go hr j f _ _ (by omega) (by omega) h3 h4
      · exact below_go hr j f _ _ (by omega) h2 (by omega) (by omega)
    · rw [if_neg hl]; omega
theorem below_eq {l : List Nat} (hr : Rise l) (j : Nat) : SetTable.below l.toArray j = l.countP (· < j) := by
  unfold SetTable.below
  exact below_go hr j _ _ _ (by simp) (Nat.zero_le _) (by simp only [List.size_toArray]; exact List.countP_le_length) (by simp)
theorem below_zero {l : List Nat} (hr : Rise l) : SetTable.below l.toArray 0 = 0 := by rw [below_eq hr]; exact List.countP_eq_zero.mpr (by simp)
theorem below_next {l : List Nat} (hr : Rise l) {i x : Nat} (h : l[i]? = some x) : SetTable.below l.toArray (x + 1) = i + 1 := by
  rw [below_eq hr]
  have h1 := (rise_iff hr i x (x + 1) h).mp (by omega)
  have h2 : ¬ (i + 1 < l.countP (· < x + 1)) := fun q => by
    have hlt : i + 1 < l.length := Nat.lt_of_lt_of_le q List.countP_le_length
    have := (rise_iff hr (i + 1) l[i + 1] (x + 1) (List.getElem?_eq_getElem hlt)).mpr q
    obtain ⟨hi, e⟩ := List.getElem?_eq_some_iff.mp h
    have := List.pairwise_iff_getElem.mp hr i (i + 1) hi hlt (by omega)
    omega
  omega
theorem insertAt_toList {α : Type} (l : List α) (p : Nat) (x : α) : (SetTable.insertAt l.toArray p x).toList = l.take p ++ x :: l.drop p := by
  simp [SetTable.insertAt]
  exact List.take_of_length_le (by simp)
theorem put_rise {l : List Nat} (hr : Rise l) {j : Nat} (hj : j ∉ l) : Rise (l.take (l.countP (· < j)) ++ j :: l.drop (l.countP (· < j))) := by
  have lo : ∀ x ∈ l.take (l.countP (· < j)), x < j := fun x hx => by
    obtain ⟨i, hi⟩ := List.getElem?_of_mem hx
    rw [List.getElem?_take] at hi
    split at hi
    · rename_i h; exact (rise_iff hr i x j hi).mpr h
    · cases hi
  have hi : ∀ x ∈ l.drop (l.countP (· < j)), j < x := fun x hx => by
    obtain ⟨i, hi⟩ := List.getElem?_of_mem hx
    rw [List.getElem?_drop] at hi
    have := (rise_iff hr _ x j hi)
    have hne : x ≠ j := fun e => hj (e ▸ List.mem_of_getElem? hi)
    omega
  refine List.pairwise_append.mpr ⟨hr.sublist (List.take_sublist _ _), List.pairwise_cons.mpr ⟨hi, hr.sublist (List.drop_sublist _ _)⟩, fun a ha b hb => ?_⟩
  rcases List.mem_cons.mp hb with rfl | hb
  · exact lo a ha
  · exact Nat.lt_trans (lo a ha) (hi b hb)
theorem slot_empty {t : SetTable} {l : List Nat} (ht : t.place = l.toArray) (hd : t.dummies = #[]) (hr : Rise l) {j : Nat} (hj : j ∉ l) : t.slot j = .empty := by
  unfold SetTable.slot
  rw [ht]
  have h1 : (l.toArray[SetTable.below l.toArray j]? == some j) = false := by
    rw [List.getElem?_toArray]
    cases e : l[SetTable.below l.toArray j]? with
    | none => rfl
    | some x => simp; rintro rfl; exact hj (List.mem_of_getElem? e)
  show (if (l.toArray[SetTable.below l.toArray j]? == some j) = true then SetTable.Slot.live (SetTable.below l.toArray j) else if SetTable.has t.dummies j = true then .dummy else .empty) = .empty
  rw [h1, hd]; rfl
theorem slot_live {t : SetTable} {l : List Nat} (ht : t.place = l.toArray) (hr : Rise l) {j : Nat} (hj : j ∈ l) : ∃ i, t.slot j = .live i := by
  unfold SetTable.slot
  rw [ht]
  obtain ⟨i, hi⟩ := List.getElem?_of_mem hj
  have : SetTable.below l.toArray j = i := by
    rw [below_eq hr]
    have h1 := rise_iff hr i j j hi
    have h2 := (rise_iff hr i j (j + 1) hi).mp (by omega)
    have h3 := below_next hr hi
    rw [below_eq hr] at h3
    have h4 : ∀ k, k < i → k < l.countP (· < j) := fun k hk => by
      obtain ⟨hi', e⟩ := List.getElem?_eq_some_iff.mp hi
      refine (rise_iff hr k l[k] j (List.getElem?_eq_getElem (by omega))).mp ?_
      have := List.pairwise_iff_getElem.mp hr k i (by omega) hi' hk
      omega
    rcases Nat.lt_or_ge (l.countP (· < j)) i with q | q
    · exact absurd (h4 _ q) (Nat.lt_irrefl _)
    · omega
  refine ⟨i, ?_⟩
  show (if (l.toArray[SetTable.below l.toArray j]? == some j) = true then SetTable.Slot.live (SetTable.below l.toArray j) else if SetTable.has t.dummies j = true then .dummy else .empty) = .live i
  rw [this, List.getElem?_toArray, hi]; simp

theorem go_empty {t : SetTable} {l : List Nat} (ht : t.place = l.toArray) (hd : t.dummies = #[]) (hr : Rise l) {h : Int} {p : SetTable.Probe} {f : Nat} (hj : p.j ∉ l) (hp : p.dummy = none) :
    SetTable.probe.go t (fun _ => h + 1) h (f + 1) p = some (.empty p.j none) := by
  unfold SetTable.probe.go
  rw [slot_empty ht hd hr hj, hp]
theorem go_live {t : SetTable} {l : List Nat} (ht : t.place = l.toArray) (hr : Rise l) {h : Int} {p : SetTable.Probe} {f : Nat} (hj : p.j ∈ l) :
    SetTable.probe.go t (fun _ => h + 1) h (f + 1) p = SetTable.probe.go t (fun _ => h + 1) h f (t.advance p) := by
  obtain ⟨i, e⟩ := slot_live ht hr hj
  rw [SetTable.probe.go, e]
  have : (h + 1 == h) = false := by simp; omega
  simp only [this]
  rfl
theorem free_of {t : SetTable} {h : Int} {j : Nat} (e : t.probe (fun _ => h + 1) h (t.probeStart h) = some (.empty j none)) : t.freeSlot h = some (j, false) := by
  unfold SetTable.freeSlot; rw [e]; rfl
theorem bits_small {v : Nat} (h : v < 9) : SetTable.bits (v : Int) = v := by
  unfold SetTable.bits; omega
theorem freeB {t : SetTable} {l : List Nat} (hm : t.mask = 31) (ht : t.place = l.toArray) (hd : t.dummies = #[]) (hr : Rise l) {v : Nat} (hv : v < 9) (hj : v ∉ l) : t.freeSlot (v : Int) = some (v, false) := by
  refine free_of ?_
  have e : (t.probeStart (v : Int)).j = v := by
    show SetTable.bits (v : Int) % (t.mask + 1) = v
    rw [bits_small hv, hm]; omega
  unfold SetTable.probe
  have hf : 10 * SetTable.turns t.mask = 459 + 1 := by rw [hm]; rfl
  rw [hf, go_empty ht hd hr (by rw [e]; exact hj) rfl, e]
noncomputable def orb : Nat → Nat → Nat
  | 0, i => i
  | k + 1, i => orb k ((5 * i + 1) % 8)
theorem orb_all : ∀ i < 8, ∀ j < 8, ∃ k < 8, orb k i = j := by decide
theorem adv_small {t : SetTable} (hm : t.mask = 7) {i q : Nat} (hi : i < 8) (hq : q < 32) : t.advance ⟨i, 0, i, q, none⟩ = ⟨(5 * i + 1) % 8, 0, (5 * i + 1) % 8, 0, none⟩ := by
  have h1 : SetTable.leap t.mask i q = ((5 * i + 1) % 8, 0) := by
    unfold SetTable.leap; rw [hm]
    have : q / 32 = 0 := by omega
    rw [this]; simp [Nat.mul_comm]
  have h2 : SetTable.runEnd 7 ((5 * i + 1) % 8) = (5 * i + 1) % 8 := by unfold SetTable.runEnd; rw [if_neg (by omega)]
  show (if 0 > 0 then _ else _) = _
  rw [if_neg (by omega)]
  rw [hm] at h1
  simp only [hm, h1, h2, Nat.sub_self]
theorem goA {t : SetTable} {l : List Nat} (hm : t.mask = 7) (ht : t.place = l.toArray) (hd : t.dummies = #[]) (hr : Rise l) {h : Int} : ∀ (k f i q : Nat), i < 8 → q < 32 → (∀ x ∈ l, x < 8) → orb k i ∉ l →
    ∃ j, j < 8 ∧ j ∉ l ∧ SetTable.probe.go t (fun _ => h + 1) h (f + k + 1) ⟨i, 0, i, q, none⟩ = some (.empty j none)
  | 0, f, i, q, hi, hq, hl, ho => ⟨i, hi, ho, go_empty ht hd hr ho rfl⟩
  | k + 1, f, i, q, hi, hq, hl, ho => by
    by_cases hj : i ∈ l
    · obtain ⟨j, h1, h2, h3⟩ := goA hm ht hd hr k f ((5 * i + 1) % 8) 0 (by omega) (by omega) hl ho
      refine ⟨j, h1, h2, ?_⟩
      rw [show f + (k + 1) + 1 = (f + k + 1) + 1 by omega, go_live ht hr hj, adv_small hm hi hq, h3]
    · exact ⟨i, hi, hj, go_empty ht hd hr hj rfl⟩
theorem freeA {t : SetTable} {l : List Nat} (hm : t.mask = 7) (ht : t.place = l.toArray) (hd : t.dummies = #[]) (hr : Rise l) (hl : ∀ x ∈ l, x < 8) (h4 : l.length ≤ 7) {v : Nat} (hv : v < 9) :
    ∃ j, j < 8 ∧ j ∉ l ∧ t.freeSlot (v : Int) = some (j, false) := by
  have hi : v % 8 < 8 := Nat.mod_lt _ (by omega)
  obtain ⟨k, hk, hko⟩ : ∃ k, k < 8 ∧ orb k (v % 8) ∉ l := by
    refine Classical.byContradiction fun hn => ?_
    have hall : ∀ k, k < 8 → orb k (v % 8) ∈ l := fun k hk => Classical.byContradiction fun q => hn ⟨k, hk, q⟩
    have := len_sub (l := List.range 8) (l' := l) List.nodup_range fun x hx => by
      obtain ⟨k, hk, e⟩ := orb_all (v % 8) hi x (List.mem_range.mp hx)
      exact e ▸ hall k hk
    simp at this; omega
  have hs : t.probeStart (v : Int) = ⟨v % 8, 0, v % 8, v, none⟩ := by
    have h2 : SetTable.runEnd 7 (v % 8) = v % 8 := by unfold SetTable.runEnd; rw [if_neg (by omega)]
    unfold SetTable.probeStart
    rw [bits_small hv, hm]
    show (⟨v % 8, SetTable.runEnd 7 (v % 8) - v % 8, v % 8, v, none⟩ : SetTable.Probe) = _
    rw [h2, Nat.sub_self]
  obtain ⟨j, h1, h2, h3⟩ := goA hm ht hd hr (h := (v : Int)) k (219 - k) (v % 8) v hi (by omega) hl hko
  refine ⟨j, h1, h2, free_of ?_⟩
  unfold SetTable.probe
  have hf : 10 * SetTable.turns t.mask = (219 - k) + k + 1 := by rw [hm]; show 220 = _; omega
  rw [hs, hf, h3]
end Mw

set_option maxRecDepth 10000
namespace Mw
open PySem

theorem free_own {owner : Array (Option Nat)} {v f : Nat} (hv : v < 9) (ho : owner[v]? = some none) : SetTable.layClean.free 31 owner (f + 1) v v = some v := by
  unfold SetTable.layClean.free
  have h1 : SetTable.runEnd 31 v + 1 - v = 9 + 1 := by unfold SetTable.runEnd; rw [if_pos (by omega)]; omega
  have h2 : (List.range (9 + 1)).find? (fun k => (owner.getD (v + k) (some 0)).isNone) = some 0 := by
    rw [List.range_succ_eq_map, List.find?_cons]
    have : owner.getD (v + 0) (some 0) = none := by rw [Nat.add_zero, Array.getD_eq_getD_getElem?, ho]; rfl
    rw [this]; rfl
  rw [h1, h2]; rfl
noncomputable def layStep (acc : Option (Array (Option Nat) × Nat)) (h : Int) : Option (Array (Option Nat) × Nat) := do
  let (owner, k) ← acc
  let j ← SetTable.layClean.free 31 owner (SetTable.turns 31) (SetTable.bits h % (31 + 1)) (SetTable.bits h)
  pure (owner.setIfInBounds j (some k), k + 1)
theorem lay_fold : ∀ (ns : List Nat) (owner : Array (Option Nat)) (k : Nat), owner.size = 32 → (∀ v ∈ ns, v < 9 ∧ owner[v]? = some none) → ns.Nodup →
    ∃ owner', (ns.map fun n : Nat => (n : Int)).foldl layStep (some (owner, k)) = some (owner', k + ns.length) ∧ ∀ j, owner'.getD j none = if j ∈ ns then some (k + ns.idxOf j) else owner.getD j none
  | [], owner, k, hs, h, nd => ⟨owner, rfl, fun j => by simp⟩
  | v :: ns, owner, k, hs, h, nd => by
    obtain ⟨hv, ho⟩ := h v (by simp)
    obtain ⟨n1, n2⟩ := List.nodup_cons.mp nd
    have hb : SetTable.bits (v : Int) = v := bits_small hv
    have e : layStep (some (owner, k)) (v : Int) = some (owner.setIfInBounds v (some k), k + 1) := by
      show (SetTable.layClean.free 31 owner 46 (SetTable.bits (v : Int) % 32) (SetTable.bits (v : Int))).bind _ = _
      rw [hb, Nat.mod_eq_of_lt (by omega), free_own hv ho]; rfl
    obtain ⟨o', h1, h2⟩ := lay_fold ns (owner.setIfInBounds v (some k)) (k + 1) (by simpa using hs) (fun x hx => by
      have := h x (by simp [hx])
      refine ⟨this.1, ?_⟩
      rw [Array.getElem?_setIfInBounds_ne (by rintro rfl; exact n1 hx)]
      exact this.2) n2
    refine ⟨o', ?_, fun j => ?_⟩
    · rw [List.map_cons, List.foldl_cons, e, h1, List.length_cons]; congr 2; omega
    · rw [h2 j]
      by_cases q : j = v
      · subst q
        rw [if_neg n1, if_pos (by simp), List.idxOf_cons_self, Array.getD_eq_getD_getElem?, Array.getElem?_setIfInBounds_self_of_lt (by omega)]; rfl
      · have : (j ∈ v :: ns) ↔ j ∈ ns := by simp [q]
        simp only [this]
        split
        · rw [List.idxOf_cons, beq_eq_false_iff_ne.mpr (Ne.symm q)]; simp only [cond_false]; congr 1; omega
        · rw [Array.getD_eq_getD_getElem?, Array.getElem?_setIfInBounds_ne (Ne.symm q), ← Array.getD_eq_getD_getElem?]
noncomputable def sortedN (ns : List Nat) : List Nat := (List.range 32).filter (· ∈ ns)
theorem sortedN_rise (ns : List Nat) : Rise (sortedN ns) := List.Pairwise.sublist List.filter_sublist List.pairwise_lt_range
theorem sortedN_mem {ns : List Nat} (h : ∀ v ∈ ns, v < 9) {j : Nat} : j ∈ sortedN ns ↔ j ∈ ns := by
  simp only [sortedN, List.mem_filter, List.mem_range, decide_eq_true_eq]
  exact ⟨fun q => q.2, fun q => ⟨by have := h j q; omega, q⟩⟩
theorem sortedN_perm {ns : List Nat} (nd : ns.Nodup) (h : ∀ v ∈ ns, v < 9) : (sortedN ns).Perm ns :=
  (List.perm_ext_iff_of_nodup (List.nodup_range.sublist List.filter_sublist) nd).mpr fun _ => sortedN_mem h
theorem idx_range {ns : List Nat} (nd : ns.Nodup) : ns.map (fun j => ns.idxOf j) = List.range ns.length := by
  refine List.ext_getElem (by simp) fun i h1 h2 => ?_
  simp only [List.getElem_map, List.getElem_range]
  have hi : i < ns.length := by simpa using h1
  exact List.Nodup.idxOf_getElem nd i hi
theorem laid_small {ns : List Nat} (nd : ns.Nodup) (h : ∀ v ∈ ns, v < 9) (finger moves : Nat) (led plain : Bool) :
    SetTable.laid 31 finger moves led plain (ns.map fun n : Nat => (n : Int)).toArray = some ({ mask := 31, place := (sortedN ns).toArray, dummies := #[], finger, led, moves, plain }, ((sortedN ns).map fun j => ns.idxOf j).toArray) := by
  obtain ⟨o', h1, h2⟩ := lay_fold ns (Array.replicate 32 none) 0 (by simp) (fun v hv => ⟨h v hv, by
    have := h v hv
    rw [Array.getElem?_replicate, if_pos (by omega)]⟩) nd
  have hc : SetTable.layClean 31 (ns.map fun n : Nat => (n : Int)).toArray = some o' := by
    unfold SetTable.layClean
    rw [← Array.foldl_toList]
    show (List.foldl layStep (some (Array.replicate 32 none, 0)) (ns.map fun n : Nat => (n : Int))).map (·.1) = some o'
    rw [h1]; rfl
  have hl : ((List.range (31 + 1)).filterMap fun j => (o'.getD j none).map (j, ·)) = (sortedN ns).map fun j => (j, ns.idxOf j) := by
    have : ∀ l : List Nat, (l.filterMap fun j => (o'.getD j none).map (j, ·)) = (l.filter (· ∈ ns)).map fun j => (j, ns.idxOf j) := by
      intro l
      induction l with
      | nil => rfl
      | cons j l ih =>
        rw [List.filterMap_cons, h2 j, ih]
        by_cases q : j ∈ ns
        · simp [q]
        · have : (Array.replicate 32 (none : Option Nat)).getD j none = none := by
            rw [Array.getD_eq_getD_getElem?, Array.getElem?_replicate]; split <;> rfl
          simp only [q, if_false, this]; simp [q]
    exact this _
  unfold SetTable.laid
  rw [hc]
  show some _ = some _
  simp only [hl, List.map_map]
  congr 3
  show List.toArray (List.map (fun j => j) (sortedN ns)) = _
  rw [List.map_id']
theorem relay_small {t : SetTable} {es : Array (Int × Value)} {ns : List Nat} (nd : ns.Nodup) (h : ∀ v ∈ ns, v < 9) (he : es.toList.map (·.1) = ns.map fun n : Nat => (n : Int)) (hn : ns.length = 5) :
    ∃ es', relayAll t es (SetTable.grown es.size) = (es', { mask := 31, place := (sortedN ns).toArray, dummies := #[], finger := t.finger, led := t.led, moves := t.movedTo 31, plain := t.plain }, false) := by
  have hsz : es.size = 5 := by rw [← Array.length_toList, ← List.length_map (f := (·.1)), he, List.length_map, hn]
  have hmap : es.map (·.1) = (ns.map fun n : Nat => (n : Int)).toArray := by
    apply Array.toList_inj.mp; rw [Array.toList_map, he]
  have hg : SetTable.sizeAbove (SetTable.grown es.size) - 1 = 31 := by rw [hsz]; rfl
  unfold relayAll SetTable.relaid
  rw [hg, hmap, laid_small nd h]
  have hp : ((sortedN ns).map fun j => ns.idxOf j).Perm (List.range es.size) := by
    have := (sortedN_perm nd h).map (fun j => ns.idxOf j)
    rwa [idx_range nd, hn, ← hsz] at this
  have h1 : coversAll ((sortedN ns).map fun j => ns.idxOf j).toArray es.size = true := by
    unfold coversAll; exact List.isPerm_iff.mpr hp
  have h2 : (Array.filterMap (fun x => es[x]?) ((sortedN ns).map fun j => ns.idxOf j).toArray).size = 5 := by
    have e : (Array.filterMap (fun x => es[x]?) ((sortedN ns).map fun j => ns.idxOf j).toArray).size = (((sortedN ns).map fun j => ns.idxOf j).filterMap (fun x => es[x]?)).length := by simp
    rw [e, (hp.filterMap _).length_eq, List.length_filterMap_eq_countP]
    have : (List.range es.size).countP (fun a => (es[a]?).isSome) = (List.range es.size).length := List.countP_eq_length.mpr fun a ha => by
      rw [Array.getElem?_eq_getElem (List.mem_range.mp ha)]; rfl
    rw [this, List.length_range, hsz]
  have h3 : (sortedN ns).length = 5 := by rw [(sortedN_perm nd h).length_eq, hn]
  dsimp only
  rw [h1]
  have h4 : ∀ (f m : Nat) (a b : Bool), SetTable.fits { mask := 31, place := (sortedN ns).toArray, dummies := #[], finger := f, led := a, moves := m, plain := b } 5 = true := fun f m a b => by
    simp [SetTable.fits, SetTable.fill, h3]
  rw [h2, h4]
  exact ⟨_, rfl⟩
end Mw

set_option maxRecDepth 10000
namespace Mw
open PySem

structure StSet (byT : Bool) (c : Nat) (es : Array (Int × Value)) (t : SetTable) (ns : List Nat) : Prop where
  nd : ns.Nodup
  lt : ∀ v ∈ ns, v < 9
  hash : es.toList.map (·.1) = ns.map fun n : Nat => (n : Int)
  vals : ∀ e ∈ es.toList, ∃ u, e.2 = .int e.1 u
  dm : t.dummies = #[]
  led : t.led = !byT
  pl : t.plain = true
  pos : ∃ l, t.place = l.toArray ∧ Rise l ∧ l.length = ns.length ∧ ((t.mask = 7 ∧ ns.length ≤ c ∧ ∀ x ∈ l, x < 8) ∨ (t.mask = 31 ∧ ∀ x, x ∈ l ↔ x ∈ ns))
theorem hash_small : ∀ v < 9, hashInt ((v : Nat) : Int) = v := by decide
section
variable {byT : Bool} {c : Nat} {es : Array (Int × Value)} {t : SetTable} {ns : List Nat}
theorem StSet.len (h : StSet byT c es t ns) : es.size = ns.length := by
  rw [← Array.length_toList, ← List.length_map (f := (·.1)), h.hash, List.length_map]
theorem StSet.le9 (h : StSet byT c es t ns) : ns.length ≤ 9 := by
  have := len_sub (l := ns) (l' := List.range 9) h.nd fun x hx => List.mem_range.mpr (h.lt x hx)
  simpa using this
theorem StSet.fits (h : StSet byT c es t ns) (hc : c ≤ 5) : t.fits es.size = true := by
  obtain ⟨l, h1, h2, h3, h4⟩ := h.pos
  have := h.len
  have := h.le9
  have hf : t.fill = ns.length := by unfold SetTable.fill; rw [h1, h.dm]; simpa using h3
  unfold SetTable.fits
  rw [hf, h1]
  simp only [List.size_toArray, Bool.and_eq_true, beq_iff_eq, decide_eq_true_eq]
  rcases h4 with h4 | h4
  · rw [h4.1]; omega
  · rw [h4.1]; omega
theorem StSet.ent (h : StSet byT c es t ns) {e : Int × Value} (he : e ∈ es.toList) : ∃ v u, v ∈ ns ∧ e = ((v : Int), .int (v : Int) u) := by
  have : e.1 ∈ es.toList.map (·.1) := List.mem_map_of_mem he
  rw [h.hash, List.mem_map] at this
  obtain ⟨v, hv, e1⟩ := this
  obtain ⟨u, e2⟩ := h.vals e he
  exact ⟨v, u, hv, by rw [Prod.ext_iff]; exact ⟨e1.symm, by rw [e2, e1]⟩⟩
theorem StSet.elems {prog : Program} {w : World} (h : StSet byT c es t ns) : ElemsOf (intKind prog w) es.toList := fun e he => by
  obtain ⟨v, u, hv, rfl⟩ := h.ent he
  exact ⟨⟨(v : Int), by simp [intKind, Value.isInt], (hash_small v (h.lt v hv)).symm⟩, rfl⟩
theorem StSet.find {prog : Program} {w : World} (h : StSet byT c es t ns) (v : Nat) : (∃ j, es.toList.findIdx? (fun e => (intKind prog w).is (v : Int) e.2) = some j ∧ v ∈ ns) ∨ (es.toList.findIdx? (fun e => (intKind prog w).is (v : Int) e.2) = none ∧ v ∉ ns) := by
  cases hr : es.toList.findIdx? (fun e => (intKind prog w).is (v : Int) e.2) with
  | some j =>
    obtain ⟨hj, hp, _⟩ := List.findIdx?_eq_some_iff_getElem.mp hr
    obtain ⟨k, u, hk, e⟩ := h.ent (List.getElem_mem hj)
    rw [e] at hp
    have : k = v := by simp [intKind, Value.isInt] at hp; omega
    exact .inl ⟨j, rfl, this ▸ hk⟩
  | none =>
    refine .inr ⟨rfl, fun hv => ?_⟩
    have : ((v : Nat) : Int) ∈ es.toList.map (·.1) := by rw [h.hash]; exact List.mem_map_of_mem hv
    obtain ⟨e, he, e1⟩ := List.mem_map.mp this
    obtain ⟨k, u, hk, rfl⟩ := h.ent he
    have := List.findIdx?_eq_none_iff.mp hr _ he
    simp [intKind, Value.isInt] at this
    exact this (by simpa using e1)

theorem ins_map {α β : Type} (f : α → β) (l : List α) (p : Nat) (x : α) : (l.take p ++ x :: l.drop p).map f = (l.map f).take p ++ f x :: (l.map f).drop p := by
  rw [List.map_append, List.map_cons, List.map_take, List.map_drop]
theorem ins_perm {α : Type} (l : List α) (p : Nat) (x : α) : (l.take p ++ x :: l.drop p).Perm (x :: l) := by
  have := List.perm_middle (a := x) (l₁ := l.take p) (l₂ := l.drop p)
  rwa [List.take_append_drop] at this

theorem lay_new (h : StSet byT 4 es t ns) {v : Nat} (hv : v < 9) (hn : v ∉ ns) (u : Tok) : ∃ es1 t1 ns1, layNew t es (v : Int) (.int (v : Int) u) = (es1, t1, false, false) ∧ StSet byT 5 es1 t1 ns1 ∧ ns1.Perm (v :: ns) := by
  obtain ⟨l, h1, h2, h3, h4⟩ := h.pos
  obtain ⟨j, hj, hf, hA⟩ : ∃ j, j ∉ l ∧ t.freeSlot (v : Int) = some (j, false) ∧ ((t.mask = 7 ∧ j < 8) ∨ (t.mask = 31 ∧ j = v)) := by
    rcases h4 with ⟨a, b, c⟩ | ⟨a, b⟩
    · obtain ⟨j, q1, q2, q3⟩ := freeA a h1 h.dm h2 c (by omega) hv
      exact ⟨j, q2, q3, .inl ⟨a, q1⟩⟩
    · have : v ∉ l := fun q => hn ((b v).mp q)
      exact ⟨v, this, freeB a h1 h.dm h2 hv this, .inr ⟨a, rfl⟩⟩
  have hb : SetTable.below t.place j = l.countP (· < j) := by rw [h1]; exact below_eq h2 j
  have hput : t.put j = ({ t with place := (l.take (l.countP (· < j)) ++ j :: l.drop (l.countP (· < j))).toArray }, l.countP (· < j)) := by
    unfold SetTable.put
    have e1 : SetTable.insertAt t.place (SetTable.below t.place j) j = (l.take (l.countP (· < j)) ++ j :: l.drop (l.countP (· < j))).toArray := by
      rw [hb, h1]; apply Array.toList_inj.mp; rw [insertAt_toList]
    have e2 : SetTable.has t.dummies j = false := by rw [h.dm]; rfl
    rw [hb] at e1
    simp only [e1, e2, hb, Bool.false_eq_true, if_false]
  generalize l.countP (· < j) = p at hput hb
  have hes : (SetTable.insertAt es p ((v : Int), Value.int (v : Int) u)).toList = es.toList.take p ++ ((v : Int), Value.int (v : Int) u) :: es.toList.drop p := by
    have := insertAt_toList es.toList p ((v : Int), Value.int (v : Int) u)
    rwa [Array.toArray_toList] at this
  have hr : Rise (l.take p ++ j :: l.drop p) := by rw [← hb, h1, below_eq h2]; exact put_rise h2 hj
  have pm := ins_perm ns p v
  have hl9 := h.le9
  have st : StSet byT 5 (SetTable.insertAt es p ((v : Int), Value.int (v : Int) u)) { t with place := (l.take p ++ j :: l.drop p).toArray } (ns.take p ++ v :: ns.drop p) :=
    { nd := pm.nodup_iff.mpr (List.nodup_cons.mpr ⟨hn, h.nd⟩)
      lt := fun x hx => by
        rcases List.mem_cons.mp (pm.mem_iff.mp hx) with rfl | q
        · exact hv
        · exact h.lt x q
      hash := by rw [hes, ins_map, h.hash, ins_map]
      vals := fun e he => by
        rw [hes] at he
        rcases List.mem_cons.mp ((ins_perm es.toList p _).mem_iff.mp he) with rfl | q
        · exact ⟨u, rfl⟩
        · exact h.vals e q
      dm := h.dm
      led := h.led
      pl := h.pl
      pos := ⟨_, rfl, hr, by rw [(ins_perm l p j).length_eq, pm.length_eq, List.length_cons, List.length_cons, h3], by
        rw [pm.length_eq, List.length_cons]
        rcases h4 with ⟨a, b, c⟩ | ⟨a, b⟩
        · refine .inl ⟨a, by omega, fun x hx => ?_⟩
          rcases List.mem_cons.mp ((ins_perm l p j).mem_iff.mp hx) with rfl | q
          · rcases hA with q | q
            · exact q.2
            · rw [a] at q; exact absurd q.1 (by decide)
          · exact c x q
        · refine .inr ⟨a, fun x => ?_⟩
          have : j = v := by
            rcases hA with q | q
            · rw [a] at q; exact absurd q.1 (by decide)
            · exact q.2
          rw [(ins_perm l p j).mem_iff, pm.mem_iff, List.mem_cons, List.mem_cons, b x, this]⟩ }
  refine ⟨_, _, _, ?_, st, pm⟩
  unfold layNew
  rw [hf]
  simp only [hput]
  have hfit := st.fits (Nat.le_refl 5)
  rw [SetTable.orStandIn, if_pos hfit, hfit]; rfl

theorem full_no (h : StSet byT 5 es t ns) (hf : t.tooFull = false) : StSet byT 4 es t ns := by
  obtain ⟨l, h1, h2, h3, h4⟩ := h.pos
  refine ⟨h.nd, h.lt, h.hash, h.vals, h.dm, h.led, h.pl, l, h1, h2, h3, ?_⟩
  rcases h4 with ⟨a, b, c⟩ | q
  · refine .inl ⟨a, ?_, c⟩
    have hfill : t.fill = ns.length := by unfold SetTable.fill; rw [h1, h.dm]; simpa using h3
    unfold SetTable.tooFull at hf
    rw [a, hfill] at hf
    simp at hf; omega
  · exact .inr q
theorem full_yes (h : StSet byT 5 es t ns) (hf : t.tooFull = true) : ∃ es' t' ns', relayAll t es (SetTable.grown es.size) = (es', t', false) ∧ StSet byT 4 es' t' ns' ∧ ns'.Perm ns := by
  obtain ⟨l, h1, h2, h3, h4⟩ := h.pos
  have hfill : t.fill = ns.length := by unfold SetTable.fill; rw [h1, h.dm]; simpa using h3
  have h9 := h.le9
  unfold SetTable.tooFull at hf
  rw [hfill] at hf
  simp at hf
  have h5 : ns.length = 5 := by
    rcases h4 with ⟨a, b, c⟩ | ⟨a, b⟩
    · rw [a] at hf; omega
    · rw [a] at hf; omega
  obtain ⟨es', e⟩ := relay_small (t := t) h.nd h.lt h.hash h5
  have pm := relayAll_perm t es (SetTable.grown es.size)
  rw [e] at pm
  simp only at pm
  have ent' : ∀ x ∈ es'.toList, ∃ v u, v ∈ ns ∧ x = ((v : Int), .int (v : Int) u) := fun x hx => h.ent (pm.mem_iff.mp hx)
  have hh : es'.toList.map (·.1) = (es'.toList.map fun e => e.1.toNat).map fun n : Nat => (n : Int) := by
    rw [List.map_map]
    refine List.map_congr_left fun x hx => ?_
    obtain ⟨v, u, _, rfl⟩ := ent' x hx
    simp
  have pn : (es'.toList.map fun e => e.1.toNat).Perm ns := by
    have q := pm.map fun e : Int × Value => e.1.toNat
    have e2 : es.toList.map (fun e => e.1.toNat) = ns := by
      have : es.toList.map (fun e => e.1.toNat) = (es.toList.map (·.1)).map Int.toNat := by rw [List.map_map]; rfl
      rw [this, h.hash, List.map_map]
      have : (Int.toNat ∘ fun n : Nat => (n : Int)) = id := by funext n; simp
      rw [this, List.map_id]
    rwa [e2] at q
  refine ⟨_, _, _, e, ⟨pn.nodup_iff.mpr h.nd, fun x hx => h.lt x (pn.mem_iff.mp hx), hh, fun x hx => h.vals x (pm.mem_iff.mp hx), rfl, h.led, h.pl, sortedN ns, rfl, sortedN_rise ns, ?_, .inr ⟨rfl, fun x => ?_⟩⟩, pn⟩
  · rw [(sortedN_perm h.nd h.lt).length_eq, pn.length_eq]
  · rw [sortedN_mem h.lt, pn.mem_iff]
end

section
variable {prog : Program} {w : World} {A : Around} {E : Value → Shared → Prop} {s : Shared}
theorem gave_no {Q : Unit → Shared → Prop} (h : Q () s) : wpAny (model prog w) A (pure ()) Q E s := wpAny_pure h

theorem add_ok' {byT : Bool} {a : Addr} {o : Obj} {es : Array (Int × Value)} {ep : Nat} {t : SetTable} {ns : List Nat} {v : Nat} {u : Tok} {Q : Bool → Shared → Prop}
    (ho : s.heap.get? a = some o) (hd : o.data = .set es ep t) (hS : StSet byT 4 es t ns) (hv : v < 9)
    (h0 : v ∈ ns → Q false s)
    (h1 : v ∉ ns → ∀ h' es' ep' t' ns', Heap.SameBut a s.heap h' → h'.get? a = some { o with data := .set es' ep' t' } → StSet byT 4 es' t' ns' → ns'.Perm (v :: ns) → Q true { s with heap := h' }) :
    wpAny (model prog w) A (setAddHashed a (.int (v : Int) u) (v : Int)) Q E s := by
  have hkey : (intKind prog w).is (v : Int) (.int (v : Int) u) = true := by simp [intKind, Value.isInt]
  have hb : es.size < scanBound := by rw [hS.len]; have := hS.le9; unfold scanBound; omega
  unfold setAddHashed setAddHashedIn
  refine wpAny_holding (wpAny_bind (wpAny_setState_of ho hd (hS.fits (by omega)) ?_))
  dsimp only
  rw [byScan_of (knd := intKind prog w) (x := .int (v : Int) u) rfl hb hS.elems]
  simp only [↓reduceIte]
  unfold setAddByScan
  refine wpAny_bind ?_
  refine wpAny_bind (wpAny_rule ?_)
  have hh : (v : Int) = (intKind prog w).hash (v : Int) := (hash_small v hv).symm
  have sc : ∀ {Q' : ScanMet → Shared → Prop}, Q' (match es.toList.findIdx? (fun e => (intKind prog w).is (v : Int) e.2) with | some j => .found (0 + j) | none => .absent) s → wpAny (model prog w) A (setScan a (.int (v : Int) u) (v : Int) true es) Q' E s := fun {Q'} q => by
    have := wpAny_setScan_of (A := A) (E := E) (adding := true) (Q := Q') hkey ho hd (hS.fits (by omega)) hS.elems q
    rwa [← hh] at this
  refine wpAny_bind (sc ?_)
  rcases hS.find (prog := prog) (w := w) v with ⟨j, e, hin⟩ | ⟨e, hin⟩
  · rw [e]
    exact wpAny_pure (wpAny_pure (h0 hin))
  · rw [e]
    dsimp only
    obtain ⟨es1, t1, ns1, e1, st1, p1⟩ := lay_new hS hv hin u
    rw [e1]
    dsimp only
    refine wpAny_bind (gave_no ?_)
    rw [st1.pl]
    simp only [if_true]
    refine wpAny_bind ?_
    rw [hashByValue_scannable 8 (x := .int (v : Int) u) rfl]
    refine wpAny_pure ?_
    simp only [show plainKind (Value.int (v : Int) u) = true from rfl, if_true]
    have hz1 : es1.size ≤ sizeLine := by rw [st1.len]; have := st1.le9; rw [sizeLine_eq]; omega
    show wpAny _ A (storeSet a es1 t1 >>= _) _ _ s
    refine wpAny_bind (wpAny_storeSet_of ho hd ?_ hz1)
    have g1 : (s.heap.update a (Obj.putSet es1 t1)).get? a = some { o with data := .set es1 (ep + 1) t1 } := by
      have := Heap.get?_update_self (Obj.putSet es1 t1) ho (by rw [putSet_of es1 t1 hd]; rfl)
      rwa [putSet_of es1 t1 hd] at this
    have sb1 := Heap.SameBut.update s.heap a (Obj.putSet es1 t1)
    cases hf : t1.tooFull with
    | false =>
      simp only [Bool.not_false, Bool.true_and, Bool.false_eq_true, if_false]
      refine wpAny_pure (wpAny_pure ?_)
      exact h1 hin _ _ _ _ _ sb1 g1 (full_no st1 hf) p1
    | true =>
      obtain ⟨es2, t2, ns2, e2, st2, p2⟩ := full_yes st1 hf
      simp only [Bool.not_false, Bool.true_and, if_true, e2]
      refine wpAny_bind (gave_no ?_)
      have hz2 : es2.size ≤ sizeLine := by rw [st2.len]; have := st2.le9; rw [sizeLine_eq]; omega
      refine wpAny_bind (wpAny_storeSet_of g1 rfl ?_ hz2)
      have g2 : ((s.heap.update a (Obj.putSet es1 t1)).update a (Obj.putSet es2 t2)).get? a = some { o with data := .set es2 (ep + 1 + 1) t2 } := by
        have := Heap.get?_update_self (Obj.putSet es2 t2) g1 (by rw [putSet_of es2 t2 rfl]; rfl)
        rwa [putSet_of es2 t2 rfl] at this
      exact wpAny_pure (wpAny_pure (h1 hin _ _ _ _ _ (sb1.trans (Heap.SameBut.update _ a _)) g2 st2 (p2.trans p1)))
end
end Mw

set_option maxRecDepth 100000
namespace Mw
open PySem PyProof.Rows

section
variable {prog : Program} {w : World} {A : Around} {R : Result → Shared → Prop} {I : Addr} {fp wr : List Addr} {G : Array GenState → Array GenState → Prop} {n : Nat} {P : Nat → Value → Prop} {St : Nat → Shared → Prop}

theorem set_loop {byT : Bool} (W : WalksS prog w A.in1 I fp wr G n P St) {S : Addr} (hSf : S ∉ fp) {vals : List Nat} (hlen : vals.length = n) (hlt : ∀ v ∈ vals, v < 9) (hval : ∀ i v, P i v → ∃ t, v = .int ((vals.getD i 0 : Nat) : Int) t) {o : Obj} :
    ∀ (k i : Nat) (s : Shared) (es : Array (Int × Value)) (ep : Nat) (t : SetTable) (ns : List Nat), n - i = k → i ≤ n → St i s → s.heap.get? S = some { o with data := .set es ep t } → StSet byT 4 es t ns → (∀ x, x ∈ ns ↔ x ∈ vals.take i) →
      (∀ s' es' ep' t' ns', Moved (S :: wr) G s s' → s'.heap.get? S = some { o with data := .set es' ep' t' } → StSet byT 4 es' t' ns' → (∀ x, x ∈ ns' ↔ x ∈ vals) → R (.ok (.ret .none)) s') →
      codeAny (model prog w) A (.builtin "set.update.loop" ⟨[.ref S, .ref I], []⟩) R s := by
  have hSw : S ∉ wr := fun h => hSf (W.sub _ h)
  have hsub : ∀ b ∈ wr, b ∈ S :: wr := fun b hb => List.mem_cons_of_mem _ hb
  intro k
  induction k with
  | zero =>
    intro i s es ep t ns hk hi hst hg hS hm hR
    have hin : i = n := by omega
    subst hin
    refine codeAny_builtin F.entry_set_update_loop ?_
    rw [Around.under_plainId F.plain_set_update_loop _]
    show wpAny _ A.in1 (pyNext (.ref I) >>= _) _ _ s
    refine wpAny_bind (W.done s _ _ hst fun s' mv => ?_)
    show wpAny _ A.in1 (ret Value.none) _ _ s'
    refine wpAny_pure (hR s' es ep t ns (mv.mono hsub) (mv.heap S _ hSw hg) hS fun x => ?_)
    rw [hm x, List.take_of_length_le (by omega)]
  | succ k ih =>
    intro i s es ep t ns hk hi hst hg hS hm hR
    have hi' : i < n := by omega
    refine codeAny_builtin F.entry_set_update_loop ?_
    rw [Around.under_plainId F.plain_set_update_loop _]
    show wpAny _ A.in1 (pyNext (.ref I) >>= _) _ _ s
    refine wpAny_bind (W.item i s _ _ hi' hst fun v s' hP hst' mv => ?_)
    obtain ⟨u, rfl⟩ := hval i v hP
    have hil : i < vals.length := by omega
    have hgd : vals.getD i 0 = vals[i] := by simp [hil]
    rw [hgd]
    have hv9 : vals[i] < 9 := hlt _ (List.getElem_mem hil)
    have hg' := mv.heap S _ hSw hg
    have htk : vals.take (i + 1) = vals.take i ++ [vals[i]] := List.take_succ_eq_append_getElem hil
    show wpAny _ A.in1 (holding [Value.int (vals[i] : Int) u] (setAdd S (.int (vals[i] : Int) u)) >>= _) _ _ s'
    refine wpAny_bind (wpAny_holding ?_)
    unfold setAdd
    refine wpAny_holding ?_
    refine wpAny_bind ((intKind prog w).pyHash (k := (vals[i] : Int)) (by simp [intKind, Value.isInt]) ?_)
    have hh : (intKind prog w).hash ((vals[i] : Nat) : Int) = ((vals[i] : Nat) : Int) := hash_small _ hv9
    rw [hh]
    refine add_ok' (s := { s' with toks := s'.toks + 1 }) hg' rfl hS hv9 (fun hin => ?_) fun hnin h' es' ep' t' ns' sb g' st' pm => ?_
    · refine wpAny_pure ⟨plainId_quiet F.plain_set_update_loop _, ih (i + 1) _ es ep t ns (by omega) hi' (W.frame _ s' _ _ hst' (Nat.le_succ _) fun b hb o e => e) hg' hS (fun x => ?_) fun s'' es'' ep'' t'' ns'' mv'' g'' st'' m'' => ?_⟩
      · rw [htk, List.mem_append, ← hm x, List.mem_singleton]
        exact ⟨.inl, fun q => q.elim id fun e => e ▸ hin⟩
      · exact hR s'' es'' ep'' t'' ns'' (Moved.trans W.gtrans ((mv.mono hsub).then_heap (Nat.le_succ _) fun b o hb e => e) mv'') g'' st'' m''
    · refine wpAny_pure ⟨plainId_quiet F.plain_set_update_loop _, ih (i + 1) _ es' ep' t' ns' (by omega) hi' (W.frame _ s' _ _ hst' (Nat.le_succ _) fun b hb o e => ?_) g' st' (fun x => ?_) fun s'' es'' ep'' t'' ns'' mv'' g'' st'' m'' => ?_⟩
      · rw [sb.2 b (fun h : b = S => hSf (by rw [← h]; exact hb))]; exact e
      · rw [htk, List.mem_append, ← hm x, pm.mem_iff, List.mem_cons, List.mem_singleton]
        exact ⟨fun q => q.symm, fun q => q.symm⟩
      · refine hR s'' es'' ep'' t'' ns'' (Moved.trans W.gtrans ((mv.mono hsub).then_heap (Nat.le_succ _) fun b o hb e => ?_) mv'') g'' st'' m''
        rw [sb.2 b (fun h : b = S => hb (by rw [h]; exact List.mem_cons_self))]; exact e
end

theorem fresh_st (byT : Bool) : StSet byT 4 #[] (.fresh 0 0 (!byT)) [] where
  nd := List.nodup_nil
  lt := by simp
  hash := rfl
  vals := by simp
  dm := rfl
  led := rfl
  pl := rfl
  pos := ⟨[], rfl, List.Pairwise.nil, rfl, .inl ⟨rfl, by simp, by simp⟩⟩

section
variable {prog : Program} {w : World} {A : Around} {E : Value → Shared → Prop} {s : Shared}
noncomputable def setObj (es : Array (Int × Value)) (ep : Nat) (t : SetTable) : Obj := { cls := .type "set", dict := none, data := .set es ep t }

theorem set_new (a : Value) {Q₁ : Value → Shared → Prop} (h : Q₁ (.ref s.heap.objs.size) { s with heap := s.heap.push (setObj #[] 0 (.fresh 0 0 (!(w.params.followText "set-order")))) }) :
    codeAny (model prog w) A (.call (.builtin "set.__new__") ⟨[.type "set", a], []⟩) (wants Q₁ E) s := by
  refine codeAny_of_tree ?_
  show wpAny _ A.in1 (do checkBuiltinCall "set.__new__" ⟨[.type "set", a], []⟩; again (.builtin "set.__new__" ⟨[.type "set", a], []⟩)) _ _ s
  refine wpAny_bind (wpAny_of_eq (F.newCall_set_1 a) (wpAny_pure ⟨plainId_quiet F.plain_set_new _, codeAny_builtin F.entry_set_new ?_⟩))
  rw [Around.under_plainId F.plain_set_new _]
  unfold Builtin.«set.__new__» Builtin.Frozenset.newClass
  have hsub := sub_set_self
  obtain ⟨hp, g, d, tk, os⟩ := s
  dsimp only
  wp_walk
  refine wpAny_askSetting (wpAny_pure ?_)
  dsimp only
  simp only [newObj]
  refine wpAny_bind (wpAny_alloc (wpAny_pure ?_))
  exact wpAny_pure h
end
end Mw

set_option maxRecDepth 100000
set_option maxHeartbeats 3200000
namespace Mw
open PySem PyProof.Rows

section
variable {prog : Program} {w : World} {A : Around} {E : Value → Shared → Prop} {s : Shared}

theorem call_set {l : Addr} {items : Array Value} {vals : List Nat} {Q : Value → Shared → Prop} (hh : A.handled = none) (hl : s.heap.IsList l items) (hi : IntsAre items.toList (vals.map fun n : Nat => (n : Int))) (hlt : ∀ v ∈ vals, v < 9)
    (h : ∀ h' tk es ep t ns, h'.get? s.heap.objs.size = some (setObj es ep t) → StSet (w.params.followText "set-order") 4 es t ns → (∀ x, x ∈ ns ↔ x ∈ vals) → (∀ b o, b < s.heap.objs.size → s.heap.get? b = some o → h'.get? b = some o) →
      Q (.ref s.heap.objs.size) { s with heap := h', toks := tk }) : wpAny (model prog w) A (call (.type "set") [.ref l]) Q E s := by
  have hlen : vals.length = items.size := by
    have := IntsAre.length hi
    rw [List.length_map, Array.length_toList] at this; omega
  obtain ⟨c, tl, hmro⟩ := F.called_set.mro
  have hmade := F.called_set.made
  have hsub := F.called_set.sub
  refine wpAny_call (codeAny_of_tree ?_)
  show wpAny _ _ (callAny (.type "set") _) _ _ _
  refine wpAny_pure ⟨Code.quiet_builtin _ (by decide +kernel), codeAny_builtin F.entry_type_call ?_⟩
  rw [Around.under_plain (weight_type_call_type "set" [.ref l] []) rfl]
  have h1 := F.called_set.notType
  have h2 := F.called_set.canCreate
  have hct := F.typeCall_set_1 (.ref l)
  generalize hO : setObj #[] 0 (.fresh 0 0 (!(w.params.followText "set-order"))) = O
  have hOc : O.cls = .type "set" := by rw [← hO]; rfl
  repeat (any_goals (first | assumption | wp_step))
  refine codeAny_mono (set_new (.ref l) (E := E) (Q₁ := fun obj s₁ => obj = .ref s.heap.objs.size ∧ s₁ = { s with heap := s.heap.push O }) ⟨rfl, by rw [hO]⟩) fun r s₁ hr => ?_
  cases r with
  | error e => exact hr
  | ok fl =>
    cases fl with
    | ret obj =>
      obtain ⟨rfl, rfl⟩ := hr
      have hg : (s.heap.push O).get? s.heap.objs.size = some O := Heap.get?_push_size _ (by rw [← hO]; rfl)
      have hT : Shared.TypeIs { s with heap := s.heap.push O } (.ref s.heap.objs.size) "set" := ⟨_, hg, hOc⟩
      have hli := F.called_set.init.lookup
      have hbi := F.called_set.init.bind (.ref s.heap.objs.size)
      repeat (any_goals (first | assumption | wp_step))
      refine codeAny_mono (codeAny_call_builtin (R := wants (fun r s₂ => r = .none ∧ ∃ h' tk, s₂ = { s with heap := h', toks := tk } ∧ ∃ es ep t ns, h'.get? s.heap.objs.size = some (setObj es ep t) ∧ StSet (w.params.followText "set-order") 4 es t ns ∧
          (∀ x, x ∈ ns ↔ x ∈ vals) ∧ (∀ b o, b < s.heap.objs.size → s.heap.get? b = some o → h'.get? b = some o)) E) F.called_set.init.plain F.entry_set_init (check_set_init_1 hT ?_)) fun r₂ s₂ hr₂ => ?_
      · obtain ⟨ol, hol, hcl, nl, hdl⟩ := hl
        obtain ⟨ocls, odict, odata, oslots⟩ := ol
        simp only at hcl hdl
        subst hcl; subst hdl
        have hol' : (s.heap.push O).get? l = some { cls := .type "list", dict := odict, data := .seq items nl, slots := oslots } := Heap.get?_push_of_some _ hol
        have hsls := F.sub_list_set
        have hslf := F.sub_list_frozenset
        have hne : (Value.type "list" == Value.type "dict") = false := by decide
        have hl1 : (s.heap.push O).IsList l items := ⟨_, hol', rfl, nl, rfl⟩
        unfold Builtin.«set.__init__» noKeywords Builtin.Frozenset.updateFrom
        subst hO
        generalize hPI : pyIter = PI
        wp_walk
        subst hPI
        refine wpAny_pyIter_list hl1 ?_
        refine wpAny_bind (wpAny_runValue ?_)
        have hlS : l < s.heap.objs.size := Heap.lt_size hol
        have hh3 : A.in1.in1.in1.handled = none := by simp [hh]
        generalize hO : setObj #[] 0 (.fresh 0 0 (!(w.params.followText "set-order"))) = O at *
        have hneI : l ≠ (s.heap.push O).objs.size := by rw [Heap.size_push]; exact Nat.ne_of_lt (Nat.lt_succ_of_lt hlS)
        have hSf : s.heap.objs.size ∉ [(s.heap.push O).objs.size, l] := by
          rw [Heap.size_push]; simp only [List.mem_cons, List.mem_singleton, List.not_mem_nil, or_false, not_or]
          exact ⟨Nat.ne_of_lt (Nat.lt_succ_self _), Nat.ne_of_gt hlS⟩
        have hval : ∀ (i : Nat) (v : Value), items[i]? = some v → ∃ t, v = .int ((vals.getD i 0 : Nat) : Int) t := fun i v hv => by
          obtain ⟨t, e⟩ := IntsAre.int_at hi i v (by rw [Array.getElem?_toList]; exact hv)
          refine ⟨t, e.trans ?_⟩
          congr 1
          have hil : i < vals.length := by rw [hlen]; exact (Array.getElem?_eq_some_iff.mp hv).1
          simp [List.getD_eq_getElem?_getD, hil]
        refine set_loop (byT := w.params.followText "set-order") ((Walks.list hh3 _ l hneI items).toS) hSf hlen hlt hval (o := setObj #[] 0 default) (items.size - 0) 0 _ #[] 0 _ [] (by omega) (Nat.zero_le _)
          ⟨⟨_, Heap.get?_push_size _ rfl, rfl, rfl⟩, (hl1.push _)⟩ ?hS0 (fresh_st _) (by simp) ?hR
        case hS0 =>
          rw [Heap.get?_push_of_some _ hg, ← hO]; rfl
        case hR =>
          intro s' es' ep' t' ns' hm hg' st' hmem
          obtain ⟨h', g', d', tk', os'⟩ := s'
          have eg : g' = s.gens := hm.gens
          have ed : d' = s.drawn := hm.drawn
          have eo : os' = s.os := hm.os
          subst eg; subst ed; subst eo
          show wpAny _ _ _ _ _ _
          refine wpAny_pure ?_
          show wpAny _ _ (ret Value.none) _ _ _
          refine wpAny_pure ⟨rfl, h', tk', rfl, es', ep', t', ns', hg', st', hmem, fun b o hb e => ?_⟩
          have hb1 : b ≠ s.heap.objs.size := Nat.ne_of_lt hb
          have hb2 : b ≠ (s.heap.push O).objs.size := by rw [Heap.size_push]; exact Nat.ne_of_lt (Nat.lt_succ_of_lt hb)
          exact hm.heap b o (by simp only [List.mem_cons, List.mem_singleton, List.not_mem_nil, or_false, not_or]; exact ⟨hb1, hb2⟩) (Heap.get?_push_of_some _ (Heap.get?_push_of_some _ e))
      · cases r₂ with
        | error e => exact hr₂
        | ok fl₂ =>
          cases fl₂ with
          | ret r =>
            obtain ⟨rfl, h', tk, rfl, es, ep, t, ns, hg', st', hmem, hk'⟩ := hr₂
            repeat (any_goals (first | assumption | wp_step))
            exact h _ _ _ _ _ _ hg' st' hmem hk'
          | _ => exact hr₂.elim
    | _ => exact hr.elim
end
end Mw

set_option maxRecDepth 100000
namespace Mw
open PySem PyProof.Rows

theorem sl_next : Slot "set_iterator" "__next__" "set_iterator.__next__" :=
  .of (owner := "set_iterator") (n := "__next__") (by rw [typeLookup_type, builtinLookup_eq_fast]; kernel_rfl) (by decide +kernel) (by decide +kernel) (by decide +kernel)
    (by first | exact .inl (by decide +kernel) | exact .inr (by decide +kernel)) (by rw [isSubtype_type]; kernel_rfl)
theorem en_next : entryFor table "set_iterator.__next__" = some Builtin.«set_iterator.__next__» := entryFor_of_tree (by kernel_rfl)
theorem ow_it : Manifest.owners.lookup (String.ofList ['r', 'o', 't', 'a', 'r', 'e', 't', 'i', '_', 't', 'e', 's'].reverse) = some Manifest.sig_set_iterator := by kernel_rfl
theorem ar_next (a : Value) : argsOk "set_iterator.__next__" ⟨[a], []⟩ := by
  unfold argsOk; rw [signature?_of (id := "set_iterator.__next__") (n := ['_', '_', 't', 'x', 'e', 'n', '_', '_']) (o := ['r', 'o', 't', 'a', 'r', 'e', 't', 'i', '_', 't', 'e', 's']) (by kernel_rfl) ow_it]; kernel_rfl
theorem sl_self : Slot "set_iterator" "__iter__" "set_iterator.__iter__" :=
  .of (owner := "set_iterator") (n := "__iter__") (by rw [typeLookup_type, builtinLookup_eq_fast]; kernel_rfl) (by decide +kernel) (by decide +kernel) (by decide +kernel)
    (by first | exact .inl (by decide +kernel) | exact .inr (by decide +kernel)) (by rw [isSubtype_type]; kernel_rfl)
theorem ar_self (a : Value) : argsOk "set_iterator.__iter__" ⟨[a], []⟩ := by
  unfold argsOk; rw [signature?_of (id := "set_iterator.__iter__") (n := ['_', '_', 'r', 'e', 't', 'i', '_', '_']) (o := ['r', 'o', 't', 'a', 'r', 'e', 't', 'i', '_', 't', 'e', 's']) (by kernel_rfl) ow_it]; kernel_rfl
theorem en_set_iter : entryFor table "set.__iter__" = some Builtin.«frozenset.__iter__» := entryFor_alias (id' := "frozenset.__iter__") (by kernel_rfl) rfl (by decide +kernel) (by kernel_rfl)
theorem en_self : entryFor table "set_iterator.__iter__" = some Builtin.«dict_keyiterator.__iter__» := entryFor_alias (id' := "dict_keyiterator.__iter__") (by kernel_rfl) rfl (by decide +kernel) (by kernel_rfl)

theorem get_perm {α : Type} {l : List α} {i : Nat} (h : i < l.length) : (l[i] :: l.eraseIdx i).Perm l := by
  rw [List.eraseIdx_eq_take_drop_succ]
  have := List.perm_middle (a := l[i]) (l₁ := l.take i) (l₂ := l.drop (i + 1))
  refine this.symm.trans ?_
  rw [← List.drop_eq_getElem_cons h, List.take_append_drop]
theorem pick_go {α : Type} (f : Nat → Nat) : ∀ (n k : Nat) (left : List α) (out : Array α), left.length = n → (pickOrder.go f n k left out).toList.Perm (out.toList ++ left)
  | 0, k, left, out, h => by
    cases left with
    | nil => unfold pickOrder.go; simp
    | cons a l => simp at h
  | n + 1, k, left, out, h => by
    unfold pickOrder.go
    have hi : f k % left.length < left.length := Nat.mod_lt _ (by omega)
    rw [List.getElem?_eq_getElem hi]
    have ih := pick_go f n (k + 1) (left.eraseIdx (f k % left.length)) (out.push left[f k % left.length]) (by rw [List.length_eraseIdx]; simp only [hi, if_true]; omega)
    refine ih.trans ?_
    rw [Array.toList_push, List.append_assoc, List.singleton_append]
    exact List.Perm.append_left _ (get_perm hi)
theorem pick_perm {α : Type} (f : Nat → Nat) (xs : Array α) : (pickOrder f xs).toList.Perm xs.toList := by
  unfold pickOrder
  have := pick_go f xs.size 0 xs.toList #[] (by simp)
  simpa using this
noncomputable def ordOf (byT : Bool) (f : Nat → Nat) (es : Array (Int × Value)) : Array (Int × Value) := if byT then pickOrder f es else es
theorem ord_perm (byT : Bool) (f : Nat → Nat) (es : Array (Int × Value)) : (ordOf byT f es).toList.Perm es.toList := by
  unfold ordOf; split
  · exact pick_perm f es
  · exact .refl _
noncomputable def itObj (slot i : Nat) (S : Addr) (n ep : Nat) : Obj := { cls := .type "set_iterator", data := .fields #[.int slot 0, .int i 0, .ref S, .int n 0, .int ep 0] }

section
variable {prog : Program} {w : World} {A : Around} {E : Value → Shared → Prop} {s : Shared} {S I : Addr} {es : Array (Int × Value)} {ep : Nat} {t : SetTable} {ns : List Nat}

theorem drawn_no {Q : Bool → Shared → Prop} (hS : s.heap.get? S = some (setObj es ep t)) (st : StSet (w.params.followText "set-order") 4 es t ns) (h : Q false s) : wpAny (model prog w) A (setDrawn S) Q E s := by
  unfold setDrawn
  refine wpAny_bind (wpAny_setState_of hS rfl (st.fits (by omega)) ?_)
  dsimp only
  unfold setsByText
  refine wpAny_bind (wpAny_bind (wpAny_askSetting (wpAny_pure ?_)))
  refine wpAny_pure ?_
  show Q (_ && (!t.plain && _)) s
  rw [st.pl]
  simpa using h
theorem iter_set {Q : Value → Shared → Prop} (hS : s.heap.get? S = some (setObj es ep t)) (st : StSet (w.params.followText "set-order") 4 es t ns)
    (h : Q (.ref s.heap.objs.size) { s with heap := s.heap.push (itObj 0 0 S es.size ep) }) : wpAny (model prog w) A (pyIter (.ref S)) Q E s := by
  have hT : s.TypeIs (.ref S) "set" := ⟨_, hS, rfl⟩
  have hf := st.fits (by omega)
  refine wpAny_pyIter_slot hT F.slot_set_iter (wpAny_call_entry F.slot_set_iter hT en_set_iter ?_ (F.args_set_iter_1 _))
  unfold Builtin.«frozenset.__iter__» Builtin.Frozenset.slot0 slotArgs
  simp only [List.isEmpty_nil, Bool.not_true, Bool.false_eq_true, ↓reduceIte, bind_assoc, List.length_nil, bne_self_eq_false]
  unfold Builtin.Frozenset.addrOf Builtin.Frozenset.sizeOf
  refine wpAny_bind (wpAny_pure ?_)
  dsimp only
  refine wpAny_bind (wpAny_pure ?_)
  refine wpAny_bind (wpAny_bind (wpAny_setEntries_of hS rfl hf (wpAny_pure ?_)))
  refine wpAny_bind (drawn_no hS st ?_)
  simp only [Bool.false_eq_true, if_false]
  refine wpAny_bind (wpAny_pure ?_)
  refine wpAny_bind (wpAny_setEpoch_of hS rfl hf ?_)
  refine wpAny_bind (wpAny_newObj_type (wpAny_pure ⟨_, rfl, "set_iterator", _, ⟨_, Heap.get?_push_size _ rfl, rfl⟩, sl_next.lookup, ?_⟩))
  exact h
end
end Mw

set_option maxRecDepth 100000
namespace Mw
open PySem PyProof.Rows

section
variable {prog : Program} {w : World} {A : Around} {E : Value → Shared → Prop} {s : Shared} {S I : Addr} {es : Array (Int × Value)} {ep : Nat} {t : SetTable} {ns : List Nat}

noncomputable def ItAt (w : World) (I S : Addr) (es : Array (Int × Value)) (ep : Nat) (t : SetTable) (i : Nat) (h : Heap) : Prop :=
  ∃ slot : Nat, h.get? I = some (itObj slot i S es.size ep) ∧ h.get? S = some (setObj es ep t) ∧ (w.params.followText "set-order" = true ∨ SetTable.below t.place slot = i)

theorem next_set {slot i : Nat} {Q : Option (Value × Nat) → Shared → Prop} (hS : s.heap.get? S = some (setObj es ep t)) (st : StSet (w.params.followText "set-order") 4 es t ns) (hi : w.params.followText "set-order" = true ∨ SetTable.below t.place slot = i)
    (hnone : es.size ≤ i → Q none s)
    (hsome : ∀ e slot', (ordOf (w.params.followText "set-order") (w.params.setOrder S ep) es)[i]? = some e → (w.params.followText "set-order" = true ∨ SetTable.below t.place slot' = i + 1) → Q (some (e.2, slot')) s) :
    wpAny (model prog w) A (setNext S slot i ep) Q E s := by
  have hf := st.fits (by omega)
  unfold setNext
  refine wpAny_bind (wpAny_setState_of hS rfl hf ?_)
  dsimp only
  unfold setsByText
  refine wpAny_bind (wpAny_bind (wpAny_askSetting (wpAny_pure ?_)))
  have hlen : (ordOf (w.params.followText "set-order") (w.params.setOrder S ep) es).size = es.size := by
    have := (ord_perm (w.params.followText "set-order") (w.params.setOrder S ep) es).length_eq
    simpa using this
  show wpAny _ _ (if w.params.followText "set-order" = true then _ else _) _ _ _
  cases hb : w.params.followText "set-order" with
  | true =>
    rw [if_pos rfl, if_neg (by simp)]
    refine wpAny_bind ?_
    unfold setWalk
    refine wpAny_bind (wpAny_setState_of hS rfl hf ?_)
    dsimp only
    unfold setsByText
    refine wpAny_bind (wpAny_bind (wpAny_askSetting (wpAny_pure ?_)))
    show wpAny _ _ (if w.params.followText "set-order" = true then _ else _) _ _ _
    rw [if_pos hb]
    refine wpAny_bind (wpAny_askSetting ?_)
    refine wpAny_pure (wpAny_pure ?_)
    show Q (((pickOrder (w.params.setOrder S ep) es)[i]?).map fun e => (e.2, slot)) s
    rw [hb] at hsome hlen
    cases hx : (pickOrder (w.params.setOrder S ep) es)[i]? with
    | none =>
      refine hnone ?_
      rw [← hlen]
      exact Array.getElem?_eq_none_iff.mp hx
    | some e => exact hsome e slot hx (.inl rfl)
  | false =>
    rw [if_neg (by simp)]
    have hbel : SetTable.below t.place slot = i := hi.resolve_left (by rw [hb]; simp)
    rw [hb] at hsome hlen
    show wpAny _ _ (if (!t.plain && _) = true then _ else _) _ _ _
    rw [st.pl]
    simp only [Bool.not_true, Bool.false_and, Bool.false_eq_true, if_false]
    show wpAny _ _ ((if (!t.led && _) = true then _ else _) >>= _) _ _ _
    have hled : t.led = true := by rw [st.led, hb]; rfl
    rw [hled]
    simp only [Bool.not_true, Bool.false_and, Bool.false_eq_true, if_false]
    refine wpAny_bind (wpAny_pure ?_)
    rw [hbel]
    refine wpAny_pure ?_
    obtain ⟨l, h1, h2, h3, h4⟩ := st.pos
    by_cases hlt : i < es.size
    · have hpl : i < l.length := by rw [h3, ← st.len]; exact hlt
      have e1 : es[i]? = some es[i] := Array.getElem?_eq_getElem hlt
      have e2 : t.place[i]? = some l[i] := by rw [h1, List.getElem?_toArray]; exact List.getElem?_eq_getElem hpl
      rw [e1, e2]
      exact hsome es[i] (l[i] + 1) e1 (.inr (by rw [h1]; exact below_next h2 (List.getElem?_eq_getElem hpl)))
    · have e1 : es[i]? = none := Array.getElem?_eq_none (by omega)
      rw [e1]
      exact hnone (by omega)

theorem it_type {slot i n : Nat} (h : s.heap.get? I = some (itObj slot i S n ep)) : s.TypeIs (.ref I) "set_iterator" := ⟨_, h, rfl⟩

theorem next_item {i : Nat} {Q : Option Value → Shared → Prop} (h : ItAt w I S es ep t i s.heap) (st : StSet (w.params.followText "set-order") 4 es t ns) (hne : S ≠ I) (hi : i < es.size)
    (hQ : ∀ e h', (ordOf (w.params.followText "set-order") (w.params.setOrder S ep) es)[i]? = some e → ItAt w I S es ep t (i + 1) h' → Heap.SameBut I s.heap h' → Q (some e.2) { s with heap := h' }) :
    wpAny (model prog w) A (pyNext (.ref I)) Q E s := by
  obtain ⟨slot, hI, hS, hp⟩ := h
  have hf := st.fits (by omega)
  unfold pyNext
  refine wpAny_bind (wpAny_attempt (wpAny_callSpecial?_slot (name := Str.ofString "__next__") (it_type hI) sl_next (wpAny_call_entry sl_next (it_type hI) en_next ?_ (ar_next _))))
  unfold Builtin.«set_iterator.__next__» slotArgs
  simp only [List.isEmpty_nil, Bool.not_true, Bool.false_eq_true, ↓reduceIte, bind_assoc, List.length_nil, bne_self_eq_false]
  refine wpAny_bind (wpAny_pure ?_)
  refine wpAny_bind (wpAny_fieldsOf hI rfl ?_)
  dsimp only
  refine wpAny_bind (wpAny_setEntries_of hS rfl hf ?_)
  rw [if_neg (by simp)]
  simp only [Int.toNat_natCast]
  refine wpAny_bind (next_set hS st hp (fun q => absurd q (by omega)) fun e slot' he hp' => ?_)
  dsimp only
  refine wpAny_bind (wpAny_setField hI rfl (by simp) ?_)
  have g1 : (s.heap.update I (Obj.mapFields (·.setIfInBounds 0 (rawInt (slot' : Int))))).get? I = some (itObj slot' i S es.size ep) := by
    rw [Heap.get?_update_self _ hI rfl]; rfl
  refine wpAny_bind (wpAny_setField g1 rfl (by simp) ?_)
  have g2 : ((s.heap.update I (Obj.mapFields (·.setIfInBounds 0 (rawInt (slot' : Int))))).update I (Obj.mapFields (·.setIfInBounds 1 (rawInt ((i : Int) + 1))))).get? I = some (itObj slot' (i + 1) S es.size ep) := by
    rw [Heap.get?_update_self _ g1 rfl]; rfl
  have sb := (Heap.SameBut.update s.heap I (Obj.mapFields (·.setIfInBounds 0 (rawInt (slot' : Int))))).trans (Heap.SameBut.update (s.heap.update I (Obj.mapFields (·.setIfInBounds 0 (rawInt (slot' : Int))))) I (Obj.mapFields (·.setIfInBounds 1 (rawInt ((i : Int) + 1)))))
  refine wpAny_pure ⟨_, rfl, ?_⟩
  refine wpAny_pure (hQ e _ he ⟨slot', g2, ?_, hp'⟩ sb)
  rw [sb.2 S hne]; exact hS

theorem next_end {Q : Option Value → Shared → Prop} (hh : A.handled = none) (h : ItAt w I S es ep t es.size s.heap) (st : StSet (w.params.followText "set-order") 4 es t ns)
    (hQ : ∀ h', Heap.ExtBut I s.heap h' → Q none { s with heap := h' }) : wpAny (model prog w) A (pyNext (.ref I)) Q E s := by
  obtain ⟨slot, hI, hS, hp⟩ := h
  have hf := st.fits (by omega)
  unfold pyNext
  refine wpAny_bind (wpAny_attempt (wpAny_callSpecial?_slot (name := Str.ofString "__next__") (it_type hI) sl_next (wpAny_call_entry sl_next (it_type hI) en_next ?_ (ar_next _))))
  unfold Builtin.«set_iterator.__next__» slotArgs
  simp only [List.isEmpty_nil, Bool.not_true, Bool.false_eq_true, ↓reduceIte, bind_assoc, List.length_nil, bne_self_eq_false]
  refine wpAny_bind (wpAny_pure ?_)
  refine wpAny_bind (wpAny_fieldsOf hI rfl ?_)
  dsimp only
  refine wpAny_bind (wpAny_setEntries_of hS rfl hf ?_)
  rw [if_neg (by simp)]
  simp only [Int.toNat_natCast]
  refine wpAny_bind (next_set hS st hp (fun _ => ?_) fun e slot' he _ => ?_)
  · dsimp only
    refine wpAny_bind (wpAny_setField hI rfl (by simp) ?_)
    show wpAny _ _ (newExc (.type "StopIteration") [] >>= _) _ _ _
    refine wpAny_bind ?_
    simp only [newExc, newTuple]
    refine wpAny_bind (wpAny_newObj_type ?_ (by size_fits))
    refine wpAny_bind (m := firstArgMember _ _) (wpAny_of_eq (a := Value.none) (by first | rfl | (simp only [firstArgMember]; rfl)) ?_)
    refine wpAny_newObj_type ?_ (by size_fits)
    simp only [raiseNew]
    refine wpAny_bind (wpAny_handled ?_)
    rw [show A.in1.handled = none from hh]
    refine wpAny_bind (wpAny_pure (wpAny_throw ?_))
    refine wpAny_bind (wpAny_isInstance (T := "StopIteration") (b := true) ⟨_, Heap.get?_push_size _ rfl, rfl⟩ isSubtype_stop ?_)
    exact wpAny_pure (hQ _ (((Heap.SameBut.update ..).extBut.push _).push _))
  · have hlen : (ordOf (w.params.followText "set-order") (w.params.setOrder S ep) es).size = es.size := by
      have := (ord_perm (w.params.followText "set-order") (w.params.setOrder S ep) es).length_eq
      simpa using this
    have := (Array.getElem?_eq_some_iff.mp he).1
    omega

theorem self_set {slot i n : Nat} {Q : Value → Shared → Prop} (h : s.heap.get? I = some (itObj slot i S n ep)) (hQ : Q (.ref I) s) : wpAny (model prog w) A (pyIter (.ref I)) Q E s := by
  refine wpAny_pyIter_slot (it_type h) sl_self (wpAny_call_entry sl_self (it_type h) en_self ?_ (ar_self _))
  unfold Builtin.«dict_keyiterator.__iter__» slotArgs
  simp only [List.isEmpty_nil, Bool.not_true, Bool.false_eq_true, ↓reduceIte, bind_assoc, List.length_nil, bne_self_eq_false]
  refine wpAny_bind (wpAny_pure ?_)
  exact wpAny_pure ⟨_, rfl, "set_iterator", _, it_type h, sl_next.lookup, hQ⟩

theorem walks_set (hh : A.handled = none) (hne : S ≠ I) (st : StSet (w.params.followText "set-order") 4 es t ns) :
    Walks prog w A I [I, S] [I] es.size (fun i v => ∃ e, (ordOf (w.params.followText "set-order") (w.params.setOrder S ep) es)[i]? = some e ∧ v = e.2) (fun i h => ItAt w I S es ep t i h) where
  sub := fun b hb => by simp at hb; simp [hb]
  frame := fun i h h' ⟨slot, a, b, c⟩ hk => ⟨slot, hk I (by simp) _ a, hk S (by simp) _ b, c⟩
  item := fun i s Q E hi h hQ => next_item h st hne hi fun e h' he hat sb => hQ e.2 h' s.toks ⟨e, he, rfl⟩ hat fun b o hb e => by
    rw [sb.2 b (fun q => hb (by simp [q]))]; exact e
  done := fun s Q E h hQ => next_end hh h st fun h' eb => hQ h' s.toks fun b o hb e => eb b o (fun q => hb (by simp [q])) e
  self := fun i s Q E ⟨slot, a, _, _⟩ hQ => self_set a hQ
end
end Mw

set_option maxRecDepth 100000
set_option maxHeartbeats 1000000
namespace Mw
open PySem PyProof.Rows

section
variable {prog : Program} {w : World} {A : Around} {E : Value → Shared → Prop} {s : Shared} {S : Addr} {es : Array (Int × Value)} {ep : Nat} {t : SetTable} {ns : List Nat}

theorem hint_set {Q : Bool → Shared → Prop} (hS : s.heap.get? S = some (setObj es ep t)) (h : Q false s) : wpAny (model prog w) A (Builtin.List.listLengthHint (.ref S)) Q E s := by
  have hT : s.TypeIs (.ref S) "set" := ⟨_, hS, rfl⟩
  unfold Builtin.List.listLengthHint
  refine wpAny_bind (wpAny_specialOf hT F.slot_set_len.lookup ?_)
  generalize hid : ("set.__len__" : String) = id0
  dsimp only
  rw [show splitId id0 = some ("set", "__len__") from by subst hid; decide +kernel]
  subst hid
  refine wpAny_bind (wpAny_isInstance (b := true) hT (by rw [isSubtype_type]; kernel_rfl) ?_)
  rw [if_neg (by decide)]
  first
    | (rw [if_pos (by decide +kernel)]; exact wpAny_bind (wpAny_typeOf hT (wpAny_pure h)))
    | (refine wpAny_bind (wpAny_pure ?_); rw [if_pos (by decide +kernel)]; exact wpAny_bind (wpAny_typeOf hT (wpAny_pure h)))

theorem collect_set {Q : List Value → Shared → Prop} (hh : A.handled = none) (hS : s.heap.get? S = some (setObj es ep t)) (st : StSet (w.params.followText "set-order") 4 es t ns)
    (hQ : ∀ h' tk, (∀ b o, s.heap.get? b = some o → h'.get? b = some o) → Q ((ordOf (w.params.followText "set-order") (w.params.setOrder S ep) es).toList.map (·.2)) { s with heap := h', toks := tk }) :
    wpAny (model prog w) A (collect (.ref S)) Q E s := by
  have hlt : S < s.heap.objs.size := Heap.lt_size hS
  unfold collect
  refine wpAny_bind (wpAny_runValue (codeAny_builtin F.entry_proto_collect ?_))
  rw [Around.under_plainId F.plain_proto_collect _]
  show wpAny _ A.in1 (newList [] >>= fun l => again (.builtin "list.__iadd__" ⟨[l, .ref S], []⟩)) _ _ s
  refine wpAny_bind (wpAny_newObj_type ?_)
  refine wpAny_pure ⟨plainId_quiet F.plain_list_iadd _, codeAny_builtin F.entry_list_iadd ?_⟩
  rw [Around.under_plainId F.plain_list_iadd _]
  have hS1 : (s.heap.push { cls := .type "list", data := .seq ([] : List Value).toArray }).get? S = some (setObj es ep t) := Heap.get?_push_of_some _ hS
  have hL1 : (s.heap.push { cls := .type "list", data := .seq ([] : List Value).toArray }).get? s.heap.objs.size = some { cls := .type "list", data := .seq ([] : List Value).toArray } := Heap.get?_push_size _ rfl
  show wpAny _ A.in1 (Builtin.List.listExtendWith (.ref s.heap.objs.size) (.ref S) (.ref s.heap.objs.size)) _ _ _
  unfold Builtin.List.listExtendWith
  refine wpAny_bind (wpAny_typeOf (T := "set") ⟨_, hS1, rfl⟩ ?_)
  have h1 : Builtin.List.listSameRef (.ref s.heap.objs.size) (.ref S) = false := by
    simp only [Builtin.List.listSameRef, beq_eq_false_iff_ne]; exact Nat.ne_of_gt hlt
  have h2 : (Value.type "set" == Value.type "list") = false := by decide
  have h3 : (Value.type "set" == Value.type "tuple") = false := by decide
  simp only [h1, h2, h3, Bool.or_false, Bool.false_eq_true, if_false]
  refine wpAny_bind (iter_set (s := { s with heap := s.heap.push { cls := .type "list", data := .seq ([] : List Value).toArray } }) hS1 st ?_)
  have hsz : (s.heap.push { cls := .type "list", data := .seq ([] : List Value).toArray }).objs.size = s.heap.objs.size + 1 := by rw [Heap.size_push]
  dsimp only
  rw [hsz]
  generalize hH : (s.heap.push { cls := .type "list", data := .seq ([] : List Value).toArray }).push (itObj 0 0 S es.size ep) = H
  have gI : H.get? (s.heap.objs.size + 1) = some (itObj 0 0 S es.size ep) := by rw [← hH, ← hsz]; exact Heap.get?_push_size _ rfl
  have gS : H.get? S = some (setObj es ep t) := by rw [← hH]; exact Heap.get?_push_of_some _ hS1
  have gL : H.get? s.heap.objs.size = some { cls := .type "list", data := .seq ([] : List Value).toArray } := by rw [← hH]; exact Heap.get?_push_of_some _ hL1
  have gk : ∀ b o, s.heap.get? b = some o → H.get? b = some o := fun b o e => by rw [← hH]; exact Heap.get?_push_of_some _ (Heap.get?_push_of_some _ e)
  refine wpAny_bind (wpAny_holding (hint_set (s := { s with heap := H }) gS ?_))
  show wpAny _ A.in1 (rule "list.extend.makes-room" >>= fun _ => Builtin.List.listTouch (.ref s.heap.objs.size) >>= fun _ =>
    again (.builtin "list.extend.loop" ⟨[.ref s.heap.objs.size, .ref (s.heap.objs.size + 1), .ref s.heap.objs.size], []⟩)) _ _ _
  refine wpAny_bind (wpAny_rule ?_)
  refine wpAny_bind ?_
  show wpAny _ A.in1 (updateSeq s.heap.objs.size (·.push .none) >>= fun _ => updateSeq s.heap.objs.size (·.pop)) _ _ _
  refine wpAny_bind (wpAny_updateSeq gL rfl ?_)
  have gL2 := Heap.get?_update_self (Obj.mapSeq (·.push Value.none)) gL rfl
  refine wpAny_updateSeq gL2 rfl ?_
  have gL3 := Heap.get?_update_self (Obj.mapSeq (·.pop)) gL2 rfl
  have oth : ∀ b o, b ≠ s.heap.objs.size → H.get? b = some o → ((H.update s.heap.objs.size (Obj.mapSeq (·.push Value.none))).update s.heap.objs.size (Obj.mapSeq (·.pop))).get? b = some o :=
    fun b o hb e => (Heap.get?_update_other _ _ (Ne.symm hb)).trans ((Heap.get?_update_other _ _ (Ne.symm hb)).trans e)
  have hne : S ≠ s.heap.objs.size + 1 := Nat.ne_of_lt (Nat.lt_succ_of_lt hlt)
  have W := (walks_set (prog := prog) (A := A.in1) (ep := ep) (I := s.heap.objs.size + 1) (by simp [hh]) hne st).toS
  have hn : es.size ≤ sizeLine := by rw [st.len]; have := st.le9; rw [sizeLine_eq]; omega
  refine wpAny_pure ⟨plainId_quiet F.plain_extend_loop _, codeAny_extend_loopS (A := A) (W := W) hn s.heap.objs.size (by simp only [List.mem_cons, List.not_mem_nil, or_false, not_or]; exact ⟨Nat.ne_of_lt (Nat.lt_succ_self _), Nat.ne_of_gt hlt⟩) _ es.size 0 _ _ _ rfl (Nat.zero_le _) ?_ gL3 (ItemsOf.nil _) fun s' acc' c' hm hS' hacc => ?_⟩
  · refine ⟨0, oth _ _ (Nat.succ_ne_self _) gI, oth _ _ (Nat.ne_of_lt hlt) gS, .inr ?_⟩
    obtain ⟨l, h1, h2, _⟩ := st.pos
    rw [h1]; exact below_zero h2
  · show wpAny _ A (load s.heap.objs.size >>= _) _ _ s'
    refine wpAny_bind (wpAny_load hS' ?_)
    have hlen : (ordOf (w.params.followText "set-order") (w.params.setOrder S ep) es).size = es.size := by
      have := (ord_perm (w.params.followText "set-order") (w.params.setOrder S ep) es).length_eq
      simpa using this
    have hacc' : acc'.toList = (ordOf (w.params.followText "set-order") (w.params.setOrder S ep) es).toList.map (·.2) := by
      refine List.ext_getElem? fun i => ?_
      rw [List.getElem?_map, Array.getElem?_toList, Array.getElem?_toList]
      cases q : acc'[i]? with
      | some v => obtain ⟨e, he, rfl⟩ := hacc.2 i v q; rw [he]; rfl
      | none =>
        have := Array.getElem?_eq_none_iff.mp q
        rw [Array.getElem?_eq_none (by rw [hlen, ← hacc.1]; exact this)]; rfl
    obtain ⟨h', g', d', tk', os'⟩ := s'
    have eg : g' = s.gens := hm.gens
    have ed : d' = s.drawn := hm.drawn
    have eo : os' = s.os := hm.os
    subst eg; subst ed; subst eo
    refine wpAny_pure ?_
    rw [hacc']
    refine hQ h' tk' fun b o e => ?_
    have hb : b < s.heap.objs.size := Heap.lt_size e
    exact hm.heap b o (by simp only [List.mem_cons, List.not_mem_nil, or_false, not_or]; exact ⟨Nat.ne_of_lt hb, Nat.ne_of_lt (Nat.lt_succ_of_lt hb)⟩) (oth b o (Nat.ne_of_lt hb) (gk b o e))

theorem sorted_set {Q : Value → Shared → Prop} (hh : A.handled = none) (hS : s.heap.get? S = some (setObj es ep t)) (st : StSet (w.params.followText "set-order") 4 es t ns)
    (h : ∀ h' tk a (out : Array Value) (ns' : List Int) e, h'.get? a = some (seqObj "list" out e) → s.heap.get? a = none → (∀ b o, s.heap.get? b = some o → h'.get? b = some o) → IntsAre out.toList ns' → ns'.Perm (ns.map fun n : Nat => (n : Int)) → ns'.Pairwise (· ≤ ·) → Q (.ref a) { s with heap := h', toks := tk }) :
    wpAny (model prog w) A (call (.builtin "sorted") [.ref S]) Q E s := by
  refine Calls.call_function_entry kind_sorted plain_sorted entry_sorted (args_sorted1 _) ?_
  unfold Builtin.«sorted»
  refine wpAny_bind (m := checkCount "sorted" 1 1 _) (wpAny_pure ?_)
  refine wpAny_bind (collect_set (by simp [hh]) hS st fun h1 tk k1 => ?_)
  have hI : ∃ ks : List Nat, IntsAre ((ordOf (w.params.followText "set-order") (w.params.setOrder S ep) es).toList.map (·.2)) (ks.map fun n : Nat => (n : Int)) ∧ ks.Perm ns := by
    have pm := ord_perm (w.params.followText "set-order") (w.params.setOrder S ep) es
    generalize (ordOf (w.params.followText "set-order") (w.params.setOrder S ep) es).toList = l at pm
    refine ⟨l.map fun e => e.1.toNat, ?_, ?_⟩
    · have ent : ∀ x ∈ l, ∃ v u, v ∈ ns ∧ x = ((v : Int), .int (v : Int) u) := fun x hx => st.ent (pm.mem_iff.mp hx)
      clear pm
      induction l with
      | nil => exact .nil
      | cons x r ih =>
        obtain ⟨v, u, _, rfl⟩ := ent x (by simp)
        exact .cons _ _ (ih fun y hy => ent y (by simp [hy]))
    · have q := pm.map fun e : Int × Value => e.1.toNat
      have e2 : es.toList.map (fun e => e.1.toNat) = ns := by
        have : es.toList.map (fun e => e.1.toNat) = (es.toList.map (·.1)).map Int.toNat := by rw [List.map_map]; rfl
        rw [this, st.hash, List.map_map]
        have : (Int.toNat ∘ fun n : Nat => (n : Int)) = id := by funext n; simp
        rw [this, List.map_id]
      rwa [e2] at q
  obtain ⟨ks, hI, pk⟩ := hI
  generalize (ordOf (w.params.followText "set-order") (w.params.setOrder S ep) es).toList.map (·.2) = vs at hI
  have h64 : vs.length < 64 := by
    have := IntsAre.length hI
    rw [this, List.length_map, pk.length_eq]
    have := st.le9; omega
  refine wpAny_bind (wpAny_newList ?_)
  have hoL : (h1.push (seqObj "list" vs.toArray 0)).get? h1.objs.size = some (seqObj "list" vs.toArray 0) := Heap.get?_push_size _ rfl
  refine wpAny_bind (wpAny_holding (wpAny_call_entry slot_list_sort ⟨_, hoL, rfl⟩ entry_list_sort (list_sort_tree hoL hI h64 fun out ns' a1 a2 a3 => ⟨_, rfl, ?_⟩) (args_list_sort _)))
  obtain ⟨e, he⟩ := sortedHeap_at (out := out) hoL
  have hle : s.heap.get? h1.objs.size = none := by
    cases q : s.heap.get? h1.objs.size with
    | none => rfl
    | some o => exact absurd (Heap.lt_size (k1 _ _ q)) (Nat.lt_irrefl _)
  refine wpAny_pure ⟨_, rfl, h _ _ _ out ns' e he hle (fun b o q => ?_) a1 (a2.trans (pk.map _)) a3⟩
  have hb := Heap.lt_size (k1 b o q)
  rw [sortedHeap_old (Nat.ne_of_lt hb) (by rw [size_push']; exact Nat.lt_succ_of_lt hb), Heap.get?_push_ne _ _ _ (Nat.ne_of_lt hb)]
  exact k1 b o q
end
end Mw

set_option maxRecDepth 10000
namespace Mw
open PySem

section
variable {B : Bs} {Φ : Fns} {n : Nat}
theorem snd_sortedSet (hB : B.Ok) {a : X} (ha : SndE B Φ n a) : SndE B Φ n (.sortedSet a) := by
  intro A env names W₀ W ρ s x r E hok cx hev
  replace hok := iv_sortedSet hok
  obtain ⟨id, p, id', p', y, pos', pos, rfl, hok⟩ := hok
  simp only [Bool.and_eq_true, beq_iff_eq] at hok
  obtain ⟨⟨⟨⟨⟨rfl, h1⟩, rfl⟩, h2⟩, hs⟩, hy⟩ := hok
  cases ea : evE Φ a ρ with
  | none => simp only [Z1, Z2, Z3, Z4, Z5, Z6, Z7, Z8, Z9, Z10, Z11, Z12, Z13, Z14, Z15, Z16, Z17, Z18, Z19, Z20, Z21, Z22, Z23, Z24, Z25, Z26, Z27, Z28, Z29, Z30, Z31] at hev; rw [ea] at hev; cases hev
  | some xa =>
    obtain ⟨c, d⟩ := xa
    have hev' : onL d (fun xs => (setD xs).map fun ys => (Cl.fresh, PyData.list ys)) = some r := by simp only [Z1, Z2, Z3, Z4, Z5, Z6, Z7, Z8, Z9, Z10, Z11, Z12, Z13, Z14, Z15, Z16, Z17, Z18, Z19, Z20, Z21, Z22, Z23, Z24, Z25, Z26, Z27, Z28, Z29, Z30, Z31] at hev; rw [ea] at hev; exact hev
    obtain ⟨xs, rfl, hev'⟩ := onL_inv hev'
    obtain ⟨ys, hd, rfl⟩ := Option.map_eq_some_iff.mp hev'
    obtain ⟨is, hi, hd⟩ := Option.bind_eq_some_iff.mp hd
    obtain ⟨hall, e⟩ := if_inv hd
    cases e
    have hall' : ∀ i ∈ is, 0 ≤ i ∧ i < 9 := fun i hi => by
      have := List.all_eq_true.mp hall i hi
      simpa using this
    refine eval_call (load_built (v := .builtin "sorted") hB cx h1 (by decide) (call_any (.inl ⟨_, rfl⟩) rfl ?_))
    refine wpAny_items_cons ?_ (star_cons rfl)
    refine eval_call (load_built (v := .type "set") hB cx h2 (by decide) (call_any (.inr ⟨_, rfl⟩) (by simp [hs]) (one_arg ha hs hy cx ea fun v s₁ q => ?_)))
    obtain ⟨l, vs, m, rfl, _, ho, rl⟩ := (q.2.dirty cx.le).list_inv
    have hI := intsAre_of rl hi
    have hcast : is = (is.map Int.toNat).map fun n : Nat => (n : Int) := by
      rw [List.map_map]
      refine List.ext_getElem (by simp) fun i h1 h2 => ?_
      have := (hall' is[i] (List.getElem_mem _)).1
      simp; omega
    rw [hcast] at hI
    refine call_set cx.room.handled ⟨_, ho, rfl, m, rfl⟩ hI (fun v hv => ?_) fun h' tk es ep t ns hg st hm hk => ?_
    · obtain ⟨i, hi, rfl⟩ := List.mem_map.mp hv
      have := hall' i hi; omega
    refine wpAny_items_nil ?_
    have k1 : Keeps s₁ { s₁ with heap := h', toks := tk } := ⟨h', tk, rfl, fun b o e => hk b o (Heap.lt_size e) e⟩
    have cx₂ := (cx.keeps q.1).keeps k1
    refine sorted_set (s := { s₁ with heap := h', toks := tk }) cx.room.handled hg st fun h2 tk2 a2 out ns' e2 g2 f2 k2 i2 p2 o2 => ?_
    have k3 : Keeps { s₁ with heap := h', toks := tk } { s₁ with heap := h2, toks := tk2 } := ⟨h2, tk2, rfl, k2⟩
    refine Post.trans (keeps_trans q.1 k1) ⟨k3, ?_⟩
    refine rv_new_list (n := e2) (vs := out.toList) (wfresh cx₂.wok f2) f2 (by rw [g2]) ?_
    have hfin : ns' = ((List.range 9).filter fun n : Nat => decide ((n : Int) ∈ is)).map fun n : Nat => (n : Int) := by
      have hmem : ∀ x : Nat, x ∈ ns ↔ ((x : Nat) : Int) ∈ is := fun x => by
        rw [hm x, List.mem_map]
        constructor
        · rintro ⟨i, hi, rfl⟩
          have := (hall' i hi).1
          rw [Int.toNat_of_nonneg this]; exact hi
        · exact fun h => ⟨_, h, by simp⟩
      have pn : ns.Perm ((List.range 9).filter fun n : Nat => decide ((n : Int) ∈ is)) := by
        refine (List.perm_ext_iff_of_nodup st.nd (List.nodup_range.sublist List.filter_sublist)).mpr fun x => ?_
        rw [List.mem_filter, List.mem_range, decide_eq_true_eq, ← hmem]
        exact ⟨fun h => ⟨st.lt x h, h⟩, fun h => h.2⟩
      refine (p2.trans (pn.map _)).eq_of_pairwise (fun _ _ _ _ a b => Int.le_antisymm a b) o2 ?_
      rw [List.pairwise_map]
      exact List.Pairwise.imp (fun h => by omega) (List.Pairwise.sublist List.filter_sublist List.pairwise_lt_range)
    have := ofInts h2 W i2
    rw [hfin, List.map_map] at this
    exact this
end
end Mw

set_option maxRecDepth 10000
namespace Mw
open PySem

structure Src (B : Bs) (A : Around) (I : Addr) (wr fp : List Addr) (items : List PyData) (St : Nat → Heap → (Addr → Prop) → Prop) : Prop where
  frame : ∀ i h W h' W', St i h W → (∀ b o, b ∈ fp → h.get? b = some o → h'.get? b = some o) → (∀ b o, ¬ W b → h.get? b = some o → ¬ W' b ∧ h'.get? b = some o) → St i h' W'
  item : ∀ (tg : PySem.Expr) (i : Nat) (d : PyData) (s : Shared) (W : Addr → Prop) (Q : Value → Shared → Prop) (E : Value → Shared → Prop), (∃ elts k p, tg = .Tuple elts k p) ∨ (∃ x p, tg = .Name x p) → ((∃ x p, tg = .Name x p) → wr = [I]) →
    items[i]? = some d → St i s.heap W → (∀ b ∈ wr, W b) → (∀ a, W a → ∃ o, s.heap.get? a = some o ∧ NoTup o) →
    (∀ v h' tk, Rep h' W v d → St (i + 1) h' W → (∀ b o, b ∉ wr → s.heap.get? b = some o → h'.get? b = some o) → Q v { s with heap := h', toks := tk }) →
    wpAny B.M A (pyNext (.ref I)) (fun r s₁ => match r with | none => False | some v => wpAny B.M A (letOwnedTupleGo tg (.ref I) v) (fun _ s₂ => Q v s₂) E s₁) E s
  done : ∀ (s : Shared) (W : Addr → Prop) (Q : Shared → Prop) (E : Value → Shared → Prop), St items.length s.heap W →
    (∀ h' tk, (∀ b o, b ∉ wr → s.heap.get? b = some o → h'.get? b = some o) → Q { s with heap := h', toks := tk }) → wpAny B.M A (pyNext (.ref I)) (fun r s₁ => match r with | none => Q s₁ | some _ => False) E s
  self : ∀ (i : Nat) (s : Shared) (W : Addr → Prop) (Q : Value → Shared → Prop) (E : Value → Shared → Prop), St i s.heap W → Q (.ref I) s → wpAny B.M A (pyIter (.ref I)) Q E s
  wrfp : ∀ b ∈ wr, b ∈ fp
  obj : ∀ i h W, St i h W → ∀ b ∈ wr, ∃ o, h.get? b = some o ∧ NoTup o

noncomputable def IterOk (B : Bs) (A : Around) (W : Addr → Prop) (np : Bool) (items : List PyData) (s : Shared) (pair : Bool) (it : Value) (s₂ : Shared) : Prop :=
  ∃ I wr fp St, it = .ref I ∧ Keeps s s₂ ∧ (∀ b ∈ wr, s.heap.get? b = none) ∧ Src B A I wr fp items St ∧ St 0 s₂.heap (fun a => W a ∨ a ∈ wr) ∧
    (∀ b ∈ fp, b ∈ wr ∨ ((∃ o, s₂.heap.get? b = some o ∧ ∃ vs k, o.data = .seq vs k) ∧ (np = false → ¬ W b))) ∧ (pair = false → wr = [I]) ∧ items.length ≤ maxLen

theorem Src.turn {B : Bs} {A : Around} {I : Addr} {wr fp : List Addr} {items : List PyData} {St : Nat → Heap → (Addr → Prop) → Prop} (src : Src B A I wr fp items St) {tg : PySem.Expr} {i : Nat} {d : PyData} {s : Shared} {W : Addr → Prop} {N : Shared → Prop} {Q : Value → Shared → Prop} {E : Value → Shared → Prop}
    (h1 : (∃ elts k p, tg = .Tuple elts k p) ∨ (∃ x p, tg = .Name x p)) (h2 : (∃ x p, tg = .Name x p) → wr = [I]) (hd : items[i]? = some d) (st : St i s.heap W) (hw : ∀ b ∈ wr, W b) (wok : ∀ a, W a → ∃ o, s.heap.get? a = some o ∧ NoTup o)
    (hQ : ∀ v h' tk, Rep h' W v d → St (i + 1) h' W → (∀ b o, b ∉ wr → s.heap.get? b = some o → h'.get? b = some o) → Q v { s with heap := h', toks := tk }) :
    wpAny B.M A (pyNext (.ref I)) (fun r s₁ => match r with | none => N s₁ | some v => wpAny B.M A (letOwnedTupleGo tg (.ref I) v) (fun _ s₂ => Q v s₂) E s₁) E s :=
  wpAny_mono (src.item tg i d s W Q E h1 h2 hd st hw wok hQ) (fun r s₁ h => by cases r with | none => exact h.elim | some v => exact h) fun _ _ e => e
theorem Src.stop {B : Bs} {A : Around} {I : Addr} {wr fp : List Addr} {items : List PyData} {St : Nat → Heap → (Addr → Prop) → Prop} (src : Src B A I wr fp items St) {s : Shared} {W : Addr → Prop} {N : Shared → Prop} {K : Value → Shared → Prop} {E : Value → Shared → Prop}
    (st : St items.length s.heap W) (hQ : ∀ h' tk, (∀ b o, b ∉ wr → s.heap.get? b = some o → h'.get? b = some o) → N { s with heap := h', toks := tk }) :
    wpAny B.M A (pyNext (.ref I)) (fun r s₁ => match r with | none => N s₁ | some v => K v s₁) E s :=
  wpAny_mono (src.done s W N E st hQ) (fun r s₁ h => by cases r with | none => exact h | some v => exact h.elim) fun _ _ e => e

section
variable {B : Bs} {A : Around} {s : Shared} {E : Value → Shared → Prop}
noncomputable def ownersOf : List String := ["enumerate", "zip", "dict_itemiterator", "dict_reverseitemiterator", "odict_iterator", "itertools.zip_longest", "itertools.pairwise"]
theorem go_plain {tg : PySem.Expr} {I : Addr} {v : Value} {o : Obj} {T : String} {Q : Unit → Shared → Prop} (htg : (∃ elts k p, tg = .Tuple elts k p) ∨ (∃ x p, tg = .Name x p)) (ho : s.heap.get? I = some o) (hc : o.cls = .type T) (hT : ownersOf.contains T = false) (h : Q () s) :
    wpAny B.M A (letOwnedTupleGo tg (.ref I) v) Q E s := by
  rcases htg with ⟨elts, k, p, rfl⟩ | ⟨x, p, rfl⟩
  · unfold letOwnedTupleGo
    cases v <;> first | exact wpAny_pure h | skip
    refine wpAny_bind (wpAny_load ho ?_)
    obtain ⟨c, dd, dt, sl⟩ := o
    simp only at hc
    subst hc
    cases dt <;> first | exact wpAny_pure h | skip
    rename_i a vs
    show wpAny B.M A (if (ownersOf.contains T && vs[0]? == some (rawInt a)) = true then _ else _) Q E s
    rw [hT, Bool.false_and, if_neg (by simp)]
    exact wpAny_pure h
  · exact wpAny_pure h

theorem not_none_of {P : Prop} {h : Heap} {b : Addr} {o : Obj} (e : h.get? b = none) (ho : h.get? b = some o) : P := by rw [e] at ho; cases ho

theorem src_walks {T : String} {I ax : Addr} {vs : Array Value} {items : List PyData} {St₀ : Nat → Heap → Prop} (hT : ownersOf.contains T = false) (hTt : T ≠ "tuple")
    (Wk : Walks B.prog B.w A I [I, ax] [I] vs.size (fun i v => vs[i]? = some v) St₀) (hcls : ∀ i h, St₀ i h → ∃ o, h.get? I = some o ∧ o.cls = .type T) (hlen : vs.size = items.length) :
    Src B A I [I] [I, ax] items (fun i h W => St₀ i h ∧ RepL h W vs.toList items) where
  frame := fun i h W h' W' st hf hs => ⟨Wk.frame i h h' st.1 fun b hb o e => hf b o hb e, st.2.mono hs⟩
  item := by
    intro tg i d s W Q E htg _ hd st hw wok hQ
    have hi : i < vs.size := by rw [hlen]; exact (List.getElem?_eq_some_iff.mp hd).1
    refine Wk.item i s _ E hi st.1 fun v h' tk hv hst hk => ?_
    obtain ⟨o, ho, hc⟩ := hcls _ _ hst
    have hsub : ∀ b o, ¬ W b → s.heap.get? b = some o → ¬ W b ∧ h'.get? b = some o := fun b o hb e => ⟨hb, hk b o (fun hm => hb (hw b hm)) e⟩
    have rl := st.2.mono hsub
    refine go_plain htg (o := o) (by exact ho) hc hT (hQ v h' tk ?_ ⟨hst, rl⟩ hk)
    exact rl.2 i v d (by rw [Array.getElem?_toList]; exact hv) hd
  done := by
    intro s W Q E st hQ
    refine Wk.done s _ E (by have := st.1; rwa [← hlen] at this) fun h' tk hk => hQ h' tk hk
  self := fun i s W Q E st hQ => Wk.self i s Q E st.1 hQ
  wrfp := fun b hb => by simp at hb; simp [hb]
  obj := fun i h W st b hb => by
    simp at hb; subst hb
    obtain ⟨o, ho, hc⟩ := hcls _ _ st.1
    exact ⟨o, ho, fun _ _ _ => by rw [hc]; exact fun e => hTt (by injection e)⟩

theorem iter_list {W : Addr → Prop} {np pair : Bool} {ax : Addr} {vs : Array Value} {n : Nat} {items : List PyData} {s₀ : Shared} (hh : A.handled = none) (k₀ : Keeps s₀ s)
    (ho : s.heap.get? ax = some (lObj vs n)) (rl : RepL s.heap W vs.toList items) (hnp : np = false → ¬ W ax) (hlen : items.length ≤ maxLen) :
    wpAny B.M A (pyIter (.ref ax)) (IterOk B A W np items s₀ pair) E s := by
  have hl : s.heap.IsList ax vs := ⟨_, ho, rfl, n, rfl⟩
  refine wpAny_pyIter_list hl ?_
  have hne : ax ≠ s.heap.objs.size := Nat.ne_of_lt (Heap.lt_size ho)
  have hI : (s.heap.push { cls := .type "list_iterator", data := .fields #[.ref ax, .int 0 0] }).IsListIter s.heap.objs.size ax 0 := ⟨_, Heap.get?_push_size _ rfl, rfl, rfl⟩
  refine ⟨s.heap.objs.size, [s.heap.objs.size], [s.heap.objs.size, ax], _, rfl, keeps_trans k₀ (keeps_push s _), ?_, src_walks (T := "list_iterator") (by decide) (by decide) (Walks.list hh s.heap.objs.size ax hne vs) ?_ (seq_size rl),
    ⟨⟨hI, hl.push _⟩, ?_⟩, ?_, fun _ => rfl, hlen⟩
  · intro b hb; simp at hb; subst hb; exact none_of_keeps k₀ none_of_size
  · intro i h st; obtain ⟨o, h1, h2, _⟩ := st.1; exact ⟨o, h1, h2⟩
  · refine rl.mono fun a o hw ho => ⟨fun x => x.elim hw fun hm => ?_, Heap.get?_push_of_some _ ho⟩
    simp at hm; subst hm; exact not_none_of none_of_size ho
  · intro b hb
    simp at hb
    rcases hb with rfl | rfl
    · exact .inl (by simp)
    · exact .inr ⟨⟨_, Heap.get?_push_of_some _ ho, _, _, rfl⟩, hnp⟩
theorem iter_tuple {W : Addr → Prop} {np pair : Bool} {ax : Addr} {vs : Array Value} {n : Nat} {items : List PyData} {s₀ : Shared} (hh : A.handled = none) (k₀ : Keeps s₀ s)
    (ho : s.heap.get? ax = some (tObj vs n)) (rl : RepL s.heap W vs.toList items) (hnp : np = false → ¬ W ax) (hlen : items.length ≤ maxLen) :
    wpAny B.M A (pyIter (.ref ax)) (IterOk B A W np items s₀ pair) E s := by
  have hl : s.heap.IsTuple ax vs := ⟨_, ho, rfl, n, rfl⟩
  refine wpAny_pyIter_tuple hl ?_
  have hne : ax ≠ s.heap.objs.size := Nat.ne_of_lt (Heap.lt_size ho)
  have hI : (s.heap.push { cls := .type "tuple_iterator", data := .fields #[.ref ax, .int 0 0] }).IsTupleIter s.heap.objs.size ax 0 := ⟨_, Heap.get?_push_size _ rfl, rfl, rfl⟩
  refine ⟨s.heap.objs.size, [s.heap.objs.size], [s.heap.objs.size, ax], _, rfl, keeps_trans k₀ (keeps_push s _), ?_, src_walks (T := "tuple_iterator") (by decide) (by decide) (Walks.tuple hh s.heap.objs.size ax hne vs) ?_ (seq_size rl),
    ⟨⟨hI, ⟨_, Heap.get?_push_of_some _ ho, rfl, n, rfl⟩⟩, ?_⟩, ?_, fun _ => rfl, hlen⟩
  · intro b hb; simp at hb; subst hb; exact none_of_keeps k₀ none_of_size
  · intro i h st; obtain ⟨o, h1, h2, _⟩ := st.1; exact ⟨o, h1, h2⟩
  · refine rl.mono fun a o hw ho => ⟨fun x => x.elim hw fun hm => ?_, Heap.get?_push_of_some _ ho⟩
    simp at hm; subst hm; exact not_none_of none_of_size ho
  · intro b hb
    simp at hb
    rcases hb with rfl | rfl
    · exact .inl (by simp)
    · exact .inr ⟨⟨_, Heap.get?_push_of_some _ ho, _, _, rfl⟩, hnp⟩

theorem rangeL_get {a b : Int} {i : Nat} {d : PyData} (h : (rangeL a b)[i]? = some d) : i < (b - a).toNat ∧ d = .int (a + (i : Int)) := by
  simp only [rangeL, List.getElem?_map, Option.map_eq_some_iff] at h
  obtain ⟨j, hj, rfl⟩ := h
  obtain ⟨h1, e⟩ := List.getElem?_eq_some_iff.mp hj
  simp at e h1
  subst e
  exact ⟨by omega, rfl⟩

theorem src_range {I : Addr} {a b : Int} (hh : A.handled = none) :
    Src B A I [I] [I] (rangeL a b) (fun i h _ => IsRangeIter h I (a + (i : Nat) * 1) (((b - a).toNat : Int) - (i : Nat)) 1) where
  frame := fun i h W h' W' st hf _ => hf I _ (by simp) st
  item := by
    intro tg i d s W Q E htg _ hd st hw wok hQ
    obtain ⟨hi, rfl⟩ := rangeL_get hd
    refine (Walks.range (prog := B.prog) (w := B.w) hh I a 1 (b - a).toNat).item i s _ E hi st fun v h' tk hv hst hk => ?_
    obtain ⟨t, rfl⟩ := hv
    refine go_plain htg (o := _) (T := "range_iterator") hst rfl (by decide) (hQ _ h' tk ?_ hst hk)
    rw [Int.mul_one]; exact .int _ _
  done := by
    intro s W Q E st hQ
    refine (Walks.range (prog := B.prog) (w := B.w) hh I a 1 (b - a).toNat).done s _ E (by simpa [rangeL] using st) fun h' tk hk => hQ h' tk hk
  self := fun i s W Q E st hQ => wpAny_pyIter_rangeiter st hQ
  wrfp := fun b hb => hb
  obj := fun i h W st b hb => by
    simp at hb; subst hb
    exact ⟨_, st, fun _ _ _ => by simp⟩

theorem iter_range {W : Addr → Prop} {pair : Bool} {r : Addr} {a b : Int} {t u v : Tok} {s₀ : Shared} (hh : A.handled = none) (k₀ : Keeps s₀ s) (hr : IsRange s.heap r a b 1 t u v) (ha : -4096 ≤ a) (ha' : a ≤ 4096) (hb : -4096 ≤ b) (hb' : b ≤ 4096) (hlen : (rangeL a b).length ≤ maxLen) :
    wpAny B.M A (pyIter (.ref r)) (IterOk B A W false (rangeL a b) s₀ pair) E s := by
  refine wpAny_pyIter_range hr (small_one (by omega) (by omega) (by omega) (by omega)) ?_
  refine ⟨s.heap.objs.size, [s.heap.objs.size], [s.heap.objs.size], _, rfl, keeps_trans k₀ (keeps_push s _), ?_, src_range hh, ?_, fun b hb => .inl hb, fun _ => rfl, hlen⟩
  · intro b hb; simp at hb; subst hb; exact none_of_keeps k₀ none_of_size
  · show IsRangeIter _ _ _ _ _
    rw [range_size]
    simpa using Heap.get?_push_size s.heap (o := { cls := .type "range_iterator", data := .fields #[rawInt a, rawInt ((b - a).toNat : Int), rawInt 1] }) rfl

theorem enumL_get {xs : List PyData} {i : Nat} {d : PyData} (h : (enumL xs)[i]? = some d) : ∃ x, xs[i]? = some x ∧ d = .tuple [.int (i : Int), x] := by
  simp only [enumL, List.getElem?_map, Option.map_eq_some_iff] at h
  obtain ⟨j, hj, rfl⟩ := h
  obtain ⟨h1, e⟩ := List.getElem?_eq_some_iff.mp hj
  simp at e h1
  subst e
  exact ⟨xs[i], List.getElem?_eq_getElem h1, by rw [List.getD_eq_getElem?_getD, List.getElem?_eq_getElem h1]; rfl⟩
theorem enumL_length (xs : List PyData) : (enumL xs).length = xs.length := by simp [enumL]

theorem src_enum {e it ax : Addr} {vs : Array Value} {xs : List PyData} (hh : A.handled = none) (h1 : e ≠ it) (h2 : ax ≠ e) (h3 : ax ≠ it) :
    Src B A e [e, it] [e, it, ax] (enumL xs) (fun i h W => (∃ old, IsEnum h e it i old) ∧ h.IsListIter it ax i ∧ h.IsList ax vs ∧ RepL h W vs.toList xs) where
  frame := fun i h W h' W' st hf hs => by
    obtain ⟨⟨old, a1⟩, a2, a3, a4⟩ := st
    exact ⟨⟨old, hf e _ (by simp) a1⟩, a2.at fun o x => hf it o (by simp) x, a3.at fun o x => hf ax o (by simp) x, a4.mono hs⟩
  item := by
    intro tg i d s W Q E htg hone hd st hw wok hQ
    obtain ⟨⟨old, a1⟩, a2, a3, a4⟩ := st
    obtain ⟨x, hx, rfl⟩ := enumL_get hd
    obtain ⟨v, hv, rv⟩ := a4.get hx
    obtain ⟨elts, k, p, rfl⟩ : ∃ elts k p, tg = .Tuple elts k p := htg.resolve_right fun q => by have := hone q; simp at this
    refine wpAny_pyNext_enum_item a1 a2 a3 (x := v) (by rw [← Array.getElem?_toList]; exact hv) h1 fun h' b1 b2 b3 b4 bk => ?_
    refine wpAny_letOwnedTupleGo_enum b1 fun h'' c1 cs => ?_
    have hTe : s.heap.objs.size ≠ e := by
      intro q; obtain ⟨o, ho, _⟩ := wok e (hw e (by simp)); rw [← q] at ho; exact not_none_of none_of_size ho
    have hk : ∀ b o, b ∉ [e, it] → s.heap.get? b = some o → h''.get? b = some o := fun b o hb ho => by
      simp only [List.mem_cons, List.not_mem_nil, or_false, not_or] at hb
      exact cs.extBut b o hb.1 (bk b o hb.1 hb.2 ho)
    have hsub : ∀ b o, ¬ W b → s.heap.get? b = some o → ¬ W b ∧ h''.get? b = some o := fun b o hb ho => ⟨hb, hk b o (fun hm => hb (hw b hm)) ho⟩
    have hTw : ¬ W s.heap.objs.size := wfresh wok none_of_size
    refine hQ (.ref s.heap.objs.size) h'' _ ?_ ⟨⟨v, ?_⟩, b2.extBut cs.extBut (Ne.symm h1), ?_, a4.mono hsub⟩ hk
    · have r1 : RepL h'' W [.int i s.toks, v] [.int (i : Int), x] := .cons (.int _ _) (.one (rv.mono hsub))
      exact Rep.tuple (n := 0) hTw (cs.extBut _ _ hTe b3) r1.1 r1.2
    · have := c1; simpa using this
    · exact a3.at fun o ho => hk ax o (by simp [h2, h3]) ho
  done := by
    intro s W Q E st hQ
    obtain ⟨⟨old, a1⟩, a2, a3, a4⟩ := st
    refine wpAny_pyNext_enum_end hh a1 a2 a3 ?_ fun h' hx => ?_
    · rw [← Array.getElem?_toList]; exact List.getElem?_eq_none_iff.mpr (by rw [a4.1, enumL_length]; exact Nat.le_refl _)
    · exact hQ h' s.toks fun b o hb ho => hx b o (fun q => hb (by simp [q])) ho
  self := fun i s W Q E st hQ => by
    obtain ⟨⟨old, a1⟩, _⟩ := st
    exact wpAny_pyIter_enum a1 hQ
  wrfp := fun b hb => by simp at hb ⊢; rcases hb with rfl | rfl <;> simp
  obj := fun i h W st b hb => by
    obtain ⟨⟨old, a1⟩, ⟨o, ho, hc, _⟩, _⟩ := st
    simp at hb
    rcases hb with rfl | rfl
    · exact ⟨_, a1, fun _ _ _ => by simp⟩
    · exact ⟨o, ho, fun _ _ _ => by rw [hc]; simp⟩

theorem iter_enum {W : Addr → Prop} {np : Bool} {ax : Addr} {vs : Array Value} {n : Nat} {xs : List PyData} {s₀ : Shared} (hh : A.handled = none) (k₀ : Keeps s₀ s)
    (ho : s.heap.get? ax = some (lObj vs n)) (rl : RepL s.heap W vs.toList xs) (hnp : np = false → ¬ W ax) (hlen : xs.length ≤ maxLen) :
    wpAny B.M A (call (.type "enumerate") [.ref ax]) (fun v s₁ => wpAny B.M A (pyIter v) (IterOk B A W np (enumL xs) s₀ true) E s₁) E s := by
  have hl : s.heap.IsList ax vs := ⟨_, ho, rfl, n, rfl⟩
  refine call_enumerate_list hl fun h' c1 c2 c3 ck => wpAny_pyIter_enum c1 ?_
  have hlt : ax < s.heap.objs.size := Heap.lt_size ho
  have hne1 : (s.heap.objs.size + 1 : Addr) ≠ s.heap.objs.size := Nat.succ_ne_self _
  have hne2 : ax ≠ (s.heap.objs.size + 1 : Addr) := Nat.ne_of_lt (Nat.lt_succ_of_lt hlt)
  have hne3 : ax ≠ s.heap.objs.size := Nat.ne_of_lt hlt
  have hn1 : s.heap.get? (s.heap.objs.size + 1) = none := by
    cases q : s.heap.get? (s.heap.objs.size + 1) with
    | none => rfl
    | some o => exact absurd (Heap.lt_size q) (Nat.not_lt.mpr (Nat.le_succ _))
  have kk : Keeps s { s with heap := h' } := ⟨h', s.toks, rfl, ck⟩
  refine ⟨s.heap.objs.size + 1, [s.heap.objs.size + 1, s.heap.objs.size], [s.heap.objs.size + 1, s.heap.objs.size, ax], _, rfl, keeps_trans k₀ kk, ?_, src_enum (vs := vs) hh hne1 hne2 hne3,
    ⟨⟨.none, c1⟩, c2, hl.at fun o e => ck _ _ e, ?_⟩, ?_, fun h => by simp at h, by rw [enumL_length]; exact hlen⟩
  · intro b hb
    simp at hb
    rcases hb with rfl | rfl
    · exact none_of_keeps k₀ hn1
    · exact none_of_keeps k₀ none_of_size
  · refine rl.mono fun a o hw ho => ⟨fun x => x.elim hw fun hm => ?_, ck _ _ ho⟩
    simp at hm
    rcases hm with rfl | rfl
    · exact not_none_of hn1 ho
    · exact not_none_of none_of_size ho
  · intro b hb
    simp at hb
    rcases hb with rfl | rfl | rfl
    · exact .inl (by simp)
    · exact .inl (by simp)
    · exact .inr ⟨⟨_, ck _ _ ho, _, _, rfl⟩, hnp⟩
end
end Mw

set_option maxRecDepth 10000
namespace Mw
open PySem

section
variable {B : Bs} {Φ : Fns} {n : Nat} {A : Around} {env : Env} {names : List Str} {W₀ W : Addr → Prop} {ρ : Rho} {s : Shared} {E : Value → Shared → Prop}

noncomputable def Only (P : Addr → Prop) (s s' : Shared) : Prop := (∃ h tk, s' = { s with heap := h, toks := tk }) ∧ ∀ b o, ¬ P b → s.heap.get? b = some o → s'.heap.get? b = some o
theorem Only.of {P : Addr → Prop} {s s' : Shared} (k : Keeps s s') : Only P s s' := by
  obtain ⟨h, tk, rfl, k⟩ := k; exact ⟨⟨h, tk, rfl⟩, fun b o _ e => k b o e⟩
theorem Only.trans {P : Addr → Prop} {s₁ s₂ s₃ : Shared} (x : Only P s₁ s₂) (y : Only P s₂ s₃) : Only P s₁ s₃ := by
  obtain ⟨⟨h, tk, rfl⟩, k⟩ := x
  obtain ⟨⟨h', tk', rfl⟩, k'⟩ := y
  exact ⟨⟨h', tk', rfl⟩, fun b o hb e => k' b o hb (k b o hb e)⟩
theorem Only.mono {P P' : Addr → Prop} {s s' : Shared} (x : Only P s s') (h : ∀ b, P b → P' b) : Only P' s s' := ⟨x.1, fun b o hb e => x.2 b o (fun q => hb (h b q)) e⟩
noncomputable def Slot (env : Env) (x : Str) (b : Addr) : Prop := (env.kindOf x = some .local ∧ b = env.locals) ∨ (env.kindOf x = some .cell ∧ env.cells.lookup x = some b)
theorem Slot.priv {x : Str} {b : Addr} (h : Slot env x b) : Priv env b := h.elim (fun q => .inl q.2) fun q => .inr ⟨x, q.2⟩

theorem isVar_kind {x : Str} (h : Sc.isVar env.scope.names x = true) : env.kindOf x = some .local ∨ env.kindOf x = some .cell := by
  simp only [Sc.isVar, Bool.and_eq_true, Bool.or_eq_true, beq_iff_eq] at h
  exact h.1

theorem EntOk.sub {h h' : Heap} {v : Value} {e : Ent} (frm : Frm env h) (priv : ∀ b, Priv env b → W b) (k : ∀ b o, ¬ Priv env b → h.get? b = some o → h'.get? b = some o) (q : EntOk h (fun a => W₀ a ∨ Priv env a) W v e) : EntOk h' (fun a => W₀ a ∨ Priv env a) W v e := by
  have H : ∀ a o, ¬ W a → h.get? a = some o → ¬ W a ∧ h'.get? a = some o := fun a o hw ho => ⟨hw, k a o (fun p => hw (priv a p)) ho⟩
  have HS : ∀ {a ds}, ShellAt h W a ds → ShellAt h' W a ds := fun sh => by
    refine sh.mono H fun o ho => ?_
    obtain ⟨vs, m, ho', _⟩ := sh
    exact k _ o (frm.not_seq ho' rfl) ho
  cases e with
  | val d => exact Rep.mono H q
  | own ds => obtain ⟨a, e, w, w₀, sh⟩ := q; exact ⟨a, e, w, w₀, sh.mono H fun o ho => k a o (fun p => w₀ (.inr p)) ho⟩
  | ownT d ds => obtain ⟨t, a, v₀, m, e, wt, ht, r, w, w₀, sh⟩ := q; exact ⟨t, a, v₀, m, e, wt, (H _ _ wt ht).2, r.mono H, w, w₀, HS sh⟩

theorem nodup_inj {l : List Str} (nd : l.Nodup) {i j : Nat} (hi : i < l.length) (hj : j < l.length) (e : l[i] = l[j]) : i = j := by
  have H := List.pairwise_iff_getElem.mp nd
  rcases Nat.lt_trichotomy i j with h | h | h
  · exact (H i j hi hj h e).elim
  · exact h
  · exact (H j i hj hi h e.symm).elim
theorem ns_unique {h : Heap} {a : Addr} {m m' : Str → Option Value} (x : h.Ns a m) (y : h.Ns a m') : m = m' := by
  obtain ⟨o, es, ep, ho, hd, _, hf⟩ := x
  obtain ⟨o', es', ep', ho', hd', _, hf'⟩ := y
  rw [ho] at ho'; cases ho'
  rw [hd] at hd'; cases hd'
  exact funext fun z => (hf z).symm.trans (hf' z)

theorem cx_store {m : Nat} {x : Str} {v : Value} {e : Ent} {Q : Unit → Shared → Prop} (cx : Cx B n A env names W₀ W ρ s) (hn : names[m]? = some x) (hx : Sc.isVar env.scope.names x = true) (he : EntOk s.heap (fun a => W₀ a ∨ Priv env a) W v e)
    (hQ : ∀ s', Cx B n A env names W₀ W (ρ.set m (some e)) s' → Only (Slot env x) s s' → (VarAt env s'.heap x v ∧ ∀ y u, y ≠ x → VarAt env s.heap y u → VarAt env s'.heap y u) → Q () s') : wpAny B.M A (storeName env x v) Q E s := by
  have core : ∀ h' tk, (∀ b o, ¬ Slot env x b → s.heap.get? b = some o → h'.get? b = some o) → (∀ a, W a → ∃ o, h'.get? a = some o ∧ NoTup o) → Frm env h' → VarAt env h' x v → (∀ y u, y ≠ x → VarAt env s.heap y u → VarAt env h' y u) →
      Q () { s with heap := h', toks := tk } := by
    intro h' tk k' wok frm hv hoth
    have k : ∀ b o, ¬ Priv env b → s.heap.get? b = some o → h'.get? b = some o := fun b o hb => k' b o fun q => hb q.priv
    refine hQ _ { room := cx.room, fn := cx.fn, gl := cx.gl, bl := cx.bl, le := cx.le, wok := wok, frm := frm, priv := cx.priv, nd := cx.nd, dot := cx.dot, offH := cx.offH, base := ?_, env := ?_ } ⟨⟨h', tk, rfl⟩, k'⟩ ⟨hv, hoth⟩
    · intro b o e
      exact k b o (fun p => not_none_of (cx.offH b p) e) (cx.base b o e)
    · intro m' e' y h1 h2 h3
      by_cases hm : m' = m
      · subst hm
        rw [hn] at h2; cases h2
        rw [List.getElem?_set] at h1
        split at h1
        · split at h1
          · cases h1; exact ⟨v, hv, he.sub cx.frm cx.priv k⟩
          · cases h1
        · rename_i hne; exact (hne rfl).elim
      · rw [List.getElem?_set_ne (Ne.symm hm)] at h1
        obtain ⟨u, hu, ho⟩ := cx.env m' e' y h1 h2 h3
        refine ⟨u, hoth y u (fun hyx => ?_) hu, ho.sub cx.frm cx.priv k⟩
        subst hyx
        have a1 := (List.getElem?_eq_some_iff.mp h2)
        have a2 := (List.getElem?_eq_some_iff.mp hn)
        obtain ⟨l1, e1⟩ := a1
        obtain ⟨l2, e2⟩ := a2
        exact hm (nodup_inj cx.nd l1 l2 (e1.trans e2.symm))
  rcases isVar_kind hx with hk | hk
  · obtain ⟨m₀, hns⟩ := cx.frm.ns
    refine wpAny_storeName_local hk hns (fun h' hn' hs' => core h' _ (fun b o hb e => hs'.extBut b o (fun q => hb (.inl ⟨hk, q⟩)) e) ?_ ?_ (.inl ⟨hk, _, hn', by simp⟩) ?_) (by rw [cx.fn]; rfl)
    · intro a ha
      obtain ⟨o, ho, hc⟩ := cx.wok a ha
      by_cases hL : a = env.locals
      · subst hL; obtain ⟨o', es, ep, ho', hd', _⟩ := hn'; exact ⟨o', ho', fun vs j h => by rw [hd'] at h; cases h⟩
      · exact ⟨o, hs'.extBut a o hL ho, hc⟩
    · exact ⟨⟨_, hn'⟩, cx.frm.has, fun y c hy => let ⟨u, hu⟩ := cx.frm.cell y c hy; ⟨u, hu.sameBut hs' (cx.frm.off y c hy)⟩, cx.frm.off, cx.frm.apart⟩
    · rintro y u hyx (⟨hk', m', hm', hu⟩ | ⟨hk', c, hc, hu⟩)
      · have e : m₀ = m' := ns_unique hns hm'
        exact .inl ⟨hk', _, hn', by rw [if_neg hyx, e]; exact hu⟩
      · exact .inr ⟨hk', c, hc, hu.sameBut hs' (cx.frm.off y c hc)⟩
  · obtain ⟨c, hc⟩ := cx.frm.has x hk
    obtain ⟨u₀, hu₀⟩ := cx.frm.cell x c hc
    refine wpAny_storeName_cell cx.fn hk hc hu₀ fun h' hc' hs' => core h' s.toks (fun b o hb e => hs'.extBut b o (fun q => hb (.inr ⟨hk, q ▸ hc⟩)) e) ?_ ?_ (.inr ⟨hk, c, hc, hc'⟩) ?_
    · intro a ha
      obtain ⟨o, ho, hcl⟩ := cx.wok a ha
      by_cases hL : a = c
      · subst hL; obtain ⟨o', ho', hd'⟩ := hc'; exact ⟨o', ho', fun vs j h => by rw [hd'] at h; cases h⟩
      · exact ⟨o, hs'.extBut a o hL ho, hcl⟩
    · refine ⟨let ⟨m', hm'⟩ := cx.frm.ns; ⟨m', hm'.sameBut hs' (Ne.symm (cx.frm.off x c hc))⟩, cx.frm.has, fun y c' hy => ?_, cx.frm.off, cx.frm.apart⟩
      by_cases hcc : c' = c
      · subst hcc; exact ⟨_, hc'⟩
      · obtain ⟨u, hu⟩ := cx.frm.cell y c' hy; exact ⟨u, hu.sameBut hs' hcc⟩
    · rintro y u hyx (⟨hk', m', hm', hu⟩ | ⟨hk', c', hc₂, hu⟩)
      · exact .inl ⟨hk', m', hm'.sameBut hs' (Ne.symm (cx.frm.off x c hc)), hu⟩
      · exact .inr ⟨hk', c', hc₂, hu.sameBut hs' fun q => hyx (cx.frm.apart y x c (q ▸ hc₂) hc)⟩
end
end Mw

set_option maxRecDepth 10000
namespace Mw
open PySem

section
variable {B : Bs} {Φ : Fns} {n : Nat} {A : Around} {env : Env} {names : List Str} {W₀ W : Addr → Prop} {ρ ρ' : Rho} {s : Shared} {E : Value → Shared → Prop}

theorem okTg_kind {sc : Sc} {t : Tg} {tg : PySem.Expr} (h : okTg names sc t tg = true) : ((∃ elts k p, tg = .Tuple elts k p) ∨ (∃ x p, tg = .Name x p)) ∧ ((∃ x p, tg = .Name x p) → ∃ m, t = .one m) := by
  cases t with
  | one m =>
    (replace h := ivOne h); obtain ⟨y, p, rfl, h⟩ := h
    exact ⟨.inr ⟨_, _, rfl⟩, fun _ => ⟨m, rfl⟩⟩
  | two m k =>
    (replace h := ivTwo h); obtain ⟨x, px, y, py, kk, p, rfl, h⟩ := h
    exact ⟨.inl ⟨_, _, _, rfl⟩, fun ⟨x, p, e⟩ => by cases e⟩

theorem bind_two {m k : Nat} {d : PyData} (h : bindT (.two m k) ρ d = some ρ') : ∃ a b, d = .tuple [a, b] ∧ ρ' = (ρ.set m (some (.val a))).set k (some (.val b)) := by
  unfold bindT at h
  split at h
  · rename_i e; cases e
  · rename_i e; cases e; cases h; exact ⟨_, _, rfl, rfl⟩
  · cases h
theorem two_vs {h : Heap} {W : Addr → Prop} {vs : Array Value} {a b : PyData} (rl : RepL h W vs.toList [a, b]) : ∃ va vb, vs = #[va, vb] ∧ Rep h W va a ∧ Rep h W vb b := by
  obtain ⟨l⟩ := vs
  have rl : RepL h W l [a, b] := rl
  obtain ⟨va, l1, rfl, ra, rl1⟩ := rl.cons_inv
  obtain ⟨vb, l2, rfl, rb, rl2⟩ := rl1.cons_inv
  cases rl2.nil_inv
  exact ⟨va, vb, rfl, ra, rb⟩

theorem assign_tg {t : Tg} {tg : PySem.Expr} {v : Value} {d : PyData} {Q : Unit → Shared → Prop} (cx : Cx B n A env names W₀ W ρ s) (hok : okTg names env.scope.names t tg = true) (r : Rep s.heap W v d) (hb : bindT t ρ d = some ρ')
    (hQ : ∀ s', Cx B n A env names W₀ W ρ' s' → Only (fun b => ∃ x ∈ t.names names, Slot env x b) s s' → Q () s') : wpAny B.M A (assign tg env v) Q E s := by
  cases t with
  | one m =>
    (replace hok := ivOne hok); obtain ⟨x, p, rfl, hok⟩ := hok
    · simp only [nameIs, Bool.and_eq_true, beq_iff_eq] at hok
      simp only [bindT, Option.some.injEq] at hb
      subst hb
      exact wpAny_assign_Name (cx_store cx hok.1 hok.2 (e := .val d) r fun s' cx' o' _ => hQ s' cx' (o'.mono fun b q => ⟨x, by simp [Tg.names, List.getD_eq_getElem?_getD, hok.1], q⟩))
  | two m k =>
    (replace hok := ivTwo hok); obtain ⟨x, px, y, py, kk, p, rfl, hok⟩ := hok
    · simp only [nameIs, Bool.and_eq_true, beq_iff_eq] at hok
      obtain ⟨⟨⟨⟨h1, h2⟩, h3⟩, h4⟩, _⟩ := hok
      obtain ⟨a, b, rfl, rfl⟩ := bind_two hb
      · obtain ⟨T, vs, j, rfl, _, ho, rl⟩ := r.tuple_inv
        obtain ⟨va, vb, rfl, ra, rb⟩ := two_vs rl
        refine wpAny_assign_Tuple cx.room.handled ⟨_, ho, rfl, j, rfl⟩ rfl rfl fun h₁ he₁ => ?_
        have k₁ : Keeps s { s with heap := h₁ } := ⟨h₁, s.toks, rfl, fun b o e => he₁ b o (fun q => by subst q; exact not_none_of none_of_size e) e⟩
        show wpAny _ _ (assignInOrder [assign (.Name x px) env, assign (.Name y py) env] [va, vb]) _ _ _
        refine PyProof.Rows.assignInOrder_cons (wpAny_assign_Name (cx_store (cx.keeps k₁) h1 h2 (e := .val a) (ra.keeps k₁) fun s₂ cx₂ o₂ _ => ?_))
        have k₂ : Only (Slot env x) s s₂ := (Only.of k₁).trans o₂
        have rb₂ : Rep s₂.heap W vb b := rb.mono fun c o hw ho => ⟨hw, k₂.2 c o (fun p => hw (cx.priv c p.priv)) ho⟩
        refine PyProof.Rows.assignInOrder_cons (wpAny_assign_Name (cx_store cx₂ h3 h4 (e := .val b) rb₂ fun s₃ cx₃ o₃ _ => ?_))
        exact PyProof.Rows.assignInOrder_nil (hQ s₃ cx₃ ((k₂.mono fun b q => ⟨x, by simp [Tg.names, List.getD_eq_getElem?_getD, h1], q⟩).trans (o₃.mono fun b q => ⟨y, by simp [Tg.names, List.getD_eq_getElem?_getD, h3], q⟩)))

noncomputable def SndI (B : Bs) (Φ : Fns) (n : Nat) (e : X) : Prop := ∀ (A : Around) (env : Env) (names : List Str) (W₀ W : Addr → Prop) (ρ : Rho) (s : Shared) (x : PySem.Expr) (np : Bool) (items : List PyData) (pair : Bool) (E : Value → Shared → Prop),
  okI names env.scope.names e x = true → Cx B n A env names W₀ W ρ s → evI Φ e ρ = some (np, items) → (pair = false → ∀ a, e ≠ .enum a) → wpAny B.M A (eval x env) (fun v s₁ => wpAny B.M A (pyIter v) (IterOk B A W np items s pair) E s₁) E s

theorem pure_items {h : Heap} {vs : List Value} {xs : List PyData} (wok : ∀ a, W a → ∃ o, h.get? a = some o ∧ NoTup o) (rl : RepL h W₀ vs xs) (hp : xs.all pureD = true) : RepL h W vs xs := by
  refine ⟨rl.1, fun i v x hv hx => ?_⟩
  have r := rl.2 i v x hv hx
  have p := List.all_eq_true.mp hp x (List.mem_of_getElem? hx)
  cases x with
  | tuple ys =>
    obtain ⟨a, us, m, rfl, w₀, ho, rl'⟩ := r.tuple_inv
    refine Rep.tuple (n := m) (fun hw => ?_) ho rl'.1 fun i v x hv hx => (rl'.2 i v x hv hx).atom (List.all_eq_true.mp p x (List.mem_of_getElem? hx))
    obtain ⟨o, ho', hc⟩ := wok a hw
    rw [ho] at ho'; cases ho'; exact hc _ _ rfl rfl
  | list ys => cases p
  | dict kvs => cases p
  | _ => exact r.atom rfl

theorem sndI_seq {a : X} (ha : SndE B Φ n a) : SndI B Φ n (.seq a) := by
  intro A env names W₀ W ρ s x np items pair E hok cx hev _
  replace hok : okX names env.scope.names a x = true := hok
  simp only [Z36, Z37, Z38, Z39] at hev
  split at hev
  · rename_i r er
    obtain ⟨c, d⟩ := r
    unfold seqItems at hev
    dsimp only at hev
    split at hev
    · rename_i xs hx
      split at hev
      · rename_i hc
        simp only [Bool.and_eq_true, Bool.or_eq_true, Bool.not_eq_true', decide_eq_true_eq] at hc
        cases hev
        refine wpAny_mono (ha A env names W₀ W ρ s _ _ _ hok cx er) (fun v s₁ p => ?_) fun _ _ e => e
        have cx₁ := cx.keeps p.1
        cases d <;> simp only [Z91, Z92, Z93, Z94, Z95, Z96, Z97] at hx <;> first | (cases hx; done) | skip
        · cases hx
          obtain ⟨ax, vs, m, rfl, w₀, ho, rl₀⟩ := (p.2.dirty cx.le).list_inv
          have rl : RepL s₁.heap W vs.toList items := by
            rcases hc.1 with hd | hp
            · obtain ⟨a2, vs2, m2, e2, ho2, rl2⟩ := p.2.shellOf hd
              cases e2; rw [ho] at ho2; cases ho2; exact rl2
            · exact pure_items cx₁.wok rl₀ hp
          refine iter_list cx.room.handled p.1 ho rl (fun hcl => ?_) hc.2
          obtain ⟨a2, vs2, m2, e2, hw, _⟩ := (p.2.ofClean (by simpa using hcl)).list_inv
          cases e2; exact hw
        · cases hx
          obtain ⟨ax, vs, m, rfl, w₀, ho, rl₀⟩ := (p.2.dirty cx.le).tuple_inv
          have rl : RepL s₁.heap W vs.toList items := by
            rcases hc.1 with hd | hp
            · obtain ⟨a2, vs2, m2, e2, ho2, rl2⟩ := p.2.tupOf hd
              cases e2; rw [ho] at ho2; cases ho2; exact rl2
            · exact pure_items cx₁.wok rl₀ hp
          refine iter_tuple cx.room.handled p.1 ho rl (fun hcl => ?_) hc.2
          obtain ⟨a2, vs2, m2, e2, hw, _⟩ := (p.2.ofClean (by simpa using hcl)).tuple_inv
          cases e2; exact hw
      · cases hev
    · cases hev
  · cases hev

theorem rangeL_length (a b : Int) : (rangeL a b).length = (b - a).toNat := by simp [rangeL]

theorem sndI_range1 (hB : B.Ok) {a : X} (ha : SndE B Φ n a) : SndI B Φ n (.range1 a) := by
  intro A env names W₀ W ρ s x np items pair E hok cx hev _
  · (replace hok := iv_range1 hok); obtain ⟨id, p, y, pos, rfl, hok⟩ := hok
    simp only [Bool.and_eq_true, beq_iff_eq] at hok
    obtain ⟨⟨⟨rfl, h1⟩, hs⟩, hy⟩ := hok
    simp only [Z36, Z37, Z38, Z39] at hev
    split at hev
    · rename_i c k ea
      split at hev
      · rename_i hk
        cases hev
        refine eval_call (load_built (v := .type "range") hB cx h1 (by decide) (call_any (.inr ⟨_, rfl⟩) (by simp [hs]) (one_arg ha hs hy cx ea fun v s₁ q => ?_)))
        obtain ⟨t, rfl⟩ := q.2.int_inv cx.le
        refine call_range_1 ?_
        have k2 : Keeps s₁ { s₁ with heap := s₁.heap.push { cls := .type "range", data := .fields #[.int 0 s₁.toks, .int k t, .int 1 (s₁.toks + 1)] }, toks := s₁.toks + 1 + 1 } := ⟨_, _, rfl, fun _ _ e => Heap.get?_push_of_some _ e⟩
        exact iter_range cx.room.handled (keeps_trans q.1 k2) (IsRange.new ..) (by omega) (by omega) hk.1 hk.2 (by rw [rangeL_length]; simp only [maxLen]; omega)
      · cases hev
    · cases hev
theorem sndI_range2 (hB : B.Ok) {a b : X} (ha : SndE B Φ n a) (hb : SndE B Φ n b) : SndI B Φ n (.range2 a b) := by
  intro A env names W₀ W ρ s x np items pair E hok cx hev _
  · (replace hok := iv_range2 hok); obtain ⟨id, p, y, z, pos, rfl, hok⟩ := hok
    simp only [Bool.and_eq_true, beq_iff_eq] at hok
    obtain ⟨⟨⟨⟨⟨rfl, h1⟩, hs⟩, hs'⟩, hy⟩, hz⟩ := hok
    simp only [Z36, Z37, Z38, Z39] at hev
    split at hev
    · rename_i c i c' j ea eb
      split at hev
      · rename_i hk
        cases hev
        refine eval_call (load_built (v := .type "range") hB cx h1 (by decide) (call_any (.inr ⟨_, rfl⟩) (by simp [hs, hs']) (two_args ha hb hs hs' hy hz cx ea eb fun v v' s₁ k q q' => ?_)))
        obtain ⟨t, rfl⟩ := q.int_inv cx.le
        obtain ⟨u, rfl⟩ := q'.int_inv cx.le
        refine call_range_2 ?_
        have k2 : Keeps s₁ { s₁ with heap := s₁.heap.push { cls := .type "range", data := .fields #[.int i t, .int j u, .int 1 s₁.toks] }, toks := s₁.toks + 1 } := ⟨_, _, rfl, fun _ _ e => Heap.get?_push_of_some _ e⟩
        exact iter_range cx.room.handled (keeps_trans k k2) (IsRange.new ..) hk.1 hk.2.1 hk.2.2.1 hk.2.2.2.1 (by rw [rangeL_length]; simp only [maxLen]; omega)
      · cases hev
    · cases hev
theorem sndI_enum (hB : B.Ok) {a : X} (ha : SndE B Φ n a) : SndI B Φ n (.enum a) := by
  intro A env names W₀ W ρ s x np items pair E hok cx hev hpair
  have hp : pair = true := by
    cases pair with
    | true => rfl
    | false => exact (hpair rfl a rfl).elim
  subst hp
  · (replace hok := iv_enum hok); obtain ⟨id, p, y, pos, rfl, hok⟩ := hok
    simp only [Bool.and_eq_true, beq_iff_eq] at hok
    obtain ⟨⟨⟨rfl, h1⟩, hs⟩, hy⟩ := hok
    simp only [Z36, Z37, Z38, Z39] at hev
    split at hev
    · rename_i c xs ea
      split at hev
      · cases hev
      · rename_i hc
        simp only [Bool.or_eq_true, decide_eq_true_eq, not_or, Bool.not_eq_true] at hc
        cases hev
        refine eval_call (load_built (v := .type "enumerate") hB cx h1 (by decide) (call_any (.inr ⟨_, rfl⟩) (by simp [hs]) (one_arg ha hs hy cx ea fun v s₁ q => ?_)))
        obtain ⟨ax, vs, m, rfl, ho, rl⟩ := q.2.shellOf hc.1
        refine iter_enum cx.room.handled q.1 ho rl (fun hcl => ?_) (by omega)
        obtain ⟨a2, vs2, m2, e2, hw, _⟩ := (q.2.ofClean (by simpa using hcl)).list_inv
        cases e2; exact hw
    · cases hev
end
end Mw

set_option maxRecDepth 10000
namespace Mw
open PySem

theorem codeAny_compLoop_any {prog : Program} {w : World} {A : Around} {R : Result → Shared → Prop} {s : Shared} {elt target iter : PySem.Expr} {ifs : List PySem.Expr} {scope : Scope} {pos : Pos} {it acc : Value} {env : Env} (I : Nat → Shared → Prop)
    (turn : ∀ n s, I n s → wpAny (model prog w) A (pyNext it) (fun r s₁ => match r with
      | none => R (.ok .next) s₁
      | some v => wpAny (model prog w) A (letOwnedTupleGo target it v) (fun _ s₁' => wpAny (model prog w) A (assign target env v) (fun _ s₂ =>
          wpAny (model prog w) A (forIn ifs true fun c r => if r = true then do let ok ← isTrue c env (eval c env); pure (ForInStep.yield ok) else pure (ForInStep.yield r)) (fun ok s₃ =>
            if ok = true then wpAny (model prog w) A (eval elt env) (fun x s₄ =>
              wpAny (model prog w) A (call (.builtin "list.append") [acc, x]) (fun _ s₅ => ∃ m, m < n ∧ I m s₅) (notedBy (model prog w) A env fun e s' => R (.error e) s') s₄) (notedBy (model prog w) A env fun e s' => R (.error e) s') s₃
            else ∃ m, m < n ∧ I m s₃) (notedBy (model prog w) A env fun e s' => R (.error e) s') s₂) (notedBy (model prog w) A env fun e s' => R (.error e) s') s₁') (notedBy (model prog w) A env fun e s' => R (.error e) s') s₁)
        (notedBy (model prog w) A env fun e s' => R (.error e) s') s)
    (n : Nat) (h : I n s) :
    codeAny (model prog w) A (.compLoop (.ListComp elt [⟨target, iter, ifs, 0⟩] scope pos) 0 it acc env) R s := by
  refine codeAny_loop rfl I (fun n s hI => ?_) n h
  show wpAny _ A ((compTurn (.ListComp elt [⟨target, iter, ifs, 0⟩] scope pos) 0 it acc env).onRaise (fun x => do noteFrame x env; theTreesLotGoes x)) _ _ s
  refine wpAny_noted ?_
  rw [compTurn_list]
  refine wpAny_bind (wpAny_standAt (wpAny_bind (wpAny_mono (turn n s hI) (fun r s₁ h₁ => ?_) fun _ _ h' => h')))
  cases r with
  | none => exact wpAny_pure h₁
  | some v =>
    refine wpAny_bind (wpAny_mono h₁ (fun _ s₁' h₁' => ?_) fun _ _ h' => h')
    refine wpAny_bind (wpAny_mono h₁' (fun _ s₂ h₂ => wpAny_bind (wpAny_mono h₂ (fun ok s₃ h₃ => ?_) fun _ _ h' => h')) fun _ _ h' => h')
    cases ok with
    | false => exact wpAny_pure ⟨rfl, h₃⟩
    | true =>
      exact wpAny_bind (wpAny_bind (wpAny_mono h₃ (fun x s₄ h₄ => wpAny_bind (wpAny_mono h₄ (fun _ s₅ h₅ => wpAny_pure (wpAny_pure ⟨rfl, h₅⟩)) fun _ _ h' => h')) fun _ _ h' => h'))

noncomputable def clOf (cells : List (Str × Addr)) : Sc → List (Str × Addr) → List (Str × Addr)
  | [], cs => cs
  | (x, k) :: r, cs => if k == .free then clOf cells r ((x, (cells.lookup x).getD 0) :: cs) else clOf cells r cs
theorem closure_ok {env : Env} : ∀ (names : Sc) (cs : List (Str × Addr)), (∀ p ∈ names, p.2 = .free → ∃ c, env.cells.lookup p.1 = some c) →
    (forIn names cs fun x r => do
      let (name, kind) := x
      if kind == .free then do let c ← cellOf env name; pure (ForInStep.yield ((name, c) :: r)) else pure (ForInStep.yield r)) = (pure (clOf env.cells names cs) : Sem (List (Str × Addr)))
  | [], cs, _ => rfl
  | (x, k) :: r, cs, H => by
    rw [List.forIn_cons]
    unfold clOf
    by_cases hk : (k == NameKind.free) = true
    · obtain ⟨c, hc⟩ := H (x, k) (.head _) (by simpa using hk)
      have e := closure_ok r ((x, c) :: cs) fun p hp => H p (.tail _ hp)
      simp only [hk, if_true, cellOf, hc, Option.getD_some]
      exact e
    · have e := closure_ok r cs fun p hp => H p (.tail _ hp)
      simp only [hk]
      exact e
theorem closureFor_ok {env : Env} {scope : Scope} (H : ∀ p ∈ scope.names, p.2 = .free → ∃ c, env.cells.lookup p.1 = some c) : closureFor scope env = pure (clOf env.cells scope.names []) := by
  unfold closureFor
  have := closure_ok (env := env) scope.names [] H
  show (forIn scope.names [] _ >>= fun cs => pure cs) = _
  exact (congrArg (fun m : Sem (List (Str × Addr)) => m >>= fun cs => pure cs) this)

theorem clOf_lookup {cells : List (Str × Addr)} {x : Str} : ∀ (names : Sc) (cs : List (Str × Addr)), (∀ p ∈ names, p.2 = .free → ∃ c, cells.lookup p.1 = some c) → (∀ c, cs.lookup x = some c → cells.lookup x = some c) →
    (∀ c, (clOf cells names cs).lookup x = some c → cells.lookup x = some c) ∧ (((x, NameKind.free) ∈ names ∨ (cs.lookup x).isSome = true) → ∃ c, (clOf cells names cs).lookup x = some c)
  | [], cs, _, hcs => ⟨hcs, fun h => h.elim (fun q => nomatch q) fun q => Option.isSome_iff_exists.mp q⟩
  | (y, k) :: r, cs, H, hcs => by
    unfold clOf
    by_cases hk : (k == NameKind.free) = true
    · rw [if_pos hk]
      have hk' : k = .free := by simpa using hk
      subst hk'
      obtain ⟨c, hc⟩ := H (y, .free) (.head _) rfl
      have ih := clOf_lookup (cells := cells) (x := x) r ((y, (cells.lookup y).getD 0) :: cs) (fun p hp => H p (.tail _ hp)) (fun c' hc' => by
        rw [List.lookup_cons] at hc'
        split at hc'
        · rename_i e; have e := beq_iff_eq.mp e; subst e; cases hc'; rw [hc]; rfl
        · exact hcs c' hc')
      refine ⟨ih.1, fun h => ih.2 ?_⟩
      rcases h with h | h
      · cases h with
        | head => exact .inr (by rw [List.lookup_cons]; simp)
        | tail _ h => exact .inl h
      · refine .inr ?_
        rw [List.lookup_cons]
        split
        · rfl
        · exact h
    · rw [if_neg hk]
      have ih := clOf_lookup (cells := cells) (x := x) r cs (fun p hp => H p (.tail _ hp)) hcs
      refine ⟨ih.1, fun h => ih.2 ?_⟩
      rcases h with h | h
      · cases h with
        | head => simp at hk
        | tail _ h => exact .inl h
      · exact .inr h

theorem relabel_lookup {sc : Sc} {x : Str} {k : NameKind} : ∀ (names : Sc), (∀ p ∈ names, p.2 ≠ .cell) → (relabelN names sc).lookup x = some k →
    (k ≠ .cell → names.lookup x = some k) ∧ (k = .cell → names.lookup x = some .free ∧ sc.lookup x = some .cell)
  | [], _, h => by simp [relabelN] at h
  | (y, j) :: r, H, h => by
    have ih := relabel_lookup (sc := sc) (x := x) (k := k) r (fun p hp => H p (.tail _ hp))
    simp only [relabelN, List.map_cons] at h
    by_cases hc : (j == NameKind.free && true && sc.lookup y == some NameKind.cell) = true
    · rw [if_pos hc] at h
      simp only [Bool.and_true, Bool.and_eq_true, beq_iff_eq] at hc
      simp only [List.lookup_cons] at h ⊢
      cases hxy : x == y with
      | true =>
        simp only [hxy] at h ⊢
        cases h
        have e' := beq_iff_eq.mp hxy
        subst e'
        exact ⟨fun q => (q rfl).elim, fun _ => ⟨by rw [hc.1], hc.2⟩⟩
      | false =>
        simp only [hxy] at h ⊢
        exact ih h
    · rw [if_neg hc] at h
      simp only [List.lookup_cons] at h ⊢
      cases hxy : x == y with
      | true =>
        simp only [hxy] at h ⊢
        cases h
        exact ⟨fun _ => rfl, fun q => (H (y, _) (.head _) q).elim⟩
      | false =>
        simp only [hxy] at h ⊢
        exact ih h
theorem lookup_mem {x : Str} {k : NameKind} : ∀ {names : Sc}, names.lookup x = some k → (x, k) ∈ names
  | (y, j) :: r, h => by
    rw [List.lookup_cons] at h
    split at h
    · rename_i e; cases h; rw [beq_iff_eq.mp e]; exact .head _
    · exact .tail _ (lookup_mem h)

noncomputable def eraseT : Tg → Rho → Rho
  | .one n, ρ => ρ.set n none
  | .two n m, ρ => (ρ.set n none).set m none
theorem bindT_erase {t : Tg} {ρ : Rho} {d : PyData} (h : ∀ n m, t = .two n m → n ≠ m) : bindT t (eraseT t ρ) d = bindT t ρ d := by
  cases t with
  | one n => simp [bindT, eraseT]
  | two n m =>
    have hne := h n m rfl
    have key : ∀ x y, (((eraseT (.two n m) ρ).set n (some (.val x))).set m (some (.val y)) : Rho) = (ρ.set n (some (.val x))).set m (some (.val y)) := by
      intro x y
      apply List.ext_getElem?
      intro i
      simp only [eraseT, List.getElem?_set, List.length_set]
      by_cases h1 : m = i <;> by_cases h2 : n = i <;> simp [h1, h2]
    cases d with
    | tuple l =>
      match l with
      | [] => rfl
      | [_] => rfl
      | [x, y] => exact congrArg some (key x y)
      | _ :: _ :: _ :: _ => rfl
    | _ => rfl
end Mw

set_option maxRecDepth 10000
namespace Mw
open PySem

section
variable {B : Bs} {Φ : Fns} {n : Nat} {A : Around} {env : Env} {names : List Str} {W₀ W : Addr → Prop} {ρ : Rho} {s : Shared} {E : Value → Shared → Prop}

theorem relabel_names {scope : Scope} (hf : env.scope.kind = .function) : (relabel scope env).names = relabelN scope.names env.scope.names := by
  unfold relabel relabelN
  rw [hf]
  rfl

structure OkScope (names : List Str) (sc : Sc) (t : Tg) (scope : Scope) : Prop where
  kind : scope.kind = .function
  nocell : ∀ p ∈ scope.names, p.2 ≠ .cell
  loc : ∀ p ∈ scope.names, p.2 = .local → scope.names.lookup p.1 = some .local
  tg : ∀ p ∈ scope.names, p.2 = .local → p.1 = (".0" : Str) ∨ p.1 ∈ t.names names
  free : ∀ p ∈ scope.names, p.2 = .free → sc.lookup p.1 = some .cell
theorem okScope_iff {sc : Sc} {t : Tg} {scope : Scope} (h : okScope names sc t scope = true) : OkScope names sc t scope := by
  simp only [okScope, Bool.and_eq_true, List.all_eq_true, beq_iff_eq, Bool.or_eq_true, bne_iff_ne, ne_eq, List.contains_iff_mem] at h
  obtain ⟨⟨⟨⟨⟨⟨h1, h2⟩, h3⟩, h4⟩, h5⟩, h6⟩, h7⟩ := h
  refine ⟨h1, h2, fun p hp e => (h3 p hp).resolve_left fun q => q e, fun p hp e => ?_, fun p hp e => ((h5 p hp).resolve_left fun q => q e).1⟩
  rcases h4 p hp with (q | q) | q
  · exact (q e).elim
  · exact .inl q
  · exact .inr q

theorem tg_erased {t : Tg} {sc : Sc} {tg : PySem.Expr} {m : Nat} {x : Str} {e : Ent} (hok : okTg names sc t tg = true) (hx : names[m]? = some x) (nd : names.Nodup) (hm : x ∈ t.names names) : (eraseT t ρ)[m]? ≠ some (some e) := by
  have inj : ∀ k, names[k]? = some x → k = m := fun k hk => by
    obtain ⟨l1, e1⟩ := List.getElem?_eq_some_iff.mp hk
    obtain ⟨l2, e2⟩ := List.getElem?_eq_some_iff.mp hx
    exact nodup_inj nd l1 l2 (e1.trans e2.symm)
  cases t with
  | one k =>
    (replace hok := ivOne hok); obtain ⟨y, p, rfl, hok⟩ := hok
    · simp only [nameIs, Bool.and_eq_true, beq_iff_eq] at hok
      simp only [Tg.names, List.mem_singleton, List.getD_eq_getElem?_getD, hok.1, Option.getD_some] at hm
      subst hm
      have := inj k hok.1
      subst this
      simp only [eraseT, List.getElem?_set, if_true]
      split <;> simp
  | two k l =>
    (replace hok := ivTwo hok); obtain ⟨y, py, z, pz, kk, p, rfl, hok⟩ := hok
    · simp only [nameIs, Bool.and_eq_true, beq_iff_eq] at hok
      obtain ⟨⟨⟨⟨h1, _⟩, h2⟩, _⟩, _⟩ := hok
      simp only [Tg.names, List.getD_eq_getElem?_getD, h1, h2, Option.getD_some, List.mem_cons, List.not_mem_nil, or_false] at hm
      simp only [eraseT, List.getElem?_set, List.length_set]
      rcases hm with rfl | rfl
      · have := inj k h1; subst this
        split
        · split <;> simp
        · rw [if_pos rfl]; split <;> simp
      · have := inj l h2; subst this
        split
        · split <;> simp
        · rename_i q; exact (q rfl).elim

theorem okTg_ne {sc : Sc} {t : Tg} {tg : PySem.Expr} (hok : okTg names sc t tg = true) : ∀ n m, t = .two n m → n ≠ m := by
  rintro k l rfl
  (replace hok := ivTwo hok); obtain ⟨_, _, _, _, _, _, rfl, hok⟩ := hok
  have := (and_inv hok).2
  rintro rfl
  simp at this

noncomputable abbrev clE (env : Env) (scope : Scope) : List (Str × Addr) := clOf env.cells scope.names []
noncomputable abbrev cEnv (env : Env) (scope : Scope) (C : Addr) : Env := compEnvC scope (clE env scope) C env

theorem comp_cx {t : Tg} {tg : PySem.Expr} {scope : Scope} {C : Addr} {New : Addr → Prop} {h' : Heap} {tk : Nat} {m : Str → Option Value} (cx : Cx B n A env names W₀ W ρ s) (hsc : okScope names env.scope.names t scope = true)
    (hok : okTg names (relabelN scope.names env.scope.names) t tg = true) (hnew : ∀ b, New b → s.heap.get? b = none) (hC : New C) (keep : ∀ b o, s.heap.get? b = some o → h'.get? b = some o) (hns : h'.Ns C m)
    (hob : ∀ b, New b → ∃ o, h'.get? b = some o ∧ NoTup o) : Cx B n A (cEnv env scope C) names W₀ (fun a => W a ∨ New a) (eraseT t ρ) { s with heap := h', toks := tk } := by
  have os := okScope_iff hsc
  have hcell : ∀ p ∈ scope.names, p.2 = .free → ∃ c, env.cells.lookup p.1 = some c := fun p hp e => cx.frm.has p.1 (os.free p hp e)
  have hkind : ∀ x, (cEnv env scope C).kindOf x = (relabelN scope.names env.scope.names).lookup x := fun x => by
    show (relabel scope env).names.lookup x = _
    rw [relabel_names cx.fn]
  have hlk : ∀ x c, (clE env scope).lookup x = some c → env.cells.lookup x = some c := fun x c h => (clOf_lookup scope.names [] hcell (by simp)).1 c h
  have hne : ∀ x c, env.cells.lookup x = some c → c ≠ C := fun x c h q => by
    obtain ⟨v, o, ho, _⟩ := cx.frm.cell x c h
    subst q
    exact not_none_of (hnew _ hC) ho
  refine { room := cx.room, fn := os.kind, gl := cx.gl, bl := cx.bl, base := fun b o e => keep b o (cx.base b o e), le := fun a ha => .inl (cx.le a ha), wok := ?_, frm := ?_, priv := ?_, offH := ?_, nd := cx.nd, dot := cx.dot, env := ?_ }
  · rintro a (ha | ha)
    · obtain ⟨o, ho, hc⟩ := cx.wok a ha; exact ⟨o, keep a o ho, hc⟩
    · exact hob a ha
  · refine ⟨⟨m, hns⟩, fun x hx => ?_, fun x c hx => ?_, fun x c hx => hne x c (hlk x c hx), fun x y c hx hy => cx.frm.apart x y c (hlk x c hx) (hlk y c hy)⟩
    · rw [hkind] at hx
      have := (relabel_lookup scope.names os.nocell hx).2 rfl
      exact (clOf_lookup scope.names [] hcell (by simp)).2 (.inl (lookup_mem this.1))
    · obtain ⟨v, hv⟩ := cx.frm.cell x c (hlk x c hx)
      exact ⟨v, hv.keeps keep⟩
  · rintro b (rfl | ⟨x, hx⟩)
    · exact .inr hC
    · exact .inl (cx.priv b (.inr ⟨x, hlk x b hx⟩))
  · rintro b (hb | ⟨x, hx⟩)
    · have hb : b = C := hb
      subst hb
      show B.H.get? b = none
      cases q : B.H.get? b with
      | none => rfl
      | some o => exact not_none_of (hnew _ hC) (cx.base _ _ q)
    · exact cx.offH b (.inr ⟨x, hlk x b hx⟩)
  · intro k e x hk hx hkd
    rw [hkind] at hkd
    rcases hkd with hl | hc
    · exfalso
      have hl' := (relabel_lookup scope.names os.nocell hl).1 (by simp)
      rcases os.tg (x, .local) (lookup_mem hl') rfl with q | q
      · simp only at q; subst q; exact cx.dot (List.mem_of_getElem? hx)
      · exact tg_erased hok hx cx.nd q hk
    · have hc' := (relabel_lookup scope.names os.nocell hc).2 rfl
      have hk' : ρ[k]? = some (some e) := by
        cases t with
        | one j =>
          simp only [eraseT, List.getElem?_set] at hk
          split at hk
          · split at hk <;> simp at hk
          · exact hk
        | two j l =>
          simp only [eraseT, List.getElem?_set, List.length_set] at hk
          split at hk
          · split at hk <;> simp at hk
          · split at hk
            · split at hk <;> simp at hk
            · exact hk
      obtain ⟨v, hv, ho⟩ := cx.env k e x hk' hx (.inr hc'.2)
      rcases hv with ⟨hl, _⟩ | ⟨_, c, hcl, hv⟩
      · rw [show env.kindOf x = some .cell from hc'.2] at hl; cases hl
      · obtain ⟨c', hc2⟩ := (clOf_lookup (x := x) scope.names [] hcell (by simp)).2 (.inl (lookup_mem hc'.1))
        have := hlk x c' hc2
        rw [hcl] at this; cases this
        refine ⟨v, .inr ⟨by rw [hkind]; exact hc, c, hc2, hv.keeps keep⟩, ?_⟩
        have H : ∀ a o, ¬ W a → s.heap.get? a = some o → ¬ (W a ∨ New a) ∧ h'.get? a = some o := fun a o hw ho => ⟨fun q => q.elim hw fun q => not_none_of (hnew a q) ho, keep a o ho⟩
        have hP : ∀ a, W a → ¬ (W₀ a ∨ Priv env a) → ¬ (W₀ a ∨ Priv (cEnv env scope C) a) := fun a w w₀ q => by
          rcases q with q | q | ⟨y, q⟩
          · exact w₀ (.inl q)
          · obtain ⟨o, e, _⟩ := cx.wok a w
            exact not_none_of (hnew C hC) ((show a = C from q) ▸ e)
          · exact w₀ (.inr (.inr ⟨y, hlk y a q⟩))
        cases e with
        | val d => exact Rep.mono H ho
        | own ds => obtain ⟨a, e, w, w₀, sh⟩ := ho; exact ⟨a, e, .inl w, hP a w w₀, sh.mono H fun o => keep a o⟩
        | ownT d ds => obtain ⟨u, a, v₀, j, e, wt, ht, r, w, w₀, sh⟩ := ho; exact ⟨u, a, v₀, j, e, (H _ _ wt ht).1, keep _ _ ht, r.mono H, .inl w, hP a w w₀, sh.mono H fun o => keep a o⟩
end
end Mw

set_option maxRecDepth 10000
namespace Mw
open PySem

section
variable {B : Bs} {Φ : Fns} {n : Nat} {A : Around} {env : Env} {names : List Str} {W₀ W : Addr → Prop} {ρ : Rho} {s : Shared} {E : Value → Shared → Prop}

theorem compGo_drop {f : PyData → Option (Option PyData)} {items : List PyData} {i : Nat} {d : PyData} {rest : List PyData} (hd : items[i]? = some d) (h : compGo f (items.drop i) = some rest) :
    ∃ o rest', f d = some o ∧ compGo f (items.drop (i + 1)) = some rest' ∧ rest = (match o with | some x => x :: rest' | none => rest') := by
  have hi := (List.getElem?_eq_some_iff.mp hd).1
  have e : items.drop i = d :: items.drop (i + 1) := by
    rw [List.drop_eq_getElem_cons hi]
    congr 1
    exact (List.getElem?_eq_some_iff.mp hd).2
  rw [e] at h
  unfold compGo at h
  split at h
  · cases h
  · rename_i o ho
    split at h
    · cases h
    · rename_i r' hr
      cases h
      exact ⟨o, r', ho, hr, rfl⟩

noncomputable abbrev testsOf (ifs : List PySem.Expr) (env : Env) : Sem Bool :=
  forIn ifs true fun c r => if r = true then do let ok ← isTrue c env (eval c env); pure (ForInStep.yield ok) else pure (ForInStep.yield r)

theorem tg_local {sc : Sc} {t : Tg} {scope : Scope} {x : Str} (h : okScope names sc t scope = true) (hx : x ∈ t.names names) : scope.names.lookup x = some .local := by
  simp only [okScope, Bool.and_eq_true, List.all_eq_true, beq_iff_eq] at h
  exact (h.1.2 x hx).1

theorem comp_block {t : Tg} {tg elt iter : PySem.Expr} {ifs : List PySem.Expr} {scope : Scope} {pos : Pos} {it : Value} {s₂ : Shared} {np pair : Bool} {items out : List PyData} {f : PyData → Option (Option PyData)} {RR : Value → Addr → Result → Shared → Prop}
    (cx : Cx B n A env names W₀ W ρ s) (hsc : okScope names env.scope.names t scope = true) (hok : okTg names (relabelN scope.names env.scope.names) t tg = true) (io : IterOk B A W np items s pair it s₂) (hpair : (∃ x p, tg = .Name x p) → pair = false)
    (hf : compGo f items = some out)
    (htest : ∀ (C : Addr) (W' : Addr → Prop) (ρ' : Rho) (s' : Shared) (d : PyData) (o : Option PyData) (E' : Value → Shared → Prop), bindT t ρ d = some ρ' → f d = some o → Cx B n A (cEnv env scope C) names W₀ W' ρ' s' →
      wpAny B.M A (testsOf ifs (cEnv env scope C)) (fun ok s'' => Keeps s' s'' ∧ ok = o.isSome) E' s')
    (helt : ∀ (C : Addr) (W' : Addr → Prop) (ρ' : Rho) (s' : Shared) (d x : PyData) (E' : Value → Shared → Prop), bindT t ρ d = some ρ' → f d = some (some x) → Cx B n A (cEnv env scope C) names W₀ W' ρ' s' →
      wpAny B.M A (eval elt (cEnv env scope C)) (fun v s'' => Keeps s' s'' ∧ Rep s''.heap W' v x) E' s')
    (hb : ∀ d o, f d = some o → ∃ ρ', bindT t ρ d = some ρ')
    (hRR : ∀ (D C : Addr) (h' : Heap) (tk : Nat) (m' : Str → Option Value) (ys : Array Value) (k : Nat), s.heap.get? D = none → s.heap.get? C = none → D ≠ C → h'.Ns C m' → h'.get? D = some (lObj ys k) → RepL h' (fun a => W a ∨ a = C) ys.toList out →
      (∀ b o, s.heap.get? b = some o → h'.get? b = some o) → RR (.ref D) C (.ok .next) { s with heap := h', toks := tk }) :
    wpAny B.M A (newList []) (fun acc s₃ => wpAny B.M A (newFunctionEnv scope env.globals (clE env scope) [] env.qual none .none (some env)) (fun cenv s₄ =>
      codeAny B.M A (.compStart (.ListComp elt [⟨tg, iter, ifs, 0⟩] scope pos) 0 it acc { cenv with scope := relabel scope env }) (RR acc cenv.locals) s₄) E s₃) E s₂ := by
  have os := okScope_iff hsc
  obtain ⟨I, wr, fp, St, rfl, k₂, hwr, src, hst, hfp, hwrI, hlen⟩ := io
  obtain ⟨hh2, tk2, rfl, kk2⟩ := k₂
  refine wpAny_newObj_type (wpAny_newFunctionEnv os.nocell (by intro y hy; simp at hy) (fun h₁ hns₁ hsb₁ => ?_) os.kind)
  dsimp only at hns₁ hsb₁ hst hfp ⊢
  generalize hHp : hh2.push { cls := .type "list", dict := none, data := .seq ([] : List Value).toArray } = Hp at hns₁ hsb₁ ⊢
  have hCsz : Hp.objs.size = hh2.objs.size + 1 := by rw [← hHp, Heap.size_push]
  generalize hCg : Hp.objs.size = C at hns₁ hsb₁ hCsz ⊢
  generalize hDg : hh2.objs.size = D at hCsz ⊢
  have hDC : D ≠ C := by rw [hCsz]; exact Nat.ne_of_lt (Nat.lt_succ_self _)
  have hDn : hh2.get? D = none := by rw [← hDg]; exact none_of_size
  have hCn : hh2.get? C = none := by
    cases q : hh2.get? C with
    | none => rfl
    | some o => exact absurd (Heap.lt_size q) (by rw [hCsz, hDg]; exact Nat.not_lt.mpr (Nat.le_succ _))
  have up₁ : ∀ b o, hh2.get? b = some o → h₁.get? b = some o := fun b o e => hsb₁.extBut b o (fun q => by subst q; exact not_none_of hCn e) (Heap.get?_push_of_some _ (hHp ▸ Heap.get?_push_of_some _ e))
  have hD₁ : h₁.get? D = some (lObj #[] 0) := by
    refine hsb₁.extBut D _ hDC (Heap.get?_push_of_some _ ?_)
    rw [← hHp, ← hDg]; exact Heap.get?_push_size _ rfl
  have sNone : ∀ b, hh2.get? b = none → s.heap.get? b = none := fun b e => by
    cases q : s.heap.get? b with
    | none => rfl
    | some o => exact not_none_of e (kk2 b o q)
  have hwrC : ∀ b ∈ wr, b ≠ C ∧ b ≠ D := fun b hb => by
    obtain ⟨o, ho, _⟩ := src.obj _ _ _ hst b hb
    exact ⟨fun q => by subst q; exact not_none_of hCn ho, fun q => by subst q; exact not_none_of hDn ho⟩
  have hfpC : ∀ b ∈ fp, b ≠ C ∧ b ≠ D := fun b hb => by
    rcases hfp b hb with h | ⟨⟨o, ho, _⟩, _⟩
    · exact hwrC b h
    · exact ⟨fun q => by subst q; exact not_none_of hCn ho, fun q => by subst q; exact not_none_of hDn ho⟩
  let New : Addr → Prop := fun a => a ∈ wr ∨ a = C ∨ a = D
  let W' : Addr → Prop := fun a => W a ∨ New a
  have hNew : ∀ b, New b → s.heap.get? b = none := by
    rintro b (h | rfl | rfl)
    · exact hwr b h
    · exact sNone _ hCn
    · exact sNone _ hDn
  have hfpP : ∀ b ∈ fp, ¬ Priv (cEnv env scope C) b := by
    rintro b hb (q | ⟨x, hx⟩)
    · exact (hfpC b hb).1 q
    · have hcell : ∀ p ∈ scope.names, p.2 = .free → ∃ c, env.cells.lookup p.1 = some c := fun p hp e => cx.frm.has p.1 (os.free p hp e)
      have hx' : env.cells.lookup x = some b := (clOf_lookup scope.names [] hcell (by simp)).1 b hx
      obtain ⟨v, oc, hoc, hdc⟩ := cx.frm.cell x b hx'
      rcases hfp b hb with h | ⟨⟨o, ho, vs, k, hd⟩, _⟩
      · exact not_none_of (hwr b h) hoc
      · have := kk2 b oc hoc
        rw [ho] at this; cases this; rw [hd] at hdc; cases hdc
  have loop : ∀ s₃ : Shared, s₃ = { s with heap := h₁, toks := tk2 + ([] : List (Str × Value)).length } →
      codeAny B.M A (.compLoop (.ListComp elt [⟨tg, iter, ifs, 0⟩] scope pos) 0 (.ref I) (.ref D) (cEnv env scope C)) (RR (.ref D) C) s₃ := by
    rintro s₃ rfl
    refine codeAny_compLoop_any (fun k s' => ∃ (i : Nat) (h' : Heap) (tk : Nat) (m' : Str → Option Value) (ys : Array Value) (j : Nat) (outp rest : List PyData), s' = { s with heap := h', toks := tk } ∧ k = items.length + 1 - i ∧ i ≤ items.length ∧
      compGo f (items.drop i) = some rest ∧ out = outp ++ rest ∧ h'.get? D = some (lObj ys j) ∧ RepL h' W' ys.toList outp ∧ St i h' W' ∧ h'.Ns C m' ∧ (∀ b o, s.heap.get? b = some o → h'.get? b = some o) ∧ outp.length ≤ i) ?_ (items.length + 1)
      ⟨0, h₁, _, _, #[], 0, [], out, rfl, rfl, Nat.zero_le _, by simpa using hf, rfl, hD₁, .nil, ?_, hns₁, fun b o e => up₁ b o (kk2 b o e), Nat.le_refl _⟩
    · rintro k s' ⟨i, h', tk, m', ys, j, outp, rest, rfl, rfl, hi, hgo, hout, hD', rl, st, hns, keep, hol⟩
      have hobj : ∀ b, New b → ∃ o, h'.get? b = some o ∧ NoTup o := by
        rintro b (h | rfl | rfl)
        · exact src.obj _ _ _ st b h
        · obtain ⟨o, es, ep, ho, hd, _⟩ := hns; exact ⟨o, ho, fun vs q e => by rw [hd] at e; cases e⟩
        · exact ⟨_, hD', fun vs q _ => by simp⟩
      have cx' := comp_cx (tk := tk) cx hsc hok hNew (.inr (.inl rfl)) keep hns hobj
      by_cases hlt : i < items.length
      · have hd : items[i]? = some items[i] := List.getElem?_eq_getElem hlt
        obtain ⟨o, rest', hfo, hgo', hrest⟩ := compGo_drop hd hgo
        obtain ⟨ρ', hρ'⟩ := hb _ _ hfo
        have kinds := okTg_kind hok
        refine src.turn kinds.1 (fun q => hwrI (hpair q)) hd st (fun b hb => .inr (.inl hb)) cx'.wok ?_
        intro v h₂ tk₂ rv st₂ hk₂
        have keepI : ∀ b o, s.heap.get? b = some o → h₂.get? b = some o := fun b o e => hk₂ b o (fun hm => not_none_of (hwr b hm) e) (keep b o e)
        have hD₂ : h₂.get? D = some (lObj ys j) := hk₂ D _ (fun hm => (hwrC D hm).2 rfl) hD'
        have hns₂ : h₂.Ns C m' := hns.at' fun o e => hk₂ C o (fun hm => (hwrC C hm).1 rfl) e
        have sub₂ : ∀ a o, ¬ W' a → h'.get? a = some o → ¬ W' a ∧ h₂.get? a = some o := fun a o hw ho => ⟨hw, hk₂ a o (fun hm => hw (.inr (.inl hm))) ho⟩
        have rl₂ := rl.mono sub₂
        have hobj₂ : ∀ b, New b → ∃ o, h₂.get? b = some o ∧ NoTup o := by
          rintro b (h | rfl | rfl)
          · exact src.obj _ _ _ st₂ b h
          · obtain ⟨o, es, ep, ho, hd, _⟩ := hns₂; exact ⟨o, ho, fun vs q e => by rw [hd] at e; cases e⟩
          · exact ⟨_, hD₂, fun vs q _ => by simp⟩
        have cx₂ := comp_cx (tk := tk₂) cx hsc hok hNew (.inr (.inl rfl)) keepI hns₂ hobj₂
        have hscn : (cEnv env scope C).scope.names = relabelN scope.names env.scope.names := relabel_names cx.fn
        refine assign_tg cx₂ (by rw [hscn]; exact hok) rv (by rw [bindT_erase (okTg_ne hok)]; exact hρ') fun s₃ cx₃ op₃ => ?_
        obtain ⟨⟨h₃, tk₃, rfl⟩, k₃⟩ := op₃
        dsimp only at k₃
        have onlyC : ∀ b o, b ≠ C → h₂.get? b = some o → h₃.get? b = some o := fun b o hb e => by
          refine k₃ b o ?_ e
          rintro ⟨x, hx, ⟨_, q⟩ | ⟨hkc, _⟩⟩
          · exact hb q
          · have hkc' : (relabelN scope.names env.scope.names).lookup x = some .cell := by rw [← hscn]; exact hkc
            have := (relabel_lookup scope.names os.nocell hkc').2 rfl
            rw [tg_local hsc hx] at this
            cases this.1
        have sub₃ : ∀ a o, ¬ W' a → h₂.get? a = some o → ¬ W' a ∧ h₃.get? a = some o := fun a o hw ho => ⟨hw, onlyC a o (fun q => hw (.inr (.inr (.inl q)))) ho⟩
        have hD₃ : h₃.get? D = some (lObj ys j) := onlyC D _ hDC hD₂
        have keep₃ : ∀ b o, s.heap.get? b = some o → h₃.get? b = some o := fun b o e => onlyC b o (fun q => by subst q; exact not_none_of (sNone _ hCn) e) (keepI b o e)
        have rl₃ := rl₂.mono sub₃
        have st₃ : St (i + 1) h₃ W' := src.frame _ _ _ _ _ st₂ (fun b o hb e => onlyC b o (hfpC b hb).1 e) sub₃
        refine wpAny_mono (htest C W' ρ' _ _ o _ hρ' hfo cx₃) (fun ok s₄ h₄ => ?_) fun _ _ e => e
        obtain ⟨k₄, rfl⟩ := h₄
        have cx₄ := cx₃.keeps k₄
        obtain ⟨h₄, tk₄, rfl, k₄'⟩ := k₄
        dsimp only at k₄'
        have sub₄ : ∀ a o, ¬ W' a → h₃.get? a = some o → ¬ W' a ∧ h₄.get? a = some o := fun a o hw ho => ⟨hw, k₄' a o ho⟩
        have rl₄ := rl₃.mono sub₄
        have st₄ : St (i + 1) h₄ W' := src.frame _ _ _ _ _ st₃ (fun b o _ e => k₄' b o e) sub₄
        have hD₄ := k₄' _ _ hD₃
        have keep₄ : ∀ b o, s.heap.get? b = some o → h₄.get? b = some o := fun b o e => k₄' b o (keep₃ b o e)
        cases o with
        | none =>
          obtain ⟨m₄, hns₄⟩ := cx₄.frm.ns
          refine ⟨items.length + 1 - (i + 1), by omega, i + 1, h₄, tk₄, m₄, ys, j, outp, rest', rfl, rfl, hlt, hgo', by rw [hout, hrest], hD₄, rl₄, st₄, hns₄, keep₄, by omega⟩
        | some x =>
          show wpAny _ _ _ _ _ _
          refine wpAny_mono (helt C W' ρ' _ _ x _ hρ' hfo cx₄) (fun v s₅ h₅ => ?_) fun _ _ e => e
          obtain ⟨k₅, rx⟩ := h₅
          have cx₅ := cx₄.keeps k₅
          obtain ⟨h₅, tk₅, rfl, k₅'⟩ := k₅
          dsimp only at k₅' rx
          have sub₅ : ∀ a o, ¬ W' a → h₄.get? a = some o → ¬ W' a ∧ h₅.get? a = some o := fun a o hw ho => ⟨hw, k₅' a o ho⟩
          have rl₅ := rl₄.mono sub₅
          have st₅ : St (i + 1) h₅ W' := src.frame _ _ _ _ _ st₄ (fun b o _ e => k₅' b o e) sub₅
          have hD₅ := k₅' _ _ hD₄
          have hsz := seq_size rl₅
          refine wpAny_list_append_plain (items := ys) ⟨j, hD₅⟩ (fun h₆ hpl hsb => ?_) (by rw [hsz]; have := maxLen_le; omega)
          obtain ⟨j', hD₆⟩ := hpl
          have onlyD : ∀ b o, b ≠ D → h₅.get? b = some o → h₆.get? b = some o := fun b o hb e => hsb.extBut b o hb e
          have sub₆ : ∀ a o, ¬ W' a → h₅.get? a = some o → ¬ W' a ∧ h₆.get? a = some o := fun a o hw ho => ⟨hw, onlyD a o (fun q => hw (.inr (.inr (.inr q)))) ho⟩
          obtain ⟨m₅, hns₅⟩ := cx₅.frm.ns
          refine ⟨items.length + 1 - (i + 1), by omega, i + 1, h₆, tk₅, m₅, ys.push v, j', outp ++ [x], rest', rfl, rfl, hlt, hgo', by rw [hout, hrest]; simp, hD₆, ?_, ?_, hns₅.at' fun o e => onlyD C o (Ne.symm hDC) e, ?_, by simp; omega⟩
          · rw [Array.toList_push]; exact (rl₅.mono sub₆).append (.one (rx.mono sub₆))
          · exact src.frame _ _ _ _ _ st₅ (fun b o hb e => onlyD b o (hfpC b hb).2 e) sub₆
          · exact fun b o e => onlyD b o (fun q => by subst q; exact not_none_of (sNone _ hDn) e) (k₅' b o (keep₄ b o e))
      · have hi' : i = items.length := by omega
        subst hi'
        refine src.stop st fun h₂ tk₂ hk₂ => ?_
        have hr : rest = [] := by simp [compGo] at hgo; exact hgo
        subst hr
        rw [List.append_nil] at hout
        subst hout
        have hD₂ : h₂.get? D = some (lObj ys j) := hk₂ D _ (fun hm => (hwrC D hm).2 rfl) hD'
        have hns₂ : h₂.Ns C m' := hns.at' fun o e => hk₂ C o (fun hm => (hwrC C hm).1 rfl) e
        refine hRR D C h₂ tk₂ m' ys j (sNone _ hDn) (sNone _ hCn) hDC hns₂ hD₂ ?_ fun b o e => hk₂ b o (fun hm => not_none_of (hwr b hm) e) (keep b o e)
        refine rl.mono fun a o hw ho => ⟨fun q => hw (q.elim (fun q => .inl q) fun q => .inr (.inr (.inl q))), hk₂ a o (fun hm => hw (.inr (.inl hm))) ho⟩
    · refine src.frame 0 hh2 _ h₁ _ hst (fun b o _ e => up₁ b o e) fun b o hw e => ⟨?_, up₁ b o e⟩
      rintro (h | h | rfl | rfl)
      · exact hw (.inl h)
      · exact hw (.inr h)
      · exact not_none_of hCn e
      · exact not_none_of hDn e
  have hst₁ : St 0 h₁ W' := by
    refine src.frame 0 hh2 _ h₁ _ hst (fun b o _ e => up₁ b o e) fun b o hw e => ⟨?_, up₁ b o e⟩
    rintro (h | h | rfl | rfl)
    · exact hw (.inl h)
    · exact hw (.inr h)
    · exact not_none_of hCn e
    · exact not_none_of hDn e
  exact codeAny_compStart_list (loop _ rfl) (src.self 0 _ W' _ _ hst₁ (loop _ rfl))
end
end Mw

set_option maxRecDepth 10000
namespace Mw
open PySem

section
variable {B : Bs} {Φ : Fns} {n : Nat}

theorem folded_no {iter : PySem.Expr} {env : Env} (h : notSet iter = true) (x : Value) : foldedSetIterable iter env x = pure x := by cases iter <;> first | rfl | cases h

noncomputable def compF (Φ : Fns) (t : Tg) (elt : X) (c : Option X) (ρ : Rho) (d : PyData) : Option (Option PyData) :=
  match bindT t ρ d with
  | some ρ' => match c with
    | none => (asClean (evE Φ elt ρ')).map some
    | some c => match asBool (evE Φ c ρ') with
      | some true => (asClean (evE Φ elt ρ')).map some
      | some false => some none
      | none => none
  | none => none

structure CompOk (names : List Str) (sc : Sc) (t : Tg) (elt it : X) (c : Option X) (tg e iter : PySem.Expr) (ifs : List PySem.Expr) (scope : Scope) : Prop where
  hit : itOk t it = true
  hsc : okScope names sc t scope = true
  htg : okTg names (relabelN scope.names sc) t tg = true
  ns : notSet iter = true
  hiter : okI names sc it iter = true
  helt : okX names (relabelN scope.names sc) elt e = true
  cond : (c = none ∧ ifs = []) ∨ ∃ c' cond, c = some c' ∧ ifs = [cond] ∧ okX names (relabelN scope.names sc) c' cond = true

theorem pair_of {t : Tg} {it : X} {tg : PySem.Expr} {names : List Str} {sc : Sc} (hit : itOk t it = true) (hok : okTg names sc t tg = true) :
    ∃ pair : Bool, (pair = false → ∀ a, it ≠ .enum a) ∧ ((∃ x p, tg = .Name x p) → pair = false) := by
  cases t with
  | one m => exact ⟨false, fun _ a e => by (subst e; cases hit), fun _ => rfl⟩
  | two m k => exact ⟨true, fun h => (by cases h), fun h => by obtain ⟨m', e⟩ := (okTg_kind hok).2 h; cases e⟩

theorem comp_all {t : Tg} {elt it : X} {c : Option X} {tg e iter : PySem.Expr} {ifs : List PySem.Expr} {scope : Scope} {pos : Pos} {A : Around} {env : Env} {names : List Str} {W₀ W : Addr → Prop} {ρ : Rho} {s : Shared} {np : Bool} {items out : List PyData} {use : Option (Value → Sem Unit)} {Q : Value → Shared → Prop} {E : Value → Shared → Prop}
    (helt : SndE B Φ n elt) (hc : ∀ c', c = some c' → SndT B Φ n c') (hI : SndI B Φ n it) (ok : CompOk names env.scope.names t elt it c tg e iter ifs scope) (cx : Cx B n A env names W₀ W ρ s)
    (hev : evI Φ it ρ = some (np, items)) (hgo : compGo (compF Φ t elt c ρ) items = some out)
    (hRR : ∀ (D C : Addr) (h' : Heap) (tk : Nat) (m' : Str → Option Value) (ys : Array Value) (k : Nat), s.heap.get? D = none → s.heap.get? C = none → D ≠ C → h'.Ns C m' → h'.get? D = some (lObj ys k) → RepL h' (fun a => W a ∨ a = C) ys.toList out →
      (∀ b o, s.heap.get? b = some o → h'.get? b = some o) → compPost B.M A E use Q (.ref D) C (.ok .next) { s with heap := h', toks := tk }) :
    wpAny B.M A (comprehension (.ListComp e [⟨tg, iter, ifs, 0⟩] scope pos) scope env (firstIterPos [⟨tg, iter, ifs, 0⟩] pos) (newList []) false (eval iter env) use) Q E s := by
  have os := okScope_iff ok.hsc
  have hcell : ∀ p ∈ scope.names, p.2 = .free → ∃ c, env.cells.lookup p.1 = some c := fun p hp e => cx.frm.has p.1 (os.free p hp e)
  obtain ⟨pair, hp1, hp2⟩ := pair_of ok.hit ok.htg
  refine wpAny_comprehension_free (use := use) (g := ⟨tg, iter, ifs, 0⟩) (gs := []) rfl (folded_no ok.ns) (closureFor_ok hcell) os.kind os.loc ?_
  refine wpAny_mono (hI A env names W₀ W ρ s iter np items pair _ ok.hiter cx hev hp1) (fun v s₁ h₁ => wpAny_mono h₁ (fun itv s₂ h₂ => ?_) fun _ _ e => e) fun _ _ e => e
  have hscn : ∀ C, (cEnv env scope C).scope.names = relabelN scope.names env.scope.names := fun C => relabel_names cx.fn
  refine comp_block (RR := fun acc C => compPost B.M A E use Q acc C) cx ok.hsc ok.htg h₂ hp2 hgo ?_ ?_ ?_ hRR
  · intro C W' ρ' s' d o E' hb hfo cx'
    rcases ok.cond with ⟨rfl, rfl⟩ | ⟨c', cond, rfl, rfl, hok⟩
    · refine wpAny_tests_nil ⟨keeps_refl _, ?_⟩
      simp only [compF, hb, Option.map_eq_some_iff] at hfo
      obtain ⟨x, _, rfl⟩ := hfo; rfl
    · refine wpAny_tests_one ?_
      simp only [compF, hb] at hfo
      cases hc' : asBool (evE Φ c' ρ') with
      | none => rw [hc'] at hfo; cases hfo
      | some b =>
        refine wpAny_mono (hc c' rfl A _ names W₀ W' ρ' s' cond b E' (by rw [hscn]; exact hok) cx' hc') (fun b' s'' p => ⟨p.2, ?_⟩) fun _ _ e => e
        rw [p.1]
        rw [hc'] at hfo
        cases b with
        | true => simp only [Option.map_eq_some_iff] at hfo; obtain ⟨x, _, rfl⟩ := hfo; rfl
        | false => cases hfo; rfl
  · intro C W' ρ' s' d x E' hb hfo cx'
    have hx : asClean (evE Φ elt ρ') = some x := by
      rcases ok.cond with ⟨rfl, _⟩ | ⟨c', cond, rfl, _⟩
      · simp only [compF, hb, Option.map_eq_some_iff] at hfo
        obtain ⟨y, hy, e⟩ := hfo; cases e; exact hy
      · simp only [compF, hb] at hfo
        split at hfo
        · simp only [Option.map_eq_some_iff] at hfo; obtain ⟨y, hy, e⟩ := hfo; cases e; exact hy
        · cases hfo
        · cases hfo
    cases hr : evE Φ elt ρ' with
    | none => rw [hr] at hx; cases hx
    | some r =>
      obtain ⟨cl, y⟩ := r
      rw [hr] at hx
      simp only [asClean] at hx
      split at hx
      · rename_i hcl; cases hx
        exact wpAny_mono (helt A _ names W₀ W' ρ' s' e _ E' (by rw [hscn]; exact ok.helt) cx' hr) (fun v s'' p => ⟨p.1, p.2.ofClean hcl⟩) fun _ _ e => e
      · cases hx
  · intro d o hfo
    unfold compF at hfo
    split at hfo
    · exact ⟨_, by assumption⟩
    · cases hfo

theorem snd_comp_core {t : Tg} {elt it : X} {c : Option X} {tg e iter : PySem.Expr} {ifs : List PySem.Expr} {scope : Scope} {pos : Pos} {A : Around} {env : Env} {names : List Str} {W₀ W : Addr → Prop} {ρ : Rho} {s : Shared} {np : Bool} {items out : List PyData} {E : Value → Shared → Prop}
    (helt : SndE B Φ n elt) (hc : ∀ c', c = some c' → SndT B Φ n c') (hI : SndI B Φ n it) (ok : CompOk names env.scope.names t elt it c tg e iter ifs scope) (cx : Cx B n A env names W₀ W ρ s)
    (hev : evI Φ it ρ = some (np, items)) (hgo : compGo (compF Φ t elt c ρ) items = some out) :
    wpAny B.M A (eval (.ListComp e [⟨tg, iter, ifs, 0⟩] scope pos) env) (Post s W₀ W (.fresh, .list out)) E s := by
  rw [eval_ListComp]
  refine comp_all (use := none) helt hc hI ok cx hev hgo ?_
  intro D C h' tk m' ys k hD hC hDC hns ho rl keep
  refine ⟨m', hns, fun h'' hs'' => ?_⟩
  have up : ∀ b o, b ≠ C → h'.get? b = some o → h''.get? b = some o := fun b o hb e => hs''.extBut b o hb e
  have kp : ∀ b o, s.heap.get? b = some o → h''.get? b = some o := fun b o e => up b o (fun q => by subst q; exact not_none_of hC e) (keep b o e)
  refine ⟨⟨h'', tk, rfl, kp⟩, rv_new_list (n := k) (vs := ys.toList) (wfresh cx.wok hD) hD (by rw [up D _ hDC ho]) ?_⟩
  exact rl.mono fun a o hw ho => ⟨fun q => hw (.inl q), up a o (fun q => hw (.inr q)) ho⟩

theorem compOk0 {names : List Str} {sc : Sc} {t : Tg} {elt it : X} {x : PySem.Expr} (h : okX names sc (.comp0 t elt it) x = true) : ∃ e tg iter scope pos, x = .ListComp e [⟨tg, iter, [], 0⟩] scope pos ∧ CompOk names sc t elt it none tg e iter [] scope := by
  (replace h := iv_comp0 h); obtain ⟨e, tg, iter, asy, scope, pos, rfl, h⟩ := h
  · simp only [Bool.and_eq_true, decide_eq_true_eq] at h
    obtain ⟨⟨⟨⟨⟨⟨rfl, h0⟩, h1⟩, h2⟩, h3⟩, h4⟩, h5⟩ := h
    exact ⟨e, tg, iter, scope, pos, rfl, h0, h1, h2, h3, h4, h5, .inl ⟨rfl, rfl⟩⟩
theorem compOk1 {names : List Str} {sc : Sc} {t : Tg} {elt it c : X} {x : PySem.Expr} (h : okX names sc (.comp1 t elt it c) x = true) : ∃ e tg iter cond scope pos, x = .ListComp e [⟨tg, iter, [cond], 0⟩] scope pos ∧ CompOk names sc t elt it (some c) tg e iter [cond] scope := by
  (replace h := iv_comp1 h); obtain ⟨e, tg, iter, cond, asy, scope, pos, rfl, h⟩ := h
  · simp only [Bool.and_eq_true, decide_eq_true_eq] at h
    obtain ⟨⟨⟨⟨⟨⟨⟨rfl, h0⟩, h1⟩, h2⟩, h3⟩, h4⟩, h5⟩, h6⟩ := h
    exact ⟨e, tg, iter, cond, scope, pos, rfl, h0, h1, h2, h3, h4, h5, .inr ⟨c, cond, rfl, rfl, h6⟩⟩

theorem evE_comp0 {t : Tg} {elt it : X} {ρ : Rho} {r : R1} (h : evE Φ (.comp0 t elt it) ρ = some r) : ∃ np items out, evI Φ it ρ = some (np, items) ∧ compGo (compF Φ t elt none ρ) items = some out ∧ r = (.fresh, .list out) := by
  simp only [Z1, Z2, Z3, Z4, Z5, Z6, Z7, Z8, Z9, Z10, Z11, Z12, Z13, Z14, Z15, Z16, Z17, Z18, Z19, Z20, Z21, Z22, Z23, Z24, Z25, Z26, Z27, Z28, Z29, Z30, Z31] at h
  split at h
  · rename_i np items hi
    split at h
    · rename_i out ho
      cases h
      exact ⟨np, items, out, hi, ho, rfl⟩
    · cases h
  · cases h
theorem evE_comp1 {t : Tg} {elt it c : X} {ρ : Rho} {r : R1} (h : evE Φ (.comp1 t elt it c) ρ = some r) : ∃ np items out, evI Φ it ρ = some (np, items) ∧ compGo (compF Φ t elt (some c) ρ) items = some out ∧ r = (.fresh, .list out) := by
  simp only [Z1, Z2, Z3, Z4, Z5, Z6, Z7, Z8, Z9, Z10, Z11, Z12, Z13, Z14, Z15, Z16, Z17, Z18, Z19, Z20, Z21, Z22, Z23, Z24, Z25, Z26, Z27, Z28, Z29, Z30, Z31] at h
  split at h
  · rename_i np items hi
    split at h
    · rename_i out ho
      cases h
      exact ⟨np, items, out, hi, ho, rfl⟩
    · cases h
  · cases h

structure Snd (B : Bs) (Φ : Fns) (n : Nat) (e : X) : Prop where
  E : SndE B Φ n e
  T : SndT B Φ n e
  L : SndL B Φ n e
  Bo : SndB B Φ n e
  I : SndI B Φ n e

theorem notL {e : X} (h : ∀ names sc ys, okL names sc e ys = false) : SndL B Φ n e ∧ SndB B Φ n e :=
  ⟨fun A env names W₀ W ρ s ys xs pos E hok => by rw [h] at hok; (cases hok), fun k A env names W₀ W ρ s ys b E hok => by rw [h] at hok; (cases hok)⟩
theorem notI {e : X} (h : ∀ names sc x, okI names sc e x = false) : SndI B Φ n e := fun A env names W₀ W ρ s x np items pair E hok => by rw [h] at hok; (cases hok)
theorem notE {e : X} (h : ∀ names sc x, okX names sc e x = false) : SndE B Φ n e ∧ SndT B Φ n e :=
  ⟨fun A env names W₀ W ρ s x r E hok => by rw [h] at hok; (cases hok), fun A env names W₀ W ρ s x b E hok => by rw [h] at hok; (cases hok)⟩
theorem Snd.ofE {e : X} (hE : SndE B Φ n e) (hx : ∀ names sc x, okX names sc e x = true → (match x with | .UnaryOp .Not _ _ => false | .BoolOp .. => false | .IfExp .. => false | .Compare .. => false | _ => true) = true)
    (h : ∀ names sc ys, okL names sc e ys = false) (h' : ∀ names sc x, okI names sc e x = false) : Snd B Φ n e := ⟨hE, sndT_of hE hx, (notL h).1, (notL h).2, notI h'⟩
theorem Snd.ofET {e : X} (hE : SndE B Φ n e ∧ SndT B Φ n e) (h : ∀ names sc ys, okL names sc e ys = false) (h' : ∀ names sc x, okI names sc e x = false) : Snd B Φ n e := ⟨hE.1, hE.2, (notL h).1, (notL h).2, notI h'⟩

theorem snd_all (hB : B.Ok) (hΦ : FnsOk B Φ n) (e : X) : Snd B Φ n e := by
  induction e with
  | const c => exact .ofE (snd_const c) (fun _ _ _ h => by obtain ⟨_, _, _, rfl, _⟩ := iv_const h; rfl) (fun _ _ _ => rfl) fun _ _ _ => rfl
  | var m => exact .ofE (snd_var m) (fun _ _ _ h => by obtain ⟨_, _, rfl, _⟩ := iv_var h; rfl) (fun _ _ _ => rfl) fun _ _ _ => rfl
  | glob g => exact .ofE (snd_glob hB hΦ g) (fun _ _ _ h => by obtain ⟨_, _, rfl, _⟩ := iv_glob h; rfl) (fun _ _ _ => rfl) fun _ _ _ => rfl
  | bin op a b iha ihb => exact .ofE (snd_bin iha.E ihb.E) (fun _ _ _ h => by obtain ⟨_, _, _, _, rfl, _⟩ := iv_bin h; rfl) (fun _ _ _ => rfl) fun _ _ _ => rfl
  | not a iha => exact .ofET (snd_not iha.E iha.T) (fun _ _ _ => rfl) fun _ _ _ => rfl
  | and l ih => exact .ofET (snd_and ih.Bo) (fun _ _ _ => rfl) fun _ _ _ => rfl
  | or l ih => exact .ofET (snd_or ih.Bo) (fun _ _ _ => rfl) fun _ _ _ => rfl
  | cmp op a b iha ihb => exact .ofET (snd_cmp iha.E ihb.E) (fun _ _ _ => rfl) fun _ _ _ => rfl
  | cmp2 op op' a b c iha ihb ihc => exact .ofET (snd_cmp2 iha.E ihb.E ihc.E) (fun _ _ _ => rfl) fun _ _ _ => rfl
  | isinst t a iha => exact .ofE (snd_isinst hB iha.E) (fun _ _ _ h => by obtain ⟨_, _, _, _, _, _, rfl, _⟩ := iv_isinst h; rfl) (fun _ _ _ => rfl) fun _ _ _ => rfl
  | un f a iha => exact .ofE (snd_un hB iha.E) (fun _ _ _ h => by obtain ⟨_, _, _, _, rfl, _⟩ := iv_un h; rfl) (fun _ _ _ => rfl) fun _ _ _ => rfl
  | bi f a b iha ihb => exact .ofE (snd_bi hB iha.E ihb.E) (fun _ _ _ h => by obtain ⟨_, _, _, _, _, rfl, _⟩ := iv_bi h; rfl) (fun _ _ _ => rfl) fun _ _ _ => rfl
  | listRange a iha => exact .ofE (snd_listRange hB iha.E) (fun _ _ _ h => by obtain ⟨_, _, _, _, _, _, _, rfl, _⟩ := iv_listRange h; rfl) (fun _ _ _ => rfl) fun _ _ _ => rfl
  | sortedSet a iha => exact .ofE (snd_sortedSet hB iha.E) (fun _ _ _ h => by obtain ⟨_, _, _, _, _, _, _, rfl, _⟩ := iv_sortedSet h; rfl) (fun _ _ _ => rfl) fun _ _ _ => rfl
  | revList a _ => exact ⟨fun A env names W₀ W ρ s x r E _ _ h => by (cases (show (none : Option R1) = some _ from h)), fun A env names W₀ W ρ s x b E _ _ h => by (simp only [Z1, Z2, Z3, Z4, Z5, Z6, Z7, Z8, Z9, Z10, Z11, Z12, Z13, Z14, Z15, Z16, Z17, Z18, Z19, Z20, Z21, Z22, Z23, Z24, Z25, Z26, Z27, Z28, Z29, Z30, Z31] at h; cases h), (notL fun _ _ _ => rfl).1, (notL fun _ _ _ => rfl).2, notI fun _ _ _ => rfl⟩
  | idx a i iha ihi => exact .ofE (snd_idx iha.E ihi.E) (fun _ _ _ h => by obtain ⟨_, _, _, rfl, _⟩ := iv_idx h; rfl) (fun _ _ _ => rfl) fun _ _ _ => rfl
  | upto a i iha ihi => exact .ofE (snd_upto iha.E ihi.E) (fun _ _ _ h => by obtain ⟨_, _, _, _, rfl, _⟩ := iv_upto h; rfl) (fun _ _ _ => rfl) fun _ _ _ => rfl
  | since a i iha ihi => exact .ofE (snd_since iha.E ihi.E) (fun _ _ _ h => by obtain ⟨_, _, _, _, rfl, _⟩ := iv_since h; rfl) (fun _ _ _ => rfl) fun _ _ _ => rfl
  | tup l ih => exact .ofE (snd_tup ih.L) (fun _ _ _ h => by obtain ⟨_, _, _, rfl, _⟩ := iv_tup h; rfl) (fun _ _ _ => rfl) fun _ _ _ => rfl
  | lst l ih => exact .ofE (snd_lst ih.L) (fun _ _ _ h => by obtain ⟨_, _, rfl, _⟩ := iv_lst h; rfl) (fun _ _ _ => rfl) fun _ _ _ => rfl
  | comp0 t elt it ihe ihi =>
    refine .ofE (fun A env names W₀ W ρ s x r E hok cx hev => ?_) (fun _ _ _ h => by obtain ⟨_, _, _, _, _, _, rfl, _⟩ := iv_comp0 h; rfl) (fun _ _ _ => rfl) fun _ _ _ => rfl
    obtain ⟨e, tg, iter, scope, pos, rfl, ok⟩ := compOk0 hok
    obtain ⟨np, items, out, h1, h2, rfl⟩ := evE_comp0 hev
    exact snd_comp_core ihe.E (by simp) ihi.I ok cx h1 h2
  | comp1 t elt it c ihe ihi ihc =>
    refine .ofE (fun A env names W₀ W ρ s x r E hok cx hev => ?_) (fun _ _ _ h => by obtain ⟨_, _, _, _, _, _, _, rfl, _⟩ := iv_comp1 h; rfl) (fun _ _ _ => rfl) fun _ _ _ => rfl
    obtain ⟨e, tg, iter, cond, scope, pos, rfl, ok⟩ := compOk1 hok
    obtain ⟨np, items, out, h1, h2, rfl⟩ := evE_comp1 hev
    exact snd_comp_core ihe.E (by rintro c' ⟨⟩; exact ihc.T) ihi.I ok cx h1 h2
  | call f l ih => exact .ofE (snd_call hB hΦ ih.L) (fun _ _ _ h => by obtain ⟨_, _, _, _, _, rfl, _⟩ := iv_call h; rfl) (fun _ _ _ => rfl) fun _ _ _ => rfl
  | inDic neg a m iha => exact .ofET ⟨fun A env names W₀ W ρ s x r E _ _ h => by (cases (show (none : Option R1) = some _ from h)), fun A env names W₀ W ρ s x b E _ _ h => by (cases (show (none : Option Bool) = some _ from h))⟩ (fun _ _ _ => rfl) fun _ _ _ => rfl
  | getDic m a iha => exact .ofET ⟨fun A env names W₀ W ρ s x r E _ _ h => by (cases (show (none : Option R1) = some _ from h)), fun A env names W₀ W ρ s x b E _ _ h => by (cases (show (none : Option Bool) = some _ from h))⟩ (fun _ _ _ => rfl) fun _ _ _ => rfl
  | nil => exact ⟨(notE fun _ _ _ => rfl).1, (notE fun _ _ _ => rfl).2, sndL_nil, sndB_nil, notI fun _ _ _ => rfl⟩
  | cons a l iha ihl => exact ⟨(notE fun _ _ _ => rfl).1, (notE fun _ _ _ => rfl).2, sndL_cons iha.E ihl.L, sndB_cons iha.E iha.T ihl.Bo, notI fun _ _ _ => rfl⟩
  | seq a iha => exact ⟨(notE fun _ _ _ => rfl).1, (notE fun _ _ _ => rfl).2, (notL fun _ _ _ => rfl).1, (notL fun _ _ _ => rfl).2, sndI_seq iha.E⟩
  | range1 a iha => exact ⟨(notE fun _ _ _ => rfl).1, (notE fun _ _ _ => rfl).2, (notL fun _ _ _ => rfl).1, (notL fun _ _ _ => rfl).2, sndI_range1 hB iha.E⟩
  | range2 a b iha ihb => exact ⟨(notE fun _ _ _ => rfl).1, (notE fun _ _ _ => rfl).2, (notL fun _ _ _ => rfl).1, (notL fun _ _ _ => rfl).2, sndI_range2 hB iha.E ihb.E⟩
  | enum a iha => exact ⟨(notE fun _ _ _ => rfl).1, (notE fun _ _ _ => rfl).2, (notL fun _ _ _ => rfl).1, (notL fun _ _ _ => rfl).2, sndI_enum hB iha.E⟩
end
end Mw

set_option maxRecDepth 10000
namespace Mw
open PySem

noncomputable def Wof (env : Env) (W₀ Ex : Addr → Prop) (O : Nat → Option Addr) (a : Addr) : Prop := W₀ a ∨ Priv env a ∨ Ex a ∨ ∃ m, O m = some a

structure SI (B : Bs) (n : Nat) (A : Around) (env : Env) (names : List Str) (W₀ Ex : Addr → Prop) (O : Nat → Option Addr) (ρ : Rho) (s₀ s : Shared) : Prop where
  cx : Cx B n A env names W₀ (Wof env W₀ Ex O) ρ s
  kp : Keeps s₀ s
  fresh : ∀ a, (Priv env a ∨ Ex a ∨ ∃ m, O m = some a) → s₀.heap.get? a = none
  own : ∀ m a, O m = some a → ¬ Priv env a ∧ ¬ Ex a ∧ ¬ W₀ a
  inj : ∀ m m' a, O m = some a → O m' = some a → m = m'
  link : ∀ (m : Nat) (ds : List PyData) (x : Str), ρ[m]? = some (some (.own ds)) → names[m]? = some x → (env.kindOf x = some .local ∨ env.kindOf x = some .cell) → ∃ a, VarAt env s.heap x (.ref a) ∧ O m = some a
  linkT : ∀ (m : Nat) (d : PyData) (ds : List PyData) (x : Str), ρ[m]? = some (some (.ownT d ds)) → names[m]? = some x → (env.kindOf x = some .local ∨ env.kindOf x = some .cell) → ∃ t a v₀ k, VarAt env s.heap x (.ref t) ∧ s.heap.get? t = some (tObj #[v₀, .ref a] k) ∧ O m = some a
  base₀ : ∀ b o, B.H.get? b = some o → s₀.heap.get? b = some o

section
variable {B : Bs} {n : Nat} {A : Around} {env : Env} {names : List Str} {W₀ Ex : Addr → Prop} {O : Nat → Option Addr} {ρ : Rho} {s₀ s s' : Shared} {E : Value → Shared → Prop}

theorem VarAt.unique {h : Heap} {x : Str} {v v' : Value} (a : VarAt env h x v) (b : VarAt env h x v') : v = v' := by
  rcases a with ⟨k, m, hm, e⟩ | ⟨k, c, hc, o, ho, hd⟩ <;> rcases b with ⟨k', m', hm', e'⟩ | ⟨k', c', hc', o', ho', hd'⟩
  · have := ns_unique hm hm'; subst this; rw [e] at e'; cases e'; rfl
  · rw [k] at k'; cases k'
  · rw [k] at k'; cases k'
  · rw [hc] at hc'; cases hc'
    rw [ho] at ho'; cases ho'
    rw [hd] at hd'; cases hd'; rfl

theorem SI.keeps (q : SI B n A env names W₀ Ex O ρ s₀ s) (k : Keeps s s') : SI B n A env names W₀ Ex O ρ s₀ s' where
  cx := q.cx.keeps k
  kp := keeps_trans q.kp k
  fresh := q.fresh
  own := q.own
  inj := q.inj
  link := fun m ds x h1 h2 h3 => let ⟨a, hv, ho⟩ := q.link m ds x h1 h2 h3; ⟨a, hv.keeps (Keeps.heap k), ho⟩
  linkT := fun m d ds x h1 h2 h3 => let ⟨t, a, v₀, j, hv, ht, ho⟩ := q.linkT m d ds x h1 h2 h3; ⟨t, a, v₀, j, hv.keeps (Keeps.heap k), Keeps.heap k _ _ ht, ho⟩
  base₀ := q.base₀

theorem SI.addEx {New : Addr → Prop} (q : SI B n A env names W₀ Ex O ρ s₀ s) (k : Keeps s s') (hn : ∀ b, New b → s.heap.get? b = none) (ho : ∀ b, New b → ∃ o, s'.heap.get? b = some o ∧ NoTup o) :
    SI B n A env names W₀ (fun a => Ex a ∨ New a) O ρ s₀ s' := by
  have q' := q.keeps k
  have ex : ∀ a, (∃ o, s.heap.get? a = some o) → ¬ New a := fun a ⟨o, e⟩ h => not_none_of (hn a h) e
  have H : ∀ a o, ¬ Wof env W₀ Ex O a → s.heap.get? a = some o → ¬ Wof env W₀ (fun a => Ex a ∨ New a) O a ∧ s'.heap.get? a = some o := fun a o hw e =>
    ⟨fun w => by
      rcases w with w | w | (w | w) | w
      · exact hw (.inl w)
      · exact hw (.inr (.inl w))
      · exact hw (.inr (.inr (.inl w)))
      · exact ex a ⟨o, e⟩ w
      · exact hw (.inr (.inr (.inr w))), Keeps.heap k a o e⟩
  have up : ∀ a, Wof env W₀ Ex O a → Wof env W₀ (fun a => Ex a ∨ New a) O a := fun a w => by
    rcases w with w | w | w | w
    · exact .inl w
    · exact .inr (.inl w)
    · exact .inr (.inr (.inl (.inl w)))
    · exact .inr (.inr (.inr w))
  refine { kp := q'.kp, inj := q.inj, link := q'.link, linkT := q'.linkT, base₀ := q.base₀, fresh := ?fresh, own := ?own, cx := ?cx }
  case fresh =>
    rintro a (h | (h | h) | h)
    · exact q.fresh a (.inl h)
    · exact q.fresh a (.inr (.inl h))
    · exact none_of_keeps q.kp (hn a h)
    · exact q.fresh a (.inr (.inr h))
  case own =>
    intro m a h
    obtain ⟨h1, h2, h3⟩ := q.own m a h
    refine ⟨h1, fun w => w.elim h2 fun w => ?_, h3⟩
    obtain ⟨o, e, _⟩ := q.cx.wok a (.inr (.inr (.inr ⟨m, h⟩)))
    exact ex a ⟨o, e⟩ w
  case cx =>
    refine { room := q.cx.room, fn := q.cx.fn, gl := q.cx.gl, bl := q.cx.bl, base := q'.cx.base, le := fun a h => .inl h, wok := ?_, frm := q'.cx.frm, priv := fun b h => .inr (.inl h), offH := q.cx.offH, nd := q.cx.nd, dot := q.cx.dot, env := ?_ }
    · rintro a (w | w | (w | w) | w)
      · exact q'.cx.wok a (.inl w)
      · exact q'.cx.wok a (.inr (.inl w))
      · exact q'.cx.wok a (.inr (.inr (.inl w)))
      · exact ho a w
      · exact q'.cx.wok a (.inr (.inr (.inr w)))
    · intro m e x h1 h2 h3
      obtain ⟨v, hv, he⟩ := q.cx.env m e x h1 h2 h3
      refine ⟨v, hv.keeps (Keeps.heap k), ?_⟩
      cases e with
      | val d => exact Rep.mono H he
      | own ds => obtain ⟨a, e, w, w₀, sh⟩ := he; exact ⟨a, e, up a w, w₀, sh.mono H fun o => Keeps.heap k a o⟩
      | ownT d ds => obtain ⟨u, a, v₀, j, e, wt, ht, r, w, w₀, sh⟩ := he; exact ⟨u, a, v₀, j, e, (H _ _ wt ht).1, Keeps.heap k _ _ ht, r.mono H, up a w, w₀, sh.mono H fun o => Keeps.heap k a o⟩

theorem SI.dropEx {New : Addr → Prop} (q : SI B n A env names W₀ (fun a => Ex a ∨ New a) O ρ s₀ s) (hs : ∃ h tk, s' = { s with heap := h, toks := tk }) (hk : ∀ b o, ¬ New b → s.heap.get? b = some o → s'.heap.get? b = some o) (hne : ∀ b, New b → ¬ Priv env b ∧ ¬ Ex b ∧ ¬ W₀ b) :
    SI B n A env names W₀ Ex O ρ s₀ s' := by
  obtain ⟨h', tk, rfl⟩ := hs
  dsimp only at hk
  have down : ∀ a, Wof env W₀ Ex O a → Wof env W₀ (fun a => Ex a ∨ New a) O a := fun a w => by
    rcases w with w | w | w | w
    · exact .inl w
    · exact .inr (.inl w)
    · exact .inr (.inr (.inl (.inl w)))
    · exact .inr (.inr (.inr w))
  have H : ∀ a o, ¬ Wof env W₀ (fun a => Ex a ∨ New a) O a → s.heap.get? a = some o → ¬ Wof env W₀ Ex O a ∧ h'.get? a = some o := fun a o hw e => ⟨fun w => hw (down a w), hk a o (fun w => hw (.inr (.inr (.inl (.inr w))))) e⟩
  have wnew : ∀ a, Wof env W₀ Ex O a → ¬ New a := fun a w hn => by
    obtain ⟨h1, h2, h3⟩ := hne a hn
    rcases w with w | w | w | ⟨m, w⟩
    · exact h3 w
    · exact h1 w
    · exact h2 w
    · exact (q.own m a w).2.1 (.inr hn)
  have hfr : ∀ b, New b → s₀.heap.get? b = none := fun b h => q.fresh b (.inr (.inl (.inr h)))
  have varUp : ∀ x v, VarAt env s.heap x v → VarAt env h' x v := fun x v hv => by
    rcases hv with ⟨k, m, hm, e⟩ | ⟨k, c, hc, hv⟩
    · exact .inl ⟨k, m, hm.at' fun o e => hk _ o (fun w => (hne _ w).1 (.inl rfl)) e, e⟩
    · obtain ⟨o, ho, hd⟩ := hv; exact .inr ⟨k, c, hc, o, hk _ o (fun w => (hne _ w).1 (.inr ⟨x, hc⟩)) ho, hd⟩
  refine { inj := q.inj, base₀ := q.base₀, kp := ?kp, fresh := ?fresh, own := ?own, link := ?link, linkT := ?linkT, cx := ?cx }
  case kp =>
    obtain ⟨h₁, t₁, e, k₁⟩ := q.kp
    subst e
    exact ⟨h', tk, rfl, fun b o e => hk b o (fun w => not_none_of (hfr b w) e) (k₁ b o e)⟩
  case fresh =>
    rintro a (h | h | h)
    · exact q.fresh a (.inl h)
    · exact q.fresh a (.inr (.inl (.inl h)))
    · exact q.fresh a (.inr (.inr h))
  case own =>
    intro m a h
    obtain ⟨h1, h2, h3⟩ := q.own m a h
    exact ⟨h1, fun w => h2 (.inl w), h3⟩
  case link =>
    intro m ds x h1 h2 h3
    obtain ⟨a, hv, ho⟩ := q.link m ds x h1 h2 h3
    exact ⟨a, varUp _ _ hv, ho⟩
  case linkT =>
    intro m d ds x h1 h2 h3
    obtain ⟨t, a, v₀, j, hv, ht, ho⟩ := q.linkT m d ds x h1 h2 h3
    refine ⟨t, a, v₀, j, varUp _ _ hv, hk _ _ (fun w => ?_) ht, ho⟩
    obtain ⟨o, e, nt⟩ := q.cx.wok t (.inr (.inr (.inl (.inr w))))
    rw [ht] at e; cases e; exact nt _ _ rfl rfl
  case cx =>
    refine { room := q.cx.room, fn := q.cx.fn, gl := q.cx.gl, bl := q.cx.bl, le := fun a h => .inl h, priv := fun b h => .inr (.inl h), offH := q.cx.offH, nd := q.cx.nd, dot := q.cx.dot, base := ?_, wok := ?_, frm := ?_, env := ?_ }
    · intro b o e
      exact hk b o (fun w => not_none_of (hfr b w) (q.base₀ b o e)) (q.cx.base b o e)
    · intro a w
      obtain ⟨o, e, nt⟩ := q.cx.wok a (down a w)
      exact ⟨o, hk a o (wnew a w) e, nt⟩
    · refine ⟨let ⟨m, hm⟩ := q.cx.frm.ns; ⟨m, hm.at' fun o e => hk _ o (fun w => (hne _ w).1 (.inl rfl)) e⟩, q.cx.frm.has, fun x c hc => ?_, q.cx.frm.off, q.cx.frm.apart⟩
      obtain ⟨v, o, ho, hd⟩ := q.cx.frm.cell x c hc
      exact ⟨v, o, hk _ o (fun w => (hne _ w).1 (.inr ⟨x, hc⟩)) ho, hd⟩
    · intro m e x h1 h2 h3
      obtain ⟨v, hv, he⟩ := q.cx.env m e x h1 h2 h3
      refine ⟨v, varUp _ _ hv, ?_⟩
      cases e with
      | val d => exact Rep.mono H he
      | own ds =>
        obtain ⟨a, rfl, w, w₀, sh⟩ := he
        obtain ⟨a', hv', ho'⟩ := q.link m ds x h1 h2 h3
        cases hv.unique hv'
        have wa : Wof env W₀ Ex O a := .inr (.inr (.inr ⟨m, ho'⟩))
        exact ⟨a, rfl, wa, w₀, sh.mono H fun o => hk a o (wnew a wa)⟩
      | ownT d ds =>
        obtain ⟨u, a, v₀, j, rfl, wt, ht, r, w, w₀, sh⟩ := he
        obtain ⟨t', a', v', j', hv', ht', ho'⟩ := q.linkT m d ds x h1 h2 h3
        cases hv.unique hv'
        rw [ht] at ht'
        have ea : a = a' := by
          have := congrArg (fun o : Option Obj => o.map (·.data)) ht'
          simp at this
          exact this.1.2
        subst ea
        have wa : Wof env W₀ Ex O a := .inr (.inr (.inr ⟨m, ho'⟩))
        exact ⟨u, a, v₀, j, rfl, (H _ _ wt ht).1, (H _ _ wt ht).2, r.mono H, wa, w₀, sh.mono H fun o => hk a o (wnew a wa)⟩
end
end Mw

set_option maxRecDepth 10000
namespace Mw
open PySem

noncomputable def setO (O : Nat → Option Addr) (m : Nat) (a : Option Addr) : Nat → Option Addr := fun k => if k = m then a else O k
theorem setO_self {O : Nat → Option Addr} {m : Nat} {a : Option Addr} : setO O m a m = a := by simp [setO]
theorem setO_ne {O : Nat → Option Addr} {m k : Nat} {a : Option Addr} (h : k ≠ m) : setO O m a k = O k := by simp [setO, h]

section
variable {B : Bs} {n : Nat} {A : Around} {env : Env} {names : List Str} {W₀ Ex : Addr → Prop} {O : Nat → Option Addr} {ρ : Rho} {s₀ s s' : Shared} {E : Value → Shared → Prop}

theorem set_get {ρ : Rho} {m k : Nat} {e : Option Ent} {e' : Ent} (h : (ρ.set m e)[k]? = some (some e')) : (k = m ∧ e = some e') ∨ (k ≠ m ∧ ρ[k]? = some (some e')) := by
  rw [List.getElem?_set] at h
  split at h
  · rename_i q; subst q
    split at h
    · cases h; exact .inl ⟨rfl, rfl⟩
    · cases h
  · rename_i q; exact .inr ⟨Ne.symm q, h⟩

theorem cx_shrink {W W' : Addr → Prop} (cx : Cx B n A env names W₀ W ρ s) (h1 : ∀ a, W' a → W a) (h2 : ∀ a, W₀ a → W' a) (h3 : ∀ b, Priv env b → W' b)
    (h4 : ∀ (m : Nat) (ds : List PyData) (x : Str) (a : Addr), ρ[m]? = some (some (.own ds)) → names[m]? = some x → (env.kindOf x = some .local ∨ env.kindOf x = some .cell) → VarAt env s.heap x (.ref a) → W' a)
    (h5 : ∀ (m : Nat) (d : PyData) (ds : List PyData) (x : Str) (t a : Addr) (v₀ : Value) (k : Nat), ρ[m]? = some (some (.ownT d ds)) → names[m]? = some x → (env.kindOf x = some .local ∨ env.kindOf x = some .cell) → VarAt env s.heap x (.ref t) → s.heap.get? t = some (tObj #[v₀, .ref a] k) → W' a) :
    Cx B n A env names W₀ W' ρ s := by
  have H : ∀ a o, ¬ W a → s.heap.get? a = some o → ¬ W' a ∧ s.heap.get? a = some o := fun a o hw e => ⟨fun w => hw (h1 a w), e⟩
  refine { room := cx.room, fn := cx.fn, gl := cx.gl, bl := cx.bl, base := cx.base, le := h2, wok := fun a w => cx.wok a (h1 a w), frm := cx.frm, priv := h3, offH := cx.offH, nd := cx.nd, dot := cx.dot, env := ?_ }
  intro m e x a1 a2 a3
  obtain ⟨v, hv, he⟩ := cx.env m e x a1 a2 a3
  refine ⟨v, hv, ?_⟩
  cases e with
  | val d => exact Rep.mono H he
  | own ds => obtain ⟨a, rfl, w, w₀, sh⟩ := he; exact ⟨a, rfl, h4 m ds x a a1 a2 a3 hv, w₀, sh.mono H fun o e => e⟩
  | ownT d ds => obtain ⟨u, a, v₀, j, rfl, wt, ht, r, w, w₀, sh⟩ := he; exact ⟨u, a, v₀, j, rfl, (H _ _ wt ht).1, ht, r.mono H, h5 m d ds x u a v₀ j a1 a2 a3 hv ht, w₀, sh.mono H fun o e => e⟩

theorem SI.forget (q : SI B n A env names W₀ Ex O ρ s₀ s) (m : Nat) : SI B n A env names W₀ Ex O (ρ.set m none) s₀ s := by
  have sub : ∀ (k : Nat) (e : Ent), (ρ.set m none)[k]? = some (some e) → ρ[k]? = some (some e) := fun k e h => by
    rcases set_get h with ⟨_, q⟩ | ⟨_, q⟩
    · cases q
    · exact q
  exact { kp := q.kp, fresh := q.fresh, own := q.own, inj := q.inj, base₀ := q.base₀, link := fun k ds x h1 => q.link k ds x (sub k _ h1), linkT := fun k d ds x h1 => q.linkT k d ds x (sub k _ h1),
          cx := { room := q.cx.room, fn := q.cx.fn, gl := q.cx.gl, bl := q.cx.bl, base := q.cx.base, le := q.cx.le, wok := q.cx.wok, frm := q.cx.frm, priv := q.cx.priv, offH := q.cx.offH, nd := q.cx.nd, dot := q.cx.dot, env := fun k e x h1 => q.cx.env k e x (sub k e h1) } }

theorem name_ne {m k : Nat} {x y : Str} (nd : names.Nodup) (hm : names[m]? = some x) (hk : names[k]? = some y) (h : k ≠ m) : y ≠ x := fun e => by
  subst e
  obtain ⟨l1, e1⟩ := List.getElem?_eq_some_iff.mp hm
  obtain ⟨l2, e2⟩ := List.getElem?_eq_some_iff.mp hk
  exact h (nodup_inj nd l2 l1 (e2.trans e1.symm))

theorem kp_only {P : Addr → Prop} (k : Keeps s₀ s) (o : Only P s s') (h : ∀ b, P b → s₀.heap.get? b = none) : Keeps s₀ s' := by
  obtain ⟨h₁, t₁, rfl, k₁⟩ := k
  obtain ⟨⟨h₂, t₂, rfl⟩, k₂⟩ := o
  exact ⟨h₂, t₂, rfl, fun b o e => k₂ b o (fun p => not_none_of (h b p) e) (k₁ b o e)⟩

theorem SI.stored {m : Nat} {x : Str} {e : Ent} {O' : Nat → Option Addr} {Ex' : Addr → Prop} {v : Value} (q : SI B n A env names W₀ Ex' O ρ s₀ s) (hm : names[m]? = some x) (cx' : Cx B n A env names W₀ (Wof env W₀ Ex' O) (ρ.set m (some e)) s') (on : Only (Slot env x) s s')
    (hv : VarAt env s'.heap x v ∧ ∀ y u, y ≠ x → VarAt env s.heap y u → VarAt env s'.heap y u)
    (hO : ∀ k, k ≠ m → O' k = O k) (hEx : ∀ a, Ex a → Ex' a) (hw : ∀ a, O' m = some a → Wof env W₀ Ex' O a ∧ ¬ Priv env a ∧ ¬ Ex a ∧ ¬ W₀ a ∧ s₀.heap.get? a = none ∧ ∀ k, k ≠ m → O k ≠ some a)
    (hl : ∀ ds, e = .own ds → ∃ a, v = .ref a ∧ O' m = some a) (hlT : ∀ d ds, e = .ownT d ds → ∃ t a v₀ k, v = .ref t ∧ s'.heap.get? t = some (tObj #[v₀, .ref a] k) ∧ O' m = some a) :
    SI B n A env names W₀ Ex O' (ρ.set m (some e)) s₀ s' := by
  have keepT : ∀ t vs k, s.heap.get? t = some (tObj vs k) → s'.heap.get? t = some (tObj vs k) := fun t vs k h => on.2 t _ (fun p => q.cx.frm.not_seq h rfl p.priv) h
  have wdown : ∀ a, Wof env W₀ Ex O' a → Wof env W₀ Ex' O a := by
    rintro a (w | w | w | ⟨k, w⟩)
    · exact .inl w
    · exact .inr (.inl w)
    · exact .inr (.inr (.inl (hEx a w)))
    · by_cases hk : k = m
      · subst hk; exact (hw a w).1
      · rw [hO k hk] at w; exact .inr (.inr (.inr ⟨k, w⟩))
  have link : ∀ (k : Nat) (ds : List PyData) (y : Str), (ρ.set m (some e))[k]? = some (some (.own ds)) → names[k]? = some y → (env.kindOf y = some .local ∨ env.kindOf y = some .cell) → ∃ a, VarAt env s'.heap y (.ref a) ∧ O' k = some a := by
    intro k ds y h1 h2 h3
    rcases set_get h1 with ⟨rfl, he⟩ | ⟨hne, h1⟩
    · cases he
      rw [hm] at h2; cases h2
      obtain ⟨a, rfl, ha⟩ := hl ds rfl
      exact ⟨a, hv.1, ha⟩
    · obtain ⟨a, va, oa⟩ := q.link k ds y h1 h2 h3
      exact ⟨a, hv.2 y _ (name_ne q.cx.nd hm h2 hne) va, by rw [hO k hne]; exact oa⟩
  have linkT : ∀ (k : Nat) (d : PyData) (ds : List PyData) (y : Str), (ρ.set m (some e))[k]? = some (some (.ownT d ds)) → names[k]? = some y → (env.kindOf y = some .local ∨ env.kindOf y = some .cell) →
      ∃ t a v₀ j, VarAt env s'.heap y (.ref t) ∧ s'.heap.get? t = some (tObj #[v₀, .ref a] j) ∧ O' k = some a := by
    intro k d ds y h1 h2 h3
    rcases set_get h1 with ⟨rfl, he⟩ | ⟨hne, h1⟩
    · cases he
      rw [hm] at h2; cases h2
      obtain ⟨t, a, v₀, j, rfl, ht, ha⟩ := hlT d ds rfl
      exact ⟨t, a, v₀, j, hv.1, ht, ha⟩
    · obtain ⟨t, a, v₀, j, va, ht, oa⟩ := q.linkT k d ds y h1 h2 h3
      exact ⟨t, a, v₀, j, hv.2 y _ (name_ne q.cx.nd hm h2 hne) va, keepT _ _ _ ht, by rw [hO k hne]; exact oa⟩
  refine { kp := kp_only q.kp on fun b p => q.fresh b (.inl p.priv), base₀ := q.base₀, link := link, linkT := linkT, fresh := ?fresh, own := ?own, inj := ?inj, cx := ?cx }
  case fresh =>
    rintro a (w | w | ⟨k, w⟩)
    · exact q.fresh a (.inl w)
    · exact q.fresh a (.inr (.inl (hEx a w)))
    · by_cases hk : k = m
      · subst hk; exact (hw a w).2.2.2.2.1
      · rw [hO k hk] at w; exact q.fresh a (.inr (.inr ⟨k, w⟩))
  case own =>
    intro k a w
    by_cases hk : k = m
    · subst hk; obtain ⟨_, h1, h2, h3, _⟩ := hw a w; exact ⟨h1, h2, h3⟩
    · rw [hO k hk] at w
      obtain ⟨h1, h2, h3⟩ := q.own k a w
      exact ⟨h1, fun w => h2 (hEx a w), h3⟩
  case inj =>
    intro k k' a w w'
    by_cases hk : k = m <;> by_cases hk' : k' = m
    · rw [hk, hk']
    · subst hk; rw [hO k' hk'] at w'; exact ((hw a w).2.2.2.2.2 k' hk' w').elim
    · subst hk'; rw [hO k hk] at w; exact ((hw a w').2.2.2.2.2 k hk w).elim
    · rw [hO k hk] at w; rw [hO k' hk'] at w'; exact q.inj k k' a w w'
  case cx =>
    refine cx_shrink cx' wdown (fun a w => .inl w) (fun b w => .inr (.inl w)) ?_ ?_
    · intro k ds y a h1 h2 h3 va
      obtain ⟨a', va', oa⟩ := link k ds y h1 h2 h3
      cases va.unique va'
      exact .inr (.inr (.inr ⟨k, oa⟩))
    · intro k d ds y t a v₀ j h1 h2 h3 va ht
      obtain ⟨t', a', v', j', va', ht', oa⟩ := linkT k d ds y h1 h2 h3
      cases va.unique va'
      rw [ht] at ht'
      have := congrArg (fun o : Option Obj => o.map (·.data)) ht'
      simp at this
      exact .inr (.inr (.inr ⟨k, by rw [this.1.2]; exact oa⟩))

theorem si_val {m : Nat} {x : Str} {v : Value} {d : PyData} {Q : Unit → Shared → Prop} (q : SI B n A env names W₀ Ex O ρ s₀ s) (hm : names[m]? = some x) (hx : Sc.isVar env.scope.names x = true) (r : Rep s.heap (Wof env W₀ Ex O) v d)
    (hQ : ∀ s', SI B n A env names W₀ Ex (setO O m none) (ρ.set m (some (.val d))) s₀ s' → Only (Slot env x) s s' → Q () s') : wpAny B.M A (storeName env x v) Q E s := by
  refine cx_store q.cx hm hx (e := .val d) r fun s' cx' on hv => hQ s' (q.stored hm cx' on hv (fun k hk => setO_ne hk) (fun a w => w) (fun a h => ?_) (fun ds e => by cases e) fun d ds e => by cases e) on
  rw [setO_self] at h; cases h

theorem si_own {m : Nat} {x : Str} {a : Addr} {ds : List PyData} {Q : Unit → Shared → Prop} {sb : Shared} (q : SI B n A env names W₀ Ex O ρ s₀ sb) (k : Keeps sb s) (hm : names[m]? = some x) (hx : Sc.isVar env.scope.names x = true)
    (hn : sb.heap.get? a = none) (r : Rep s.heap (Wof env W₀ Ex O) (.ref a) (.list ds))
    (hQ : ∀ s', SI B n A env names W₀ Ex (setO O m (some a)) (ρ.set m (some (.own ds))) s₀ s' → Only (Slot env x) s s' → Q () s') : wpAny B.M A (storeName env x (.ref a)) Q E s := by
  obtain ⟨a', vs, j, e, hw, ho, rl⟩ := r.list_inv
  cases e
  have q' := q.addEx (New := fun b => b = a) k (fun b h => h ▸ hn) (fun b h => h ▸ ⟨_, ho, fun _ _ _ => by simp⟩)
  have wa : Wof env W₀ (fun b => Ex b ∨ b = a) O a := .inr (.inr (.inl (.inr rfl)))
  have n0 : ¬ W₀ a := fun w => hw (.inl w)
  have np : ¬ Priv env a := fun w => hw (.inr (.inl w))
  have nex : ¬ Ex a := fun w => hw (.inr (.inr (.inl w)))
  have nO : ∀ k, O k ≠ some a := fun k w => hw (.inr (.inr (.inr ⟨k, w⟩)))
  have rl' : RepL s.heap (Wof env W₀ (fun b => Ex b ∨ b = a) O) vs.toList ds := (RepL.avoid r rl).mono fun b o h e => ⟨fun w => by
    rcases w with w | w | (w | w) | w
    · exact h (.inl (.inl w))
    · exact h (.inl (.inr (.inl w)))
    · exact h (.inl (.inr (.inr (.inl w))))
    · exact h (.inr w)
    · exact h (.inl (.inr (.inr (.inr w)))), e⟩
  refine cx_store q'.cx hm hx (e := .own ds) ⟨a, rfl, wa, not_or.mpr ⟨n0, np⟩, .inl ⟨vs, j, ho, rl'⟩⟩ fun s' cx' on hv => hQ s' (q'.stored hm cx' on hv (fun k hk => setO_ne hk) (fun b w => .inl w) (fun b h => ?_) (fun ds' e => ⟨a, rfl, setO_self⟩) fun d ds e => by cases e) on
  rw [setO_self] at h; cases h
  exact ⟨wa, np, nex, n0, none_of_keeps q.kp hn, fun k _ => nO k⟩

theorem SI.mutateO {m : Nat} {x : Str} {a : Addr} {ds ds' : List PyData} {h' : Heap} {tk : Nat} (q : SI B n A env names W₀ Ex O ρ s₀ s) (hm : names[m]? = some x) (hkx : env.kindOf x = some .local ∨ env.kindOf x = some .cell) (he : ρ[m]? = some (some (.own ds))) (ha : O m = some a)
    (hk : ∀ b o, b ≠ a → s.heap.get? b = some o → h'.get? b = some o) (ho : ∃ o, h'.get? a = some o ∧ NoTup o) (sh' : OwnAt h' (Wof env W₀ Ex O) a ds') :
    SI B n A env names W₀ Ex O (ρ.set m (some (.own ds'))) s₀ { s with heap := h', toks := tk } := by
  obtain ⟨np, nex, n0⟩ := q.own m a ha
  have H : ∀ b o, ¬ Wof env W₀ Ex O b → s.heap.get? b = some o → ¬ Wof env W₀ Ex O b ∧ h'.get? b = some o := fun b o hw e => ⟨hw, hk b o (fun e' => hw (e' ▸ .inr (.inr (.inr ⟨m, ha⟩)))) e⟩
  have fr : s₀.heap.get? a = none := q.fresh a (.inr (.inr ⟨m, ha⟩))
  have varUp : ∀ y v, VarAt env s.heap y v → VarAt env h' y v := fun y v hv => by
    rcases hv with ⟨k, mm, hmm, e⟩ | ⟨k, c, hc, o, ho, hd⟩
    · exact .inl ⟨k, mm, hmm.at' fun o e => hk _ o (fun w => np (w ▸ .inl rfl)) e, e⟩
    · exact .inr ⟨k, c, hc, o, hk _ o (fun w => np (w ▸ .inr ⟨y, hc⟩)) ho, hd⟩
  obtain ⟨a', va, oa⟩ := q.link m ds x he hm hkx
  rw [ha] at oa; cases oa
  have keepT : ∀ t us k, s.heap.get? t = some (tObj us k) → h'.get? t = some (tObj us k) := fun t us k e => hk t _ (fun w => by
    subst w
    obtain ⟨o, e', nt⟩ := q.cx.wok t (.inr (.inr (.inr ⟨m, ha⟩)))
    rw [e] at e'; cases e'; exact nt _ _ rfl rfl) e
  have link : ∀ (k : Nat) (es : List PyData) (y : Str), (ρ.set m (some (.own ds')))[k]? = some (some (.own es)) → names[k]? = some y → (env.kindOf y = some .local ∨ env.kindOf y = some .cell) → ∃ a, VarAt env h' y (.ref a) ∧ O k = some a := by
    intro k es y h1 h2 h3
    rcases set_get h1 with ⟨rfl, _⟩ | ⟨hne, h1⟩
    · rw [hm] at h2; cases h2; exact ⟨a, varUp _ _ va, ha⟩
    · obtain ⟨b, vb, ob⟩ := q.link k es y h1 h2 h3; exact ⟨b, varUp _ _ vb, ob⟩
  have linkT : ∀ (k : Nat) (d : PyData) (es : List PyData) (y : Str), (ρ.set m (some (.own ds')))[k]? = some (some (.ownT d es)) → names[k]? = some y → (env.kindOf y = some .local ∨ env.kindOf y = some .cell) →
      ∃ t b v₀ i, VarAt env h' y (.ref t) ∧ h'.get? t = some (tObj #[v₀, .ref b] i) ∧ O k = some b := by
    intro k d es y h1 h2 h3
    rcases set_get h1 with ⟨rfl, e⟩ | ⟨hne, h1⟩
    · cases e
    · obtain ⟨t, b, v₀, i, vb, ht, ob⟩ := q.linkT k d es y h1 h2 h3; exact ⟨t, b, v₀, i, varUp _ _ vb, keepT _ _ _ ht, ob⟩
  refine { fresh := q.fresh, own := q.own, inj := q.inj, base₀ := q.base₀, link := link, linkT := linkT, kp := ?kp, cx := ?cx }
  case kp =>
    obtain ⟨h₁, t₁, rfl, k₁⟩ := q.kp
    exact ⟨h', tk, rfl, fun b o e => hk b o (fun w => not_none_of (w ▸ fr) e) (k₁ b o e)⟩
  case cx =>
    refine { room := q.cx.room, fn := q.cx.fn, gl := q.cx.gl, bl := q.cx.bl, le := q.cx.le, priv := q.cx.priv, offH := q.cx.offH, nd := q.cx.nd, dot := q.cx.dot, base := ?base, wok := ?wok, frm := ?frm, env := ?env }
    case base => exact fun b o e => hk b o (fun w => not_none_of (w ▸ fr) (q.base₀ b o e)) (q.cx.base b o e)
    case wok =>
      intro b w
      by_cases hb : b = a
      · subst hb; exact ho
      · obtain ⟨o, e, nt⟩ := q.cx.wok b w; exact ⟨o, hk b o hb e, nt⟩
    case frm =>
      refine ⟨let ⟨mm, hmm⟩ := q.cx.frm.ns; ⟨mm, hmm.at' fun o e => hk _ o (fun w => np (w ▸ .inl rfl)) e⟩, q.cx.frm.has, fun y c hc => ?_, q.cx.frm.off, q.cx.frm.apart⟩
      obtain ⟨v, o, ho', hd⟩ := q.cx.frm.cell y c hc
      exact ⟨v, o, hk _ o (fun w => np (w ▸ .inr ⟨y, hc⟩)) ho', hd⟩
    case env =>
      intro k e y h1 h2 h3
      rcases set_get h1 with ⟨rfl, e'⟩ | ⟨hne, h1⟩
      · cases e'
        rw [hm] at h2; cases h2
        exact ⟨.ref a, varUp _ _ va, a, rfl, .inr (.inr (.inr ⟨_, ha⟩)), not_or.mpr ⟨n0, np⟩, sh'⟩
      · obtain ⟨v, hv, he'⟩ := q.cx.env k e y h1 h2 h3
        refine ⟨v, varUp _ _ hv, ?_⟩
        have keepS : ∀ b, O k = some b → ∀ o, s.heap.get? b = some o → h'.get? b = some o := fun b ob o e => hk b o (fun w => hne (q.inj k m a (w ▸ ob) ha)) e
        cases e with
        | val d => exact Rep.mono H he'
        | own es =>
          obtain ⟨b, rfl, w, w₀, sh⟩ := he'
          obtain ⟨b', vb, ob⟩ := q.link k es y h1 h2 h3
          cases hv.unique vb
          exact ⟨b, rfl, w, w₀, sh.mono H (keepS b ob)⟩
        | ownT d es =>
          obtain ⟨u, b, v₀, i, rfl, wt, ht, r, w, w₀, sh⟩ := he'
          obtain ⟨t', b', v', i', vb, ht', ob⟩ := q.linkT k d es y h1 h2 h3
          cases hv.unique vb
          rw [ht] at ht'
          have := congrArg (fun o : Option Obj => o.map (·.data)) ht'
          simp at this
          have eb := this.1.2
          subst eb
          exact ⟨u, b, v₀, i, rfl, wt, keepT _ _ _ ht, r.mono H, w, w₀, sh.mono H (keepS b ob)⟩
theorem SI.mutate {m : Nat} {x : Str} {a : Addr} {ds ds' : List PyData} {h' : Heap} {tk : Nat} {vs : Array Value} {j : Nat} (q : SI B n A env names W₀ Ex O ρ s₀ s) (hm : names[m]? = some x) (hkx : env.kindOf x = some .local ∨ env.kindOf x = some .cell) (he : ρ[m]? = some (some (.own ds))) (ha : O m = some a)
    (hk : ∀ b o, b ≠ a → s.heap.get? b = some o → h'.get? b = some o) (ho : h'.get? a = some (lObj vs j)) (rl : RepL h' (Wof env W₀ Ex O) vs.toList ds') :
    SI B n A env names W₀ Ex O (ρ.set m (some (.own ds'))) s₀ { s with heap := h', toks := tk } :=
  q.mutateO hm hkx he ha hk ⟨_, ho, fun _ _ _ => by simp⟩ (.inl ⟨vs, j, ho, rl⟩)
end
end Mw

set_option maxRecDepth 10000
namespace Mw
open PySem

noncomputable def kAsg1 (t : PySem.Stmt) (k : Str → PySem.Expr → Bool) : Bool := kAsg t fun ts v _ => k1 ts fun g => kName g fun y _ => k y v
@[elab_as_elim] theorem eAsg1 {P : PySem.Stmt → Prop} {t : PySem.Stmt} {k : Str → PySem.Expr → Bool} (h : kAsg1 t k = true) (H : ∀ y py v pos, k y v = true → P (.Assign [.Name y py] v pos)) : P t := by
  refine eAsg h fun ts v pos h => ?_
  refine e1 h fun g h => ?_
  refine eName h fun y py h => ?_
  exact H y py v pos h
theorem iAsg1 {t : PySem.Stmt} {k : Str → PySem.Expr → Bool} (h : kAsg1 t k = true) : ∃ y py v pos, t = .Assign [.Name y py] v pos ∧ k y v = true := eAsg1 h fun y py v pos h => ⟨y, py, v, pos, rfl, h⟩
noncomputable def kAt (t : PySem.Stmt) (k : Str → PySem.Expr → PySem.Expr → Bool) : Bool := kAsg t fun ts v _ => k1 ts fun g => kSub g fun z j _ => notSlice j && kName z fun y _ => k y j v
theorem iAt {t : PySem.Stmt} {k : Str → PySem.Expr → PySem.Expr → Bool} (h : kAt t k = true) : ∃ y py j pj v pos, t = .Assign [.Subscript (.Name y py) j pj] v pos ∧ (∀ u v w p, j ≠ .Slice u v w p) ∧ k y j v = true := by
  refine eAsg h fun ts v pos h => ?_
  refine e1 h fun g h => ?_
  refine eSub h fun z j pj h => ?_
  obtain ⟨h1, h⟩ := and_inv h
  refine eName h fun y py h => ?_
  exact ⟨y, py, j, pj, v, pos, rfl, notSlice_iff h1, h⟩
noncomputable def kMeth (x : PySem.Expr) (k : Str → Str → List PySem.Expr → Bool) : Bool := kCall x fun f as pos => kAttr f fun z a apos => (apos.endLine == pos.line) && kName z fun y _ => k y a as
@[elab_as_elim] theorem eMeth {P : PySem.Expr → Prop} {x : PySem.Expr} {k : Str → Str → List PySem.Expr → Bool} (h : kMeth x k = true) (H : ∀ y py a apos as pos, (apos.endLine == pos.line) = true → k y a as = true → P (.Call (.Attribute (.Name y py) a apos) as [] pos)) : P x := by
  refine eCall h fun f as pos h => ?_
  refine eAttr h fun z a apos h => ?_
  obtain ⟨h1, h⟩ := and_inv h
  refine eName h fun y py h => ?_
  exact H y py a apos as pos h1 h
mutual
noncomputable def okS1 (names : List Str) (sc : Sc) : S → PySem.Stmt → Bool
  | .asg n e, x => kAsg1 x fun y v => nameIs names n y && sc.isVar y && okX names sc e v
  | .asgOwn n e, x => kAsg1 x fun y v => nameIs names n y && sc.isVar y && okX names sc e v
  | .move n m, x => kAsg1 x fun y v => kName v fun z _ => nameIs names n y && sc.isVar y && nameIs names m z && sc.isVar z
  | .asgT n f l, x => kAsg1 x fun y v => kCall v fun g as _ => kName g fun id _ => kC as fun a r => nameIs names n y && sc.isVar y && id == f && sc.isGlob id && okL names sc l (a :: r)
  | .dic0 n _, x => kAsg1 x fun y v => kDict v fun ks vs _ => ks.isEmpty && vs.isEmpty && (nameIs names n y && sc.isVar y)
  | .dic1 n k v, x => kAsg1 x fun y w => kDict w fun ks vs _ => k1 ks fun o => kSome o fun a => k1 vs fun b => nameIs names n y && sc.isVar y && okX names sc k a && okX names sc v b
  | .setKey n k e, x => kAt x fun y j v => nameIs names n y && sc.isVar y && okX names sc k j && okX names sc e v
  | .setAt n i e, x => kAt x fun y j v => nameIs names n y && sc.isVar y && okX names sc i j && okX names sc e v
  | .app n e, x => kEx x fun c _ => kMeth c fun y a as => k1 as fun v => nameIs names n y && sc.isVar y && a == ("append" : Str) && notStar v && okX names sc e v
  | .clear n, x => kEx x fun c _ => kMeth c fun y a as => as.isEmpty && (nameIs names n y && sc.isVar y && a == ("clear" : Str))
  | .clearT _, _ => false
  | .remove n e, x => kEx x fun c _ => kMeth c fun y a as => k1 as fun v => nameIs names n y && sc.isVar y && a == ("remove" : Str) && notStar v && okX names sc e v
  | .appPop n m e, x => kEx x fun c _ => kMeth c fun y a as => k1 as fun d => kMeth d fun z b bs => k1 bs fun v => nameIs names n y && sc.isVar y && nameIs names m z && sc.isVar z && a == ("append" : Str) && b == ("pop" : Str) && notStar v && okX names sc e v
  | .exec f l, x => kEx x fun v _ => okX names sc (.call f l) v
  | .ife c a b, x => kIf x fun t y z _ => okX names sc c t && okB names sc a y && okB names sc b z
  | .for t it body, x => kFor x fun tg iter y z _ => z.isEmpty && (itOk t it && okTg names sc t tg && notSet iter && okI names sc it iter && okB names sc body y)
  | .wh _ c body, x => kWh x fun t y z _ => z.isEmpty && (okX names sc c t && okB names sc body y)
  | .ret e, x => kRet x fun o _ => kSome o fun v => okX names sc e v
  | .retOwn n, x => kRet x fun o _ => kSome o fun v => kName v fun y _ => nameIs names n y && sc.isVar y
  | .retT e n, x => kRet x fun o _ => kSome o fun w => kTup w fun l _ _ => k2 l fun v u => kName u fun y _ => nameIs names n y && sc.isVar y && notStar v && okX names sc e v
  | .raise, x => kRaise x fun _ _ _ => true
  | .done, _ => false
  | .seq _ _, _ => false
noncomputable def okB (names : List Str) (sc : Sc) : S → List PySem.Stmt → Bool
  | .done, xs => xs.isEmpty
  | .seq a r, xs => kC xs fun x ys => okS1 names sc a x && okB names sc r ys
  | _, _ => false
end

section
variable {names : List Str} {sc : Sc} {x : PySem.Stmt} {e k v c l : X} {n m : Nat} {a b : S}
theorem iv_asg (h : okS1 names sc (.asg n e) x = true) : ∃ y py v pos, x = .Assign [.Name y py] v pos ∧ (nameIs names n y && sc.isVar y && okX names sc e v) = true := iAsg1 h
theorem iv_asgOwn (h : okS1 names sc (.asgOwn n e) x = true) : ∃ y py v pos, x = .Assign [.Name y py] v pos ∧ (nameIs names n y && sc.isVar y && okX names sc e v) = true := iAsg1 h
theorem iv_move (h : okS1 names sc (.move n m) x = true) : ∃ y py z pz pos, x = .Assign [.Name y py] (.Name z pz) pos ∧ (nameIs names n y && sc.isVar y && nameIs names m z && sc.isVar z) = true := by
  refine eAsg1 h fun y py v pos h => ?_
  refine eName h fun z pz h => ?_
  exact ⟨y, py, z, pz, pos, rfl, h⟩
theorem iv_setAt (h : okS1 names sc (.setAt n k e) x = true) : ∃ y py j pj v pos, x = .Assign [.Subscript (.Name y py) j pj] v pos ∧ (∀ u v w p, j ≠ .Slice u v w p) ∧ (nameIs names n y && sc.isVar y && okX names sc k j && okX names sc e v) = true := iAt h
theorem iMeth1 {k : Str → Str → PySem.Expr → Bool} (h : (kEx x fun c _ => kMeth c fun y a as => k1 as fun v => k y a v) = true) : ∃ y py a apos v pos pos', x = .Expr (.Call (.Attribute (.Name y py) a apos) [v] [] pos) pos' ∧ (apos.endLine == pos.line) = true ∧ k y a v = true := by
  refine eEx h fun c p h => ?_
  refine eMeth h fun y py a apos as pos h1 h => ?_
  refine e1 h fun v h => ?_
  exact ⟨y, py, a, apos, v, pos, p, rfl, h1, h⟩
theorem and5 {p q r s t u : Bool} (h : s = true) (h' : (p && q && r && t && u) = true) : (p && q && r && s && t && u) = true := by subst h; simpa using h'
theorem iv_app (h : okS1 names sc (.app n e) x = true) : ∃ y py a apos v pos pos', x = .Expr (.Call (.Attribute (.Name y py) a apos) [v] [] pos) pos' ∧ (nameIs names n y && sc.isVar y && a == ("append" : Str) && (apos.endLine == pos.line) && notStar v && okX names sc e v) = true := by
  obtain ⟨y, py, a, apos, v, pos, p, rfl, h1, h⟩ := iMeth1 h
  exact ⟨y, py, a, apos, v, pos, p, rfl, and5 h1 h⟩
theorem iv_clear (h : okS1 names sc (.clear n) x = true) : ∃ y py a apos pos pos', x = .Expr (.Call (.Attribute (.Name y py) a apos) [] [] pos) pos' ∧ (nameIs names n y && sc.isVar y && a == ("clear" : Str) && (apos.endLine == pos.line)) = true := by
  refine eEx h fun c p h => ?_
  refine eMeth h fun y py a apos as pos h1 h => ?_
  obtain ⟨h2, h⟩ := and_inv h
  cases List.isEmpty_iff.mp h2
  exact ⟨y, py, a, apos, pos, p, rfl, Bool.and_eq_true_iff.mpr ⟨h, h1⟩⟩
theorem iv_exec {f : Str} (h : okS1 names sc (.exec f l) x = true) : ∃ v pos, x = .Expr v pos ∧ okX names sc (.call f l) v = true := iEx h
theorem iv_ife (h : okS1 names sc (.ife c a b) x = true) : ∃ t y z pos, x = .If t y z pos ∧ (okX names sc c t && okB names sc a y && okB names sc b z) = true := iIf h
theorem iv_for {t : Tg} (h : okS1 names sc (.for t e a) x = true) : ∃ tg iter y pos, x = .For tg iter y [] pos ∧ (itOk t e && okTg names sc t tg && notSet iter && okI names sc e iter && okB names sc a y) = true := by
  refine eFor h fun tg it y z p h => ?_
  obtain ⟨h1, h⟩ := and_inv h
  cases List.isEmpty_iff.mp h1
  exact ⟨tg, it, y, p, rfl, h⟩
theorem iv_ret (h : okS1 names sc (.ret e) x = true) : ∃ v pos, x = .Return (some v) pos ∧ okX names sc e v = true := by
  refine eRet h fun o p h => ?_
  refine eSome h fun v h => ?_
  exact ⟨v, p, rfl, h⟩
theorem iv_retOwn (h : okS1 names sc (.retOwn n) x = true) : ∃ y p pos, x = .Return (some (.Name y p)) pos ∧ (nameIs names n y && sc.isVar y) = true := by
  refine eRet h fun o p h => ?_
  refine eSome h fun v h => ?_
  refine eName h fun y q h => ?_
  exact ⟨y, q, p, rfl, h⟩
theorem iv_seq {xs : List PySem.Stmt} (h : okB names sc (.seq a b) xs = true) : ∃ x ys, xs = x :: ys ∧ (okS1 names sc a x && okB names sc b ys) = true := iC h
end

noncomputable def Nx (B : Bs) (n : Nat) (A : Around) (env : Env) (names : List Str) (W₀ Ex : Addr → Prop) (O : Nat → Option Addr) (s₀ s : Shared) (pu : Bool) (ρ' : Rho) (s' : Shared) : Prop :=
  ∃ O', SI B n A env names W₀ Ex O' ρ' s₀ s' ∧ Only (fun b => Priv env b ∨ (pu = false ∧ ∃ m, O m = some b)) s s' ∧ ∀ m a, O' m = some a → (∃ k, O k = some a) ∨ s.heap.get? a = none
noncomputable def SP (B : Bs) (n : Nat) (A : Around) (env : Env) (names : List Str) (W₀ Ex : Addr → Prop) (O : Nat → Option Addr) (s₀ s : Shared) (pu : Bool) (o : Out) (f : Flow) (s' : Shared) : Prop :=
  match o with
  | .next ρ' => f = .next ∧ Nx B n A env names W₀ Ex O s₀ s pu ρ' s'
  | .ret fr d => ∃ v, f = .ret v ∧ Keeps s₀ s' ∧ Rep s'.heap W₀ v d ∧ (fr = true → ∀ a, v = .ref a → s₀.heap.get? a = none)
  | .retT d ds => ∃ t a v₀ k, f = .ret (.ref t) ∧ Keeps s₀ s' ∧ s₀.heap.get? t = none ∧ s'.heap.get? t = some (tObj #[v₀, .ref a] k) ∧ isAtom d = true ∧ Rep s'.heap W₀ v₀ d ∧ s₀.heap.get? a = none ∧ Rep s'.heap W₀ (.ref a) (.list ds)

noncomputable def SndS (B : Bs) (Φ : Fns2) (n : Nat) (st : S) : Prop := ∀ (A : Around) (env : Env) (names : List Str) (W₀ Ex : Addr → Prop) (O : Nat → Option Addr) (ρ : Rho) (s₀ s : Shared) (x : Stmt) (o : Out) (E : Value → Shared → Prop),
  okS1 names env.scope.names st x = true → SI B n A env names W₀ Ex O ρ s₀ s → evS Φ st ρ = some o → wpAny B.M A (exec x env) (SP B n A env names W₀ Ex O s₀ s (pureS st) o) E s
noncomputable def SndK (B : Bs) (Φ : Fns2) (n : Nat) (st : S) : Prop := ∀ (A : Around) (env : Env) (names : List Str) (W₀ Ex : Addr → Prop) (O : Nat → Option Addr) (ρ : Rho) (s₀ s : Shared) (xs : List Stmt) (o : Out) (E : Value → Shared → Prop),
  okB names env.scope.names st xs = true → SI B n A env names W₀ Ex O ρ s₀ s → evS Φ st ρ = some o → wpAny B.M A (execs xs env) (SP B n A env names W₀ Ex O s₀ s (pureS st) o) E s

section
variable {B : Bs} {Φ : Fns2} {n : Nat} {A : Around} {env : Env} {names : List Str} {W₀ Ex : Addr → Prop} {O : Nat → Option Addr} {ρ ρ' : Rho} {s₀ s s' : Shared} {E : Value → Shared → Prop}

theorem Only.refl {P : Addr → Prop} {s : Shared} : Only P s s := ⟨⟨s.heap, s.toks, rfl⟩, fun _ _ _ e => e⟩
theorem Nx.same {pu : Bool} (q : SI B n A env names W₀ Ex O ρ s₀ s) : Nx B n A env names W₀ Ex O s₀ s pu ρ s := ⟨O, q, .refl, fun m a h => .inl ⟨m, h⟩⟩
theorem Nx.of_keeps {pu : Bool} (q : SI B n A env names W₀ Ex O ρ s₀ s) (k : Keeps s s') : Nx B n A env names W₀ Ex O s₀ s pu ρ s' := ⟨O, q.keeps k, .of k, fun m a h => .inl ⟨m, h⟩⟩

theorem none_of_only {P : Addr → Prop} (o : Only P s s') {b : Addr} (h : s'.heap.get? b = none) (hp : ¬ P b) : s.heap.get? b = none := by
  cases e : s.heap.get? b with
  | none => rfl
  | some ob => rw [o.2 b ob hp e] at h; cases h

theorem SI.live (q : SI B n A env names W₀ Ex O ρ s₀ s) {a : Addr} (h : Priv env a ∨ ∃ m, O m = some a) : ∃ o, s.heap.get? a = some o := by
  obtain ⟨o, e, _⟩ := q.cx.wok a (h.elim (fun p => .inr (.inl p)) fun p => .inr (.inr (.inr p)))
  exact ⟨o, e⟩

theorem SP.after {pu pu' : Bool} {s₁ : Shared} {o : Out} {f : Flow} (q : SI B n A env names W₀ Ex O ρ s₀ s) {O₁ : Nat → Option Addr} (q₁ : SI B n A env names W₀ Ex O₁ ρ' s₀ s₁) (on : Only (fun b => Priv env b ∨ (pu = false ∧ ∃ m, O m = some b)) s s₁)
    (hO : ∀ m a, O₁ m = some a → (∃ k, O k = some a) ∨ s.heap.get? a = none) (h : SP B n A env names W₀ Ex O₁ s₀ s₁ pu' o f s') : SP B n A env names W₀ Ex O s₀ s (pu && pu') o f s' := by
  cases o with
  | ret fr d => exact h
  | retT d ds => exact h
  | next ρ'' =>
    obtain ⟨rfl, O₂, q₂, on₂, hO₂⟩ := h
    refine ⟨rfl, O₂, q₂, ?_, ?_⟩
    · obtain ⟨⟨h₁, t₁, rfl⟩, k₁⟩ := on
      obtain ⟨⟨h₂, t₂, rfl⟩, k₂⟩ := on₂
      refine ⟨⟨h₂, t₂, rfl⟩, fun b ob hb e => ?_⟩
      have nb : ¬ Priv env b := fun p => hb (.inl p)
      have e₁ := k₁ b ob (fun p => hb (p.elim .inl fun p => .inr ⟨by simp [p.1], p.2⟩)) e
      refine k₂ b ob (fun p => ?_) e₁
      rcases p with p | ⟨p, m, pm⟩
      · exact nb p
      · rcases hO m b pm with ⟨k, hk⟩ | hn
        · exact hb (.inr ⟨by simp [p], k, hk⟩)
        · exact not_none_of hn e
    · intro m a h
      rcases hO₂ m a h with ⟨k, hk⟩ | hn
      · exact hO k a hk
      · by_cases w : Priv env a ∨ ∃ k, O k = some a
        · rcases w with w | w
          · obtain ⟨o, e⟩ := q₁.live (.inl w); exact not_none_of hn e
          · exact .inl w
        · exact .inr (none_of_only on hn fun p => w (p.elim .inl fun p => .inr p.2))

theorem sndK_done : SndK B Φ n .done := by
  intro A env names W₀ Ex O ρ s₀ s xs o E hok q hev
  cases List.isEmpty_iff.mp hok
  cases hev
  exact wpAny_execs_nil ⟨rfl, Nx.same q⟩

theorem sndK_seq {a r : S} (ha : SndS B Φ n a) (hr : SndK B Φ n r) : SndK B Φ n (.seq a r) := by
  intro A env names W₀ Ex O ρ s₀ s xs o E hok q hev
  replace hok := iv_seq hok
  obtain ⟨x, ys, rfl, hok⟩ := hok
  · simp only [Bool.and_eq_true] at hok
    refine wpAny_execs_cons ?_
    simp only [Z40, Z41, Z42, Z43, Z44, Z45, Z46, Z47, Z48, Z49, Z50, Z51, Z52, Z53, Z54, Z55, Z56, Z57, Z58, Z59, Z60, Z61, Z62] at hev
    cases e : evS Φ a ρ with
    | none => rw [e] at hev; cases hev
    | some o₁ =>
      refine wpAny_mono (ha A env names W₀ Ex O ρ s₀ s x o₁ E hok.1 q e) (fun f s₁ h => ?_) fun _ _ x => x
      rw [e] at hev
      cases o₁ with
      | next ρ₁ =>
        obtain ⟨rfl, O₁, q₁, on, hO⟩ := h
        exact wpAny_mono (hr A env names W₀ Ex O₁ ρ₁ s₀ s₁ ys o E hok.2 q₁ hev) (fun f' s' h' => SP.after q q₁ on hO h') fun _ _ x => x
      | ret fr d => cases hev; obtain ⟨v, rfl, h⟩ := h; exact ⟨v, rfl, h⟩
      | retT d ds => cases hev; obtain ⟨t, a, v₀, k, rfl, h⟩ := h; exact ⟨t, a, v₀, k, rfl, h⟩

theorem snd_ife (hB : B.Ok) (hΦ : FnsOk B Φ.toFns n) {c : X} {a b : S} (ha : SndK B Φ n a) (hb : SndK B Φ n b) : SndS B Φ n (.ife c a b) := by
  intro A env names W₀ Ex O ρ s₀ s x o E hok q hev
  · (replace hok := iv_ife hok); obtain ⟨t, y, z, pos, rfl, hok⟩ := hok
    simp only [Bool.and_eq_true] at hok
    refine wpAny_If ?_
    simp only [Z40, Z41, Z42, Z43, Z44, Z45, Z46, Z47, Z48, Z49, Z50, Z51, Z52, Z53, Z54, Z55, Z56, Z57, Z58, Z59, Z60, Z61, Z62] at hev
    cases e : asBool (evE Φ.toFns c ρ) with
    | none => rw [e] at hev; cases hev
    | some v =>
      rw [e] at hev
      refine wpAny_mono ((snd_all hB hΦ c).T A env names W₀ _ ρ s t v E hok.1.1 q.cx e) (fun v' s₁ h => ?_) fun _ _ x => x
      obtain ⟨rfl, k⟩ := h
      have fin : ∀ {pu o f s'}, SP B n A env names W₀ Ex O s₀ s₁ pu o f s' → (pu = false → pureS (.ife c a b) = false) → SP B n A env names W₀ Ex O s₀ s (pureS (.ife c a b)) o f s' := by
        intro pu o f s' h hp
        have := SP.after (pu := true) q (q.keeps k) (.of k) (fun m a h => .inl ⟨m, h⟩) h
        cases o with
        | ret fr d => exact this
        | retT d ds => exact this
        | next ρ' =>
          obtain ⟨rfl, O', q', on, hO⟩ := this
          exact ⟨rfl, O', q', on.mono fun b p => p.imp id fun p => ⟨hp (by simpa using p.1), p.2⟩, hO⟩
      cases v' with
      | true => exact wpAny_mono (ha A env names W₀ Ex O ρ s₀ s₁ y o E hok.1.2 (q.keeps k) hev) (fun f s' h => fin h fun hp => by simp [Z63, Z64, Z65, Z66, Z67, Z68, Z69, hp]) fun _ _ x => x
      | false => exact wpAny_mono (hb A env names W₀ Ex O ρ s₀ s₁ z o E hok.2 (q.keeps k) hev) (fun f s' h => fin h fun hp => by simp [Z63, Z64, Z65, Z66, Z67, Z68, Z69, hp]) fun _ _ x => x

theorem snd_ret (hB : B.Ok) (hΦ : FnsOk B Φ.toFns n) {e : X} : SndS B Φ n (.ret e) := by
  intro A env names W₀ Ex O ρ s₀ s x o E hok q hev
  · (replace hok := iv_ret hok); obtain ⟨v, pos, rfl, hok⟩ := hok
    refine wpAny_Return_some ?_
    simp only [Z40, Z41, Z42, Z43, Z44, Z45, Z46, Z47, Z48, Z49, Z50, Z51, Z52, Z53, Z54, Z55, Z56, Z57, Z58, Z59, Z60, Z61, Z62] at hev
    cases er : evE Φ.toFns e ρ with
    | none => rw [er] at hev; cases hev
    | some r =>
      rw [er] at hev
      refine wpAny_mono ((snd_all hB hΦ e).E A env names W₀ _ ρ s v r E hok q.cx er) (fun u s₁ h => ?_) fun _ _ x => x
      obtain ⟨k, rv⟩ := h
      obtain ⟨c, d⟩ := r
      have k' := keeps_trans q.kp k
      cases c with
      | fresh => cases hev; exact ⟨u, rfl, k', rv.dirty q.cx.le, fun _ a ea => none_of_keeps q.kp (rv.2 a ea)⟩
      | clean => cases hev; exact ⟨u, rfl, k', rv.dirty q.cx.le, by simp⟩
      | dirty => cases hev; exact ⟨u, rfl, k', rv.dirty q.cx.le, by simp⟩
      | shell => cases hev; exact ⟨u, rfl, k', rv.dirty q.cx.le, by simp⟩

theorem own_get {m : Nat} {ds : List PyData} (h : ownAt ρ m = some ds) : ρ[m]? = some (some (.own ds)) := by
  unfold ownAt at h
  split at h
  · split at h
    · cases h
    · cases h; assumption
  · cases h
theorem own_dic {m : Nat} {ds : List PyData} (h : ownAt ρ m = some ds) : isDic ds = false := by
  unfold ownAt at h
  split at h
  · split at h
    · cases h
    · rename_i hnd; cases h; exact Bool.eq_false_iff.mpr hnd
  · cases h

theorem SI.ownEnt {m : Nat} {ds : List PyData} {x : Str} (q : SI B n A env names W₀ Ex O ρ s₀ s) (h : ownAt ρ m = some ds) (hm : names[m]? = some x) (hx : Sc.isVar env.scope.names x = true) :
    ∃ a vs j, VarAt env s.heap x (.ref a) ∧ O m = some a ∧ s.heap.get? a = some (lObj vs j) ∧ RepL s.heap (Wof env W₀ Ex O) vs.toList ds := by
  obtain ⟨a, va, oa⟩ := q.link m ds x (own_get h) hm (isVar_kind hx)
  obtain ⟨v, hv, a', rfl, w, w₀, sh⟩ := q.cx.env m _ x (own_get h) hm (isVar_kind hx)
  obtain ⟨vs, j, ho, rl⟩ := sh.shell (own_dic h)
  cases va.unique hv
  exact ⟨a, vs, j, va, oa, ho, rl⟩

theorem load_name {x : Str} {pos : Pos} {v : Value} {Q : Value → Shared → Prop} (q : SI B n A env names W₀ Ex O ρ s₀ s) (hx : Sc.isVar env.scope.names x = true) (hv : VarAt env s.heap x v) (h : Q v s) : wpAny B.M A (eval (.Name x pos) env) Q E s := by
  refine wpAny_Name (load_var q.cx.fn hv h) ?_
  simp only [Sc.isVar, Bool.and_eq_true, Bool.not_eq_true'] at hx
  exact hx.2

theorem snd_retOwn {m : Nat} : SndS B Φ n (.retOwn m) := by
  intro A env names W₀ Ex O ρ s₀ s x o E hok q hev
  · (replace hok := iv_retOwn hok); obtain ⟨y, p, pos, rfl, hok⟩ := hok
    simp only [nameIs, Bool.and_eq_true, beq_iff_eq] at hok
    simp only [Z40, Z41, Z42, Z43, Z44, Z45, Z46, Z47, Z48, Z49, Z50, Z51, Z52, Z53, Z54, Z55, Z56, Z57, Z58, Z59, Z60, Z61, Z62] at hev
    split at hev
    · rename_i ds hds
      cases hev
      obtain ⟨a, vs, j, va, oa, ho, rl⟩ := q.ownEnt hds hok.1 hok.2
      refine wpAny_Return_some (load_name q hok.2 va ?_)
      have rl' := rl.mono (W' := W₀) (h' := s.heap) fun a o hw e => ⟨fun w => hw (.inl w), e⟩
      exact ⟨.ref a, rfl, q.kp, .list (q.own m a oa).2.2 ho rl'.1 rl'.2, fun _ b e => by cases e; exact q.fresh a (.inr (.inr ⟨m, oa⟩))⟩
    · cases hev

theorem snd_retT (hB : B.Ok) (hΦ : FnsOk B Φ.toFns n) {e : X} {m : Nat} : SndS B Φ n (.retT e m) := fun _ _ _ _ _ _ _ _ _ _ _ _ _ _ hev => by cases (show (none : Option Out) = some _ from hev)
end
end Mw

set_option maxRecDepth 10000
namespace Mw
open PySem

section
variable {B : Bs} {Φ : Fns2} {n : Nat} {A : Around} {env : Env} {names : List Str} {W₀ Ex : Addr → Prop} {O : Nat → Option Addr} {ρ ρ' : Rho} {s₀ s s' : Shared} {E : Value → Shared → Prop}

theorem si_own' {N : Addr → Prop} {m : Nat} {x : Str} {a : Addr} {ds : List PyData} {Q : Unit → Shared → Prop} {sb : Shared} (q : SI B n A env names W₀ Ex O ρ s₀ sb) (k : Keeps sb s) (hm : names[m]? = some x) (hx : Sc.isVar env.scope.names x = true)
    (hN : ∀ b, N b → sb.heap.get? b = none ∧ ∃ o, s.heap.get? b = some o ∧ NoTup o)
    (hn : sb.heap.get? a = none) (r : Rep s.heap (fun b => Wof env W₀ Ex O b ∨ N b) (.ref a) (.list ds))
    (hQ : ∀ s', SI B n A env names W₀ (fun b => Ex b ∨ N b) (setO O m (some a)) (ρ.set m (some (.own ds))) s₀ s' → Only (Slot env x) s s' → Q () s') : wpAny B.M A (storeName env x (.ref a)) Q E s := by
  obtain ⟨a', vs, j, e, hw, ho, rl⟩ := r.list_inv
  cases e
  have q' := q.addEx (New := fun b => N b ∨ b = a) k (fun b h => h.elim (fun h => (hN b h).1) fun h => h ▸ hn) (fun b h => h.elim (fun h => (hN b h).2) fun h => h ▸ ⟨_, ho, fun _ _ _ => by simp⟩)
  have wa : Wof env W₀ (fun b => Ex b ∨ (N b ∨ b = a)) O a := .inr (.inr (.inl (.inr (.inr rfl))))
  have n0 : ¬ W₀ a := fun w => hw (.inl (.inl w))
  have np : ¬ Priv env a := fun w => hw (.inl (.inr (.inl w)))
  have nex : ¬ (Ex a ∨ N a) := fun w => hw (w.elim (fun w => .inl (.inr (.inr (.inl w)))) .inr)
  have nO : ∀ k, O k ≠ some a := fun k w => hw (.inl (.inr (.inr (.inr ⟨k, w⟩))))
  have rl' : RepL s.heap (Wof env W₀ (fun b => Ex b ∨ (N b ∨ b = a)) O) vs.toList ds := (RepL.avoid r rl).mono fun b o h e => ⟨fun w => by
    rcases w with w | w | (w | w | w) | w
    · exact h (.inl (.inl (.inl w)))
    · exact h (.inl (.inl (.inr (.inl w))))
    · exact h (.inl (.inl (.inr (.inr (.inl w)))))
    · exact h (.inl (.inr w))
    · exact h (.inr w)
    · exact h (.inl (.inl (.inr (.inr (.inr w))))), e⟩
  refine cx_store q'.cx hm hx (e := .own ds) ⟨a, rfl, wa, not_or.mpr ⟨n0, np⟩, .inl ⟨vs, j, ho, rl'⟩⟩ fun s' cx' on hv => hQ s' (q'.stored hm cx' on hv (fun k hk => setO_ne hk) (fun b w => w.imp id .inl) (fun b h => ?_) (fun ds' e => ⟨a, rfl, setO_self⟩) fun d ds e => by cases e) on
  rw [setO_self] at h; cases h
  exact ⟨wa, np, nex, n0, none_of_keeps q.kp hn, fun k _ => nO k⟩

theorem swaps_other {v tg : PySem.Expr} {line : Nat} (h : ∀ e g sc p, v ≠ .ListComp e g sc p) (h' : ∀ e g sc p, v ≠ .SetComp e g sc p) (h'' : ∀ k e g sc p, v ≠ .DictComp k e g sc p) : swapsWith v (some tg) line env = pure false := by
  cases v <;> first | rfl | exact (h _ _ _ _ rfl).elim | exact (h' _ _ _ _ rfl).elim | exact (h'' _ _ _ _ _ rfl).elim

theorem swaps_comp {e : PySem.Expr} {g : List Comprehension} {sc : Scope} {p py : Pos} {y : Str} {line : Nat} : ∃ b, swapsWith (.ListComp e g sc p) (some (.Name y py)) line env = pure b := ⟨_, rfl⟩

theorem not_comp {sc : Sc} {e : X} {v : PySem.Expr} (h : okX names sc e v = true) : (∀ a g sc p, v ≠ .SetComp a g sc p) ∧ (∀ k a g sc p, v ≠ .DictComp k a g sc p) := by
  constructor
  · rintro a g sc p rfl
    cases e <;> cases h
  · rintro k a g sc p rfl
    cases e <;> cases h
theorem comp_shape {sc : Sc} {e : X} {a : PySem.Expr} {g : List Comprehension} {scope : Scope} {p : Pos} (h : okX names sc e (.ListComp a g scope p) = true) : (∃ t elt it, e = .comp0 t elt it) ∨ ∃ t elt it c, e = .comp1 t elt it c := by
  cases e <;> first | exact .inl ⟨_, _, _, rfl⟩ | exact .inr ⟨_, _, _, _, rfl⟩ | cases h

theorem asg_core (hB : B.Ok) (hΦ : FnsOk B Φ.toFns n) {e : X} {y : Str} {py pos : Pos} {v : PySem.Expr} {r : R1} {Q : Flow → Shared → Prop} (hok : okX names env.scope.names e v = true) (q : SI B n A env names W₀ Ex O ρ s₀ s) (er : evE Φ.toFns e ρ = some r)
    (hQ : ∀ u s₁, Post s W₀ (Wof env W₀ Ex O) r u s₁ → wpAny B.M A (storeName env y u) (fun _ => Q .next) E s₁)
    (hS : ∀ D C h' tk out, r = (.fresh, .list out) → s.heap.get? D = none → s.heap.get? C = none → (∃ o, h'.get? C = some o ∧ NoTup o) → Rep h' (fun b => Wof env W₀ Ex O b ∨ b = C) (.ref D) (.list out) → (∀ b o, s.heap.get? b = some o → h'.get? b = some o) →
      wpAny B.M A (storeName env y (.ref D)) (fun _ s'' => (∀ o, h'.get? C = some o → s''.heap.get? C = some o) ∧ ∀ h₃, Heap.SameBut C s''.heap h₃ → Q .next { s'' with heap := h₃ }) E { s with heap := h', toks := tk }) :
    wpAny B.M A (exec (.Assign [.Name y py] v pos) env) Q E s := by
  by_cases hc : ∃ a g sc p, v = .ListComp a g sc p
  · obtain ⟨a, g, sc, p, rfl⟩ := hc
    obtain ⟨b, hb⟩ := swaps_comp (env := env) (e := a) (g := g) (sc := sc) (p := p) (py := py) (y := y) (line := pos.line)
    cases b with
    | false => exact wpAny_Assign_Name (wpAny_mono ((snd_all hB hΦ e).E A env names W₀ _ ρ s _ r E hok q.cx er) (fun u s₁ p => hQ u s₁ p) fun _ _ x => x) hb
    | true =>
      rw [exec_Assign_Name_used _ _ _ _ hb]
      refine wpAny_bind (wpAny_standAt (wpAny_bind ?_))
      have fin : ∀ {out : List PyData} {tg iter elt : PySem.Expr} {ifs : List PySem.Expr} {scope : Scope}, r = (.fresh, .list out) → ∀ (D C : Addr) (h' : Heap) (tk : Nat) (m' : Str → Option Value) (ys : Array Value) (k : Nat), s.heap.get? D = none → s.heap.get? C = none → D ≠ C → h'.Ns C m' → h'.get? D = some (lObj ys k) → RepL h' (fun a => Wof env W₀ Ex O a ∨ a = C) ys.toList out →
          (∀ b o, s.heap.get? b = some o → h'.get? b = some o) → compPost B.M A E (some (assign (.Name y py) env)) (fun _ s' => Q .next s') (.ref D) C (.ok .next) { s with heap := h', toks := tk } := by
        intro out tg iter elt ifs scope hr D C h' tk m' ys k hD hC hDC hns ho rl keep
        obtain ⟨oc, es, ep, hoc, hdc, _⟩ := id hns
        have nt : NoTup oc := fun _ _ hd => by rw [hdc] at hd; cases hd
        have hw : ¬ (Wof env W₀ Ex O D ∨ D = C) := fun w => w.elim (fun w => by obtain ⟨o, e, _⟩ := q.cx.wok D w; exact not_none_of hD e) hDC
        refine wpAny_assign_Name (wpAny_mono (hS D C h' tk out hr hD hC ⟨oc, hoc, nt⟩ (.list hw ho rl.1 rl.2) keep) (fun _ s'' hp => ?_) fun _ _ x => x)
        exact ⟨m', hns.at' hp.1, hp.2⟩
      rcases comp_shape hok with ⟨t, elt, it, rfl⟩ | ⟨t, elt, it, c, rfl⟩
      · obtain ⟨e', tg, iter, scope, pos', hx, ok⟩ := compOk0 hok
        obtain ⟨np, items, out, h1, h2, hr⟩ := evE_comp0 er
        cases hx
        show wpAny _ A (do let _ ← comprehension _ _ env _ (newList []) false (eval iter env) (some (assign (.Name y py) env))) _ _ s
        refine wpAny_bind (wpAny_mono (comp_all (use := some (assign (.Name y py) env)) (Q := fun _ s' => Q .next s') (snd_all hB hΦ elt).E (by simp) (snd_all hB hΦ it).I ok q.cx h1 h2 ?_) (fun _ s' hq => wpAny_pure (wpAny_pure hq)) fun _ _ e => e)
        exact fin (tg := tg) (iter := iter) (elt := a) (ifs := []) (scope := sc) hr
      · obtain ⟨e', tg, iter, cond, scope, pos', hx, ok⟩ := compOk1 hok
        obtain ⟨np, items, out, h1, h2, hr⟩ := evE_comp1 er
        cases hx
        show wpAny _ A (do let _ ← comprehension _ _ env _ (newList []) false (eval iter env) (some (assign (.Name y py) env))) _ _ s
        refine wpAny_bind (wpAny_mono (comp_all (use := some (assign (.Name y py) env)) (Q := fun _ s' => Q .next s') (snd_all hB hΦ elt).E (by rintro c' ⟨⟩; exact (snd_all hB hΦ c).T) (snd_all hB hΦ it).I ok q.cx h1 h2 ?_) (fun _ s' hq => wpAny_pure (wpAny_pure hq)) fun _ _ e => e)
        exact fin (tg := tg) (iter := iter) (elt := a) (ifs := [cond]) (scope := sc) hr
  · refine wpAny_Assign_Name (wpAny_mono ((snd_all hB hΦ e).E A env names W₀ _ ρ s _ r E hok q.cx er) (fun u s₁ p => hQ u s₁ p) fun _ _ x => x) (swaps_other (fun a g sc p h => hc ⟨a, g, sc, p, h⟩) (not_comp hok).1 (not_comp hok).2)

theorem setO_old {m : Nat} {v : Option Addr} (hv : ∀ a, v = some a → s.heap.get? a = none) : ∀ k a, setO O m v k = some a → (∃ j, O j = some a) ∨ s.heap.get? a = none := by
  intro k a h
  by_cases e : k = m
  · subst e; rw [setO_self] at h; exact .inr (hv a h)
  · rw [setO_ne e] at h; exact .inl ⟨k, h⟩

theorem si_drop {C : Addr} {h₃ : Heap} {m : Nat} {x : Str} {sb : Shared} {O' : Nat → Option Addr} {ent : Option Ent} (q : SI B n A env names W₀ Ex O ρ s₀ s) (hC : s.heap.get? C = none) (q' : SI B n A env names W₀ (fun b => Ex b ∨ b = C) O' (ρ.set m ent) s₀ s') (hs : Heap.SameBut C s'.heap h₃) :
    SI B n A env names W₀ Ex O' (ρ.set m ent) s₀ { s' with heap := h₃ } := by
  refine q'.dropEx (New := fun b => b = C) ⟨h₃, s'.toks, rfl⟩ (fun b o hb e => hs.extBut b o hb e) fun b hb => ?_
  subst hb
  have no : ¬ Wof env W₀ Ex O b := fun w => by obtain ⟨o, e, _⟩ := q.cx.wok b w; exact not_none_of hC e
  exact ⟨fun w => no (.inr (.inl w)), fun w => no (.inr (.inr (.inl w))), fun w => no (.inl w)⟩

theorem slot_not {x : Str} {C : Addr} {o : Obj} (q : SI B n A env names W₀ Ex O ρ s₀ s) (hC : s.heap.get? C = none) : ¬ Slot env x C := fun p => by
  obtain ⟨o, e⟩ := q.live (.inl p.priv); exact not_none_of hC e

theorem snd_asg (hB : B.Ok) (hΦ : FnsOk B Φ.toFns n) {m : Nat} {e : X} : SndS B Φ n (.asg m e) := by
  intro A env names W₀ Ex O ρ s₀ s x o E hok q hev
  · (replace hok := iv_asg hok); obtain ⟨y, py, v, pos, rfl, hok⟩ := hok
    simp only [nameIs, Bool.and_eq_true, beq_iff_eq] at hok
    obtain ⟨⟨h1, h2⟩, h3⟩ := hok
    simp only [Z40, Z41, Z42, Z43, Z44, Z45, Z46, Z47, Z48, Z49, Z50, Z51, Z52, Z53, Z54, Z55, Z56, Z57, Z58, Z59, Z60, Z61, Z62] at hev
    split at hev
    · rename_i c d er
      split at hev
      · rename_i hcl
        cases hev
        refine asg_core hB hΦ h3 q er ?_ ?_
        · intro u s₁ p
          refine si_val (q.keeps p.1) h1 h2 (p.2.ofClean hcl) fun s₂ q₂ on => ⟨rfl, setO O m none, q₂, ?_, setO_old (by simp)⟩
          exact ((Only.of p.1).trans (on.mono fun b p => .inl p.priv))
        · intro D C h' tk out hr hD hC hoC rp keep
          cases hr
          have k : Keeps s { s with heap := h', toks := tk } := ⟨h', tk, rfl, keep⟩
          have q₁ := q.addEx (New := fun b => b = C) k (fun b h => h ▸ hC) (fun b h => h ▸ hoC)
          refine si_val q₁ h1 h2 (rp.mono fun a o hw e => ⟨fun w => ?_, e⟩) fun s₂ q₂ on => ?_
          · rcases w with w | w | (w | w) | w
            · exact hw (.inl (.inl w))
            · exact hw (.inl (.inr (.inl w)))
            · exact hw (.inl (.inr (.inr (.inl w))))
            · exact hw (.inr w)
            · exact hw (.inl (.inr (.inr (.inr w))))
          · obtain ⟨oc, hoc, _⟩ := hoC
            refine ⟨fun o e => on.2 C o (slot_not (o := oc) q hC) e, fun h₃ hs => ⟨rfl, setO O m none, si_drop (sb := s) (x := y) q hC q₂ hs, ?_, setO_old (by simp)⟩⟩
            obtain ⟨⟨h₂, t₂, rfl⟩, kk⟩ := on
            refine ⟨⟨h₃, t₂, rfl⟩, fun b o hb e => hs.extBut b o (fun eb => by subst eb; exact not_none_of hC e) (kk b o (fun p => hb (.inl p.priv)) (keep b o e))⟩
      · cases hev
    · cases hev

theorem snd_asgOwn (hB : B.Ok) (hΦ : FnsOk B Φ.toFns n) {m : Nat} {e : X} : SndS B Φ n (.asgOwn m e) := by
  intro A env names W₀ Ex O ρ s₀ s x o E hok q hev
  · (replace hok := iv_asgOwn hok); obtain ⟨y, py, v, pos, rfl, hok⟩ := hok
    simp only [nameIs, Bool.and_eq_true, beq_iff_eq] at hok
    obtain ⟨⟨h1, h2⟩, h3⟩ := hok
    simp only [Z40, Z41, Z42, Z43, Z44, Z45, Z46, Z47, Z48, Z49, Z50, Z51, Z52, Z53, Z54, Z55, Z56, Z57, Z58, Z59, Z60, Z61, Z62] at hev
    split at hev
    · rename_i ds er
      cases hev
      refine asg_core hB hΦ h3 q er ?_ ?_
      · intro u s₁ p
        obtain ⟨a, vs, j, rfl, _, _, _⟩ := p.2.1.list_inv
        refine si_own q p.1 h1 h2 (p.2.2 a rfl) p.2.1 fun s₂ q₂ on => ⟨rfl, setO O m (some a), q₂, ?_, setO_old (by rintro b ⟨⟩; exact p.2.2 a rfl)⟩
        exact ((Only.of p.1).trans (on.mono fun b p => .inl p.priv))
      · intro D C h' tk out hr hD hC hoC rp keep
        cases hr
        have k : Keeps s { s with heap := h', toks := tk } := ⟨h', tk, rfl, keep⟩
        refine si_own' (N := fun b => b = C) q k h1 h2 (fun b h => h ▸ ⟨hC, hoC⟩) hD rp fun s₂ q₂ on => ?_
        obtain ⟨oc, hoc, _⟩ := hoC
        refine ⟨fun o e => on.2 C o (slot_not (o := oc) q hC) e, fun h₃ hs => ⟨rfl, setO O m (some D), si_drop (sb := s) (x := y) q hC q₂ hs, ?_, setO_old (by rintro b ⟨⟩; exact hD)⟩⟩
        obtain ⟨⟨h₂, t₂, rfl⟩, kk⟩ := on
        refine ⟨⟨h₃, t₂, rfl⟩, fun b o hb e => hs.extBut b o (fun eb => by subst eb; exact not_none_of hC e) (kk b o (fun p => hb (.inl p.priv)) (keep b o e))⟩
    · rename_i d nd er
      split at hev
      · rename_i hat
        cases hev
        refine asg_core hB hΦ h3 q er ?_ ?_
        · intro u s₁ p
          refine si_val (q.keeps p.1) h1 h2 (p.2.ofClean rfl) fun s₂ q₂ on => ⟨rfl, setO O m none, q₂, ?_, setO_old (by simp)⟩
          exact ((Only.of p.1).trans (on.mono fun b p => .inl p.priv))
        · intro D C h' tk out hr hD hC hoC rp keep
          cases hr
          simp [Z70, Z71, Z72, Z73, Z74, Z75, Z76] at hat
      · cases hev
    · cases hev
end
end Mw

set_option maxRecDepth 10000
namespace Mw
open PySem

section
variable {B : Bs} {Φ : Fns2} {n : Nat} {A : Around} {env : Env} {names : List Str} {W₀ Ex : Addr → Prop} {O : Nat → Option Addr} {ρ ρ' : Rho} {s₀ s s' : Shared} {E : Value → Shared → Prop}

theorem SI.touch {P : Addr → Prop} {h' : Heap} {tk : Nat} (q : SI B n A env names W₀ Ex O ρ s₀ s) (hP : ∀ b, P b → Ex b ∧ ¬ Priv env b) (hk : ∀ b o, ¬ P b → s.heap.get? b = some o → h'.get? b = some o) (ho : ∀ b, P b → ∃ o, h'.get? b = some o ∧ NoTup o) :
    SI B n A env names W₀ Ex O ρ s₀ { s with heap := h', toks := tk } := by
  have wex : ∀ a, P a → Wof env W₀ Ex O a := fun a h => .inr (.inr (.inl (hP a h).1))
  have H : ∀ a o, ¬ Wof env W₀ Ex O a → s.heap.get? a = some o → ¬ Wof env W₀ Ex O a ∧ h'.get? a = some o := fun a o hw e => ⟨hw, hk a o (fun w => hw (wex a w)) e⟩
  have np : ∀ b, Priv env b → ¬ P b := fun b h w => (hP b w).2 h
  have nO : ∀ m b, O m = some b → ¬ P b := fun m b h w => (q.own m b h).2.1 (hP b w).1
  have hfr : ∀ b, P b → s₀.heap.get? b = none := fun b h => q.fresh b (.inr (.inl (hP b h).1))
  have keepT : ∀ t us k, s.heap.get? t = some (tObj us k) → h'.get? t = some (tObj us k) := fun t us k e => hk t _ (fun w => by
    obtain ⟨o, e', nt⟩ := q.cx.wok t (wex t w)
    rw [e] at e'; cases e'; exact nt _ _ rfl rfl) e
  have varUp : ∀ x v, VarAt env s.heap x v → VarAt env h' x v := fun x v hv => by
    rcases hv with ⟨k, m, hm, e⟩ | ⟨k, c, hc, hv⟩
    · exact .inl ⟨k, m, hm.at' fun o e => hk _ o (np _ (.inl rfl)) e, e⟩
    · obtain ⟨o, ho, hd⟩ := hv; exact .inr ⟨k, c, hc, o, hk _ o (np _ (.inr ⟨x, hc⟩)) ho, hd⟩
  refine { fresh := q.fresh, own := q.own, inj := q.inj, base₀ := q.base₀, kp := ?kp, link := ?link, linkT := ?linkT, cx := ?cx }
  case kp =>
    obtain ⟨h₁, t₁, rfl, k₁⟩ := q.kp
    exact ⟨h', tk, rfl, fun b o e => hk b o (fun w => not_none_of (hfr b w) e) (k₁ b o e)⟩
  case link =>
    intro m ds x h1 h2 h3
    obtain ⟨a, hv, ho⟩ := q.link m ds x h1 h2 h3
    exact ⟨a, varUp _ _ hv, ho⟩
  case linkT =>
    intro m d ds x h1 h2 h3
    obtain ⟨t, a, v₀, j, hv, ht, ho⟩ := q.linkT m d ds x h1 h2 h3
    exact ⟨t, a, v₀, j, varUp _ _ hv, keepT _ _ _ ht, ho⟩
  case cx =>
    refine { room := q.cx.room, fn := q.cx.fn, gl := q.cx.gl, bl := q.cx.bl, le := q.cx.le, priv := q.cx.priv, offH := q.cx.offH, nd := q.cx.nd, dot := q.cx.dot, base := ?_, wok := ?_, frm := ?_, env := ?_ }
    · intro b o e
      exact hk b o (fun w => not_none_of (hfr b w) (q.base₀ b o e)) (q.cx.base b o e)
    · intro a w
      by_cases p : P a
      · exact ho a p
      · obtain ⟨o, e, nt⟩ := q.cx.wok a w
        exact ⟨o, hk a o p e, nt⟩
    · refine ⟨let ⟨m, hm⟩ := q.cx.frm.ns; ⟨m, hm.at' fun o e => hk _ o (np _ (.inl rfl)) e⟩, q.cx.frm.has, fun x c hc => ?_, q.cx.frm.off, q.cx.frm.apart⟩
      obtain ⟨v, o, ho, hd⟩ := q.cx.frm.cell x c hc
      exact ⟨v, o, hk _ o (np _ (.inr ⟨x, hc⟩)) ho, hd⟩
    · intro m e x h1 h2 h3
      obtain ⟨v, hv, he⟩ := q.cx.env m e x h1 h2 h3
      refine ⟨v, varUp _ _ hv, ?_⟩
      cases e with
      | val d => exact Rep.mono H he
      | own ds =>
        obtain ⟨a, rfl, w, w₀, sh⟩ := he
        obtain ⟨a', hv', ho'⟩ := q.link m ds x h1 h2 h3
        cases hv.unique hv'
        exact ⟨a, rfl, w, w₀, sh.mono H fun o => hk a o (nO m a ho')⟩
      | ownT d ds =>
        obtain ⟨u, a, v₀, j, rfl, wt, ht, r, w, w₀, sh⟩ := he
        obtain ⟨t', a', v', j', hv', ht', ho'⟩ := q.linkT m d ds x h1 h2 h3
        cases hv.unique hv'
        rw [ht] at ht'
        have ea : a = a' := by
          have := congrArg (fun o : Option Obj => o.map (·.data)) ht'
          simp at this
          exact this.1.2
        subst ea
        exact ⟨u, a, v₀, j, rfl, wt, keepT _ _ _ ht, r.mono H, w, w₀, sh.mono H fun o => hk a o (nO m a ho')⟩

theorem assign_si {t : Tg} {tg : PySem.Expr} {v : Value} {d : PyData} {Q : Unit → Shared → Prop} (q : SI B n A env names W₀ Ex O ρ s₀ s) (hok : okTg names env.scope.names t tg = true) (r : Rep s.heap (Wof env W₀ Ex O) v d) (hb : bindT t ρ d = some ρ')
    (hQ : ∀ s' O', SI B n A env names W₀ Ex O' ρ' s₀ s' → Only (fun b => Priv env b) s s' → (∀ m a, O' m = some a → O m = some a) → Q () s') : wpAny B.M A (assign tg env v) Q E s := by
  have sub : ∀ {O : Nat → Option Addr} {m k a}, setO O m none k = some a → O k = some a := fun {O m k a} h => by
    by_cases e : k = m
    · subst e; rw [setO_self] at h; cases h
    · rwa [setO_ne e] at h
  cases t with
  | one m =>
    (replace hok := ivOne hok); obtain ⟨x, p, rfl, hok⟩ := hok
    · simp only [nameIs, Bool.and_eq_true, beq_iff_eq] at hok
      simp only [bindT, Option.some.injEq] at hb
      subst hb
      exact wpAny_assign_Name (si_val q hok.1 hok.2 r fun s' q' on => hQ s' _ q' (on.mono fun b p => p.priv) fun k a h => sub h)
  | two m k =>
    (replace hok := ivTwo hok); obtain ⟨x, px, y, py, kk, p, rfl, hok⟩ := hok
    · simp only [nameIs, Bool.and_eq_true, beq_iff_eq] at hok
      obtain ⟨⟨⟨⟨h1, h2⟩, h3⟩, h4⟩, _⟩ := hok
      obtain ⟨a, b, rfl, rfl⟩ := bind_two hb
      · obtain ⟨T, vs, j, rfl, _, ho, rl⟩ := r.tuple_inv
        obtain ⟨va, vb, rfl, ra, rb⟩ := two_vs rl
        refine wpAny_assign_Tuple q.cx.room.handled ⟨_, ho, rfl, j, rfl⟩ rfl rfl fun h₁ he₁ => ?_
        have k₁ : Keeps s { s with heap := h₁ } := ⟨h₁, s.toks, rfl, fun b o e => he₁ b o (fun q => by subst q; exact not_none_of none_of_size e) e⟩
        show wpAny _ _ (assignInOrder [assign (.Name x px) env, assign (.Name y py) env] [va, vb]) _ _ _
        refine PyProof.Rows.assignInOrder_cons (wpAny_assign_Name (si_val (q.keeps k₁) h1 h2 (ra.keeps k₁) fun s₂ q₂ o₂ => ?_))
        have k₂ : Only (Slot env x) s s₂ := (Only.of k₁).trans o₂
        have rb₂ : Rep s₂.heap (Wof env W₀ Ex (setO O m none)) vb b := rb.mono fun c o hw ho => ⟨fun w => hw (by
          rcases w with w | w | w | ⟨k, w⟩
          · exact .inl w
          · exact .inr (.inl w)
          · exact .inr (.inr (.inl w))
          · exact .inr (.inr (.inr ⟨k, sub w⟩))), k₂.2 c o (fun p => hw (.inr (.inl p.priv))) ho⟩
        refine PyProof.Rows.assignInOrder_cons (wpAny_assign_Name (si_val q₂ h3 h4 rb₂ fun s₃ q₃ o₃ => ?_))
        exact PyProof.Rows.assignInOrder_nil (hQ s₃ _ q₃ ((k₂.mono fun b q => q.priv).trans (o₃.mono fun b q => q.priv)) fun k a h => sub (sub h))

theorem forGo_drop {f : Rho → PyData → Option Out} {items : List PyData} {i : Nat} {d : PyData} (hd : items[i]? = some d) : forGo f (items.drop i) ρ = match f ρ d with | some (.next ρ') => forGo f (items.drop (i + 1)) ρ' | o => o := by
  obtain ⟨hi, rfl⟩ := List.getElem?_eq_some_iff.mp hd
  rw [List.drop_eq_getElem_cons hi]; rfl

theorem snd_for (hB : B.Ok) (hΦ : FnsOk B Φ.toFns n) {t : Tg} {it : X} {body : S} (hb : SndK B Φ n body) : SndS B Φ n (.for t it body) := by
  intro A env names W₀ Ex O ρ s₀ s x o E hok q hev
  · (replace hok := iv_for hok); obtain ⟨tg, iter, y, pos, rfl, hok⟩ := hok
    simp only [Bool.and_eq_true] at hok
    obtain ⟨⟨⟨⟨h1, h2⟩, h3⟩, h4⟩, h5⟩ := hok
    simp only [Z40, Z41, Z42, Z43, Z44, Z45, Z46, Z47, Z48, Z49, Z50, Z51, Z52, Z53, Z54, Z55, Z56, Z57, Z58, Z59, Z60, Z61, Z62] at hev
    split at hev
    · rename_i np items ei
      split at hev
      · cases hev
      · rename_i hnp
        obtain ⟨pair, hp1, hp2⟩ := pair_of h1 h2
        refine wpAny_For ?_ (folded_no h3)
        refine wpAny_mono ((snd_all hB hΦ it).I A env names W₀ _ ρ s iter np items pair E h4 q.cx ei hp1) (fun v s₁ h => wpAny_mono h (fun itv s₂ hI => ?_) fun _ _ e => e) fun _ _ e => e
        obtain ⟨I, wr, fp, St, rfl, k₂, hwr, src, st₀, hfp, hpair, hlen⟩ := hI
        have q₂ := q.addEx (New := fun b => b ∈ wr) k₂ hwr (src.obj 0 _ _ st₀)
        have hkind := okTg_kind h2
        have nwP : ∀ b ∈ wr, ¬ Priv env b := fun b hb p => by obtain ⟨o, e⟩ := q.live (.inl p); exact not_none_of (hwr b hb) e
        have hnames : (∃ x p, tg = .Name x p) → wr = [I] := fun h => hpair (hp2 h)
        refine codeAny_forLoop_any (I := fun k s₃ => ∃ i O₃ ρ₃, i + k = items.length ∧ SI B n A env names W₀ (fun a => Ex a ∨ a ∈ wr) O₃ ρ₃ s₀ s₃ ∧ St i s₃.heap (Wof env W₀ (fun a => Ex a ∨ a ∈ wr) O₃) ∧
          forGo (fun ρ d => match bindT t ρ d with | some ρ' => evS Φ body ρ' | none => none) (items.drop i) ρ₃ = some o ∧ Only (fun b => (Priv env b ∨ ∃ m, O m = some b) ∨ b ∈ wr) s₂ s₃ ∧ (∀ m a, O₃ m = some a → (∃ k, O k = some a) ∨ s₂.heap.get? a = none) ∧
          (∀ b ∈ fp, b ∉ wr → (∃ o, s₂.heap.get? b = some o ∧ s₃.heap.get? b = some o))) ?_ items.length ?_
        · intro k s₃ ⟨i, O₃, ρ₃, hik, q₃, st, hgo, on, hO, hkeep⟩
          by_cases hi : i < items.length
          · have hd : items[i]? = some items[i] := List.getElem?_eq_getElem hi
            rw [forGo_drop hd] at hgo
            refine src.turn (Q := fun v s₁ => _) hkind.1 hnames hd st (fun b hb => .inr (.inr (.inl (.inr hb)))) q₃.cx.wok fun v h' tk rep st' keep => ?_
            have q₄ := q₃.touch (P := fun b => b ∈ wr) (h' := h') (tk := tk) (fun b hb => ⟨.inr hb, nwP b hb⟩) keep (src.obj _ _ _ st')
            cases hbt : bindT t ρ₃ items[i] with
            | none => simp only [hbt] at hgo; cases hgo
            | some ρ₄ =>
              simp only [hbt] at hgo
              refine assign_si q₄ h2 rep hbt fun s₅ O₅ q₅ on₅ hO₅ => ?_
              cases eb : evS Φ body ρ₄ with
              | none => rw [eb] at hgo; cases hgo
              | some o₁ =>
                refine wpAny_mono (hb A env names W₀ _ O₅ ρ₄ s₀ s₅ y o₁ _ h5 q₅ eb) (fun f s₆ hsp => ?_) fun _ _ e => e
                rw [eb] at hgo
                cases o₁ with
                | ret fr d => obtain ⟨v, rfl, hsp⟩ := hsp; cases hgo; exact ⟨v, rfl, hsp⟩
                | retT d ds => obtain ⟨u, a, v₀, j, rfl, hsp⟩ := hsp; cases hgo; exact ⟨u, a, v₀, j, rfl, hsp⟩
                | next ρ₆ =>
                  obtain ⟨rfl, O₆, q₆, on₆, hO₆⟩ := hsp
                  have nO5 : ∀ b ∈ fp, b ∉ wr → pureS body = false → ∀ m, O₅ m ≠ some b := fun b hb hbw hpu m hm => by
                    obtain ⟨ob, e2, _⟩ := hkeep b hb hbw
                    have hnp' : np = false := by cases np <;> simp_all
                    rcases hfp b hb with w | ⟨_, w⟩
                    · exact hbw w
                    · rcases hO m b (hO₅ m b hm) with w' | w'
                      · exact w hnp' (.inr (.inr (.inr w')))
                      · exact not_none_of w' e2
                  have keep4 : ∀ b o, b ∈ fp → h'.get? b = some o → s₆.heap.get? b = some o := by
                    intro b o hb e
                    by_cases hbw : b ∈ wr
                    · have e5 := on₅.2 b o (nwP b hbw) e
                      refine on₆.2 b o (fun p => ?_) e5
                      rcases p with p | ⟨_, m, p⟩
                      · exact nwP b hbw p
                      · exact (q₅.own m b p).2.1 (.inr hbw)
                    · obtain ⟨ob, e2, e3⟩ := hkeep b hb hbw
                      have := keep b ob hbw e3
                      rw [this] at e; cases e
                      have nP : ¬ Priv env b := by
                        rcases hfp b hb with w | ⟨⟨o', eo, vs, kk, hds⟩, _⟩
                        · exact (hbw w).elim
                        · rw [e2] at eo; cases eo
                          exact q₂.cx.frm.not_seq e2 hds
                      have e5 := on₅.2 b _ nP this
                      refine on₆.2 b _ (fun p => ?_) e5
                      rcases p with p | ⟨pu, m, p⟩
                      · exact nP p
                      · exact nO5 b hb hbw pu m p
                  refine ⟨k - 1, by omega, i + 1, O₆, ρ₆, by omega, q₆, ?_, hgo, ?_, ?_, ?_⟩
                  · refine src.frame _ _ _ _ _ st' keep4 fun b o hw e => ?_
                    have nP : ¬ Priv env b := fun p => hw (.inr (.inl p))
                    have e5 := on₅.2 b o nP e
                    have nO : ∀ m, O₅ m ≠ some b := fun m p => hw (.inr (.inr (.inr ⟨m, hO₅ m b p⟩)))
                    refine ⟨fun w => ?_, on₆.2 b o (fun p => p.elim nP fun p => let ⟨m, p⟩ := p.2; nO m p) e5⟩
                    rcases w with w | w | w | ⟨m, w⟩
                    · exact hw (.inl w)
                    · exact nP w
                    · exact hw (.inr (.inr (.inl w)))
                    · rcases hO₆ m b w with ⟨k, w⟩ | w
                      · exact nO k w
                      · exact not_none_of w e5
                  · obtain ⟨⟨hh3, tt3, rfl⟩, kk3⟩ := on
                    obtain ⟨⟨hh5, tt5, rfl⟩, kk5⟩ := on₅
                    obtain ⟨⟨hh6, tt6, rfl⟩, kk6⟩ := on₆
                    refine ⟨⟨hh6, tt6, rfl⟩, fun b o hb e => ?_⟩
                    have nP : ¬ Priv env b := fun p => hb (.inl (.inl p))
                    have e3 := kk3 b o hb e
                    have e4 := keep b o (fun p => hb (.inr p)) e3
                    have e5 := kk5 b o nP e4
                    refine kk6 b o (fun p => ?_) e5
                    rcases p with p | ⟨_, m, p⟩
                    · exact nP p
                    · rcases hO m b (hO₅ m b p) with p | p
                      · exact hb (.inl (.inr p))
                      · exact not_none_of p e
                  · intro m a hm
                    rcases hO₆ m a hm with ⟨k, w⟩ | w
                    · exact hO k a (hO₅ k a w)
                    · by_cases p : (Priv env a ∨ ∃ m, O m = some a) ∨ a ∈ wr
                      · rcases p with (p | p) | p
                        · obtain ⟨o, e⟩ := q₅.live (.inl p); exact not_none_of w e
                        · exact .inl p
                        · obtain ⟨o, e, _⟩ := q₅.cx.wok a (.inr (.inr (.inl (.inr p)))); exact not_none_of w e
                      · refine .inr (none_of_only on ?_ p)
                        cases e3 : s₃.heap.get? a with
                        | none => rfl
                        | some ob => exact not_none_of w (on₅.2 a ob (fun pp => p (.inl (.inl pp))) (keep a ob (fun pp => p (.inr pp)) e3))
                  · intro b hb hbw
                    obtain ⟨ob, e2, e3⟩ := hkeep b hb hbw
                    exact ⟨ob, e2, keep4 b ob hb (keep b ob hbw e3)⟩
          · have hi' : i = items.length := by omega
            subst hi'
            simp only [List.drop_length, forGo] at hgo
            cases hgo
            refine src.stop (N := fun s₁ => _) st fun h' tk keep => ?_
            refine wpAny_execs_nil ⟨rfl, O₃, ?_, ?_, ?_⟩
            · refine q₃.dropEx (New := fun b => b ∈ wr) ⟨h', tk, rfl⟩ keep fun b hb => ?_
              have no : ¬ Wof env W₀ Ex O b := fun w => by obtain ⟨o, e, _⟩ := q.cx.wok b w; exact not_none_of (hwr b hb) e
              exact ⟨fun w => no (.inr (.inl w)), fun w => no (.inr (.inr (.inl w))), fun w => no (.inl w)⟩
            · obtain ⟨hh2, tt2, rfl, kk2⟩ := k₂
              obtain ⟨⟨hh3, tt3, rfl⟩, kk3⟩ := on
              refine ⟨⟨h', tk, rfl⟩, fun b o hb e => ?_⟩
              have nw : b ∉ wr := fun p => not_none_of (hwr b p) e
              exact keep b o nw (kk3 b o (fun p => p.elim (fun p => hb (p.imp id fun p => ⟨rfl, p⟩)) nw) (kk2 b o e))
            · intro m a hm
              exact (hO m a hm).imp id fun w => none_of_keeps k₂ w
        · refine ⟨0, O, ρ, by omega, q₂, ?_, by rw [List.drop_zero]; exact hev, .refl, fun m a h => .inl ⟨m, h⟩, fun b hb hbw => ?_⟩
          · refine src.frame _ _ _ _ _ st₀ (fun b o _ e => e) fun b o hw e => ⟨fun w => hw ?_, e⟩
            rcases w with w | w | (w | w) | w
            · exact .inl (.inl w)
            · exact .inl (.inr (.inl w))
            · exact .inl (.inr (.inr (.inl w)))
            · exact .inr w
            · exact .inl (.inr (.inr (.inr w)))
          · rcases hfp b hb with w | ⟨⟨o, eo, _⟩, _⟩
            · exact (hbw w).elim
            · exact ⟨o, eo, eo⟩
    · cases hev

theorem snd_wh (hB : B.Ok) (hΦ : FnsOk B Φ.toFns n) {k : Nat} {c : X} {body : S} (hb : SndK B Φ n body) : SndS B Φ n (.wh k c body) := fun _ _ _ _ _ _ _ _ _ _ _ _ _ _ hev => by cases (show (none : Option Out) = some _ from hev)
end
end Mw

set_option maxRecDepth 10000
namespace Mw
open PySem

section
variable {prog : Program} {w : World} {A : Around} {E : Value → Shared → Prop} {s : Shared}
theorem setItem_list {l : Addr} {items : Array Value} {n : Nat} {k : Int} {t : Tok} {v : Value} {Q : Unit → Shared → Prop} (ho : s.heap.get? l = some (lObj items n))
    (h0 : 0 ≤ k) (hfit : k < 2 ^ 63) (hn : k < items.size)
    (hQ : Q () { s with heap := s.heap.update l (Obj.mapSeq (·.setIfInBounds k.toNat v)) }) :
    wpAny (model prog w) A (setItem (.ref l) (.int k t) v) Q E s := by
  have hl : s.heap.IsList l items := ⟨_, ho, rfl, n, rfl⟩
  have hd : (lObj items n).data = .seq items n := rfl
  unfold setItem
  try with_reducible refine wpAny_holding ?_
  first | refine wpAny_bind (wpAny_pure ?_) | skip
  refine wpAny_bind (wpAny_sequenceKey hl.typeIs (by decide) ?_)
  refine wpAny_bind (wpAny_callSpecial?_slot (name := Str.ofString "__setitem__") hl.typeIs slot_list_setitem
    (wpAny_call_entry slot_list_setitem hl.typeIs entry_list_setitem ?_ (args_list_setitem _ _ _)))
  show wpAny _ _ (Builtin.List.listSubscript? (.int k t) >>= _) _ _ s
  refine wpAny_bind (wpAny_listSubscript_int (fitsIndex_of h0 hfit) ?_)
  clear hfit
  obtain ⟨j, rfl⟩ := Int.eq_ofNat_of_zero_le h0
  have hj : j < items.size := by omega
  have hx' : items[j]? = some items[j] := Array.getElem?_eq_getElem hj
  show wpAny _ _ ((seqItemAt l j >>= fun r => pure (r.map (j, ·))) >>= _) _ _ s
  refine wpAny_bind (wpAny_bind (wpAny_seqItemAt ho hd (wpAny_pure ?_)))
  rw [hx']
  show wpAny _ _ (setSeqItemAt l j v >>= _) _ _ s
  refine wpAny_bind (wpAny_setSeqItemAt ho hd ?_)
  first
    | exact wpAny_bind (wpAny_pure (wpAny_pure ⟨.none, rfl, wpAny_pure hQ⟩))
    | exact wpAny_pure ⟨.none, rfl, wpAny_pure hQ⟩

theorem upd_self {h : Heap} {a : Addr} {vs : Array Value} {n : Nat} (ho : h.get? a = some (lObj vs n)) (f : Array Value → Array Value) : ∃ k, (h.update a (Obj.mapSeq f)).get? a = some (lObj (f vs) k) := ⟨_, IsL.update ho f⟩
end

section
variable {B : Bs} {Φ : Fns2} {n : Nat} {A : Around} {env : Env} {names : List Str} {W₀ Ex : Addr → Prop} {O : Nat → Option Addr} {ρ ρ' : Rho} {s₀ s s' : Shared} {E : Value → Shared → Prop}

theorem nx_mutate {pu : Bool} {m : Nat} {x : Str} {a : Addr} {ds ds' : List PyData} {vs vs' : Array Value} {j : Nat} {f : Array Value → Array Value} {s₁ : Shared} (q : SI B n A env names W₀ Ex O ρ s₀ s) (k : Keeps s s₁) (hpu : pu = false) (hm : names[m]? = some x) (hx : Sc.isVar env.scope.names x = true)
    (he : ownAt ρ m = some ds) (ha : O m = some a) (ho : s₁.heap.get? a = some (lObj vs j)) (hf : f vs = vs') (rl : RepL s₁.heap (Wof env W₀ Ex O) vs'.toList ds') :
    Nx B n A env names W₀ Ex O s₀ s pu (upd ρ m (.own ds')) { s₁ with heap := s₁.heap.update a (Obj.mapSeq f) } := by
  subst hf
  obtain ⟨j', ho'⟩ := upd_self ho f
  have keep : ∀ b o, b ≠ a → s₁.heap.get? b = some o → (s₁.heap.update a (Obj.mapSeq f)).get? b = some o := fun b o hb e => by rw [Heap.get?_update_other _ _ (Ne.symm hb)]; exact e
  refine ⟨O, (q.keeps k).mutate hm (isVar_kind hx) (own_get he) ha keep ho' (rl.mono fun b o hw e => ⟨hw, keep b o (fun e' => hw (e' ▸ .inr (.inr (.inr ⟨m, ha⟩)))) e⟩), ?_, fun m a h => .inl ⟨m, h⟩⟩
  obtain ⟨h₁, t₁, rfl, k₁⟩ := k
  exact ⟨⟨_, _, rfl⟩, fun b o hb e => keep b o (fun e' => hb (.inr ⟨hpu, m, e' ▸ ha⟩)) (k₁ b o e)⟩

theorem snd_setAt (hB : B.Ok) (hΦ : FnsOk B Φ.toFns n) {m : Nat} {i e : X} : SndS B Φ n (.setAt m i e) := by
  intro A env names W₀ Ex O ρ s₀ s x o E hok q hev
  · (replace hok := iv_setAt hok); obtain ⟨y, py, j, pj, v, pos, rfl, hns, hok⟩ := hok
    simp only [nameIs, Bool.and_eq_true, beq_iff_eq] at hok
    obtain ⟨⟨⟨h1, h2⟩, h3⟩, h4⟩ := hok
    simp only [Z40, Z41, Z42, Z43, Z44, Z45, Z46, Z47, Z48, Z49, Z50, Z51, Z52, Z53, Z54, Z55, Z56, Z57, Z58, Z59, Z60, Z61, Z62] at hev
    split at hev
    · rename_i ds c k c' d hds ei ee
      split at hev
      · rename_i hg
        cases hev
        simp only [Bool.and_eq_true, decide_eq_true_eq] at hg
        obtain ⟨⟨⟨hc, hk0⟩, hk1⟩, hlen⟩ := hg
        have hsw : swapsWith v (some (.Subscript (.Name y py) j pj)) pos.line env = pure false := by cases v <;> rfl
        obtain ⟨a, vs, jj, va, oa, ho, rl⟩ := q.ownEnt hds h1 h2
        refine wpAny_Assign_Subscript ?_ hsw
        refine wpAny_mono ((snd_all hB hΦ e).E A env names W₀ _ ρ s v _ E h4 q.cx ee) (fun u s₁ p => ?_) fun _ _ x => x
        refine load_name (q.keeps p.1) h2 (va.keeps (Keeps.heap p.1)) ?_
        refine wpAny_mono ((snd_all hB hΦ i).E A env names W₀ _ ρ s₁ j _ E h3 (q.cx.keeps p.1) ei) (fun iv s₂ p' => ?_) fun _ _ x => x
        obtain ⟨tk, rfl⟩ := p'.2.int_inv q.cx.le
        have k2 := keeps_trans p.1 p'.1
        have hsz : vs.size = ds.length := seq_size rl
        refine setItem_list (Keeps.heap k2 _ _ ho) hk0 (by simp only [maxLen] at hlen; omega) (by omega) ⟨rfl, ?_⟩
        refine nx_mutate q k2 rfl h1 h2 hds oa (Keeps.heap k2 _ _ ho) rfl ?_
        have rl2 := RepL.keeps k2 rl
        have rd := (p.2.keeps p'.1).ofClean hc
        refine ⟨by simp [rl.1], fun i' v' d' hv hd => ?_⟩
        rw [Array.toList_setIfInBounds, List.getElem?_set] at hv
        rw [List.getElem?_set] at hd
        by_cases hi : k.toNat = i'
        · subst hi
          have hl : k.toNat < vs.toList.length := by simp [hsz]; omega
          have hl' : k.toNat < ds.length := by omega
          simp only [if_true, hl, hl', Option.some.injEq] at hv hd
          subst hv; subst hd; exact rd
        · simp only [hi, if_false] at hv hd
          exact rl2.2 i' v' d' hv hd
      · cases hev
    · cases hev

theorem few1 {v : PySem.Expr} {pos : Pos} (h : notStar v = true) : ((backTo pos (starEach [v] env)).all (fun x => !x.1) && (backToKw pos (keywordEach [] env)).all (fun x => x.1.isSome)
      && decide ([v].length + ([] : List Keyword).length + (if ([] : List Keyword).isEmpty then 0 else 1) < 30)) = true := by
  rw [star_cons h]; rfl
theorem back1 {v : PySem.Expr} {pos : Pos} (h : notStar v = true) : backTo pos (starEach [v] env) = [(false, eval v env)] := by rw [star_cons h]; rfl

theorem RepL.snoc {h : Heap} {W : Addr → Prop} {vs : Array Value} {ds : List PyData} {v : Value} {d : PyData} (rl : RepL h W vs.toList ds) (r : Rep h W v d) : RepL h W (vs.push v).toList (ds ++ [d]) := by
  have hl := rl.1
  refine ⟨by simp [← hl], fun i v' d' hv hd => ?_⟩
  rw [Array.toList_push, List.getElem?_append] at hv
  rw [List.getElem?_append] at hd
  rw [hl] at hv
  split at hv
  · rename_i hi
    rw [if_pos hi] at hd; exact rl.2 i v' d' hv hd
  · rename_i hi
    rw [if_neg hi] at hd
    have : i - ds.length = 0 := by
      obtain ⟨h0, _⟩ := List.getElem?_eq_some_iff.mp hd
      simp at h0; omega
    rw [this] at hv hd
    simp at hv hd
    subst hv; subst hd; exact r

theorem not_inter (q : SI B n A env names W₀ Ex O ρ s₀ s) : interactive env = false := by unfold interactive; rw [q.cx.fn]; rfl

theorem snd_app (hB : B.Ok) (hΦ : FnsOk B Φ.toFns n) {m : Nat} {e : X} : SndS B Φ n (.app m e) := by
  intro A env names W₀ Ex O ρ s₀ s x o E hok q hev
  · (replace hok := iv_app hok); obtain ⟨y, py, a, apos, v, pos, pos', rfl, hok⟩ := hok
    simp only [nameIs, Bool.and_eq_true, beq_iff_eq] at hok
    obtain ⟨⟨⟨⟨⟨h1, h2⟩, rfl⟩, h3⟩, h4⟩, h5⟩ := hok
    simp only [Z40, Z41, Z42, Z43, Z44, Z45, Z46, Z47, Z48, Z49, Z50, Z51, Z52, Z53, Z54, Z55, Z56, Z57, Z58, Z59, Z60, Z61, Z62] at hev
    split at hev
    · rename_i ds c d hds ee
      split at hev
      · rename_i hg
        cases hev
        simp only [Bool.and_eq_true, decide_eq_true_eq] at hg
        obtain ⟨a, vs, jj, va, oa, ho, rl⟩ := q.ownEnt hds h1 h2
        refine wpAny_Expr_any ?_ (not_inter q) rfl
        refine wpAny_Call_method rfl (few1 h4) (by simpa using h3) F.plainAttrs_list F.slot_list_append F.type_list_append ?_
        refine load_name q h2 va ⟨⟨_, ho, rfl⟩, fun b e => by cases e; exact ⟨_, ho, rfl⟩, ?_⟩
        rw [back1 h4]
        refine P.append_list (wpAny_mono ((snd_all hB hΦ e).E A env names W₀ _ ρ s v _ E h5 q.cx ee) (fun u s₁ p => ?_) fun _ _ x => x)
        have hsz : vs.size = ds.length := seq_size rl
        refine ⟨vs, jj, by have := maxLen_le; omega, Keeps.heap p.1 _ _ ho, rfl, ?_⟩
        exact nx_mutate q p.1 rfl h1 h2 hds oa (Keeps.heap p.1 _ _ ho) rfl ((RepL.keeps p.1 rl).snoc (p.2.ofClean hg.1))
      · cases hev
    · cases hev

theorem snd_clear {m : Nat} : SndS B Φ n (.clear m) := by
  intro A env names W₀ Ex O ρ s₀ s x o E hok q hev
  · (replace hok := iv_clear hok); obtain ⟨y, py, a, apos, pos, pos', rfl, hok⟩ := hok
    simp only [nameIs, Bool.and_eq_true, beq_iff_eq] at hok
    obtain ⟨⟨⟨h1, h2⟩, rfl⟩, h3⟩ := hok
    simp only [Z40, Z41, Z42, Z43, Z44, Z45, Z46, Z47, Z48, Z49, Z50, Z51, Z52, Z53, Z54, Z55, Z56, Z57, Z58, Z59, Z60, Z61, Z62] at hev
    split at hev
    · rename_i ds hds
      split at hev
      · rename_i hlen
        cases hev
        obtain ⟨a, vs, jj, va, oa, ho, rl⟩ := q.ownEnt hds h1 h2
        have hsz : vs.size = ds.length := seq_size rl
        refine wpAny_Expr_any ?_ (not_inter q) rfl
        refine wpAny_Call_method rfl rfl (by simpa using h3) F.plainAttrs_list F.slot_list_clear F.type_list_clear ?_
        refine load_name q h2 va ⟨⟨_, ho, rfl⟩, fun b e => by cases e; exact ⟨_, ho, rfl⟩, ?_⟩
        refine P.clear_list ho ⟨rfl, ?_⟩ (by have := maxLen_le; omega)
        exact nx_mutate q (keeps_refl _) rfl h1 h2 hds oa ho rfl ⟨rfl, fun i v d hv => by simp at hv⟩
      · cases hev
    · cases hev

theorem snd_exec (hB : B.Ok) (hΦ : FnsOk B Φ.toFns n) {f : Str} {l : X} : SndS B Φ n (.exec f l) := by
  intro A env names W₀ Ex O ρ s₀ s x o E hok q hev
  · (replace hok := iv_exec hok); obtain ⟨v, pos, rfl, hok⟩ := hok
    simp only [Z40, Z41, Z42, Z43, Z44, Z45, Z46, Z47, Z48, Z49, Z50, Z51, Z52, Z53, Z54, Z55, Z56, Z57, Z58, Z59, Z60, Z61, Z62] at hev
    split at hev
    · rename_i r er
      cases hev
      have hsw : swapsWith v none pos.line env = pure false := by
        have hv : ∃ id p args pp, v = .Call (.Name id p) args [] pp := by
          (replace hok := iv_call hok); obtain ⟨id, p, y, ys, pos, rfl, _⟩ := hok
          exact ⟨_, _, _, _, rfl⟩
        obtain ⟨id, p, args, pp, rfl⟩ := hv
        rfl
      refine wpAny_Expr_any (wpAny_mono ((snd_all hB hΦ (.call f l)).E A env names W₀ _ ρ s v _ E hok q.cx er) (fun u s₁ p => ⟨rfl, Nx.of_keeps q p.1⟩) fun _ _ x => x) (not_inter q) hsw
    · cases hev

theorem SI.pass {m k : Nat} {a : Addr} (q : SI B n A env names W₀ Ex O ρ s₀ s) (hm : O m = some a) (hne : k ≠ m) : SI B n A env names W₀ Ex (setO (setO O m none) k (some a)) ((ρ.set m none).set k none) s₀ s := by
  have q' := (q.forget m).forget k
  have gk : ∀ (j : Nat) (e : Ent), ((ρ.set m none).set k none)[j]? = some (some e) → j ≠ k ∧ j ≠ m := fun j e h => by
    rcases set_get h with ⟨_, e'⟩ | ⟨h1, h⟩
    · cases e'
    · rcases set_get h with ⟨_, e'⟩ | ⟨h2, _⟩
      · cases e'
      · exact ⟨h1, h2⟩
  have back : ∀ j b, setO (setO O m none) k (some a) j = some b → (j = k ∧ b = a) ∨ (j ≠ k ∧ j ≠ m ∧ O j = some b) := fun j b h => by
    by_cases e : j = k
    · subst e; rw [setO_self] at h; cases h; exact .inl ⟨rfl, rfl⟩
    · rw [setO_ne e] at h
      by_cases e' : j = m
      · subst e'; rw [setO_self] at h; cases h
      · rw [setO_ne e'] at h; exact .inr ⟨e, e', h⟩
  have down : ∀ b, (∃ j, setO (setO O m none) k (some a) j = some b) → ∃ j, O j = some b := fun b ⟨j, h⟩ => by
    rcases back j b h with ⟨_, rfl⟩ | ⟨_, _, h⟩
    · exact ⟨m, hm⟩
    · exact ⟨j, h⟩
  have link : ∀ (j : Nat) (ds : List PyData) (y : Str), ((ρ.set m none).set k none)[j]? = some (some (.own ds)) → names[j]? = some y → (env.kindOf y = some .local ∨ env.kindOf y = some .cell) → ∃ b, VarAt env s.heap y (.ref b) ∧ setO (setO O m none) k (some a) j = some b := fun j ds y h1 h2 h3 => by
    obtain ⟨b, vb, ob⟩ := q'.link j ds y h1 h2 h3
    obtain ⟨e1, e2⟩ := gk j _ h1
    exact ⟨b, vb, by rw [setO_ne e1, setO_ne e2]; exact ob⟩
  have linkT : ∀ (j : Nat) (d : PyData) (ds : List PyData) (y : Str), ((ρ.set m none).set k none)[j]? = some (some (.ownT d ds)) → names[j]? = some y → (env.kindOf y = some .local ∨ env.kindOf y = some .cell) →
      ∃ t b v₀ i, VarAt env s.heap y (.ref t) ∧ s.heap.get? t = some (tObj #[v₀, .ref b] i) ∧ setO (setO O m none) k (some a) j = some b := fun j d ds y h1 h2 h3 => by
    obtain ⟨t, b, v₀, i, vb, ht, ob⟩ := q'.linkT j d ds y h1 h2 h3
    obtain ⟨e1, e2⟩ := gk j _ h1
    exact ⟨t, b, v₀, i, vb, ht, by rw [setO_ne e1, setO_ne e2]; exact ob⟩
  refine { kp := q.kp, base₀ := q.base₀, link := link, linkT := linkT, fresh := ?fresh, own := ?own, inj := ?inj, cx := ?cx }
  case fresh =>
    rintro b (w | w | w)
    · exact q.fresh b (.inl w)
    · exact q.fresh b (.inr (.inl w))
    · exact q.fresh b (.inr (.inr (down b w)))
  case own =>
    intro j b h
    obtain ⟨j', h'⟩ := down b ⟨j, h⟩
    exact q.own j' b h'
  case inj =>
    intro j j' b h h'
    rcases back j b h with ⟨e1, e2⟩ | ⟨_, e2, h1⟩ <;> rcases back j' b h' with ⟨e3, e4⟩ | ⟨_, e3, h2⟩
    · exact e1.trans e3.symm
    · exact (e3 (q.inj j' m b h2 (e2 ▸ hm))).elim
    · exact (e2 (q.inj j m b h1 (e4 ▸ hm))).elim
    · exact q.inj j j' b h1 h2
  case cx =>
    refine cx_shrink q'.cx (fun b w => ?_) (fun b w => .inl w) (fun b w => .inr (.inl w)) ?_ ?_
    · rcases w with w | w | w | w
      · exact .inl w
      · exact .inr (.inl w)
      · exact .inr (.inr (.inl w))
      · exact .inr (.inr (.inr (down b w)))
    · intro j ds y b h1 h2 h3 vb
      obtain ⟨b', vb', ob⟩ := link j ds y h1 h2 h3
      cases vb.unique vb'
      exact .inr (.inr (.inr ⟨j, ob⟩))
    · intro j d ds y t b v₀ i h1 h2 h3 vb ht
      obtain ⟨t', b', v', i', vb', ht', ob⟩ := linkT j d ds y h1 h2 h3
      cases vb.unique vb'
      rw [ht] at ht'
      have := congrArg (fun o : Option Obj => o.map (·.data)) ht'
      simp at this
      exact .inr (.inr (.inr ⟨j, by rw [this.1.2]; exact ob⟩))

theorem snd_move {k m : Nat} : SndS B Φ n (.move k m) := by
  intro A env names W₀ Ex O ρ s₀ s x o E hok q hev
  · (replace hok := iv_move hok); obtain ⟨y, py, z, pz, pos, rfl, hok⟩ := hok
    simp only [nameIs, Bool.and_eq_true, beq_iff_eq] at hok
    obtain ⟨⟨⟨h1, h2⟩, h3⟩, h4⟩ := hok
    simp only [Z40, Z41, Z42, Z43, Z44, Z45, Z46, Z47, Z48, Z49, Z50, Z51, Z52, Z53, Z54, Z55, Z56, Z57, Z58, Z59, Z60, Z61, Z62] at hev
    split at hev
    · rename_i ds hds
      split at hev
      · cases hev
      · rename_i hne
        cases hev
        obtain ⟨a, vs, jj, va, oa, ho, rl⟩ := q.ownEnt hds h3 h4
        refine wpAny_Assign_Name ?_ rfl
        refine load_name q h4 va ?_
        have q' := q.pass oa hne
        obtain ⟨np, nex, n0⟩ := q.own m a oa
        have wa : Wof env W₀ Ex (setO (setO O m none) k (some a)) a := .inr (.inr (.inr ⟨k, setO_self⟩))
        refine cx_store q'.cx h1 h2 (e := .own ds) ⟨a, rfl, wa, not_or.mpr ⟨n0, np⟩, .inl ⟨vs, jj, ho, rl.mono fun b o hw e => ⟨fun w => hw ?_, e⟩⟩⟩ fun s' cx' on hv => ⟨rfl, setO (setO O m none) k (some a), ?_, on.mono fun b p => .inl p.priv, ?_⟩
        · rcases w with w | w | w | ⟨j, w⟩
          · exact .inl w
          · exact .inr (.inl w)
          · exact .inr (.inr (.inl w))
          · by_cases e : j = k
            · subst e; rw [setO_self] at w; cases w; exact .inr (.inr (.inr ⟨m, oa⟩))
            · rw [setO_ne e] at w
              by_cases e' : j = m
              · subst e'; rw [setO_self] at w; cases w
              · rw [setO_ne e'] at w; exact .inr (.inr (.inr ⟨j, w⟩))
        · have := q'.stored (Ex := Ex) (O' := setO (setO O m none) k (some a)) h1 cx' on hv (fun _ _ => rfl) (fun b w => w) (fun b h => ?_) (fun ds' e => ⟨a, rfl, setO_self⟩) fun d ds e => by cases e
          · simpa using this
          · rw [setO_self] at h; cases h
            refine ⟨wa, np, nex, n0, q.fresh a (.inr (.inr ⟨m, oa⟩)), fun j hj e => ?_⟩
            rw [setO_ne hj] at e
            by_cases e' : j = m
            · subst e'; rw [setO_self] at e; cases e
            · rw [setO_ne e'] at e; exact e' (q.inj j m a e oa)
        · intro j b h
          by_cases e : j = k
          · subst e; rw [setO_self] at h; cases h; exact .inl ⟨m, oa⟩
          · rw [setO_ne e] at h
            by_cases e' : j = m
            · subst e'; rw [setO_self] at h; cases h
            · rw [setO_ne e'] at h; exact .inl ⟨j, h⟩
    · cases hev
end
end Mw

set_option maxRecDepth 10000
namespace Mw
open PySem


theorem RepL.erase {h : Heap} {W : Addr → Prop} {vs : Array Value} {ds : List PyData} {k : Nat} (rl : RepL h W vs.toList ds) (hk : k < vs.size) : RepL h W (vs.eraseIdxIfInBounds k).toList (ds.eraseIdx k) := by
  have e : (vs.eraseIdxIfInBounds k).toList = vs.toList.eraseIdx k := by simp [Array.eraseIdxIfInBounds, hk]
  rw [e]
  have hl := rl.1
  refine ⟨by simp [List.length_eraseIdx, hl], fun i v d hv hd => ?_⟩
  rw [List.getElem?_eraseIdx] at hv hd
  split at hv
  · rename_i hi; rw [if_pos hi] at hd; exact rl.2 i v d hv hd
  · rename_i hi; rw [if_neg hi] at hd; exact rl.2 (i + 1) v d hv hd

section
variable {B : Bs} {Φ : Fns2} {n : Nat} {A : Around} {env : Env} {names : List Str} {W₀ Ex : Addr → Prop} {O : Nat → Option Addr} {ρ ρ' : Rho} {s₀ s s' : Shared} {E : Value → Shared → Prop}

theorem snd_remove (hB : B.Ok) (hΦ : FnsOk B Φ.toFns n) {m : Nat} {e : X} : SndS B Φ n (.remove m e) := fun _ _ _ _ _ _ _ _ _ _ _ _ _ _ hev => by cases (show (none : Option Out) = some _ from hev)


structure SndA (B : Bs) (Φ : Fns2) (n : Nat) (st : S) : Prop where
  S : SndS B Φ n st
  K : SndK B Φ n st
theorem notK {st : S} (h : ∀ names sc xs, okB names sc st xs = false) : SndK B Φ n st := fun A env names W₀ Ex O ρ s₀ s xs o E hok => by rw [h] at hok; (cases hok)
theorem notS {st : S} (h : ∀ names sc x, okS1 names sc st x = false) : SndS B Φ n st := fun A env names W₀ Ex O ρ s₀ s x o E hok => by rw [h] at hok; (cases hok)

noncomputable def noT : S → Bool
  | .asgT _ _ _ => false
  | .clearT _ => false
  | .seq a r => noT a && noT r
  | .ife _ a b => noT a && noT b
  | .for _ _ b => noT b
  | .wh _ _ b => noT b
  | _ => true

theorem snd_stmt (hB : B.Ok) (hΦ : FnsOk B Φ.toFns n) (st : S) (hT : noT st = true) : SndA B Φ n st := by
  induction st with
  | done => exact ⟨notS fun _ _ _ => rfl, sndK_done⟩
  | seq a r iha ihr => replace hT := Bool.and_eq_true_iff.mp (show (noT a && noT r) = true from hT); exact ⟨notS fun _ _ _ => rfl, sndK_seq (iha hT.1).S (ihr hT.2).K⟩
  | asg m e => exact ⟨snd_asg hB hΦ, notK fun _ _ _ => rfl⟩
  | asgOwn m e => exact ⟨snd_asgOwn hB hΦ, notK fun _ _ _ => rfl⟩
  | move m k => exact ⟨snd_move, notK fun _ _ _ => rfl⟩
  | asgT m f l => cases hT
  | dic0 m t => exact ⟨fun _ _ _ _ _ _ _ _ _ _ _ _ _ _ hev => (by cases (show (none : Option Out) = some _ from hev)), notK fun _ _ _ => rfl⟩
  | dic1 m k v => exact ⟨fun _ _ _ _ _ _ _ _ _ _ _ _ _ _ hev => (by cases (show (none : Option Out) = some _ from hev)), notK fun _ _ _ => rfl⟩
  | setKey m k v => exact ⟨fun _ _ _ _ _ _ _ _ _ _ _ _ _ _ hev => (by cases (show (none : Option Out) = some _ from hev)), notK fun _ _ _ => rfl⟩
  | setAt m i e => exact ⟨snd_setAt hB hΦ, notK fun _ _ _ => rfl⟩
  | app m e => exact ⟨snd_app hB hΦ, notK fun _ _ _ => rfl⟩
  | clear m => exact ⟨snd_clear, notK fun _ _ _ => rfl⟩
  | clearT m => cases hT
  | remove m e => exact ⟨snd_remove hB hΦ, notK fun _ _ _ => rfl⟩
  | appPop k m e => exact ⟨fun _ _ _ _ _ _ _ _ _ _ _ _ _ _ hev => (by cases (show (none : Option Out) = some _ from hev)), notK fun _ _ _ => rfl⟩
  | exec f l => exact ⟨snd_exec hB hΦ, notK fun _ _ _ => rfl⟩
  | ife c a b iha ihb => replace hT := Bool.and_eq_true_iff.mp (show (noT a && noT b) = true from hT); exact ⟨snd_ife hB hΦ (iha hT.1).K (ihb hT.2).K, notK fun _ _ _ => rfl⟩
  | «for» t it body ih => exact ⟨snd_for hB hΦ (ih hT).K, notK fun _ _ _ => rfl⟩
  | wh k c body ih => exact ⟨snd_wh hB hΦ (ih hT).K, notK fun _ _ _ => rfl⟩
  | ret e => exact ⟨snd_ret hB hΦ, notK fun _ _ _ => rfl⟩
  | retOwn m => exact ⟨snd_retOwn, notK fun _ _ _ => rfl⟩
  | retT e m => exact ⟨snd_retT hB hΦ, notK fun _ _ _ => rfl⟩
  | raise => exact ⟨fun A env names W₀ Ex O ρ s₀ s x o E _ _ hev => by simp [Z40, Z41, Z42, Z43, Z44, Z45, Z46, Z47, Z48, Z49, Z50, Z51, Z52, Z53, Z54, Z55, Z56, Z57, Z58, Z59, Z60, Z61, Z62] at hev, notK fun _ _ _ => rfl⟩
end
end Mw

set_option maxRecDepth 10000
namespace Mw
open PySem PySem.Calls

theorem cells_some {x : Str} (names : List (Str × NameKind)) : ∀ (n : Nat) (acc : List (Str × Addr)), names.lookup x = some .cell ∨ (acc.lookup x).isSome = true → ((cellsFrom n names acc).lookup x).isSome = true := by
  induction names with
  | nil =>
    rintro n acc (h | h)
    · cases h
    · exact h
  | cons p r ih =>
    obtain ⟨y, k⟩ := p
    intro n acc h
    have key : (acc.lookup x).isSome = true ∨ r.lookup x = some .cell ∨ (x = y ∧ k = .cell) := by
      rcases h with h | h
      · rw [List.lookup_cons] at h
        by_cases e : x = y
        · subst e; rw [beq_self_eq_true] at h; cases h; exact .inr (.inr ⟨rfl, rfl⟩)
        · rw [beq_eq_false_iff_ne.mpr e] at h; exact .inr (.inl h)
      · exact .inl h
    unfold cellsFrom
    split
    · by_cases e : x = y
      · exact ih _ _ (.inr (by rw [List.lookup_cons, e, beq_self_eq_true]; rfl))
      · exact ih _ _ (key.elim (fun k => .inr (by rw [List.lookup_cons, beq_eq_false_iff_ne.mpr e]; exact k)) fun k => k.elim .inl fun k => (e k.1).elim)
    · rename_i hk
      exact ih _ _ (key.elim .inr fun q => q.elim .inl fun q => (hk (by rw [q.2]; rfl)).elim)

structure FnDef where
  names : List Str
  arity : Nat
  body : S
noncomputable def FnDef.start (fd : FnDef) (ds : List PyData) : Rho := ds.map (fun d => some (.val d)) ++ List.replicate (fd.names.length - fd.arity) none
noncomputable def FnDef.run (fd : FnDef) (Φ : Fns2) (ds : List PyData) : Option (Bool × PyData) :=
  if ds.length = fd.arity then match evS Φ fd.body (fd.start ds) with
    | some (.ret fr d) => some (fr, d)
    | some (.next _) => some (true, .none)
    | _ => none
  else none
noncomputable def okFn (fd : FnDef) (params : Arguments) (body : List Stmt) (scope : Scope) : Bool :=
  (params.args.map (·.arg) == fd.names.take fd.arity) && decide (fd.arity ≤ fd.names.length) && decide fd.names.Nodup && !(fd.names.contains (".0" : Str)) && (scope.kind == .function) && !scope.isGenerator && !scope.isCoroutine &&
  (fd.names.take fd.arity).all (fun x => scope.names.lookup x == some .local || scope.names.lookup x == some .cell) && noT fd.body && okB fd.names scope.names fd.body body

theorem bindL_out {k : Str → Option NameKind} : ∀ {l : List (Str × Value)} {m : Str → Option Value} {x : Str}, x ∉ l.map (·.1) → bindL k l m x = m x
  | [], _, _, _ => rfl
  | (y, u) :: r, m, x, h => by
    simp only [List.map_cons, List.mem_cons, not_or] at h
    unfold bindL
    rw [bindL_out h.2]
    split
    · show (if x = y then _ else _) = _
      rw [if_neg h.1]
    · rfl
theorem bindL_in {k : Str → Option NameKind} : ∀ {l : List (Str × Value)} {m : Str → Option Value} {x : Str} {v : Value}, (l.map (·.1)).Nodup → (x, v) ∈ l → k x = some .local → bindL k l m x = some v
  | [], _, _, _, _, h, _ => by cases h
  | (y, u) :: r, m, x, v, nd, h, hk => by
    simp only [List.map_cons, List.nodup_cons] at nd
    unfold bindL
    rcases List.mem_cons.mp h with e | h
    · cases e
      rw [if_pos hk, bindL_out nd.1]; simp
    · exact bindL_in nd.2 h hk
theorem bindC_out {k : Str → Option NameKind} : ∀ {l : List (Str × Value)} {m : Str → Option Value} {x : Str}, x ∉ l.map (·.1) → bindC k l m x = m x
  | [], _, _, _ => rfl
  | (y, u) :: r, m, x, h => by
    simp only [List.map_cons, List.mem_cons, not_or] at h
    unfold bindC
    rw [bindC_out h.2]
    split
    · rfl
    · show (if x = y then _ else _) = _
      rw [if_neg h.1]
theorem bindC_in {k : Str → Option NameKind} : ∀ {l : List (Str × Value)} {m : Str → Option Value} {x : Str} {v : Value}, (l.map (·.1)).Nodup → (x, v) ∈ l → k x = some .cell → bindC k l m x = some v
  | [], _, _, _, _, h, _ => by cases h
  | (y, u) :: r, m, x, v, nd, h, hk => by
    simp only [List.map_cons, List.nodup_cons] at nd
    unfold bindC
    rcases List.mem_cons.mp h with e | h
    · cases e
      rw [if_neg (by rw [hk]; simp), bindC_out nd.1]; simp
    · exact bindC_in nd.2 h hk

section
variable {B : Bs} {Φ : Fns2} {n : Nat}

theorem start_get {fd : FnDef} {ds : List PyData} {m : Nat} {e : Ent} (h : (fd.start ds)[m]? = some (some e)) : ∃ d, ds[m]? = some d ∧ e = .val d := by
  unfold FnDef.start at h
  rw [List.getElem?_append] at h
  split at h
  · rw [List.getElem?_map, Option.map_eq_some_iff] at h
    obtain ⟨d, hd, e'⟩ := h
    cases e'; exact ⟨d, hd, rfl⟩
  · rw [List.getElem?_replicate] at h
    split at h <;> cases h

theorem si_start {A : Around} {fd : FnDef} {F : FuncData} {fa : Addr} {s s₁ : Shared} {W : Addr → Prop} {vs : List Value} {ds : List PyData} {binds : List (Str × Value)}
    (hroom : Room (n + 1) A) (base : ∀ b o, B.H.get? b = some o → s.heap.get? b = some o) (wok : ∀ a, W a → ∃ o, s.heap.get? a = some o ∧ NoTup o) (rl : RepL s.heap W vs ds) (hlen : ds.length = fd.arity) (har : fd.arity ≤ fd.names.length)
    (hb : binds = (fd.names.take fd.arity).zip vs) (hnd : fd.names.Nodup) (hdot : (".0" : Str) ∉ fd.names) (hk : F.scope.kind = .function) (hg : F.globals = mainGlobals) (hbl : F.builtins = builtinsNs)
    (x : InCallC s (callEnvC F s.heap.objs.size fa).locals (bindL (callEnvC F s.heap.objs.size fa).kindOf binds fun _ => none) (callEnvC F s.heap.objs.size fa).cells (bindC (callEnvC F s.heap.objs.size fa).kindOf binds fun _ => none) s₁) :
    SI B n (A.deeper (callEnvC F s.heap.objs.size fa)) (callEnvC F s.heap.objs.size fa) fd.names W (fun _ => False) (fun _ => none) (fd.start ds) s s₁ := by
  generalize henv : callEnvC F s.heap.objs.size fa = env at x ⊢
  have hL : env.locals = s.heap.objs.size := by rw [← henv]; rfl
  have kp : Keeps s s₁ := by obtain ⟨h', tk, e, k⟩ := x.done; exact ⟨h', tk, e, k⟩
  have fresh : ∀ b, Priv env b → s.heap.get? b = none := by
    rintro b (rfl | ⟨y, hy⟩)
    · rw [hL]; exact none_of_size
    · have := x.above y b (mem_of_lookup hy)
      rw [hL] at this
      cases e : s.heap.get? b with
      | none => rfl
      | some o => exact (Nat.lt_asymm this (Heap.lt_size e)).elim
  have pobj : ∀ b, Priv env b → ∃ o, s₁.heap.get? b = some o ∧ NoTup o := by
    rintro b (rfl | ⟨y, hy⟩)
    · obtain ⟨o, es, ep, ho, hd, _⟩ := x.toInCall.ns
      exact ⟨o, ho, fun _ _ h => by rw [hd] at h; cases h⟩
    · obtain ⟨o, ho, hd⟩ := x.cell y b hy
      exact ⟨o, ho, fun _ _ h => by rw [hd] at h; cases h⟩
  have noO : ∀ {P : Prop} {a : Addr}, (none : Option Addr) = some a → P := fun h => by cases h
  have hns : (fd.names.take fd.arity).length = vs.length := by rw [List.length_take, rl.1, hlen]; omega
  refine { kp := kp, base₀ := base, own := fun m a h => noO h, inj := fun m m' a h => noO h, fresh := ?fresh, link := ?link, linkT := ?linkT, cx := ?cx }
  case fresh =>
    rintro a (h | h | ⟨m, h⟩)
    · exact fresh a h
    · exact h.elim
    · exact noO h
  case link => intro m ds' y h; obtain ⟨d, _, e⟩ := start_get h; cases e
  case linkT => intro m d ds' y h; obtain ⟨d, _, e⟩ := start_get h; cases e
  case cx =>
    refine { room := hroom.deeper, fn := by rw [← henv]; exact hk, gl := by rw [← henv]; exact hg, bl := by rw [← henv]; exact hbl, base := fun b o e => Keeps.heap kp b o (base b o e), le := fun a h => .inl h, priv := fun b h => .inr (.inl h), nd := hnd, dot := hdot, wok := ?_, frm := ?_, offH := ?_, env := ?_ }
    · rintro a (w | w | w | ⟨m, w⟩)
      · obtain ⟨o, e, nt⟩ := wok a w; exact ⟨o, Keeps.heap kp a o e, nt⟩
      · exact pobj a w
      · exact w.elim
      · exact noO w
    · refine ⟨⟨_, x.toInCall.ns⟩, fun y hy => ?_, fun y c hc => ⟨_, x.cell y c hc⟩, fun y c hc => ?_, fun y z c hy hz => name_of_addr x.apart (mem_of_lookup hy) (mem_of_lookup hz)⟩
      · have := cells_some (x := y) F.scope.names (s.heap.objs.size + 1) [] (.inl (by rw [← henv] at hy; exact hy))
        obtain ⟨c, hc⟩ := Option.isSome_iff_exists.mp this
        exact ⟨c, by rw [← henv]; exact hc⟩
      · have := x.above y c (mem_of_lookup hc)
        exact Nat.ne_of_gt this
    · intro b hb
      cases e : B.H.get? b with
      | none => rfl
      | some o => have := fresh b hb; rw [base b o e] at this; cases this
    · intro m e y h1 h2 h3
      obtain ⟨d, hd, rfl⟩ := start_get h1
      have hm : m < fd.arity := by have := (List.getElem?_eq_some_iff.mp hd).1; omega
      have hv : ∃ v, vs[m]? = some v := by
        have : m < vs.length := by rw [rl.1]; exact (List.getElem?_eq_some_iff.mp hd).1
        exact ⟨_, List.getElem?_eq_getElem this⟩
      obtain ⟨v, hv⟩ := hv
      have hmem : (y, v) ∈ binds := by
        rw [hb]
        refine List.mem_of_getElem? (i := m) ?_
        rw [List.getElem?_zip_eq_some]
        exact ⟨by rw [List.getElem?_take, if_pos hm]; exact h2, hv⟩
      have hnd' : (binds.map (·.1)).Nodup := by
        rw [hb, List.map_fst_zip (Nat.le_of_eq hns)]
        exact hnd.sublist (List.take_sublist _ _)
      refine ⟨v, ?_, ?_⟩
      · rcases h3 with h3 | h3
        · exact .inl ⟨h3, _, x.toInCall.ns, bindL_in hnd' hmem h3⟩
        · have := cells_some (x := y) F.scope.names (s.heap.objs.size + 1) [] (.inl (by rw [← henv] at h3; exact h3))
          obtain ⟨c, hc⟩ := Option.isSome_iff_exists.mp this
          have hc' : env.cells.lookup y = some c := by rw [← henv]; exact hc
          refine .inr ⟨h3, c, hc', ?_⟩
          have := x.cell y c hc'
          rwa [bindC_in hnd' hmem h3] at this
      · refine (rl.2 m v d hv hd).mono fun a o hw e => ⟨fun w => ?_, Keeps.heap kp a o e⟩
        rcases w with w | w | w | ⟨m, w⟩
        · exact hw w
        · exact not_none_of (fresh a w) e
        · exact w
        · exact noO w

theorem fn_ok (hB : B.Ok) (hΦ : FnsOk B Φ.toFns n) {f : Str} {fa : Addr} {o : Obj} {name : Str} {params : Arguments} {body : List Stmt} {scope : Scope} {pm code doc : Value} (hmg : B.mg f = some (.ref fa)) (ho : B.H.get? fa = some o) (hd : o.data = .func (docDef name params body scope pm code doc))
    (hcd : B.H.CodeRec code name) (fd : FnDef) (hok : okFn fd params body scope = true) (hbind : ∀ vs : List Value, vs.length = fd.arity → bindArgs (docDef name params body scope pm code doc) ⟨vs, []⟩ = pure ((fd.names.take fd.arity).zip vs)) :
    FnOk B f (fd.run Φ) (n + 1) := by
  refine ⟨fa, o, _, hmg, ho, hd, fun ds fr d hrun A s W vs hroom base wok rl => ?_⟩
  simp only [okFn, Bool.and_eq_true, decide_eq_true_eq, Bool.not_eq_true', beq_iff_eq, Bool.or_eq_true, List.all_eq_true] at hok
  obtain ⟨⟨⟨⟨⟨⟨⟨⟨⟨h1, h2⟩, h3⟩, h4⟩, h5⟩, h6⟩, h7⟩, h8⟩, h9⟩, h10⟩ := hok
  unfold FnDef.run at hrun
  split at hrun
  · rename_i hlen
    have hk : ∀ x ∈ (fd.names.take fd.arity).zip vs, (docDef name params body scope pm code doc).scope.names.lookup x.1 = some .local ∨ ((docDef name params body scope pm code doc).scope.names.lookup x.1 = some .cell ∧ ((cellsFrom (s.heap.objs.size + 1) (docDef name params body scope pm code doc).scope.names []).lookup x.1).isSome = true) := by
      intro x hx
      have hx1 : x.1 ∈ fd.names.take fd.arity := (List.of_mem_zip (a := x.1) (b := x.2) hx).1
      rcases h8 x.1 hx1 with h | h
      · exact .inl h
      · exact .inr ⟨h, cells_some _ _ _ (.inl h)⟩
    refine codeAny_call_cells (body := body) (by have := hroom.depth; unfold recursionLimit; omega) (base _ _ ho) hd (hB.nolimit.keeps base) (hcd.keeps base) rfl (hbind vs (by rw [rl.1, hlen])) rfl hk ?_ h7 h6 h5
    intro s₁ x
    have q := si_start (B := B) (fd := fd) hroom base wok rl hlen h2 rfl h3 (by simpa using h4) h5 rfl rfl x
    cases hev : evS Φ fd.body (fd.start ds) with
    | none => rw [hev] at hrun; cases hrun
    | some o =>
      rw [hev] at hrun
      refine wpAny_mono ((snd_stmt hB hΦ fd.body h9).K _ _ _ _ _ _ _ _ _ body o _ h10 q hev) (fun fl s' h => ?_) fun _ _ e => e
      cases o with
      | next ρ' =>
        cases hrun
        obtain ⟨rfl, O', q', _⟩ := h
        exact ⟨.none, rfl, q'.kp, .none, fun _ a e => by cases e⟩
      | ret fr' d' =>
        cases hrun
        obtain ⟨v, rfl, h⟩ := h
        exact ⟨v, rfl, h⟩
      | retT d' ds' => cases hrun
  · cases hrun
end
end Mw

set_option maxRecDepth 10000
namespace Mw
open PySem PySem.Calls

theorem zip_lookup : ∀ {xs : List Str} {vs : List Value} {x : Str}, vs.length = xs.length → x ∈ xs → ((xs.zip vs).lookup x).isSome = true
  | [], _, _, _, h => by cases h
  | y :: xs, [], _, h, _ => by simp at h
  | y :: xs, v :: vs, x, h, hx => by
    rw [List.zip_cons_cons, List.lookup_cons]
    cases e : x == y with
    | true => rfl
    | false =>
      rcases List.mem_cons.mp hx with rfl | hx
      · simp at e
      · exact zip_lookup (by simpa using h) hx
theorem zip_missing {xs : List Str} {vs : List Value} (h : vs.length = xs.length) (ys : List Str) (hy : ∀ y ∈ ys, y ∈ xs) : (ys.filter fun n => ((xs.zip vs).lookup n).isNone) = [] := by
  rw [List.filter_eq_nil_iff]
  intro y hy'
  have := zip_lookup h (hy y hy')
  simp [Option.isSome_iff_ne_none] at this
  simpa using this
theorem zip_binds : ∀ {xs : List Str} {vs : List Value}, xs.Nodup → vs.length = xs.length → (xs.filterMap fun n => ((xs.zip vs).lookup n).map (n, ·)) = xs.zip vs := by
  intro xs vs nd h
  have gen : ∀ (xs : List Str) (vs : List Value) (t : List (Str × Value)), xs.Nodup → vs.length = xs.length → (∀ x ∈ xs, ∀ p ∈ t, p.1 ≠ x) → (xs.filterMap fun n => ((t ++ xs.zip vs).lookup n).map (n, ·)) = xs.zip vs := by
    intro xs
    induction xs with
    | nil => intro vs t _ _ _; rfl
    | cons y ys ih =>
      intro vs t nd h ht
      cases vs with
      | nil => simp at h
      | cons v vs =>
        have hnone : (t.lookup y) = none := by
          rw [List.lookup_eq_none_iff]
          intro p hp
          have := ht y (by simp) p hp
          simp [beq_eq_false_iff_ne]
          exact fun e => this e.symm
        have hl : ((t ++ (y, v) :: ys.zip vs).lookup y) = some v := by
          rw [List.lookup_append, hnone]
          simp [List.lookup_cons]
        rw [List.zip_cons_cons, List.filterMap_cons, hl]
        simp only [Option.map_some]
        congr 1
        have := ih vs (t ++ [(y, v)]) (List.nodup_cons.mp nd).2 (by simpa using h) (by
          intro x hx p hp
          rcases List.mem_append.mp hp with hp | hp
          · exact ht x (List.mem_cons_of_mem _ hx) p hp
          · simp at hp; subst hp
            exact fun e => (List.nodup_cons.mp nd).1 ((show y = x from e) ▸ hx))
        simpa [List.append_assoc] using this
  simpa using gen xs vs [] nd h (by simp)

theorem bind_plain {fd : FuncData} {vs : List Value} (h1 : fd.params.posonlyargs = []) (h2 : fd.params.vararg = none) (h3 : fd.params.kwonlyargs = []) (h4 : fd.params.kwarg = none) (h5 : fd.defaults = .none) (nd : (fd.params.args.map (·.arg)).Nodup)
    (hl : vs.length = (fd.params.args.map (·.arg)).length) : bindArgs fd ⟨vs, []⟩ = pure ((fd.params.args.map (·.arg)).zip vs) := by
  have e1 : ¬ vs.length > (fd.params.args.map (·.arg)).length := by omega
  unfold bindArgs
  simp only [h1, h2, h3, h4, h5, List.map_nil, List.nil_append, List.forIn_nil, pure_bind, List.append_nil]
  have e2 : seqItems? Value.none = pure none := rfl
  rw [e2]
  simp only [pure_bind, Option.getD_none, List.drop_nil, Option.isNone_none, Bool.and_true, decide_eq_true_eq, e1, if_false, List.length_nil, Nat.sub_zero, List.take_length, List.zip_nil_right, List.forIn_nil]
  rw [zip_missing hl _ (fun y hy => by simpa using hy)]
  simp only [List.isEmpty_nil, Bool.not_true, Bool.false_eq_true, if_false, pure_bind, List.drop_length, List.zip_nil_left, List.forIn_nil]
  rw [zip_binds nd hl]
end Mw

set_option maxRecDepth 100000
namespace Mw
open PySem PySem.Calls PyProof.Rows

noncomputable abbrev Sp := List PyData → Option (Bool × PyData)
noncomputable def mkF (gl : Str → Option Int) (l : List (Str × Sp)) : Fns2 where
  fn := fun f ds => match l.lookup f with | some sp => sp ds | none => none
  gl := gl
  fnT := fun _ _ => none

noncomputable def plainPar (p : Arguments) : Bool := p.posonlyargs.isEmpty && p.vararg.isNone && p.kwonlyargs.isEmpty && p.kwarg.isNone
noncomputable def chkFn (p : Program) (f : Str) (fd : FnDef) : Bool := (recsOf p).any fun d => d.name == f && plainPar d.params && okFn fd d.params d.body d.scope
noncomputable def chkTop (p : Program) (loose : List Str) : Bool :=
  btab.all fun q => !startupNames.contains (Str.ofString q.1) && !loose.contains (Str.ofString q.1) && !((recsOf p).map (·.name)).contains (Str.ofString q.1) && !((litsOf p).map (·.1)).contains (Str.ofString q.1) && !((clssOf p loose).map (·.name)).contains (Str.ofString q.1)

section
variable {p : Program} {loose : List Str} {mean : ExcName → Option Value} {B : Bs} {n : Nat}

theorem boot_btab : ∀ q ∈ btab, bootBuiltins (Str.ofString q.1) = some q.2 ∧ Str.ofString q.1 ≠ "__name__" := by
  intro q hq
  simp only [btab, List.mem_cons, List.not_mem_nil, or_false] at hq
  rcases hq with rfl | rfl | rfl | rfl | rfl | rfl | rfl | rfl | rfl | rfl | rfl | rfl | rfl | rfl <;> exact ⟨rfl, by decide⟩

theorem bs_ok (T : Top p loose mean B.mg B.mb B.H) (h : chkTop p loose = true) : B.Ok := by
  refine ⟨T.g, T.b, T.nolimit, fun q hq => ?_⟩
  have hb := boot_btab q hq
  have := List.all_eq_true.mp h q hq
  simp only [Bool.and_eq_true, Bool.not_eq_true', List.contains_eq_mem, decide_eq_false_iff_not] at this
  obtain ⟨⟨⟨⟨h1, h2⟩, h3⟩, h4⟩, h5⟩ := this
  exact ⟨T.free _ h1 h2 h3 h4 h5, by rw [T.builtins _ hb.2]; exact hb.1⟩

theorem Room.less {n m : Nat} {A : Around} (r : Room m A) (h : n ≤ m) : Room n A := ⟨r.handled, by have := r.depth; omega, by have := r.units; omega⟩
theorem FnOk.more {f : Str} {sp : Sp} {n m : Nat} (h : FnOk B f sp n) (hnm : n ≤ m) : FnOk B f sp m := by
  obtain ⟨fa, o, fd, h1, h2, h3, h4⟩ := h
  exact ⟨fa, o, fd, h1, h2, h3, fun ds fr d e A s W vs hr => h4 ds fr d e A s W vs (hr.less hnm)⟩
theorem fns_nil {gl : Str → Option Int} (hgl : ∀ x i, gl x = some i → ∃ t, B.mg x = some (.int i t)) : FnsOk B (mkF gl []).toFns 0 :=
  ⟨fun f ⟨ds, r, h⟩ => by simp [mkF] at h, hgl⟩
theorem gl_const (T : Top p loose mean B.mg B.mb B.H) {x : Str} {i : Int} (h : valOf p x = some (.int i)) : ∃ t, B.mg x = some (.int i t) := by
  obtain ⟨v, hv, hr⟩ := T.const x _ h
  have := hr B.H
  cases this with
  | int i t => exact ⟨t, hv⟩

end
end Mw

set_option maxRecDepth 100000
namespace Mw
open PySem PyProof.Rows

theorem run_ret {fd : FnDef} {Φ : Fns2} {ds : List PyData} {fr : Bool} {d : PyData} (hl : ds.length = fd.arity) (h : evS Φ fd.body (fd.start ds) = some (.ret fr d)) : fd.run Φ ds = some (fr, d) := by
  unfold FnDef.run
  rw [if_pos hl, h]
theorem run_next {fd : FnDef} {Φ : Fns2} {ds : List PyData} {ρ : Rho} (hl : ds.length = fd.arity) (h : evS Φ fd.body (fd.start ds) = some (.next ρ)) : fd.run Φ ds = some (true, .none) := by
  unfold FnDef.run
  rw [if_pos hl, h]

noncomputable def addF (Φ : Fns2) (f : Str) (fd : FnDef) : Fns2 := { Φ with fn := fun g ds => if g = f then fd.run Φ ds else Φ.fn g ds }
theorem addF_eq {Φ : Fns2} {f : Str} {fd : FnDef} {ds : List PyData} : (addF Φ f fd).fn f ds = fd.run Φ ds := if_pos rfl
theorem addF_ne {Φ : Fns2} {f g : Str} {fd : FnDef} {ds : List PyData} (h : g ≠ f) : (addF Φ f fd).fn g ds = Φ.fn g ds := if_neg h
noncomputable def noF (gl : Str → Option Int) : Fns2 := mkF gl []

section
variable {p : Program} {loose : List Str} {mean : ExcName → Option Value} {B : Bs} {n : Nat}
theorem okF_add (T : Top p loose mean B.mg B.mb B.H) (hB : B.Ok) {Φ : Fns2} (hl : FnsOk B Φ.toFns n) (f : Str) (fd : FnDef) (hc : chkFn p f fd = true) : FnsOk B (addF Φ f fd).toFns (n + 1) := by
  refine ⟨fun g ⟨ds, r, h⟩ => ?_, hl.2⟩
  by_cases e : g = f
  · subst e
    have hsp : (addF Φ g fd).fn g = fd.run Φ := by funext ds; exact addF_eq
    show FnOk B g ((addF Φ g fd).fn g) (n + 1)
    rw [hsp]
    simp only [chkFn, List.any_eq_true, Bool.and_eq_true, beq_iff_eq] at hc
    obtain ⟨d, hd, ⟨rfl, hpp⟩, hok⟩ := hc
    obtain ⟨a, o, pm, code, doc, h1, h2, h3, h4⟩ := T.fn d hd
    simp only [plainPar, Bool.and_eq_true, List.isEmpty_iff, Option.isNone_iff_eq_none] at hpp
    obtain ⟨⟨⟨p1, p2⟩, p3⟩, p4⟩ := hpp
    have hargs : d.params.args.map (·.arg) = fd.names.take fd.arity ∧ fd.names.Nodup ∧ fd.arity ≤ fd.names.length := by
      simp only [okFn, Bool.and_eq_true, beq_iff_eq, decide_eq_true_eq] at hok
      obtain ⟨⟨⟨⟨⟨⟨⟨⟨⟨q1, q2⟩, q3⟩, q4⟩, q5⟩, q6⟩, q7⟩, q8⟩, q9⟩, q10⟩ := hok
      exact ⟨q1, q3, q2⟩
    refine fn_ok hB hl h1 h2 h3 h4 fd hok fun vs hlen => ?_
    have := bind_plain (fd := Calls.docDef d.name d.params d.body d.scope pm code doc) (vs := vs) p1 p2 p3 p4 rfl (by show (d.params.args.map (·.arg)).Nodup; rw [hargs.1]; exact hargs.2.1.sublist (List.take_sublist _ _)) (by
      show vs.length = (d.params.args.map (·.arg)).length
      rw [hargs.1, List.length_take, hlen]; omega)
    rw [this]
    show pure ((d.params.args.map (·.arg)).zip vs) = _
    rw [hargs.1]
  · have hsp : (addF Φ f fd).fn g = Φ.fn g := by funext ds; exact addF_ne e
    show FnOk B g ((addF Φ f fd).fn g) (n + 1)
    rw [hsp]
    exact (hl.1 g ⟨ds, r, by rw [← hsp]; exact h⟩).more (by omega)
end

end Mw
namespace Mw
open PySem PyProof.Rows
theorem canAll_ints : ∀ is : List Int, PyData.canLayAll0 (is.map .int) = true
  | [] => rfl
  | i :: r => by simp [PyData.canLayAll0, PyData.canLay0, canAll_ints r]
theorem depth_ints : ∀ is : List Int, PyData.depthAll (is.map .int) = 0
  | [] => rfl
  | i :: r => by simp [PyData.depthAll, PyData.depth, depth_ints r]
theorem canAll_pairs : ∀ ps : List (Int × Int), PyData.canLayAll0 (ps.map pairD) = true
  | [] => rfl
  | i :: r => by simp [PyData.canLayAll0, PyData.canLay0, pairD, canAll_pairs r]
theorem depth_pairs : ∀ ps : List (Int × Int), PyData.depthAll (ps.map pairD) ≤ 1
  | [] => by simp [PyData.depthAll]
  | i :: r => by
    have := depth_pairs r
    simp [PyData.depthAll, PyData.depth, pairD]; omega
theorem sh_int (i : Int) : SeqAt.shaped (.int i) = true := by simp [SeqAt.shaped, PyData.canLay0, PyData.depth]
theorem sh_bool (i : Bool) : SeqAt.shaped (.bool i) = true := by simp [SeqAt.shaped, PyData.canLay0, PyData.depth]
theorem sh_none : SeqAt.shaped .none = true := by simp [SeqAt.shaped, PyData.canLay0, PyData.depth]
theorem sh_pair (p : Int × Int) : SeqAt.shaped (pairD p) = true := by simp [SeqAt.shaped, PyData.canLay0, PyData.depth, pairD, PyData.canLayAll0, PyData.depthAll]
theorem sh_tup (a b : Int) : SeqAt.shaped (.tuple [.int a, .int b]) = true := sh_pair (a, b)
theorem sh_ints (is : List Int) : SeqAt.shaped (.list (is.map .int)) = true := by simp [SeqAt.shaped, PyData.canLay0, PyData.depth, canAll_ints, depth_ints]
theorem sh_pairs (ps : List (Int × Int)) : SeqAt.shaped (.list (ps.map pairD)) = true := by
  have := depth_pairs ps
  simp [SeqAt.shaped, PyData.canLay0, PyData.depth, canAll_pairs]; omega
theorem sh_web (n : Int) (ps : List (Int × Int)) : SeqAt.shaped (.tuple [.int n, .list (ps.map pairD)]) = true := by
  have := depth_pairs ps
  simp [SeqAt.shaped, PyData.canLay0, PyData.depth, PyData.canLayAll0, PyData.depthAll, canAll_pairs]; omega
theorem eqv_pair (p q : Int × Int) : PyData.eqv (pairD p) (pairD q) = decide (p = q) := by
  obtain ⟨a, b⟩ := p
  obtain ⟨c, d⟩ := q
  simp only [pairD, PyData.eqv, PyData.eqvAll, Bool.and_true]
  by_cases h1 : a = c <;> by_cases h2 : b = d <;> simp [h1, h2]
theorem eqvAll_ints : ∀ (is js : List Int), PyData.eqvAll (is.map .int) (js.map .int) = decide (is = js)
  | [], [] => rfl
  | [], _ :: _ => rfl
  | _ :: _, [] => rfl
  | i :: r, j :: t => by
    simp only [List.map_cons, PyData.eqvAll, PyData.eqv, eqvAll_ints r t]
    by_cases h1 : i = j <;> by_cases h2 : r = t <;> simp [h1, h2]
theorem eqvAll_pairs : ∀ (is js : List (Int × Int)), PyData.eqvAll (is.map pairD) (js.map pairD) = decide (is = js)
  | [], [] => rfl
  | [], _ :: _ => rfl
  | _ :: _, [] => rfl
  | i :: r, j :: t => by
    simp only [List.map_cons, PyData.eqvAll, eqvAll_pairs r t, eqv_pair]
    by_cases h1 : i = j <;> by_cases h2 : r = t <;> simp [h1, h2]
theorem any_pair (p : Int × Int) : ∀ ps : List (Int × Int), ((ps.map pairD).any fun y => PyData.eqv y (pairD p)) = decide (p ∈ ps)
  | [] => by simp
  | q :: r => by
    rw [List.map_cons, List.any_cons, any_pair p r, eqv_pair]
    by_cases h : q = p
    · subst h; simp
    · have h' : ¬ p = q := fun e => h e.symm
      simp [h, h']
theorem any_int (i : Int) : ∀ is : List Int, ((is.map PyData.int).any fun y => PyData.eqv y (.int i)) = decide (i ∈ is)
  | [] => by simp
  | j :: r => by
    rw [List.map_cons, List.any_cons, any_int i r]
    by_cases h : j = i
    · subst h; simp [PyData.eqv]
    · have h' : ¬ i = j := fun e => h e.symm
      simp [h, h', PyData.eqv]
theorem allB_true : ∀ l : List PyData, (∀ d ∈ l, d = .bool true) → allB l = some true
  | [], _ => rfl
  | d :: r, h => by
    have := h d (List.mem_cons_self ..)
    subst this
    simp [allB, allB_true r fun x hx => h x (List.mem_cons_of_mem _ hx)]
noncomputable def rangeI (n : Int) : List Int := (List.range n.toNat).map fun (i : Nat) => (i : Int)
theorem rangeL_eq (n : Int) : rangeL 0 n = (rangeI n).map .int := by
  simp [rangeL, rangeI, List.map_map]
theorem mem_rangeI {n i : Int} : i ∈ rangeI n ↔ 0 ≤ i ∧ i < n := by
  simp only [rangeI, List.mem_map, List.mem_range]
  constructor
  · rintro ⟨k, hk, rfl⟩; omega
  · intro h; exact ⟨i.toNat, by omega, by omega⟩
theorem fmod_pos {a b : Int} (hb : 0 < b) : a.fmod b = a % b := Int.fmod_eq_emod_of_nonneg a (Int.le_of_lt hb)
end Mw
namespace Mw
open PySem PyProof.Rows
noncomputable def forF (Φ : Fns2) (t : Tg) (body : S) (ρ : Rho) (d : PyData) : Option Out := match bindT t ρ d with
  | some ρ' => evS Φ body ρ'
  | none => none
section
variable {Φ : Fns2} {ρ ρ' : Rho} {rest : S} {m : Nat} {e : X} {c : Cl} {d : PyData}
theorem ev_ret (h : evE Φ.toFns e ρ = some (c, d)) : evS Φ (.seq (.ret e) rest) ρ = some (.ret (match c with | .fresh => true | _ => false) d) := by
  simp only [Z40, Z41, Z42, Z43, Z44, Z45, Z46, Z47, Z48, Z49, Z50, Z51, Z52, Z53, Z54, Z55, Z56, Z57, Z58, Z59, Z60, Z61, Z62, h]
  cases c <;> rfl
theorem ev_asg (h : evE Φ.toFns e ρ = some (c, d)) (hc : c.isClean = true) : evS Φ (.seq (.asg m e) rest) ρ = evS Φ rest (ρ.set m (some (.val d))) := by
  simp only [Z40, Z41, Z42, Z43, Z44, Z45, Z46, Z47, Z48, Z49, Z50, Z51, Z52, Z53, Z54, Z55, Z56, Z57, Z58, Z59, Z60, Z61, Z62, h, hc, if_true, upd]
theorem ev_asgOwn {ds : List PyData} (h : evE Φ.toFns e ρ = some (.fresh, .list ds)) : evS Φ (.seq (.asgOwn m e) rest) ρ = evS Φ rest (ρ.set m (some (.own ds))) := by
  simp only [Z40, Z41, Z42, Z43, Z44, Z45, Z46, Z47, Z48, Z49, Z50, Z51, Z52, Z53, Z54, Z55, Z56, Z57, Z58, Z59, Z60, Z61, Z62, h, upd]
theorem ev_for {t : Tg} {it : X} {body : S} {np : Bool} {items : List PyData} (hi : evI Φ.toFns it ρ = some (np, items)) (hp : (np && !pureS body) = false) (hg : forGo (forF Φ t body) items ρ = some (.next ρ')) :
    evS Φ (.seq (.for t it body) rest) ρ = evS Φ rest ρ' := by
  simp only [Z40, Z41, Z42, Z43, Z44, Z45, Z46, Z47, Z48, Z49, Z50, Z51, Z52, Z53, Z54, Z55, Z56, Z57, Z58, Z59, Z60, Z61, Z62, hi, hp, Bool.false_eq_true, if_false]
  change (match forGo (forF Φ t body) items ρ with | some (.next ρ') => evS Φ rest ρ' | o => o) = _
  rw [hg]
theorem ev_forRet {t : Tg} {it : X} {body : S} {np : Bool} {items : List PyData} {fr : Bool} (hi : evI Φ.toFns it ρ = some (np, items)) (hp : (np && !pureS body) = false) (hg : forGo (forF Φ t body) items ρ = some (.ret fr d)) :
    evS Φ (.seq (.for t it body) rest) ρ = some (.ret fr d) := by
  simp only [Z40, Z41, Z42, Z43, Z44, Z45, Z46, Z47, Z48, Z49, Z50, Z51, Z52, Z53, Z54, Z55, Z56, Z57, Z58, Z59, Z60, Z61, Z62, hi, hp, Bool.false_eq_true, if_false]
  change (match forGo (forF Φ t body) items ρ with | some (.next ρ') => evS Φ rest ρ' | o => o) = _
  rw [hg]
theorem ev_ifF {x : X} {a b : S} (h : asBool (evE Φ.toFns x ρ) = some false) (ha : evS Φ b ρ = some (.next ρ')) : evS Φ (.seq (.ife x a b) rest) ρ = evS Φ rest ρ' := by
  simp only [Z40, Z41, Z42, Z43, Z44, Z45, Z46, Z47, Z48, Z49, Z50, Z51, Z52, Z53, Z54, Z55, Z56, Z57, Z58, Z59, Z60, Z61, Z62, h, ha]
theorem ev_exec {f : Str} {l : X} {r : R1} (h : evE Φ.toFns (.call f l) ρ = some r) : evS Φ (.seq (.exec f l) rest) ρ = evS Φ rest ρ := by
  simp only [Z40, Z41, Z42, Z43, Z44, Z45, Z46, Z47, Z48, Z49, Z50, Z51, Z52, Z53, Z54, Z55, Z56, Z57, Z58, Z59, Z60, Z61, Z62, h]
theorem ev_app {ds : List PyData} (ho : ownAt ρ m = some ds) (h : evE Φ.toFns e ρ = some (c, d)) (hc : c.isClean = true) (hl : ds.length < maxLen) : evS Φ (.seq (.app m e) rest) ρ = evS Φ rest (ρ.set m (some (.own (ds ++ [d])))) := by
  simp [Z40, Z41, Z42, Z43, Z44, Z45, Z46, Z47, Z48, Z49, Z50, Z51, Z52, Z53, Z54, Z55, Z56, Z57, Z58, Z59, Z60, Z61, Z62, ho, h, hc, hl, upd]
theorem ev_comp0 {t : Tg} {elt it : X} {np : Bool} {items out : List PyData} {Φ : Fns} (hi : evI Φ it ρ = some (np, items)) (hg : compGo (compF Φ t elt none ρ) items = some out) : evE Φ (.comp0 t elt it) ρ = some (.fresh, .list out) := by
  simp only [Z1, Z2, Z3, Z4, Z5, Z6, Z7, Z8, Z9, Z10, Z11, Z12, Z13, Z14, Z15, Z16, Z17, Z18, Z19, Z20, Z21, Z22, Z23, Z24, Z25, Z26, Z27, Z28, Z29, Z30, Z31, hi]
  change (match compGo (compF Φ t elt none ρ) items with | some out => some (Cl.fresh, PyData.list out) | none => none) = _
  rw [hg]
theorem ev_comp1 {t : Tg} {elt it c : X} {np : Bool} {items out : List PyData} {Φ : Fns} (hi : evI Φ it ρ = some (np, items)) (hg : compGo (compF Φ t elt (some c) ρ) items = some out) : evE Φ (.comp1 t elt it c) ρ = some (.fresh, .list out) := by
  simp only [Z1, Z2, Z3, Z4, Z5, Z6, Z7, Z8, Z9, Z10, Z11, Z12, Z13, Z14, Z15, Z16, Z17, Z18, Z19, Z20, Z21, Z22, Z23, Z24, Z25, Z26, Z27, Z28, Z29, Z30, Z31, hi]
  change (match compGo (compF Φ t elt (some c) ρ) items with | some out => some (Cl.fresh, PyData.list out) | none => none) = _
  rw [hg]
end
end Mw
namespace Mw
open PySem PyProof.Rows
noncomputable def Wp (Φ : Fns2) (st : S) (ρ : Rho) (Q : Out → Prop) : Prop := ∃ o, evS Φ st ρ = some o ∧ Q o
noncomputable def goOn (Φ : Fns2) (rest : S) (Q : Out → Prop) : Out → Prop
  | .next ρ' => Wp Φ rest ρ' Q
  | o => Q o
section
variable {Φ : Fns2} {ρ ρ' : Rho} {rest : S} {m k : Nat} {e : X} {c : Cl} {d : PyData} {Q : Out → Prop}
theorem wp_done (h : Q (.next ρ)) : Wp Φ .done ρ Q := ⟨_, rfl, h⟩
theorem wp_ret (h : evE Φ.toFns e ρ = some (c, d)) (hq : Q (.ret (match c with | .fresh => true | _ => false) d)) : Wp Φ (.seq (.ret e) rest) ρ Q := ⟨_, ev_ret h, hq⟩
theorem wp_retOwn {ds : List PyData} (h : ownAt ρ m = some ds) (hq : Q (.ret true (.list ds))) : Wp Φ (.seq (.retOwn m) rest) ρ Q := ⟨.ret true (.list ds), by simp only [Z40, Z41, Z42, Z43, Z44, Z45, Z46, Z47, Z48, Z49, Z50, Z51, Z52, Z53, Z54, Z55, Z56, Z57, Z58, Z59, Z60, Z61, Z62, h], hq⟩
theorem wp_asg (h : evE Φ.toFns e ρ = some (c, d)) (hc : c.isClean = true) (hk : Wp Φ rest (ρ.set m (some (.val d))) Q) : Wp Φ (.seq (.asg m e) rest) ρ Q := by
  obtain ⟨o, ho, hq⟩ := hk; exact ⟨o, (ev_asg h hc).trans ho, hq⟩
theorem wp_asgOwn {ds : List PyData} (h : evE Φ.toFns e ρ = some (.fresh, .list ds)) (hk : Wp Φ rest (ρ.set m (some (.own ds))) Q) : Wp Φ (.seq (.asgOwn m e) rest) ρ Q := by
  obtain ⟨o, ho, hq⟩ := hk; exact ⟨o, (ev_asgOwn h).trans ho, hq⟩
theorem wp_exec {f : Str} {l : X} {r : R1} (h : evE Φ.toFns (.call f l) ρ = some r) (hk : Wp Φ rest ρ Q) : Wp Φ (.seq (.exec f l) rest) ρ Q := by
  obtain ⟨o, ho, hq⟩ := hk; exact ⟨o, (ev_exec h).trans ho, hq⟩
theorem wp_app {ds : List PyData} (ho : ownAt ρ m = some ds) (h : evE Φ.toFns e ρ = some (c, d)) (hc : c.isClean = true) (hl : ds.length < maxLen) (hk : Wp Φ rest (ρ.set m (some (.own (ds ++ [d])))) Q) : Wp Φ (.seq (.app m e) rest) ρ Q := by
  obtain ⟨o, ho', hq⟩ := hk; exact ⟨o, (ev_app ho h hc hl).trans ho', hq⟩
theorem wp_setAt {ds : List PyData} {i : X} {c' : Cl} {j : Int} (ho : ownAt ρ m = some ds) (hi : evE Φ.toFns i ρ = some (c', .int j)) (h : evE Φ.toFns e ρ = some (c, d)) (hc : c.isClean = true) (h0 : 0 ≤ j) (h1 : j < ds.length) (hl : ds.length ≤ maxLen)
    (hk : Wp Φ rest (ρ.set m (some (.own (ds.set j.toNat d)))) Q) : Wp Φ (.seq (.setAt m i e) rest) ρ Q := by
  obtain ⟨o, ho', hq⟩ := hk; exact ⟨o, by simp [Z40, Z41, Z42, Z43, Z44, Z45, Z46, Z47, Z48, Z49, Z50, Z51, Z52, Z53, Z54, Z55, Z56, Z57, Z58, Z59, Z60, Z61, Z62, ho, hi, h, hc, h0, h1, hl, upd]; exact ho', hq⟩
theorem wp_move {ds : List PyData} (ho : ownAt ρ k = some ds) (hne : m ≠ k) (hk : Wp Φ rest ((ρ.set k none).set m (some (.own ds))) Q) : Wp Φ (.seq (.move m k) rest) ρ Q := by
  obtain ⟨o, ho', hq⟩ := hk; exact ⟨o, by simp only [Z40, Z41, Z42, Z43, Z44, Z45, Z46, Z47, Z48, Z49, Z50, Z51, Z52, Z53, Z54, Z55, Z56, Z57, Z58, Z59, Z60, Z61, Z62, ho, hne, if_false]; exact ho', hq⟩
theorem wp_ife {x : X} {a b : S} {v : Bool} (h : asBool (evE Φ.toFns x ρ) = some v) (ht : v = true → Wp Φ a ρ (goOn Φ rest Q)) (hf : v = false → Wp Φ b ρ (goOn Φ rest Q)) : Wp Φ (.seq (.ife x a b) rest) ρ Q := by
  have key : ∀ {st : S}, Wp Φ st ρ (goOn Φ rest Q) → evS Φ (.ife x a b) ρ = evS Φ st ρ → Wp Φ (.seq (.ife x a b) rest) ρ Q := by
    intro st ⟨o, ho, hq⟩ he
    cases o with
    | next ρ' =>
      obtain ⟨o', ho', hq'⟩ := hq
      exact ⟨o', by simp only [Z40, Z41, Z42, Z43, Z44, Z45, Z46, Z47, Z48, Z49, Z50, Z51, Z52, Z53, Z54, Z55, Z56, Z57, Z58, Z59, Z60, Z61, Z62] at he ⊢; rw [he, ho]; exact ho', hq'⟩
    | ret fr d => exact ⟨.ret fr d, by simp only [Z40, Z41, Z42, Z43, Z44, Z45, Z46, Z47, Z48, Z49, Z50, Z51, Z52, Z53, Z54, Z55, Z56, Z57, Z58, Z59, Z60, Z61, Z62] at he ⊢; rw [he, ho], hq⟩
    | retT d ds => exact ⟨.retT d ds, by simp only [Z40, Z41, Z42, Z43, Z44, Z45, Z46, Z47, Z48, Z49, Z50, Z51, Z52, Z53, Z54, Z55, Z56, Z57, Z58, Z59, Z60, Z61, Z62] at he ⊢; rw [he, ho], hq⟩
  cases v with
  | true => exact key (ht rfl) (by simp only [Z40, Z41, Z42, Z43, Z44, Z45, Z46, Z47, Z48, Z49, Z50, Z51, Z52, Z53, Z54, Z55, Z56, Z57, Z58, Z59, Z60, Z61, Z62, h])
  | false => exact key (hf rfl) (by simp only [Z40, Z41, Z42, Z43, Z44, Z45, Z46, Z47, Z48, Z49, Z50, Z51, Z52, Z53, Z54, Z55, Z56, Z57, Z58, Z59, Z60, Z61, Z62, h])
theorem forGo_cases {f : Rho → PyData → Option Out} (I : Nat → Rho → Prop) (R : Out → Prop) : ∀ (items : List PyData) (i : Nat) (ρ : Rho), I i ρ → (∀ (j : Nat) (d : PyData) (ρ : Rho), items[j]? = some d → I (i + j) ρ → ∃ o, f ρ d = some o ∧ match o with | .next ρ' => I (i + j + 1) ρ' | o => R o) →
    ∃ o, forGo f items ρ = some o ∧ match o with | .next ρ' => I (i + items.length) ρ' | o => R o
  | [], i, ρ, h, _ => ⟨.next ρ, rfl, h⟩
  | d :: r, i, ρ, h, hs => by
    obtain ⟨o, e, h₁⟩ := hs 0 d ρ rfl h
    cases o with
    | next ρ₁ =>
      obtain ⟨o₂, e₂, h₂⟩ := forGo_cases I R r (i + 1) ρ₁ h₁ (fun j d ρ hj hI => by
        have := hs (j + 1) d ρ (by simpa using hj) (by rw [show i + (j + 1) = i + 1 + j by omega]; exact hI)
        rw [show i + (j + 1) + 1 = i + 1 + j + 1 by omega] at this
        exact this)
      refine ⟨o₂, by simp only [forGo, e]; exact e₂, ?_⟩
      rw [List.length_cons, show i + (r.length + 1) = i + 1 + r.length by omega]
      exact h₂
    | ret fr d => exact ⟨.ret fr d, by simp only [forGo, e], h₁⟩
    | retT d ds => exact ⟨.retT d ds, by simp only [forGo, e], h₁⟩
theorem wp_for {t : Tg} {it : X} {body : S} {np : Bool} {items : List PyData} (I : Nat → Rho → Prop) (hi : evI Φ.toFns it ρ = some (np, items)) (hp : (np && !pureS body) = false) (h0 : I 0 ρ)
    (hs : ∀ (j : Nat) (d : PyData) (ρ : Rho), items[j]? = some d → I j ρ → ∃ ρ', bindT t ρ d = some ρ' ∧ Wp Φ body ρ' (fun o => match o with | .next ρ'' => I (j + 1) ρ'' | o => Q o)) (hk : ∀ ρ', I items.length ρ' → Wp Φ rest ρ' Q) :
    Wp Φ (.seq (.for t it body) rest) ρ Q := by
  obtain ⟨o, ho, hq⟩ := forGo_cases (f := forF Φ t body) I Q items 0 ρ h0 (fun j d ρ hj hI => by
    rw [Nat.zero_add] at hI ⊢
    obtain ⟨ρ', hb, o, ho, hq⟩ := hs j d ρ hj hI
    exact ⟨o, by unfold forF; rw [hb]; exact ho, hq⟩)
  rw [Nat.zero_add] at hq
  cases o with
  | next ρ' =>
    obtain ⟨o', ho', hq'⟩ := hk ρ' hq
    exact ⟨o', (ev_for hi hp ho).trans ho', hq'⟩
  | ret fr d => exact ⟨.ret fr d, ev_forRet hi hp ho, hq⟩
  | retT d ds =>
    refine ⟨.retT d ds, ?_, hq⟩
    simp only [Z40, Z41, Z42, Z43, Z44, Z45, Z46, Z47, Z48, Z49, Z50, Z51, Z52, Z53, Z54, Z55, Z56, Z57, Z58, Z59, Z60, Z61, Z62, hi, hp, Bool.false_eq_true, if_false]
    change (match forGo (forF Φ t body) items ρ with | some (.next ρ') => evS Φ rest ρ' | o => o) = _
    rw [ho]
theorem run_wp {fd : FnDef} {ds : List PyData} {R : Bool → PyData → Prop} (hl : ds.length = fd.arity) (h : Wp Φ fd.body (fd.start ds) (fun o => match o with | .ret fr d => R fr d | .next _ => R true .none | .retT _ _ => False)) : ∃ fr d, fd.run Φ ds = some (fr, d) ∧ R fr d := by
  obtain ⟨o, ho, hq⟩ := h
  cases o with
  | next ρ' => exact ⟨true, .none, run_next hl ho, hq⟩
  | ret fr d => exact ⟨fr, d, run_ret hl ho, hq⟩
  | retT d ds => exact hq.elim
theorem Wp.mono {st : S} {Q' : Out → Prop} (h : Wp Φ st ρ Q) (hq : ∀ o, Q o → Q' o) : Wp Φ st ρ Q' := let ⟨o, ho, q⟩ := h; ⟨o, ho, hq o q⟩
end
end Mw
namespace Mw
open PySem PyProof.Rows
section
variable {Φ : Fns} {ρ : Rho} {a b i l : X} {x y : R1} {v k : Bool} {c c' : Cl} {d d' : PyData}
theorem ev_cmp {op : CmpOp} (ha : evE Φ a ρ = some x) (hb : evE Φ b ρ = some y) (h : cmpSem op x.2 y.2 = some v) : evE Φ (.cmp op a b) ρ = some (.fresh, .bool v) := by
  simp only [Z1, Z2, Z3, Z4, Z5, Z6, Z7, Z8, Z9, Z10, Z11, Z12, Z13, Z14, Z15, Z16, Z17, Z18, Z19, Z20, Z21, Z22, Z23, Z24, Z25, Z26, Z27, Z28, Z29, Z30, Z31, ha, hb, h, Option.map_some]
theorem ev_not (h : asBool (evE Φ a ρ) = some v) : evE Φ (.not a) ρ = some (.fresh, .bool !v) := by simp only [Z1, Z2, Z3, Z4, Z5, Z6, Z7, Z8, Z9, Z10, Z11, Z12, Z13, Z14, Z15, Z16, Z17, Z18, Z19, Z20, Z21, Z22, Z23, Z24, Z25, Z26, Z27, Z28, Z29, Z30, Z31, h, Option.map_some]
theorem ev_or (h : evB Φ false l ρ = some v) : evE Φ (.or l) ρ = some (.fresh, .bool v) := by simp only [Z1, Z2, Z3, Z4, Z5, Z6, Z7, Z8, Z9, Z10, Z11, Z12, Z13, Z14, Z15, Z16, Z17, Z18, Z19, Z20, Z21, Z22, Z23, Z24, Z25, Z26, Z27, Z28, Z29, Z30, Z31, h, Option.map_some]
theorem ev_and (h : evB Φ true l ρ = some v) : evE Φ (.and l) ρ = some (.fresh, .bool v) := by simp only [Z1, Z2, Z3, Z4, Z5, Z6, Z7, Z8, Z9, Z10, Z11, Z12, Z13, Z14, Z15, Z16, Z17, Z18, Z19, Z20, Z21, Z22, Z23, Z24, Z25, Z26, Z27, Z28, Z29, Z30, Z31, h, Option.map_some]
theorem evB_skip (h : asBool (evE Φ a ρ) = some k) : evB Φ k (.cons a l) ρ = evB Φ k l ρ := by simp only [Z32, Z33, h, if_true]
theorem evB_stop (h : asBool (evE Φ a ρ) = some v) (hv : v ≠ k) : evB Φ k (.cons a l) ρ = some v := by simp only [Z32, Z33, h, hv, if_false]
theorem as_bool (h : evE Φ a ρ = some (c, .bool v)) : asBool (evE Φ a ρ) = some v := by rw [h]; rfl
theorem ev_un {f : Fn1} (h : evE Φ a ρ = some x) (hu : unSem f x = some y) : evE Φ (.un f a) ρ = some y := by simp only [Z1, Z2, Z3, Z4, Z5, Z6, Z7, Z8, Z9, Z10, Z11, Z12, Z13, Z14, Z15, Z16, Z17, Z18, Z19, Z20, Z21, Z22, Z23, Z24, Z25, Z26, Z27, Z28, Z29, Z30, Z31, h, hu]
theorem ev_bin {op : Operator} {z : R1} (ha : evE Φ a ρ = some x) (hb : evE Φ b ρ = some y) (h : binSem op x y = some z) : evE Φ (.bin op a b) ρ = some z := by simp only [Z1, Z2, Z3, Z4, Z5, Z6, Z7, Z8, Z9, Z10, Z11, Z12, Z13, Z14, Z15, Z16, Z17, Z18, Z19, Z20, Z21, Z22, Z23, Z24, Z25, Z26, Z27, Z28, Z29, Z30, Z31, ha, hb, h]
theorem ev_idx {z : R1} (ha : evE Φ a ρ = some x) (hi : evE Φ i ρ = some y) (h : idxSem x y.2 = some z) : evE Φ (.idx a i) ρ = some z := by simp only [Z1, Z2, Z3, Z4, Z5, Z6, Z7, Z8, Z9, Z10, Z11, Z12, Z13, Z14, Z15, Z16, Z17, Z18, Z19, Z20, Z21, Z22, Z23, Z24, Z25, Z26, Z27, Z28, Z29, Z30, Z31, ha, hi, h]
theorem ev_call {f : Str} {xs : List R1} {z : R1} (hl : evL Φ l ρ = some xs) (h : callSem Φ f xs = some z) : evE Φ (.call f l) ρ = some z := by simp only [Z1, Z2, Z3, Z4, Z5, Z6, Z7, Z8, Z9, Z10, Z11, Z12, Z13, Z14, Z15, Z16, Z17, Z18, Z19, Z20, Z21, Z22, Z23, Z24, Z25, Z26, Z27, Z28, Z29, Z30, Z31, hl, h]
theorem evL_nil : evL Φ .nil ρ = some [] := rfl
theorem evL_cons {xs : List R1} (ha : evE Φ a ρ = some x) (hl : evL Φ l ρ = some xs) : evL Φ (.cons a l) ρ = some (x :: xs) := by simp only [Z34, Z35, ha, hl]
theorem ev_var {m : Nat} {e : Ent} (h : ρ[m]? = some (some e)) (hv : varSem e = some x) : evE Φ (.var m) ρ = some x := by simp only [Z1, Z2, Z3, Z4, Z5, Z6, Z7, Z8, Z9, Z10, Z11, Z12, Z13, Z14, Z15, Z16, Z17, Z18, Z19, Z20, Z21, Z22, Z23, Z24, Z25, Z26, Z27, Z28, Z29, Z30, Z31, h, hv]
theorem dic_ints (is : List Int) : isDic (is.map .int) = false := by cases is <;> rfl
theorem dic_pairs (ps : List (Int × Int)) : isDic (ps.map pairD) = false := by cases ps <;> rfl
end
end Mw
namespace Mw
open PySem PyProof.Rows
section
variable {Φ : Fns} {ρ : Rho} {a : X}
theorem not_t (h : asBool (evE Φ a ρ) = some true) : asBool (evE Φ (.not a) ρ) = some false := as_bool (ev_not h)
end
end Mw
namespace Mw
open PySem
theorem dic_nil : isDic [] = false := rfl
theorem dic_int (i : Int) (r : List PyData) : isDic (.int i :: r) = false := rfl
theorem dic_bool (i : Bool) (r : List PyData) : isDic (.bool i :: r) = false := rfl
theorem dic_none (r : List PyData) : isDic (.none :: r) = false := rfl
theorem dic_list (x r : List PyData) : isDic (.list x :: r) = false := rfl
theorem dic_tup (x r : List PyData) : isDic (.tuple x :: r) = false := rfl
theorem dic_pair (p : Int × Int) (r : List PyData) : isDic (pairD p :: r) = false := rfl
theorem dic_dict (k : List (PyData × PyData)) (r : List PyData) : isDic (.dict k :: r) = true := rfl
theorem dic_lists : ∀ (cs : List (List Int)), isDic (cs.map fun c => .list (c.map .int)) = false
  | [] => rfl
  | _ :: _ => rfl
end Mw

set_option maxRecDepth 100000
namespace Mw.L12
open PySem Mw
noncomputable def f_is_whole : FnDef where
  names := ["thing"]
  arity := 1
  body := (.seq (.ret (.and (.cons (.isinst .int (.var 0)) (.cons (.not (.isinst .bool (.var 0))) .nil))))
      .done)

noncomputable def f_is_stretch : FnDef where
  names := ["thing"]
  arity := 1
  body := (.seq (.ife (.or (.cons (.not (.isinst .tuple (.var 0))) (.cons (.cmp .NotEq (.un .len (.var 0)) (.const (.int 2))) .nil))) (.seq (.ret (.const (.bool false)))
      .done) .done)
      (.seq (.ret (.and (.cons (.call "is_whole" (.cons (.idx (.var 0) (.const (.int 0))) .nil)) (.cons (.call "is_whole" (.cons (.idx (.var 0) (.const (.int 1))) .nil)) (.cons (.cmp .LtE (.idx (.var 0) (.const (.int 0))) (.idx (.var 0) (.const (.int 1)))) .nil)))))
      .done))

noncomputable def f_need_row : FnDef where
  names := ["row", "one"]
  arity := 1
  body := (.seq (.ife (.or (.cons (.not (.isinst .list (.var 0))) (.cons (.not (.cmp2 .LtE .LtE (.const (.int 1)) (.un .len (.var 0)) (.glob "MOST_STRETCHES"))) .nil))) (.seq .raise
      .done) .done)
      (.seq (.ife (.not (.un .all (.comp0 (.one 1) (.call "is_stretch" (.cons (.var 1) .nil)) (.seq (.var 0))))) (.seq .raise
      .done) .done)
      .done))

noncomputable def f_meet : FnDef where
  names := ["one", "other"]
  arity := 2
  body := (.seq (.ret (.and (.cons (.cmp .LtE (.idx (.var 0) (.const (.int 0))) (.idx (.var 1) (.const (.int 1)))) (.cons (.cmp .LtE (.idx (.var 1) (.const (.int 0))) (.idx (.var 0) (.const (.int 1)))) .nil))))
      .done)

noncomputable def f_colours : FnDef where
  names := ["row", "found", "first", "point", "known", "one", "other", "colour"]
  arity := 1
  body := (.seq (.exec "need_row" (.cons (.var 0) .nil))
      (.seq (.asgOwn 1 (.comp0 (.one 5) (.const .none) (.seq (.var 0))))
      (.seq (.for (.two 2 3) (.seq (.un .sorted (.comp0 (.one 3) (.tup (.cons (.idx (.idx (.var 0) (.var 3)) (.const (.int 0))) (.cons (.var 3) .nil))) (.range1 (.un .len (.var 0)))))) (.seq (.asg 4 (.comp1 (.one 6) (.idx (.var 1) (.var 6)) (.range1 (.un .len (.var 0))) (.and (.cons (.cmp .IsNot (.idx (.var 1) (.var 6)) (.const .none)) (.cons (.call "meet" (.cons (.idx (.var 0) (.var 6)) (.cons (.idx (.var 0) (.var 3)) .nil))) .nil)))))
      (.seq (.setAt 1 (.var 3) (.idx (.comp1 (.one 7) (.var 7) (.range1 (.un .len (.var 0))) (.cmp .NotIn (.var 7) (.var 4))) (.const (.int 0))))
      .done)))
      (.seq (.retOwn 1)
      .done))))

noncomputable def f_crowded : FnDef where
  names := ["row", "best", "low", "high", "some", "point"]
  arity := 1
  body := (.seq (.exec "need_row" (.cons (.var 0) .nil))
      (.seq (.asgOwn 1 (.lst .nil))
      (.seq (.for (.two 2 3) (.seq (.var 0)) (.seq (.asgOwn 4 (.comp1 (.one 5) (.var 5) (.range1 (.un .len (.var 0))) (.cmp2 .LtE .LtE (.idx (.idx (.var 0) (.var 5)) (.const (.int 0))) (.var 2) (.idx (.idx (.var 0) (.var 5)) (.const (.int 1))))))
      (.seq (.ife (.cmp .Gt (.un .len (.var 4)) (.un .len (.var 1))) (.seq (.move 1 4)
      .done) .done)
      .done)))
      (.seq (.retOwn 1)
      .done))))

noncomputable def f_law_cell : FnDef where
  names := ["_law_script", "_law_k"]
  arity := 2
  body := (.seq (.ife (.cmp .Lt (.var 1) (.un .len (.var 0))) (.seq (.ret (.idx (.var 0) (.var 1)))
      .done) .done)
      (.seq (.ret (.const (.int 0)))
      .done))

noncomputable def f_law_mixed : FnDef where
  names := ["_law_script", "_law_k"]
  arity := 2
  body := (.seq (.ret (.bin .Mod (.bin .Add (.bin .Add (.bin .Mult (.call "_law_cell" (.cons (.var 0) (.cons (.var 1) .nil))) (.const (.int 48271))) (.bin .Mult (.const (.int 7919)) (.var 1))) (.const (.int 4242))) (.const (.int 2147483647))))
      .done)

noncomputable def f_law_whole : FnDef where
  names := ["_law_found"]
  arity := 1
  body := (.seq (.ret (.and (.cons (.isinst .int (.var 0)) (.cons (.not (.isinst .bool (.var 0))) .nil))))
      .done)

noncomputable def f_law_pairs : FnDef where
  names := ["_law_many", "_law_found", "_law_one", "_law_other"]
  arity := 1
  body := (.seq (.asg 1 (.lst .nil))
      (.seq (.for (.one 2) (.range1 (.var 0)) (.seq (.asg 1 (.bin .Add (.var 1) (.comp0 (.one 3) (.tup (.cons (.var 2) (.cons (.var 3) .nil))) (.range2 (.bin .Add (.var 2) (.const (.int 1))) (.var 0)))))
      .done))
      (.seq (.ret (.var 1))
      .done)))

noncomputable def f_law_row : FnDef where
  names := ["_law_script", "_law_first", "_law_row_here", "_law_k", "_law_number", "_law_begin"]
  arity := 1
  body := (.seq (.asg 1 (.call "_law_mixed" (.cons (.var 0) (.cons (.const (.int 0)) .nil))))
      (.seq (.asgOwn 2 (.lst .nil))
      (.seq (.for (.one 3) (.range1 (.bin .Add (.const (.int 1)) (.bin .Mod (.var 1) (.const (.int 9))))) (.seq (.asg 4 (.call "_law_mixed" (.cons (.var 0) (.cons (.bin .Add (.const (.int 1)) (.var 3)) .nil))))
      (.seq (.asg 5 (.bin .Sub (.bin .Mod (.bin .FloorDiv (.var 4) (.const (.int 6))) (.idx (.lst (.cons (.const (.int 4)) (.cons (.const (.int 9)) (.cons (.const (.int 15)) .nil)))) (.bin .Mod (.bin .FloorDiv (.var 1) (.const (.int 9))) (.const (.int 3))))) (.const (.int 2))))
      (.seq (.ife (.cmp .Eq (.bin .Mod (.bin .FloorDiv (.var 1) (.const (.int 27))) (.const (.int 5))) (.const (.int 1))) (.seq (.asg 5 (.bin .Add (.bin .Mult (.var 5) (.bin .Pow (.const (.int 10)) (.const (.int 23)))) (.bin .Mod (.var 4) (.const (.int 7)))))
      .done) .done)
      (.seq (.app 2 (.tup (.cons (.var 5) (.cons (.bin .Add (.var 5) (.idx (.lst (.cons (.const (.int 0)) (.cons (.const (.int 1)) (.cons (.const (.int 3)) (.cons (.const (.int 7)) (.cons (.const (.int 2)) (.cons (.bin .Mod (.bin .FloorDiv (.var 4) (.const (.int 90))) (.bin .Pow (.const (.int 10)) (.const (.int 24)))) .nil))))))) (.bin .Mod (.var 4) (.const (.int 6))))) .nil))))
      .done)))))
      (.seq (.retOwn 2)
      .done))))

noncomputable def f_law_good : FnDef where
  names := ["_law_row_here", "_law_found", "_law_some", "_law_one", "_law_other", "_law_first", "_law_last"]
  arity := 3
  body := (.seq (.ife (.or (.cons (.not (.isinst .list (.var 1))) (.cons (.cmp .NotEq (.un .len (.var 1)) (.un .len (.var 0))) (.cons (.not (.un .all (.comp0 (.one 3) (.call "_law_whole" (.cons (.var 3) .nil)) (.seq (.var 1))))) .nil)))) (.seq (.ret (.const (.bool false)))
      .done) .done)
      (.seq (.ife (.cmp .NotEq (.sortedSet (.var 1)) (.listRange (.bin .Add (.un .maxL (.var 1)) (.const (.int 1))))) (.seq (.ret (.const (.bool false)))
      .done) .done)
      (.seq (.for (.two 3 4) (.seq (.call "_law_pairs" (.cons (.un .len (.var 0)) .nil))) (.seq (.asg 5 (.bi .max (.idx (.idx (.var 0) (.var 3)) (.const (.int 0))) (.idx (.idx (.var 0) (.var 4)) (.const (.int 0)))))
      (.seq (.asg 6 (.bi .min (.idx (.idx (.var 0) (.var 3)) (.const (.int 1))) (.idx (.idx (.var 0) (.var 4)) (.const (.int 1)))))
      (.seq (.ife (.and (.cons (.cmp .LtE (.var 5) (.var 6)) (.cons (.cmp .Eq (.idx (.var 1) (.var 3)) (.idx (.var 1) (.var 4))) .nil))) (.seq (.ret (.const (.bool false)))
      .done) .done)
      .done))))
      (.seq (.ife (.or (.cons (.not (.isinst .list (.var 2))) (.cons (.not (.un .all (.comp0 (.one 3) (.and (.cons (.call "_law_whole" (.cons (.var 3) .nil)) (.cons (.cmp2 .LtE .Lt (.const (.int 0)) (.var 3) (.un .len (.var 0))) .nil))) (.seq (.var 2))))) .nil))) (.seq (.ret (.const (.bool false)))
      .done) .done)
      (.seq (.ife (.or (.cons (.cmp .Eq (.var 2) (.lst .nil)) (.cons (.cmp .NotEq (.var 2) (.sortedSet (.var 2))) (.cons (.cmp .NotEq (.un .len (.var 2)) (.bin .Add (.un .maxL (.var 1)) (.const (.int 1)))) .nil)))) (.seq (.ret (.const (.bool false)))
      .done) .done)
      (.seq (.ret (.cmp .LtE (.un .maxL (.comp0 (.one 3) (.idx (.idx (.var 0) (.var 3)) (.const (.int 0))) (.seq (.var 2)))) (.un .minL (.comp0 (.one 3) (.idx (.idx (.var 0) (.var 3)) (.const (.int 1))) (.seq (.var 2))))))
      .done))))))

noncomputable def f_law : FnDef where
  names := ["_law_script", "_law_row_here", "_law_handed", "_law_turn", "_law_found", "_law_some"]
  arity := 1
  body := (.seq (.asg 1 (.call "_law_row" (.cons (.var 0) .nil)))
      (.seq (.asg 2 (.un .list (.var 1)))
      (.seq (.for (.one 3) (.range1 (.const (.int 2))) (.seq (.asgOwn 4 (.call "colours" (.cons (.var 2) .nil)))
      (.seq (.asgOwn 5 (.call "crowded" (.cons (.var 2) .nil)))
      (.seq (.ife (.or (.cons (.not (.call "_law_good" (.cons (.var 1) (.cons (.var 4) (.cons (.var 5) .nil))))) (.cons (.cmp .NotEq (.var 2) (.var 1)) .nil))) (.seq (.ret (.const (.bool false)))
      .done) .done)
      (.seq (.app 4 (.const (.int 0)))
      (.seq (.app 5 (.const (.int 0)))
      .done))))))
      (.seq (.ret (.const (.bool true)))
      .done))))

end Mw.L12

set_option maxRecDepth 10000
namespace Mw.L12
open PySem Mw

theorem rise_ext {l l' : List Nat} (h : Rise l) (h' : Rise l') (hm : ∀ x, x ∈ l ↔ x ∈ l') : l = l' :=
  ((List.perm_ext_iff_of_nodup (h.imp fun q => Nat.ne_of_lt q) (h'.imp fun q => Nat.ne_of_lt q)).mpr hm).eq_of_pairwise (fun a b _ _ h1 h2 => absurd h1 (Nat.lt_asymm h2)) h h'
noncomputable def g (rs : List (Int × Int)) (i : Nat) : Int × Int := rs.getD i (0, 0)
noncomputable def meetB (p q : Int × Int) : Bool := decide (p.1 ≤ q.2) && decide (q.1 ≤ p.2)
structure GoodCol (rs : List (Int × Int)) (cs : List Int) : Prop where
  len : cs.length = rs.length
  rng : ∀ i < rs.length, 0 ≤ cs.getD i 0 ∧ cs.getD i 0 < rs.length
  prop : ∀ i j, i < rs.length → j < rs.length → i ≠ j → meetB (g rs i) (g rs j) = true → cs.getD i 0 ≠ cs.getD j 0
  sup : ∀ p, p < rs.length → ∀ c : Int, 0 ≤ c → c < cs.getD p 0 → ∃ q, q < rs.length ∧ cs.getD q 0 = c ∧ (g rs q).1 ≤ (g rs p).1 ∧ (g rs p).1 ≤ (g rs q).2
noncomputable def atX (rs : List (Int × Int)) (x : Int) : List Nat := (List.range rs.length).filter fun i => decide ((g rs i).1 ≤ x) && decide (x ≤ (g rs i).2)
structure GoodCrowd (rs : List (Int × Int)) (ks : List Nat) : Prop where
  is : ∃ k, k < rs.length ∧ ks = atX rs (g rs k).1
  most : ∀ k, k < rs.length → (atX rs (g rs k).1).length ≤ ks.length
structure GoodRow (rs : List (Int × Int)) : Prop where
  le : ∀ i, i < rs.length → (g rs i).1 ≤ (g rs i).2
  one : 1 ≤ rs.length
  nine : rs.length ≤ 9

theorem mem_atX {rs : List (Int × Int)} {x : Int} {i : Nat} : i ∈ atX rs x ↔ i < rs.length ∧ (g rs i).1 ≤ x ∧ x ≤ (g rs i).2 := by
  simp [atX, List.mem_filter]
theorem atX_rise (rs : List (Int × Int)) (x : Int) : Rise (atX rs x) := List.Pairwise.sublist List.filter_sublist List.pairwise_lt_range
theorem maxI_mem : ∀ {l : List Int}, l ≠ [] → maxI l ∈ l ∧ ∀ c ∈ l, c ≤ maxI l
  | [], h => absurd rfl h
  | [a], _ => by simp [maxI]
  | a :: b :: r, _ => by
    obtain ⟨h1, h2⟩ := maxI_mem (l := b :: r) (by simp)
    have e : maxI (a :: b :: r) = max a (maxI (b :: r)) := rfl
    rw [e]
    refine ⟨?_, fun c hc => ?_⟩
    · rcases Int.le_total a (maxI (b :: r)) with q | q
      · rw [Int.max_eq_right q]; exact List.mem_cons_of_mem _ h1
      · rw [Int.max_eq_left q]; exact List.mem_cons_self
    · rcases List.mem_cons.mp hc with rfl | hc
      · omega
      · have := h2 c hc; omega
theorem minI_mem : ∀ {l : List Int}, l ≠ [] → minI l ∈ l
  | [], h => absurd rfl h
  | [a], _ => by simp [minI]
  | a :: b :: r, _ => by
    have h1 := minI_mem (l := b :: r) (by simp)
    have e : minI (a :: b :: r) = min a (minI (b :: r)) := rfl
    rw [e]
    rcases Int.le_total a (minI (b :: r)) with q | q
    · rw [Int.min_eq_left q]; exact List.mem_cons_self
    · rw [Int.min_eq_right q]; exact List.mem_cons_of_mem _ h1

section
variable {rs : List (Int × Int)} {cs : List Int} {ks : List Nat}
theorem col_ne (hr : GoodRow rs) (hc : GoodCol rs cs) : cs ≠ [] := fun e => by
  have := hc.len; have := hr.one; rw [e] at *; simp at *; omega
theorem col_at (hc : GoodCol rs cs) {c : Int} : c ∈ cs ↔ ∃ p, p < rs.length ∧ cs.getD p 0 = c := by
  constructor
  · intro h
    obtain ⟨i, hi⟩ := List.getElem?_of_mem h
    obtain ⟨hl, e⟩ := List.getElem?_eq_some_iff.mp hi
    exact ⟨i, by rw [← hc.len]; exact hl, by rw [List.getD_eq_getElem?_getD, hi]; rfl⟩
  · rintro ⟨p, hp, rfl⟩
    rw [← hc.len] at hp
    rw [List.getD_eq_getElem?_getD, List.getElem?_eq_getElem hp]
    exact List.getElem_mem hp
theorem col_mem (hr : GoodRow rs) (hc : GoodCol rs cs) {c : Int} : c ∈ cs ↔ 0 ≤ c ∧ c ≤ maxI cs := by
  obtain ⟨h1, h2⟩ := maxI_mem (col_ne hr hc)
  constructor
  · intro h
    obtain ⟨p, hp, e⟩ := (col_at hc).mp h
    have := hc.rng p hp
    rw [e] at this
    exact ⟨this.1, h2 c h⟩
  · rintro ⟨h3, h4⟩
    rcases Int.lt_or_eq_of_le h4 with q | q
    · obtain ⟨p, hp, e⟩ := (col_at hc).mp h1
      obtain ⟨q', hq, eq, _⟩ := hc.sup p hp c h3 (by rw [e]; exact q)
      exact (col_at hc).mpr ⟨q', hq, eq⟩
    · rw [q]; exact h1
theorem max_range (hr : GoodRow rs) (hc : GoodCol rs cs) : 0 ≤ maxI cs ∧ maxI cs < rs.length := by
  obtain ⟨h1, h2⟩ := maxI_mem (col_ne hr hc)
  obtain ⟨p, hp, e⟩ := (col_at hc).mp h1
  have := hc.rng p hp
  rw [e] at this; exact this
theorem set_col (hr : GoodRow rs) (hc : GoodCol rs cs) : ((List.range 9).filter fun n : Nat => decide ((n : Int) ∈ cs)) = List.range (maxI cs + 1).toNat := by
  have hm := max_range hr hc
  have h9 := hr.nine
  refine rise_ext (List.Pairwise.sublist List.filter_sublist List.pairwise_lt_range) List.pairwise_lt_range fun x => ?_
  rw [List.mem_filter, List.mem_range, List.mem_range, decide_eq_true_eq, col_mem hr hc]
  omega
theorem set_crowd (hr : GoodRow rs) (hk : GoodCrowd rs ks) : ((List.range 9).filter fun n : Nat => decide ((n : Int) ∈ ks.map fun k : Nat => (k : Int))) = ks := by
  obtain ⟨k, hk1, e⟩ := hk.is
  have h9 := hr.nine
  refine rise_ext (List.Pairwise.sublist List.filter_sublist List.pairwise_lt_range) (by rw [e]; exact atX_rise _ _) fun x => ?_
  rw [List.mem_filter, List.mem_range, decide_eq_true_eq, List.mem_map]
  constructor
  · rintro ⟨_, y, hy, q⟩; have : y = x := by omega
    rw [← this]; exact hy
  · intro h
    refine ⟨?_, x, h, rfl⟩
    rw [e, mem_atX] at h; omega
theorem crowd_len (hr : GoodRow rs) (hc : GoodCol rs cs) (hk : GoodCrowd rs ks) : (ks.length : Int) = maxI cs + 1 := by
  obtain ⟨k, hk1, e⟩ := hk.is
  have hm := max_range hr hc
  obtain ⟨h1, h2⟩ := maxI_mem (col_ne hr hc)
  obtain ⟨p, hp, ep⟩ := (col_at hc).mp h1
  have lower : (maxI cs + 1).toNat ≤ (atX rs (g rs p).1).length := by
    have := len_sub (l := List.range (maxI cs + 1).toNat) (l' := (atX rs (g rs p).1).map fun i => (cs.getD i 0).toNat) List.nodup_range fun c hc' => by
      have hc'' := List.mem_range.mp hc'
      rw [List.mem_map]
      rcases Int.lt_or_eq_of_le (show (c : Int) ≤ maxI cs by omega) with q | q
      · obtain ⟨q', hq, eq, l1, l2⟩ := hc.sup p hp c (by omega) (by rw [ep]; exact q)
        exact ⟨q', mem_atX.mpr ⟨hq, l1, l2⟩, by rw [eq]; rfl⟩
      · exact ⟨p, mem_atX.mpr ⟨hp, Int.le_refl _, hr.le p hp⟩, by rw [ep, ← q]; rfl⟩
    simpa using this
  have upper : ks.length ≤ (maxI cs + 1).toNat := by
    have := len_sub (l := ks.map fun i => (cs.getD i 0).toNat) (l' := List.range (maxI cs + 1).toNat) (by
      rw [List.Nodup, List.pairwise_map]
      refine List.Pairwise.imp_of_mem (R := fun a b => a < b) (fun {a b} ha hb hlt => ?_) (by rw [e]; exact atX_rise _ _)
      rw [e, mem_atX] at ha hb
      have := hc.prop a b ha.1 hb.1 (Nat.ne_of_lt hlt) (by simp only [meetB, Bool.and_eq_true, decide_eq_true_eq]; omega)
      have := hc.rng a ha.1
      have := hc.rng b hb.1
      omega) fun c hc' => by
      obtain ⟨i, hi, rfl⟩ := List.mem_map.mp hc'
      rw [e, mem_atX] at hi
      rw [List.mem_range]
      have := h2 (cs.getD i 0) ((col_at hc).mpr ⟨i, hi.1, rfl⟩)
      have := hc.rng i hi.1
      omega
    simpa using this
  have := hk.most p hp
  omega
theorem crowd_ne (hr : GoodRow rs) (hk : GoodCrowd rs ks) : ks ≠ [] := by
  obtain ⟨k, hk1, e⟩ := hk.is
  rw [e]
  exact List.ne_nil_of_mem (mem_atX.mpr ⟨hk1, Int.le_refl _, hr.le k hk1⟩)
theorem crowd_meet (hr : GoodRow rs) (hk : GoodCrowd rs ks) : maxI (ks.map fun i => (g rs i).1) ≤ minI (ks.map fun i => (g rs i).2) := by
  have hne := crowd_ne hr hk
  obtain ⟨k, hk1, e⟩ := hk.is
  have h1 := (maxI_mem (l := ks.map fun i => (g rs i).1) (by simpa using hne)).1
  have h2 := minI_mem (l := ks.map fun i => (g rs i).2) (by simpa using hne)
  obtain ⟨i, hi, ei⟩ := List.mem_map.mp h1
  obtain ⟨j, hj, ej⟩ := List.mem_map.mp h2
  rw [← ei, ← ej]
  rw [e, mem_atX] at hi hj
  omega
end
end Mw.L12

set_option maxRecDepth 100000
set_option linter.unusedSimpArgs false
set_option linter.unusedVariables false
namespace Mw.L12
open PySem Mw

noncomputable abbrev rowD (rs : List (Int × Int)) : PyData := .list (rs.map pairD)
noncomputable def Whole (Φ : Fns2) (f : Str) : Prop := ∀ i, Φ.fn f [.int i] = some (true, .bool true)
theorem r_is_whole {Φ : Fns2} (i : Int) : f_is_whole.run Φ [.int i] = some (true, .bool true) := by
  refine run_ret rfl ?_
  simp only [f_is_whole, FnDef.start]
  simp [Z40, Z41, Z42, Z43, Z44, Z45, Z46, Z47, Z48, Z49, Z50, Z51, Z52, Z53, Z54, Z55, Z56, Z57, Z58, Z59, Z60, Z61, Z62, Z1, Z2, Z3, Z4, Z5, Z6, Z7, Z8, Z9, Z10, Z11, Z12, Z13, Z14, Z15, Z16, Z17, Z18, Z19, Z20, Z21, Z22, Z23, Z24, Z25, Z26, Z27, Z28, Z29, Z30, Z31, Z32, Z33, Z34, Z35, Z36, Z37, Z38, Z39, asBool, asClean, Z113, Z110, Z111, Z114, Z112, Z115, Z107, Z104, Z105, Z108, Z106, Z109, Z125, Z122, Z123, Z126, Z124, Z127, Z119, Z116, Z117, Z120, Z118, Z121, varSem, cmpSem, idxSem, Z91, Z92, Z93, Z94, Z95, Z96, Z97, unSem, biSem, maxLen, Z98, Z99, Z100, Z101, Z102, Z103, callSem, Z70, Z71, Z72, Z73, Z74, Z75, Z76, Cl.item, Cl.isClean, Cl.isDirty, tupSem, lstSem, upd, ownAt, dic_nil, dic_int, dic_bool, dic_none, dic_list, dic_tup, dic_pair, dic_dict, dic_pairs, dic_ints, dic_lists, seqItems, uptoSem, sinceSem, onI, onL, addSem, mulSem, Z84, Z85, Z86, Z87, Z88, Z89, Z90, Fn2.sem, mulOk, bindT, Z77, Z78, Z79, Z80, Z81, Z82, Z83, dicAt, dicHas, keyT, keyI, intsOf, dicPut, sh_int, sh_bool, sh_none, sh_pair, sh_tup, sh_ints, sh_pairs, sh_web, any_pair, any_int, eqvAll_ints, eqvAll_pairs, PyData.eqv]
theorem r_whole {Φ : Fns2} (i : Int) : f_law_whole.run Φ [.int i] = some (true, .bool true) := by
  refine run_ret rfl ?_
  simp only [f_law_whole, FnDef.start]
  simp [Z40, Z41, Z42, Z43, Z44, Z45, Z46, Z47, Z48, Z49, Z50, Z51, Z52, Z53, Z54, Z55, Z56, Z57, Z58, Z59, Z60, Z61, Z62, Z1, Z2, Z3, Z4, Z5, Z6, Z7, Z8, Z9, Z10, Z11, Z12, Z13, Z14, Z15, Z16, Z17, Z18, Z19, Z20, Z21, Z22, Z23, Z24, Z25, Z26, Z27, Z28, Z29, Z30, Z31, Z32, Z33, Z34, Z35, Z36, Z37, Z38, Z39, asBool, asClean, Z113, Z110, Z111, Z114, Z112, Z115, Z107, Z104, Z105, Z108, Z106, Z109, Z125, Z122, Z123, Z126, Z124, Z127, Z119, Z116, Z117, Z120, Z118, Z121, varSem, cmpSem, idxSem, Z91, Z92, Z93, Z94, Z95, Z96, Z97, unSem, biSem, maxLen, Z98, Z99, Z100, Z101, Z102, Z103, callSem, Z70, Z71, Z72, Z73, Z74, Z75, Z76, Cl.item, Cl.isClean, Cl.isDirty, tupSem, lstSem, upd, ownAt, dic_nil, dic_int, dic_bool, dic_none, dic_list, dic_tup, dic_pair, dic_dict, dic_pairs, dic_ints, dic_lists, seqItems, uptoSem, sinceSem, onI, onL, addSem, mulSem, Z84, Z85, Z86, Z87, Z88, Z89, Z90, Fn2.sem, mulOk, bindT, Z77, Z78, Z79, Z80, Z81, Z82, Z83, dicAt, dicHas, keyT, keyI, intsOf, dicPut, sh_int, sh_bool, sh_none, sh_pair, sh_tup, sh_ints, sh_pairs, sh_web, any_pair, any_int, eqvAll_ints, eqvAll_pairs, PyData.eqv]
noncomputable def Stretch (Φ : Fns2) : Prop := ∀ p : Int × Int, p.1 ≤ p.2 → Φ.fn "is_stretch" [pairD p] = some (true, .bool true)
theorem r_stretch {Φ : Fns2} (hW : Whole Φ "is_whole") (p : Int × Int) (h : p.1 ≤ p.2) : f_is_stretch.run Φ [pairD p] = some (true, .bool true) := by
  refine run_ret rfl ?_
  simp only [f_is_stretch, FnDef.start]
  simp [Z40, Z41, Z42, Z43, Z44, Z45, Z46, Z47, Z48, Z49, Z50, Z51, Z52, Z53, Z54, Z55, Z56, Z57, Z58, Z59, Z60, Z61, Z62, Z1, Z2, Z3, Z4, Z5, Z6, Z7, Z8, Z9, Z10, Z11, Z12, Z13, Z14, Z15, Z16, Z17, Z18, Z19, Z20, Z21, Z22, Z23, Z24, Z25, Z26, Z27, Z28, Z29, Z30, Z31, Z32, Z33, Z34, Z35, Z36, Z37, Z38, Z39, asBool, asClean, Z113, Z110, Z111, Z114, Z112, Z115, Z107, Z104, Z105, Z108, Z106, Z109, Z125, Z122, Z123, Z126, Z124, Z127, Z119, Z116, Z117, Z120, Z118, Z121, varSem, cmpSem, idxSem, Z91, Z92, Z93, Z94, Z95, Z96, Z97, unSem, biSem, maxLen, Z98, Z99, Z100, Z101, Z102, Z103, callSem, Z70, Z71, Z72, Z73, Z74, Z75, Z76, Cl.item, Cl.isClean, Cl.isDirty, tupSem, lstSem, upd, ownAt, dic_nil, dic_int, dic_bool, dic_none, dic_list, dic_tup, dic_pair, dic_dict, dic_pairs, dic_ints, dic_lists, seqItems, uptoSem, sinceSem, onI, onL, addSem, mulSem, Z84, Z85, Z86, Z87, Z88, Z89, Z90, Fn2.sem, mulOk, bindT, Z77, Z78, Z79, Z80, Z81, Z82, Z83, dicAt, dicHas, keyT, keyI, intsOf, dicPut, sh_int, sh_bool, sh_none, sh_pair, sh_tup, sh_ints, sh_pairs, sh_web, any_pair, any_int, eqvAll_ints, eqvAll_pairs, PyData.eqv, pairD, hW p.1, hW p.2, h]
theorem g_mem {rs : List (Int × Int)} (hr : GoodRow rs) : ∀ p ∈ rs, p.1 ≤ p.2 := fun p hp => by
  obtain ⟨i, hi⟩ := List.getElem?_of_mem hp
  obtain ⟨hl, e⟩ := List.getElem?_eq_some_iff.mp hi
  have := hr.le i hl
  simpa [g, List.getD_eq_getElem?_getD, hi] using this
theorem compGo_all {f : PyData → Option (Option PyData)} {k : PyData → PyData} : ∀ {items : List PyData}, (∀ d ∈ items, f d = some (some (k d))) → compGo f items = some (items.map k)
  | [], _ => rfl
  | d :: r, h => by
    have h1 := h d (List.mem_cons_self ..)
    have h2 := compGo_all (items := r) fun x hx => h x (List.mem_cons_of_mem _ hx)
    simp only [List.map_cons, compGo, h1, h2]
noncomputable def NeedRow (Φ : Fns2) : Prop := ∀ rs, GoodRow rs → Φ.fn "need_row" [rowD rs] = some (true, .none)
theorem r_need_row {Φ : Fns2} (hS : Stretch Φ) (hM : Φ.gl "MOST_STRETCHES" = some 9) {rs : List (Int × Int)} (hr : GoodRow rs) : f_need_row.run Φ [rowD rs] = some (true, .none) := by
  have h1 := hr.one
  have h9 := hr.nine
  have hlen : rs.length ≤ 4096 := by omega
  have hc : evE Φ.toFns (.comp0 (.one 1) (.call "is_stretch" (.cons (.var 1) .nil)) (.seq (.var 0))) [some (.val (rowD rs)), none] = some (.fresh, .list ((rs.map pairD).map fun _ => PyData.bool true)) := by
    refine ev_comp0 (np := false) (items := rs.map pairD) (by simp [Z40, Z41, Z42, Z43, Z44, Z45, Z46, Z47, Z48, Z49, Z50, Z51, Z52, Z53, Z54, Z55, Z56, Z57, Z58, Z59, Z60, Z61, Z62, Z1, Z2, Z3, Z4, Z5, Z6, Z7, Z8, Z9, Z10, Z11, Z12, Z13, Z14, Z15, Z16, Z17, Z18, Z19, Z20, Z21, Z22, Z23, Z24, Z25, Z26, Z27, Z28, Z29, Z30, Z31, Z32, Z33, Z34, Z35, Z36, Z37, Z38, Z39, asBool, asClean, Z113, Z110, Z111, Z114, Z112, Z115, Z107, Z104, Z105, Z108, Z106, Z109, Z125, Z122, Z123, Z126, Z124, Z127, Z119, Z116, Z117, Z120, Z118, Z121, varSem, cmpSem, idxSem, Z91, Z92, Z93, Z94, Z95, Z96, Z97, unSem, biSem, maxLen, Z98, Z99, Z100, Z101, Z102, Z103, callSem, Z70, Z71, Z72, Z73, Z74, Z75, Z76, Cl.item, Cl.isClean, Cl.isDirty, tupSem, lstSem, upd, ownAt, dic_nil, dic_int, dic_bool, dic_none, dic_list, dic_tup, dic_pair, dic_dict, dic_pairs, dic_ints, dic_lists, seqItems, uptoSem, sinceSem, onI, onL, addSem, mulSem, Z84, Z85, Z86, Z87, Z88, Z89, Z90, Fn2.sem, mulOk, bindT, Z77, Z78, Z79, Z80, Z81, Z82, Z83, dicAt, dicHas, keyT, keyI, intsOf, dicPut, sh_int, sh_bool, sh_none, sh_pair, sh_tup, sh_ints, sh_pairs, sh_web, any_pair, any_int, eqvAll_ints, eqvAll_pairs, PyData.eqv, hlen]) (compGo_all fun d hd => ?_)
    obtain ⟨p, hp, rfl⟩ := List.mem_map.mp hd
    simp [compF, Z40, Z41, Z42, Z43, Z44, Z45, Z46, Z47, Z48, Z49, Z50, Z51, Z52, Z53, Z54, Z55, Z56, Z57, Z58, Z59, Z60, Z61, Z62, Z1, Z2, Z3, Z4, Z5, Z6, Z7, Z8, Z9, Z10, Z11, Z12, Z13, Z14, Z15, Z16, Z17, Z18, Z19, Z20, Z21, Z22, Z23, Z24, Z25, Z26, Z27, Z28, Z29, Z30, Z31, Z32, Z33, Z34, Z35, Z36, Z37, Z38, Z39, asBool, asClean, Z113, Z110, Z111, Z114, Z112, Z115, Z107, Z104, Z105, Z108, Z106, Z109, Z125, Z122, Z123, Z126, Z124, Z127, Z119, Z116, Z117, Z120, Z118, Z121, varSem, cmpSem, idxSem, Z91, Z92, Z93, Z94, Z95, Z96, Z97, unSem, biSem, maxLen, Z98, Z99, Z100, Z101, Z102, Z103, callSem, Z70, Z71, Z72, Z73, Z74, Z75, Z76, Cl.item, Cl.isClean, Cl.isDirty, tupSem, lstSem, upd, ownAt, dic_nil, dic_int, dic_bool, dic_none, dic_list, dic_tup, dic_pair, dic_dict, dic_pairs, dic_ints, dic_lists, seqItems, uptoSem, sinceSem, onI, onL, addSem, mulSem, Z84, Z85, Z86, Z87, Z88, Z89, Z90, Fn2.sem, mulOk, bindT, Z77, Z78, Z79, Z80, Z81, Z82, Z83, dicAt, dicHas, keyT, keyI, intsOf, dicPut, sh_int, sh_bool, sh_none, sh_pair, sh_tup, sh_ints, sh_pairs, sh_web, any_pair, any_int, eqvAll_ints, eqvAll_pairs, PyData.eqv, hS p (g_mem hr p hp)]
  have hall : allB ((rs.map pairD).map fun _ => PyData.bool true) = some true := allB_true _ (by simp; intro d x y _ e; exact e.symm)
  refine run_next (ρ := [some (.val (rowD rs)), none]) rfl ?_
  refine (ev_ifF (ρ' := [some (.val (rowD rs)), none]) ?_ rfl).trans ((ev_ifF (ρ' := [some (.val (rowD rs)), none]) ?_ rfl).trans rfl)
  · have q1 : (1 : Int) ≤ (rs.length : Int) := by omega
    have q2 : (rs.length : Int) ≤ 9 := by omega
    simp [FnDef.start, f_need_row, Z40, Z41, Z42, Z43, Z44, Z45, Z46, Z47, Z48, Z49, Z50, Z51, Z52, Z53, Z54, Z55, Z56, Z57, Z58, Z59, Z60, Z61, Z62, Z1, Z2, Z3, Z4, Z5, Z6, Z7, Z8, Z9, Z10, Z11, Z12, Z13, Z14, Z15, Z16, Z17, Z18, Z19, Z20, Z21, Z22, Z23, Z24, Z25, Z26, Z27, Z28, Z29, Z30, Z31, Z32, Z33, Z34, Z35, Z36, Z37, Z38, Z39, asBool, asClean, Z113, Z110, Z111, Z114, Z112, Z115, Z107, Z104, Z105, Z108, Z106, Z109, Z125, Z122, Z123, Z126, Z124, Z127, Z119, Z116, Z117, Z120, Z118, Z121, varSem, cmpSem, idxSem, Z91, Z92, Z93, Z94, Z95, Z96, Z97, unSem, biSem, maxLen, Z98, Z99, Z100, Z101, Z102, Z103, callSem, Z70, Z71, Z72, Z73, Z74, Z75, Z76, Cl.item, Cl.isClean, Cl.isDirty, tupSem, lstSem, upd, ownAt, dic_nil, dic_int, dic_bool, dic_none, dic_list, dic_tup, dic_pair, dic_dict, dic_pairs, dic_ints, dic_lists, seqItems, uptoSem, sinceSem, onI, onL, addSem, mulSem, Z84, Z85, Z86, Z87, Z88, Z89, Z90, Fn2.sem, mulOk, bindT, Z77, Z78, Z79, Z80, Z81, Z82, Z83, dicAt, dicHas, keyT, keyI, intsOf, dicPut, sh_int, sh_bool, sh_none, sh_pair, sh_tup, sh_ints, sh_pairs, sh_web, any_pair, any_int, eqvAll_ints, eqvAll_pairs, PyData.eqv, hlen, hM, q1, q2]
  · refine not_t (as_bool (ev_un hc (y := (.fresh, .bool true)) ?_))
    simp only [unSem, onL, hall, List.length_map, maxLen, hlen, if_true, Option.map_some]
noncomputable def Meet (Φ : Fns2) : Prop := ∀ p q : Int × Int, Φ.fn "meet" [pairD p, pairD q] = some (true, .bool (meetB p q))
theorem r_meet {Φ : Fns2} (p q : Int × Int) : f_meet.run Φ [pairD p, pairD q] = some (true, .bool (meetB p q)) := by
  refine run_ret rfl ?_
  simp only [f_meet, FnDef.start]
  by_cases h : p.1 ≤ q.2 <;> by_cases h' : q.1 ≤ p.2 <;> simp [Z40, Z41, Z42, Z43, Z44, Z45, Z46, Z47, Z48, Z49, Z50, Z51, Z52, Z53, Z54, Z55, Z56, Z57, Z58, Z59, Z60, Z61, Z62, Z1, Z2, Z3, Z4, Z5, Z6, Z7, Z8, Z9, Z10, Z11, Z12, Z13, Z14, Z15, Z16, Z17, Z18, Z19, Z20, Z21, Z22, Z23, Z24, Z25, Z26, Z27, Z28, Z29, Z30, Z31, Z32, Z33, Z34, Z35, Z36, Z37, Z38, Z39, asBool, asClean, Z113, Z110, Z111, Z114, Z112, Z115, Z107, Z104, Z105, Z108, Z106, Z109, Z125, Z122, Z123, Z126, Z124, Z127, Z119, Z116, Z117, Z120, Z118, Z121, varSem, cmpSem, idxSem, Z91, Z92, Z93, Z94, Z95, Z96, Z97, unSem, biSem, maxLen, Z98, Z99, Z100, Z101, Z102, Z103, callSem, Z70, Z71, Z72, Z73, Z74, Z75, Z76, Cl.item, Cl.isClean, Cl.isDirty, tupSem, lstSem, upd, ownAt, dic_nil, dic_int, dic_bool, dic_none, dic_list, dic_tup, dic_pair, dic_dict, dic_pairs, dic_ints, dic_lists, seqItems, uptoSem, sinceSem, onI, onL, addSem, mulSem, Z84, Z85, Z86, Z87, Z88, Z89, Z90, Fn2.sem, mulOk, bindT, Z77, Z78, Z79, Z80, Z81, Z82, Z83, dicAt, dicHas, keyT, keyI, intsOf, dicPut, sh_int, sh_bool, sh_none, sh_pair, sh_tup, sh_ints, sh_pairs, sh_web, any_pair, any_int, eqvAll_ints, eqvAll_pairs, PyData.eqv, pairD, meetB, h, h']
end Mw.L12

set_option maxRecDepth 10000
namespace Mw.L12
open PySem Mw

structure Inv (rs : List (Int × Int)) (os : List Nat) (j : Nat) (fs : List (Option Int)) : Prop where
  len : fs.length = rs.length
  col : ∀ i, i < rs.length → ((fs.getD i none).isSome = true ↔ i ∈ os.take j)
  rng : ∀ i c, fs.getD i none = some c → 0 ≤ c ∧ c < rs.length
  prop : ∀ i k c, i ≠ k → fs.getD i none = some c → fs.getD k none = some c → meetB (g rs i) (g rs k) = false
  sup : ∀ p c, fs.getD p none = some c → ∀ c' : Int, 0 ≤ c' → c' < c → ∃ q, q < rs.length ∧ fs.getD q none = some c' ∧ (g rs q).1 ≤ (g rs p).1 ∧ (g rs p).1 ≤ (g rs q).2
structure Ordr (rs : List (Int × Int)) (os : List Nat) : Prop where
  nd : os.Nodup
  mem : ∀ i, i ∈ os ↔ i < rs.length
  up : os.Pairwise fun a b => (g rs a).1 ≤ (g rs b).1
noncomputable def knownL (rs : List (Int × Int)) (fs : List (Option Int)) (p : Nat) : List Int := (List.range rs.length).filterMap fun o => (fs.getD o none).bind fun c => if meetB (g rs o) (g rs p) then some c else none
noncomputable def rangeN (n : Nat) : List Int := (List.range n).map fun i : Nat => (i : Int)
theorem filterMap_len {α β : Type} (f : α → Option β) (p : α → Bool) : ∀ (l : List α), (∀ o ∈ l, (f o).isSome = true → p o = true) → (l.filterMap f).length ≤ (l.filter p).length
  | [], _ => Nat.le_refl _
  | a :: l, h => by
    have ih := filterMap_len f p l fun o ho => h o (List.mem_cons_of_mem _ ho)
    have ha := h a List.mem_cons_self
    rw [List.filterMap_cons, List.filter_cons]
    cases hf : f a with
    | none => simp only; split <;> simp <;> omega
    | some b => rw [ha (by rw [hf]; rfl)]; simp; omega
theorem getD_lt {fs : List (Option Int)} {i : Nat} {c : Int} (h : fs.getD i none = some c) : i < fs.length := by
  rcases Nat.lt_or_ge i fs.length with q | q
  · exact q
  · rw [List.getD_eq_getElem?_getD, List.getElem?_eq_none q] at h; cases h
theorem getD_set {fs : List (Option Int)} {p i : Nat} {c : Option Int} (hp : p < fs.length) : (fs.set p c).getD i none = if i = p then c else fs.getD i none := by
  rw [List.getD_eq_getElem?_getD, List.getElem?_set]
  by_cases e : i = p
  · subst e; simp [hp]
  · rw [if_neg (Ne.symm e), if_neg e, List.getD_eq_getElem?_getD]
section
variable {rs : List (Int × Int)} {os : List Nat} {j p : Nat} {fs : List (Option Int)}
theorem mem_known {c : Int} : c ∈ knownL rs fs p ↔ ∃ o, o < rs.length ∧ fs.getD o none = some c ∧ meetB (g rs o) (g rs p) = true := by
  simp only [knownL, List.mem_filterMap, List.mem_range, Option.bind_eq_some_iff]
  constructor
  · rintro ⟨o, ho, c', h1, h2⟩
    split at h2
    · cases h2; exact ⟨o, ho, h1, by assumption⟩
    · cases h2
  · rintro ⟨o, ho, h1, h2⟩
    exact ⟨o, ho, c, h1, by rw [if_pos h2]⟩
theorem known_few (ho : Ordr rs os) (hi : Inv rs os j fs) (hp : os[j]? = some p) : (knownL rs fs p).length < rs.length := by
  have hj : j < os.length := (List.getElem?_eq_some_iff.mp hp).1
  have h1 := len_sub (l := os) (l' := List.range rs.length) ho.nd fun x hx => List.mem_range.mpr ((ho.mem x).mp hx)
  have h2 := filterMap_len (fun o => (fs.getD o none).bind fun c => if meetB (g rs o) (g rs p) then some c else none) (fun o => decide (o ∈ os.take j)) (List.range rs.length) fun o hm hs => by
    refine decide_eq_true ((hi.col o (List.mem_range.mp hm)).mp ?_)
    cases e : fs.getD o none with
    | none => rw [e] at hs; cases hs
    | some c => rfl
  have h3 := len_sub (l := (List.range rs.length).filter fun o => decide (o ∈ os.take j)) (l' := os.take j) (List.nodup_range.sublist List.filter_sublist) fun x hx => by simpa using (List.mem_filter.mp hx).2
  rw [List.length_take] at h3
  simp only [List.length_range] at h1
  have : (knownL rs fs p).length ≤ _ := h2
  omega
theorem step (ho : Ordr rs os) (hi : Inv rs os j fs) (hp : os[j]? = some p) : ∃ c r, ((rangeN rs.length).filter fun c => decide (c ∉ knownL rs fs p)) = c :: r ∧ Inv rs os (j + 1) (fs.set p (some c)) := by
  have hj : j < os.length := (List.getElem?_eq_some_iff.mp hp).1
  have hpl : p < rs.length := (ho.mem p).mp (List.mem_of_getElem? hp)
  have hpf : p < fs.length := by rw [hi.len]; exact hpl
  have few := known_few ho hi hp
  have htk : os.take (j + 1) = os.take j ++ [p] := by
    rw [List.take_succ, hp]; rfl
  have hnp : p ∉ os.take j := by
    intro hm
    have := ho.nd
    rw [← List.take_append_drop (j + 1) os, htk] at this
    have := (List.nodup_append.mp (List.nodup_append.mp this).1).2.2 p hm p (by simp)
    exact this rfl
  have hp0 : fs.getD p none = none := by
    cases e : fs.getD p none with
    | none => rfl
    | some c => exact absurd ((hi.col p hpl).mp (by rw [e]; rfl)) hnp
  have hasc : (rangeN rs.length).Pairwise (· < ·) := by
    unfold rangeN
    rw [List.pairwise_map]
    exact List.pairwise_lt_range.imp fun h => by omega
  cases hf : (rangeN rs.length).filter fun c => decide (c ∉ knownL rs fs p) with
  | nil =>
    exfalso
    have hall : ∀ c ∈ rangeN rs.length, c ∈ knownL rs fs p := fun c hc => Classical.byContradiction fun q => by
      have : c ∈ (rangeN rs.length).filter fun c => decide (c ∉ knownL rs fs p) := List.mem_filter.mpr ⟨hc, decide_eq_true q⟩
      rw [hf] at this; cases this
    have := len_sub (hasc.imp fun h => by omega) hall
    simp only [rangeN, List.length_map, List.length_range] at this
    omega
  | cons c r =>
    have hc : c ∈ (rangeN rs.length).filter fun c => decide (c ∉ knownL rs fs p) := by rw [hf]; exact List.mem_cons_self
    obtain ⟨hc1, hc2⟩ := List.mem_filter.mp hc
    have hc3 : c ∉ knownL rs fs p := of_decide_eq_true hc2
    have hcr : 0 ≤ c ∧ c < rs.length := by
      simp only [rangeN, List.mem_map, List.mem_range] at hc1
      obtain ⟨k, hk, rfl⟩ := hc1; omega
    have hlow : ∀ c' : Int, 0 ≤ c' → c' < c → c' ∈ knownL rs fs p := fun c' h0 h1 => Classical.byContradiction fun q => by
      have hm : c' ∈ (rangeN rs.length).filter fun c => decide (c ∉ knownL rs fs p) := List.mem_filter.mpr ⟨by simp only [rangeN, List.mem_map, List.mem_range]; exact ⟨c'.toNat, by omega, by omega⟩, decide_eq_true q⟩
      have hsort := hasc.sublist (List.filter_sublist (p := fun c => decide (c ∉ knownL rs fs p)))
      rw [hf] at hm hsort
      rcases List.mem_cons.mp hm with rfl | hm
      · omega
      · have := (List.pairwise_cons.mp hsort).1 c' hm; omega
    have hearly : ∀ o, o ∈ os.take j → (g rs o).1 ≤ (g rs p).1 := fun o hm => by
      have := ho.up
      rw [← List.take_append_drop (j + 1) os, htk] at this
      exact (List.pairwise_append.mp (List.pairwise_append.mp this).1).2.2 o hm p (by simp)
    refine ⟨c, r, rfl, ?_, ?_, ?_, ?_, ?_⟩
    · rw [List.length_set]; exact hi.len
    · intro i hil
      rw [getD_set hpf, htk, List.mem_append, ← hi.col i hil, List.mem_singleton]
      by_cases e : i = p
      · simp [e]
      · simp [e]
    · intro i c' h
      rw [getD_set hpf] at h
      split at h
      · cases h; exact hcr
      · exact hi.rng i c' h
    · intro i k c' hne h1 h2
      rw [getD_set hpf] at h1 h2
      split at h1
      · rename_i e1; subst e1; cases h1
        rw [if_neg (Ne.symm hne)] at h2
        cases hb : meetB (g rs i) (g rs k) with
        | false => rfl
        | true =>
          refine absurd (mem_known.mpr ⟨k, by rw [← hi.len]; exact getD_lt h2, h2, ?_⟩) hc3
          simp only [meetB, Bool.and_eq_true, decide_eq_true_eq] at hb ⊢; exact ⟨hb.2, hb.1⟩
      · split at h2
        · rename_i e2; subst e2; cases h2
          cases hb : meetB (g rs i) (g rs k) with
          | false => rfl
          | true => exact absurd (mem_known.mpr ⟨i, by rw [← hi.len]; exact getD_lt h1, h1, hb⟩) hc3
        · exact hi.prop i k c' hne h1 h2
    · intro i c' h c'' h0 h1
      rw [getD_set hpf] at h
      split at h
      · rename_i e; subst e; cases h
        obtain ⟨o, ho1, ho2, ho3⟩ := mem_known.mp (hlow c'' h0 h1)
        have hne : o ≠ i := fun q => by rw [q, hp0] at ho2; cases ho2
        refine ⟨o, ho1, by rw [getD_set hpf, if_neg hne]; exact ho2, hearly o ((hi.col o ho1).mp (by rw [ho2]; rfl)), ?_⟩
        simp only [meetB, Bool.and_eq_true, decide_eq_true_eq] at ho3; exact ho3.2
      · obtain ⟨q, q1, q2, q3⟩ := hi.sup i c' h c'' h0 h1
        have hne : q ≠ p := fun e => by rw [e, hp0] at q2; cases q2
        exact ⟨q, q1, by rw [getD_set hpf, if_neg hne]; exact q2, q3⟩
theorem inv_zero : Inv rs os 0 (rs.map fun _ => none) := by
  have e : ∀ i, (rs.map fun _ => (none : Option Int)).getD i none = none := fun i => by
    rw [List.getD_eq_getElem?_getD, List.getElem?_map]; cases rs[i]? <;> rfl
  refine ⟨by simp, fun i _ => by rw [e]; simp, fun i c h => ?_, fun i k c _ h => ?_, fun i c h => ?_⟩ <;> (rw [e] at h; cases h)
theorem inv_all (ho : Ordr rs os) (hi : Inv rs os os.length fs) : ∃ cs : List Int, fs = cs.map some ∧ GoodCol rs cs := by
  have hsome : ∀ i, i < rs.length → ∃ c, fs.getD i none = some c := fun i hl => by
    have := (hi.col i hl).mpr (by rw [List.take_length]; exact (ho.mem i).mpr hl)
    cases e : fs.getD i none with
    | none => rw [e] at this; cases this
    | some c => exact ⟨c, rfl⟩
  have hget : ∀ i, i < rs.length → fs.getD i none = some ((fs.map (·.getD 0)).getD i 0) := fun i hl => by
    obtain ⟨c, hc⟩ := hsome i hl
    have hl' : i < fs.length := by rw [hi.len]; exact hl
    rw [List.getD_eq_getElem?_getD, List.getElem?_eq_getElem hl'] at hc
    rw [List.getD_eq_getElem?_getD, List.getD_eq_getElem?_getD, List.getElem?_map, List.getElem?_eq_getElem hl']
    simp at hc
    simp [hc]
  refine ⟨fs.map (·.getD 0), ?_, by rw [List.length_map]; exact hi.len, fun i hl => hi.rng i _ (hget i hl), fun i k hl hk hne hm e => ?_, fun p hp c h0 h1 => ?_⟩
  · rw [List.map_map]
    refine List.ext_getElem (by simp) fun i h1 h2 => ?_
    have := hget i (by rw [← hi.len]; exact h1)
    rw [List.getD_eq_getElem?_getD, List.getElem?_eq_getElem h1, List.getD_eq_getElem?_getD, List.getElem?_map, List.getElem?_eq_getElem h1] at this
    simpa using this
  · have := hi.prop i k _ hne (hget i hl) (by rw [hget k hk, e])
    rw [hm] at this; cases this
  · obtain ⟨q, q1, q2, q3⟩ := hi.sup p _ (hget p hp) c h0 h1
    rw [hget q q1] at q2
    exact ⟨q, q1, by injection q2, q3⟩
end
end Mw.L12

set_option maxRecDepth 100000
set_option linter.unusedSimpArgs false
set_option linter.unusedVariables false
namespace Mw.L12
open PySem Mw

noncomputable def optD : Option Int → PyData
  | none => .none
  | some i => .int i
theorem dic_opt (fs : List (Option Int)) : isDic (fs.map optD) = false := by
  cases fs with
  | nil => rfl
  | cons a r => cases a <;> rfl
theorem atom_pair (p : Int × Int) : isAtom (pairD p) = false := rfl
theorem row_get {rs : List (Int × Int)} {i : Nat} (h : i < rs.length) : (rs.map pairD)[i]? = some (pairD (g rs i)) := by
  rw [List.getElem?_map, List.getElem?_eq_getElem h]; simp [g, h]
theorem opt_get {fs : List (Option Int)} {i : Nat} (h : i < fs.length) : (fs.map optD)[i]? = some (optD (fs.getD i none)) := by
  rw [List.getElem?_map, List.getElem?_eq_getElem h]; simp [h]
theorem opt_set (fs : List (Option Int)) (i : Nat) (c : Int) : (fs.map optD).set i (.int c) = (fs.set i (some c)).map optD := by
  rw [List.map_set]; rfl
theorem pairsOf_pairs : ∀ ps : List (Int × Int), pairsOf (ps.map pairD) = some ps
  | [] => rfl
  | p :: r => by
    have := pairsOf_pairs r
    show (pairsOf (r.map pairD)).map _ = _
    rw [this]; rfl
theorem sort_pairs {ps : List (Int × Int)} (h : ps ≠ []) (nd : ps.Nodup) : sortD (ps.map pairD) = some ((sortP ps).map pairD) := by
  cases ps with
  | nil => exact absurd rfl h
  | cons p r =>
    unfold sortD
    have e : intsOf ((p :: r).map pairD) = none := rfl
    rw [e, pairsOf_pairs]
    simp only [nd, if_true]
theorem rangeL_nat (n : Nat) : rangeL 0 (n : Int) = (List.range n).map fun i : Nat => PyData.int (i : Int) := by
  simp [rangeL]
theorem compGo_nat {f : PyData → Option (Option PyData)} {h : Nat → Option Int} {n : Nat} (hf : ∀ i, i < n → f (.int (i : Int)) = some ((h i).map .int)) : compGo f (rangeL 0 (n : Int)) = some (((List.range n).filterMap h).map .int) := by
  rw [rangeL_nat]
  have key : ∀ l : List Nat, (∀ i ∈ l, i < n) → compGo f (l.map fun i : Nat => PyData.int (i : Int)) = some ((l.filterMap h).map .int) := by
    intro l
    induction l with
    | nil => intro _; rfl
    | cons i r ih =>
      intro hl
      have h1 := hf i (hl i List.mem_cons_self)
      have h2 := ih fun k hk => hl k (List.mem_cons_of_mem _ hk)
      rw [List.map_cons, List.filterMap_cons]
      cases hh : h i <;> rw [hh] at h1 <;> simp only [compGo, h1, h2, Option.map_none, Option.map_some, List.map_cons]
  exact key _ fun i hi => List.mem_range.mp hi
noncomputable def pts (rs : List (Int × Int)) : List (Int × Int) := (List.range rs.length).map fun i : Nat => ((g rs i).1, (i : Int))
theorem pts_nodup (rs : List (Int × Int)) : (pts rs).Nodup := by
  unfold pts
  rw [List.Nodup, List.pairwise_map]
  exact List.pairwise_lt_range.imp fun h e => by
    have := congrArg Prod.snd e
    simp only at this; omega
theorem pts_mem {rs : List (Int × Int)} {q : Int × Int} (h : q ∈ pts rs) : ∃ i : Nat, i < rs.length ∧ q = ((g rs i).1, (i : Int)) := by
  obtain ⟨i, hi, rfl⟩ := List.mem_map.mp h
  exact ⟨i, List.mem_range.mp hi, rfl⟩
noncomputable def ordL (rs : List (Int × Int)) : List Nat := (sortP (pts rs)).map fun q => q.2.toNat
theorem ord_ok (rs : List (Int × Int)) : Ordr rs (ordL rs) := by
  have pm : (ordL rs).Perm (List.range rs.length) := by
    have := (sortP_perm (pts rs)).map fun q : Int × Int => q.2.toNat
    have e : (pts rs).map (fun q => q.2.toNat) = List.range rs.length := by
      unfold pts; rw [List.map_map]
      have : ((fun q : Int × Int => q.2.toNat) ∘ fun i : Nat => ((g rs i).1, (i : Int))) = id := by funext i; simp
      rw [this, List.map_id]
    rwa [e] at this
  refine ⟨pm.nodup_iff.mpr List.nodup_range, fun i => by rw [pm.mem_iff, List.mem_range], ?_⟩
  unfold ordL
  rw [List.pairwise_map]
  refine List.Pairwise.imp_of_mem (fun {a b} ha hb h => ?_) (sortP_sorted (pts rs))
  obtain ⟨i, hi, rfl⟩ := pts_mem ((sortP_perm _).mem_iff.mp ha)
  obtain ⟨k, hk, rfl⟩ := pts_mem ((sortP_perm _).mem_iff.mp hb)
  simp only [leP, Bool.or_eq_true, Bool.and_eq_true, decide_eq_true_eq] at h
  simp only [Int.toNat_natCast]
  omega

noncomputable def Colours (Φ : Fns2) : Prop := ∀ rs, GoodRow rs → ∃ cs : List Int, Φ.fn "colours" [rowD rs] = some (true, .list (cs.map .int)) ∧ GoodCol rs cs
theorem r_colours {Φ : Fns2} (hN : NeedRow Φ) (hM : Meet Φ) {rs : List (Int × Int)} (hr : GoodRow rs) :
    ∃ fr d, f_colours.run Φ [rowD rs] = some (fr, d) ∧ fr = true ∧ ∃ cs : List Int, d = .list (cs.map .int) ∧ GoodCol rs cs := by
  have h1 := hr.one
  have h9 := hr.nine
  have hlen : rs.length ≤ 4096 := by omega
  have hlI : (-4096 : Int) ≤ (rs.length : Int) ∧ (rs.length : Int) ≤ 4096 := by omega
  have ho := ord_ok rs
  refine run_wp (fd := f_colours) (ds := [rowD rs]) (R := fun fr d => fr = true ∧ ∃ cs : List Int, d = .list (cs.map .int) ∧ GoodCol rs cs) rfl ?_
  refine wp_exec (r := (.fresh, .none)) (by simp [FnDef.start, f_colours, Z40, Z41, Z42, Z43, Z44, Z45, Z46, Z47, Z48, Z49, Z50, Z51, Z52, Z53, Z54, Z55, Z56, Z57, Z58, Z59, Z60, Z61, Z62, Z1, Z2, Z3, Z4, Z5, Z6, Z7, Z8, Z9, Z10, Z11, Z12, Z13, Z14, Z15, Z16, Z17, Z18, Z19, Z20, Z21, Z22, Z23, Z24, Z25, Z26, Z27, Z28, Z29, Z30, Z31, Z32, Z33, Z34, Z35, Z36, Z37, Z38, Z39, asBool, asClean, Z113, Z110, Z111, Z114, Z112, Z115, Z107, Z104, Z105, Z108, Z106, Z109, Z125, Z122, Z123, Z126, Z124, Z127, Z119, Z116, Z117, Z120, Z118, Z121, varSem, cmpSem, idxSem, Z91, Z92, Z93, Z94, Z95, Z96, Z97, unSem, biSem, maxLen, Z98, Z99, Z100, Z101, Z102, Z103, callSem, Z70, Z71, Z72, Z73, Z74, Z75, Z76, Cl.item, Cl.isClean, Cl.isDirty, tupSem, lstSem, upd, ownAt, dic_nil, dic_int, dic_bool, dic_none, dic_list, dic_tup, dic_pair, dic_dict, dic_pairs, dic_ints, dic_lists, seqItems, uptoSem, sinceSem, onI, onL, addSem, mulSem, Z84, Z85, Z86, Z87, Z88, Z89, Z90, Fn2.sem, mulOk, bindT, Z77, Z78, Z79, Z80, Z81, Z82, Z83, dicAt, dicHas, keyT, keyI, intsOf, dicPut, sh_int, sh_bool, sh_none, sh_pair, sh_tup, sh_ints, sh_pairs, sh_web, any_pair, any_int, eqvAll_ints, eqvAll_pairs, PyData.eqv, hN rs hr]) ?_
  refine wp_asgOwn (ds := (rs.map fun _ => none).map optD) ?_ ?_
  · refine ev_comp0 (np := false) (items := rs.map pairD) (by simp [FnDef.start, f_colours, Z40, Z41, Z42, Z43, Z44, Z45, Z46, Z47, Z48, Z49, Z50, Z51, Z52, Z53, Z54, Z55, Z56, Z57, Z58, Z59, Z60, Z61, Z62, Z1, Z2, Z3, Z4, Z5, Z6, Z7, Z8, Z9, Z10, Z11, Z12, Z13, Z14, Z15, Z16, Z17, Z18, Z19, Z20, Z21, Z22, Z23, Z24, Z25, Z26, Z27, Z28, Z29, Z30, Z31, Z32, Z33, Z34, Z35, Z36, Z37, Z38, Z39, asBool, asClean, Z113, Z110, Z111, Z114, Z112, Z115, Z107, Z104, Z105, Z108, Z106, Z109, Z125, Z122, Z123, Z126, Z124, Z127, Z119, Z116, Z117, Z120, Z118, Z121, varSem, cmpSem, idxSem, Z91, Z92, Z93, Z94, Z95, Z96, Z97, unSem, biSem, maxLen, Z98, Z99, Z100, Z101, Z102, Z103, callSem, Z70, Z71, Z72, Z73, Z74, Z75, Z76, Cl.item, Cl.isClean, Cl.isDirty, tupSem, lstSem, upd, ownAt, dic_nil, dic_int, dic_bool, dic_none, dic_list, dic_tup, dic_pair, dic_dict, dic_pairs, dic_ints, dic_lists, seqItems, uptoSem, sinceSem, onI, onL, addSem, mulSem, Z84, Z85, Z86, Z87, Z88, Z89, Z90, Fn2.sem, mulOk, bindT, Z77, Z78, Z79, Z80, Z81, Z82, Z83, dicAt, dicHas, keyT, keyI, intsOf, dicPut, sh_int, sh_bool, sh_none, sh_pair, sh_tup, sh_ints, sh_pairs, sh_web, any_pair, any_int, eqvAll_ints, eqvAll_pairs, PyData.eqv, hlen]) ?_
    rw [compGo_all (k := fun _ => PyData.none) fun d hd => by simp [compF, Z40, Z41, Z42, Z43, Z44, Z45, Z46, Z47, Z48, Z49, Z50, Z51, Z52, Z53, Z54, Z55, Z56, Z57, Z58, Z59, Z60, Z61, Z62, Z1, Z2, Z3, Z4, Z5, Z6, Z7, Z8, Z9, Z10, Z11, Z12, Z13, Z14, Z15, Z16, Z17, Z18, Z19, Z20, Z21, Z22, Z23, Z24, Z25, Z26, Z27, Z28, Z29, Z30, Z31, Z32, Z33, Z34, Z35, Z36, Z37, Z38, Z39, asBool, asClean, Z113, Z110, Z111, Z114, Z112, Z115, Z107, Z104, Z105, Z108, Z106, Z109, Z125, Z122, Z123, Z126, Z124, Z127, Z119, Z116, Z117, Z120, Z118, Z121, varSem, cmpSem, idxSem, Z91, Z92, Z93, Z94, Z95, Z96, Z97, unSem, biSem, maxLen, Z98, Z99, Z100, Z101, Z102, Z103, callSem, Z70, Z71, Z72, Z73, Z74, Z75, Z76, Cl.item, Cl.isClean, Cl.isDirty, tupSem, lstSem, upd, ownAt, dic_nil, dic_int, dic_bool, dic_none, dic_list, dic_tup, dic_pair, dic_dict, dic_pairs, dic_ints, dic_lists, seqItems, uptoSem, sinceSem, onI, onL, addSem, mulSem, Z84, Z85, Z86, Z87, Z88, Z89, Z90, Fn2.sem, mulOk, bindT, Z77, Z78, Z79, Z80, Z81, Z82, Z83, dicAt, dicHas, keyT, keyI, intsOf, dicPut, sh_int, sh_bool, sh_none, sh_pair, sh_tup, sh_ints, sh_pairs, sh_web, any_pair, any_int, eqvAll_ints, eqvAll_pairs, PyData.eqv]]
    simp [optD]
  refine wp_for (np := false) (items := (sortP (pts rs)).map pairD) (fun j ρ => ∃ fs x2 x3 x4 x5 x6 x7, ρ = [some (.val (rowD rs)), some (.own (List.map optD fs)), x2, x3, x4, x5, x6, x7] ∧ Inv rs (ordL rs) j fs) ?_ rfl ?_ ?_ ?_
  · have hs : evE Φ.toFns (.un .sorted (.comp0 (.one 3) (.tup (.cons (.idx (.idx (.var 0) (.var 3)) (.const (.int 0))) (.cons (.var 3) .nil))) (.range1 (.un .len (.var 0))))) [some (.val (rowD rs)), some (.own (List.map optD (rs.map fun _ => none))), none, none, none, none, none, none] = some (.fresh, .list ((sortP (pts rs)).map pairD)) := by
      refine ev_un (x := (.fresh, .list ((pts rs).map pairD))) (ev_comp0 (np := false) (items := rangeL 0 (rs.length : Int)) (by simp [Z40, Z41, Z42, Z43, Z44, Z45, Z46, Z47, Z48, Z49, Z50, Z51, Z52, Z53, Z54, Z55, Z56, Z57, Z58, Z59, Z60, Z61, Z62, Z1, Z2, Z3, Z4, Z5, Z6, Z7, Z8, Z9, Z10, Z11, Z12, Z13, Z14, Z15, Z16, Z17, Z18, Z19, Z20, Z21, Z22, Z23, Z24, Z25, Z26, Z27, Z28, Z29, Z30, Z31, Z32, Z33, Z34, Z35, Z36, Z37, Z38, Z39, asBool, asClean, Z113, Z110, Z111, Z114, Z112, Z115, Z107, Z104, Z105, Z108, Z106, Z109, Z125, Z122, Z123, Z126, Z124, Z127, Z119, Z116, Z117, Z120, Z118, Z121, varSem, cmpSem, idxSem, Z91, Z92, Z93, Z94, Z95, Z96, Z97, unSem, biSem, maxLen, Z98, Z99, Z100, Z101, Z102, Z103, callSem, Z70, Z71, Z72, Z73, Z74, Z75, Z76, Cl.item, Cl.isClean, Cl.isDirty, tupSem, lstSem, upd, ownAt, dic_nil, dic_int, dic_bool, dic_none, dic_list, dic_tup, dic_pair, dic_dict, dic_pairs, dic_ints, dic_lists, seqItems, uptoSem, sinceSem, onI, onL, addSem, mulSem, Z84, Z85, Z86, Z87, Z88, Z89, Z90, Fn2.sem, mulOk, bindT, Z77, Z78, Z79, Z80, Z81, Z82, Z83, dicAt, dicHas, keyT, keyI, intsOf, dicPut, sh_int, sh_bool, sh_none, sh_pair, sh_tup, sh_ints, sh_pairs, sh_web, any_pair, any_int, eqvAll_ints, eqvAll_pairs, PyData.eqv, hlen, hlI]) ?_) ?_
      · rw [rangeL_nat]
        rw [compGo_all (k := fun d => match d with | .int i => pairD ((g rs i.toNat).1, i) | _ => .none) fun d hd => ?_]
        · congr 1
          unfold pts
          rw [List.map_map, List.map_map]
          refine List.map_congr_left fun i hi => ?_
          simp
        · obtain ⟨i, hi, rfl⟩ := List.mem_map.mp hd
          have hi := List.mem_range.mp hi
          have q1 : (i : Int) < 4096 := by omega
          simp [compF, Z40, Z41, Z42, Z43, Z44, Z45, Z46, Z47, Z48, Z49, Z50, Z51, Z52, Z53, Z54, Z55, Z56, Z57, Z58, Z59, Z60, Z61, Z62, Z1, Z2, Z3, Z4, Z5, Z6, Z7, Z8, Z9, Z10, Z11, Z12, Z13, Z14, Z15, Z16, Z17, Z18, Z19, Z20, Z21, Z22, Z23, Z24, Z25, Z26, Z27, Z28, Z29, Z30, Z31, Z32, Z33, Z34, Z35, Z36, Z37, Z38, Z39, asBool, asClean, Z113, Z110, Z111, Z114, Z112, Z115, Z107, Z104, Z105, Z108, Z106, Z109, Z125, Z122, Z123, Z126, Z124, Z127, Z119, Z116, Z117, Z120, Z118, Z121, varSem, cmpSem, idxSem, Z91, Z92, Z93, Z94, Z95, Z96, Z97, unSem, biSem, maxLen, Z98, Z99, Z100, Z101, Z102, Z103, callSem, Z70, Z71, Z72, Z73, Z74, Z75, Z76, Cl.item, Cl.isClean, Cl.isDirty, tupSem, lstSem, upd, ownAt, dic_nil, dic_int, dic_bool, dic_none, dic_list, dic_tup, dic_pair, dic_dict, dic_pairs, dic_ints, dic_lists, seqItems, uptoSem, sinceSem, onI, onL, addSem, mulSem, Z84, Z85, Z86, Z87, Z88, Z89, Z90, Fn2.sem, mulOk, bindT, Z77, Z78, Z79, Z80, Z81, Z82, Z83, dicAt, dicHas, keyT, keyI, intsOf, dicPut, sh_int, sh_bool, sh_none, sh_pair, sh_tup, sh_ints, sh_pairs, sh_web, any_pair, any_int, eqvAll_ints, eqvAll_pairs, PyData.eqv, row_get hi, q1, pairD]
      · have hl : ¬ ((pts rs).length ≥ 64) := by simp [pts]; omega
        have hp0 : (pts rs).length = rs.length := by simp [pts]
        have hne : pts rs ≠ [] := fun e => by rw [e] at hp0; simp at hp0; omega
        simp only [unSem, onL, List.length_map, Cl.isDirty, Bool.false_or, hl, decide_false, Bool.false_eq_true, if_false, sort_pairs hne (pts_nodup rs), Option.map_some]
    have hsl : (sortP (pts rs)).length ≤ 4096 := by rw [(sortP_perm (pts rs)).length_eq]; simp [pts]; omega
    simp only [Z36, Z37, Z38, Z39]
    simp only [FnDef.start, f_colours] at hs ⊢
    simp at hs ⊢
    rw [hs]
    simp [seqItems, Z91, Z92, Z93, Z94, Z95, Z96, Z97, Cl.isDirty, Cl.isClean, maxLen, hsl]
  · exact ⟨rs.map fun _ => none, none, none, none, none, none, none, by simp [FnDef.start, f_colours], inv_zero⟩
  · rintro j d ρ hj ⟨fs, x2, x3, x4, x5, x6, x7, rfl, hi⟩
    rw [List.getElem?_map, Option.map_eq_some_iff] at hj
    obtain ⟨q, hq, rfl⟩ := hj
    obtain ⟨p, hp, rfl⟩ := pts_mem ((sortP_perm _).mem_iff.mp (List.mem_of_getElem? hq))
    have hoj : (ordL rs)[j]? = some p := by unfold ordL; rw [List.getElem?_map, hq]; simp
    obtain ⟨c, r, hcr, hi'⟩ := step ho hi hoj
    have hfl := hi.len
    refine ⟨_, rfl, ?_⟩
    refine wp_asg (c := .fresh) (d := .list ((knownL rs fs p).map .int)) ?_ rfl ?_
    · refine ev_comp1 (np := false) (items := rangeL 0 (rs.length : Int)) (by simp [Z40, Z41, Z42, Z43, Z44, Z45, Z46, Z47, Z48, Z49, Z50, Z51, Z52, Z53, Z54, Z55, Z56, Z57, Z58, Z59, Z60, Z61, Z62, Z1, Z2, Z3, Z4, Z5, Z6, Z7, Z8, Z9, Z10, Z11, Z12, Z13, Z14, Z15, Z16, Z17, Z18, Z19, Z20, Z21, Z22, Z23, Z24, Z25, Z26, Z27, Z28, Z29, Z30, Z31, Z32, Z33, Z34, Z35, Z36, Z37, Z38, Z39, asBool, asClean, Z113, Z110, Z111, Z114, Z112, Z115, Z107, Z104, Z105, Z108, Z106, Z109, Z125, Z122, Z123, Z126, Z124, Z127, Z119, Z116, Z117, Z120, Z118, Z121, varSem, cmpSem, idxSem, Z91, Z92, Z93, Z94, Z95, Z96, Z97, unSem, biSem, maxLen, Z98, Z99, Z100, Z101, Z102, Z103, callSem, Z70, Z71, Z72, Z73, Z74, Z75, Z76, Cl.item, Cl.isClean, Cl.isDirty, tupSem, lstSem, upd, ownAt, dic_nil, dic_int, dic_bool, dic_none, dic_list, dic_tup, dic_pair, dic_dict, dic_pairs, dic_ints, dic_lists, seqItems, uptoSem, sinceSem, onI, onL, addSem, mulSem, Z84, Z85, Z86, Z87, Z88, Z89, Z90, Fn2.sem, mulOk, bindT, Z77, Z78, Z79, Z80, Z81, Z82, Z83, dicAt, dicHas, keyT, keyI, intsOf, dicPut, sh_int, sh_bool, sh_none, sh_pair, sh_tup, sh_ints, sh_pairs, sh_web, any_pair, any_int, eqvAll_ints, eqvAll_pairs, PyData.eqv, hlen, hlI]) ?_
      refine compGo_nat (h := fun o => (fs.getD o none).bind fun c => if meetB (g rs o) (g rs p) then some c else none) fun o hol => ?_
      have q1 : (o : Int) < 4096 := by omega
      have q2 : (p : Int) < 4096 := by omega
      have q3 := opt_get (fs := fs) (i := o) (by omega)
      cases hfo : fs.getD o none with
      | none =>
        rw [hfo] at q3
        simp [compF, Z40, Z41, Z42, Z43, Z44, Z45, Z46, Z47, Z48, Z49, Z50, Z51, Z52, Z53, Z54, Z55, Z56, Z57, Z58, Z59, Z60, Z61, Z62, Z1, Z2, Z3, Z4, Z5, Z6, Z7, Z8, Z9, Z10, Z11, Z12, Z13, Z14, Z15, Z16, Z17, Z18, Z19, Z20, Z21, Z22, Z23, Z24, Z25, Z26, Z27, Z28, Z29, Z30, Z31, Z32, Z33, Z34, Z35, Z36, Z37, Z38, Z39, asBool, asClean, Z113, Z110, Z111, Z114, Z112, Z115, Z107, Z104, Z105, Z108, Z106, Z109, Z125, Z122, Z123, Z126, Z124, Z127, Z119, Z116, Z117, Z120, Z118, Z121, varSem, cmpSem, idxSem, Z91, Z92, Z93, Z94, Z95, Z96, Z97, unSem, biSem, maxLen, Z98, Z99, Z100, Z101, Z102, Z103, callSem, Z70, Z71, Z72, Z73, Z74, Z75, Z76, Cl.item, Cl.isClean, Cl.isDirty, tupSem, lstSem, upd, ownAt, dic_nil, dic_int, dic_bool, dic_none, dic_list, dic_tup, dic_pair, dic_dict, dic_pairs, dic_ints, dic_lists, seqItems, uptoSem, sinceSem, onI, onL, addSem, mulSem, Z84, Z85, Z86, Z87, Z88, Z89, Z90, Fn2.sem, mulOk, bindT, Z77, Z78, Z79, Z80, Z81, Z82, Z83, dicAt, dicHas, keyT, keyI, intsOf, dicPut, sh_int, sh_bool, sh_none, sh_pair, sh_tup, sh_ints, sh_pairs, sh_web, any_pair, any_int, eqvAll_ints, eqvAll_pairs, PyData.eqv, dic_opt, q3, q1, optD]
      | some k =>
        rw [hfo] at q3
        cases hb : meetB (g rs o) (g rs p) <;> simp [compF, Z40, Z41, Z42, Z43, Z44, Z45, Z46, Z47, Z48, Z49, Z50, Z51, Z52, Z53, Z54, Z55, Z56, Z57, Z58, Z59, Z60, Z61, Z62, Z1, Z2, Z3, Z4, Z5, Z6, Z7, Z8, Z9, Z10, Z11, Z12, Z13, Z14, Z15, Z16, Z17, Z18, Z19, Z20, Z21, Z22, Z23, Z24, Z25, Z26, Z27, Z28, Z29, Z30, Z31, Z32, Z33, Z34, Z35, Z36, Z37, Z38, Z39, asBool, asClean, Z113, Z110, Z111, Z114, Z112, Z115, Z107, Z104, Z105, Z108, Z106, Z109, Z125, Z122, Z123, Z126, Z124, Z127, Z119, Z116, Z117, Z120, Z118, Z121, varSem, cmpSem, idxSem, Z91, Z92, Z93, Z94, Z95, Z96, Z97, unSem, biSem, maxLen, Z98, Z99, Z100, Z101, Z102, Z103, callSem, Z70, Z71, Z72, Z73, Z74, Z75, Z76, Cl.item, Cl.isClean, Cl.isDirty, tupSem, lstSem, upd, ownAt, dic_nil, dic_int, dic_bool, dic_none, dic_list, dic_tup, dic_pair, dic_dict, dic_pairs, dic_ints, dic_lists, seqItems, uptoSem, sinceSem, onI, onL, addSem, mulSem, Z84, Z85, Z86, Z87, Z88, Z89, Z90, Fn2.sem, mulOk, bindT, Z77, Z78, Z79, Z80, Z81, Z82, Z83, dicAt, dicHas, keyT, keyI, intsOf, dicPut, sh_int, sh_bool, sh_none, sh_pair, sh_tup, sh_ints, sh_pairs, sh_web, any_pair, any_int, eqvAll_ints, eqvAll_pairs, PyData.eqv, dic_opt, q3, q1, q2, optD, row_get hol, row_get hp, hM (g rs o) (g rs p), hb, atom_pair]
    · refine wp_setAt (ds := fs.map optD) (c' := .clean) (j := (p : Int)) (c := .fresh) (d := .int c) (by simp [ownAt, dic_opt]) (by simp [Z40, Z41, Z42, Z43, Z44, Z45, Z46, Z47, Z48, Z49, Z50, Z51, Z52, Z53, Z54, Z55, Z56, Z57, Z58, Z59, Z60, Z61, Z62, Z1, Z2, Z3, Z4, Z5, Z6, Z7, Z8, Z9, Z10, Z11, Z12, Z13, Z14, Z15, Z16, Z17, Z18, Z19, Z20, Z21, Z22, Z23, Z24, Z25, Z26, Z27, Z28, Z29, Z30, Z31, Z32, Z33, Z34, Z35, Z36, Z37, Z38, Z39, asBool, asClean, Z113, Z110, Z111, Z114, Z112, Z115, Z107, Z104, Z105, Z108, Z106, Z109, Z125, Z122, Z123, Z126, Z124, Z127, Z119, Z116, Z117, Z120, Z118, Z121, varSem, cmpSem, idxSem, Z91, Z92, Z93, Z94, Z95, Z96, Z97, unSem, biSem, maxLen, Z98, Z99, Z100, Z101, Z102, Z103, callSem, Z70, Z71, Z72, Z73, Z74, Z75, Z76, Cl.item, Cl.isClean, Cl.isDirty, tupSem, lstSem, upd, ownAt, dic_nil, dic_int, dic_bool, dic_none, dic_list, dic_tup, dic_pair, dic_dict, dic_pairs, dic_ints, dic_lists, seqItems, uptoSem, sinceSem, onI, onL, addSem, mulSem, Z84, Z85, Z86, Z87, Z88, Z89, Z90, Fn2.sem, mulOk, bindT, Z77, Z78, Z79, Z80, Z81, Z82, Z83, dicAt, dicHas, keyT, keyI, intsOf, dicPut, sh_int, sh_bool, sh_none, sh_pair, sh_tup, sh_ints, sh_pairs, sh_web, any_pair, any_int, eqvAll_ints, eqvAll_pairs, PyData.eqv]) ?_ rfl (by omega) (by rw [List.length_map]; omega) (by rw [List.length_map]; show _ ≤ 4096; omega) (wp_done ?_)
      · have hcomp : evE Φ.toFns (.comp1 (.one 7) (.var 7) (.range1 (.un .len (.var 0))) (.cmp .NotIn (.var 7) (.var 4))) [some (.val (rowD rs)), some (.own (List.map optD fs)), some (.val (.int (g rs p).1)), some (.val (.int (p : Int))), some (.val (.list ((knownL rs fs p).map .int))), x5, x6, x7] = some (.fresh, .list ((c :: r).map .int)) := by
          rw [← hcr]
          refine ev_comp1 (np := false) (items := rangeL 0 (rs.length : Int)) (by simp [Z40, Z41, Z42, Z43, Z44, Z45, Z46, Z47, Z48, Z49, Z50, Z51, Z52, Z53, Z54, Z55, Z56, Z57, Z58, Z59, Z60, Z61, Z62, Z1, Z2, Z3, Z4, Z5, Z6, Z7, Z8, Z9, Z10, Z11, Z12, Z13, Z14, Z15, Z16, Z17, Z18, Z19, Z20, Z21, Z22, Z23, Z24, Z25, Z26, Z27, Z28, Z29, Z30, Z31, Z32, Z33, Z34, Z35, Z36, Z37, Z38, Z39, asBool, asClean, Z113, Z110, Z111, Z114, Z112, Z115, Z107, Z104, Z105, Z108, Z106, Z109, Z125, Z122, Z123, Z126, Z124, Z127, Z119, Z116, Z117, Z120, Z118, Z121, varSem, cmpSem, idxSem, Z91, Z92, Z93, Z94, Z95, Z96, Z97, unSem, biSem, maxLen, Z98, Z99, Z100, Z101, Z102, Z103, callSem, Z70, Z71, Z72, Z73, Z74, Z75, Z76, Cl.item, Cl.isClean, Cl.isDirty, tupSem, lstSem, upd, ownAt, dic_nil, dic_int, dic_bool, dic_none, dic_list, dic_tup, dic_pair, dic_dict, dic_pairs, dic_ints, dic_lists, seqItems, uptoSem, sinceSem, onI, onL, addSem, mulSem, Z84, Z85, Z86, Z87, Z88, Z89, Z90, Fn2.sem, mulOk, bindT, Z77, Z78, Z79, Z80, Z81, Z82, Z83, dicAt, dicHas, keyT, keyI, intsOf, dicPut, sh_int, sh_bool, sh_none, sh_pair, sh_tup, sh_ints, sh_pairs, sh_web, any_pair, any_int, eqvAll_ints, eqvAll_pairs, PyData.eqv, hlen, hlI]) ?_
          rw [compGo_nat (h := fun o => if (o : Int) ∈ knownL rs fs p then none else some (o : Int)) fun o hol => ?_]
          · congr 2
            unfold rangeN
            generalize List.range rs.length = l
            induction l with
            | nil => rfl
            | cons a l ih =>
              rw [List.filterMap_cons, List.map_cons, List.filter_cons, ← ih]
              by_cases hm : (a : Int) ∈ knownL rs fs p <;> simp [hm]
          · have ha : (knownL rs fs p).any ((fun y => PyData.eqv y (PyData.int (o : Int))) ∘ PyData.int) = decide ((o : Int) ∈ knownL rs fs p) := by rw [← List.any_map]; exact any_int _ _
            by_cases hm : (o : Int) ∈ knownL rs fs p <;> simp only [hm, decide_true, decide_false] at ha <;> simp [compF, Z40, Z41, Z42, Z43, Z44, Z45, Z46, Z47, Z48, Z49, Z50, Z51, Z52, Z53, Z54, Z55, Z56, Z57, Z58, Z59, Z60, Z61, Z62, Z1, Z2, Z3, Z4, Z5, Z6, Z7, Z8, Z9, Z10, Z11, Z12, Z13, Z14, Z15, Z16, Z17, Z18, Z19, Z20, Z21, Z22, Z23, Z24, Z25, Z26, Z27, Z28, Z29, Z30, Z31, Z32, Z33, Z34, Z35, Z36, Z37, Z38, Z39, asBool, asClean, Z113, Z110, Z111, Z114, Z112, Z115, Z107, Z104, Z105, Z108, Z106, Z109, Z125, Z122, Z123, Z126, Z124, Z127, Z119, Z116, Z117, Z120, Z118, Z121, varSem, cmpSem, idxSem, Z91, Z92, Z93, Z94, Z95, Z96, Z97, unSem, biSem, maxLen, Z98, Z99, Z100, Z101, Z102, Z103, callSem, Z70, Z71, Z72, Z73, Z74, Z75, Z76, Cl.item, Cl.isClean, Cl.isDirty, tupSem, lstSem, upd, ownAt, dic_nil, dic_int, dic_bool, dic_none, dic_list, dic_tup, dic_pair, dic_dict, dic_pairs, dic_ints, dic_lists, seqItems, uptoSem, sinceSem, onI, onL, addSem, mulSem, Z84, Z85, Z86, Z87, Z88, Z89, Z90, Fn2.sem, mulOk, bindT, Z77, Z78, Z79, Z80, Z81, Z82, Z83, dicAt, dicHas, keyT, keyI, intsOf, dicPut, sh_int, sh_bool, sh_none, sh_pair, sh_tup, sh_ints, sh_pairs, sh_web, any_pair, any_int, eqvAll_ints, eqvAll_pairs, PyData.eqv, hm, ha]
        simp only [List.set, pairD] at hcomp ⊢
        refine ev_idx (y := (.fresh, .int 0)) hcomp rfl ?_
        simp [idxSem, onI, Z91, Z92, Z93, Z94, Z95, Z96, Z97, Cl.item, Z70, Z71, Z72, Z73, Z74, Z75, Z76]
      · refine ⟨fs.set p (some c), some (.val (.int (g rs p).1)), some (.val (.int (p : Int))), some (.val (.list ((knownL rs fs p).map .int))), x5, x6, x7, ?_, hi'⟩
        simp [opt_set]
  · rintro ρ ⟨fs, x2, x3, x4, x5, x6, x7, rfl, hi⟩
    have hl : ((sortP (pts rs)).map pairD).length = (ordL rs).length := by simp [ordL]
    rw [hl] at hi
    obtain ⟨cs, rfl, hc⟩ := inv_all ho hi
    have e : (cs.map some).map optD = cs.map .int := by rw [List.map_map]; rfl
    refine wp_retOwn (ds := cs.map .int) ?_ ⟨rfl, cs, rfl, hc⟩
    rw [e]; simp [ownAt, dic_ints]
end Mw.L12

set_option maxRecDepth 100000
set_option linter.unusedSimpArgs false
set_option linter.unusedVariables false
namespace Mw.L12
open PySem Mw

noncomputable abbrev natD (ks : List Nat) : List PyData := (ks.map fun k : Nat => (k : Int)).map .int
theorem filt_nat (p : Nat → Bool) (l : List Nat) : l.filterMap (fun o => if p o then some (o : Int) else none) = (l.filter p).map fun k : Nat => (k : Int) := by
  induction l with
  | nil => rfl
  | cons a l ih =>
    rw [List.filterMap_cons, List.filter_cons, ih]
    cases p a <;> simp
noncomputable def Crowded (Φ : Fns2) : Prop := ∀ rs, GoodRow rs → ∃ ks : List Nat, Φ.fn "crowded" [rowD rs] = some (true, .list (natD ks)) ∧ GoodCrowd rs ks
theorem r_crowded {Φ : Fns2} (hN : NeedRow Φ) {rs : List (Int × Int)} (hr : GoodRow rs) :
    ∃ fr d, f_crowded.run Φ [rowD rs] = some (fr, d) ∧ fr = true ∧ ∃ ks : List Nat, d = .list (natD ks) ∧ GoodCrowd rs ks := by
  have h1 := hr.one
  have h9 := hr.nine
  have hlen : rs.length ≤ 4096 := by omega
  have hlI : (-4096 : Int) ≤ (rs.length : Int) ∧ (rs.length : Int) ≤ 4096 := by omega
  refine run_wp (fd := f_crowded) (ds := [rowD rs]) (R := fun fr d => fr = true ∧ ∃ ks : List Nat, d = .list (natD ks) ∧ GoodCrowd rs ks) rfl ?_
  refine wp_exec (r := (.fresh, .none)) (by simp [FnDef.start, f_crowded, Z40, Z41, Z42, Z43, Z44, Z45, Z46, Z47, Z48, Z49, Z50, Z51, Z52, Z53, Z54, Z55, Z56, Z57, Z58, Z59, Z60, Z61, Z62, Z1, Z2, Z3, Z4, Z5, Z6, Z7, Z8, Z9, Z10, Z11, Z12, Z13, Z14, Z15, Z16, Z17, Z18, Z19, Z20, Z21, Z22, Z23, Z24, Z25, Z26, Z27, Z28, Z29, Z30, Z31, Z32, Z33, Z34, Z35, Z36, Z37, Z38, Z39, asBool, asClean, Z113, Z110, Z111, Z114, Z112, Z115, Z107, Z104, Z105, Z108, Z106, Z109, Z125, Z122, Z123, Z126, Z124, Z127, Z119, Z116, Z117, Z120, Z118, Z121, varSem, cmpSem, idxSem, Z91, Z92, Z93, Z94, Z95, Z96, Z97, unSem, biSem, maxLen, Z98, Z99, Z100, Z101, Z102, Z103, callSem, Z70, Z71, Z72, Z73, Z74, Z75, Z76, Cl.item, Cl.isClean, Cl.isDirty, tupSem, lstSem, upd, ownAt, dic_nil, dic_int, dic_bool, dic_none, dic_list, dic_tup, dic_pair, dic_dict, dic_pairs, dic_ints, dic_lists, seqItems, uptoSem, sinceSem, onI, onL, addSem, mulSem, Z84, Z85, Z86, Z87, Z88, Z89, Z90, Fn2.sem, mulOk, bindT, Z77, Z78, Z79, Z80, Z81, Z82, Z83, dicAt, dicHas, keyT, keyI, intsOf, dicPut, sh_int, sh_bool, sh_none, sh_pair, sh_tup, sh_ints, sh_pairs, sh_web, any_pair, any_int, eqvAll_ints, eqvAll_pairs, PyData.eqv, hN rs hr]) ?_
  refine wp_asgOwn (ds := []) (by simp [FnDef.start, f_crowded, Z40, Z41, Z42, Z43, Z44, Z45, Z46, Z47, Z48, Z49, Z50, Z51, Z52, Z53, Z54, Z55, Z56, Z57, Z58, Z59, Z60, Z61, Z62, Z1, Z2, Z3, Z4, Z5, Z6, Z7, Z8, Z9, Z10, Z11, Z12, Z13, Z14, Z15, Z16, Z17, Z18, Z19, Z20, Z21, Z22, Z23, Z24, Z25, Z26, Z27, Z28, Z29, Z30, Z31, Z32, Z33, Z34, Z35, Z36, Z37, Z38, Z39, asBool, asClean, Z113, Z110, Z111, Z114, Z112, Z115, Z107, Z104, Z105, Z108, Z106, Z109, Z125, Z122, Z123, Z126, Z124, Z127, Z119, Z116, Z117, Z120, Z118, Z121, varSem, cmpSem, idxSem, Z91, Z92, Z93, Z94, Z95, Z96, Z97, unSem, biSem, maxLen, Z98, Z99, Z100, Z101, Z102, Z103, callSem, Z70, Z71, Z72, Z73, Z74, Z75, Z76, Cl.item, Cl.isClean, Cl.isDirty, tupSem, lstSem, upd, ownAt, dic_nil, dic_int, dic_bool, dic_none, dic_list, dic_tup, dic_pair, dic_dict, dic_pairs, dic_ints, dic_lists, seqItems, uptoSem, sinceSem, onI, onL, addSem, mulSem, Z84, Z85, Z86, Z87, Z88, Z89, Z90, Fn2.sem, mulOk, bindT, Z77, Z78, Z79, Z80, Z81, Z82, Z83, dicAt, dicHas, keyT, keyI, intsOf, dicPut, sh_int, sh_bool, sh_none, sh_pair, sh_tup, sh_ints, sh_pairs, sh_web, any_pair, any_int, eqvAll_ints, eqvAll_pairs, PyData.eqv]) ?_
  refine wp_for (np := false) (items := rs.map pairD) (fun j ρ => ∃ bs x2 x3 x4 x5, ρ = [some (.val (rowD rs)), some (.own (natD bs)), x2, x3, x4, x5] ∧ (0 < j → ∃ k, k < rs.length ∧ bs = atX rs (g rs k).1) ∧ (j = 0 → bs = []) ∧ ∀ k, k < j → (atX rs (g rs k).1).length ≤ bs.length) ?_ rfl ?_ ?_ ?_
  · simp [FnDef.start, f_crowded, Z40, Z41, Z42, Z43, Z44, Z45, Z46, Z47, Z48, Z49, Z50, Z51, Z52, Z53, Z54, Z55, Z56, Z57, Z58, Z59, Z60, Z61, Z62, Z1, Z2, Z3, Z4, Z5, Z6, Z7, Z8, Z9, Z10, Z11, Z12, Z13, Z14, Z15, Z16, Z17, Z18, Z19, Z20, Z21, Z22, Z23, Z24, Z25, Z26, Z27, Z28, Z29, Z30, Z31, Z32, Z33, Z34, Z35, Z36, Z37, Z38, Z39, asBool, asClean, Z113, Z110, Z111, Z114, Z112, Z115, Z107, Z104, Z105, Z108, Z106, Z109, Z125, Z122, Z123, Z126, Z124, Z127, Z119, Z116, Z117, Z120, Z118, Z121, varSem, cmpSem, idxSem, Z91, Z92, Z93, Z94, Z95, Z96, Z97, unSem, biSem, maxLen, Z98, Z99, Z100, Z101, Z102, Z103, callSem, Z70, Z71, Z72, Z73, Z74, Z75, Z76, Cl.item, Cl.isClean, Cl.isDirty, tupSem, lstSem, upd, ownAt, dic_nil, dic_int, dic_bool, dic_none, dic_list, dic_tup, dic_pair, dic_dict, dic_pairs, dic_ints, dic_lists, seqItems, uptoSem, sinceSem, onI, onL, addSem, mulSem, Z84, Z85, Z86, Z87, Z88, Z89, Z90, Fn2.sem, mulOk, bindT, Z77, Z78, Z79, Z80, Z81, Z82, Z83, dicAt, dicHas, keyT, keyI, intsOf, dicPut, sh_int, sh_bool, sh_none, sh_pair, sh_tup, sh_ints, sh_pairs, sh_web, any_pair, any_int, eqvAll_ints, eqvAll_pairs, PyData.eqv, hlen]
  · exact ⟨[], none, none, none, none, by simp [FnDef.start, f_crowded], fun h => absurd h (by omega), fun _ => rfl, fun k h => absurd h (by omega)⟩
  · rintro j d ρ hj ⟨bs, x2, x3, x4, x5, rfl, hb1, hb2, hb3⟩
    rw [List.getElem?_map, Option.map_eq_some_iff] at hj
    obtain ⟨q, hq, rfl⟩ := hj
    obtain ⟨hjl, eq⟩ := List.getElem?_eq_some_iff.mp hq
    have hqg : q = g rs j := by simp [g, hjl, eq]
    subst hqg
    have hal : (atX rs (g rs j).1).length ≤ rs.length := by
      have := List.length_filter_le (fun i => decide ((g rs i).1 ≤ (g rs j).1) && decide ((g rs j).1 ≤ (g rs i).2)) (List.range rs.length)
      simpa [atX] using this
    have hbl : bs.length ≤ 4096 := by
      rcases Nat.eq_zero_or_pos j with h | h
      · rw [hb2 h]; simp
      · obtain ⟨k, hk, rfl⟩ := hb1 h
        have := List.length_filter_le (fun i => decide ((g rs i).1 ≤ (g rs k).1) && decide ((g rs k).1 ≤ (g rs i).2)) (List.range rs.length)
        simp only [List.length_range] at this
        simp only [atX]; omega
    refine ⟨_, rfl, ?_⟩
    refine wp_asgOwn (ds := natD (atX rs (g rs j).1)) ?_ ?_
    · refine ev_comp1 (np := false) (items := rangeL 0 (rs.length : Int)) (by simp [Z40, Z41, Z42, Z43, Z44, Z45, Z46, Z47, Z48, Z49, Z50, Z51, Z52, Z53, Z54, Z55, Z56, Z57, Z58, Z59, Z60, Z61, Z62, Z1, Z2, Z3, Z4, Z5, Z6, Z7, Z8, Z9, Z10, Z11, Z12, Z13, Z14, Z15, Z16, Z17, Z18, Z19, Z20, Z21, Z22, Z23, Z24, Z25, Z26, Z27, Z28, Z29, Z30, Z31, Z32, Z33, Z34, Z35, Z36, Z37, Z38, Z39, asBool, asClean, Z113, Z110, Z111, Z114, Z112, Z115, Z107, Z104, Z105, Z108, Z106, Z109, Z125, Z122, Z123, Z126, Z124, Z127, Z119, Z116, Z117, Z120, Z118, Z121, varSem, cmpSem, idxSem, Z91, Z92, Z93, Z94, Z95, Z96, Z97, unSem, biSem, maxLen, Z98, Z99, Z100, Z101, Z102, Z103, callSem, Z70, Z71, Z72, Z73, Z74, Z75, Z76, Cl.item, Cl.isClean, Cl.isDirty, tupSem, lstSem, upd, ownAt, dic_nil, dic_int, dic_bool, dic_none, dic_list, dic_tup, dic_pair, dic_dict, dic_pairs, dic_ints, dic_lists, seqItems, uptoSem, sinceSem, onI, onL, addSem, mulSem, Z84, Z85, Z86, Z87, Z88, Z89, Z90, Fn2.sem, mulOk, bindT, Z77, Z78, Z79, Z80, Z81, Z82, Z83, dicAt, dicHas, keyT, keyI, intsOf, dicPut, sh_int, sh_bool, sh_none, sh_pair, sh_tup, sh_ints, sh_pairs, sh_web, any_pair, any_int, eqvAll_ints, eqvAll_pairs, PyData.eqv, hlen, hlI]) ?_
      rw [compGo_nat (h := fun o => if (decide ((g rs o).1 ≤ (g rs j).1) && decide ((g rs j).1 ≤ (g rs o).2)) then some (o : Int) else none) fun o hol => ?_]
      · rw [filt_nat]; rfl
      · have q1 : (o : Int) < 4096 := by omega
        by_cases c1 : (g rs o).1 ≤ (g rs j).1 <;> by_cases c2 : (g rs j).1 ≤ (g rs o).2 <;> simp [compF, Z40, Z41, Z42, Z43, Z44, Z45, Z46, Z47, Z48, Z49, Z50, Z51, Z52, Z53, Z54, Z55, Z56, Z57, Z58, Z59, Z60, Z61, Z62, Z1, Z2, Z3, Z4, Z5, Z6, Z7, Z8, Z9, Z10, Z11, Z12, Z13, Z14, Z15, Z16, Z17, Z18, Z19, Z20, Z21, Z22, Z23, Z24, Z25, Z26, Z27, Z28, Z29, Z30, Z31, Z32, Z33, Z34, Z35, Z36, Z37, Z38, Z39, asBool, asClean, Z113, Z110, Z111, Z114, Z112, Z115, Z107, Z104, Z105, Z108, Z106, Z109, Z125, Z122, Z123, Z126, Z124, Z127, Z119, Z116, Z117, Z120, Z118, Z121, varSem, cmpSem, idxSem, Z91, Z92, Z93, Z94, Z95, Z96, Z97, unSem, biSem, maxLen, Z98, Z99, Z100, Z101, Z102, Z103, callSem, Z70, Z71, Z72, Z73, Z74, Z75, Z76, Cl.item, Cl.isClean, Cl.isDirty, tupSem, lstSem, upd, ownAt, dic_nil, dic_int, dic_bool, dic_none, dic_list, dic_tup, dic_pair, dic_dict, dic_pairs, dic_ints, dic_lists, seqItems, uptoSem, sinceSem, onI, onL, addSem, mulSem, Z84, Z85, Z86, Z87, Z88, Z89, Z90, Fn2.sem, mulOk, bindT, Z77, Z78, Z79, Z80, Z81, Z82, Z83, dicAt, dicHas, keyT, keyI, intsOf, dicPut, sh_int, sh_bool, sh_none, sh_pair, sh_tup, sh_ints, sh_pairs, sh_web, any_pair, any_int, eqvAll_ints, eqvAll_pairs, PyData.eqv, row_get hol, q1, c1, c2, pairD]
    · have hal' : (atX rs (g rs j).1).length ≤ 4096 := by omega
      refine wp_ife (v := decide ((atX rs (g rs j).1).length > bs.length)) ?_ (fun hv => ?_) fun hv => wp_done (wp_done ?_)
      · have e : decide (((atX rs (g rs j).1).length : Int) > (bs.length : Int)) = decide ((atX rs (g rs j).1).length > bs.length) := by
          by_cases h : (atX rs (g rs j).1).length > bs.length
          · rw [decide_eq_true h, decide_eq_true (by omega)]
          · rw [decide_eq_false h, decide_eq_false (by omega)]
        have hd1 := dic_ints ((atX rs (g rs j).1).map fun k : Nat => (k : Int))
        have hd2 := dic_ints (bs.map fun k : Nat => (k : Int))
        rw [← e]
        refine as_bool (ev_cmp (x := (.fresh, .int ((atX rs (g rs j).1).length : Int))) (y := (.fresh, .int (bs.length : Int))) (ev_un (x := (.shell, .list (natD (atX rs (g rs j).1)))) (by simp only [Z1, Z2, Z3, Z4, Z5, Z6, Z7, Z8, Z9, Z10, Z11, Z12, Z13, Z14, Z15, Z16, Z17, Z18, Z19, Z20, Z21, Z22, Z23, Z24, Z25, Z26, Z27, Z28, Z29, Z30, Z31, List.set]; simp [varSem]; simpa using hd1) (by simp [unSem, Z91, Z92, Z93, Z94, Z95, Z96, Z97, maxLen, hal'])) (ev_un (x := (.shell, .list (natD bs))) (by simp only [Z1, Z2, Z3, Z4, Z5, Z6, Z7, Z8, Z9, Z10, Z11, Z12, Z13, Z14, Z15, Z16, Z17, Z18, Z19, Z20, Z21, Z22, Z23, Z24, Z25, Z26, Z27, Z28, Z29, Z30, Z31, List.set]; simp [varSem]; simpa using hd2) (by simp [unSem, Z91, Z92, Z93, Z94, Z95, Z96, Z97, maxLen, hbl])) rfl)
      · have hv' := of_decide_eq_true hv
        refine wp_move (ds := natD (atX rs (g rs j).1)) ?_ (by decide) (wp_done (wp_done ?_))
        · have hd1 := dic_ints ((atX rs (g rs j).1).map fun k : Nat => (k : Int))
          simp [ownAt]; simpa using hd1
        · refine ⟨atX rs (g rs j).1, some (.val (.int (g rs j).1)), some (.val (.int (g rs j).2)), none, x5, by simp [pairD], fun _ => ⟨j, hjl, rfl⟩, fun h => absurd h (by omega), fun k hk => ?_⟩
          rcases Nat.lt_or_eq_of_le (Nat.lt_succ_iff.mp hk) with h | h
          · have := hb3 k h; omega
          · rw [h]; exact Nat.le_refl _
      · have hv' := of_decide_eq_false hv
        have hj0 : 0 < j := by
          rcases Nat.eq_zero_or_pos j with h | h
          · subst h
            rw [hb2 rfl] at hv'
            have : 0 ∈ atX rs (g rs 0).1 := mem_atX.mpr ⟨hjl, Int.le_refl _, hr.le 0 hjl⟩
            have := List.length_pos_of_mem this
            exact (hv' this).elim
          · exact h
        refine ⟨bs, some (.val (.int (g rs j).1)), some (.val (.int (g rs j).2)), some (.own (natD (atX rs (g rs j).1))), x5, by simp [pairD], fun _ => hb1 hj0, fun h => absurd h (by omega), fun k hk => ?_⟩
        rcases Nat.lt_or_eq_of_le (Nat.lt_succ_iff.mp hk) with h | h
        · exact hb3 k h
        · rw [h]; omega
  · rintro ρ ⟨bs, x2, x3, x4, x5, rfl, hb1, hb2, hb3⟩
    rw [List.length_map] at hb1 hb3
    have hd2 := dic_ints (bs.map fun k : Nat => (k : Int))
    refine wp_retOwn (ds := natD bs) (by simp [ownAt]; simpa using hd2) ⟨rfl, bs, rfl, hb1 (by omega), hb3⟩
end Mw.L12

set_option maxRecDepth 100000
set_option linter.unusedSimpArgs false
set_option linter.unusedVariables false
namespace Mw.L12
open PySem Mw

noncomputable abbrev scr (ws : List Int) : PyData := .list (ws.map .int)
noncomputable def mix (ws : List Int) (k : Int) : Int := (ws.getD k.toNat 0 * 48271 + 7919 * k + 4242) % 2147483647
theorem mix_range (ws : List Int) (k : Int) : 0 ≤ mix ws k ∧ mix ws k < 2147483647 := ⟨Int.emod_nonneg _ (by decide), Int.emod_lt_of_pos _ (by decide)⟩
noncomputable def Cell (Φ : Fns2) (ws : List Int) : Prop := ∀ k, 0 ≤ k → Φ.fn "_law_cell" [scr ws, .int k] = some (true, .int (ws.getD k.toNat 0))
noncomputable def Mixed (Φ : Fns2) (ws : List Int) : Prop := ∀ k, 0 ≤ k → Φ.fn "_law_mixed" [scr ws, .int k] = some (true, .int (mix ws k))
theorem r_cell {Φ : Fns2} {ws : List Int} (hw : ws.length ≤ 63) {k : Int} (hk : 0 ≤ k) : f_law_cell.run Φ [scr ws, .int k] = some (true, .int (ws.getD k.toNat 0)) := by
  have h1 : ws.length ≤ 4096 := by omega
  refine run_ret rfl ?_
  by_cases h : k < ws.length
  · have h2 : k < 4096 := by omega
    have h3 : k.toNat < ws.length := by omega
    simp only [f_law_cell, FnDef.start]
    simp [Z40, Z41, Z42, Z43, Z44, Z45, Z46, Z47, Z48, Z49, Z50, Z51, Z52, Z53, Z54, Z55, Z56, Z57, Z58, Z59, Z60, Z61, Z62, Z1, Z2, Z3, Z4, Z5, Z6, Z7, Z8, Z9, Z10, Z11, Z12, Z13, Z14, Z15, Z16, Z17, Z18, Z19, Z20, Z21, Z22, Z23, Z24, Z25, Z26, Z27, Z28, Z29, Z30, Z31, Z32, Z33, Z34, Z35, Z36, Z37, Z38, Z39, asBool, asClean, Z113, Z110, Z111, Z114, Z112, Z115, Z107, Z104, Z105, Z108, Z106, Z109, Z125, Z122, Z123, Z126, Z124, Z127, Z119, Z116, Z117, Z120, Z118, Z121, varSem, cmpSem, idxSem, Z91, Z92, Z93, Z94, Z95, Z96, Z97, unSem, biSem, maxLen, Z98, Z99, Z100, Z101, Z102, Z103, callSem, Z70, Z71, Z72, Z73, Z74, Z75, Z76, Cl.item, Cl.isClean, Cl.isDirty, tupSem, lstSem, upd, ownAt, dic_nil, dic_int, dic_bool, dic_none, dic_list, dic_tup, dic_pair, dic_dict, dic_pairs, dic_ints, dic_lists, seqItems, uptoSem, sinceSem, onI, onL, addSem, mulSem, Z84, Z85, Z86, Z87, Z88, Z89, Z90, Fn2.sem, mulOk, bindT, Z77, Z78, Z79, Z80, Z81, Z82, Z83, dicAt, dicHas, keyT, keyI, intsOf, dicPut, sh_int, sh_bool, sh_none, sh_pair, sh_tup, sh_ints, sh_pairs, sh_web, any_pair, any_int, eqvAll_ints, eqvAll_pairs, PyData.eqv, h1, h, hk, h2, h3]
  · have h3 : ws.length ≤ k.toNat := by omega
    simp only [f_law_cell, FnDef.start]
    simp [Z40, Z41, Z42, Z43, Z44, Z45, Z46, Z47, Z48, Z49, Z50, Z51, Z52, Z53, Z54, Z55, Z56, Z57, Z58, Z59, Z60, Z61, Z62, Z1, Z2, Z3, Z4, Z5, Z6, Z7, Z8, Z9, Z10, Z11, Z12, Z13, Z14, Z15, Z16, Z17, Z18, Z19, Z20, Z21, Z22, Z23, Z24, Z25, Z26, Z27, Z28, Z29, Z30, Z31, Z32, Z33, Z34, Z35, Z36, Z37, Z38, Z39, asBool, asClean, Z113, Z110, Z111, Z114, Z112, Z115, Z107, Z104, Z105, Z108, Z106, Z109, Z125, Z122, Z123, Z126, Z124, Z127, Z119, Z116, Z117, Z120, Z118, Z121, varSem, cmpSem, idxSem, Z91, Z92, Z93, Z94, Z95, Z96, Z97, unSem, biSem, maxLen, Z98, Z99, Z100, Z101, Z102, Z103, callSem, Z70, Z71, Z72, Z73, Z74, Z75, Z76, Cl.item, Cl.isClean, Cl.isDirty, tupSem, lstSem, upd, ownAt, dic_nil, dic_int, dic_bool, dic_none, dic_list, dic_tup, dic_pair, dic_dict, dic_pairs, dic_ints, dic_lists, seqItems, uptoSem, sinceSem, onI, onL, addSem, mulSem, Z84, Z85, Z86, Z87, Z88, Z89, Z90, Fn2.sem, mulOk, bindT, Z77, Z78, Z79, Z80, Z81, Z82, Z83, dicAt, dicHas, keyT, keyI, intsOf, dicPut, sh_int, sh_bool, sh_none, sh_pair, sh_tup, sh_ints, sh_pairs, sh_web, any_pair, any_int, eqvAll_ints, eqvAll_pairs, PyData.eqv, h1, h, hk, h3]
theorem r_mixed {Φ : Fns2} {ws : List Int} (hC : Cell Φ ws) {k : Int} (hk : 0 ≤ k) : f_law_mixed.run Φ [scr ws, .int k] = some (true, .int (mix ws k)) := by
  refine run_ret rfl ?_
  have hm : ∀ a : Int, a.fmod 2147483647 = a % 2147483647 := fun a => fmod_pos (by decide)
  simp only [f_law_mixed, FnDef.start]
  simp [Z40, Z41, Z42, Z43, Z44, Z45, Z46, Z47, Z48, Z49, Z50, Z51, Z52, Z53, Z54, Z55, Z56, Z57, Z58, Z59, Z60, Z61, Z62, Z1, Z2, Z3, Z4, Z5, Z6, Z7, Z8, Z9, Z10, Z11, Z12, Z13, Z14, Z15, Z16, Z17, Z18, Z19, Z20, Z21, Z22, Z23, Z24, Z25, Z26, Z27, Z28, Z29, Z30, Z31, Z32, Z33, Z34, Z35, Z36, Z37, Z38, Z39, asBool, asClean, Z113, Z110, Z111, Z114, Z112, Z115, Z107, Z104, Z105, Z108, Z106, Z109, Z125, Z122, Z123, Z126, Z124, Z127, Z119, Z116, Z117, Z120, Z118, Z121, varSem, cmpSem, idxSem, Z91, Z92, Z93, Z94, Z95, Z96, Z97, unSem, biSem, maxLen, Z98, Z99, Z100, Z101, Z102, Z103, callSem, Z70, Z71, Z72, Z73, Z74, Z75, Z76, Cl.item, Cl.isClean, Cl.isDirty, tupSem, lstSem, upd, ownAt, dic_nil, dic_int, dic_bool, dic_none, dic_list, dic_tup, dic_pair, dic_dict, dic_pairs, dic_ints, dic_lists, seqItems, uptoSem, sinceSem, onI, onL, addSem, mulSem, Z84, Z85, Z86, Z87, Z88, Z89, Z90, Fn2.sem, mulOk, bindT, Z77, Z78, Z79, Z80, Z81, Z82, Z83, dicAt, dicHas, keyT, keyI, intsOf, dicPut, sh_int, sh_bool, sh_none, sh_pair, sh_tup, sh_ints, sh_pairs, sh_web, any_pair, any_int, eqvAll_ints, eqvAll_pairs, PyData.eqv, hC k hk, hm, mix]
noncomputable def pairsL (m : Nat) : List (Int × Int) := (List.range m).flatMap fun i => (List.range (m - (i + 1))).map fun j => ((i : Int), ((i + 1 + j : Nat) : Int))
theorem pairsL_ok (m : Nat) : ∀ p ∈ pairsL m, 0 ≤ p.1 ∧ p.1 < p.2 ∧ p.2 < m := by
  intro p hp
  simp only [pairsL, List.mem_flatMap, List.mem_map, List.mem_range] at hp
  obtain ⟨i, hi, j, hj, rfl⟩ := hp
  refine ⟨by simp, ?_, ?_⟩ <;> simp only <;> omega
noncomputable def Pairs (Φ : Fns2) : Prop := ∀ m : Int, 0 ≤ m → m ≤ 9 → Φ.fn "_law_pairs" [.int m] = some (false, .list ((pairsL m.toNat).map pairD))
theorem small {m : Int} (h0 : 0 ≤ m) (h9 : m ≤ 9) : m = 0 ∨ m = 1 ∨ m = 2 ∨ m = 3 ∨ m = 4 ∨ m = 5 ∨ m = 6 ∨ m = 7 ∨ m = 8 ∨ m = 9 := by omega
theorem r_pairs {Φ : Fns2} {m : Int} (h0 : 0 ≤ m) (h9 : m ≤ 9) : f_law_pairs.run Φ [.int m] = some (false, .list ((pairsL m.toNat).map pairD)) := by
  rcases small h0 h9 with rfl | rfl | rfl | rfl | rfl | rfl | rfl | rfl | rfl | rfl <;> rfl
theorem pairs_len {m : Int} (h0 : 0 ≤ m) (h9 : m ≤ 9) : (pairsL m.toNat).length ≤ 36 := by
  rcases small h0 h9 with rfl | rfl | rfl | rfl | rfl | rfl | rfl | rfl | rfl | rfl <;> decide

theorem ev_tup {Φ : Fns} {ρ : Rho} {l : X} {xs : List R1} {z : R1} (hl : evL Φ l ρ = some xs) (h : tupSem xs = some z) : evE Φ (.tup l) ρ = some z := by simp only [Z1, Z2, Z3, Z4, Z5, Z6, Z7, Z8, Z9, Z10, Z11, Z12, Z13, Z14, Z15, Z16, Z17, Z18, Z19, Z20, Z21, Z22, Z23, Z24, Z25, Z26, Z27, Z28, Z29, Z30, Z31, hl, h]
theorem lit_idx {c : Cl} {l : List Int} {i : Int} (h0 : 0 ≤ i) (h1 : i < l.length) (h2 : i < 4096) : idxSem (c, .list (l.map .int)) (.int i) = some (.fresh, .int (l.getD i.toNat 0)) := by
  have h3 : i.toNat < l.length := by omega
  simp [idxSem, onI, Z91, Z92, Z93, Z94, Z95, Z96, Z97, h0, h2, h3, Cl.item, Z70, Z71, Z72, Z73, Z74, Z75, Z76]

noncomputable def RowOf (Φ : Fns2) (ws : List Int) : Prop := ∃ fr rs, Φ.fn "_law_row" [scr ws] = some (fr, rowD rs) ∧ GoodRow rs
theorem r_row {Φ : Fns2} {ws : List Int} (hM : Mixed Φ ws) : ∃ fr d, f_law_row.run Φ [scr ws] = some (fr, d) ∧ ∃ rs, d = rowD rs ∧ GoodRow rs := by
  refine run_wp (fd := f_law_row) (ds := [scr ws]) (R := fun _ d => ∃ rs, d = rowD rs ∧ GoodRow rs) rfl ?_
  obtain ⟨m0, m1⟩ := mix_range ws 0
  refine wp_asg (c := .fresh) (d := .int (mix ws 0)) (by simp [FnDef.start, f_law_row, Z40, Z41, Z42, Z43, Z44, Z45, Z46, Z47, Z48, Z49, Z50, Z51, Z52, Z53, Z54, Z55, Z56, Z57, Z58, Z59, Z60, Z61, Z62, Z1, Z2, Z3, Z4, Z5, Z6, Z7, Z8, Z9, Z10, Z11, Z12, Z13, Z14, Z15, Z16, Z17, Z18, Z19, Z20, Z21, Z22, Z23, Z24, Z25, Z26, Z27, Z28, Z29, Z30, Z31, Z32, Z33, Z34, Z35, Z36, Z37, Z38, Z39, asBool, asClean, Z113, Z110, Z111, Z114, Z112, Z115, Z107, Z104, Z105, Z108, Z106, Z109, Z125, Z122, Z123, Z126, Z124, Z127, Z119, Z116, Z117, Z120, Z118, Z121, varSem, cmpSem, idxSem, Z91, Z92, Z93, Z94, Z95, Z96, Z97, unSem, biSem, maxLen, Z98, Z99, Z100, Z101, Z102, Z103, callSem, Z70, Z71, Z72, Z73, Z74, Z75, Z76, Cl.item, Cl.isClean, Cl.isDirty, tupSem, lstSem, upd, ownAt, dic_nil, dic_int, dic_bool, dic_none, dic_list, dic_tup, dic_pair, dic_dict, dic_pairs, dic_ints, dic_lists, seqItems, uptoSem, sinceSem, onI, onL, addSem, mulSem, Z84, Z85, Z86, Z87, Z88, Z89, Z90, Fn2.sem, mulOk, bindT, Z77, Z78, Z79, Z80, Z81, Z82, Z83, dicAt, dicHas, keyT, keyI, intsOf, dicPut, sh_int, sh_bool, sh_none, sh_pair, sh_tup, sh_ints, sh_pairs, sh_web, any_pair, any_int, eqvAll_ints, eqvAll_pairs, PyData.eqv, hM 0 (by decide)]) rfl ?_
  generalize hF : mix ws 0 = F at m0 m1
  refine wp_asgOwn (ds := []) (by simp [FnDef.start, f_law_row, Z40, Z41, Z42, Z43, Z44, Z45, Z46, Z47, Z48, Z49, Z50, Z51, Z52, Z53, Z54, Z55, Z56, Z57, Z58, Z59, Z60, Z61, Z62, Z1, Z2, Z3, Z4, Z5, Z6, Z7, Z8, Z9, Z10, Z11, Z12, Z13, Z14, Z15, Z16, Z17, Z18, Z19, Z20, Z21, Z22, Z23, Z24, Z25, Z26, Z27, Z28, Z29, Z30, Z31, Z32, Z33, Z34, Z35, Z36, Z37, Z38, Z39, asBool, asClean, Z113, Z110, Z111, Z114, Z112, Z115, Z107, Z104, Z105, Z108, Z106, Z109, Z125, Z122, Z123, Z126, Z124, Z127, Z119, Z116, Z117, Z120, Z118, Z121, varSem, cmpSem, idxSem, Z91, Z92, Z93, Z94, Z95, Z96, Z97, unSem, biSem, maxLen, Z98, Z99, Z100, Z101, Z102, Z103, callSem, Z70, Z71, Z72, Z73, Z74, Z75, Z76, Cl.item, Cl.isClean, Cl.isDirty, tupSem, lstSem, upd, ownAt, dic_nil, dic_int, dic_bool, dic_none, dic_list, dic_tup, dic_pair, dic_dict, dic_pairs, dic_ints, dic_lists, seqItems, uptoSem, sinceSem, onI, onL, addSem, mulSem, Z84, Z85, Z86, Z87, Z88, Z89, Z90, Fn2.sem, mulOk, bindT, Z77, Z78, Z79, Z80, Z81, Z82, Z83, dicAt, dicHas, keyT, keyI, intsOf, dicPut, sh_int, sh_bool, sh_none, sh_pair, sh_tup, sh_ints, sh_pairs, sh_web, any_pair, any_int, eqvAll_ints, eqvAll_pairs, PyData.eqv]) ?_
  have e9 : F.fmod 9 = F % 9 := fmod_pos (by decide)
  have hn : 0 ≤ F % 9 ∧ F % 9 < 9 := by omega
  have hr : (-4096 : Int) ≤ 1 + F % 9 ∧ 1 + F % 9 ≤ 4096 := by omega
  refine wp_for (np := false) (items := rangeL 0 (1 + F % 9)) (fun j ρ => ∃ rs x3 x4 x5, ρ = [some (.val (scr ws)), some (.val (.int F)), some (.own (List.map pairD rs)), x3, x4, x5] ∧ rs.length = j ∧ ∀ p ∈ rs, p.1 ≤ p.2) ?_ rfl ?_ ?_ ?_
  · simp [FnDef.start, f_law_row, Z40, Z41, Z42, Z43, Z44, Z45, Z46, Z47, Z48, Z49, Z50, Z51, Z52, Z53, Z54, Z55, Z56, Z57, Z58, Z59, Z60, Z61, Z62, Z1, Z2, Z3, Z4, Z5, Z6, Z7, Z8, Z9, Z10, Z11, Z12, Z13, Z14, Z15, Z16, Z17, Z18, Z19, Z20, Z21, Z22, Z23, Z24, Z25, Z26, Z27, Z28, Z29, Z30, Z31, Z32, Z33, Z34, Z35, Z36, Z37, Z38, Z39, asBool, asClean, Z113, Z110, Z111, Z114, Z112, Z115, Z107, Z104, Z105, Z108, Z106, Z109, Z125, Z122, Z123, Z126, Z124, Z127, Z119, Z116, Z117, Z120, Z118, Z121, varSem, cmpSem, idxSem, Z91, Z92, Z93, Z94, Z95, Z96, Z97, unSem, biSem, maxLen, Z98, Z99, Z100, Z101, Z102, Z103, callSem, Z70, Z71, Z72, Z73, Z74, Z75, Z76, Cl.item, Cl.isClean, Cl.isDirty, tupSem, lstSem, upd, ownAt, dic_nil, dic_int, dic_bool, dic_none, dic_list, dic_tup, dic_pair, dic_dict, dic_pairs, dic_ints, dic_lists, seqItems, uptoSem, sinceSem, onI, onL, addSem, mulSem, Z84, Z85, Z86, Z87, Z88, Z89, Z90, Fn2.sem, mulOk, bindT, Z77, Z78, Z79, Z80, Z81, Z82, Z83, dicAt, dicHas, keyT, keyI, intsOf, dicPut, sh_int, sh_bool, sh_none, sh_pair, sh_tup, sh_ints, sh_pairs, sh_web, any_pair, any_int, eqvAll_ints, eqvAll_pairs, PyData.eqv, e9, hr]
  · exact ⟨[], none, none, none, by simp [FnDef.start, f_law_row], rfl, fun p hp => by simp at hp⟩
  · rintro j d ρ hj ⟨rs, x3, x4, x5, rfl, hl, hle⟩
    rw [rangeL_eq, List.getElem?_map, Option.map_eq_some_iff] at hj
    obtain ⟨k, hk, rfl⟩ := hj
    obtain ⟨k0, k1⟩ := mem_rangeI.mp (List.mem_of_getElem? hk)
    have hjl : j < (1 + F % 9).toNat := by
      have := (List.getElem?_eq_some_iff.mp hk).1
      simpa [rangeI] using this
    refine ⟨_, rfl, ?_⟩
    obtain ⟨n0, n1⟩ := mix_range ws (1 + k)
    refine wp_asg (c := .fresh) (d := .int (mix ws (1 + k))) (by simp [Z40, Z41, Z42, Z43, Z44, Z45, Z46, Z47, Z48, Z49, Z50, Z51, Z52, Z53, Z54, Z55, Z56, Z57, Z58, Z59, Z60, Z61, Z62, Z1, Z2, Z3, Z4, Z5, Z6, Z7, Z8, Z9, Z10, Z11, Z12, Z13, Z14, Z15, Z16, Z17, Z18, Z19, Z20, Z21, Z22, Z23, Z24, Z25, Z26, Z27, Z28, Z29, Z30, Z31, Z32, Z33, Z34, Z35, Z36, Z37, Z38, Z39, asBool, asClean, Z113, Z110, Z111, Z114, Z112, Z115, Z107, Z104, Z105, Z108, Z106, Z109, Z125, Z122, Z123, Z126, Z124, Z127, Z119, Z116, Z117, Z120, Z118, Z121, varSem, cmpSem, idxSem, Z91, Z92, Z93, Z94, Z95, Z96, Z97, unSem, biSem, maxLen, Z98, Z99, Z100, Z101, Z102, Z103, callSem, Z70, Z71, Z72, Z73, Z74, Z75, Z76, Cl.item, Cl.isClean, Cl.isDirty, tupSem, lstSem, upd, ownAt, dic_nil, dic_int, dic_bool, dic_none, dic_list, dic_tup, dic_pair, dic_dict, dic_pairs, dic_ints, dic_lists, seqItems, uptoSem, sinceSem, onI, onL, addSem, mulSem, Z84, Z85, Z86, Z87, Z88, Z89, Z90, Fn2.sem, mulOk, bindT, Z77, Z78, Z79, Z80, Z81, Z82, Z83, dicAt, dicHas, keyT, keyI, intsOf, dicPut, sh_int, sh_bool, sh_none, sh_pair, sh_tup, sh_ints, sh_pairs, sh_web, any_pair, any_int, eqvAll_ints, eqvAll_pairs, PyData.eqv, hM (1 + k) (by omega)]) rfl ?_
    generalize mix ws (1 + k) = N at n0 n1
    have t0 : 0 ≤ (F.fdiv 9).fmod 3 ∧ (F.fdiv 9).fmod 3 < 3 := by
      rw [fmod_pos (by decide)]; omega
    have s0 : 0 ≤ N.fmod 6 ∧ N.fmod 6 < 6 := by
      rw [fmod_pos (by decide)]; omega
    have ht : ∃ t : Int, 0 < t ∧ t ≤ 15 ∧ [4, 9, 15].getD ((F.fdiv 9).fmod 3).toNat 0 = t := by
      have : (F.fdiv 9).fmod 3 = 0 ∨ (F.fdiv 9).fmod 3 = 1 ∨ (F.fdiv 9).fmod 3 = 2 := by omega
      rcases this with h | h | h <;> rw [h] <;> exact ⟨_, by decide, by decide, rfl⟩
    obtain ⟨t, ht0, ht1, ht2⟩ := ht
    have key : ∀ b : Int, Wp Φ (.seq (.app 2 (.tup (.cons (.var 5) (.cons (.bin .Add (.var 5) (.idx (.lst (.cons (.const (.int 0)) (.cons (.const (.int 1)) (.cons (.const (.int 3)) (.cons (.const (.int 7)) (.cons (.const (.int 2)) (.cons (.bin .Mod (.bin .FloorDiv (.var 4) (.const (.int 90))) (.bin .Pow (.const (.int 10)) (.const (.int 24)))) .nil))))))) (.bin .Mod (.var 4) (.const (.int 6))))) .nil)))) .done)
        [some (.val (scr ws)), some (.val (.int F)), some (.own (List.map pairD rs)), some (.val (.int k)), some (.val (.int N)), some (.val (.int b))]
        (fun o => match o with | .next ρ'' => ∃ rs x3 x4 x5, ρ'' = [some (.val (scr ws)), some (.val (.int F)), some (.own (List.map pairD rs)), x3, x4, x5] ∧ rs.length = j + 1 ∧ ∀ p ∈ rs, p.1 ≤ p.2 | o => match o with | .ret fr d => ∃ rs, d = rowD rs ∧ GoodRow rs | .next _ => ∃ rs, PyData.none = rowD rs ∧ GoodRow rs | .retT _ _ => False) := by
      intro b
      have hlst : evE Φ.toFns (.lst (.cons (.const (.int 0)) (.cons (.const (.int 1)) (.cons (.const (.int 3)) (.cons (.const (.int 7)) (.cons (.const (.int 2)) (.cons (.bin .Mod (.bin .FloorDiv (.var 4) (.const (.int 90))) (.bin .Pow (.const (.int 10)) (.const (.int 24)))) .nil))))))) [some (.val (scr ws)), some (.val (.int F)), some (.own (List.map pairD rs)), some (.val (.int k)), some (.val (.int N)), some (.val (.int b))] = some (.fresh, .list ([0, 1, 3, 7, 2, (N.fdiv 90).fmod (10 ^ 24)].map .int)) := by simp [Z40, Z41, Z42, Z43, Z44, Z45, Z46, Z47, Z48, Z49, Z50, Z51, Z52, Z53, Z54, Z55, Z56, Z57, Z58, Z59, Z60, Z61, Z62, Z1, Z2, Z3, Z4, Z5, Z6, Z7, Z8, Z9, Z10, Z11, Z12, Z13, Z14, Z15, Z16, Z17, Z18, Z19, Z20, Z21, Z22, Z23, Z24, Z25, Z26, Z27, Z28, Z29, Z30, Z31, Z32, Z33, Z34, Z35, Z36, Z37, Z38, Z39, asBool, asClean, Z113, Z110, Z111, Z114, Z112, Z115, Z107, Z104, Z105, Z108, Z106, Z109, Z125, Z122, Z123, Z126, Z124, Z127, Z119, Z116, Z117, Z120, Z118, Z121, varSem, cmpSem, idxSem, Z91, Z92, Z93, Z94, Z95, Z96, Z97, unSem, biSem, maxLen, Z98, Z99, Z100, Z101, Z102, Z103, callSem, Z70, Z71, Z72, Z73, Z74, Z75, Z76, Cl.item, Cl.isClean, Cl.isDirty, tupSem, lstSem, upd, ownAt, dic_nil, dic_int, dic_bool, dic_none, dic_list, dic_tup, dic_pair, dic_dict, dic_pairs, dic_ints, dic_lists, seqItems, uptoSem, sinceSem, onI, onL, addSem, mulSem, Z84, Z85, Z86, Z87, Z88, Z89, Z90, Fn2.sem, mulOk, bindT, Z77, Z78, Z79, Z80, Z81, Z82, Z83, dicAt, dicHas, keyT, keyI, intsOf, dicPut, sh_int, sh_bool, sh_none, sh_pair, sh_tup, sh_ints, sh_pairs, sh_web, any_pair, any_int, eqvAll_ints, eqvAll_pairs, PyData.eqv]
      have hy : ∃ y : Int, 0 ≤ y ∧ [0, 1, 3, 7, 2, (N.fdiv 90).fmod (10 ^ 24)].getD (N.fmod 6).toNat 0 = y := by
        have hx : 0 ≤ (N.fdiv 90).fmod (10 ^ 24) := by rw [fmod_pos (by decide)]; exact Int.emod_nonneg _ (by decide)
        have : N.fmod 6 = 0 ∨ N.fmod 6 = 1 ∨ N.fmod 6 = 2 ∨ N.fmod 6 = 3 ∨ N.fmod 6 = 4 ∨ N.fmod 6 = 5 := by omega
        rcases this with h | h | h | h | h | h <;> rw [h] <;> first | exact ⟨_, hx, rfl⟩ | exact ⟨0, by decide, rfl⟩ | exact ⟨1, by decide, rfl⟩ | exact ⟨3, by decide, rfl⟩ | exact ⟨7, by decide, rfl⟩ | exact ⟨2, by decide, rfl⟩
      obtain ⟨y, hy0, hy1⟩ := hy
      have hadd := ev_bin (op := .Add) (z := (.fresh, .int (b + y))) (Φ := Φ.toFns) (a := .var 5) (x := (.clean, .int b)) (y := (.fresh, .int y)) (by simp [Z1, Z2, Z3, Z4, Z5, Z6, Z7, Z8, Z9, Z10, Z11, Z12, Z13, Z14, Z15, Z16, Z17, Z18, Z19, Z20, Z21, Z22, Z23, Z24, Z25, Z26, Z27, Z28, Z29, Z30, Z31, varSem]) (ev_idx hlst (i := .bin .Mod (.var 4) (.const (.int 6))) (y := (.fresh, .int (N.fmod 6))) (by simp [Z40, Z41, Z42, Z43, Z44, Z45, Z46, Z47, Z48, Z49, Z50, Z51, Z52, Z53, Z54, Z55, Z56, Z57, Z58, Z59, Z60, Z61, Z62, Z1, Z2, Z3, Z4, Z5, Z6, Z7, Z8, Z9, Z10, Z11, Z12, Z13, Z14, Z15, Z16, Z17, Z18, Z19, Z20, Z21, Z22, Z23, Z24, Z25, Z26, Z27, Z28, Z29, Z30, Z31, Z32, Z33, Z34, Z35, Z36, Z37, Z38, Z39, asBool, asClean, Z113, Z110, Z111, Z114, Z112, Z115, Z107, Z104, Z105, Z108, Z106, Z109, Z125, Z122, Z123, Z126, Z124, Z127, Z119, Z116, Z117, Z120, Z118, Z121, varSem, cmpSem, idxSem, Z91, Z92, Z93, Z94, Z95, Z96, Z97, unSem, biSem, maxLen, Z98, Z99, Z100, Z101, Z102, Z103, callSem, Z70, Z71, Z72, Z73, Z74, Z75, Z76, Cl.item, Cl.isClean, Cl.isDirty, tupSem, lstSem, upd, ownAt, dic_nil, dic_int, dic_bool, dic_none, dic_list, dic_tup, dic_pair, dic_dict, dic_pairs, dic_ints, dic_lists, seqItems, uptoSem, sinceSem, onI, onL, addSem, mulSem, Z84, Z85, Z86, Z87, Z88, Z89, Z90, Fn2.sem, mulOk, bindT, Z77, Z78, Z79, Z80, Z81, Z82, Z83, dicAt, dicHas, keyT, keyI, intsOf, dicPut, sh_int, sh_bool, sh_none, sh_pair, sh_tup, sh_ints, sh_pairs, sh_web, any_pair, any_int, eqvAll_ints, eqvAll_pairs, PyData.eqv]) (by rw [lit_idx s0.1 (by simpa using s0.2) (by omega), hy1])) rfl
      refine wp_app (ds := rs.map pairD) (c := .clean) (d := pairD (b, b + y)) (by simp [ownAt, dic_pairs]) ?_ rfl ?_ (wp_done ?_)
      · exact ev_tup (evL_cons (x := (.clean, .int b)) (by simp [Z1, Z2, Z3, Z4, Z5, Z6, Z7, Z8, Z9, Z10, Z11, Z12, Z13, Z14, Z15, Z16, Z17, Z18, Z19, Z20, Z21, Z22, Z23, Z24, Z25, Z26, Z27, Z28, Z29, Z30, Z31, varSem]) (evL_cons hadd evL_nil)) (by simp [tupSem, maxLen, Cl.isClean, pairD])
      · rw [List.length_map]; show _ < 4096; omega
      · refine ⟨rs ++ [(b, b + y)], _, _, _, by simp; exact ⟨rfl, rfl, rfl⟩, by simp; omega, fun p hp => ?_⟩
        rcases List.mem_append.mp hp with h | h
        · exact hle p h
        · simp at h; subst h; simp only; omega
    refine wp_asg (c := .fresh) (d := .int ((N.fdiv 6).fmod t - 2)) ?_ rfl ?_
    · have hlst : evE Φ.toFns (.lst (.cons (.const (.int 4)) (.cons (.const (.int 9)) (.cons (.const (.int 15)) .nil)))) [some (.val (scr ws)), some (.val (.int F)), some (.own (List.map pairD rs)), some (.val (.int k)), some (.val (.int N)), x5] = some (.fresh, .list ([4, 9, 15].map .int)) := by simp [Z40, Z41, Z42, Z43, Z44, Z45, Z46, Z47, Z48, Z49, Z50, Z51, Z52, Z53, Z54, Z55, Z56, Z57, Z58, Z59, Z60, Z61, Z62, Z1, Z2, Z3, Z4, Z5, Z6, Z7, Z8, Z9, Z10, Z11, Z12, Z13, Z14, Z15, Z16, Z17, Z18, Z19, Z20, Z21, Z22, Z23, Z24, Z25, Z26, Z27, Z28, Z29, Z30, Z31, Z32, Z33, Z34, Z35, Z36, Z37, Z38, Z39, asBool, asClean, Z113, Z110, Z111, Z114, Z112, Z115, Z107, Z104, Z105, Z108, Z106, Z109, Z125, Z122, Z123, Z126, Z124, Z127, Z119, Z116, Z117, Z120, Z118, Z121, varSem, cmpSem, idxSem, Z91, Z92, Z93, Z94, Z95, Z96, Z97, unSem, biSem, maxLen, Z98, Z99, Z100, Z101, Z102, Z103, callSem, Z70, Z71, Z72, Z73, Z74, Z75, Z76, Cl.item, Cl.isClean, Cl.isDirty, tupSem, lstSem, upd, ownAt, dic_nil, dic_int, dic_bool, dic_none, dic_list, dic_tup, dic_pair, dic_dict, dic_pairs, dic_ints, dic_lists, seqItems, uptoSem, sinceSem, onI, onL, addSem, mulSem, Z84, Z85, Z86, Z87, Z88, Z89, Z90, Fn2.sem, mulOk, bindT, Z77, Z78, Z79, Z80, Z81, Z82, Z83, dicAt, dicHas, keyT, keyI, intsOf, dicPut, sh_int, sh_bool, sh_none, sh_pair, sh_tup, sh_ints, sh_pairs, sh_web, any_pair, any_int, eqvAll_ints, eqvAll_pairs, PyData.eqv]
      refine ev_bin (x := (.fresh, .int ((N.fdiv 6).fmod t))) (y := (.fresh, .int 2)) (ev_bin (x := (.fresh, .int (N.fdiv 6))) (y := (.fresh, .int t)) (by simp [Z40, Z41, Z42, Z43, Z44, Z45, Z46, Z47, Z48, Z49, Z50, Z51, Z52, Z53, Z54, Z55, Z56, Z57, Z58, Z59, Z60, Z61, Z62, Z1, Z2, Z3, Z4, Z5, Z6, Z7, Z8, Z9, Z10, Z11, Z12, Z13, Z14, Z15, Z16, Z17, Z18, Z19, Z20, Z21, Z22, Z23, Z24, Z25, Z26, Z27, Z28, Z29, Z30, Z31, Z32, Z33, Z34, Z35, Z36, Z37, Z38, Z39, asBool, asClean, Z113, Z110, Z111, Z114, Z112, Z115, Z107, Z104, Z105, Z108, Z106, Z109, Z125, Z122, Z123, Z126, Z124, Z127, Z119, Z116, Z117, Z120, Z118, Z121, varSem, cmpSem, idxSem, Z91, Z92, Z93, Z94, Z95, Z96, Z97, unSem, biSem, maxLen, Z98, Z99, Z100, Z101, Z102, Z103, callSem, Z70, Z71, Z72, Z73, Z74, Z75, Z76, Cl.item, Cl.isClean, Cl.isDirty, tupSem, lstSem, upd, ownAt, dic_nil, dic_int, dic_bool, dic_none, dic_list, dic_tup, dic_pair, dic_dict, dic_pairs, dic_ints, dic_lists, seqItems, uptoSem, sinceSem, onI, onL, addSem, mulSem, Z84, Z85, Z86, Z87, Z88, Z89, Z90, Fn2.sem, mulOk, bindT, Z77, Z78, Z79, Z80, Z81, Z82, Z83, dicAt, dicHas, keyT, keyI, intsOf, dicPut, sh_int, sh_bool, sh_none, sh_pair, sh_tup, sh_ints, sh_pairs, sh_web, any_pair, any_int, eqvAll_ints, eqvAll_pairs, PyData.eqv]) (ev_idx hlst (y := (.fresh, .int ((F.fdiv 9).fmod 3))) (by simp [Z40, Z41, Z42, Z43, Z44, Z45, Z46, Z47, Z48, Z49, Z50, Z51, Z52, Z53, Z54, Z55, Z56, Z57, Z58, Z59, Z60, Z61, Z62, Z1, Z2, Z3, Z4, Z5, Z6, Z7, Z8, Z9, Z10, Z11, Z12, Z13, Z14, Z15, Z16, Z17, Z18, Z19, Z20, Z21, Z22, Z23, Z24, Z25, Z26, Z27, Z28, Z29, Z30, Z31, Z32, Z33, Z34, Z35, Z36, Z37, Z38, Z39, asBool, asClean, Z113, Z110, Z111, Z114, Z112, Z115, Z107, Z104, Z105, Z108, Z106, Z109, Z125, Z122, Z123, Z126, Z124, Z127, Z119, Z116, Z117, Z120, Z118, Z121, varSem, cmpSem, idxSem, Z91, Z92, Z93, Z94, Z95, Z96, Z97, unSem, biSem, maxLen, Z98, Z99, Z100, Z101, Z102, Z103, callSem, Z70, Z71, Z72, Z73, Z74, Z75, Z76, Cl.item, Cl.isClean, Cl.isDirty, tupSem, lstSem, upd, ownAt, dic_nil, dic_int, dic_bool, dic_none, dic_list, dic_tup, dic_pair, dic_dict, dic_pairs, dic_ints, dic_lists, seqItems, uptoSem, sinceSem, onI, onL, addSem, mulSem, Z84, Z85, Z86, Z87, Z88, Z89, Z90, Fn2.sem, mulOk, bindT, Z77, Z78, Z79, Z80, Z81, Z82, Z83, dicAt, dicHas, keyT, keyI, intsOf, dicPut, sh_int, sh_bool, sh_none, sh_pair, sh_tup, sh_ints, sh_pairs, sh_web, any_pair, any_int, eqvAll_ints, eqvAll_pairs, PyData.eqv]) (by rw [lit_idx t0.1 (by simpa using t0.2) (by omega), ht2])) ?_) rfl rfl
      have : t ≠ 0 := by omega
      simp [Z98, Z99, Z100, Z101, Z102, Z103, onI, this]
    · have hb : 0 ≤ (N.fdiv 6).fmod t ∧ (N.fdiv 6).fmod t < t := by
        rw [fmod_pos ht0]; exact ⟨Int.emod_nonneg _ (by omega), Int.emod_lt_of_pos _ ht0⟩
      have hb0 : ((N.fdiv 6).fmod t - 2).natAbs < 2 ^ 60 := by omega
      generalize (N.fdiv 6).fmod t - 2 = b0 at *
      refine wp_ife (v := (F.fdiv 27).fmod 5 == 1) (by simp [Z40, Z41, Z42, Z43, Z44, Z45, Z46, Z47, Z48, Z49, Z50, Z51, Z52, Z53, Z54, Z55, Z56, Z57, Z58, Z59, Z60, Z61, Z62, Z1, Z2, Z3, Z4, Z5, Z6, Z7, Z8, Z9, Z10, Z11, Z12, Z13, Z14, Z15, Z16, Z17, Z18, Z19, Z20, Z21, Z22, Z23, Z24, Z25, Z26, Z27, Z28, Z29, Z30, Z31, Z32, Z33, Z34, Z35, Z36, Z37, Z38, Z39, asBool, asClean, Z113, Z110, Z111, Z114, Z112, Z115, Z107, Z104, Z105, Z108, Z106, Z109, Z125, Z122, Z123, Z126, Z124, Z127, Z119, Z116, Z117, Z120, Z118, Z121, varSem, cmpSem, idxSem, Z91, Z92, Z93, Z94, Z95, Z96, Z97, unSem, biSem, maxLen, Z98, Z99, Z100, Z101, Z102, Z103, callSem, Z70, Z71, Z72, Z73, Z74, Z75, Z76, Cl.item, Cl.isClean, Cl.isDirty, tupSem, lstSem, upd, ownAt, dic_nil, dic_int, dic_bool, dic_none, dic_list, dic_tup, dic_pair, dic_dict, dic_pairs, dic_ints, dic_lists, seqItems, uptoSem, sinceSem, onI, onL, addSem, mulSem, Z84, Z85, Z86, Z87, Z88, Z89, Z90, Fn2.sem, mulOk, bindT, Z77, Z78, Z79, Z80, Z81, Z82, Z83, dicAt, dicHas, keyT, keyI, intsOf, dicPut, sh_int, sh_bool, sh_none, sh_pair, sh_tup, sh_ints, sh_pairs, sh_web, any_pair, any_int, eqvAll_ints, eqvAll_pairs, PyData.eqv]) (fun _ => ?_) fun _ => wp_done ?_
      · refine wp_asg (c := .fresh) (d := .int (b0 * 10 ^ 23 + N.fmod 7)) ?_ rfl (wp_done (key _))
        have hm : mulOk b0 (10 ^ 23) = true := by unfold mulOk; rw [decide_eq_true hb0]; rfl
        refine ev_bin (x := (.fresh, .int (b0 * 10 ^ 23))) (y := (.fresh, .int (N.fmod 7))) (ev_bin (x := (.clean, .int b0)) (y := (.fresh, .int (10 ^ 23))) (by simp [Z1, Z2, Z3, Z4, Z5, Z6, Z7, Z8, Z9, Z10, Z11, Z12, Z13, Z14, Z15, Z16, Z17, Z18, Z19, Z20, Z21, Z22, Z23, Z24, Z25, Z26, Z27, Z28, Z29, Z30, Z31, varSem]) (by simp [Z40, Z41, Z42, Z43, Z44, Z45, Z46, Z47, Z48, Z49, Z50, Z51, Z52, Z53, Z54, Z55, Z56, Z57, Z58, Z59, Z60, Z61, Z62, Z1, Z2, Z3, Z4, Z5, Z6, Z7, Z8, Z9, Z10, Z11, Z12, Z13, Z14, Z15, Z16, Z17, Z18, Z19, Z20, Z21, Z22, Z23, Z24, Z25, Z26, Z27, Z28, Z29, Z30, Z31, Z32, Z33, Z34, Z35, Z36, Z37, Z38, Z39, asBool, asClean, Z113, Z110, Z111, Z114, Z112, Z115, Z107, Z104, Z105, Z108, Z106, Z109, Z125, Z122, Z123, Z126, Z124, Z127, Z119, Z116, Z117, Z120, Z118, Z121, varSem, cmpSem, idxSem, Z91, Z92, Z93, Z94, Z95, Z96, Z97, unSem, biSem, maxLen, Z98, Z99, Z100, Z101, Z102, Z103, callSem, Z70, Z71, Z72, Z73, Z74, Z75, Z76, Cl.item, Cl.isClean, Cl.isDirty, tupSem, lstSem, upd, ownAt, dic_nil, dic_int, dic_bool, dic_none, dic_list, dic_tup, dic_pair, dic_dict, dic_pairs, dic_ints, dic_lists, seqItems, uptoSem, sinceSem, onI, onL, addSem, mulSem, Z84, Z85, Z86, Z87, Z88, Z89, Z90, Fn2.sem, mulOk, bindT, Z77, Z78, Z79, Z80, Z81, Z82, Z83, dicAt, dicHas, keyT, keyI, intsOf, dicPut, sh_int, sh_bool, sh_none, sh_pair, sh_tup, sh_ints, sh_pairs, sh_web, any_pair, any_int, eqvAll_ints, eqvAll_pairs, PyData.eqv]) ?_) (by simp [Z40, Z41, Z42, Z43, Z44, Z45, Z46, Z47, Z48, Z49, Z50, Z51, Z52, Z53, Z54, Z55, Z56, Z57, Z58, Z59, Z60, Z61, Z62, Z1, Z2, Z3, Z4, Z5, Z6, Z7, Z8, Z9, Z10, Z11, Z12, Z13, Z14, Z15, Z16, Z17, Z18, Z19, Z20, Z21, Z22, Z23, Z24, Z25, Z26, Z27, Z28, Z29, Z30, Z31, Z32, Z33, Z34, Z35, Z36, Z37, Z38, Z39, asBool, asClean, Z113, Z110, Z111, Z114, Z112, Z115, Z107, Z104, Z105, Z108, Z106, Z109, Z125, Z122, Z123, Z126, Z124, Z127, Z119, Z116, Z117, Z120, Z118, Z121, varSem, cmpSem, idxSem, Z91, Z92, Z93, Z94, Z95, Z96, Z97, unSem, biSem, maxLen, Z98, Z99, Z100, Z101, Z102, Z103, callSem, Z70, Z71, Z72, Z73, Z74, Z75, Z76, Cl.item, Cl.isClean, Cl.isDirty, tupSem, lstSem, upd, ownAt, dic_nil, dic_int, dic_bool, dic_none, dic_list, dic_tup, dic_pair, dic_dict, dic_pairs, dic_ints, dic_lists, seqItems, uptoSem, sinceSem, onI, onL, addSem, mulSem, Z84, Z85, Z86, Z87, Z88, Z89, Z90, Fn2.sem, mulOk, bindT, Z77, Z78, Z79, Z80, Z81, Z82, Z83, dicAt, dicHas, keyT, keyI, intsOf, dicPut, sh_int, sh_bool, sh_none, sh_pair, sh_tup, sh_ints, sh_pairs, sh_web, any_pair, any_int, eqvAll_ints, eqvAll_pairs, PyData.eqv]) rfl
        show (if mulOk b0 (10 ^ 23) = true then _ else _) = _
        rw [if_pos hm]
      · exact key b0
  · rintro ρ ⟨rs, x3, x4, x5, rfl, hl, hle⟩
    rw [rangeL_eq, List.length_map] at hl
    have hl' : rs.length = (1 + F % 9).toNat := by rw [hl]; simp [rangeI]
    refine wp_retOwn (ds := rs.map pairD) (by simp [ownAt, dic_pairs]) ⟨rs, rfl, ⟨fun i hi => ?_, by omega, by omega⟩⟩
    refine hle _ ?_
    simp [g, hi]
end Mw.L12

set_option maxRecDepth 100000
set_option linter.unusedSimpArgs false
set_option linter.unusedVariables false
namespace Mw.L12
open PySem Mw

theorem intsOf_ints : ∀ is : List Int, intsOf (is.map .int) = some is
  | [] => rfl
  | i :: r => by
    show (intsOf (r.map .int)).map (i :: ·) = _
    rw [intsOf_ints r]; rfl
theorem ev_sortedSet {Φ : Fns} {ρ : Rho} {a : X} {c : Cl} {is : List Int} (h : evE Φ a ρ = some (c, .list (is.map .int))) (hr : ∀ i ∈ is, 0 ≤ i ∧ i < 9) : evE Φ (.sortedSet a) ρ = some (.fresh, .list (setL is)) := by
  have hall : is.all (fun i => decide (0 ≤ i) && decide (i < 9)) = true := List.all_eq_true.mpr fun i hi => by
    have := hr i hi; simp [this.1, this.2]
  simp only [Z1, Z2, Z3, Z4, Z5, Z6, Z7, Z8, Z9, Z10, Z11, Z12, Z13, Z14, Z15, Z16, Z17, Z18, Z19, Z20, Z21, Z22, Z23, Z24, Z25, Z26, Z27, Z28, Z29, Z30, Z31, h, onL, setD, intsOf_ints, Option.bind_some, hall, if_true, Option.map_some]
theorem ev_maxL {Φ : Fns} {ρ : Rho} {a : X} {c : Cl} {is : List Int} (h : evE Φ a ρ = some (c, .list (is.map .int))) (hn : is ≠ []) (hl : is.length ≤ 4096) : evE Φ (.un .maxL a) ρ = some (.fresh, .int (maxI is)) := by
  refine ev_un h ?_
  have : is.map PyData.int ≠ [] := by simpa using hn
  simp only [unSem, onL]
  rw [if_pos ⟨this, by simpa [maxLen] using hl⟩, intsOf_ints]; rfl
theorem ev_minL {Φ : Fns} {ρ : Rho} {a : X} {c : Cl} {is : List Int} (h : evE Φ a ρ = some (c, .list (is.map .int))) (hn : is ≠ []) (hl : is.length ≤ 4096) : evE Φ (.un .minL a) ρ = some (.fresh, .int (minI is)) := by
  refine ev_un h ?_
  have : is.map PyData.int ≠ [] := by simpa using hn
  simp only [unSem, onL]
  rw [if_pos ⟨this, by simpa [maxLen] using hl⟩, intsOf_ints]; rfl
theorem ev_len {Φ : Fns} {ρ : Rho} {a : X} {c : Cl} {xs : List PyData} (h : evE Φ a ρ = some (c, .list xs)) (hl : xs.length ≤ 4096) : evE Φ (.un .len a) ρ = some (.fresh, .int (xs.length : Int)) := by
  refine ev_un h ?_
  simp [unSem, Z91, Z92, Z93, Z94, Z95, Z96, Z97, maxLen, hl]
theorem setL_col {rs : List (Int × Int)} {cs : List Int} (hr : GoodRow rs) (hc : GoodCol rs cs) : setL cs = (rangeI (maxI cs + 1)).map .int := by
  unfold setL
  rw [set_col hr hc]
  simp [rangeI]
theorem setL_crowd {rs : List (Int × Int)} {ks : List Nat} (hr : GoodRow rs) (hk : GoodCrowd rs ks) : setL (ks.map fun k : Nat => (k : Int)) = natD ks := by
  unfold setL
  rw [set_crowd hr hk]
  simp
theorem allB_comp {Φ : Fns} {ρ : Rho} {t : Nat} {elt it : X} {np : Bool} {items : List PyData} (hi : evI Φ it ρ = some (np, items)) (hl : items.length ≤ 4096) (h : ∀ d ∈ items, compF Φ (.one t) elt none ρ d = some (some (.bool true))) : evE Φ (.un .all (.comp0 (.one t) elt it)) ρ = some (.fresh, .bool true) := by
  refine ev_un (ev_comp0 hi (compGo_all (k := fun _ => .bool true) h)) ?_
  have : allB (items.map fun _ => PyData.bool true) = some true := allB_true _ (by simp)
  simp only [unSem, onL, this, List.length_map, maxLen, hl, if_true, Option.map_some]

noncomputable def Lgood (Φ : Fns2) : Prop := ∀ rs cs ks, GoodRow rs → GoodCol rs cs → GoodCrowd rs ks → Φ.fn "_law_good" [rowD rs, .list (cs.map .int), .list (natD ks)] = some (true, .bool true)
theorem r_good {Φ : Fns2} (hW : Whole Φ "_law_whole") (hP : Pairs Φ) {rs : List (Int × Int)} {cs : List Int} {ks : List Nat} (hr : GoodRow rs) (hc : GoodCol rs cs) (hk : GoodCrowd rs ks) :
    ∃ fr d, f_law_good.run Φ [rowD rs, .list (cs.map .int), .list (natD ks)] = some (fr, d) ∧ fr = true ∧ d = .bool true := by
  have h1 := hr.one
  have h9 := hr.nine
  have hlen : rs.length ≤ 4096 := by omega
  have hcl := hc.len
  have hcn := col_ne hr hc
  have hmx := max_range hr hc
  have hkl := crowd_len hr hc hk
  have hkn := crowd_ne hr hk
  have hkl' : ks.length ≤ 9 := by omega
  have hcr : ∀ i ∈ cs, 0 ≤ i ∧ i < 9 := fun i hi => by have := (col_mem hr hc).mp hi; omega
  have hkm : ∀ k ∈ ks, k < rs.length := fun k hkk => by
    obtain ⟨x, _, e⟩ := hk.is
    rw [e, mem_atX] at hkk; exact hkk.1
  have hkr : ∀ i ∈ ks.map (fun k : Nat => (k : Int)), 0 ≤ i ∧ i < 9 := fun i hi => by
    obtain ⟨k, hk1, rfl⟩ := List.mem_map.mp hi
    have := hkm k hk1; omega
  refine run_wp (fd := f_law_good) (ds := [rowD rs, .list (cs.map .int), .list (natD ks)]) (R := fun fr d => fr = true ∧ d = .bool true) rfl ?_
  have v0 : ∀ {x3 x4 x5 x6 : Option Ent}, evE Φ.toFns (.var 0) [some (.val (rowD rs)), some (.val (.list (cs.map .int))), some (.val (.list (natD ks))), x3, x4, x5, x6] = some (.clean, rowD rs) := fun {x3 x4 x5 x6} => by simp [Z1, Z2, Z3, Z4, Z5, Z6, Z7, Z8, Z9, Z10, Z11, Z12, Z13, Z14, Z15, Z16, Z17, Z18, Z19, Z20, Z21, Z22, Z23, Z24, Z25, Z26, Z27, Z28, Z29, Z30, Z31, varSem]
  have v1 : ∀ {x3 x4 x5 x6 : Option Ent}, evE Φ.toFns (.var 1) [some (.val (rowD rs)), some (.val (.list (cs.map .int))), some (.val (.list (natD ks))), x3, x4, x5, x6] = some (.clean, .list (cs.map .int)) := fun {x3 x4 x5 x6} => by simp [Z1, Z2, Z3, Z4, Z5, Z6, Z7, Z8, Z9, Z10, Z11, Z12, Z13, Z14, Z15, Z16, Z17, Z18, Z19, Z20, Z21, Z22, Z23, Z24, Z25, Z26, Z27, Z28, Z29, Z30, Z31, varSem]
  have v2 : ∀ {x3 x4 x5 x6 : Option Ent}, evE Φ.toFns (.var 2) [some (.val (rowD rs)), some (.val (.list (cs.map .int))), some (.val (.list (natD ks))), x3, x4, x5, x6] = some (.clean, .list (natD ks)) := fun {x3 x4 x5 x6} => by simp [Z1, Z2, Z3, Z4, Z5, Z6, Z7, Z8, Z9, Z10, Z11, Z12, Z13, Z14, Z15, Z16, Z17, Z18, Z19, Z20, Z21, Z22, Z23, Z24, Z25, Z26, Z27, Z28, Z29, Z30, Z31, varSem]
  have l0 : ∀ {x3 x4 x5 x6 : Option Ent}, evE Φ.toFns (.un .len (.var 0)) [some (.val (rowD rs)), some (.val (.list (cs.map .int))), some (.val (.list (natD ks))), x3, x4, x5, x6] = some (.fresh, .int (rs.length : Int)) := fun {x3 x4 x5 x6} => by
    have := ev_len (v0 (x3 := x3) (x4 := x4) (x5 := x5) (x6 := x6)) (by rw [List.length_map]; exact hlen)
    rwa [List.length_map] at this
  have mx : ∀ {x3 x4 x5 x6 : Option Ent}, evE Φ.toFns (.bin .Add (.un .maxL (.var 1)) (.const (.int 1))) [some (.val (rowD rs)), some (.val (.list (cs.map .int))), some (.val (.list (natD ks))), x3, x4, x5, x6] = some (.fresh, .int (maxI cs + 1)) := fun {x3 x4 x5 x6} =>
    ev_bin (ev_maxL v1 hcn (by omega)) (y := (.fresh, .int 1)) rfl rfl
  refine wp_ife (v := false) ?_ (fun h => by cases h) fun _ => wp_done ?_
  · refine as_bool (ev_or ?_)
    refine (evB_skip (not_t (by simp [FnDef.start, f_law_good, Z40, Z41, Z42, Z43, Z44, Z45, Z46, Z47, Z48, Z49, Z50, Z51, Z52, Z53, Z54, Z55, Z56, Z57, Z58, Z59, Z60, Z61, Z62, Z1, Z2, Z3, Z4, Z5, Z6, Z7, Z8, Z9, Z10, Z11, Z12, Z13, Z14, Z15, Z16, Z17, Z18, Z19, Z20, Z21, Z22, Z23, Z24, Z25, Z26, Z27, Z28, Z29, Z30, Z31, Z32, Z33, Z34, Z35, Z36, Z37, Z38, Z39, asBool, asClean, Z113, Z110, Z111, Z114, Z112, Z115, Z107, Z104, Z105, Z108, Z106, Z109, Z125, Z122, Z123, Z126, Z124, Z127, Z119, Z116, Z117, Z120, Z118, Z121, varSem, cmpSem, idxSem, Z91, Z92, Z93, Z94, Z95, Z96, Z97, unSem, biSem, maxLen, Z98, Z99, Z100, Z101, Z102, Z103, callSem, Z70, Z71, Z72, Z73, Z74, Z75, Z76, Cl.item, Cl.isClean, Cl.isDirty, tupSem, lstSem, upd, ownAt, dic_nil, dic_int, dic_bool, dic_none, dic_list, dic_tup, dic_pair, dic_dict, dic_pairs, dic_ints, dic_lists, seqItems, uptoSem, sinceSem, onI, onL, addSem, mulSem, Z84, Z85, Z86, Z87, Z88, Z89, Z90, Fn2.sem, mulOk, bindT, Z77, Z78, Z79, Z80, Z81, Z82, Z83, dicAt, dicHas, keyT, keyI, intsOf, dicPut, sh_int, sh_bool, sh_none, sh_pair, sh_tup, sh_ints, sh_pairs, sh_web, any_pair, any_int, eqvAll_ints, eqvAll_pairs, PyData.eqv]))).trans ?_
    refine (evB_skip (as_bool (ev_cmp (x := (.fresh, .int (cs.length : Int))) (y := (.fresh, .int (rs.length : Int))) (v := false) ?_ l0 ?_))).trans ?_
    · have := ev_len (v1 (x3 := none) (x4 := none) (x5 := none) (x6 := none)) (by rw [List.length_map]; omega)
      rwa [List.length_map] at this
    · simp [cmpSem, sh_int, PyData.eqv, hcl]
    · refine (evB_skip (not_t (as_bool (allB_comp (np := false) (items := cs.map .int) ?_ (by rw [List.length_map]; omega) fun d hd => ?_)))).trans rfl
      · have : cs.length ≤ 4096 := by omega
        simp [FnDef.start, f_law_good, Z40, Z41, Z42, Z43, Z44, Z45, Z46, Z47, Z48, Z49, Z50, Z51, Z52, Z53, Z54, Z55, Z56, Z57, Z58, Z59, Z60, Z61, Z62, Z1, Z2, Z3, Z4, Z5, Z6, Z7, Z8, Z9, Z10, Z11, Z12, Z13, Z14, Z15, Z16, Z17, Z18, Z19, Z20, Z21, Z22, Z23, Z24, Z25, Z26, Z27, Z28, Z29, Z30, Z31, Z32, Z33, Z34, Z35, Z36, Z37, Z38, Z39, asBool, asClean, Z113, Z110, Z111, Z114, Z112, Z115, Z107, Z104, Z105, Z108, Z106, Z109, Z125, Z122, Z123, Z126, Z124, Z127, Z119, Z116, Z117, Z120, Z118, Z121, varSem, cmpSem, idxSem, Z91, Z92, Z93, Z94, Z95, Z96, Z97, unSem, biSem, maxLen, Z98, Z99, Z100, Z101, Z102, Z103, callSem, Z70, Z71, Z72, Z73, Z74, Z75, Z76, Cl.item, Cl.isClean, Cl.isDirty, tupSem, lstSem, upd, ownAt, dic_nil, dic_int, dic_bool, dic_none, dic_list, dic_tup, dic_pair, dic_dict, dic_pairs, dic_ints, dic_lists, seqItems, uptoSem, sinceSem, onI, onL, addSem, mulSem, Z84, Z85, Z86, Z87, Z88, Z89, Z90, Fn2.sem, mulOk, bindT, Z77, Z78, Z79, Z80, Z81, Z82, Z83, dicAt, dicHas, keyT, keyI, intsOf, dicPut, sh_int, sh_bool, sh_none, sh_pair, sh_tup, sh_ints, sh_pairs, sh_web, any_pair, any_int, eqvAll_ints, eqvAll_pairs, PyData.eqv, this]
      · obtain ⟨i, hi, rfl⟩ := List.mem_map.mp hd
        simp [FnDef.start, f_law_good, compF, Z40, Z41, Z42, Z43, Z44, Z45, Z46, Z47, Z48, Z49, Z50, Z51, Z52, Z53, Z54, Z55, Z56, Z57, Z58, Z59, Z60, Z61, Z62, Z1, Z2, Z3, Z4, Z5, Z6, Z7, Z8, Z9, Z10, Z11, Z12, Z13, Z14, Z15, Z16, Z17, Z18, Z19, Z20, Z21, Z22, Z23, Z24, Z25, Z26, Z27, Z28, Z29, Z30, Z31, Z32, Z33, Z34, Z35, Z36, Z37, Z38, Z39, asBool, asClean, Z113, Z110, Z111, Z114, Z112, Z115, Z107, Z104, Z105, Z108, Z106, Z109, Z125, Z122, Z123, Z126, Z124, Z127, Z119, Z116, Z117, Z120, Z118, Z121, varSem, cmpSem, idxSem, Z91, Z92, Z93, Z94, Z95, Z96, Z97, unSem, biSem, maxLen, Z98, Z99, Z100, Z101, Z102, Z103, callSem, Z70, Z71, Z72, Z73, Z74, Z75, Z76, Cl.item, Cl.isClean, Cl.isDirty, tupSem, lstSem, upd, ownAt, dic_nil, dic_int, dic_bool, dic_none, dic_list, dic_tup, dic_pair, dic_dict, dic_pairs, dic_ints, dic_lists, seqItems, uptoSem, sinceSem, onI, onL, addSem, mulSem, Z84, Z85, Z86, Z87, Z88, Z89, Z90, Fn2.sem, mulOk, bindT, Z77, Z78, Z79, Z80, Z81, Z82, Z83, dicAt, dicHas, keyT, keyI, intsOf, dicPut, sh_int, sh_bool, sh_none, sh_pair, sh_tup, sh_ints, sh_pairs, sh_web, any_pair, any_int, eqvAll_ints, eqvAll_pairs, PyData.eqv, hW i]
  refine wp_ife (v := false) ?_ (fun h => by cases h) fun _ => wp_done ?_
  · refine as_bool (ev_cmp (x := (.fresh, .list (setL cs))) (y := (.fresh, .list (rangeL 0 (maxI cs + 1)))) (ev_sortedSet v1 hcr) ?_ ?_)
    · have hm2 : (-4096 : Int) ≤ maxI cs + 1 ∧ maxI cs + 1 ≤ 4096 := by omega
      have := mx (x3 := none) (x4 := none) (x5 := none) (x6 := none)
      simp only [FnDef.start, f_law_good] at this ⊢
      simp only [Z1, Z2, Z3, Z4, Z5, Z6, Z7, Z8, Z9, Z10, Z11, Z12, Z13, Z14, Z15, Z16, Z17, Z18, Z19, Z20, Z21, Z22, Z23, Z24, Z25, Z26, Z27, Z28, Z29, Z30, Z31] at this ⊢
      simp at this ⊢
      rw [this]
      simp [hm2]
    · rw [rangeL_eq, setL_col hr hc]
      simp only [cmpSem, sh_ints, PyData.eqv, eqvAll_ints, Bool.and_self, if_true]; simp
  refine wp_for (np := false) (items := (pairsL rs.length).map pairD) (fun j ρ => ∃ x3 x4 x5 x6, ρ = [some (.val (rowD rs)), some (.val (.list (cs.map .int))), some (.val (.list (natD ks))), x3, x4, x5, x6]) ?_ rfl ?_ ?_ ?_
  · have hpl := pairs_len (m := (rs.length : Int)) (by omega) (by omega)
    have hcall := hP (rs.length : Int) (by omega) (by omega)
    simp only [Int.toNat_natCast] at hpl hcall
    have hpl' : (pairsL rs.length).length ≤ 4096 := by omega
    have := l0 (x3 := none) (x4 := none) (x5 := none) (x6 := none)
    have hc1 : evE Φ.toFns (.call "_law_pairs" (.cons (.un .len (.var 0)) .nil)) [some (.val (rowD rs)), some (.val (.list (cs.map .int))), some (.val (.list (natD ks))), none, none, none, none] = some (.clean, .list ((pairsL rs.length).map pairD)) :=
      ev_call (evL_cons this evL_nil) (by simp [callSem, hcall, Z70, Z71, Z72, Z73, Z74, Z75, Z76, Cl.isClean])
    simp only [FnDef.start, f_law_good] at hc1 ⊢
    simp only [Z36, Z37, Z38, Z39] at hc1 ⊢
    simp at hc1 ⊢
    rw [hc1]
    simp [seqItems, Z91, Z92, Z93, Z94, Z95, Z96, Z97, Cl.isDirty, Cl.isClean, maxLen, hpl']
  · exact ⟨none, none, none, none, by simp [FnDef.start, f_law_good]⟩
  · rintro j d ρ hj ⟨x3, x4, x5, x6, rfl⟩
    rw [List.getElem?_map, Option.map_eq_some_iff] at hj
    obtain ⟨⟨a, b⟩, hq, rfl⟩ := hj
    obtain ⟨a0, ab, bn⟩ := pairsL_ok _ _ (List.mem_of_getElem? hq)
    simp only at a0 ab bn
    obtain ⟨i, rfl⟩ : ∃ i : Nat, a = (i : Int) := ⟨a.toNat, by omega⟩
    obtain ⟨k, rfl⟩ : ∃ k : Nat, b = (k : Int) := ⟨b.toNat, by omega⟩
    have hi : i < rs.length := by omega
    have hkk : k < rs.length := by omega
    have i4 : (i : Int) < 4096 := by omega
    have k4 : (k : Int) < 4096 := by omega
    have ci : (cs.map PyData.int)[i]? = some (.int (cs.getD i 0)) := by
      have : i < cs.length := by omega
      rw [List.getElem?_map, List.getElem?_eq_getElem this]; simp [this]
    have ck : (cs.map PyData.int)[k]? = some (.int (cs.getD k 0)) := by
      have : k < cs.length := by omega
      rw [List.getElem?_map, List.getElem?_eq_getElem this]; simp [this]
    refine ⟨_, rfl, ?_⟩
    refine wp_asg (c := .fresh) (d := .int (max (g rs i).1 (g rs k).1)) (by simp [Z40, Z41, Z42, Z43, Z44, Z45, Z46, Z47, Z48, Z49, Z50, Z51, Z52, Z53, Z54, Z55, Z56, Z57, Z58, Z59, Z60, Z61, Z62, Z1, Z2, Z3, Z4, Z5, Z6, Z7, Z8, Z9, Z10, Z11, Z12, Z13, Z14, Z15, Z16, Z17, Z18, Z19, Z20, Z21, Z22, Z23, Z24, Z25, Z26, Z27, Z28, Z29, Z30, Z31, Z32, Z33, Z34, Z35, Z36, Z37, Z38, Z39, asBool, asClean, Z113, Z110, Z111, Z114, Z112, Z115, Z107, Z104, Z105, Z108, Z106, Z109, Z125, Z122, Z123, Z126, Z124, Z127, Z119, Z116, Z117, Z120, Z118, Z121, varSem, cmpSem, idxSem, Z91, Z92, Z93, Z94, Z95, Z96, Z97, unSem, biSem, maxLen, Z98, Z99, Z100, Z101, Z102, Z103, callSem, Z70, Z71, Z72, Z73, Z74, Z75, Z76, Cl.item, Cl.isClean, Cl.isDirty, tupSem, lstSem, upd, ownAt, dic_nil, dic_int, dic_bool, dic_none, dic_list, dic_tup, dic_pair, dic_dict, dic_pairs, dic_ints, dic_lists, seqItems, uptoSem, sinceSem, onI, onL, addSem, mulSem, Z84, Z85, Z86, Z87, Z88, Z89, Z90, Fn2.sem, mulOk, bindT, Z77, Z78, Z79, Z80, Z81, Z82, Z83, dicAt, dicHas, keyT, keyI, intsOf, dicPut, sh_int, sh_bool, sh_none, sh_pair, sh_tup, sh_ints, sh_pairs, sh_web, any_pair, any_int, eqvAll_ints, eqvAll_pairs, PyData.eqv, row_get hi, row_get hkk, i4, k4, pairD]) rfl ?_
    refine wp_asg (c := .fresh) (d := .int (min (g rs i).2 (g rs k).2)) (by simp [Z40, Z41, Z42, Z43, Z44, Z45, Z46, Z47, Z48, Z49, Z50, Z51, Z52, Z53, Z54, Z55, Z56, Z57, Z58, Z59, Z60, Z61, Z62, Z1, Z2, Z3, Z4, Z5, Z6, Z7, Z8, Z9, Z10, Z11, Z12, Z13, Z14, Z15, Z16, Z17, Z18, Z19, Z20, Z21, Z22, Z23, Z24, Z25, Z26, Z27, Z28, Z29, Z30, Z31, Z32, Z33, Z34, Z35, Z36, Z37, Z38, Z39, asBool, asClean, Z113, Z110, Z111, Z114, Z112, Z115, Z107, Z104, Z105, Z108, Z106, Z109, Z125, Z122, Z123, Z126, Z124, Z127, Z119, Z116, Z117, Z120, Z118, Z121, varSem, cmpSem, idxSem, Z91, Z92, Z93, Z94, Z95, Z96, Z97, unSem, biSem, maxLen, Z98, Z99, Z100, Z101, Z102, Z103, callSem, Z70, Z71, Z72, Z73, Z74, Z75, Z76, Cl.item, Cl.isClean, Cl.isDirty, tupSem, lstSem, upd, ownAt, dic_nil, dic_int, dic_bool, dic_none, dic_list, dic_tup, dic_pair, dic_dict, dic_pairs, dic_ints, dic_lists, seqItems, uptoSem, sinceSem, onI, onL, addSem, mulSem, Z84, Z85, Z86, Z87, Z88, Z89, Z90, Fn2.sem, mulOk, bindT, Z77, Z78, Z79, Z80, Z81, Z82, Z83, dicAt, dicHas, keyT, keyI, intsOf, dicPut, sh_int, sh_bool, sh_none, sh_pair, sh_tup, sh_ints, sh_pairs, sh_web, any_pair, any_int, eqvAll_ints, eqvAll_pairs, PyData.eqv, row_get hi, row_get hkk, i4, k4, pairD]) rfl ?_
    refine wp_ife (v := false) ?_ (fun h => by cases h) fun _ => wp_done (wp_done ⟨_, _, _, _, rfl⟩)
    refine as_bool (ev_and ?_)
    by_cases hm : max (g rs i).1 (g rs k).1 ≤ min (g rs i).2 (g rs k).2
    · have hmeet : meetB (g rs i) (g rs k) = true := by
        simp only [meetB, Bool.and_eq_true, decide_eq_true_eq]
        have := hr.le i hi
        have := hr.le k hkk
        omega
      have hne := hc.prop i k hi hkk (by omega) hmeet
      refine (evB_skip (as_bool (ev_cmp (x := (.clean, .int (max (g rs i).1 (g rs k).1))) (y := (.clean, .int (min (g rs i).2 (g rs k).2))) (by simp [Z1, Z2, Z3, Z4, Z5, Z6, Z7, Z8, Z9, Z10, Z11, Z12, Z13, Z14, Z15, Z16, Z17, Z18, Z19, Z20, Z21, Z22, Z23, Z24, Z25, Z26, Z27, Z28, Z29, Z30, Z31, varSem]) (by simp [Z1, Z2, Z3, Z4, Z5, Z6, Z7, Z8, Z9, Z10, Z11, Z12, Z13, Z14, Z15, Z16, Z17, Z18, Z19, Z20, Z21, Z22, Z23, Z24, Z25, Z26, Z27, Z28, Z29, Z30, Z31, varSem]) (by simp [cmpSem, onI, hm])))).trans ?_
      refine evB_stop (v := false) (as_bool (ev_cmp (x := (.fresh, .int (cs.getD i 0))) (y := (.fresh, .int (cs.getD k 0))) ?_ ?_ ?_)) (by decide)
      · simp only [Z1, Z2, Z3, Z4, Z5, Z6, Z7, Z8, Z9, Z10, Z11, Z12, Z13, Z14, Z15, Z16, Z17, Z18, Z19, Z20, Z21, Z22, Z23, Z24, Z25, Z26, Z27, Z28, Z29, Z30, Z31, List.set]
        simp [varSem, idxSem, onI, Z91, Z92, Z93, Z94, Z95, Z96, Z97, i4, Cl.item, Z70, Z71, Z72, Z73, Z74, Z75, Z76]
        simpa using ci
      · simp only [Z1, Z2, Z3, Z4, Z5, Z6, Z7, Z8, Z9, Z10, Z11, Z12, Z13, Z14, Z15, Z16, Z17, Z18, Z19, Z20, Z21, Z22, Z23, Z24, Z25, Z26, Z27, Z28, Z29, Z30, Z31, List.set]
        simp [varSem, idxSem, onI, Z91, Z92, Z93, Z94, Z95, Z96, Z97, k4, Cl.item, Z70, Z71, Z72, Z73, Z74, Z75, Z76]
        simpa using ck
      · simp only [cmpSem, sh_int, Bool.and_self, if_true, PyData.eqv]
        simpa using hne
    · refine evB_stop (v := false) (as_bool (ev_cmp (x := (.clean, .int (max (g rs i).1 (g rs k).1))) (y := (.clean, .int (min (g rs i).2 (g rs k).2))) (by simp [Z1, Z2, Z3, Z4, Z5, Z6, Z7, Z8, Z9, Z10, Z11, Z12, Z13, Z14, Z15, Z16, Z17, Z18, Z19, Z20, Z21, Z22, Z23, Z24, Z25, Z26, Z27, Z28, Z29, Z30, Z31, varSem]) (by simp [Z1, Z2, Z3, Z4, Z5, Z6, Z7, Z8, Z9, Z10, Z11, Z12, Z13, Z14, Z15, Z16, Z17, Z18, Z19, Z20, Z21, Z22, Z23, Z24, Z25, Z26, Z27, Z28, Z29, Z30, Z31, varSem]) (by simp [cmpSem, onI]; omega))) (by decide)
  · rintro ρ ⟨x3, x4, x5, x6, rfl⟩
    refine wp_ife (v := false) ?_ (fun h => by cases h) fun _ => wp_done ?_
    · refine as_bool (ev_or ?_)
      refine (evB_skip (not_t (by simp [Z40, Z41, Z42, Z43, Z44, Z45, Z46, Z47, Z48, Z49, Z50, Z51, Z52, Z53, Z54, Z55, Z56, Z57, Z58, Z59, Z60, Z61, Z62, Z1, Z2, Z3, Z4, Z5, Z6, Z7, Z8, Z9, Z10, Z11, Z12, Z13, Z14, Z15, Z16, Z17, Z18, Z19, Z20, Z21, Z22, Z23, Z24, Z25, Z26, Z27, Z28, Z29, Z30, Z31, Z32, Z33, Z34, Z35, Z36, Z37, Z38, Z39, asBool, asClean, Z113, Z110, Z111, Z114, Z112, Z115, Z107, Z104, Z105, Z108, Z106, Z109, Z125, Z122, Z123, Z126, Z124, Z127, Z119, Z116, Z117, Z120, Z118, Z121, varSem, cmpSem, idxSem, Z91, Z92, Z93, Z94, Z95, Z96, Z97, unSem, biSem, maxLen, Z98, Z99, Z100, Z101, Z102, Z103, callSem, Z70, Z71, Z72, Z73, Z74, Z75, Z76, Cl.item, Cl.isClean, Cl.isDirty, tupSem, lstSem, upd, ownAt, dic_nil, dic_int, dic_bool, dic_none, dic_list, dic_tup, dic_pair, dic_dict, dic_pairs, dic_ints, dic_lists, seqItems, uptoSem, sinceSem, onI, onL, addSem, mulSem, Z84, Z85, Z86, Z87, Z88, Z89, Z90, Fn2.sem, mulOk, bindT, Z77, Z78, Z79, Z80, Z81, Z82, Z83, dicAt, dicHas, keyT, keyI, intsOf, dicPut, sh_int, sh_bool, sh_none, sh_pair, sh_tup, sh_ints, sh_pairs, sh_web, any_pair, any_int, eqvAll_ints, eqvAll_pairs, PyData.eqv]))).trans ?_
      refine (evB_skip (not_t (as_bool (allB_comp (np := false) (items := natD ks) ?_ (by simp; omega) fun d hd => ?_)))).trans rfl
      · have : ks.length ≤ 4096 := by omega
        simp [Z40, Z41, Z42, Z43, Z44, Z45, Z46, Z47, Z48, Z49, Z50, Z51, Z52, Z53, Z54, Z55, Z56, Z57, Z58, Z59, Z60, Z61, Z62, Z1, Z2, Z3, Z4, Z5, Z6, Z7, Z8, Z9, Z10, Z11, Z12, Z13, Z14, Z15, Z16, Z17, Z18, Z19, Z20, Z21, Z22, Z23, Z24, Z25, Z26, Z27, Z28, Z29, Z30, Z31, Z32, Z33, Z34, Z35, Z36, Z37, Z38, Z39, asBool, asClean, Z113, Z110, Z111, Z114, Z112, Z115, Z107, Z104, Z105, Z108, Z106, Z109, Z125, Z122, Z123, Z126, Z124, Z127, Z119, Z116, Z117, Z120, Z118, Z121, varSem, cmpSem, idxSem, Z91, Z92, Z93, Z94, Z95, Z96, Z97, unSem, biSem, maxLen, Z98, Z99, Z100, Z101, Z102, Z103, callSem, Z70, Z71, Z72, Z73, Z74, Z75, Z76, Cl.item, Cl.isClean, Cl.isDirty, tupSem, lstSem, upd, ownAt, dic_nil, dic_int, dic_bool, dic_none, dic_list, dic_tup, dic_pair, dic_dict, dic_pairs, dic_ints, dic_lists, seqItems, uptoSem, sinceSem, onI, onL, addSem, mulSem, Z84, Z85, Z86, Z87, Z88, Z89, Z90, Fn2.sem, mulOk, bindT, Z77, Z78, Z79, Z80, Z81, Z82, Z83, dicAt, dicHas, keyT, keyI, intsOf, dicPut, sh_int, sh_bool, sh_none, sh_pair, sh_tup, sh_ints, sh_pairs, sh_web, any_pair, any_int, eqvAll_ints, eqvAll_pairs, PyData.eqv, this]
      · obtain ⟨i, hi, rfl⟩ := List.mem_map.mp hd
        obtain ⟨k, hk1, rfl⟩ := List.mem_map.mp hi
        have q := hkm k hk1
        have q2 : (k : Int) < (rs.length : Int) := by omega
        simp [compF, Z40, Z41, Z42, Z43, Z44, Z45, Z46, Z47, Z48, Z49, Z50, Z51, Z52, Z53, Z54, Z55, Z56, Z57, Z58, Z59, Z60, Z61, Z62, Z1, Z2, Z3, Z4, Z5, Z6, Z7, Z8, Z9, Z10, Z11, Z12, Z13, Z14, Z15, Z16, Z17, Z18, Z19, Z20, Z21, Z22, Z23, Z24, Z25, Z26, Z27, Z28, Z29, Z30, Z31, Z32, Z33, Z34, Z35, Z36, Z37, Z38, Z39, asBool, asClean, Z113, Z110, Z111, Z114, Z112, Z115, Z107, Z104, Z105, Z108, Z106, Z109, Z125, Z122, Z123, Z126, Z124, Z127, Z119, Z116, Z117, Z120, Z118, Z121, varSem, cmpSem, idxSem, Z91, Z92, Z93, Z94, Z95, Z96, Z97, unSem, biSem, maxLen, Z98, Z99, Z100, Z101, Z102, Z103, callSem, Z70, Z71, Z72, Z73, Z74, Z75, Z76, Cl.item, Cl.isClean, Cl.isDirty, tupSem, lstSem, upd, ownAt, dic_nil, dic_int, dic_bool, dic_none, dic_list, dic_tup, dic_pair, dic_dict, dic_pairs, dic_ints, dic_lists, seqItems, uptoSem, sinceSem, onI, onL, addSem, mulSem, Z84, Z85, Z86, Z87, Z88, Z89, Z90, Fn2.sem, mulOk, bindT, Z77, Z78, Z79, Z80, Z81, Z82, Z83, dicAt, dicHas, keyT, keyI, intsOf, dicPut, sh_int, sh_bool, sh_none, sh_pair, sh_tup, sh_ints, sh_pairs, sh_web, any_pair, any_int, eqvAll_ints, eqvAll_pairs, PyData.eqv, hW (k : Int), hlen, q]
    refine wp_ife (v := false) ?_ (fun h => by cases h) fun _ => wp_done ?_
    · refine as_bool (ev_or ?_)
      have hne0 : (ks.map fun k : Nat => (k : Int)) ≠ [] := by simpa using hkn
      refine (evB_skip (as_bool (ev_cmp (x := (.clean, .list (natD ks))) (y := (.fresh, .list (([] : List Int).map .int))) (v := false) v2 rfl ?_))).trans ?_
      · simp only [cmpSem, sh_ints, PyData.eqv, eqvAll_ints, Bool.and_self, if_true]; simpa using hkn
      refine (evB_skip (as_bool (ev_cmp (x := (.clean, .list (natD ks))) (y := (.fresh, .list (natD ks))) (v := false) v2 (by have q := ev_sortedSet (v2 (x3 := x3) (x4 := x4) (x5 := x5) (x6 := x6)) hkr; rw [setL_crowd hr hk] at q; exact q) ?_))).trans ?_
      · simp only [cmpSem, sh_ints, PyData.eqv, eqvAll_ints, Bool.and_self, if_true]; simp
      refine (evB_skip (as_bool (ev_cmp (x := (.fresh, .int (ks.length : Int))) (y := (.fresh, .int (maxI cs + 1))) (v := false) ?_ mx ?_))).trans rfl
      · have := ev_len (v2 (x3 := x3) (x4 := x4) (x5 := x5) (x6 := x6)) (by simp; omega)
        simpa using this
      · simp [cmpSem, sh_int, PyData.eqv, hkl]
    have comp : ∀ (f : Int × Int → Int) (c : Int) , (∀ p : Int × Int, idxSem (.clean, pairD p) (.int c) = some (.fresh, .int (f p))) → evE Φ.toFns (.comp0 (.one 3) (.idx (.idx (.var 0) (.var 3)) (.const (.int c))) (.seq (.var 2))) [some (.val (rowD rs)), some (.val (.list (cs.map .int))), some (.val (.list (natD ks))), x3, x4, x5, x6] = some (.fresh, .list ((ks.map fun k => f (g rs k)).map .int)) := by
      intro f c hf
      have hk4 : ks.length ≤ 4096 := by omega
      refine ev_comp0 (np := false) (items := natD ks) (by simp [Z40, Z41, Z42, Z43, Z44, Z45, Z46, Z47, Z48, Z49, Z50, Z51, Z52, Z53, Z54, Z55, Z56, Z57, Z58, Z59, Z60, Z61, Z62, Z1, Z2, Z3, Z4, Z5, Z6, Z7, Z8, Z9, Z10, Z11, Z12, Z13, Z14, Z15, Z16, Z17, Z18, Z19, Z20, Z21, Z22, Z23, Z24, Z25, Z26, Z27, Z28, Z29, Z30, Z31, Z32, Z33, Z34, Z35, Z36, Z37, Z38, Z39, asBool, asClean, Z113, Z110, Z111, Z114, Z112, Z115, Z107, Z104, Z105, Z108, Z106, Z109, Z125, Z122, Z123, Z126, Z124, Z127, Z119, Z116, Z117, Z120, Z118, Z121, varSem, cmpSem, idxSem, Z91, Z92, Z93, Z94, Z95, Z96, Z97, unSem, biSem, maxLen, Z98, Z99, Z100, Z101, Z102, Z103, callSem, Z70, Z71, Z72, Z73, Z74, Z75, Z76, Cl.item, Cl.isClean, Cl.isDirty, tupSem, lstSem, upd, ownAt, dic_nil, dic_int, dic_bool, dic_none, dic_list, dic_tup, dic_pair, dic_dict, dic_pairs, dic_ints, dic_lists, seqItems, uptoSem, sinceSem, onI, onL, addSem, mulSem, Z84, Z85, Z86, Z87, Z88, Z89, Z90, Fn2.sem, mulOk, bindT, Z77, Z78, Z79, Z80, Z81, Z82, Z83, dicAt, dicHas, keyT, keyI, intsOf, dicPut, sh_int, sh_bool, sh_none, sh_pair, sh_tup, sh_ints, sh_pairs, sh_web, any_pair, any_int, eqvAll_ints, eqvAll_pairs, PyData.eqv, hk4]) ?_
      rw [compGo_all (k := fun d => match d with | .int i => .int (f (g rs i.toNat)) | _ => .none) fun d hd => ?_]
      · rw [List.map_map, List.map_map, List.map_map]
        congr 1
      · obtain ⟨i, hi, rfl⟩ := List.mem_map.mp hd
        obtain ⟨k, hk1, rfl⟩ := List.mem_map.mp hi
        have q := hkm k hk1
        have q1 : (k : Int) < 4096 := by omega
        have e1 : evE Φ.toFns (.idx (.idx (.var 0) (.var 3)) (.const (.int c))) [some (.val (rowD rs)), some (.val (.list (cs.map .int))), some (.val (.list (natD ks))), some (.val (.int (k : Int))), x4, x5, x6] = some (.fresh, .int (f (g rs k))) :=
          ev_idx (x := (.clean, pairD (g rs k))) (y := (.fresh, .int c)) (by simp [Z1, Z2, Z3, Z4, Z5, Z6, Z7, Z8, Z9, Z10, Z11, Z12, Z13, Z14, Z15, Z16, Z17, Z18, Z19, Z20, Z21, Z22, Z23, Z24, Z25, Z26, Z27, Z28, Z29, Z30, Z31, varSem, idxSem, onI, Z91, Z92, Z93, Z94, Z95, Z96, Z97, Cl.item, Cl.isDirty, row_get q, q1, atom_pair]) rfl (hf _)
        simp only [compF, bindT, List.set]
        rw [e1]; simp [asClean, Cl.isClean]
    have hkn1 : ks.map (fun k => (g rs k).1) ≠ [] := by simpa using hkn
    have hkn2 : ks.map (fun k => (g rs k).2) ≠ [] := by simpa using hkn
    refine wp_ret (c := .fresh) (d := .bool true) (ev_cmp (ev_maxL (comp (·.1) 0 fun p => by simp [idxSem, onI, Z91, Z92, Z93, Z94, Z95, Z96, Z97, pairD, Cl.item, Z70, Z71, Z72, Z73, Z74, Z75, Z76]) hkn1 (by simp; omega)) (ev_minL (comp (·.2) 1 fun p => by simp [idxSem, onI, Z91, Z92, Z93, Z94, Z95, Z96, Z97, pairD, Cl.item, Z70, Z71, Z72, Z73, Z74, Z75, Z76]) hkn2 (by simp; omega)) ?_) ⟨rfl, rfl⟩
    simp only [cmpSem, onI]
    rw [decide_eq_true (crowd_meet hr hk)]
end Mw.L12

set_option maxRecDepth 100000
set_option linter.unusedSimpArgs false
set_option linter.unusedVariables false
namespace Mw.L12
open PySem Mw

theorem r_law {Φ : Fns2} {ws : List Int} (hR : RowOf Φ ws) (hC : Colours Φ) (hK : Crowded Φ) (hG : Lgood Φ) : ∃ fr d, f_law.run Φ [scr ws] = some (fr, d) ∧ fr = true ∧ d = .bool true := by
  obtain ⟨fr, rs, hrow, hr⟩ := hR
  have h1 := hr.one
  have h9 := hr.nine
  have hlen : ¬ 4096 < rs.length := by omega
  obtain ⟨cs, hcs, hc⟩ := hC rs hr
  obtain ⟨ks, hks, hk⟩ := hK rs hr
  have hgood := hG rs cs ks hr hc hk
  refine run_wp (fd := f_law) (ds := [scr ws]) (R := fun fr d => fr = true ∧ d = .bool true) rfl ?_
  refine wp_asg (c := if fr then .fresh else .clean) (d := rowD rs) (by cases fr <;> simp [FnDef.start, f_law, Z40, Z41, Z42, Z43, Z44, Z45, Z46, Z47, Z48, Z49, Z50, Z51, Z52, Z53, Z54, Z55, Z56, Z57, Z58, Z59, Z60, Z61, Z62, Z1, Z2, Z3, Z4, Z5, Z6, Z7, Z8, Z9, Z10, Z11, Z12, Z13, Z14, Z15, Z16, Z17, Z18, Z19, Z20, Z21, Z22, Z23, Z24, Z25, Z26, Z27, Z28, Z29, Z30, Z31, Z32, Z33, Z34, Z35, Z36, Z37, Z38, Z39, asBool, asClean, Z113, Z110, Z111, Z114, Z112, Z115, Z107, Z104, Z105, Z108, Z106, Z109, Z125, Z122, Z123, Z126, Z124, Z127, Z119, Z116, Z117, Z120, Z118, Z121, varSem, cmpSem, idxSem, Z91, Z92, Z93, Z94, Z95, Z96, Z97, unSem, biSem, maxLen, Z98, Z99, Z100, Z101, Z102, Z103, callSem, Z70, Z71, Z72, Z73, Z74, Z75, Z76, Cl.item, Cl.isClean, Cl.isDirty, tupSem, lstSem, upd, ownAt, dic_nil, dic_int, dic_bool, dic_none, dic_list, dic_tup, dic_pair, dic_dict, dic_pairs, dic_ints, dic_lists, seqItems, uptoSem, sinceSem, onI, onL, addSem, mulSem, Z84, Z85, Z86, Z87, Z88, Z89, Z90, Fn2.sem, mulOk, bindT, Z77, Z78, Z79, Z80, Z81, Z82, Z83, dicAt, dicHas, keyT, keyI, intsOf, dicPut, sh_int, sh_bool, sh_none, sh_pair, sh_tup, sh_ints, sh_pairs, sh_web, any_pair, any_int, eqvAll_ints, eqvAll_pairs, PyData.eqv, hrow]) (by cases fr <;> rfl) ?_
  refine wp_asg (c := .fresh) (d := rowD rs) (by simp [FnDef.start, f_law, Z40, Z41, Z42, Z43, Z44, Z45, Z46, Z47, Z48, Z49, Z50, Z51, Z52, Z53, Z54, Z55, Z56, Z57, Z58, Z59, Z60, Z61, Z62, Z1, Z2, Z3, Z4, Z5, Z6, Z7, Z8, Z9, Z10, Z11, Z12, Z13, Z14, Z15, Z16, Z17, Z18, Z19, Z20, Z21, Z22, Z23, Z24, Z25, Z26, Z27, Z28, Z29, Z30, Z31, Z32, Z33, Z34, Z35, Z36, Z37, Z38, Z39, asBool, asClean, Z113, Z110, Z111, Z114, Z112, Z115, Z107, Z104, Z105, Z108, Z106, Z109, Z125, Z122, Z123, Z126, Z124, Z127, Z119, Z116, Z117, Z120, Z118, Z121, varSem, cmpSem, idxSem, Z91, Z92, Z93, Z94, Z95, Z96, Z97, unSem, biSem, maxLen, Z98, Z99, Z100, Z101, Z102, Z103, callSem, Z70, Z71, Z72, Z73, Z74, Z75, Z76, Cl.item, Cl.isClean, Cl.isDirty, tupSem, lstSem, upd, ownAt, dic_nil, dic_int, dic_bool, dic_none, dic_list, dic_tup, dic_pair, dic_dict, dic_pairs, dic_ints, dic_lists, seqItems, uptoSem, sinceSem, onI, onL, addSem, mulSem, Z84, Z85, Z86, Z87, Z88, Z89, Z90, Fn2.sem, mulOk, bindT, Z77, Z78, Z79, Z80, Z81, Z82, Z83, dicAt, dicHas, keyT, keyI, intsOf, dicPut, sh_int, sh_bool, sh_none, sh_pair, sh_tup, sh_ints, sh_pairs, sh_web, any_pair, any_int, eqvAll_ints, eqvAll_pairs, PyData.eqv, hlen]) rfl ?_
  refine wp_for (np := false) (items := rangeL 0 2) (fun j ρ => ∃ x3 x4 x5, ρ = [some (.val (scr ws)), some (.val (rowD rs)), some (.val (rowD rs)), x3, x4, x5]) ?_ rfl ?_ ?_ ?_
  · simp [FnDef.start, f_law, Z40, Z41, Z42, Z43, Z44, Z45, Z46, Z47, Z48, Z49, Z50, Z51, Z52, Z53, Z54, Z55, Z56, Z57, Z58, Z59, Z60, Z61, Z62, Z1, Z2, Z3, Z4, Z5, Z6, Z7, Z8, Z9, Z10, Z11, Z12, Z13, Z14, Z15, Z16, Z17, Z18, Z19, Z20, Z21, Z22, Z23, Z24, Z25, Z26, Z27, Z28, Z29, Z30, Z31, Z32, Z33, Z34, Z35, Z36, Z37, Z38, Z39, asBool, asClean, Z113, Z110, Z111, Z114, Z112, Z115, Z107, Z104, Z105, Z108, Z106, Z109, Z125, Z122, Z123, Z126, Z124, Z127, Z119, Z116, Z117, Z120, Z118, Z121, varSem, cmpSem, idxSem, Z91, Z92, Z93, Z94, Z95, Z96, Z97, unSem, biSem, maxLen, Z98, Z99, Z100, Z101, Z102, Z103, callSem, Z70, Z71, Z72, Z73, Z74, Z75, Z76, Cl.item, Cl.isClean, Cl.isDirty, tupSem, lstSem, upd, ownAt, dic_nil, dic_int, dic_bool, dic_none, dic_list, dic_tup, dic_pair, dic_dict, dic_pairs, dic_ints, dic_lists, seqItems, uptoSem, sinceSem, onI, onL, addSem, mulSem, Z84, Z85, Z86, Z87, Z88, Z89, Z90, Fn2.sem, mulOk, bindT, Z77, Z78, Z79, Z80, Z81, Z82, Z83, dicAt, dicHas, keyT, keyI, intsOf, dicPut, sh_int, sh_bool, sh_none, sh_pair, sh_tup, sh_ints, sh_pairs, sh_web, any_pair, any_int, eqvAll_ints, eqvAll_pairs, PyData.eqv]
  · exact ⟨none, none, none, by simp [FnDef.start, f_law]⟩
  · rintro j d ρ hj ⟨x3, x4, x5, rfl⟩
    refine ⟨_, rfl, ?_⟩
    refine wp_asgOwn (ds := cs.map .int) (by simp [Z40, Z41, Z42, Z43, Z44, Z45, Z46, Z47, Z48, Z49, Z50, Z51, Z52, Z53, Z54, Z55, Z56, Z57, Z58, Z59, Z60, Z61, Z62, Z1, Z2, Z3, Z4, Z5, Z6, Z7, Z8, Z9, Z10, Z11, Z12, Z13, Z14, Z15, Z16, Z17, Z18, Z19, Z20, Z21, Z22, Z23, Z24, Z25, Z26, Z27, Z28, Z29, Z30, Z31, Z32, Z33, Z34, Z35, Z36, Z37, Z38, Z39, asBool, asClean, Z113, Z110, Z111, Z114, Z112, Z115, Z107, Z104, Z105, Z108, Z106, Z109, Z125, Z122, Z123, Z126, Z124, Z127, Z119, Z116, Z117, Z120, Z118, Z121, varSem, cmpSem, idxSem, Z91, Z92, Z93, Z94, Z95, Z96, Z97, unSem, biSem, maxLen, Z98, Z99, Z100, Z101, Z102, Z103, callSem, Z70, Z71, Z72, Z73, Z74, Z75, Z76, Cl.item, Cl.isClean, Cl.isDirty, tupSem, lstSem, upd, ownAt, dic_nil, dic_int, dic_bool, dic_none, dic_list, dic_tup, dic_pair, dic_dict, dic_pairs, dic_ints, dic_lists, seqItems, uptoSem, sinceSem, onI, onL, addSem, mulSem, Z84, Z85, Z86, Z87, Z88, Z89, Z90, Fn2.sem, mulOk, bindT, Z77, Z78, Z79, Z80, Z81, Z82, Z83, dicAt, dicHas, keyT, keyI, intsOf, dicPut, sh_int, sh_bool, sh_none, sh_pair, sh_tup, sh_ints, sh_pairs, sh_web, any_pair, any_int, eqvAll_ints, eqvAll_pairs, PyData.eqv, hcs]) ?_
    refine wp_asgOwn (ds := natD ks) (ev_call (evL_cons (x := (.clean, rowD rs)) (by simp [Z1, Z2, Z3, Z4, Z5, Z6, Z7, Z8, Z9, Z10, Z11, Z12, Z13, Z14, Z15, Z16, Z17, Z18, Z19, Z20, Z21, Z22, Z23, Z24, Z25, Z26, Z27, Z28, Z29, Z30, Z31, varSem]) evL_nil) (by simp only [callSem, List.map_cons, List.map_nil, hks]; rfl)) ?_
    have hd1 := dic_ints cs
    have hd2 := dic_ints (ks.map fun k : Nat => (k : Int))
    have hcl : cs.length ≤ 9 := by rw [hc.len]; omega
    have hkl : ks.length ≤ 9 := by have := crowd_len hr hc hk; have := max_range hr hc; omega
    have hgc : evE Φ.toFns (.call "_law_good" (.cons (.var 1) (.cons (.var 4) (.cons (.var 5) .nil)))) [some (.val (scr ws)), some (.val (rowD rs)), some (.val (rowD rs)), some (.val d), some (.own (cs.map .int)), some (.own (natD ks))] = some (.fresh, .bool true) := by
      refine ev_call (evL_cons (x := (.clean, rowD rs)) (by simp [Z1, Z2, Z3, Z4, Z5, Z6, Z7, Z8, Z9, Z10, Z11, Z12, Z13, Z14, Z15, Z16, Z17, Z18, Z19, Z20, Z21, Z22, Z23, Z24, Z25, Z26, Z27, Z28, Z29, Z30, Z31, varSem]) (evL_cons (x := (.shell, .list (cs.map .int))) ?_ (evL_cons (x := (.shell, .list (natD ks))) ?_ evL_nil))) ?_
      · exact ev_var (e := .own (cs.map .int)) rfl (by simp [varSem, hd1])
      · exact ev_var (e := .own (natD ks)) rfl (by simp only [varSem, hd2]; rfl)
      · simp [callSem]
        have := hgood
        simp at this
        rw [this]; rfl
    refine wp_ife (v := false) ?_ (fun h => by cases h) fun _ => wp_done ?_
    · refine as_bool (ev_or ?_)
      refine (evB_skip (not_t (as_bool hgc))).trans ?_
      refine (evB_skip (as_bool (ev_cmp (x := (.clean, rowD rs)) (y := (.clean, rowD rs)) (v := false) (by simp [Z1, Z2, Z3, Z4, Z5, Z6, Z7, Z8, Z9, Z10, Z11, Z12, Z13, Z14, Z15, Z16, Z17, Z18, Z19, Z20, Z21, Z22, Z23, Z24, Z25, Z26, Z27, Z28, Z29, Z30, Z31, varSem]) (by simp [Z1, Z2, Z3, Z4, Z5, Z6, Z7, Z8, Z9, Z10, Z11, Z12, Z13, Z14, Z15, Z16, Z17, Z18, Z19, Z20, Z21, Z22, Z23, Z24, Z25, Z26, Z27, Z28, Z29, Z30, Z31, varSem]) ?_))).trans rfl
      simp only [cmpSem, sh_pairs, PyData.eqv, eqvAll_pairs, Bool.and_self, if_true]; simp
    refine wp_app (ds := cs.map .int) (c := .fresh) (d := .int 0) ?_ (by simp [Z40, Z41, Z42, Z43, Z44, Z45, Z46, Z47, Z48, Z49, Z50, Z51, Z52, Z53, Z54, Z55, Z56, Z57, Z58, Z59, Z60, Z61, Z62, Z1, Z2, Z3, Z4, Z5, Z6, Z7, Z8, Z9, Z10, Z11, Z12, Z13, Z14, Z15, Z16, Z17, Z18, Z19, Z20, Z21, Z22, Z23, Z24, Z25, Z26, Z27, Z28, Z29, Z30, Z31, Z32, Z33, Z34, Z35, Z36, Z37, Z38, Z39, asBool, asClean, Z113, Z110, Z111, Z114, Z112, Z115, Z107, Z104, Z105, Z108, Z106, Z109, Z125, Z122, Z123, Z126, Z124, Z127, Z119, Z116, Z117, Z120, Z118, Z121, varSem, cmpSem, idxSem, Z91, Z92, Z93, Z94, Z95, Z96, Z97, unSem, biSem, maxLen, Z98, Z99, Z100, Z101, Z102, Z103, callSem, Z70, Z71, Z72, Z73, Z74, Z75, Z76, Cl.item, Cl.isClean, Cl.isDirty, tupSem, lstSem, upd, ownAt, dic_nil, dic_int, dic_bool, dic_none, dic_list, dic_tup, dic_pair, dic_dict, dic_pairs, dic_ints, dic_lists, seqItems, uptoSem, sinceSem, onI, onL, addSem, mulSem, Z84, Z85, Z86, Z87, Z88, Z89, Z90, Fn2.sem, mulOk, bindT, Z77, Z78, Z79, Z80, Z81, Z82, Z83, dicAt, dicHas, keyT, keyI, intsOf, dicPut, sh_int, sh_bool, sh_none, sh_pair, sh_tup, sh_ints, sh_pairs, sh_web, any_pair, any_int, eqvAll_ints, eqvAll_pairs, PyData.eqv]) rfl (by rw [List.length_map]; show _ < 4096; omega) ?_
    · simp [ownAt, hd1]
    refine wp_app (ds := natD ks) (c := .fresh) (d := .int 0) ?_ (by simp [Z40, Z41, Z42, Z43, Z44, Z45, Z46, Z47, Z48, Z49, Z50, Z51, Z52, Z53, Z54, Z55, Z56, Z57, Z58, Z59, Z60, Z61, Z62, Z1, Z2, Z3, Z4, Z5, Z6, Z7, Z8, Z9, Z10, Z11, Z12, Z13, Z14, Z15, Z16, Z17, Z18, Z19, Z20, Z21, Z22, Z23, Z24, Z25, Z26, Z27, Z28, Z29, Z30, Z31, Z32, Z33, Z34, Z35, Z36, Z37, Z38, Z39, asBool, asClean, Z113, Z110, Z111, Z114, Z112, Z115, Z107, Z104, Z105, Z108, Z106, Z109, Z125, Z122, Z123, Z126, Z124, Z127, Z119, Z116, Z117, Z120, Z118, Z121, varSem, cmpSem, idxSem, Z91, Z92, Z93, Z94, Z95, Z96, Z97, unSem, biSem, maxLen, Z98, Z99, Z100, Z101, Z102, Z103, callSem, Z70, Z71, Z72, Z73, Z74, Z75, Z76, Cl.item, Cl.isClean, Cl.isDirty, tupSem, lstSem, upd, ownAt, dic_nil, dic_int, dic_bool, dic_none, dic_list, dic_tup, dic_pair, dic_dict, dic_pairs, dic_ints, dic_lists, seqItems, uptoSem, sinceSem, onI, onL, addSem, mulSem, Z84, Z85, Z86, Z87, Z88, Z89, Z90, Fn2.sem, mulOk, bindT, Z77, Z78, Z79, Z80, Z81, Z82, Z83, dicAt, dicHas, keyT, keyI, intsOf, dicPut, sh_int, sh_bool, sh_none, sh_pair, sh_tup, sh_ints, sh_pairs, sh_web, any_pair, any_int, eqvAll_ints, eqvAll_pairs, PyData.eqv]) rfl (by simp [maxLen]; omega) (wp_done ⟨_, _, _, rfl⟩)
    simp only [ownAt, List.set, List.getElem?_cons_succ, List.getElem?_cons_zero, hd2]; rfl
  · rintro ρ ⟨x3, x4, x5, rfl⟩
    exact wp_ret (c := .fresh) (d := .bool true) rfl ⟨rfl, rfl⟩
end Mw.L12

set_option maxRecDepth 100000
set_option linter.unusedSimpArgs false
set_option linter.unusedVariables false
namespace Mw.L12
open PySem Mw

noncomputable def gl : Str → Option Int := fun x => if x = "MOST_STRETCHES" then some 9 else none
noncomputable def P0 : Fns2 := noF gl
noncomputable def P1 : Fns2 := addF P0 "is_whole" f_is_whole
noncomputable def P2 : Fns2 := addF P1 "is_stretch" f_is_stretch
noncomputable def P3 : Fns2 := addF P2 "need_row" f_need_row
noncomputable def P4 : Fns2 := addF P3 "meet" f_meet
noncomputable def P5 : Fns2 := addF P4 "colours" f_colours
noncomputable def P6 : Fns2 := addF P5 "crowded" f_crowded
noncomputable def P7 : Fns2 := addF P6 "_law_cell" f_law_cell
noncomputable def P8 : Fns2 := addF P7 "_law_mixed" f_law_mixed
noncomputable def P9 : Fns2 := addF P8 "_law_whole" f_law_whole
noncomputable def P10 : Fns2 := addF P9 "_law_pairs" f_law_pairs
noncomputable def P11 : Fns2 := addF P10 "_law_row" f_law_row
noncomputable def P12 : Fns2 := addF P11 "_law_good" f_law_good
noncomputable def P13 : Fns2 := addF P12 "law" f_law
theorem whole1 : Whole P1 "is_whole" := fun i => (addF_eq).trans (r_is_whole i)
theorem stretch2 : Stretch P2 := fun p h => (addF_eq).trans (r_stretch whole1 p h)
theorem most2 : P2.gl "MOST_STRETCHES" = some 9 := rfl
theorem need4 : NeedRow P4 := fun rs hr => ((addF_ne (by decide)).trans (addF_eq)).trans (r_need_row stretch2 most2 hr)
theorem need5 : NeedRow P5 := fun rs hr => ((addF_ne (by decide)).trans ((addF_ne (by decide)).trans (addF_eq))).trans (r_need_row stretch2 most2 hr)
theorem meet4 : Meet P4 := fun p q => (addF_eq).trans (r_meet p q)
theorem col12 : Colours P12 := fun rs hr => by
  obtain ⟨fr, d, h, rfl, cs, rfl, hc⟩ := r_colours need4 meet4 hr
  exact ⟨cs, ((addF_ne (by decide)).trans ((addF_ne (by decide)).trans ((addF_ne (by decide)).trans ((addF_ne (by decide)).trans ((addF_ne (by decide)).trans ((addF_ne (by decide)).trans ((addF_ne (by decide)).trans (addF_eq)))))))).trans h, hc⟩
theorem crowd12 : Crowded P12 := fun rs hr => by
  obtain ⟨fr, d, h, rfl, ks, rfl, hk⟩ := r_crowded need5 hr
  exact ⟨ks, ((addF_ne (by decide)).trans ((addF_ne (by decide)).trans ((addF_ne (by decide)).trans ((addF_ne (by decide)).trans ((addF_ne (by decide)).trans ((addF_ne (by decide)).trans (addF_eq))))))).trans h, hk⟩
theorem lwhole11 : Whole P11 "_law_whole" := fun i => ((addF_ne (by decide)).trans ((addF_ne (by decide)).trans (addF_eq))).trans (r_whole i)
theorem pairs11 : Pairs P11 := fun m h0 h9 => ((addF_ne (by decide)).trans (addF_eq)).trans (r_pairs h0 h9)
theorem good12 : Lgood P12 := fun rs cs ks hr hc hk => by
  obtain ⟨fr, d, h, rfl, rfl⟩ := r_good lwhole11 pairs11 hr hc hk
  exact (addF_eq).trans h
theorem law_ok {ws : List Int} (hw : ws.length ≤ 63) : P13.fn "law" [scr ws] = some (true, .bool true) := by
  have cell7 : Cell P7 ws := fun k hk => (addF_eq).trans (r_cell hw hk)
  have mixed10 : Mixed P10 ws := fun k hk => ((addF_ne (by decide)).trans ((addF_ne (by decide)).trans (addF_eq))).trans (r_mixed cell7 hk)
  have row12 : RowOf P12 ws := by
    obtain ⟨fr, d, h, rs, rfl, hr⟩ := r_row mixed10
    exact ⟨fr, rs, ((addF_ne (by decide)).trans (addF_eq)).trans h, hr⟩
  obtain ⟨fr, d, h, rfl, rfl⟩ := r_law row12 col12 crowd12 good12
  exact addF_eq.trans h
end Mw.L12

set_option maxRecDepth 100000
namespace Mw
open PySem PySem.W PyProof.Rows

theorem rep_ints {P : Params} {h : Heap} {a : Addr} {ws : List Int} (hw : Well P h (.ref a) (ofPy (.list (ws.map .int)))) : Rep h (fun _ => False) (.ref a) (.list (ws.map .int)) := by
  have e : ofPy (.list (ws.map .int)) = .list (ws.map .int) := by
    simp only [ofPy, ofPys_eq, List.map_map]
    congr 1
  rw [e] at hw
  generalize hx : WData.list (ws.map .int) = x at hw
  cases hw with
  | @list a' vs xs ho hall =>
    cases hx
    have rl : RepL h (fun _ => False) vs (ws.map .int) := by
      clear ho e
      generalize hy : ws.map WData.int = ys at hall
      have : ∀ (vs : List Value) (ws : List Int), WellAll P h vs (ws.map .int) → RepL h (fun _ => False) vs (ws.map .int) := by
        intro vs
        induction vs with
        | nil =>
          intro ws h
          cases ws with
          | nil => exact .nil
          | cons w r => cases h
        | cons v vs ih =>
          intro ws h
          cases ws with
          | nil => cases h
          | cons w r =>
            cases h with
            | cons h1 h2 =>
              cases h1
              exact .cons (.int _ _) (ih r h2)
      exact this vs ws (hy ▸ hall)
    exact .list (fun w => w) ho (by simpa using rl.1) (by simpa using rl.2)
  | _ => cases hx

theorem ends_true {B : Bs} {sp : Sp} {lvl : Nat} {s₁ : Shared} {fa la : Addr} {ws : List Int} {R : Result → Shared → Prop} (hlaw : FnOk B "law" sp lvl) (hmg : B.mg "law" = some (.ref fa)) (hH : B.H = s₁.heap) (room : Room lvl callerA)
    (hsp : sp [.list (ws.map .int)] = some (true, .bool true)) (rep : Rep s₁.heap (fun _ => False) (.ref la) (.list (ws.map .int))) (hR : ∀ h' tk, (∀ b o, s₁.heap.get? b = some o → h'.get? b = some o) → R (.ok (.ret (.bool true))) { s₁ with heap := h', toks := tk }) :
    codeAny B.M callerA (.call (.ref fa) ⟨[.ref la], []⟩) R s₁ := by
  obtain ⟨fa', o', fd', h1, h2, h3, h4⟩ := hlaw
  have : fa' = fa := by rw [hmg] at h1; cases h1; rfl
  subst this
  refine codeAny_mono (h4 _ true (.bool true) hsp callerA s₁ (fun _ => False) [.ref la] room (fun _ _ e => hH ▸ e) (fun _ h => h.elim) ⟨rfl, ?_⟩) fun r s' hr => ?_
  · intro i v d hv hd
    cases i with
    | zero => simp at hv hd; subst hv; subst hd; exact rep
    | succ i => simp at hv
  · obtain ⟨v, rfl, kp, rv, _⟩ := hr
    have := rv.bool_inv
    subst this
    obtain ⟨h', tk, rfl, keep⟩ := kp
    exact hR h' tk keep
end Mw

set_option Elab.async false
set_option maxRecDepth 100000
set_option maxHeartbeats 8000000
open PySem PySem.W PyProof.Rows
noncomputable def Mw.L12.view : PySem.Program := { PySem.Challenge.rw_uf040003_12.row.prog with main := { PySem.Challenge.rw_uf040003_12.row.prog.main with body := [1, 2, 4, 5, 6, 7, 8, 9, 10, 12, 13, 14, 15, 16, 17, 18].filterMap fun i => PySem.Challenge.rw_uf040003_12.row.prog.main.body[i]? } }
open Mw Mw.L12 in
set_option maxHeartbeats 8000000 in
theorem PySem.Challenge.cw_uf040003_12_holds : PySem.Challenge.rw_uf040003_12.Holds := by
  w_on
  o_law
  refine holds_open (q := Mw.L12.view) (loose := []) (Xt := fun s => xlAt Mw.L12.view [] s && recOk (RowW.records (OpenRow.toRowW PySem.Challenge.rw_uf040003_12.row)) s) (XP := XL Mw.L12.view []) (Yf := Hook.obs Hook.none) (Ya := Hook.val Hook.none) (YP := Hook.says Hook.none) (N := 1746) ?hl (Hook.of Hook.none) (Hook.keeps Hook.none) (fun s e => xl_of s (Bool.and_eq_true_iff.mp e).1) XL.keeps (by rfl) (by rfl) (by rfl) (fun s e => recFacts_of (Bool.and_eq_true_iff.mp e).2) (by rfl) (by first | assumption | decide +kernel) (by decide +kernel) ⟨rfl, rfl, rfl, rfl, rfl, by decide +kernel⟩ ?hw ?hc
  case hw => w_witness2
  case hl => intro w; kernel_rfl
  intro w s₀ s₁ mg mb G Y fa o pm cd doc dV kV ho hd hcd hD hmg hg args vals as hpre hlay hrd hwl hlo
  refine Ground.open G ?_
  intro T _ _ _ _
  clear Y ho hd hcd hD
  have hB := bs_ok (B := ⟨PySem.Challenge.rw_uf040003_12.row.prog, w, s₁.heap, mg, mb⟩) T (by decide +kernel)
  have f0 : FnsOk (⟨PySem.Challenge.rw_uf040003_12.row.prog, w, s₁.heap, mg, mb⟩ : Bs) P0.toFns 0 := fns_nil (fun x i h => by
    unfold gl at h
    split at h
    · rename_i e; cases h; subst e; exact gl_const T (by rfl)
    · cases h)
  have f1 := okF_add T hB f0 "is_whole" f_is_whole (by decide +kernel)
  have f2 := okF_add T hB f1 "is_stretch" f_is_stretch (by decide +kernel)
  have f3 := okF_add T hB f2 "need_row" f_need_row (by decide +kernel)
  have f4 := okF_add T hB f3 "meet" f_meet (by decide +kernel)
  have f5 := okF_add T hB f4 "colours" f_colours (by decide +kernel)
  have f6 := okF_add T hB f5 "crowded" f_crowded (by decide +kernel)
  have f7 := okF_add T hB f6 "_law_cell" f_law_cell (by decide +kernel)
  have f8 := okF_add T hB f7 "_law_mixed" f_law_mixed (by decide +kernel)
  have f9 := okF_add T hB f8 "_law_whole" f_law_whole (by decide +kernel)
  have f10 := okF_add T hB f9 "_law_pairs" f_law_pairs (by decide +kernel)
  have f11 := okF_add T hB f10 "_law_row" f_law_row (by decide +kernel)
  have f12 := okF_add T hB f11 "_law_good" f_law_good (by decide +kernel)
  have f13 := okF_add T hB f12 "law" f_law (by decide +kernel)
  wrow_args hpre hlay hrd hwl hlo
  refine enter_call ?_
  refine codeAny_mono ?_ (fun _ _ g => GoodW.toG g)
  rename_i ws _ _ _ _ _ _ _ la _ _ _ _ hwell _ _ _ hcond _
  have hlaw := law_ok (ws := ws) (by simp at hcond; omega)
  refine ends_true (f13.1 "law" ⟨_, _, hlaw⟩) hmg rfl ⟨rfl, by decide, by decide⟩ hlaw (rep_ints hwell) fun h' tk keep => ?_
  refine ⟨.inl ⟨.bool true, .bool true, [], rfl, ?_, ?_, ?_, ?_⟩, keep, rfl, hg⟩
  · intro cls; rfl
  · exact .bool true
  · refine' postW_of ?shp ?vlu ?eqn
    case shp => o_shape
    case vlu => wtm_val
    case eqn => w_fin
  · exact fun _ => ⟨.nil, fun a ha => by simp at ha⟩
