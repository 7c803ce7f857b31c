/- ValidGraph: both functions say the same plain thing; the law's plain function answers true. -/
import Derived.Test.YtiicaoiijhodkaaDoorGp13
import Derived.Test.YtiicaoiijhodkaaDoorGp8
import Derived.Test.YtiicaoiijhodkaaDoorGp7
import Derived.Test.YtiicaoiijhodkaaDoorGp10
import Derived.Test.YtiicaoiijhodkaaDoorGp3
import Derived.Test.YtiicaoiijhodkaaDoorPureNames
import Derived.Test.YtiicaoiijhodkaaDoorPureLess
import Derived.Test.YtiicaoiijhodkaaDoorPureGraph
namespace Go.Proofs.YtiicaoiijhodkaaDoor.Gp
open Go.RowKit Go.Proofs.YtiicaoiijhodkaaDoorW.PrintWords

abbrev nameAt (l : List ByteArray) (i : Nat) : ByteArray := rdOf ByteArray.empty l (i : Int)
/-- Field i's name is good, and behind the one before it. -/
def nmOk (l : List ByteArray) (i : Nat) : Bool := gnB (nameAt l i) && (decide (i = 0) || ltB (nameAt l (i - 1)) (nameAt l i))
def kidOk (n : Nat) (l : List Int) (i : Nat) : Bool := decide (0 ≤ rd l (i : Int) ∧ rd l (i : Int) < (n : Int))
def kidsB (n : Nat) (x : S68) : Bool := decide (∀ i : Nat, i < x.f2.length → kidOk n x.f2 i = true)
def shapeB (x : S68) : Bool :=
  if x.f0 = 4 then decide (x.f1.length = 0 ∧ x.f2.length = 2)
  else if x.f0 = 3 then decide (x.f1.length = x.f2.length ∧ ∀ i : Nat, i < x.f1.length → nmOk x.f1 i = true)
  else if x.f0 = 0 ∨ x.f0 = 1 ∨ x.f0 = 2 then decide (x.f1.length = 0 ∧ x.f2.length = 0)
  else false
def ndB (n : Nat) (x : S68) : Bool := kidsB n x && shapeB x
/-- A graph is valid. -/
def vgB (g : List S68) : Bool := decide (g.length ≤ 4000 ∧ ∀ i : Nat, i < g.length → ndB g.length (rd_T68 g i) = true)
theorem rd_mem_nd (l : List S68) {k : Nat} (h : k < l.length) : rd_T68 l k ∈ l := by
  unfold rd_T68
  rw [Int.toNat_natCast, List.getD_eq_getElem?_getD, List.getElem?_eq_getElem h]
  exact List.getElem_mem h
theorem nameAt_mem (l : List ByteArray) {k : Nat} (h : k < l.length) : nameAt l k ∈ l := by
  unfold nameAt rdOf
  rw [Int.toNat_natCast, List.getD_eq_getElem?_getD, List.getElem?_eq_getElem h]
  exact List.getElem_mem h
theorem wrap_pred (i : Nat) (h : 0 < i) (h2 : i < 9223372036854775807) : wrap64 ((i : Int) - 1) = ((i - 1 : Nat) : Int) := by unfold wrap64; omega

/-! The reference. -/
theorem spec_names (x : S68) (hs : smNode' x) : Ev (fun k => spec_l1NodeOk.l1 k 0 x.f0 x.f1 x.f2) (decide (∀ i : Nat, i < x.f1.length → nmOk x.f1 i = true)) := by
  obtain ⟨hl1, hl2, hz⟩ := hs
  refine cont_loop (fun k i => spec_l1NodeOk.l1 k (i : Nat) x.f0 x.f1 x.f2) x.f1.length (nmOk x.f1) false (fun _ => some true) ?_ ?_ ?_ _ ?_ ?_
  · intro i hi ho r hr
    unfold nmOk at ho
    rw [Bool.and_eq_true] at ho
    refine Ev.shift ?_
    simp only [spec_l1NodeOk.l1, if_pos (show (i : Int) < (x.f1.length : Int) by omega), if_pos (show (0 : Int) ≤ (i : Int) by omega)]
    refine Ev.bind (specGood _) ?_
    simp only [ho.1, if_true]
    by_cases h0 : i = 0
    · subst h0
      simp only [if_neg (show ¬ ((0 : Nat) : Int) > 0 by omega), wrap_nat 0 (by omega)]
      exact hr
    · have hlt := ho.2
      rw [decide_eq_false h0, Bool.false_or] at hlt
      simp only [if_pos (show (i : Int) > 0 by omega), wrap_pred i (by omega) (by omega), if_pos (show (0 : Int) ≤ ((i - 1 : Nat) : Int) by omega), if_pos (show ((i - 1 : Nat) : Int) < (x.f1.length : Int) by omega)]
      refine Ev.bind (specLess _ _ (by have := hz _ (nameAt_mem x.f1 (k := i - 1) (by omega)); unfold nameAt at this; omega)) ?_
      have hlt' : ltB (rdOf ByteArray.empty x.f1 ((i - 1 : Nat) : Int)) (rdOf ByteArray.empty x.f1 (i : Int)) = true := hlt
      simp only [hlt', if_true, wrap_nat i (by omega)]
      exact hr
  · intro i hi ho
    unfold nmOk at ho
    refine Ev.shift ?_
    simp only [spec_l1NodeOk.l1, if_pos (show (i : Int) < (x.f1.length : Int) by omega), if_pos (show (0 : Int) ≤ (i : Int) by omega)]
    refine Ev.bind (specGood _) ?_
    cases hg : gnB (rdOf ByteArray.empty x.f1 (i : Int))
    · simp only [Bool.false_eq_true, if_false]
      exact Ev.now _
    have hg' : gnB (nameAt x.f1 i) = true := hg
    rw [hg', Bool.true_and, Bool.or_eq_false_iff] at ho
    have h0 : ¬ i = 0 := of_decide_eq_false ho.1
    simp only [if_true, if_pos (show (i : Int) > 0 by omega), wrap_pred i (by omega) (by omega), if_pos (show (0 : Int) ≤ ((i - 1 : Nat) : Int) by omega), if_pos (show ((i - 1 : Nat) : Int) < (x.f1.length : Int) by omega)]
    refine Ev.bind (specLess _ _ (by have := hz _ (nameAt_mem x.f1 (k := i - 1) (by omega)); unfold nameAt at this; omega)) ?_
    have hlt' : ltB (rdOf ByteArray.empty x.f1 ((i - 1 : Nat) : Int)) (rdOf ByteArray.empty x.f1 (i : Int)) = false := ho.2
    simp only [hlt', Bool.false_eq_true, if_false]
    exact Ev.now _
  · intro r hr
    refine Ev.shift ?_
    simp only [spec_l1NodeOk.l1, if_neg (show ¬ (x.f1.length : Int) < (x.f1.length : Int) by omega)]
    exact hr
  · intro h
    rw [decide_eq_true h]
    exact Ev.now _
  · rintro ⟨i, hi, ho⟩
    exact decide_eq_false (fun h => by rw [h i hi] at ho; cases ho)
theorem spec_node (n : Nat) (x : S68) (hs : smNode' x) : Ev (fun k => spec_l1NodeOk.f k x.f0 x.f1 x.f2 n) (ndB n x) := by
  have hs' := hs
  obtain ⟨hl1, hl2, hz⟩ := hs
  unfold spec_l1NodeOk.f
  refine cont_loop (fun k i => spec_l1NodeOk.l0 k (n : Int) (i : Nat) x.f0 x.f1 x.f2) x.f2.length (kidOk n x.f2) false (fun k => if x.f0 = 4 then (if (x.f1.length : Int) = 0 then (some ((x.f2.length : Int) == 2)) else (some false)) else (if x.f0 = 3 then (if (x.f1.length : Int) = (x.f2.length : Int) then (spec_l1NodeOk.l1 k 0 x.f0 x.f1 x.f2) else (some false)) else (if x.f0 = 0 then (if (x.f1.length : Int) = 0 then (some ((x.f2.length : Int) == 0)) else (some false)) else (if x.f0 = 1 then (if (x.f1.length : Int) = 0 then (some ((x.f2.length : Int) == 0)) else (some false)) else (if x.f0 = 2 then (if (x.f1.length : Int) = 0 then (some ((x.f2.length : Int) == 0)) else (some false)) else (some false)))))) ?_ ?_ ?_ _ ?_ ?_
  · intro i hi ho r hr
    have ho' := of_decide_eq_true ho
    refine Ev.shift ?_
    simp only [spec_l1NodeOk.l0, if_pos (show (i : Int) < (x.f2.length : Int) by omega), if_pos (show (0 : Int) ≤ (i : Int) by omega), if_neg (show ¬ rd x.f2 (i : Int) < 0 by omega), if_neg (show ¬ rd x.f2 (i : Int) ≥ (n : Int) by omega), wrap_nat i (by omega)]
    exact hr
  · intro i hi ho
    have ho' := of_decide_eq_false ho
    refine Ev.shift ?_
    simp only [spec_l1NodeOk.l0, if_pos (show (i : Int) < (x.f2.length : Int) by omega), if_pos (show (0 : Int) ≤ (i : Int) by omega)]
    by_cases h : rd x.f2 (i : Int) < 0
    · simp only [if_pos h]
      exact Ev.now _
    · simp only [if_neg h, if_pos (show rd x.f2 (i : Int) ≥ (n : Int) by omega)]
      exact Ev.now _
  · intro r hr
    refine Ev.shift ?_
    simp only [spec_l1NodeOk.l0, if_neg (show ¬ (x.f2.length : Int) < (x.f2.length : Int) by omega)]
    exact hr
  · intro h
    have hk : kidsB n x = true := decide_eq_true h
    unfold ndB
    rw [hk, Bool.true_and]
    unfold shapeB
    have small : ∀ (m : Nat), Ev (fun _ => if (x.f1.length : Int) = 0 then some ((x.f2.length : Int) == (m : Int)) else some false) (decide (x.f1.length = 0 ∧ x.f2.length = m)) := fun m => by
      by_cases h1 : x.f1.length = 0
      · simp only [if_pos (show (x.f1.length : Int) = 0 by omega)]
        refine Ev.const (congrArg some ?_)
        rw [Bool.eq_iff_iff, beq_iff_eq, decide_eq_true_iff]
        omega
      · simp only [if_neg (show ¬ (x.f1.length : Int) = 0 by omega)]
        rw [decide_eq_false (fun h => h1 h.1)]
        exact Ev.now _
    by_cases h4 : x.f0 = 4
    · simp only [if_pos h4]
      exact small 2
    simp only [if_neg h4]
    by_cases h3 : x.f0 = 3
    · simp only [if_pos h3]
      by_cases hl : x.f1.length = x.f2.length
      · simp only [if_pos (show (x.f1.length : Int) = (x.f2.length : Int) by omega)]
        rw [show decide (x.f1.length = x.f2.length ∧ ∀ i : Nat, i < x.f1.length → nmOk x.f1 i = true) = decide (∀ i : Nat, i < x.f1.length → nmOk x.f1 i = true) from decide_eq_decide.2 ⟨fun h => h.2, fun h => ⟨hl, h⟩⟩]
        exact spec_names x hs'
      · simp only [if_neg (show ¬ (x.f1.length : Int) = (x.f2.length : Int) by omega)]
        rw [decide_eq_false (fun h => hl h.1)]
        exact Ev.now _
    simp only [if_neg h3]
    by_cases h0 : x.f0 = 0
    · simp only [if_pos h0, if_pos (show x.f0 = 0 ∨ x.f0 = 1 ∨ x.f0 = 2 from .inl h0)]
      exact small 0
    simp only [if_neg h0]
    by_cases h1 : x.f0 = 1
    · simp only [if_pos h1, if_pos (show x.f0 = 0 ∨ x.f0 = 1 ∨ x.f0 = 2 from .inr (.inl h1))]
      exact small 0
    simp only [if_neg h1]
    by_cases h2 : x.f0 = 2
    · simp only [if_pos h2, if_pos (show x.f0 = 0 ∨ x.f0 = 1 ∨ x.f0 = 2 from .inr (.inr h2))]
      exact small 0
    simp only [if_neg h2, if_neg (show ¬ (x.f0 = 0 ∨ x.f0 = 1 ∨ x.f0 = 2) by omega)]
    exact Ev.now _
  · rintro ⟨i, hi, ho⟩
    have hk : kidsB n x = false := decide_eq_false (fun h => by rw [h i hi] at ho; cases ho)
    unfold ndB
    rw [hk]
    rfl
theorem specValidGraph (g : List S68) (hs : ∀ x ∈ g, smNode' x) : Ev (fun k => spec_ValidGraph.f k g) (vgB g) := by
  unfold spec_ValidGraph.f vgB
  by_cases c : (g.length : Int) > 4000
  · simp only [if_pos c]
    rw [decide_eq_false (fun h => by omega)]
    exact Ev.now _
  simp only [if_neg c]
  refine cont_loop (fun k i => spec_ValidGraph.l0 k (i : Nat) g) g.length (fun i => ndB g.length (rd_T68 g i)) false (fun _ => some true) ?_ ?_ ?_ _ ?_ ?_
  · intro i hi ho r hr
    refine Ev.shift ?_
    simp only [spec_ValidGraph.l0, if_pos (show (i : Int) < (g.length : Int) by omega), if_pos (show (0 : Int) ≤ (i : Int) by omega)]
    refine Ev.bind (spec_node g.length _ (hs _ (rd_mem_nd g hi))) ?_
    simp only [ho, if_true, wrap_nat i (by omega)]
    exact hr
  · intro i hi ho
    refine Ev.shift ?_
    simp only [spec_ValidGraph.l0, if_pos (show (i : Int) < (g.length : Int) by omega), if_pos (show (0 : Int) ≤ (i : Int) by omega)]
    refine Ev.bind (spec_node g.length _ (hs _ (rd_mem_nd g hi))) ?_
    simp only [ho, Bool.false_eq_true, if_false]
    exact Ev.now _
  · intro r hr
    refine Ev.shift ?_
    simp only [spec_ValidGraph.l0, if_neg (show ¬ (g.length : Int) < (g.length : Int) by omega)]
    exact hr
  · intro h
    rw [decide_eq_true ⟨by omega, h⟩]
    exact Ev.now _
  · rintro ⟨i, hi, ho⟩
    exact decide_eq_false (fun h => by rw [h.2 i hi] at ho; cases ho)

/-! The program. -/
theorem impl_names (g : List S68) (n i : Nat) (x : S68) (hs : smNode' x) (r : Bool) (h1 : (∀ j : Nat, j < x.f1.length → nmOk x.f1 j = true) → Ev (fun k => impl_ValidGraph.l0 k g n (wrap64 ((i : Int) + 1)) g) r)
    (h2 : ¬ (∀ j : Nat, j < x.f1.length → nmOk x.f1 j = true) → r = false) : Ev (fun k => impl_ValidGraph.l2 k g n i x.f1 (x.f1.length : Int) 0 g x.f0 x.f1 x.f2) r := by
  obtain ⟨hl1, hl2, hz⟩ := hs
  refine cont_loop (fun k (j : Nat) => impl_ValidGraph.l2 k g n i x.f1 (x.f1.length : Int) j g x.f0 x.f1 x.f2) x.f1.length (nmOk x.f1) false (fun k => impl_ValidGraph.l0 k g n (wrap64 ((i : Int) + 1)) g) ?_ ?_ ?_ r h1 ?_
  · intro j hj ho r hr
    unfold nmOk at ho
    rw [Bool.and_eq_true] at ho
    refine Ev.shift ?_
    have hg : impl_goodName.f (rdOf ByteArray.empty x.f1 (j : Int)) = some true := congrArg some ho.1
    simp only [impl_ValidGraph.l2, if_pos (show (j : Int) < (x.f1.length : Int) by omega), if_pos (show (0 : Int) ≤ (j : Int) by omega), hg, Option.bind_some, if_true]
    by_cases h0 : j = 0
    · subst h0
      simp only [if_neg (show ¬ ((0 : Nat) : Int) > 0 by omega), wrap_nat 0 (by omega)]
      exact hr
    · have hlt := ho.2
      rw [decide_eq_false h0, Bool.false_or] at hlt
      have hlt' : Op.bytesLess (rdOf ByteArray.empty x.f1 ((j - 1 : Nat) : Int)).toList (rdOf ByteArray.empty x.f1 (j : Int)).toList = true := by
        rw [Lib.toList_data, Lib.toList_data]
        exact hlt
      simp only [if_pos (show (j : Int) > 0 by omega), wrap_pred j (by omega) (by omega), if_pos (show (0 : Int) ≤ ((j - 1 : Nat) : Int) by omega), if_pos (show ((j - 1 : Nat) : Int) < (x.f1.length : Int) by omega), hlt', if_true, wrap_nat j (by omega)]
      exact hr
  · intro j hj ho
    unfold nmOk at ho
    refine Ev.shift ?_
    cases hg : gnB (nameAt x.f1 j)
    · have hg' : impl_goodName.f (rdOf ByteArray.empty x.f1 (j : Int)) = some false := congrArg some hg
      simp only [impl_ValidGraph.l2, if_pos (show (j : Int) < (x.f1.length : Int) by omega), if_pos (show (0 : Int) ≤ (j : Int) by omega), hg', Option.bind_some, Bool.false_eq_true, if_false]
      exact Ev.now _
    have hg' : impl_goodName.f (rdOf ByteArray.empty x.f1 (j : Int)) = some true := congrArg some hg
    rw [hg, Bool.true_and, Bool.or_eq_false_iff] at ho
    have h0 : ¬ j = 0 := of_decide_eq_false ho.1
    have hlt' : Op.bytesLess (rdOf ByteArray.empty x.f1 ((j - 1 : Nat) : Int)).toList (rdOf ByteArray.empty x.f1 (j : Int)).toList = false := by
      rw [Lib.toList_data, Lib.toList_data]
      exact ho.2
    simp only [impl_ValidGraph.l2, if_pos (show (j : Int) < (x.f1.length : Int) by omega), if_pos (show (0 : Int) ≤ (j : Int) by omega), hg', Option.bind_some, if_true, if_pos (show (j : Int) > 0 by omega), wrap_pred j (by omega) (by omega), if_pos (show (0 : Int) ≤ ((j - 1 : Nat) : Int) by omega), if_pos (show ((j - 1 : Nat) : Int) < (x.f1.length : Int) by omega), hlt', Bool.false_eq_true, if_false]
    exact Ev.now _
  · intro r hr
    refine Ev.shift ?_
    simp only [impl_ValidGraph.l2, if_neg (show ¬ (x.f1.length : Int) < (x.f1.length : Int) by omega)]
    exact hr
  · rintro ⟨j, hj, ho⟩
    exact h2 (fun h => by rw [h j hj] at ho; cases ho)
theorem impl_shape (g : List S68) (n i : Nat) (x : S68) (hs : smNode' x) (r : Bool) (b : Bool) (hb : b = decide (x.f0 = 0 ∨ x.f0 = 1 ∨ x.f0 = 2)) (h1 : shapeB x = true → Ev (fun k => impl_ValidGraph.l0 k g n (wrap64 ((i : Int) + 1)) g) r)
    (h2 : shapeB x = false → r = false) : Ev (fun k => impl_ValidGraph.j2 k g n i x.f0 b g x.f0 x.f1 x.f2) r := by
  have hs' := hs
  obtain ⟨hl1, hl2, hz⟩ := hs
  refine Ev.shift ?_
  have ew : wrap64 ((x.f1.length : Int) + (x.f2.length : Int)) = (x.f1.length : Int) + x.f2.length := by unfold wrap64; omega
  unfold shapeB at h1 h2
  by_cases h012 : x.f0 = 0 ∨ x.f0 = 1 ∨ x.f0 = 2
  · rw [decide_eq_true h012] at hb
    simp only [if_neg (show ¬ x.f0 = 4 by omega), if_neg (show ¬ x.f0 = 3 by omega), if_pos h012] at h1 h2
    simp only [impl_ValidGraph.j2, hb, if_true, ew]
    by_cases c : (x.f1.length : Int) + x.f2.length > 0
    · simp only [if_pos c]
      rw [h2 (decide_eq_false (fun h => by omega))]
      exact Ev.now _
    · simp only [if_neg c]
      exact h1 (decide_eq_true (by omega))
  rw [decide_eq_false h012] at hb
  simp only [impl_ValidGraph.j2, hb, Bool.false_eq_true, if_false]
  simp only [if_neg h012] at h1 h2
  by_cases h3 : x.f0 = 3
  · simp only [if_pos h3, if_neg (show ¬ x.f0 = 4 by omega)] at h1 h2 ⊢
    by_cases hl : x.f1.length = x.f2.length
    · simp only [if_pos (show (x.f1.length : Int) = (x.f2.length : Int) by omega)]
      exact impl_names g n i x hs' r (fun h => h1 (decide_eq_true ⟨hl, h⟩)) (fun h => h2 (decide_eq_false (fun h' => h h'.2)))
    · simp only [if_neg (show ¬ (x.f1.length : Int) = (x.f2.length : Int) by omega)]
      rw [h2 (decide_eq_false (fun h => hl h.1))]
      exact Ev.now _
  simp only [if_neg h3] at h1 h2 ⊢
  by_cases h4 : x.f0 = 4
  · simp only [if_pos h4] at h1 h2 ⊢
    by_cases c : (x.f1.length : Int) > 0
    · simp only [if_pos c]
      rw [h2 (decide_eq_false (fun h => by omega))]
      exact Ev.now _
    simp only [if_neg c]
    by_cases c2 : (x.f2.length : Int) = 2
    · simp only [if_pos c2]
      exact h1 (decide_eq_true (by omega))
    · simp only [if_neg c2]
      rw [h2 (decide_eq_false (fun h => by omega))]
      exact Ev.now _
  simp only [if_neg h4] at h1 h2 ⊢
  rw [h2 trivial]
  exact Ev.now _
theorem impl_node (g : List S68) (i : Nat) (x : S68) (hs : smNode' x) (r : Bool) (h1 : ndB g.length x = true → Ev (fun k => impl_ValidGraph.l0 k g g.length (wrap64 ((i : Int) + 1)) g) r)
    (h2 : ndB g.length x = false → r = false) : Ev (fun k => impl_ValidGraph.l1 k g g.length i x.f2 (x.f2.length : Int) 0 g x.f0 x.f1 x.f2) r := by
  have hs' := hs
  obtain ⟨hl1, hl2, hz⟩ := hs
  refine cont_loop (fun k (j : Nat) => impl_ValidGraph.l1 k g g.length i x.f2 (x.f2.length : Int) j g x.f0 x.f1 x.f2) x.f2.length (kidOk g.length x.f2) false (fun k => if x.f0 = 0 then (impl_ValidGraph.j2 k g g.length i x.f0 (x.f0 == 0) g x.f0 x.f1 x.f2) else (if x.f0 = 1 then (impl_ValidGraph.j2 k g g.length i x.f0 (x.f0 == 1) g x.f0 x.f1 x.f2) else (impl_ValidGraph.j2 k g g.length i x.f0 (x.f0 == 2) g x.f0 x.f1 x.f2))) ?_ ?_ ?_ r ?_ ?_
  · intro j hj ho r hr
    have ho' := of_decide_eq_true ho
    refine Ev.shift ?_
    simp only [impl_ValidGraph.l1, if_pos (show (j : Int) < (x.f2.length : Int) by omega), if_pos (show (0 : Int) ≤ (j : Int) by omega), if_neg (show ¬ rd x.f2 (j : Int) < 0 by omega), if_neg (show ¬ rd x.f2 (j : Int) ≥ (g.length : Int) by omega), wrap_nat j (by omega)]
    exact hr
  · intro j hj ho
    have ho' := of_decide_eq_false ho
    refine Ev.shift ?_
    simp only [impl_ValidGraph.l1, if_pos (show (j : Int) < (x.f2.length : Int) by omega), if_pos (show (0 : Int) ≤ (j : Int) by omega)]
    by_cases h : rd x.f2 (j : Int) < 0
    · simp only [if_pos h]
      exact Ev.now _
    · simp only [if_neg h, if_pos (show rd x.f2 (j : Int) ≥ (g.length : Int) by omega)]
      exact Ev.now _
  · intro r hr
    refine Ev.shift ?_
    simp only [impl_ValidGraph.l1, if_neg (show ¬ (x.f2.length : Int) < (x.f2.length : Int) by omega)]
    exact hr
  · intro h
    have hk : kidsB g.length x = true := decide_eq_true h
    unfold ndB at h1 h2
    rw [hk, Bool.true_and] at h1 h2
    by_cases h0 : x.f0 = 0
    · simp only [if_pos h0]
      refine impl_shape g _ i x hs' r _ ?_ h1 h2
      rw [h0]; rfl
    simp only [if_neg h0]
    by_cases hh1 : x.f0 = 1
    · simp only [if_pos hh1]
      refine impl_shape g _ i x hs' r _ ?_ h1 h2
      rw [hh1]; rfl
    simp only [if_neg hh1]
    refine impl_shape g _ i x hs' r _ ?_ h1 h2
    rw [Bool.eq_iff_iff, beq_iff_eq, decide_eq_true_iff]
    omega
  · rintro ⟨j, hj, ho⟩
    have hk : kidsB g.length x = false := decide_eq_false (fun h => by rw [h j hj] at ho; cases ho)
    refine h2 ?_
    unfold ndB
    rw [hk]
    rfl
theorem implValidGraph (g : List S68) (hs : ∀ x ∈ g, smNode' x) : Ev (fun k => impl_ValidGraph.f k g) (vgB g) := by
  unfold impl_ValidGraph.f vgB
  by_cases c : (g.length : Int) > 4000
  · simp only [if_pos c]
    rw [decide_eq_false (fun h => by omega)]
    exact Ev.now _
  simp only [if_neg c]
  refine cont_loop (fun k i => impl_ValidGraph.l0 k g (g.length : Int) (i : Nat) g) g.length (fun i => ndB g.length (rd_T68 g i)) false (fun _ => some true) ?_ ?_ ?_ _ ?_ ?_
  · intro i hi ho r hr
    refine Ev.shift ?_
    simp only [impl_ValidGraph.l0, if_pos (show (i : Int) < (g.length : Int) by omega), if_pos (show (0 : Int) ≤ (i : Int) by omega)]
    refine impl_node g i _ (hs _ (rd_mem_nd g hi)) r (fun _ => ?_) (fun h => ?_)
    · simp only [wrap_nat i (by omega)]
      exact hr
    · have ho2 : ndB g.length (rd_T68 g (i : Int)) = true := ho
      rw [ho2] at h
      cases h
  · intro i hi ho
    refine Ev.shift ?_
    simp only [impl_ValidGraph.l0, if_pos (show (i : Int) < (g.length : Int) by omega), if_pos (show (0 : Int) ≤ (i : Int) by omega)]
    refine impl_node g i _ (hs _ (rd_mem_nd g hi)) false (fun h => ?_) (fun _ => rfl)
    have ho2 : ndB g.length (rd_T68 g (i : Int)) = false := ho
    rw [ho2] at h
    cases h
  · intro r hr
    refine Ev.shift ?_
    simp only [impl_ValidGraph.l0, if_neg (show ¬ (g.length : Int) < (g.length : Int) by omega)]
    exact hr
  · intro h
    rw [decide_eq_true ⟨by omega, h⟩]
    exact Ev.now _
  · rintro ⟨i, hi, ho⟩
    exact decide_eq_false (fun h => by rw [h.2 i hi] at ho; cases ho)
/-- The law's plain function answers true. -/
theorem validGraph_true (l : List S94) (hl : l.length ≤ maxLen) (hz : ∀ s ∈ l, q94 s) : Ev (fun k => laws_FnExactValidGraph.f k l) true := by
  unfold laws_FnExactValidGraph.f
  obtain ⟨t, hev, ht⟩ := szGraph_ev l 1048576 (by omega) (by omega) hl hz
  refine Ev.bind hev ?_
  by_cases c : t < 0
  · simp only [if_pos c]
    exact Ev.now _
  simp only [if_neg c]
  obtain ⟨_, _, hl1, hz1⟩ := ht.resolve_left c
  have hto := toGraph_ev l hl1 hz1
  have hs := smNode_conv hz1
  refine Ev.bind hto (Ev.bind (specValidGraph _ hs) (Ev.bind hto (Ev.bind (implValidGraph _ hs) ?_)))
  simp only [bne_self_eq_false, Bool.false_eq_true, if_false]
  refine Ev.bind hto (Ev.bind (eqGraph_ev _ (by simpa using hl1) hs) ?_)
  simp only [if_true]
  exact Ev.now _
end Go.Proofs.YtiicaoiijhodkaaDoor.Gp
