/- A part of the proof of RowFnExactSub: each text's theorems that it needs, packed by shake.py, a program of this work; Lean checks them. -/
import Derived.Test.YtnbohlcibgfjaaaDoorSb2
import Derived.Test.YtnbohlcibgfjaaaDoorSb16
import Derived.KernelRfl
import Derived.Test.YtnbohlcibgfjaaaDoorSb5
import Derived.Test.YtnbohlcibgfjaaaDoorSb8
import Derived.Test.YtnbohlcibgfjaaaDoorSb15
import Derived.Test.YtnbohlcibgfjaaaDoorSb4
import Derived.Test.YtnbohlcibgfjaaaDoorSb3
import Derived.Test.YtnbohlcibgfjaaaDoorSb6
import Derived.Test.YtnbohlcibgfjaaaDoorSb11
import Derived.Test.YtnbohlcibgfjaaaDoorSb7
import Derived.Test.YtnbohlcibgfjaaaDoorSb9
import Derived.Test.YtnbohlcibgfjaaaDoorSb12
import Derived.Test.YtnbohlcibgfjaaaDoorSb10
section
namespace Go.Proofs.YtnbohlcibgfjaaaDoor.Gp
open Go.RowKit Go.Proofs.YtnbohlcibgfjaaaDoorW.PrintWords
def q173 (x : S173) : Prop := ((Lit.int .i64 x.f0).wf = true) ∧ ((x.f1.length ≤ maxLen ∧ ∀ y_ ∈ x.f1, (y_).size ≤ maxLen)) ∧ ((x.f2.length ≤ maxLen ∧ ∀ y_ ∈ x.f2, (Lit.int .i64 y_).wf = true))
theorem opn173 : Opn Tryd.prog 173 k173 q173 := Opn.iso (Opn.struct Tryd.underlying173 (OpnF.cons (Opn.int Tryd.underlying3 (by kernel_rfl)) rfl (OpnF.cons (Opn.slice (Opn.string Tryd.underlying9 (by kernel_rfl)) Tryd.underlying143 (by kernel_rfl)) rfl (OpnF.one (Opn.slice (Opn.int Tryd.underlying3 (by kernel_rfl)) Tryd.underlying135 (by kernel_rfl)) rfl))) (by kernel_rfl)) _ (fun p => (⟨p.1, p.2.1, p.2.2⟩ : S173)) (fun _ => rfl)
end Go.Proofs.YtnbohlcibgfjaaaDoor.Gp
end
section
namespace Go.Proofs.YtnbohlcibgfjaaaDoor.Gp
open Go.RowKit Go.Proofs.YtnbohlcibgfjaaaDoorW.PrintWords
/-- A node that is small. -/
def smNode (x : S173) : Prop := x.f1.length ≤ 1048576 ∧ x.f2.length ≤ 1048576 ∧ ∀ s ∈ x.f1, s.size ≤ 1048576
theorem szNode_ev (x : S173) (left : Int) (h0 : 0 ≤ left) (h1 : left ≤ 1048576) (hq : q173 x) :
    ∃ t, Ev (fun k => laws_szNode.f k x.f0 x.f1 x.f2 left) t ∧ (t < 0 ∨ (0 ≤ t ∧ t ≤ left ∧ smNode x)) := by
  obtain ⟨_, ⟨hl1, hz1⟩, hl2, _⟩ := hq
  unfold laws_szNode.f
  obtain ⟨t, hev, ht⟩ := szStringS_ev x.f1 left h0 h1 hl1 hz1
  by_cases c : t < 0
  · refine ⟨-1, Ev.bind hev ?_, .inl (by omega)⟩
    simp only [if_pos c]
    exact Ev.now _
  obtain ⟨ht0, ht1, hs1, hs2⟩ := ht.resolve_left c
  obtain ⟨u, hu, hc⟩ := szIntS_ev x.f2 t ht0 (by omega) hl2
  by_cases cu : u < 0
  · refine ⟨-1, Ev.bind hev ?_, .inl (by omega)⟩
    simp only [if_neg c, hu, Option.bind_some, if_pos cu]
    exact Ev.now _
  obtain ⟨hu0, hu1, hu2⟩ := hc.resolve_left cu
  refine ⟨u, Ev.bind hev ?_, .inr ⟨hu0, by omega, hs1, hu2, hs2⟩⟩
  simp only [if_neg c, hu, Option.bind_some, if_neg cu]
  exact Ev.now _
theorem szNodeS_ev (l : List S173) (left : Int) (h0 : 0 ≤ left) (h1 : left ≤ 1048576) (hl : l.length ≤ maxLen) (hz : ∀ s ∈ l, q173 s) :
    ∃ t, Ev (fun k => laws_szNodeS.f k l left) t ∧ (t < 0 ∨ (0 ≤ t ∧ t ≤ left ∧ l.length ≤ 1048576 ∧ ∀ s ∈ l, smNode s)) := by
  unfold maxLen at hl
  unfold laws_szNodeS.f
  have e1 : wrap64 (left - (l.length : Int)) = left - l.length := by unfold wrap64; omega
  rw [e1]
  by_cases c1 : left - (l.length : Int) < 0
  · simp only [if_pos c1]
    exact ⟨-1, Ev.now _, .inl (by omega)⟩
  simp only [if_neg c1]
  obtain ⟨t, ht, hev⟩ := sz_loop z173 (fun k s left => laws_szNode.f k s.f0 s.f1 s.f2 left) laws_szNodeS.l0 1048576 (fun _ _ _ _ => rfl) q173 smNode szNode_ev l (by omega) hz (left - (l.length : Int)) (by omega) (by omega)
  exact ⟨t, hev, ht.imp id (fun h => ⟨h.1, by omega, by omega, h.2.2⟩)⟩
theorem szGraph_ev (l : List S173) (left : Int) (h0 : 0 ≤ left) (h1 : left ≤ 1048576) (hl : l.length ≤ maxLen) (hz : ∀ s ∈ l, q173 s) :
    ∃ t, Ev (fun k => laws_szGraph.f k l left) t ∧ (t < 0 ∨ (0 ≤ t ∧ t ≤ left ∧ l.length ≤ 1048576 ∧ ∀ s ∈ l, smNode s)) := by
  unfold laws_szGraph.f
  obtain ⟨t, hev, ht⟩ := szNodeS_ev l left h0 h1 hl hz
  by_cases c : t < 0
  · refine ⟨-1, Ev.bind hev ?_, .inl (by omega)⟩
    simp only [if_pos c]
    exact Ev.now _
  refine ⟨t, Ev.bind hev ?_, ht⟩
  simp only [if_neg c]
  exact Ev.now _
def convNode (x : S173) : S145 := ⟨x.f0, x.f1, x.f2⟩
theorem toNodeS_ev (l : List S173) (hl : l.length ≤ 1048576) (hs : ∀ s ∈ l, smNode s) : Ev (fun k => laws_toNodeS.f k l) (l.map convNode) := by
  unfold laws_toNodeS.f
  simp only [if_pos (show 0 ≤ (l.length : Int) by omega), Int.toNat_natCast, if_pos (show l.length ≤ 5026338869833 by omega)]
  refine to_loop z173 (fun k s => laws_toNode.f k s.f0 s.f1 s.f2) (fun t => (⟨t.1, t.2.1, t.2.2⟩ : S145)) laws_toNodeS.l0 (fun _ _ _ _ => rfl) convNode l (fun x hx => ⟨(x.f0, x.f1, x.f2), ?_, rfl⟩) (by omega) _ (by simp)
  obtain ⟨h1, h2, _⟩ := hs x hx
  unfold laws_toNode.f
  exact Ev.bind (toStringS_ev _ h1) (Ev.bind (toIntS_ev _ h2) (Ev.now _))
theorem toGraph_ev (l : List S173) (hl : l.length ≤ 1048576) (hs : ∀ s ∈ l, smNode s) : Ev (fun k => laws_toGraph.f k l) (l.map convNode) := by
  unfold laws_toGraph.f
  exact Ev.bind (toNodeS_ev l hl hs) (Ev.now _)
def smNode' (x : S145) : Prop := x.f1.length ≤ 1048576 ∧ x.f2.length ≤ 1048576 ∧ ∀ s ∈ x.f1, s.size ≤ 1048576
theorem smNode_conv {l : List S173} (h : ∀ s ∈ l, smNode s) : ∀ s ∈ l.map convNode, smNode' s := fun s hs => by
  obtain ⟨x, hx, rfl⟩ := List.mem_map.1 hs
  exact h x hx
theorem eqNode_ev (x : S145) (h : smNode' x) : Ev (fun k => laws_eqNode.f k x.f0 x.f1 x.f2 x.f0 x.f1 x.f2) true := by
  unfold laws_eqNode.f
  simp only [if_true]
  refine Ev.bind (eqStringS_ev _ h.1) ?_
  simp only [if_true]
  refine Ev.bind (eqIntS_ev _ h.2.1) ?_
  simp only [if_true]
  exact Ev.now _
theorem eqNodeS_ev (l : List S145) (hl : l.length ≤ 1048576) (h : ∀ s ∈ l, smNode' s) : Ev (fun k => laws_eqNodeS.f k l l) true := by
  unfold laws_eqNodeS.f
  simp only [if_true]
  exact eq_loop z145 (fun k x y => laws_eqNode.f k x.f0 x.f1 x.f2 y.f0 y.f1 y.f2) laws_eqNodeS.l0 (fun _ _ _ _ => rfl) l (fun x hx => eqNode_ev x (h x hx)) (by omega)
theorem eqGraph_ev (l : List S145) (hl : l.length ≤ 1048576) (h : ∀ s ∈ l, smNode' s) : Ev (fun k => laws_eqGraph.f k l l) true := by
  unfold laws_eqGraph.f
  refine Ev.bind (eqNodeS_ev l hl h) ?_
  simp only [if_true]
  exact Ev.now _
end Go.Proofs.YtnbohlcibgfjaaaDoor.Gp
end
section
namespace Go.Proofs.YtnbohlcibgfjaaaDoor.Gp
open Go.RowKit Go.Proofs.YtnbohlcibgfjaaaDoorW.PrintWords
abbrev nameAt (l : List ByteArray) (i : Nat) : ByteArray := rdOf ByteArray.empty l (i : Int)
/-- Field i's name is good, and behind the one before it. -/
def nmOk (l : List ByteArray) (i : Nat) : Bool := gnB (nameAt l i) && (decide (i = 0) || ltB (nameAt l (i - 1)) (nameAt l i))
def kidOk (n : Nat) (l : List Int) (i : Nat) : Bool := decide (0 ≤ rd l (i : Int) ∧ rd l (i : Int) < (n : Int))
def kidsB (n : Nat) (x : S145) : Bool := decide (∀ i : Nat, i < x.f2.length → kidOk n x.f2 i = true)
def shapeB (x : S145) : Bool :=
  if x.f0 = 4 then decide (x.f1.length = 0 ∧ x.f2.length = 2)
  else if x.f0 = 3 then decide (x.f1.length = x.f2.length ∧ ∀ i : Nat, i < x.f1.length → nmOk x.f1 i = true)
  else if x.f0 = 0 ∨ x.f0 = 1 ∨ x.f0 = 2 then decide (x.f1.length = 0 ∧ x.f2.length = 0)
  else false
def ndB (n : Nat) (x : S145) : Bool := kidsB n x && shapeB x
/-- A graph is valid. -/
def vgB (g : List S145) : Bool := decide (g.length ≤ 4000 ∧ ∀ i : Nat, i < g.length → ndB g.length (rd_T145 g i) = true)
theorem rd_mem_nd (l : List S145) {k : Nat} (h : k < l.length) : rd_T145 l k ∈ l := by
  unfold rd_T145
  rw [Int.toNat_natCast, List.getD_eq_getElem?_getD, List.getElem?_eq_getElem h]
  exact List.getElem_mem h
theorem nameAt_mem (l : List ByteArray) {k : Nat} (h : k < l.length) : nameAt l k ∈ l := by
  unfold nameAt rdOf
  rw [Int.toNat_natCast, List.getD_eq_getElem?_getD, List.getElem?_eq_getElem h]
  exact List.getElem_mem h
theorem wrap_pred (i : Nat) (h : 0 < i) (h2 : i < 9223372036854775807) : wrap64 ((i : Int) - 1) = ((i - 1 : Nat) : Int) := by unfold wrap64; omega
theorem spec_names (x : S145) (hs : smNode' x) : Ev (fun k => spec_l1NodeOk.l1 k 0 x.f0 x.f1 x.f2) (decide (∀ i : Nat, i < x.f1.length → nmOk x.f1 i = true)) := by
  obtain ⟨hl1, hl2, hz⟩ := hs
  refine cont_loop (fun k i => spec_l1NodeOk.l1 k (i : Nat) x.f0 x.f1 x.f2) x.f1.length (nmOk x.f1) false (fun _ => some true) ?_ ?_ ?_ _ ?_ ?_
  · intro i hi ho r hr
    unfold nmOk at ho
    rw [Bool.and_eq_true] at ho
    refine Ev.shift ?_
    simp only [spec_l1NodeOk.l1, if_pos (show (i : Int) < (x.f1.length : Int) by omega), if_pos (show (0 : Int) ≤ (i : Int) by omega)]
    refine Ev.bind (specGood _) ?_
    simp only [ho.1, if_true]
    by_cases h0 : i = 0
    · subst h0
      simp only [if_neg (show ¬ ((0 : Nat) : Int) > 0 by omega), wrap_nat 0 (by omega)]
      exact hr
    · have hlt := ho.2
      rw [decide_eq_false h0, Bool.false_or] at hlt
      simp only [if_pos (show (i : Int) > 0 by omega), wrap_pred i (by omega) (by omega), if_pos (show (0 : Int) ≤ ((i - 1 : Nat) : Int) by omega), if_pos (show ((i - 1 : Nat) : Int) < (x.f1.length : Int) by omega)]
      refine Ev.bind (specLess _ _ (by have := hz _ (nameAt_mem x.f1 (k := i - 1) (by omega)); unfold nameAt at this; omega)) ?_
      have hlt' : ltB (rdOf ByteArray.empty x.f1 ((i - 1 : Nat) : Int)) (rdOf ByteArray.empty x.f1 (i : Int)) = true := hlt
      simp only [hlt', if_true, wrap_nat i (by omega)]
      exact hr
  · intro i hi ho
    unfold nmOk at ho
    refine Ev.shift ?_
    simp only [spec_l1NodeOk.l1, if_pos (show (i : Int) < (x.f1.length : Int) by omega), if_pos (show (0 : Int) ≤ (i : Int) by omega)]
    refine Ev.bind (specGood _) ?_
    cases hg : gnB (rdOf ByteArray.empty x.f1 (i : Int))
    · simp only [Bool.false_eq_true, if_false]
      exact Ev.now _
    have hg' : gnB (nameAt x.f1 i) = true := hg
    rw [hg', Bool.true_and, Bool.or_eq_false_iff] at ho
    have h0 : ¬ i = 0 := of_decide_eq_false ho.1
    simp only [if_true, if_pos (show (i : Int) > 0 by omega), wrap_pred i (by omega) (by omega), if_pos (show (0 : Int) ≤ ((i - 1 : Nat) : Int) by omega), if_pos (show ((i - 1 : Nat) : Int) < (x.f1.length : Int) by omega)]
    refine Ev.bind (specLess _ _ (by have := hz _ (nameAt_mem x.f1 (k := i - 1) (by omega)); unfold nameAt at this; omega)) ?_
    have hlt' : ltB (rdOf ByteArray.empty x.f1 ((i - 1 : Nat) : Int)) (rdOf ByteArray.empty x.f1 (i : Int)) = false := ho.2
    simp only [hlt', Bool.false_eq_true, if_false]
    exact Ev.now _
  · intro r hr
    refine Ev.shift ?_
    simp only [spec_l1NodeOk.l1, if_neg (show ¬ (x.f1.length : Int) < (x.f1.length : Int) by omega)]
    exact hr
  · intro h
    rw [decide_eq_true h]
    exact Ev.now _
  · rintro ⟨i, hi, ho⟩
    exact decide_eq_false (fun h => by rw [h i hi] at ho; cases ho)
theorem spec_node (n : Nat) (x : S145) (hs : smNode' x) : Ev (fun k => spec_l1NodeOk.f k x.f0 x.f1 x.f2 n) (ndB n x) := by
  have hs' := hs
  obtain ⟨hl1, hl2, hz⟩ := hs
  unfold spec_l1NodeOk.f
  refine cont_loop (fun k i => spec_l1NodeOk.l0 k (n : Int) (i : Nat) x.f0 x.f1 x.f2) x.f2.length (kidOk n x.f2) false (fun k => if x.f0 = 4 then (if (x.f1.length : Int) = 0 then (some ((x.f2.length : Int) == 2)) else (some false)) else (if x.f0 = 3 then (if (x.f1.length : Int) = (x.f2.length : Int) then (spec_l1NodeOk.l1 k 0 x.f0 x.f1 x.f2) else (some false)) else (if x.f0 = 0 then (if (x.f1.length : Int) = 0 then (some ((x.f2.length : Int) == 0)) else (some false)) else (if x.f0 = 1 then (if (x.f1.length : Int) = 0 then (some ((x.f2.length : Int) == 0)) else (some false)) else (if x.f0 = 2 then (if (x.f1.length : Int) = 0 then (some ((x.f2.length : Int) == 0)) else (some false)) else (some false)))))) ?_ ?_ ?_ _ ?_ ?_
  · intro i hi ho r hr
    have ho' := of_decide_eq_true ho
    refine Ev.shift ?_
    simp only [spec_l1NodeOk.l0, if_pos (show (i : Int) < (x.f2.length : Int) by omega), if_pos (show (0 : Int) ≤ (i : Int) by omega), if_neg (show ¬ rd x.f2 (i : Int) < 0 by omega), if_neg (show ¬ rd x.f2 (i : Int) ≥ (n : Int) by omega), wrap_nat i (by omega)]
    exact hr
  · intro i hi ho
    have ho' := of_decide_eq_false ho
    refine Ev.shift ?_
    simp only [spec_l1NodeOk.l0, if_pos (show (i : Int) < (x.f2.length : Int) by omega), if_pos (show (0 : Int) ≤ (i : Int) by omega)]
    by_cases h : rd x.f2 (i : Int) < 0
    · simp only [if_pos h]
      exact Ev.now _
    · simp only [if_neg h, if_pos (show rd x.f2 (i : Int) ≥ (n : Int) by omega)]
      exact Ev.now _
  · intro r hr
    refine Ev.shift ?_
    simp only [spec_l1NodeOk.l0, if_neg (show ¬ (x.f2.length : Int) < (x.f2.length : Int) by omega)]
    exact hr
  · intro h
    have hk : kidsB n x = true := decide_eq_true h
    unfold ndB
    rw [hk, Bool.true_and]
    unfold shapeB
    have small : ∀ (m : Nat), Ev (fun _ => if (x.f1.length : Int) = 0 then some ((x.f2.length : Int) == (m : Int)) else some false) (decide (x.f1.length = 0 ∧ x.f2.length = m)) := fun m => by
      by_cases h1 : x.f1.length = 0
      · simp only [if_pos (show (x.f1.length : Int) = 0 by omega)]
        refine Ev.const (congrArg some ?_)
        rw [Bool.eq_iff_iff, beq_iff_eq, decide_eq_true_iff]
        omega
      · simp only [if_neg (show ¬ (x.f1.length : Int) = 0 by omega)]
        rw [decide_eq_false (fun h => h1 h.1)]
        exact Ev.now _
    by_cases h4 : x.f0 = 4
    · simp only [if_pos h4]
      exact small 2
    simp only [if_neg h4]
    by_cases h3 : x.f0 = 3
    · simp only [if_pos h3]
      by_cases hl : x.f1.length = x.f2.length
      · simp only [if_pos (show (x.f1.length : Int) = (x.f2.length : Int) by omega)]
        rw [show decide (x.f1.length = x.f2.length ∧ ∀ i : Nat, i < x.f1.length → nmOk x.f1 i = true) = decide (∀ i : Nat, i < x.f1.length → nmOk x.f1 i = true) from decide_eq_decide.2 ⟨fun h => h.2, fun h => ⟨hl, h⟩⟩]
        exact spec_names x hs'
      · simp only [if_neg (show ¬ (x.f1.length : Int) = (x.f2.length : Int) by omega)]
        rw [decide_eq_false (fun h => hl h.1)]
        exact Ev.now _
    simp only [if_neg h3]
    by_cases h0 : x.f0 = 0
    · simp only [if_pos h0, if_pos (show x.f0 = 0 ∨ x.f0 = 1 ∨ x.f0 = 2 from .inl h0)]
      exact small 0
    simp only [if_neg h0]
    by_cases h1 : x.f0 = 1
    · simp only [if_pos h1, if_pos (show x.f0 = 0 ∨ x.f0 = 1 ∨ x.f0 = 2 from .inr (.inl h1))]
      exact small 0
    simp only [if_neg h1]
    by_cases h2 : x.f0 = 2
    · simp only [if_pos h2, if_pos (show x.f0 = 0 ∨ x.f0 = 1 ∨ x.f0 = 2 from .inr (.inr h2))]
      exact small 0
    simp only [if_neg h2, if_neg (show ¬ (x.f0 = 0 ∨ x.f0 = 1 ∨ x.f0 = 2) by omega)]
    exact Ev.now _
  · rintro ⟨i, hi, ho⟩
    have hk : kidsB n x = false := decide_eq_false (fun h => by rw [h i hi] at ho; cases ho)
    unfold ndB
    rw [hk]
    rfl
theorem specValidGraph (g : List S145) (hs : ∀ x ∈ g, smNode' x) : Ev (fun k => spec_ValidGraph.f k g) (vgB g) := by
  unfold spec_ValidGraph.f vgB
  by_cases c : (g.length : Int) > 4000
  · simp only [if_pos c]
    rw [decide_eq_false (fun h => by omega)]
    exact Ev.now _
  simp only [if_neg c]
  refine cont_loop (fun k i => spec_ValidGraph.l0 k (i : Nat) g) g.length (fun i => ndB g.length (rd_T145 g i)) false (fun _ => some true) ?_ ?_ ?_ _ ?_ ?_
  · intro i hi ho r hr
    refine Ev.shift ?_
    simp only [spec_ValidGraph.l0, if_pos (show (i : Int) < (g.length : Int) by omega), if_pos (show (0 : Int) ≤ (i : Int) by omega)]
    refine Ev.bind (spec_node g.length _ (hs _ (rd_mem_nd g hi))) ?_
    simp only [ho, if_true, wrap_nat i (by omega)]
    exact hr
  · intro i hi ho
    refine Ev.shift ?_
    simp only [spec_ValidGraph.l0, if_pos (show (i : Int) < (g.length : Int) by omega), if_pos (show (0 : Int) ≤ (i : Int) by omega)]
    refine Ev.bind (spec_node g.length _ (hs _ (rd_mem_nd g hi))) ?_
    simp only [ho, Bool.false_eq_true, if_false]
    exact Ev.now _
  · intro r hr
    refine Ev.shift ?_
    simp only [spec_ValidGraph.l0, if_neg (show ¬ (g.length : Int) < (g.length : Int) by omega)]
    exact hr
  · intro h
    rw [decide_eq_true ⟨by omega, h⟩]
    exact Ev.now _
  · rintro ⟨i, hi, ho⟩
    exact decide_eq_false (fun h => by rw [h.2 i hi] at ho; cases ho)
theorem impl_names (g : List S145) (n i : Nat) (x : S145) (hs : smNode' x) (r : Bool) (h1 : (∀ j : Nat, j < x.f1.length → nmOk x.f1 j = true) → Ev (fun k => impl_ValidGraph.l0 k g n (wrap64 ((i : Int) + 1)) g) r)
    (h2 : ¬ (∀ j : Nat, j < x.f1.length → nmOk x.f1 j = true) → r = false) : Ev (fun k => impl_ValidGraph.l2 k g n i x.f1 (x.f1.length : Int) 0 g x.f0 x.f1 x.f2) r := by
  obtain ⟨hl1, hl2, hz⟩ := hs
  refine cont_loop (fun k (j : Nat) => impl_ValidGraph.l2 k g n i x.f1 (x.f1.length : Int) j g x.f0 x.f1 x.f2) x.f1.length (nmOk x.f1) false (fun k => impl_ValidGraph.l0 k g n (wrap64 ((i : Int) + 1)) g) ?_ ?_ ?_ r h1 ?_
  · intro j hj ho r hr
    unfold nmOk at ho
    rw [Bool.and_eq_true] at ho
    refine Ev.shift ?_
    have hg : impl_goodName.f (rdOf ByteArray.empty x.f1 (j : Int)) = some true := congrArg some ho.1
    simp only [impl_ValidGraph.l2, if_pos (show (j : Int) < (x.f1.length : Int) by omega), if_pos (show (0 : Int) ≤ (j : Int) by omega), hg, Option.bind_some, if_true]
    by_cases h0 : j = 0
    · subst h0
      simp only [if_neg (show ¬ ((0 : Nat) : Int) > 0 by omega), wrap_nat 0 (by omega)]
      exact hr
    · have hlt := ho.2
      rw [decide_eq_false h0, Bool.false_or] at hlt
      have hlt' : Op.bytesLess (rdOf ByteArray.empty x.f1 ((j - 1 : Nat) : Int)).toList (rdOf ByteArray.empty x.f1 (j : Int)).toList = true := by
        rw [Lib.toList_data, Lib.toList_data]
        exact hlt
      simp only [if_pos (show (j : Int) > 0 by omega), wrap_pred j (by omega) (by omega), if_pos (show (0 : Int) ≤ ((j - 1 : Nat) : Int) by omega), if_pos (show ((j - 1 : Nat) : Int) < (x.f1.length : Int) by omega), hlt', if_true, wrap_nat j (by omega)]
      exact hr
  · intro j hj ho
    unfold nmOk at ho
    refine Ev.shift ?_
    cases hg : gnB (nameAt x.f1 j)
    · have hg' : impl_goodName.f (rdOf ByteArray.empty x.f1 (j : Int)) = some false := congrArg some hg
      simp only [impl_ValidGraph.l2, if_pos (show (j : Int) < (x.f1.length : Int) by omega), if_pos (show (0 : Int) ≤ (j : Int) by omega), hg', Option.bind_some, Bool.false_eq_true, if_false]
      exact Ev.now _
    have hg' : impl_goodName.f (rdOf ByteArray.empty x.f1 (j : Int)) = some true := congrArg some hg
    rw [hg, Bool.true_and, Bool.or_eq_false_iff] at ho
    have h0 : ¬ j = 0 := of_decide_eq_false ho.1
    have hlt' : Op.bytesLess (rdOf ByteArray.empty x.f1 ((j - 1 : Nat) : Int)).toList (rdOf ByteArray.empty x.f1 (j : Int)).toList = false := by
      rw [Lib.toList_data, Lib.toList_data]
      exact ho.2
    simp only [impl_ValidGraph.l2, if_pos (show (j : Int) < (x.f1.length : Int) by omega), if_pos (show (0 : Int) ≤ (j : Int) by omega), hg', Option.bind_some, if_true, if_pos (show (j : Int) > 0 by omega), wrap_pred j (by omega) (by omega), if_pos (show (0 : Int) ≤ ((j - 1 : Nat) : Int) by omega), if_pos (show ((j - 1 : Nat) : Int) < (x.f1.length : Int) by omega), hlt', Bool.false_eq_true, if_false]
    exact Ev.now _
  · intro r hr
    refine Ev.shift ?_
    simp only [impl_ValidGraph.l2, if_neg (show ¬ (x.f1.length : Int) < (x.f1.length : Int) by omega)]
    exact hr
  · rintro ⟨j, hj, ho⟩
    exact h2 (fun h => by rw [h j hj] at ho; cases ho)
theorem impl_shape (g : List S145) (n i : Nat) (x : S145) (hs : smNode' x) (r : Bool) (b : Bool) (hb : b = decide (x.f0 = 0 ∨ x.f0 = 1 ∨ x.f0 = 2)) (h1 : shapeB x = true → Ev (fun k => impl_ValidGraph.l0 k g n (wrap64 ((i : Int) + 1)) g) r)
    (h2 : shapeB x = false → r = false) : Ev (fun k => impl_ValidGraph.j2 k g n i x.f0 b g x.f0 x.f1 x.f2) r := by
  have hs' := hs
  obtain ⟨hl1, hl2, hz⟩ := hs
  refine Ev.shift ?_
  have ew : wrap64 ((x.f1.length : Int) + (x.f2.length : Int)) = (x.f1.length : Int) + x.f2.length := by unfold wrap64; omega
  unfold shapeB at h1 h2
  by_cases h012 : x.f0 = 0 ∨ x.f0 = 1 ∨ x.f0 = 2
  · rw [decide_eq_true h012] at hb
    simp only [if_neg (show ¬ x.f0 = 4 by omega), if_neg (show ¬ x.f0 = 3 by omega), if_pos h012] at h1 h2
    simp only [impl_ValidGraph.j2, hb, if_true, ew]
    by_cases c : (x.f1.length : Int) + x.f2.length > 0
    · simp only [if_pos c]
      rw [h2 (decide_eq_false (fun h => by omega))]
      exact Ev.now _
    · simp only [if_neg c]
      exact h1 (decide_eq_true (by omega))
  rw [decide_eq_false h012] at hb
  simp only [impl_ValidGraph.j2, hb, Bool.false_eq_true, if_false]
  simp only [if_neg h012] at h1 h2
  by_cases h3 : x.f0 = 3
  · simp only [if_pos h3, if_neg (show ¬ x.f0 = 4 by omega)] at h1 h2 ⊢
    by_cases hl : x.f1.length = x.f2.length
    · simp only [if_pos (show (x.f1.length : Int) = (x.f2.length : Int) by omega)]
      exact impl_names g n i x hs' r (fun h => h1 (decide_eq_true ⟨hl, h⟩)) (fun h => h2 (decide_eq_false (fun h' => h h'.2)))
    · simp only [if_neg (show ¬ (x.f1.length : Int) = (x.f2.length : Int) by omega)]
      rw [h2 (decide_eq_false (fun h => hl h.1))]
      exact Ev.now _
  simp only [if_neg h3] at h1 h2 ⊢
  by_cases h4 : x.f0 = 4
  · simp only [if_pos h4] at h1 h2 ⊢
    by_cases c : (x.f1.length : Int) > 0
    · simp only [if_pos c]
      rw [h2 (decide_eq_false (fun h => by omega))]
      exact Ev.now _
    simp only [if_neg c]
    by_cases c2 : (x.f2.length : Int) = 2
    · simp only [if_pos c2]
      exact h1 (decide_eq_true (by omega))
    · simp only [if_neg c2]
      rw [h2 (decide_eq_false (fun h => by omega))]
      exact Ev.now _
  simp only [if_neg h4] at h1 h2 ⊢
  rw [h2 trivial]
  exact Ev.now _
theorem impl_node (g : List S145) (i : Nat) (x : S145) (hs : smNode' x) (r : Bool) (h1 : ndB g.length x = true → Ev (fun k => impl_ValidGraph.l0 k g g.length (wrap64 ((i : Int) + 1)) g) r)
    (h2 : ndB g.length x = false → r = false) : Ev (fun k => impl_ValidGraph.l1 k g g.length i x.f2 (x.f2.length : Int) 0 g x.f0 x.f1 x.f2) r := by
  have hs' := hs
  obtain ⟨hl1, hl2, hz⟩ := hs
  refine cont_loop (fun k (j : Nat) => impl_ValidGraph.l1 k g g.length i x.f2 (x.f2.length : Int) j g x.f0 x.f1 x.f2) x.f2.length (kidOk g.length x.f2) false (fun k => if x.f0 = 0 then (impl_ValidGraph.j2 k g g.length i x.f0 (x.f0 == 0) g x.f0 x.f1 x.f2) else (if x.f0 = 1 then (impl_ValidGraph.j2 k g g.length i x.f0 (x.f0 == 1) g x.f0 x.f1 x.f2) else (impl_ValidGraph.j2 k g g.length i x.f0 (x.f0 == 2) g x.f0 x.f1 x.f2))) ?_ ?_ ?_ r ?_ ?_
  · intro j hj ho r hr
    have ho' := of_decide_eq_true ho
    refine Ev.shift ?_
    simp only [impl_ValidGraph.l1, if_pos (show (j : Int) < (x.f2.length : Int) by omega), if_pos (show (0 : Int) ≤ (j : Int) by omega), if_neg (show ¬ rd x.f2 (j : Int) < 0 by omega), if_neg (show ¬ rd x.f2 (j : Int) ≥ (g.length : Int) by omega), wrap_nat j (by omega)]
    exact hr
  · intro j hj ho
    have ho' := of_decide_eq_false ho
    refine Ev.shift ?_
    simp only [impl_ValidGraph.l1, if_pos (show (j : Int) < (x.f2.length : Int) by omega), if_pos (show (0 : Int) ≤ (j : Int) by omega)]
    by_cases h : rd x.f2 (j : Int) < 0
    · simp only [if_pos h]
      exact Ev.now _
    · simp only [if_neg h, if_pos (show rd x.f2 (j : Int) ≥ (g.length : Int) by omega)]
      exact Ev.now _
  · intro r hr
    refine Ev.shift ?_
    simp only [impl_ValidGraph.l1, if_neg (show ¬ (x.f2.length : Int) < (x.f2.length : Int) by omega)]
    exact hr
  · intro h
    have hk : kidsB g.length x = true := decide_eq_true h
    unfold ndB at h1 h2
    rw [hk, Bool.true_and] at h1 h2
    by_cases h0 : x.f0 = 0
    · simp only [if_pos h0]
      refine impl_shape g _ i x hs' r _ ?_ h1 h2
      rw [h0]; rfl
    simp only [if_neg h0]
    by_cases hh1 : x.f0 = 1
    · simp only [if_pos hh1]
      refine impl_shape g _ i x hs' r _ ?_ h1 h2
      rw [hh1]; rfl
    simp only [if_neg hh1]
    refine impl_shape g _ i x hs' r _ ?_ h1 h2
    rw [Bool.eq_iff_iff, beq_iff_eq, decide_eq_true_iff]
    omega
  · rintro ⟨j, hj, ho⟩
    have hk : kidsB g.length x = false := decide_eq_false (fun h => by rw [h j hj] at ho; cases ho)
    refine h2 ?_
    unfold ndB
    rw [hk]
    rfl
theorem implValidGraph (g : List S145) (hs : ∀ x ∈ g, smNode' x) : Ev (fun k => impl_ValidGraph.f k g) (vgB g) := by
  unfold impl_ValidGraph.f vgB
  by_cases c : (g.length : Int) > 4000
  · simp only [if_pos c]
    rw [decide_eq_false (fun h => by omega)]
    exact Ev.now _
  simp only [if_neg c]
  refine cont_loop (fun k i => impl_ValidGraph.l0 k g (g.length : Int) (i : Nat) g) g.length (fun i => ndB g.length (rd_T145 g i)) false (fun _ => some true) ?_ ?_ ?_ _ ?_ ?_
  · intro i hi ho r hr
    refine Ev.shift ?_
    simp only [impl_ValidGraph.l0, if_pos (show (i : Int) < (g.length : Int) by omega), if_pos (show (0 : Int) ≤ (i : Int) by omega)]
    refine impl_node g i _ (hs _ (rd_mem_nd g hi)) r (fun _ => ?_) (fun h => ?_)
    · simp only [wrap_nat i (by omega)]
      exact hr
    · have ho2 : ndB g.length (rd_T145 g (i : Int)) = true := ho
      rw [ho2] at h
      cases h
  · intro i hi ho
    refine Ev.shift ?_
    simp only [impl_ValidGraph.l0, if_pos (show (i : Int) < (g.length : Int) by omega), if_pos (show (0 : Int) ≤ (i : Int) by omega)]
    refine impl_node g i _ (hs _ (rd_mem_nd g hi)) false (fun h => ?_) (fun _ => rfl)
    have ho2 : ndB g.length (rd_T145 g (i : Int)) = false := ho
    rw [ho2] at h
    cases h
  · intro r hr
    refine Ev.shift ?_
    simp only [impl_ValidGraph.l0, if_neg (show ¬ (g.length : Int) < (g.length : Int) by omega)]
    exact hr
  · intro h
    rw [decide_eq_true ⟨by omega, h⟩]
    exact Ev.now _
  · rintro ⟨i, hi, ho⟩
    exact decide_eq_false (fun h => by rw [h.2 i hi] at ho; cases ho)
end Go.Proofs.YtnbohlcibgfjaaaDoor.Gp
end
section
namespace Go.Proofs.YtnbohlcibgfjaaaDoor.Gp
open Go.RowKit Go.Proofs.YtnbohlcibgfjaaaDoorW.PrintWords
theorem tl_eq {a b : ByteArray} : a.toList = b.toList ↔ a = b := by
  rw [Lib.toList_data, Lib.toList_data]
  exact ⟨fun h => data_inj0 h, fun h => by rw [h]⟩
/-- The names stand in order. -/
def Srt (l : List ByteArray) : Prop := ∀ i, i + 1 < l.length → ltB (nameAt l i) (nameAt l (i + 1)) = true
theorem Srt.lt {l : List ByteArray} (h : Srt l) (i : Nat) : ∀ d : Nat, i + d + 1 < l.length → ltB (nameAt l i) (nameAt l (i + d + 1)) = true
  | 0, hd => h i hd
  | d + 1, hd => ltB_trans (h.lt i d (by omega)) (h (i + d + 1) hd)
theorem Srt.lt' {l : List ByteArray} (h : Srt l) {i j : Nat} (hij : i < j) (hj : j < l.length) : ltB (nameAt l i) (nameAt l j) = true := by
  have := h.lt i (j - i - 1) (by omega)
  rw [show i + (j - i - 1) + 1 = j by omega] at this
  exact this
theorem Srt.uniq {l : List ByteArray} (h : Srt l) {i j : Nat} (hi : i < l.length) (hj : j < l.length) (e : nameAt l i = nameAt l j) : i = j := by
  rcases Nat.lt_trichotomy i j with c | c | c
  · have := h.lt' c hj
    rw [e, ltB_irrefl] at this
    cases this
  · exact c
  · have := h.lt' c hi
    rw [e, ltB_irrefl] at this
    cases this
/-- The place of a name. -/
def fk (l : List ByteArray) (nm : ByteArray) : Option Nat := (List.range l.length).find? (fun j => decide (nameAt l j = nm))
theorem fk_some {l : List ByteArray} {nm : ByteArray} {i : Nat} (h : fk l nm = some i) : i < l.length ∧ nameAt l i = nm := by
  have h1 := List.find?_some h
  have h2 := List.mem_of_find?_eq_some h
  exact ⟨List.mem_range.1 h2, of_decide_eq_true h1⟩
theorem fk_none {l : List ByteArray} {nm : ByteArray} (h : fk l nm = none) : ∀ i, i < l.length → nameAt l i ≠ nm := fun i hi e => by
  have := List.find?_eq_none.1 h i (List.mem_range.2 hi)
  exact this (decide_eq_true e)
theorem fk_of {l : List ByteArray} (hs : Srt l) {nm : ByteArray} {i : Nat} (hi : i < l.length) (e : nameAt l i = nm) : fk l nm = some i := by
  cases h : fk l nm with
  | none => exact absurd e (fk_none h i hi)
  | some j =>
    obtain ⟨h1, h2⟩ := fk_some h
    rw [hs.uniq h1 hi (h2.trans e.symm)]
theorem fk_no {l : List ByteArray} {nm : ByteArray} (h : ∀ i, i < l.length → nameAt l i ≠ nm) : fk l nm = none := by
  cases e : fk l nm with
  | none => rfl
  | some j => exact absurd (fk_some e).2 (h j (fk_some e).1)
theorem less_f (a b : ByteArray) : cmp_Less_string.f a b = some (ltB a b) := by
  unfold cmp_Less_string.f cmp_isNaN_string.f ltB
  simp only [bne_self_eq_false, Option.bind_some, Bool.false_eq_true, if_false, Lib.toList_data]
theorem mid_wrap (lo hi : Nat) (h : lo + hi < 4611686018427387904) : wrap64 ((IntKind.u64.wrap (wrap64 ((lo : Int) + (hi : Int)))) / 2) = (((lo + hi) / 2 : Nat) : Int) := by
  have e : wrap64 ((lo : Int) + (hi : Int)) = (lo : Int) + (hi : Int) := by unfold wrap64; omega
  rw [e]
  have e2 : IntKind.u64.wrap ((lo : Int) + (hi : Int)) = (lo : Int) + (hi : Int) := by
    have : ((lo : Int) + (hi : Int)) % 18446744073709551616 = (lo : Int) + (hi : Int) := by omega
    unfold IntKind.wrap
    simp only [IntKind.bits, IntKind.signed, Bool.false_and, Bool.false_eq_true, if_false]
    exact this
  rw [e2]
  unfold wrap64
  omega
theorem bsS_ev (l : List ByteArray) (hs : Srt l) (hl : l.length ≤ 1048576) (nm : ByteArray) : ∀ (d lo hi : Nat), hi - lo ≤ d → lo ≤ hi → hi ≤ l.length → (∀ j, j < lo → ltB (nameAt l j) nm = true) → (∀ j, hi ≤ j → j < l.length → ltB (nameAt l j) nm = false) →
    ∃ m : Nat, Ev (fun k => slices_BinarySearch_string_string.l0 k l nm (l.length : Int) (lo : Int) (hi : Int)) ((m : Int), (fk l nm).isSome) ∧ (∀ i, fk l nm = some i → i = m) := by
  have fin : ∀ m : Nat, m ≤ l.length → (∀ j, j < m → ltB (nameAt l j) nm = true) → (∀ j, m ≤ j → j < l.length → ltB (nameAt l j) nm = false) →
      ∃ m' : Nat, Ev (fun k => slices_BinarySearch_string_string.l0 k l nm (l.length : Int) (m : Int) (m : Int)) ((m' : Int), (fk l nm).isSome) ∧ (∀ i, fk l nm = some i → i = m') := by
    intro m hm ha hb
    have hat : ∀ i, fk l nm = some i → i = m := fun i hi => by
      obtain ⟨g1, g2⟩ := fk_some hi
      rcases Nat.lt_trichotomy i m with q | q | q
      · have := ha i q
        rw [g2, ltB_irrefl] at this
        cases this
      · exact q
      · have hq := hs.lt' q g1
        rw [g2, hb m (Nat.le_refl _) (by omega)] at hq
        cases hq
    refine ⟨m, Ev.shift ?_, hat⟩
    simp only [slices_BinarySearch_string_string.l0, if_neg (show ¬ (m : Int) < (m : Int) by omega)]
    by_cases c : m < l.length
    · simp only [if_pos (show (m : Int) < (l.length : Int) by omega), if_pos (show (0 : Int) ≤ (m : Int) by omega)]
      by_cases e : nameAt l m = nm
      · simp only [if_pos (tl_eq.2 e)]
        rw [fk_of hs c e]
        exact Ev.now _
      · simp only [if_neg (fun q => e (tl_eq.1 q)), slices_isNaN_string.f, bne_self_eq_false, Option.bind_some, Bool.false_eq_true, if_false]
        rw [fk_no (fun i hi h => e (by
          have := hat i (fk_of hs hi h)
          rw [← this]; exact h))]
        exact Ev.now _
    · simp only [if_neg (show ¬ (m : Int) < (l.length : Int) by omega)]
      rw [fk_no (fun i hi h => by
          have := hat i (fk_of hs hi h)
          omega)]
      exact Ev.now _
  intro d
  induction d with
  | zero =>
    intro lo hi hd h0 h1 ha hb
    obtain rfl : lo = hi := by omega
    exact fin lo h1 ha hb
  | succ d ih =>
    intro lo hi hd h0 h1 ha hb
    by_cases hlt : lo < hi
    case neg =>
      obtain rfl : lo = hi := by omega
      exact fin lo h1 ha hb
    have hmt : (lo + hi) / 2 < l.length := by omega
    have hmw := mid_wrap lo hi (by omega)
    by_cases c : ltB (nameAt l ((lo + hi) / 2)) nm = true
    · obtain ⟨m, hm1, hm2⟩ := ih ((lo + hi) / 2 + 1) hi (by omega) (by omega) h1 (fun j hj => by
        rcases Nat.lt_or_ge j ((lo + hi) / 2) with g | g
        · exact ltB_trans (hs.lt' g hmt) c
        · obtain rfl : j = (lo + hi) / 2 := by omega
          exact c) hb
      refine ⟨m, Ev.shift ?_, hm2⟩
      simp only [slices_BinarySearch_string_string.l0, if_pos (show (lo : Int) < (hi : Int) by omega), hmw, if_pos (show (0 : Int) ≤ (((lo + hi) / 2 : Nat) : Int) by omega), if_pos (show (((lo + hi) / 2 : Nat) : Int) < (l.length : Int) by omega), less_f, Option.bind_some, c, if_true, wrap_nat ((lo + hi) / 2) (by omega)]
      exact hm1
    · have c' : ltB (nameAt l ((lo + hi) / 2)) nm = false := by simpa using c
      obtain ⟨m, hm1, hm2⟩ := ih lo ((lo + hi) / 2) (by omega) (by omega) (by omega) ha (fun j hj hjt => by
        cases g : ltB (nameAt l j) nm
        · rfl
        · rcases Nat.lt_or_ge ((lo + hi) / 2) j with q | q
          · rw [ltB_trans (hs.lt' q hjt) g] at c'
            cases c'
          · obtain rfl : j = (lo + hi) / 2 := by omega
            rw [g] at c'
            cases c')
      refine ⟨m, Ev.shift ?_, hm2⟩
      simp only [slices_BinarySearch_string_string.l0, if_pos (show (lo : Int) < (hi : Int) by omega), hmw, if_pos (show (0 : Int) ≤ (((lo + hi) / 2 : Nat) : Int) by omega), if_pos (show (((lo + hi) / 2 : Nat) : Int) < (l.length : Int) by omega), less_f, Option.bind_some, c', Bool.false_eq_true, if_false]
      exact hm1
/-- The library's search: where the name stands, if it does. -/
theorem bsS_some (l : List ByteArray) (hs : Srt l) (hl : l.length ≤ 1048576) (nm : ByteArray) {i : Nat} (h : fk l nm = some i) : Ev (fun k => slices_BinarySearch_string_string.f k l nm) ((i : Int), true) := by
  obtain ⟨m, h1, h2⟩ := bsS_ev l hs hl nm l.length 0 l.length (by omega) (by omega) (Nat.le_refl _) (fun j hj => by omega) (fun j hj hjt => by omega)
  rw [h] at h1
  rw [h2 i h]
  exact h1
theorem bsS_none (l : List ByteArray) (hs : Srt l) (hl : l.length ≤ 1048576) (nm : ByteArray) (h : fk l nm = none) : ∃ m : Int, Ev (fun k => slices_BinarySearch_string_string.f k l nm) (m, false) := by
  obtain ⟨m, h1, h2⟩ := bsS_ev l hs hl nm l.length 0 l.length (by omega) (by omega) (Nat.le_refl _) (fun j hj => by omega) (fun j hj hjt => by omega)
  rw [h] at h1
  exact ⟨_, h1⟩
theorem kid_some (f0 : Int) (l : List ByteArray) (m : List Int) (hs : Srt l) (hl : l.length ≤ 1048576) (hm : l.length = m.length) (nm : ByteArray) {i : Nat} (h : fk l nm = some i) : Ev (fun k => spec_l1Kid.f k f0 l m nm) (rd m (i : Int)) := by
  obtain ⟨g1, g2⟩ := fk_some h
  have : ∀ (d j : Nat), i - j = d → j ≤ i → Ev (fun k => spec_l1Kid.l0 k nm (j : Int) f0 l m) (rd m (i : Int)) := by
    intro d
    induction d with
    | zero =>
      intro j hd hj
      obtain rfl : j = i := by omega
      refine Ev.shift ?_
      simp only [spec_l1Kid.l0, if_pos (show (j : Int) < (l.length : Int) by omega), if_pos (show (0 : Int) ≤ (j : Int) by omega), if_pos (tl_eq.2 g2), if_pos (show (j : Int) < (m.length : Int) by omega)]
      exact Ev.now _
    | succ d ih =>
      intro j hd hj
      have hne : ¬ nameAt l j = nm := fun e => by
        have := hs.uniq (show j < l.length by omega) g1 (e.trans g2.symm)
        omega
      refine Ev.shift ?_
      simp only [spec_l1Kid.l0, if_pos (show (j : Int) < (l.length : Int) by omega), if_pos (show (0 : Int) ≤ (j : Int) by omega), if_neg (fun q => hne (tl_eq.1 q)), wrap_nat j (by omega)]
      exact ih (j + 1) (by omega) (by omega)
  exact this i 0 rfl (Nat.zero_le _)
theorem kid_none (f0 : Int) (l : List ByteArray) (m : List Int) (hl : l.length ≤ 1048576) (nm : ByteArray) (h : fk l nm = none) : Ev (fun k => spec_l1Kid.f k f0 l m nm) (-1) := by
  have : ∀ (d j : Nat), l.length - j = d → j ≤ l.length → Ev (fun k => spec_l1Kid.l0 k nm (j : Int) f0 l m) (-1) := by
    intro d
    induction d with
    | zero =>
      intro j hd hj
      refine Ev.shift ?_
      simp only [spec_l1Kid.l0, if_neg (show ¬ (j : Int) < (l.length : Int) by omega)]
      exact Ev.now _
    | succ d ih =>
      intro j hd hj
      refine Ev.shift ?_
      simp only [spec_l1Kid.l0, if_pos (show (j : Int) < (l.length : Int) by omega), if_pos (show (0 : Int) ≤ (j : Int) by omega), if_neg (fun q => fk_none h j (by omega) (tl_eq.1 q)), wrap_nat j (by omega)]
      exact ih (j + 1) (by omega) (by omega)
  exact this l.length 0 (by omega) (Nat.zero_le _)
end Go.Proofs.YtnbohlcibgfjaaaDoor.Gp
end
section
namespace Go.Proofs.YtnbohlcibgfjaaaDoor.Gp
open Go.RowKit Go.Proofs.YtnbohlcibgfjaaaDoorW.PrintWords
abbrev NdG := List S145
abbrev nd (g : NdG) (x : Nat) : S145 := rd_T145 g (x : Int)
def kidN (g : NdG) (x i : Nat) : Nat := (rd (nd g x).f2 (i : Int)).toNat
theorem vg_kid {g : NdG} (hv : vgB g = true) {x i : Nat} (hx : x < g.length) (hi : i < (nd g x).f2.length) : kidN g x i < g.length ∧ rd (nd g x).f2 (i : Int) = (kidN g x i : Int) := by
  have h1 := (of_decide_eq_true hv).2 x hx
  unfold ndB at h1
  rw [Bool.and_eq_true] at h1
  have h2 := of_decide_eq_true ((of_decide_eq_true h1.1 : ∀ i : Nat, i < (nd g x).f2.length → kidOk g.length (nd g x).f2 i = true) i hi)
  unfold kidN
  omega
theorem vg_len {g : NdG} (hv : vgB g = true) : g.length ≤ 4000 := (of_decide_eq_true hv).1
end Go.Proofs.YtnbohlcibgfjaaaDoor.Gp
end
section
namespace Go.Proofs.YtnbohlcibgfjaaaDoor.Gp
open Go.RowKit Go.Proofs.YtnbohlcibgfjaaaDoorW.PrintWords
theorem nodup_bound : ∀ (N : Nat) (l : List Nat), l.Nodup → (∀ x ∈ l, x < N) → l.length ≤ N
  | 0, l, _, h => by
    cases l with
    | nil => exact Nat.le_refl _
    | cons x r => exact absurd (h x List.mem_cons_self) (Nat.not_lt_zero _)
  | N + 1, l, hd, h => by
    by_cases hm : N ∈ l
    · have h1 := nodup_bound N (l.erase N) (hd.erase N) (fun x hx => by
        have h2 := (List.Nodup.mem_erase_iff hd).1 hx
        have := h x h2.2
        omega)
      rw [List.length_erase_of_mem hm] at h1
      omega
    · have h1 := nodup_bound N l hd (fun x hx => by
        have := h x hx
        have : x ≠ N := fun e => hm (e ▸ hx)
        omega)
      omega
def mkP (x y : Nat) : PrT := ⟨(x : Int), (y : Int), 0⟩
theorem mkP_inj {x y x' y' : Nat} (h : mkP x y = mkP x' y') : x = x' ∧ y = y' := by
  unfold mkP at h
  simp only [S141.mk.injEq] at h
  omega
/-- No pair twice; all pairs of the graph's nodes. -/
structure OkO (n : Nat) (o : List PrT) : Prop where
  nd : o.Nodup
  ok : ∀ q ∈ o, ∃ x y, q = mkP x y ∧ x < n ∧ y < n
theorem OkO.len {n : Nat} {o : List PrT} (h : OkO n o) : o.length ≤ n * n := by
  have h1 : (o.map (fun q => q.f0.toNat * n + q.f1.toNat)).length ≤ n * n := by
    apply nodup_bound
    · rw [List.Nodup, List.pairwise_map]
      refine List.Pairwise.imp_of_mem ?_ h.nd
      intro q r hq hr hne he
      obtain ⟨x, y, rfl, hx, hy⟩ := h.ok q hq
      obtain ⟨x', y', rfl, hx', hy'⟩ := h.ok r hr
      have e : x * n + y = x' * n + y' := by simpa [mkP] using he
      have e1 : x = x' := by
        have a1 : (x * n + y) / n = x := by rw [Nat.mul_comm, Nat.mul_add_div (by omega), Nat.div_eq_of_lt hy, Nat.add_zero]
        have a2 : (x' * n + y') / n = x' := by rw [Nat.mul_comm, Nat.mul_add_div (by omega), Nat.div_eq_of_lt hy', Nat.add_zero]
        rw [← a1, e, a2]
      subst e1
      exact hne (by rw [show y = y' by omega])
    · intro z hz
      obtain ⟨q, hq, rfl⟩ := List.mem_map.1 hz
      obtain ⟨x, y, rfl, hx, hy⟩ := h.ok q hq
      have : x * n + y < n * n := by
        have h2 : (x + 1) * n ≤ n * n := Nat.mul_le_mul_right _ hx
        rw [Nat.succ_mul] at h2
        omega
      simpa [mkP] using this
  rw [List.length_map] at h1
  exact h1
theorem OkO.add {n : Nat} {o : List PrT} (h : OkO n o) {x y : Nat} (hx : x < n) (hy : y < n) : OkO n (addP o (mkP x y)) := by
  by_cases hin : mkP x y ∈ o
  · rw [addP_in hin]; exact h
  · rw [addP_out hin]
    refine ⟨?_, fun q hq => ?_⟩
    · rw [List.nodup_append]
      exact ⟨h.nd, by simp, fun a ha b hb => by rw [List.mem_singleton.1 hb]; exact fun e => hin (e ▸ ha)⟩
    · rcases List.mem_append.1 hq with hq | hq
      · exact h.ok q hq
      · exact ⟨x, y, List.mem_singleton.1 hq, hx, hy⟩
theorem pre_addP (o : List PrT) (q : PrT) : o <+: addP o q := by
  by_cases hin : q ∈ o
  · rw [addP_in hin]; exact List.prefix_refl _
  · rw [addP_out hin]; exact List.prefix_append _ _
theorem pre_addAll : ∀ (L : List PrT) (o : List PrT), o <+: L.foldl addP o
  | [], _ => List.prefix_refl _
  | q :: L, o => (pre_addP o q).trans (pre_addAll L (addP o q))
theorem OkO.addAll {n : Nat} : ∀ (L : List PrT) {o : List PrT}, OkO n o → (∀ q ∈ L, ∃ x y, q = mkP x y ∧ x < n ∧ y < n) → OkO n (L.foldl addP o)
  | [], _, h, _ => h
  | q :: L, o, h, hL => by
    obtain ⟨x, y, rfl, hx, hy⟩ := hL q List.mem_cons_self
    exact OkO.addAll L (h.add hx hy) (fun r hr => hL r (List.mem_cons_of_mem _ hr))
theorem getD_pr {o : List PrT} {j : Nat} (hj : j < o.length) : o.getD j z141 ∈ o := by
  rw [List.getD_eq_getElem?_getD, List.getElem?_eq_getElem hj]
  exact List.getElem_mem hj
end Go.Proofs.YtnbohlcibgfjaaaDoor.Gp
end
section
namespace Go.Proofs.YtnbohlcibgfjaaaDoor.Gp
open Go.RowKit Go.Proofs.YtnbohlcibgfjaaaDoorW.PrintWords
def inG (g : NdG) (a : Int) : Bool := decide (0 ≤ a ∧ a < (g.length : Int))
theorem isNode_f (g : NdG) (a : Int) : spec_l1IsNode.f g a = some (inG g a) := by
  unfold spec_l1IsNode.f inG
  by_cases h : a ≥ 0
  · rw [if_pos h]
    exact congrArg some (decide_eq_decide.2 ⟨fun k => ⟨h, k⟩, fun k => k.2⟩)
  · rw [if_neg h, decide_eq_false (fun k => h k.1)]
theorem has_ev (g : NdG) (hs : ∀ x ∈ g, smNode' x) (a b : Int) : Ev (fun k => impl_Graph_has.f k g [a, b]) (inG g a && inG g b && vgB g) := by
  have stop : ∀ (j : Nat) (x : Int), ([a, b] : List Int)[j]? = some x → inG g x = false → Ev (fun k => impl_Graph_has.l0 k [a, b] 2 (j : Int) g) false := fun j x hj hx => by
    have hjl : j < 2 := (List.getElem?_eq_some_iff.1 hj).1
    have e : rd [a, b] (j : Int) = x := by unfold rd; rw [Int.toNat_natCast, List.getD_eq_getElem?_getD, hj]; rfl
    refine Ev.shift ?_
    simp only [impl_Graph_has.l0, if_pos (show (j : Int) < 2 by omega), if_pos (show (0 : Int) ≤ (j : Int) by omega), List.length_cons, List.length_nil, if_pos (show (j : Int) < ((0 + 1 + 1 : Nat) : Int) by omega), e]
    unfold inG at hx
    have hx' := of_decide_eq_false hx
    by_cases h : x < 0
    · simp only [if_pos h]; exact Ev.now _
    · simp only [if_neg h, if_pos (show x ≥ (g.length : Int) by omega)]; exact Ev.now _
  have next : ∀ (j : Nat) (x : Int) (r : Bool), ([a, b] : List Int)[j]? = some x → inG g x = true → Ev (fun k => impl_Graph_has.l0 k [a, b] 2 ((j + 1 : Nat) : Int) g) r → Ev (fun k => impl_Graph_has.l0 k [a, b] 2 (j : Int) g) r := fun j x r hj hx hr => by
    have hjl : j < 2 := (List.getElem?_eq_some_iff.1 hj).1
    have e : rd [a, b] (j : Int) = x := by unfold rd; rw [Int.toNat_natCast, List.getD_eq_getElem?_getD, hj]; rfl
    have hx' := of_decide_eq_true hx
    refine Ev.shift ?_
    simp only [impl_Graph_has.l0, if_pos (show (j : Int) < 2 by omega), if_pos (show (0 : Int) ≤ (j : Int) by omega), List.length_cons, List.length_nil, if_pos (show (j : Int) < ((0 + 1 + 1 : Nat) : Int) by omega), e, if_neg (show ¬ x < 0 by omega), if_neg (show ¬ x ≥ (g.length : Int) by omega), wrap_nat j (by omega)]
    exact hr
  unfold impl_Graph_has.f
  cases ha : inG g a with
  | false => simp only [Bool.false_and]; exact stop 0 a rfl ha
  | true =>
    refine next 0 a _ rfl ha ?_
    cases hb : inG g b with
    | false => simp only [Bool.true_and, Bool.false_and]; exact stop 1 b rfl hb
    | true =>
      simp only [Bool.true_and]
      refine next 1 b _ rfl hb (Ev.shift ?_)
      simp only [impl_Graph_has.l0, if_neg (show ¬ (((1 + 1 : Nat) : Int)) < 2 by omega)]
      exact Ev.bind (implValidGraph g hs) (Ev.now _)
end Go.Proofs.YtnbohlcibgfjaaaDoor.Gp
end
section
namespace Go.Proofs.YtnbohlcibgfjaaaDoor.Gp
open Go.RowKit Go.Proofs.YtnbohlcibgfjaaaDoorW.PrintWords
abbrev DmT := S186
def dmP (q : DmT) : PrT := ⟨q.f0, q.f1, 0⟩
def pD (x y : Nat) : DmT := ⟨(x : Int), (y : Int)⟩
/-- Two searches with the same steps come to the same answer. -/
theorem two_search {n : Nat} (good : Nat → Nat → Bool) (dem : Nat → Nat → List PrT)
    (hdem : ∀ x y, x < n → y < n → good x y = true → ∀ q ∈ dem x y, ∃ x' y', q = mkP x' y' ∧ x' < n ∧ y' < n) :
    ∀ (d i : Nat) (o : List PrT), n * n - i = d → i ≤ o.length → OkO n o → ∃ T : Bool, ∀ Run : Nat → List PrT → Bool → Prop,
      (∀ o, OkO n o → Run o.length o true) →
      (∀ i o x y T, i < o.length → OkO n o → x < n → y < n → o.getD i z141 = mkP x y → good x y = true → Run (i + 1) ((dem x y).foldl addP o) T → Run i o T) →
      (∀ i o x y, i < o.length → OkO n o → x < n → y < n → o.getD i z141 = mkP x y → good x y = false → Run i o false) → Run i o T := by
  intro d
  induction d with
  | zero =>
    intro i o hd hi hO
    have hlen := hO.len
    obtain rfl : i = o.length := by omega
    exact ⟨true, fun Run h1 _ _ => h1 o hO⟩
  | succ d ih =>
    intro i o hd hi hO
    have hlen := hO.len
    by_cases hlt : i < o.length
    case neg =>
      obtain rfl : i = o.length := by omega
      exact ⟨true, fun Run h1 _ _ => h1 o hO⟩
    obtain ⟨x, y, hq, hx, hy⟩ := hO.ok _ (getD_pr hlt)
    cases hg : good x y with
    | true =>
      have hpre := pre_addAll (dem x y) o
      obtain ⟨T, hT⟩ := ih (i + 1) _ (by omega) (by have := hpre.length_le; omega) (OkO.addAll _ hO (hdem x y hx hy hg))
      exact ⟨T, fun Run h1 h2 h3 => h2 i o x y T hlt hO hx hy hq hg (hT Run h1 h2 h3)⟩
    | false => exact ⟨false, fun Run h1 h2 h3 => h3 i o x y hlt hO hx hy hq hg⟩
/-- What a pair of nodes demands, and whether it can hold. -/
def fkN (g : NdG) (x y i : Nat) : Option Nat := fk (nd g x).f1 (nameAt (nd g y).f1 i)
def allF (g : NdG) (x y : Nat) : Bool := decide (∀ i : Nat, i < (nd g y).f1.length → (fkN g x y i).isSome = true)
def goodS (g : NdG) (x y : Nat) : Bool :=
  if (nd g x).f0 = 0 then true else if (nd g y).f0 = 0 then true else if (nd g x).f0 = (nd g y).f0 then (if (nd g x).f0 = 3 then allF g x y else true) else false
def recD (g : NdG) (x y : Nat) : List DmT := (List.range (nd g y).f1.length).map (fun i => pD (kidN g x ((fkN g x y i).getD 0)) (kidN g y i))
def demD (g : NdG) (x y : Nat) : List DmT :=
  if (nd g x).f0 = 0 then [] else if (nd g y).f0 = 0 then [] else if (nd g x).f0 = 4 then [pD (kidN g y 0) (kidN g x 0), pD (kidN g x 1) (kidN g y 1)] else if (nd g x).f0 = 3 then recD g x y else []
theorem nd_shape {g : NdG} (hv : vgB g = true) {x : Nat} (hx : x < g.length) : shapeB (nd g x) = true := by
  have a := (of_decide_eq_true hv).2 x hx
  unfold ndB at a
  rw [Bool.and_eq_true] at a
  exact a.2
theorem nd_arrow {g : NdG} (hv : vgB g = true) {x : Nat} (hx : x < g.length) (h : (nd g x).f0 = 4) : (nd g x).f1.length = 0 ∧ (nd g x).f2.length = 2 := by
  have a := nd_shape hv hx
  unfold shapeB at a
  rw [if_pos h] at a
  exact of_decide_eq_true a
theorem nd_rec {g : NdG} (hv : vgB g = true) {x : Nat} (hx : x < g.length) (h : (nd g x).f0 = 3) : (nd g x).f1.length = (nd g x).f2.length ∧ Srt (nd g x).f1 := by
  have a := nd_shape hv hx
  unfold shapeB at a
  rw [if_neg (by omega), if_pos h] at a
  obtain ⟨a1, a2⟩ := of_decide_eq_true a
  refine ⟨a1, fun i hi => ?_⟩
  have := a2 (i + 1) hi
  unfold nmOk at this
  rw [Bool.and_eq_true, Bool.or_eq_true] at this
  rcases this.2 with q | q
  · exact absurd (of_decide_eq_true q) (by omega)
  · exact q
theorem nd_else {g : NdG} (hv : vgB g = true) {x : Nat} (hx : x < g.length) (h3 : (nd g x).f0 ≠ 3) (h4 : (nd g x).f0 ≠ 4) : (nd g x).f1.length = 0 ∧ (nd g x).f2.length = 0 := by
  have a := nd_shape hv hx
  unfold shapeB at a
  rw [if_neg h4, if_neg h3] at a
  by_cases c : (nd g x).f0 = 0 ∨ (nd g x).f0 = 1 ∨ (nd g x).f0 = 2
  · rw [if_pos c] at a
    exact of_decide_eq_true a
  · rw [if_neg c] at a
    cases a
theorem fkN_lt {g : NdG} {x y i j : Nat} (h : fkN g x y i = some j) : j < (nd g x).f1.length := (fk_some h).1
theorem recD_ok {g : NdG} (hv : vgB g = true) {x y : Nat} (hx : x < g.length) (hy : y < g.length) (h3 : (nd g x).f0 = 3) (h3' : (nd g y).f0 = 3) (ha : allF g x y = true) : ∀ q ∈ recD g x y, ∃ x' y', q = pD x' y' ∧ x' < g.length ∧ y' < g.length := fun q hq => by
  obtain ⟨i, hi, rfl⟩ := List.mem_map.1 hq
  rw [List.mem_range] at hi
  have hs := (of_decide_eq_true ha) i hi
  obtain ⟨j, hj⟩ := Option.isSome_iff_exists.1 hs
  have h1 := (nd_rec hv hx h3).1
  have h2 := (nd_rec hv hy h3').1
  rw [hj]
  exact ⟨_, _, rfl, (vg_kid hv hx (show j < _ by have := fkN_lt hj; omega)).1, (vg_kid hv hy (by omega)).1⟩
theorem demD_ok {g : NdG} (hv : vgB g = true) {x y : Nat} (hx : x < g.length) (hy : y < g.length) (hg : goodS g x y = true) : ∀ q ∈ demD g x y, ∃ x' y', q = pD x' y' ∧ x' < g.length ∧ y' < g.length := by
  unfold goodS at hg
  unfold demD
  by_cases c0 : (nd g x).f0 = 0
  · rw [if_pos c0]; simp
  rw [if_neg c0] at hg ⊢
  by_cases c1 : (nd g y).f0 = 0
  · rw [if_pos c1]; simp
  rw [if_neg c1] at hg ⊢
  by_cases c2 : (nd g x).f0 = (nd g y).f0
  case neg => rw [if_neg c2] at hg; cases hg
  rw [if_pos c2] at hg
  by_cases c4 : (nd g x).f0 = 4
  · rw [if_pos c4]
    have hx2 := (nd_arrow hv hx c4).2
    have hy2 := (nd_arrow hv hy (c2 ▸ c4)).2
    intro q hq
    rcases List.mem_cons.1 hq with rfl | hq
    · exact ⟨_, _, rfl, (vg_kid hv hy (by omega)).1, (vg_kid hv hx (by omega)).1⟩
    · rw [List.mem_singleton.1 hq]
      exact ⟨_, _, rfl, (vg_kid hv hx (by omega)).1, (vg_kid hv hy (by omega)).1⟩
  rw [if_neg c4]
  by_cases c3 : (nd g x).f0 = 3
  · rw [if_pos c3] at hg ⊢
    exact recD_ok hv hx hy c3 (c2 ▸ c3) hg
  · rw [if_neg c3]; simp
abbrev demP (g : NdG) (x y : Nat) : List PrT := (demD g x y).map dmP
theorem demP_ok {g : NdG} (hv : vgB g = true) {x y : Nat} (hx : x < g.length) (hy : y < g.length) (hg : goodS g x y = true) : ∀ q ∈ demP g x y, ∃ x' y', q = mkP x' y' ∧ x' < g.length ∧ y' < g.length := fun q hq => by
  obtain ⟨q', hq', rfl⟩ := List.mem_map.1 hq
  obtain ⟨x', y', rfl, h1, h2⟩ := demD_ok hv hx hy hg q' hq'
  exact ⟨x', y', rfl, h1, h2⟩
theorem recD_drop {g : NdG} {x y i j : Nat} (hi : i < (nd g y).f1.length) (hj : fkN g x y i = some j) : (recD g x y).drop i = pD (kidN g x j) (kidN g y i) :: (recD g x y).drop (i + 1) := by
  have hl : (recD g x y).length = (nd g y).f1.length := by unfold recD; rw [List.length_map, List.length_range]
  rw [List.drop_eq_getElem_cons (by omega)]
  congr 1
  unfold recD
  rw [List.getElem_map, List.getElem_range, hj]
  rfl
theorem recD_end {g : NdG} {x y : Nat} : (recD g x y).drop (nd g y).f1.length = [] := by
  apply List.drop_of_length_le
  unfold recD
  rw [List.length_map, List.length_range]
  exact Nat.le_refl _
theorem okI_nat (n : Nat) (h : n < 4611686018427387904) : okI (n : Int) := by unfold okI; omega
theorem sub_d_good {g : NdG} (hv : vgB g = true) (hs : ∀ x ∈ g, smNode' x) {x y : Nat} (hx : x < g.length) (hy : y < g.length) (h3 : (nd g x).f0 = 3) (h3' : (nd g y).f0 = 3) (ha : allF g x y = true) :
    ∀ (d i : Nat) (o : List PrT), (nd g y).f1.length - i = d → i ≤ (nd g y).f1.length → OkO g.length o → Ev (fun k => sub_d k (nd g x) (nd g y) i o) (true, (((recD g x y).drop i).map dmP).foldl addP o) := by
  have hn := vg_len hv
  have hnn : g.length * g.length ≤ 4000 * 4000 := Nat.mul_le_mul hn hn
  have sx : smNode' (nd g x) := hs _ (rd_mem_nd g hx)
  have sy : smNode' (nd g y) := hs _ (rd_mem_nd g hy)
  obtain ⟨lx, ox⟩ := nd_rec hv hx h3
  obtain ⟨ly, oy⟩ := nd_rec hv hy h3'
  have s1 := sx.1
  have s2 := sy.1
  intro d
  induction d with
  | zero =>
    intro i o hd hi hO
    have hlen := hO.len
    obtain rfl : i = (nd g y).f1.length := by omega
    refine Ev.shift ?_
    simp only [sub_d, if_pos (show o.length < 1099511627776 ∧ (nd g y).f1.length < 1099511627776 from ⟨by omega, by omega⟩), if_neg (Nat.lt_irrefl _)]
    rw [recD_end]
    exact Ev.now _
  | succ d ih =>
    intro i o hd hi hO
    have hlen := hO.len
    have hlt : i < (nd g y).f1.length := by omega
    obtain ⟨j, hj⟩ := Option.isSome_iff_exists.1 ((of_decide_eq_true ha) i hlt)
    have hjl := fkN_lt hj
    obtain ⟨ka, ea⟩ := vg_kid hv hx (show j < (nd g x).f2.length by omega)
    obtain ⟨kb, eb⟩ := vg_kid hv hy (show i < (nd g y).f2.length by omega)
    refine Ev.shift ?_
    simp only [sub_d, if_pos (show o.length < 1099511627776 ∧ (nd g y).f1.length < 1099511627776 from ⟨by omega, by omega⟩), if_pos hlt]
    refine Ev.bind (bsS_some _ ox s1 _ hj) ?_
    simp only [if_true, ea, eb, if_pos (show ((0 ≤ (j : Int) ∧ (j : Int) < ((nd g x).f2.length : Int)) ∧ i < (nd g y).f2.length) ∧ (okI (kidN g x j : Int) ∧ okI (kidN g y i : Int)) from ⟨⟨⟨by omega, by omega⟩, by omega⟩, ⟨okI_nat _ (by omega), okI_nat _ (by omega)⟩⟩)]
    rw [recD_drop hlt hj]
    exact ih (i + 1) _ (by omega) (by omega) (hO.add ka kb)
theorem sub_d_bad {g : NdG} (hv : vgB g = true) (hs : ∀ x ∈ g, smNode' x) {x y : Nat} (hx : x < g.length) (hy : y < g.length) (h3 : (nd g x).f0 = 3) (h3' : (nd g y).f0 = 3) {b : Nat} (hb : b < (nd g y).f1.length) (hbn : fkN g x y b = none) :
    ∀ (d i : Nat) (o : List PrT), b - i = d → i ≤ b → OkO g.length o → ∃ o', Ev (fun k => sub_d k (nd g x) (nd g y) i o) (false, o') := by
  have hn := vg_len hv
  have hnn : g.length * g.length ≤ 4000 * 4000 := Nat.mul_le_mul hn hn
  have sx : smNode' (nd g x) := hs _ (rd_mem_nd g hx)
  have sy : smNode' (nd g y) := hs _ (rd_mem_nd g hy)
  obtain ⟨lx, ox⟩ := nd_rec hv hx h3
  obtain ⟨ly, oy⟩ := nd_rec hv hy h3'
  have s1 := sx.1
  have s2 := sy.1
  have stop : ∀ (i : Nat) (o : List PrT), i < (nd g y).f1.length → OkO g.length o → fkN g x y i = none → ∃ o', Ev (fun k => sub_d k (nd g x) (nd g y) i o) (false, o') := fun i o hlt hO hj => by
    have hlen := hO.len
    obtain ⟨m, hm⟩ := bsS_none _ ox s1 _ hj
    refine ⟨o, Ev.shift ?_⟩
    simp only [sub_d, if_pos (show o.length < 1099511627776 ∧ (nd g y).f1.length < 1099511627776 from ⟨by omega, by omega⟩), if_pos hlt]
    refine Ev.bind hm ?_
    simp only [Bool.false_eq_true, if_false]
    exact Ev.now _
  intro d
  induction d with
  | zero =>
    intro i o hd hi hO
    obtain rfl : i = b := by omega
    exact stop i o hb hO hbn
  | succ d ih =>
    intro i o hd hi hO
    have hlen := hO.len
    have hlt : i < (nd g y).f1.length := by omega
    cases hj : fkN g x y i with
    | none => exact stop i o hlt hO hj
    | some j =>
      have hjl := fkN_lt hj
      obtain ⟨ka, ea⟩ := vg_kid hv hx (show j < (nd g x).f2.length by omega)
      obtain ⟨kb, eb⟩ := vg_kid hv hy (show i < (nd g y).f2.length by omega)
      obtain ⟨o', ho'⟩ := ih (i + 1) _ (by omega) (by omega) (hO.add ka kb)
      refine ⟨o', Ev.shift ?_⟩
      simp only [sub_d, if_pos (show o.length < 1099511627776 ∧ (nd g y).f1.length < 1099511627776 from ⟨by omega, by omega⟩), if_pos hlt]
      refine Ev.bind (bsS_some _ ox s1 _ hj) ?_
      simp only [if_true, ea, eb, if_pos (show ((0 ≤ (j : Int) ∧ (j : Int) < ((nd g x).f2.length : Int)) ∧ i < (nd g y).f2.length) ∧ (okI (kidN g x j : Int) ∧ okI (kidN g y i : Int)) from ⟨⟨⟨by omega, by omega⟩, by omega⟩, ⟨okI_nat _ (by omega), okI_nat _ (by omega)⟩⟩)]
      exact ho'
theorem allF_not {g : NdG} {x y : Nat} (h : ¬ allF g x y = true) : ∃ b, b < (nd g y).f1.length ∧ fkN g x y b = none := by
  unfold allF at h
  rw [decide_eq_true_eq] at h
  simp only [Classical.not_forall] at h
  obtain ⟨b, h1, h2⟩ := h
  exact ⟨b, h1, by simpa using h2⟩
theorem sub_step_ev {g : NdG} (hv : vgB g = true) (hs : ∀ x ∈ g, smNode' x) (x y : Nat) (o : List PrT) (hx : x < g.length) (hy : y < g.length) (hO : OkO g.length o) :
    if goodS g x y = true then Ev (fun k => sub_st g k (mkP x y) o) (true, (demP g x y).foldl addP o) else ∃ o', Ev (fun k => sub_st g k (mkP x y) o) (false, o') := by
  have hn := vg_len hv
  have hnn : g.length * g.length ≤ 4000 * 4000 := Nat.mul_le_mul hn hn
  have hlen := hO.len
  have base : ∀ r, Ev (fun k => if (nd g x).f0 = 0 then some (true, o) else (if (nd g y).f0 = 0 then some (true, o) else (if (nd g x).f0 = (nd g y).f0 then (if (nd g x).f0 = 3 then sub_d k (nd g x) (nd g y) 0 o else (if (nd g x).f0 = 4 then (if ((2 ≤ (nd g x).f2.length ∧ 2 ≤ (nd g y).f2.length) ∧ o.length < 1099511627775) ∧ ((okI (rd (nd g x).f2 0) ∧ okI (rd (nd g x).f2 1)) ∧ (okI (rd (nd g y).f2 0) ∧ okI (rd (nd g y).f2 1))) then some (true, addP (addP o ⟨rd (nd g y).f2 0, rd (nd g x).f2 0, 0⟩) ⟨rd (nd g x).f2 1, rd (nd g y).f2 1, 0⟩) else none) else some (true, o))) else some (false, o)))) r → Ev (fun k => sub_st g k (mkP x y) o) r := fun r h => by
    refine Ev.congr (fun k => ?_) h
    unfold sub_st
    exact if_pos ⟨⟨by show (0 : Int) ≤ (x : Int); omega, by show (x : Int) < (g.length : Int); omega⟩, ⟨by show (0 : Int) ≤ (y : Int); omega, by show (y : Int) < (g.length : Int); omega⟩⟩
  unfold goodS demP demD
  by_cases c0 : (nd g x).f0 = 0
  · simp only [if_pos c0, if_true]
    exact base _ (by simp only [if_pos c0]; exact Ev.now _)
  by_cases c1 : (nd g y).f0 = 0
  · simp only [if_neg c0, if_pos c1, if_true]
    exact base _ (by simp only [if_neg c0, if_pos c1]; exact Ev.now _)
  by_cases c2 : (nd g x).f0 = (nd g y).f0
  case neg =>
    simp only [if_neg c0, if_neg c1, if_neg c2, Bool.false_eq_true, if_false]
    exact ⟨o, base _ (by simp only [if_neg c0, if_neg c1, if_neg c2]; exact Ev.now _)⟩
  by_cases c3 : (nd g x).f0 = 3
  · have c4 : ¬ (nd g x).f0 = 4 := by omega
    simp only [if_neg c0, if_neg c1, if_pos c2, if_pos c3, if_neg c4]
    by_cases ha : allF g x y = true
    · rw [if_pos ha]
      refine base _ ?_
      simp only [if_neg c0, if_neg c1, if_pos c2, if_pos c3]
      exact sub_d_good hv hs hx hy c3 (c2 ▸ c3) ha _ 0 o rfl (Nat.zero_le _) hO
    · rw [if_neg ha]
      obtain ⟨b, hb, hbn⟩ := allF_not ha
      obtain ⟨o', ho'⟩ := sub_d_bad hv hs hx hy c3 (c2 ▸ c3) hb hbn _ 0 o rfl (Nat.zero_le _) hO
      refine ⟨o', base _ ?_⟩
      simp only [if_neg c0, if_neg c1, if_pos c2, if_pos c3]
      exact ho'
  by_cases c4 : (nd g x).f0 = 4
  · simp only [if_neg c0, if_neg c1, if_pos c2, if_neg c3, if_pos c4, if_true]
    have hx2 := (nd_arrow hv hx c4).2
    have hy2 := (nd_arrow hv hy (c2 ▸ c4)).2
    obtain ⟨a1, e1⟩ := vg_kid hv hx (show 0 < (nd g x).f2.length by omega)
    obtain ⟨a2, e2⟩ := vg_kid hv hx (show 1 < (nd g x).f2.length by omega)
    obtain ⟨b1, f1⟩ := vg_kid hv hy (show 0 < (nd g y).f2.length by omega)
    obtain ⟨b2, f2⟩ := vg_kid hv hy (show 1 < (nd g y).f2.length by omega)
    have e1' : rd (nd g x).f2 0 = (kidN g x 0 : Int) := e1
    have e2' : rd (nd g x).f2 1 = (kidN g x 1 : Int) := e2
    have f1' : rd (nd g y).f2 0 = (kidN g y 0 : Int) := f1
    have f2' : rd (nd g y).f2 1 = (kidN g y 1 : Int) := f2
    refine base _ ?_
    simp only [if_neg c0, if_neg c1, if_pos c2, if_neg c3, if_pos c4, e1', e2', f1', f2', if_pos (show ((2 ≤ (nd g x).f2.length ∧ 2 ≤ (nd g y).f2.length) ∧ o.length < 1099511627775) ∧ ((okI (kidN g x 0 : Int) ∧ okI (kidN g x 1 : Int)) ∧ (okI (kidN g y 0 : Int) ∧ okI (kidN g y 1 : Int))) from ⟨⟨⟨by omega, by omega⟩, by omega⟩, ⟨⟨okI_nat _ (by omega), okI_nat _ (by omega)⟩, ⟨okI_nat _ (by omega), okI_nat _ (by omega)⟩⟩⟩)]
    exact Ev.now _
  simp only [if_neg c0, if_neg c1, if_pos c2, if_neg c3, if_neg c4, if_true]
  refine base _ ?_
  simp only [if_neg c0, if_neg c1, if_pos c2, if_neg c3, if_neg c4]
  exact Ev.now _
end Go.Proofs.YtnbohlcibgfjaaaDoor.Gp
end
section
namespace Go.Proofs.YtnbohlcibgfjaaaDoor.Gp
open Go.RowKit Go.Proofs.YtnbohlcibgfjaaaDoorW.PrintWords
theorem spec_rec_good {g : NdG} (hv : vgB g = true) (hs : ∀ x ∈ g, smNode' x) {x y : Nat} (hx : x < g.length) (hy : y < g.length) (h3 : (nd g x).f0 = 3) (h3' : (nd g y).f0 = 3) (ha : allF g x y = true) :
    ∀ (d i : Nat) (D : List DmT), (nd g y).f1.length - i = d → i ≤ (nd g y).f1.length → D.length = i → Ev (fun k => spec_l1Demands.l0 k D (i : Int) (nd g x).f0 (nd g x).f1 (nd g x).f2 (nd g y).f0 (nd g y).f1 (nd g y).f2) (D ++ (recD g x y).drop i, true) := by
  have sx : smNode' (nd g x) := hs _ (rd_mem_nd g hx)
  have sy : smNode' (nd g y) := hs _ (rd_mem_nd g hy)
  obtain ⟨lx, ox⟩ := nd_rec hv hx h3
  obtain ⟨ly, oy⟩ := nd_rec hv hy h3'
  have s1 := sx.1
  have s2 := sy.1
  intro d
  induction d with
  | zero =>
    intro i D hd hi hD
    obtain rfl : i = (nd g y).f1.length := by omega
    refine Ev.shift ?_
    simp only [spec_l1Demands.l0, if_neg (show ¬ ((nd g y).f1.length : Int) < ((nd g y).f1.length : Int) by omega)]
    rw [recD_end, List.append_nil]
    exact Ev.now _
  | succ d ih =>
    intro i D hd hi hD
    have hlt : i < (nd g y).f1.length := by omega
    obtain ⟨j, hj⟩ := Option.isSome_iff_exists.1 ((of_decide_eq_true ha) i hlt)
    have hjl := fkN_lt hj
    obtain ⟨ka, ea⟩ := vg_kid hv hx (show j < (nd g x).f2.length by omega)
    obtain ⟨kb, eb⟩ := vg_kid hv hy (show i < (nd g y).f2.length by omega)
    have hk := kid_some (nd g x).f0 (nd g x).f1 (nd g x).f2 ox s1 lx _ hj
    rw [ea] at hk
    refine Ev.shift ?_
    simp only [spec_l1Demands.l0, if_pos (show (i : Int) < ((nd g y).f1.length : Int) by omega), if_pos (show (0 : Int) ≤ (i : Int) by omega)]
    refine Ev.bind hk ?_
    simp only [if_neg (show ¬ (kidN g x j : Int) < 0 by omega), if_pos (show (i : Int) < ((nd g y).f2.length : Int) by omega), if_pos (show D.length < 8796093022208 by omega), eb, wrap_nat i (by omega)]
    have := ih (i + 1) (D ++ [pD (kidN g x j) (kidN g y i)]) (by omega) (by omega) (by rw [List.length_append, hD]; rfl)
    rw [recD_drop hlt hj, show D ++ pD (kidN g x j) (kidN g y i) :: (recD g x y).drop (i + 1) = (D ++ [pD (kidN g x j) (kidN g y i)]) ++ (recD g x y).drop (i + 1) by rw [List.append_assoc, List.singleton_append]]
    exact this
theorem spec_rec_bad {g : NdG} (hv : vgB g = true) (hs : ∀ x ∈ g, smNode' x) {x y : Nat} (hx : x < g.length) (hy : y < g.length) (h3 : (nd g x).f0 = 3) (h3' : (nd g y).f0 = 3) {b : Nat} (hb : b < (nd g y).f1.length) (hbn : fkN g x y b = none) :
    ∀ (d i : Nat) (D : List DmT), b - i = d → i ≤ b → D.length = i → ∃ D', Ev (fun k => spec_l1Demands.l0 k D (i : Int) (nd g x).f0 (nd g x).f1 (nd g x).f2 (nd g y).f0 (nd g y).f1 (nd g y).f2) (D', false) := by
  have sx : smNode' (nd g x) := hs _ (rd_mem_nd g hx)
  have sy : smNode' (nd g y) := hs _ (rd_mem_nd g hy)
  obtain ⟨lx, ox⟩ := nd_rec hv hx h3
  obtain ⟨ly, oy⟩ := nd_rec hv hy h3'
  have s1 := sx.1
  have s2 := sy.1
  have stop : ∀ (i : Nat) (D : List DmT), i < (nd g y).f1.length → fkN g x y i = none → ∃ D', Ev (fun k => spec_l1Demands.l0 k D (i : Int) (nd g x).f0 (nd g x).f1 (nd g x).f2 (nd g y).f0 (nd g y).f1 (nd g y).f2) (D', false) := fun i D hlt hj => by
    have hk := kid_none (nd g x).f0 (nd g x).f1 (nd g x).f2 s1 _ hj
    refine ⟨[], Ev.shift ?_⟩
    simp only [spec_l1Demands.l0, if_pos (show (i : Int) < ((nd g y).f1.length : Int) by omega), if_pos (show (0 : Int) ≤ (i : Int) by omega)]
    refine Ev.bind hk ?_
    simp only [if_pos (show (-1 : Int) < 0 by omega)]
    exact Ev.now _
  intro d
  induction d with
  | zero =>
    intro i D hd hi hD
    obtain rfl : i = b := by omega
    exact stop i D hb hbn
  | succ d ih =>
    intro i D hd hi hD
    have hlt : i < (nd g y).f1.length := by omega
    cases hj : fkN g x y i with
    | none => exact stop i D hlt hj
    | some j =>
      have hjl := fkN_lt hj
      obtain ⟨ka, ea⟩ := vg_kid hv hx (show j < (nd g x).f2.length by omega)
      obtain ⟨kb, eb⟩ := vg_kid hv hy (show i < (nd g y).f2.length by omega)
      have hk := kid_some (nd g x).f0 (nd g x).f1 (nd g x).f2 ox s1 lx _ hj
      rw [ea] at hk
      obtain ⟨D', hD'⟩ := ih (i + 1) (D ++ [pD (kidN g x j) (kidN g y i)]) (by omega) (by omega) (by rw [List.length_append, hD]; rfl)
      refine ⟨D', Ev.shift ?_⟩
      simp only [spec_l1Demands.l0, if_pos (show (i : Int) < ((nd g y).f1.length : Int) by omega), if_pos (show (0 : Int) ≤ (i : Int) by omega)]
      refine Ev.bind hk ?_
      simp only [if_neg (show ¬ (kidN g x j : Int) < 0 by omega), if_pos (show (i : Int) < ((nd g y).f2.length : Int) by omega), if_pos (show D.length < 8796093022208 by omega), eb, wrap_nat i (by omega)]
      exact hD'
theorem demands_ev {g : NdG} (hv : vgB g = true) (hs : ∀ x ∈ g, smNode' x) (x y : Nat) (hx : x < g.length) (hy : y < g.length) :
    if goodS g x y = true then Ev (fun k => spec_l1Demands.f k g (x : Int) (y : Int)) (demD g x y, true) else ∃ D, Ev (fun k => spec_l1Demands.f k g (x : Int) (y : Int)) (D, false) := by
  have hn := vg_len hv
  have base : ∀ r, Ev (fun k => spec_l1Demands.j0 k [] (if (nd g x).f0 = 0 then true else ((nd g y).f0 == 0)) (nd g x).f0 (nd g x).f1 (nd g x).f2 (nd g y).f0 (nd g y).f1 (nd g y).f2) r → Ev (fun k => spec_l1Demands.f k g (x : Int) (y : Int)) r := fun r h => by
    refine Ev.congr (fun k => ?_) h
    unfold spec_l1Demands.f
    rw [if_pos (show (0 : Int) ≤ (x : Int) by omega), if_pos (show (x : Int) < (g.length : Int) by omega), if_pos (show (0 : Int) ≤ (y : Int) by omega), if_pos (show (y : Int) < (g.length : Int) by omega), Option.bind_some]
    by_cases c : (nd g x).f0 = 0
    · rw [if_pos c, if_pos c]
    · rw [if_neg c, if_neg c]
  unfold goodS demD
  by_cases c0 : (nd g x).f0 = 0
  · simp only [if_pos c0, if_true]
    refine base _ (Ev.shift ?_)
    simp only [if_pos c0, spec_l1Demands.j0, if_true]
    exact Ev.now _
  by_cases c1 : (nd g y).f0 = 0
  · simp only [if_neg c0, if_pos c1, if_true]
    refine base _ (Ev.shift ?_)
    simp only [if_neg c0, beq_iff_eq.2 c1, spec_l1Demands.j0, if_true]
    exact Ev.now _
  have c1b : ((nd g y).f0 == 0) = false := beq_eq_false_iff_ne.2 c1
  by_cases c2 : (nd g x).f0 = (nd g y).f0
  case neg =>
    simp only [if_neg c0, if_neg c1, if_neg c2, Bool.false_eq_true, if_false]
    refine ⟨[], base _ (Ev.shift ?_)⟩
    simp only [if_neg c0, c1b, spec_l1Demands.j0, Bool.false_eq_true, if_false, if_neg c2]
    exact Ev.now _
  by_cases c4 : (nd g x).f0 = 4
  · have c3 : ¬ (nd g x).f0 = 3 := by omega
    simp only [if_neg c0, if_neg c1, if_pos c2, if_neg c3, if_pos c4, if_true]
    have hx2 := (nd_arrow hv hx c4).2
    have hy2 := (nd_arrow hv hy (c2 ▸ c4)).2
    have e1 : rd (nd g x).f2 0 = (kidN g x 0 : Int) := (vg_kid hv hx (show 0 < (nd g x).f2.length by omega)).2
    have e2 : rd (nd g x).f2 1 = (kidN g x 1 : Int) := (vg_kid hv hx (show 1 < (nd g x).f2.length by omega)).2
    have f1 : rd (nd g y).f2 0 = (kidN g y 0 : Int) := (vg_kid hv hy (show 0 < (nd g y).f2.length by omega)).2
    have f2 : rd (nd g y).f2 1 = (kidN g y 1 : Int) := (vg_kid hv hy (show 1 < (nd g y).f2.length by omega)).2
    refine base _ (Ev.shift ?_)
    simp only [if_neg c0, c1b, spec_l1Demands.j0, Bool.false_eq_true, if_false, if_pos c2, if_pos c4, if_pos (show (0 : Int) < ((nd g y).f2.length : Int) by omega), if_pos (show (0 : Int) < ((nd g x).f2.length : Int) by omega), if_pos (show (1 : Int) < ((nd g y).f2.length : Int) by omega), if_pos (show (1 : Int) < ((nd g x).f2.length : Int) by omega), e1, e2, f1, f2, Option.bind_some, List.length_nil, List.nil_append, List.length_cons, if_pos (show 0 < 8796093022208 by omega), if_pos (show 0 + 1 < 8796093022208 by omega)]
    exact Ev.now _
  have hj : ∀ r, Ev (fun k => spec_l1Demands.l0 k [] 0 (nd g x).f0 (nd g x).f1 (nd g x).f2 (nd g y).f0 (nd g y).f1 (nd g y).f2) r → Ev (fun k => spec_l1Demands.f k g (x : Int) (y : Int)) r := fun r h => by
    refine base _ (Ev.shift ?_)
    simp only [if_neg c0, c1b, spec_l1Demands.j0, Bool.false_eq_true, if_false, if_pos c2, if_neg c4]
    exact h
  by_cases c3 : (nd g x).f0 = 3
  · simp only [if_neg c0, if_neg c1, if_pos c2, if_pos c3, if_neg c4]
    by_cases ha : allF g x y = true
    · rw [if_pos ha]
      exact hj _ (spec_rec_good hv hs hx hy c3 (c2 ▸ c3) ha _ 0 [] rfl (Nat.zero_le _) rfl)
    · rw [if_neg ha]
      obtain ⟨b, hb, hbn⟩ := allF_not ha
      obtain ⟨D', hD'⟩ := spec_rec_bad hv hs hx hy c3 (c2 ▸ c3) hb hbn _ 0 [] rfl (Nat.zero_le _) rfl
      exact ⟨D', hj _ hD'⟩
  simp only [if_neg c0, if_neg c1, if_pos c2, if_neg c3, if_neg c4, if_true]
  have h0 := (nd_else hv hy (fun e => c3 (c2.trans e)) (fun e => c4 (c2.trans e))).1
  refine hj _ (Ev.shift ?_)
  simp only [spec_l1Demands.l0, h0, if_neg (show ¬ (0 : Int) < ((0 : Nat) : Int) by omega)]
  exact Ev.now _
end Go.Proofs.YtnbohlcibgfjaaaDoor.Gp
end
