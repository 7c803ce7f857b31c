/- A part of the proof of RowFnExactSame: each text's theorems that it needs, packed by shake.py, a program of this work; Lean checks them. -/
import Derived.Test.YtnbohlcibgfjaaaDoorSm2
import Derived.Test.YtnbohlcibgfjaaaDoorSm15
import Derived.KernelRfl
import Derived.Test.YtnbohlcibgfjaaaDoorSm7
import Derived.Test.YtnbohlcibgfjaaaDoorSm12
import Derived.Test.YtnbohlcibgfjaaaDoorSm11
import Derived.Test.YtnbohlcibgfjaaaDoorSm14
import Derived.Test.YtnbohlcibgfjaaaDoorSm4
import Derived.Test.YtnbohlcibgfjaaaDoorSm3
import Derived.Test.YtnbohlcibgfjaaaDoorSm9
import Derived.Test.YtnbohlcibgfjaaaDoorSm8
import Derived.Test.YtnbohlcibgfjaaaDoorSm6
import Derived.Test.YtnbohlcibgfjaaaDoorSm5
import Derived.Test.YtnbohlcibgfjaaaDoorSm10
section
namespace Go.Proofs.YtnbohlcibgfjaaaDoor.Gp
open Go.RowKit Go.Proofs.YtnbohlcibgfjaaaDoorW.PrintWords
def q173 (x : S173) : Prop := ((Lit.int .i64 x.f0).wf = true) ∧ ((x.f1.length ≤ maxLen ∧ ∀ y_ ∈ x.f1, (y_).size ≤ maxLen)) ∧ ((x.f2.length ≤ maxLen ∧ ∀ y_ ∈ x.f2, (Lit.int .i64 y_).wf = true))
theorem opn173 : Opn Tryd.prog 173 k173 q173 := Opn.iso (Opn.struct Tryd.underlying173 (OpnF.cons (Opn.int Tryd.underlying3 (by kernel_rfl)) rfl (OpnF.cons (Opn.slice (Opn.string Tryd.underlying9 (by kernel_rfl)) Tryd.underlying143 (by kernel_rfl)) rfl (OpnF.one (Opn.slice (Opn.int Tryd.underlying3 (by kernel_rfl)) Tryd.underlying135 (by kernel_rfl)) rfl))) (by kernel_rfl)) _ (fun p => (⟨p.1, p.2.1, p.2.2⟩ : S173)) (fun _ => rfl)
end Go.Proofs.YtnbohlcibgfjaaaDoor.Gp
end
section
namespace Go.Proofs.YtnbohlcibgfjaaaDoor.Gp
open Go.RowKit Go.Proofs.YtnbohlcibgfjaaaDoorW.PrintWords
/-- A node that is small. -/
def smNode (x : S173) : Prop := x.f1.length ≤ 1048576 ∧ x.f2.length ≤ 1048576 ∧ ∀ s ∈ x.f1, s.size ≤ 1048576
theorem szNode_ev (x : S173) (left : Int) (h0 : 0 ≤ left) (h1 : left ≤ 1048576) (hq : q173 x) :
    ∃ t, Ev (fun k => laws_szNode.f k x.f0 x.f1 x.f2 left) t ∧ (t < 0 ∨ (0 ≤ t ∧ t ≤ left ∧ smNode x)) := by
  obtain ⟨_, ⟨hl1, hz1⟩, hl2, _⟩ := hq
  unfold laws_szNode.f
  obtain ⟨t, hev, ht⟩ := szStringS_ev x.f1 left h0 h1 hl1 hz1
  by_cases c : t < 0
  · refine ⟨-1, Ev.bind hev ?_, .inl (by omega)⟩
    simp only [if_pos c]
    exact Ev.now _
  obtain ⟨ht0, ht1, hs1, hs2⟩ := ht.resolve_left c
  obtain ⟨u, hu, hc⟩ := szIntS_ev x.f2 t ht0 (by omega) hl2
  by_cases cu : u < 0
  · refine ⟨-1, Ev.bind hev ?_, .inl (by omega)⟩
    simp only [if_neg c, hu, Option.bind_some, if_pos cu]
    exact Ev.now _
  obtain ⟨hu0, hu1, hu2⟩ := hc.resolve_left cu
  refine ⟨u, Ev.bind hev ?_, .inr ⟨hu0, by omega, hs1, hu2, hs2⟩⟩
  simp only [if_neg c, hu, Option.bind_some, if_neg cu]
  exact Ev.now _
theorem szNodeS_ev (l : List S173) (left : Int) (h0 : 0 ≤ left) (h1 : left ≤ 1048576) (hl : l.length ≤ maxLen) (hz : ∀ s ∈ l, q173 s) :
    ∃ t, Ev (fun k => laws_szNodeS.f k l left) t ∧ (t < 0 ∨ (0 ≤ t ∧ t ≤ left ∧ l.length ≤ 1048576 ∧ ∀ s ∈ l, smNode s)) := by
  unfold maxLen at hl
  unfold laws_szNodeS.f
  have e1 : wrap64 (left - (l.length : Int)) = left - l.length := by unfold wrap64; omega
  rw [e1]
  by_cases c1 : left - (l.length : Int) < 0
  · simp only [if_pos c1]
    exact ⟨-1, Ev.now _, .inl (by omega)⟩
  simp only [if_neg c1]
  obtain ⟨t, ht, hev⟩ := sz_loop z173 (fun k s left => laws_szNode.f k s.f0 s.f1 s.f2 left) laws_szNodeS.l0 1048576 (fun _ _ _ _ => rfl) q173 smNode szNode_ev l (by omega) hz (left - (l.length : Int)) (by omega) (by omega)
  exact ⟨t, hev, ht.imp id (fun h => ⟨h.1, by omega, by omega, h.2.2⟩)⟩
theorem szGraph_ev (l : List S173) (left : Int) (h0 : 0 ≤ left) (h1 : left ≤ 1048576) (hl : l.length ≤ maxLen) (hz : ∀ s ∈ l, q173 s) :
    ∃ t, Ev (fun k => laws_szGraph.f k l left) t ∧ (t < 0 ∨ (0 ≤ t ∧ t ≤ left ∧ l.length ≤ 1048576 ∧ ∀ s ∈ l, smNode s)) := by
  unfold laws_szGraph.f
  obtain ⟨t, hev, ht⟩ := szNodeS_ev l left h0 h1 hl hz
  by_cases c : t < 0
  · refine ⟨-1, Ev.bind hev ?_, .inl (by omega)⟩
    simp only [if_pos c]
    exact Ev.now _
  refine ⟨t, Ev.bind hev ?_, ht⟩
  simp only [if_neg c]
  exact Ev.now _
def convNode (x : S173) : S145 := ⟨x.f0, x.f1, x.f2⟩
theorem toNodeS_ev (l : List S173) (hl : l.length ≤ 1048576) (hs : ∀ s ∈ l, smNode s) : Ev (fun k => laws_toNodeS.f k l) (l.map convNode) := by
  unfold laws_toNodeS.f
  simp only [if_pos (show 0 ≤ (l.length : Int) by omega), Int.toNat_natCast, if_pos (show l.length ≤ 5026338869833 by omega)]
  refine to_loop z173 (fun k s => laws_toNode.f k s.f0 s.f1 s.f2) (fun t => (⟨t.1, t.2.1, t.2.2⟩ : S145)) laws_toNodeS.l0 (fun _ _ _ _ => rfl) convNode l (fun x hx => ⟨(x.f0, x.f1, x.f2), ?_, rfl⟩) (by omega) _ (by simp)
  obtain ⟨h1, h2, _⟩ := hs x hx
  unfold laws_toNode.f
  exact Ev.bind (toStringS_ev _ h1) (Ev.bind (toIntS_ev _ h2) (Ev.now _))
theorem toGraph_ev (l : List S173) (hl : l.length ≤ 1048576) (hs : ∀ s ∈ l, smNode s) : Ev (fun k => laws_toGraph.f k l) (l.map convNode) := by
  unfold laws_toGraph.f
  exact Ev.bind (toNodeS_ev l hl hs) (Ev.now _)
def smNode' (x : S145) : Prop := x.f1.length ≤ 1048576 ∧ x.f2.length ≤ 1048576 ∧ ∀ s ∈ x.f1, s.size ≤ 1048576
theorem smNode_conv {l : List S173} (h : ∀ s ∈ l, smNode s) : ∀ s ∈ l.map convNode, smNode' s := fun s hs => by
  obtain ⟨x, hx, rfl⟩ := List.mem_map.1 hs
  exact h x hx
theorem eqNode_ev (x : S145) (h : smNode' x) : Ev (fun k => laws_eqNode.f k x.f0 x.f1 x.f2 x.f0 x.f1 x.f2) true := by
  unfold laws_eqNode.f
  simp only [if_true]
  refine Ev.bind (eqStringS_ev _ h.1) ?_
  simp only [if_true]
  refine Ev.bind (eqIntS_ev _ h.2.1) ?_
  simp only [if_true]
  exact Ev.now _
theorem eqNodeS_ev (l : List S145) (hl : l.length ≤ 1048576) (h : ∀ s ∈ l, smNode' s) : Ev (fun k => laws_eqNodeS.f k l l) true := by
  unfold laws_eqNodeS.f
  simp only [if_true]
  exact eq_loop z145 (fun k x y => laws_eqNode.f k x.f0 x.f1 x.f2 y.f0 y.f1 y.f2) laws_eqNodeS.l0 (fun _ _ _ _ => rfl) l (fun x hx => eqNode_ev x (h x hx)) (by omega)
theorem eqGraph_ev (l : List S145) (hl : l.length ≤ 1048576) (h : ∀ s ∈ l, smNode' s) : Ev (fun k => laws_eqGraph.f k l l) true := by
  unfold laws_eqGraph.f
  refine Ev.bind (eqNodeS_ev l hl h) ?_
  simp only [if_true]
  exact Ev.now _
end Go.Proofs.YtnbohlcibgfjaaaDoor.Gp
end
section
namespace Go.Proofs.YtnbohlcibgfjaaaDoor.Gp
open Go.RowKit Go.Proofs.YtnbohlcibgfjaaaDoorW.PrintWords
abbrev nameAt (l : List ByteArray) (i : Nat) : ByteArray := rdOf ByteArray.empty l (i : Int)
/-- Field i's name is good, and behind the one before it. -/
def nmOk (l : List ByteArray) (i : Nat) : Bool := gnB (nameAt l i) && (decide (i = 0) || ltB (nameAt l (i - 1)) (nameAt l i))
def kidOk (n : Nat) (l : List Int) (i : Nat) : Bool := decide (0 ≤ rd l (i : Int) ∧ rd l (i : Int) < (n : Int))
def kidsB (n : Nat) (x : S145) : Bool := decide (∀ i : Nat, i < x.f2.length → kidOk n x.f2 i = true)
def shapeB (x : S145) : Bool :=
  if x.f0 = 4 then decide (x.f1.length = 0 ∧ x.f2.length = 2)
  else if x.f0 = 3 then decide (x.f1.length = x.f2.length ∧ ∀ i : Nat, i < x.f1.length → nmOk x.f1 i = true)
  else if x.f0 = 0 ∨ x.f0 = 1 ∨ x.f0 = 2 then decide (x.f1.length = 0 ∧ x.f2.length = 0)
  else false
def ndB (n : Nat) (x : S145) : Bool := kidsB n x && shapeB x
/-- A graph is valid. -/
def vgB (g : List S145) : Bool := decide (g.length ≤ 4000 ∧ ∀ i : Nat, i < g.length → ndB g.length (rd_T145 g i) = true)
theorem rd_mem_nd (l : List S145) {k : Nat} (h : k < l.length) : rd_T145 l k ∈ l := by
  unfold rd_T145
  rw [Int.toNat_natCast, List.getD_eq_getElem?_getD, List.getElem?_eq_getElem h]
  exact List.getElem_mem h
theorem nameAt_mem (l : List ByteArray) {k : Nat} (h : k < l.length) : nameAt l k ∈ l := by
  unfold nameAt rdOf
  rw [Int.toNat_natCast, List.getD_eq_getElem?_getD, List.getElem?_eq_getElem h]
  exact List.getElem_mem h
theorem wrap_pred (i : Nat) (h : 0 < i) (h2 : i < 9223372036854775807) : wrap64 ((i : Int) - 1) = ((i - 1 : Nat) : Int) := by unfold wrap64; omega
theorem spec_names (x : S145) (hs : smNode' x) : Ev (fun k => spec_l1NodeOk.l1 k 0 x.f0 x.f1 x.f2) (decide (∀ i : Nat, i < x.f1.length → nmOk x.f1 i = true)) := by
  obtain ⟨hl1, hl2, hz⟩ := hs
  refine cont_loop (fun k i => spec_l1NodeOk.l1 k (i : Nat) x.f0 x.f1 x.f2) x.f1.length (nmOk x.f1) false (fun _ => some true) ?_ ?_ ?_ _ ?_ ?_
  · intro i hi ho r hr
    unfold nmOk at ho
    rw [Bool.and_eq_true] at ho
    refine Ev.shift ?_
    simp only [spec_l1NodeOk.l1, if_pos (show (i : Int) < (x.f1.length : Int) by omega), if_pos (show (0 : Int) ≤ (i : Int) by omega)]
    refine Ev.bind (specGood _) ?_
    simp only [ho.1, if_true]
    by_cases h0 : i = 0
    · subst h0
      simp only [if_neg (show ¬ ((0 : Nat) : Int) > 0 by omega), wrap_nat 0 (by omega)]
      exact hr
    · have hlt := ho.2
      rw [decide_eq_false h0, Bool.false_or] at hlt
      simp only [if_pos (show (i : Int) > 0 by omega), wrap_pred i (by omega) (by omega), if_pos (show (0 : Int) ≤ ((i - 1 : Nat) : Int) by omega), if_pos (show ((i - 1 : Nat) : Int) < (x.f1.length : Int) by omega)]
      refine Ev.bind (specLess _ _ (by have := hz _ (nameAt_mem x.f1 (k := i - 1) (by omega)); unfold nameAt at this; omega)) ?_
      have hlt' : ltB (rdOf ByteArray.empty x.f1 ((i - 1 : Nat) : Int)) (rdOf ByteArray.empty x.f1 (i : Int)) = true := hlt
      simp only [hlt', if_true, wrap_nat i (by omega)]
      exact hr
  · intro i hi ho
    unfold nmOk at ho
    refine Ev.shift ?_
    simp only [spec_l1NodeOk.l1, if_pos (show (i : Int) < (x.f1.length : Int) by omega), if_pos (show (0 : Int) ≤ (i : Int) by omega)]
    refine Ev.bind (specGood _) ?_
    cases hg : gnB (rdOf ByteArray.empty x.f1 (i : Int))
    · simp only [Bool.false_eq_true, if_false]
      exact Ev.now _
    have hg' : gnB (nameAt x.f1 i) = true := hg
    rw [hg', Bool.true_and, Bool.or_eq_false_iff] at ho
    have h0 : ¬ i = 0 := of_decide_eq_false ho.1
    simp only [if_true, if_pos (show (i : Int) > 0 by omega), wrap_pred i (by omega) (by omega), if_pos (show (0 : Int) ≤ ((i - 1 : Nat) : Int) by omega), if_pos (show ((i - 1 : Nat) : Int) < (x.f1.length : Int) by omega)]
    refine Ev.bind (specLess _ _ (by have := hz _ (nameAt_mem x.f1 (k := i - 1) (by omega)); unfold nameAt at this; omega)) ?_
    have hlt' : ltB (rdOf ByteArray.empty x.f1 ((i - 1 : Nat) : Int)) (rdOf ByteArray.empty x.f1 (i : Int)) = false := ho.2
    simp only [hlt', Bool.false_eq_true, if_false]
    exact Ev.now _
  · intro r hr
    refine Ev.shift ?_
    simp only [spec_l1NodeOk.l1, if_neg (show ¬ (x.f1.length : Int) < (x.f1.length : Int) by omega)]
    exact hr
  · intro h
    rw [decide_eq_true h]
    exact Ev.now _
  · rintro ⟨i, hi, ho⟩
    exact decide_eq_false (fun h => by rw [h i hi] at ho; cases ho)
theorem spec_node (n : Nat) (x : S145) (hs : smNode' x) : Ev (fun k => spec_l1NodeOk.f k x.f0 x.f1 x.f2 n) (ndB n x) := by
  have hs' := hs
  obtain ⟨hl1, hl2, hz⟩ := hs
  unfold spec_l1NodeOk.f
  refine cont_loop (fun k i => spec_l1NodeOk.l0 k (n : Int) (i : Nat) x.f0 x.f1 x.f2) x.f2.length (kidOk n x.f2) false (fun k => if x.f0 = 4 then (if (x.f1.length : Int) = 0 then (some ((x.f2.length : Int) == 2)) else (some false)) else (if x.f0 = 3 then (if (x.f1.length : Int) = (x.f2.length : Int) then (spec_l1NodeOk.l1 k 0 x.f0 x.f1 x.f2) else (some false)) else (if x.f0 = 0 then (if (x.f1.length : Int) = 0 then (some ((x.f2.length : Int) == 0)) else (some false)) else (if x.f0 = 1 then (if (x.f1.length : Int) = 0 then (some ((x.f2.length : Int) == 0)) else (some false)) else (if x.f0 = 2 then (if (x.f1.length : Int) = 0 then (some ((x.f2.length : Int) == 0)) else (some false)) else (some false)))))) ?_ ?_ ?_ _ ?_ ?_
  · intro i hi ho r hr
    have ho' := of_decide_eq_true ho
    refine Ev.shift ?_
    simp only [spec_l1NodeOk.l0, if_pos (show (i : Int) < (x.f2.length : Int) by omega), if_pos (show (0 : Int) ≤ (i : Int) by omega), if_neg (show ¬ rd x.f2 (i : Int) < 0 by omega), if_neg (show ¬ rd x.f2 (i : Int) ≥ (n : Int) by omega), wrap_nat i (by omega)]
    exact hr
  · intro i hi ho
    have ho' := of_decide_eq_false ho
    refine Ev.shift ?_
    simp only [spec_l1NodeOk.l0, if_pos (show (i : Int) < (x.f2.length : Int) by omega), if_pos (show (0 : Int) ≤ (i : Int) by omega)]
    by_cases h : rd x.f2 (i : Int) < 0
    · simp only [if_pos h]
      exact Ev.now _
    · simp only [if_neg h, if_pos (show rd x.f2 (i : Int) ≥ (n : Int) by omega)]
      exact Ev.now _
  · intro r hr
    refine Ev.shift ?_
    simp only [spec_l1NodeOk.l0, if_neg (show ¬ (x.f2.length : Int) < (x.f2.length : Int) by omega)]
    exact hr
  · intro h
    have hk : kidsB n x = true := decide_eq_true h
    unfold ndB
    rw [hk, Bool.true_and]
    unfold shapeB
    have small : ∀ (m : Nat), Ev (fun _ => if (x.f1.length : Int) = 0 then some ((x.f2.length : Int) == (m : Int)) else some false) (decide (x.f1.length = 0 ∧ x.f2.length = m)) := fun m => by
      by_cases h1 : x.f1.length = 0
      · simp only [if_pos (show (x.f1.length : Int) = 0 by omega)]
        refine Ev.const (congrArg some ?_)
        rw [Bool.eq_iff_iff, beq_iff_eq, decide_eq_true_iff]
        omega
      · simp only [if_neg (show ¬ (x.f1.length : Int) = 0 by omega)]
        rw [decide_eq_false (fun h => h1 h.1)]
        exact Ev.now _
    by_cases h4 : x.f0 = 4
    · simp only [if_pos h4]
      exact small 2
    simp only [if_neg h4]
    by_cases h3 : x.f0 = 3
    · simp only [if_pos h3]
      by_cases hl : x.f1.length = x.f2.length
      · simp only [if_pos (show (x.f1.length : Int) = (x.f2.length : Int) by omega)]
        rw [show decide (x.f1.length = x.f2.length ∧ ∀ i : Nat, i < x.f1.length → nmOk x.f1 i = true) = decide (∀ i : Nat, i < x.f1.length → nmOk x.f1 i = true) from decide_eq_decide.2 ⟨fun h => h.2, fun h => ⟨hl, h⟩⟩]
        exact spec_names x hs'
      · simp only [if_neg (show ¬ (x.f1.length : Int) = (x.f2.length : Int) by omega)]
        rw [decide_eq_false (fun h => hl h.1)]
        exact Ev.now _
    simp only [if_neg h3]
    by_cases h0 : x.f0 = 0
    · simp only [if_pos h0, if_pos (show x.f0 = 0 ∨ x.f0 = 1 ∨ x.f0 = 2 from .inl h0)]
      exact small 0
    simp only [if_neg h0]
    by_cases h1 : x.f0 = 1
    · simp only [if_pos h1, if_pos (show x.f0 = 0 ∨ x.f0 = 1 ∨ x.f0 = 2 from .inr (.inl h1))]
      exact small 0
    simp only [if_neg h1]
    by_cases h2 : x.f0 = 2
    · simp only [if_pos h2, if_pos (show x.f0 = 0 ∨ x.f0 = 1 ∨ x.f0 = 2 from .inr (.inr h2))]
      exact small 0
    simp only [if_neg h2, if_neg (show ¬ (x.f0 = 0 ∨ x.f0 = 1 ∨ x.f0 = 2) by omega)]
    exact Ev.now _
  · rintro ⟨i, hi, ho⟩
    have hk : kidsB n x = false := decide_eq_false (fun h => by rw [h i hi] at ho; cases ho)
    unfold ndB
    rw [hk]
    rfl
theorem specValidGraph (g : List S145) (hs : ∀ x ∈ g, smNode' x) : Ev (fun k => spec_ValidGraph.f k g) (vgB g) := by
  unfold spec_ValidGraph.f vgB
  by_cases c : (g.length : Int) > 4000
  · simp only [if_pos c]
    rw [decide_eq_false (fun h => by omega)]
    exact Ev.now _
  simp only [if_neg c]
  refine cont_loop (fun k i => spec_ValidGraph.l0 k (i : Nat) g) g.length (fun i => ndB g.length (rd_T145 g i)) false (fun _ => some true) ?_ ?_ ?_ _ ?_ ?_
  · intro i hi ho r hr
    refine Ev.shift ?_
    simp only [spec_ValidGraph.l0, if_pos (show (i : Int) < (g.length : Int) by omega), if_pos (show (0 : Int) ≤ (i : Int) by omega)]
    refine Ev.bind (spec_node g.length _ (hs _ (rd_mem_nd g hi))) ?_
    simp only [ho, if_true, wrap_nat i (by omega)]
    exact hr
  · intro i hi ho
    refine Ev.shift ?_
    simp only [spec_ValidGraph.l0, if_pos (show (i : Int) < (g.length : Int) by omega), if_pos (show (0 : Int) ≤ (i : Int) by omega)]
    refine Ev.bind (spec_node g.length _ (hs _ (rd_mem_nd g hi))) ?_
    simp only [ho, Bool.false_eq_true, if_false]
    exact Ev.now _
  · intro r hr
    refine Ev.shift ?_
    simp only [spec_ValidGraph.l0, if_neg (show ¬ (g.length : Int) < (g.length : Int) by omega)]
    exact hr
  · intro h
    rw [decide_eq_true ⟨by omega, h⟩]
    exact Ev.now _
  · rintro ⟨i, hi, ho⟩
    exact decide_eq_false (fun h => by rw [h.2 i hi] at ho; cases ho)
theorem impl_names (g : List S145) (n i : Nat) (x : S145) (hs : smNode' x) (r : Bool) (h1 : (∀ j : Nat, j < x.f1.length → nmOk x.f1 j = true) → Ev (fun k => impl_ValidGraph.l0 k g n (wrap64 ((i : Int) + 1)) g) r)
    (h2 : ¬ (∀ j : Nat, j < x.f1.length → nmOk x.f1 j = true) → r = false) : Ev (fun k => impl_ValidGraph.l2 k g n i x.f1 (x.f1.length : Int) 0 g x.f0 x.f1 x.f2) r := by
  obtain ⟨hl1, hl2, hz⟩ := hs
  refine cont_loop (fun k (j : Nat) => impl_ValidGraph.l2 k g n i x.f1 (x.f1.length : Int) j g x.f0 x.f1 x.f2) x.f1.length (nmOk x.f1) false (fun k => impl_ValidGraph.l0 k g n (wrap64 ((i : Int) + 1)) g) ?_ ?_ ?_ r h1 ?_
  · intro j hj ho r hr
    unfold nmOk at ho
    rw [Bool.and_eq_true] at ho
    refine Ev.shift ?_
    have hg : impl_goodName.f (rdOf ByteArray.empty x.f1 (j : Int)) = some true := congrArg some ho.1
    simp only [impl_ValidGraph.l2, if_pos (show (j : Int) < (x.f1.length : Int) by omega), if_pos (show (0 : Int) ≤ (j : Int) by omega), hg, Option.bind_some, if_true]
    by_cases h0 : j = 0
    · subst h0
      simp only [if_neg (show ¬ ((0 : Nat) : Int) > 0 by omega), wrap_nat 0 (by omega)]
      exact hr
    · have hlt := ho.2
      rw [decide_eq_false h0, Bool.false_or] at hlt
      have hlt' : Op.bytesLess (rdOf ByteArray.empty x.f1 ((j - 1 : Nat) : Int)).toList (rdOf ByteArray.empty x.f1 (j : Int)).toList = true := by
        rw [Lib.toList_data, Lib.toList_data]
        exact hlt
      simp only [if_pos (show (j : Int) > 0 by omega), wrap_pred j (by omega) (by omega), if_pos (show (0 : Int) ≤ ((j - 1 : Nat) : Int) by omega), if_pos (show ((j - 1 : Nat) : Int) < (x.f1.length : Int) by omega), hlt', if_true, wrap_nat j (by omega)]
      exact hr
  · intro j hj ho
    unfold nmOk at ho
    refine Ev.shift ?_
    cases hg : gnB (nameAt x.f1 j)
    · have hg' : impl_goodName.f (rdOf ByteArray.empty x.f1 (j : Int)) = some false := congrArg some hg
      simp only [impl_ValidGraph.l2, if_pos (show (j : Int) < (x.f1.length : Int) by omega), if_pos (show (0 : Int) ≤ (j : Int) by omega), hg', Option.bind_some, Bool.false_eq_true, if_false]
      exact Ev.now _
    have hg' : impl_goodName.f (rdOf ByteArray.empty x.f1 (j : Int)) = some true := congrArg some hg
    rw [hg, Bool.true_and, Bool.or_eq_false_iff] at ho
    have h0 : ¬ j = 0 := of_decide_eq_false ho.1
    have hlt' : Op.bytesLess (rdOf ByteArray.empty x.f1 ((j - 1 : Nat) : Int)).toList (rdOf ByteArray.empty x.f1 (j : Int)).toList = false := by
      rw [Lib.toList_data, Lib.toList_data]
      exact ho.2
    simp only [impl_ValidGraph.l2, if_pos (show (j : Int) < (x.f1.length : Int) by omega), if_pos (show (0 : Int) ≤ (j : Int) by omega), hg', Option.bind_some, if_true, if_pos (show (j : Int) > 0 by omega), wrap_pred j (by omega) (by omega), if_pos (show (0 : Int) ≤ ((j - 1 : Nat) : Int) by omega), if_pos (show ((j - 1 : Nat) : Int) < (x.f1.length : Int) by omega), hlt', Bool.false_eq_true, if_false]
    exact Ev.now _
  · intro r hr
    refine Ev.shift ?_
    simp only [impl_ValidGraph.l2, if_neg (show ¬ (x.f1.length : Int) < (x.f1.length : Int) by omega)]
    exact hr
  · rintro ⟨j, hj, ho⟩
    exact h2 (fun h => by rw [h j hj] at ho; cases ho)
theorem impl_shape (g : List S145) (n i : Nat) (x : S145) (hs : smNode' x) (r : Bool) (b : Bool) (hb : b = decide (x.f0 = 0 ∨ x.f0 = 1 ∨ x.f0 = 2)) (h1 : shapeB x = true → Ev (fun k => impl_ValidGraph.l0 k g n (wrap64 ((i : Int) + 1)) g) r)
    (h2 : shapeB x = false → r = false) : Ev (fun k => impl_ValidGraph.j2 k g n i x.f0 b g x.f0 x.f1 x.f2) r := by
  have hs' := hs
  obtain ⟨hl1, hl2, hz⟩ := hs
  refine Ev.shift ?_
  have ew : wrap64 ((x.f1.length : Int) + (x.f2.length : Int)) = (x.f1.length : Int) + x.f2.length := by unfold wrap64; omega
  unfold shapeB at h1 h2
  by_cases h012 : x.f0 = 0 ∨ x.f0 = 1 ∨ x.f0 = 2
  · rw [decide_eq_true h012] at hb
    simp only [if_neg (show ¬ x.f0 = 4 by omega), if_neg (show ¬ x.f0 = 3 by omega), if_pos h012] at h1 h2
    simp only [impl_ValidGraph.j2, hb, if_true, ew]
    by_cases c : (x.f1.length : Int) + x.f2.length > 0
    · simp only [if_pos c]
      rw [h2 (decide_eq_false (fun h => by omega))]
      exact Ev.now _
    · simp only [if_neg c]
      exact h1 (decide_eq_true (by omega))
  rw [decide_eq_false h012] at hb
  simp only [impl_ValidGraph.j2, hb, Bool.false_eq_true, if_false]
  simp only [if_neg h012] at h1 h2
  by_cases h3 : x.f0 = 3
  · simp only [if_pos h3, if_neg (show ¬ x.f0 = 4 by omega)] at h1 h2 ⊢
    by_cases hl : x.f1.length = x.f2.length
    · simp only [if_pos (show (x.f1.length : Int) = (x.f2.length : Int) by omega)]
      exact impl_names g n i x hs' r (fun h => h1 (decide_eq_true ⟨hl, h⟩)) (fun h => h2 (decide_eq_false (fun h' => h h'.2)))
    · simp only [if_neg (show ¬ (x.f1.length : Int) = (x.f2.length : Int) by omega)]
      rw [h2 (decide_eq_false (fun h => hl h.1))]
      exact Ev.now _
  simp only [if_neg h3] at h1 h2 ⊢
  by_cases h4 : x.f0 = 4
  · simp only [if_pos h4] at h1 h2 ⊢
    by_cases c : (x.f1.length : Int) > 0
    · simp only [if_pos c]
      rw [h2 (decide_eq_false (fun h => by omega))]
      exact Ev.now _
    simp only [if_neg c]
    by_cases c2 : (x.f2.length : Int) = 2
    · simp only [if_pos c2]
      exact h1 (decide_eq_true (by omega))
    · simp only [if_neg c2]
      rw [h2 (decide_eq_false (fun h => by omega))]
      exact Ev.now _
  simp only [if_neg h4] at h1 h2 ⊢
  rw [h2 trivial]
  exact Ev.now _
theorem impl_node (g : List S145) (i : Nat) (x : S145) (hs : smNode' x) (r : Bool) (h1 : ndB g.length x = true → Ev (fun k => impl_ValidGraph.l0 k g g.length (wrap64 ((i : Int) + 1)) g) r)
    (h2 : ndB g.length x = false → r = false) : Ev (fun k => impl_ValidGraph.l1 k g g.length i x.f2 (x.f2.length : Int) 0 g x.f0 x.f1 x.f2) r := by
  have hs' := hs
  obtain ⟨hl1, hl2, hz⟩ := hs
  refine cont_loop (fun k (j : Nat) => impl_ValidGraph.l1 k g g.length i x.f2 (x.f2.length : Int) j g x.f0 x.f1 x.f2) x.f2.length (kidOk g.length x.f2) false (fun k => if x.f0 = 0 then (impl_ValidGraph.j2 k g g.length i x.f0 (x.f0 == 0) g x.f0 x.f1 x.f2) else (if x.f0 = 1 then (impl_ValidGraph.j2 k g g.length i x.f0 (x.f0 == 1) g x.f0 x.f1 x.f2) else (impl_ValidGraph.j2 k g g.length i x.f0 (x.f0 == 2) g x.f0 x.f1 x.f2))) ?_ ?_ ?_ r ?_ ?_
  · intro j hj ho r hr
    have ho' := of_decide_eq_true ho
    refine Ev.shift ?_
    simp only [impl_ValidGraph.l1, if_pos (show (j : Int) < (x.f2.length : Int) by omega), if_pos (show (0 : Int) ≤ (j : Int) by omega), if_neg (show ¬ rd x.f2 (j : Int) < 0 by omega), if_neg (show ¬ rd x.f2 (j : Int) ≥ (g.length : Int) by omega), wrap_nat j (by omega)]
    exact hr
  · intro j hj ho
    have ho' := of_decide_eq_false ho
    refine Ev.shift ?_
    simp only [impl_ValidGraph.l1, if_pos (show (j : Int) < (x.f2.length : Int) by omega), if_pos (show (0 : Int) ≤ (j : Int) by omega)]
    by_cases h : rd x.f2 (j : Int) < 0
    · simp only [if_pos h]
      exact Ev.now _
    · simp only [if_neg h, if_pos (show rd x.f2 (j : Int) ≥ (g.length : Int) by omega)]
      exact Ev.now _
  · intro r hr
    refine Ev.shift ?_
    simp only [impl_ValidGraph.l1, if_neg (show ¬ (x.f2.length : Int) < (x.f2.length : Int) by omega)]
    exact hr
  · intro h
    have hk : kidsB g.length x = true := decide_eq_true h
    unfold ndB at h1 h2
    rw [hk, Bool.true_and] at h1 h2
    by_cases h0 : x.f0 = 0
    · simp only [if_pos h0]
      refine impl_shape g _ i x hs' r _ ?_ h1 h2
      rw [h0]; rfl
    simp only [if_neg h0]
    by_cases hh1 : x.f0 = 1
    · simp only [if_pos hh1]
      refine impl_shape g _ i x hs' r _ ?_ h1 h2
      rw [hh1]; rfl
    simp only [if_neg hh1]
    refine impl_shape g _ i x hs' r _ ?_ h1 h2
    rw [Bool.eq_iff_iff, beq_iff_eq, decide_eq_true_iff]
    omega
  · rintro ⟨j, hj, ho⟩
    have hk : kidsB g.length x = false := decide_eq_false (fun h => by rw [h j hj] at ho; cases ho)
    refine h2 ?_
    unfold ndB
    rw [hk]
    rfl
theorem implValidGraph (g : List S145) (hs : ∀ x ∈ g, smNode' x) : Ev (fun k => impl_ValidGraph.f k g) (vgB g) := by
  unfold impl_ValidGraph.f vgB
  by_cases c : (g.length : Int) > 4000
  · simp only [if_pos c]
    rw [decide_eq_false (fun h => by omega)]
    exact Ev.now _
  simp only [if_neg c]
  refine cont_loop (fun k i => impl_ValidGraph.l0 k g (g.length : Int) (i : Nat) g) g.length (fun i => ndB g.length (rd_T145 g i)) false (fun _ => some true) ?_ ?_ ?_ _ ?_ ?_
  · intro i hi ho r hr
    refine Ev.shift ?_
    simp only [impl_ValidGraph.l0, if_pos (show (i : Int) < (g.length : Int) by omega), if_pos (show (0 : Int) ≤ (i : Int) by omega)]
    refine impl_node g i _ (hs _ (rd_mem_nd g hi)) r (fun _ => ?_) (fun h => ?_)
    · simp only [wrap_nat i (by omega)]
      exact hr
    · have ho2 : ndB g.length (rd_T145 g (i : Int)) = true := ho
      rw [ho2] at h
      cases h
  · intro i hi ho
    refine Ev.shift ?_
    simp only [impl_ValidGraph.l0, if_pos (show (i : Int) < (g.length : Int) by omega), if_pos (show (0 : Int) ≤ (i : Int) by omega)]
    refine impl_node g i _ (hs _ (rd_mem_nd g hi)) false (fun h => ?_) (fun _ => rfl)
    have ho2 : ndB g.length (rd_T145 g (i : Int)) = false := ho
    rw [ho2] at h
    cases h
  · intro r hr
    refine Ev.shift ?_
    simp only [impl_ValidGraph.l0, if_neg (show ¬ (g.length : Int) < (g.length : Int) by omega)]
    exact hr
  · intro h
    rw [decide_eq_true ⟨by omega, h⟩]
    exact Ev.now _
  · rintro ⟨i, hi, ho⟩
    exact decide_eq_false (fun h => by rw [h.2 i hi] at ho; cases ho)
end Go.Proofs.YtnbohlcibgfjaaaDoor.Gp
end
section
namespace Go.Proofs.YtnbohlcibgfjaaaDoor.Gp
open Go.RowKit Go.Proofs.YtnbohlcibgfjaaaDoorW.PrintWords
abbrev NdG := List S145
abbrev nd (g : NdG) (x : Nat) : S145 := rd_T145 g (x : Int)
def kidN (g : NdG) (x i : Nat) : Nat := (rd (nd g x).f2 (i : Int)).toNat
def locB (g : NdG) (x y : Nat) : Bool := decide ((nd g x).f0 = (nd g y).f0) && decide ((nd g x).f1 = (nd g y).f1) && decide ((nd g x).f2.length = (nd g y).f2.length)
theorem locB_iff {g : NdG} {x y : Nat} : locB g x y = true ↔ (nd g x).f0 = (nd g y).f0 ∧ (nd g x).f1 = (nd g y).f1 ∧ (nd g x).f2.length = (nd g y).f2.length := by
  unfold locB
  simp only [Bool.and_eq_true, decide_eq_true_eq, and_assoc]
/-- Alike down to a depth. -/
def eqR (g : NdG) : Nat → Nat → Nat → Bool
  | 0, _, _ => true
  | r + 1, x, y => eqR g r x y && locB g x y && (List.range (nd g x).f2.length).all (fun i => eqR g r (kidN g x i) (kidN g y i))
theorem eqR_succ {g : NdG} {r x y : Nat} : eqR g (r + 1) x y = true ↔ eqR g r x y = true ∧ locB g x y = true ∧ ∀ i, i < (nd g x).f2.length → eqR g r (kidN g x i) (kidN g y i) = true := by
  simp only [eqR, Bool.and_eq_true, List.all_eq_true, List.mem_range, and_assoc]
theorem eqR_refl (g : NdG) : ∀ (r x : Nat), eqR g r x x = true
  | 0, _ => rfl
  | r + 1, x => eqR_succ.2 ⟨eqR_refl g r x, locB_iff.2 ⟨rfl, rfl, rfl⟩, fun _ _ => eqR_refl g r _⟩
theorem eqR_symm (g : NdG) : ∀ (r x y : Nat), eqR g r x y = true → eqR g r y x = true
  | 0, _, _, _ => rfl
  | r + 1, x, y, h => by
    obtain ⟨h1, h2, h3⟩ := eqR_succ.1 h
    obtain ⟨a, b, c⟩ := locB_iff.1 h2
    exact eqR_succ.2 ⟨eqR_symm g r x y h1, locB_iff.2 ⟨a.symm, b.symm, c.symm⟩, fun i hi => eqR_symm g r _ _ (h3 i (by omega))⟩
theorem eqR_trans (g : NdG) : ∀ (r x y z : Nat), eqR g r x y = true → eqR g r y z = true → eqR g r x z = true
  | 0, _, _, _, _, _ => rfl
  | r + 1, x, y, z, h, k => by
    obtain ⟨h1, h2, h3⟩ := eqR_succ.1 h
    obtain ⟨k1, k2, k3⟩ := eqR_succ.1 k
    obtain ⟨a, b, c⟩ := locB_iff.1 h2
    obtain ⟨a', b', c'⟩ := locB_iff.1 k2
    exact eqR_succ.2 ⟨eqR_trans g r x y z h1 k1, locB_iff.2 ⟨a.trans a', b.trans b', c.trans c'⟩, fun i hi => eqR_trans g r _ _ _ (h3 i hi) (k3 i (by omega))⟩
structure EqvB (E : Nat → Nat → Bool) : Prop where
  refl : ∀ x, E x x = true
  symm : ∀ x y, E x y = true → E y x = true
  trans : ∀ x y z, E x y = true → E y z = true → E x z = true
theorem eqR_eqv (g : NdG) (r : Nat) : EqvB (eqR g r) := ⟨eqR_refl g r, eqR_symm g r, eqR_trans g r⟩
def firstB (E : Nat → Nat → Bool) (i : Nat) : Bool := (List.range i).all (fun j => !E j i)
theorem firstB_iff {E : Nat → Nat → Bool} {i : Nat} : firstB E i = true ↔ ∀ j, j < i → E j i = false := by
  unfold firstB
  simp only [List.all_eq_true, List.mem_range, Bool.not_eq_true']
def firsts (E : Nat → Nat → Bool) (m : Nat) : List Nat := (List.range m).filter (firstB E)
theorem firsts_mem {E : Nat → Nat → Bool} {m f : Nat} : f ∈ firsts E m ↔ f < m ∧ firstB E f = true := by
  unfold firsts
  rw [List.mem_filter, List.mem_range]
theorem firsts_len (E : Nat → Nat → Bool) (m : Nat) : (firsts E m).length ≤ m := by
  have := List.length_filter_le (firstB E) (List.range m)
  rw [List.length_range] at this
  exact this
theorem firsts_succ (E : Nat → Nat → Bool) (m : Nat) : firsts E (m + 1) = firsts E m ++ (if firstB E m = true then [m] else []) := by
  unfold firsts
  rw [List.range_succ, List.filter_append]
  congr 1
  by_cases h : firstB E m = true
  · rw [if_pos h, List.filter_cons_of_pos h, List.filter_nil]
  · rw [if_neg h, List.filter_cons_of_neg h, List.filter_nil]
theorem rep_ex {E : Nat → Nat → Bool} (hE : EqvB E) : ∀ (n j : Nat), j ≤ n → ∃ f, f ≤ j ∧ firstB E f = true ∧ E f j = true := by
  intro n
  induction n with
  | zero => intro j hj; exact ⟨j, Nat.le_refl _, firstB_iff.2 (fun i hi => by omega), hE.refl j⟩
  | succ n ih =>
    intro j hj
    cases hf : firstB E j with
    | true => exact ⟨j, Nat.le_refl _, hf, hE.refl j⟩
    | false =>
      have : ¬ ∀ i, i < j → E i j = false := fun h => by rw [firstB_iff.2 h] at hf; cases hf
      have hex : ∃ i, i < j ∧ E i j = true := Classical.byContradiction (fun hn => this (fun i hi => by
        cases hx : E i j with
        | false => rfl
        | true => exact absurd ⟨i, hi, hx⟩ hn))
      obtain ⟨i, hi, hx⟩ := hex
      obtain ⟨f, h1, h2, h3⟩ := ih i (by omega)
      exact ⟨f, by omega, h2, hE.trans _ _ _ h3 hx⟩
theorem first_uniq {E : Nat → Nat → Bool} (hE : EqvB E) {f f' : Nat} (h : firstB E f = true) (h' : firstB E f' = true) (he : E f f' = true) : f = f' := by
  rcases Nat.lt_trichotomy f f' with c | c | c
  · rw [firstB_iff.1 h' f c] at he; cases he
  · exact c
  · have := hE.symm _ _ he
    rw [firstB_iff.1 h f' c] at this
    cases this
theorem firsts_finer {E E' : Nat → Nat → Bool} (hs : ∀ x y, E' x y = true → E x y = true) (m : Nat) : (firsts E m).Sublist (firsts E' m) := by
  have hp : ∀ i, firstB E i = true → firstB E' i = true := fun i h => firstB_iff.2 (fun j hj => by
    cases hx : E' j i with
    | false => rfl
    | true => have := hs _ _ hx; rw [firstB_iff.1 h j hj] at this; cases this)
  have e : firsts E m = (firsts E' m).filter (firstB E) := by
    unfold firsts
    rw [List.filter_filter]
    apply List.filter_congr
    intro i _
    cases hx : firstB E i with
    | false => rfl
    | true => rw [hp i hx]; rfl
  rw [e]
  exact List.filter_sublist
theorem firsts_stable {E E' : Nat → Nat → Bool} (hE : EqvB E) (hE' : EqvB E') (hs : ∀ x y, E' x y = true → E x y = true) (m : Nat) (hl : (firsts E' m).length = (firsts E m).length) (x y : Nat) (hx : x < m) (hy : y < m) (h : E x y = true) : E' x y = true := by
  have e : firsts E m = firsts E' m := (firsts_finer hs m).eq_of_length hl.symm
  obtain ⟨f, hf1, hf2, hf3⟩ := rep_ex hE' x x (Nat.le_refl _)
  obtain ⟨f', hf1', hf2', hf3'⟩ := rep_ex hE' y y (Nat.le_refl _)
  have m1 : f ∈ firsts E m := by rw [e]; exact firsts_mem.2 ⟨by omega, hf2⟩
  have m2 : f' ∈ firsts E m := by rw [e]; exact firsts_mem.2 ⟨by omega, hf2'⟩
  have hff : E f f' = true := hE.trans _ _ _ (hE.trans _ _ _ (hs _ _ hf3) h) (hE.symm _ _ (hs _ _ hf3'))
  obtain rfl := first_uniq hE (firsts_mem.1 m1).2 (firsts_mem.1 m2).2 hff
  exact hE'.trans _ _ _ (hE'.symm _ _ hf3) hf3'
/-- The list tells the classes of E. -/
structure ClassOf (n : Nat) (E : Nat → Nat → Bool) (cl : List Int) : Prop where
  len : cl.length = n
  eqv : ∀ i j, i < n → j < n → (rd cl (i : Int) = rd cl (j : Int) ↔ E i j = true)
theorem vg_kid {g : NdG} (hv : vgB g = true) {x i : Nat} (hx : x < g.length) (hi : i < (nd g x).f2.length) : kidN g x i < g.length ∧ rd (nd g x).f2 (i : Int) = (kidN g x i : Int) := by
  have h1 := (of_decide_eq_true hv).2 x hx
  unfold ndB at h1
  rw [Bool.and_eq_true] at h1
  have h2 := of_decide_eq_true ((of_decide_eq_true h1.1 : ∀ i : Nat, i < (nd g x).f2.length → kidOk g.length (nd g x).f2 i = true) i hi)
  unfold kidN
  omega
theorem vg_len {g : NdG} (hv : vgB g = true) : g.length ≤ 4000 := (of_decide_eq_true hv).1
theorem names_eq {l m : List ByteArray} (hl : l.length = m.length) : (∀ i, i < l.length → (nameAt l i).toList = (nameAt m i).toList) ↔ l = m := by
  constructor
  · intro h
    apply List.ext_getElem hl
    intro i h1 h2
    have := h i h1
    unfold nameAt rdOf at this
    rw [Int.toNat_natCast, List.getD_eq_getElem?_getD, List.getElem?_eq_getElem h1, List.getD_eq_getElem?_getD, List.getElem?_eq_getElem h2, Lib.toList_data, Lib.toList_data] at this
    exact data_inj0 this
  · rintro rfl i _
    rfl
theorem alike_ev {g : NdG} (hv : vgB g = true) (hs : ∀ x ∈ g, smNode' x) {cl : List Int} (hcl : cl.length = g.length) {a b : Nat} (ha : a < g.length) (hb : b < g.length) :
    Ev (fun k => spec_l1Alike.f k g cl (a : Int) (b : Int)) (locB g a b && decide (∀ i, i < (nd g a).f2.length → rd cl (kidN g a i : Int) = rd cl (kidN g b i : Int))) := by
  have sa : smNode' (nd g a) := hs _ (rd_mem_nd g ha)
  have hn := vg_len hv
  unfold spec_l1Alike.f
  simp only [if_pos (show 0 ≤ (a : Int) by omega), if_pos (show (a : Int) < (g.length : Int) by omega), if_pos (show 0 ≤ (b : Int) by omega), if_pos (show (b : Int) < (g.length : Int) by omega)]
  by_cases h0 : (nd g a).f0 = (nd g b).f0
  case neg =>
    simp only [if_neg h0]
    rw [show locB g a b = false from Bool.eq_false_iff.2 (fun h => h0 (locB_iff.1 h).1), Bool.false_and]
    exact Ev.shift (by simp only [spec_l1Alike.j0, if_true]; exact Ev.now _)
  simp only [if_pos h0]
  by_cases h1 : (nd g a).f1.length = (nd g b).f1.length
  case neg =>
    simp only [if_neg (show ¬ ((nd g a).f1.length : Int) = ((nd g b).f1.length : Int) by omega)]
    rw [show locB g a b = false from Bool.eq_false_iff.2 (fun h => h1 (by rw [(locB_iff.1 h).2.1])), Bool.false_and]
    exact Ev.shift (by simp only [spec_l1Alike.j0, if_true]; exact Ev.now _)
  simp only [if_pos (show ((nd g a).f1.length : Int) = ((nd g b).f1.length : Int) by omega)]
  by_cases h2 : (nd g a).f2.length = (nd g b).f2.length
  case neg =>
    have e2 : (((nd g a).f2.length : Int) != ((nd g b).f2.length : Int)) = true := bne_iff_ne.2 (by omega)
    simp only [e2]
    rw [show locB g a b = false from Bool.eq_false_iff.2 (fun h => h2 (locB_iff.1 h).2.2), Bool.false_and]
    exact Ev.shift (by simp only [spec_l1Alike.j0, if_true]; exact Ev.now _)
  have e2 : (((nd g a).f2.length : Int) != ((nd g b).f2.length : Int)) = false := by simp; omega
  simp only [e2]
  refine Ev.shift ?_
  simp only [spec_l1Alike.j0, Bool.false_eq_true, if_false]
  refine cont_loop (fun k i => spec_l1Alike.l0 k cl (i : Nat) (nd g a).f0 (nd g a).f1 (nd g a).f2 (nd g b).f0 (nd g b).f1 (nd g b).f2) (nd g a).f1.length (fun i => decide ((nameAt (nd g a).f1 i).toList = (nameAt (nd g b).f1 i).toList)) false (fun k => spec_l1Alike.l1 k cl 0 (nd g a).f0 (nd g a).f1 (nd g a).f2 (nd g b).f0 (nd g b).f1 (nd g b).f2) ?_ ?_ ?_ _ ?_ ?_
  · intro i hi ho r hr
    have ho' : (nameAt (nd g a).f1 i).toList = (nameAt (nd g b).f1 i).toList := of_decide_eq_true ho
    refine Ev.shift ?_
    simp only [spec_l1Alike.l0, if_pos (show (i : Int) < ((nd g a).f1.length : Int) by omega), if_pos (show (0 : Int) ≤ (i : Int) by omega), if_pos (show (i : Int) < ((nd g b).f1.length : Int) by omega), if_pos ho', wrap_nat i (by have := sa.1; omega)]
    exact hr
  · intro i hi ho
    have ho' : ¬ (nameAt (nd g a).f1 i).toList = (nameAt (nd g b).f1 i).toList := of_decide_eq_false ho
    refine Ev.shift ?_
    simp only [spec_l1Alike.l0, if_pos (show (i : Int) < ((nd g a).f1.length : Int) by omega), if_pos (show (0 : Int) ≤ (i : Int) by omega), if_pos (show (i : Int) < ((nd g b).f1.length : Int) by omega), if_neg ho']
    exact Ev.now _
  · intro r hr
    refine Ev.shift ?_
    simp only [spec_l1Alike.l0, if_neg (show ¬ ((nd g a).f1.length : Int) < ((nd g a).f1.length : Int) by omega)]
    exact hr
  · intro h
    have hnm : (nd g a).f1 = (nd g b).f1 := (names_eq h1).1 (fun i hi => of_decide_eq_true (h i hi))
    rw [show locB g a b = true from locB_iff.2 ⟨h0, hnm, h2⟩, Bool.true_and]
    refine cont_loop (fun k i => spec_l1Alike.l1 k cl (i : Nat) (nd g a).f0 (nd g a).f1 (nd g a).f2 (nd g b).f0 (nd g b).f1 (nd g b).f2) (nd g a).f2.length (fun i => decide (rd cl (kidN g a i : Int) = rd cl (kidN g b i : Int))) false (fun _ => some true) ?_ ?_ ?_ _ ?_ ?_
    · intro i hi ho r hr
      have ho' : rd cl (kidN g a i : Int) = rd cl (kidN g b i : Int) := of_decide_eq_true ho
      obtain ⟨ka, ea⟩ := vg_kid hv ha hi
      obtain ⟨kb, eb⟩ := vg_kid hv hb (show i < (nd g b).f2.length by omega)
      refine Ev.shift ?_
      simp only [spec_l1Alike.l1, if_pos (show (i : Int) < ((nd g a).f2.length : Int) by omega), if_pos (show (0 : Int) ≤ (i : Int) by omega), if_pos (show (i : Int) < ((nd g b).f2.length : Int) by omega), ea, eb, if_pos (show (0 : Int) ≤ (kidN g a i : Int) by omega), if_pos (show (0 : Int) ≤ (kidN g b i : Int) by omega), if_pos (show (kidN g a i : Int) < (cl.length : Int) by omega), if_pos (show (kidN g b i : Int) < (cl.length : Int) by omega), if_pos ho', wrap_nat i (by have := sa.2.1; omega)]
      exact hr
    · intro i hi ho
      have ho' : ¬ rd cl (kidN g a i : Int) = rd cl (kidN g b i : Int) := of_decide_eq_false ho
      obtain ⟨ka, ea⟩ := vg_kid hv ha hi
      obtain ⟨kb, eb⟩ := vg_kid hv hb (show i < (nd g b).f2.length by omega)
      refine Ev.shift ?_
      simp only [spec_l1Alike.l1, if_pos (show (i : Int) < ((nd g a).f2.length : Int) by omega), if_pos (show (0 : Int) ≤ (i : Int) by omega), if_pos (show (i : Int) < ((nd g b).f2.length : Int) by omega), ea, eb, if_pos (show (0 : Int) ≤ (kidN g a i : Int) by omega), if_pos (show (0 : Int) ≤ (kidN g b i : Int) by omega), if_pos (show (kidN g a i : Int) < (cl.length : Int) by omega), if_pos (show (kidN g b i : Int) < (cl.length : Int) by omega), if_neg ho']
      exact Ev.now _
    · intro r hr
      refine Ev.shift ?_
      simp only [spec_l1Alike.l1, if_neg (show ¬ ((nd g a).f2.length : Int) < ((nd g a).f2.length : Int) by omega)]
      exact hr
    · intro h'
      rw [decide_eq_true (fun i hi => of_decide_eq_true (h' i hi))]
      exact Ev.now _
    · rintro ⟨i, hi, ho⟩
      exact decide_eq_false (fun h' => of_decide_eq_false ho (h' i hi))
  · rintro ⟨i, hi, ho⟩
    rw [show locB g a b = false from Bool.eq_false_iff.2 (fun h => of_decide_eq_false ho ((names_eq h1).2 (locB_iff.1 h).2.1 i hi))]
    rfl
abbrev natI (fs : List Nat) : List Int := fs.map (fun (f : Nat) => (f : Int))
theorem rd_natI {fs : List Nat} {c : Nat} (h : c < fs.length) : rd (natI fs) (c : Int) = (fs.getD c 0 : Int) := by
  unfold rd
  rw [Int.toNat_natCast, List.getD_eq_getElem?_getD, List.getD_eq_getElem?_getD, List.getElem?_map, List.getElem?_eq_getElem h]
  rfl
theorem getD_mem {fs : List Nat} {c : Nat} (h : c < fs.length) : fs.getD c 0 ∈ fs := by
  rw [List.getD_eq_getElem?_getD, List.getElem?_eq_getElem h]
  exact List.getElem_mem h
theorem rd_set_self {nx : List Int} {i : Nat} {v : Int} (h : i < nx.length) : rd (nx.set i v) (i : Int) = v := by
  unfold rd
  rw [Int.toNat_natCast, List.getD_eq_getElem?_getD, List.getElem?_set_self h]
  rfl
theorem rd_set_ne {nx : List Int} {i j : Nat} {v : Int} (h : i ≠ j) : rd (nx.set i v) (j : Int) = rd nx (j : Int) := by
  unfold rd
  rw [Int.toNat_natCast, List.getD_eq_getElem?_getD, List.getD_eq_getElem?_getD, List.getElem?_set_ne h]
/-- Two classes of one round: what the reference asks is the next relation. -/
theorem next_asks {g : NdG} {r : Nat} {cl : List Int} (hv : vgB g = true) (hcl : ClassOf g.length (eqR g r) cl) {f i : Nat} (hf : f < g.length) (hi : i < g.length) (hc : rd cl (f : Int) = rd cl (i : Int)) :
    (locB g f i && decide (∀ t, t < (nd g f).f2.length → rd cl (kidN g f t : Int) = rd cl (kidN g i t : Int))) = eqR g (r + 1) f i := by
  rw [Bool.eq_iff_iff, Bool.and_eq_true, decide_eq_true_eq, eqR_succ]
  constructor
  · rintro ⟨h1, h2⟩
    refine ⟨(hcl.eqv f i hf hi).1 hc, h1, fun t ht => ?_⟩
    have hl := (locB_iff.1 h1).2.2
    exact (hcl.eqv _ _ (vg_kid hv hf ht).1 (vg_kid hv hi (show t < (nd g i).f2.length by omega)).1).1 (h2 t ht)
  · rintro ⟨_, h1, h2⟩
    refine ⟨h1, fun t ht => ?_⟩
    have hl := (locB_iff.1 h1).2.2
    exact (hcl.eqv _ _ (vg_kid hv hf ht).1 (vg_kid hv hi (show t < (nd g i).f2.length by omega)).1).2 (h2 t ht)
theorem l2_found {g : NdG} {r : Nat} {cl : List Int} (hv : vgB g = true) (count : Int) (nx : List Int) (hnx : nx.length = g.length) (fs : List Nat) (hfl : fs.length ≤ g.length) (i : Nat) (hi : i < g.length) (c' : Nat) (q : List Int)
    (h : Ev (fun k => spec_l1Classes.l1 k g.length cl count r (nx.set i (c' : Int)) (natI fs) ((i + 1 : Nat) : Int) g) q) : ∀ (d c : Nat), fs.length - c = d → c ≤ fs.length → Ev (fun k => spec_l1Classes.l2 k g.length cl count r nx (natI fs) (i : Int) (c' : Int) (c : Int) g) q := by
  have hn := vg_len hv
  intro d
  induction d with
  | zero =>
    intro c hd hc
    obtain rfl : c = fs.length := by omega
    refine Ev.shift ?_
    simp only [spec_l1Classes.l2, List.length_map, if_neg (show ¬ (fs.length : Int) < (fs.length : Int) by omega), if_neg (show ¬ (c' : Int) < 0 by omega), if_pos (show (0 : Int) ≤ (i : Int) by omega), if_pos (show (i : Int) < (nx.length : Int) by omega), Int.toNat_natCast, wrap_nat i (by omega)]
    exact h
  | succ d ih =>
    intro c hd hc
    refine Ev.shift ?_
    simp only [spec_l1Classes.l2, List.length_map, if_pos (show (c : Int) < (fs.length : Int) by omega), if_neg (show ¬ (c' : Int) < 0 by omega), wrap_nat c (by omega)]
    exact ih (c + 1) (by omega) (by omega)
theorem l2_ev {g : NdG} {r : Nat} {cl : List Int} (hv : vgB g = true) (hs : ∀ x ∈ g, smNode' x) (hcl : ClassOf g.length (eqR g r) cl) (count : Int) (nx : List Int) (hnx : nx.length = g.length) (fs : List Nat) (hfl : fs.length ≤ g.length) (hfm : ∀ f ∈ fs, f < g.length) (i : Nat) (hi : i < g.length) (q : List Int)
    (hfound : ∀ c', c' < fs.length → eqR g (r + 1) (fs.getD c' 0) i = true → Ev (fun k => spec_l1Classes.l1 k g.length cl count r (nx.set i (c' : Int)) (natI fs) ((i + 1 : Nat) : Int) g) q)
    (hnone : (∀ c', c' < fs.length → eqR g (r + 1) (fs.getD c' 0) i = false) → Ev (fun k => spec_l1Classes.l1 k g.length cl count r (nx.set i (fs.length : Int)) (natI (fs ++ [i])) ((i + 1 : Nat) : Int) g) q) :
    ∀ (d c : Nat), fs.length - c = d → c ≤ fs.length → (∀ j, j < c → eqR g (r + 1) (fs.getD j 0) i = false) → Ev (fun k => spec_l1Classes.l2 k g.length cl count r nx (natI fs) (i : Int) (-1) (c : Int) g) q := by
  have hn := vg_len hv
  intro d
  induction d with
  | zero =>
    intro c hd hc hno
    obtain rfl : c = fs.length := by omega
    refine Ev.shift ?_
    simp only [spec_l1Classes.l2, List.length_map, if_neg (show ¬ (fs.length : Int) < (fs.length : Int) by omega), if_pos (show (-1 : Int) < 0 by omega), if_pos (show fs.length < 17592186044416 by omega), if_pos (show (0 : Int) ≤ (i : Int) by omega), if_pos (show (i : Int) < (nx.length : Int) by omega), Int.toNat_natCast, wrap_nat i (by omega)]
    have := hnone hno
    unfold natI at this
    rw [List.map_append] at this
    exact this
  | succ d ih =>
    intro c hd hc hno
    have hlt : c < fs.length := by omega
    have hf := hfm _ (getD_mem hlt)
    have e := rd_natI hlt
    have hcl1 := hcl.len
    refine Ev.shift ?_
    simp only [spec_l1Classes.l2, List.length_map, if_pos (show (c : Int) < (fs.length : Int) by omega), if_pos (show (-1 : Int) < 0 by omega), if_pos (show (0 : Int) ≤ (c : Int) by omega), e, if_pos (show (0 : Int) ≤ ((fs.getD c 0 : Nat) : Int) by omega), if_pos (show ((fs.getD c 0 : Nat) : Int) < (cl.length : Int) by omega), if_pos (show (0 : Int) ≤ (i : Int) by omega), if_pos (show (i : Int) < (cl.length : Int) by omega), wrap_nat c (by omega)]
    by_cases hc1 : rd cl ((fs.getD c 0 : Nat) : Int) = rd cl (i : Int)
    · simp only [if_pos hc1]
      refine Ev.bind (alike_ev hv hs hcl1 hf hi) ?_
      rw [next_asks hv hcl hf hi hc1]
      cases hx : eqR g (r + 1) (fs.getD c 0) i with
      | true =>
        simp only [if_true]
        exact l2_found hv count nx hnx fs hfl i hi c q (hfound c hlt hx) _ (c + 1) rfl (by omega)
      | false =>
        simp only [Bool.false_eq_true, if_false]
        exact ih (c + 1) (by omega) (by omega) (fun j hj => by
          rcases Nat.lt_succ_iff_lt_or_eq.1 hj with h | rfl
          · exact hno j h
          · exact hx)
    · simp only [if_neg hc1]
      exact ih (c + 1) (by omega) (by omega) (fun j hj => by
        rcases Nat.lt_succ_iff_lt_or_eq.1 hj with h | rfl
        · exact hno j h
        · cases hx : eqR g (r + 1) (fs.getD j 0) i with
          | false => rfl
          | true => exact absurd ((hcl.eqv _ _ hf hi).2 (eqR_succ.1 hx).1) hc1)
/-- What stands in 'next' so far. -/
def NextAt (E : Nat → Nat → Bool) (n i : Nat) (nx : List Int) : Prop := nx.length = n ∧ ∀ j, j < i → ∃ c : Nat, c < (firsts E i).length ∧ rd nx (j : Int) = (c : Int) ∧ E ((firsts E i).getD c 0) j = true
theorem next_class {E : Nat → Nat → Bool} (hE : EqvB E) {n : Nat} {nx : List Int} (h : NextAt E n n nx) : ClassOf n E nx := by
  refine ⟨h.1, fun i j hi hj => ?_⟩
  obtain ⟨c, hc, hrc, hec⟩ := h.2 i hi
  obtain ⟨c', hc', hrc', hec'⟩ := h.2 j hj
  rw [hrc, hrc']
  constructor
  · intro e
    obtain rfl : c = c' := by omega
    exact hE.trans _ _ _ (hE.symm _ _ hec) hec'
  · intro he
    have hff : E ((firsts E n).getD c 0) ((firsts E n).getD c' 0) = true := hE.trans _ _ _ (hE.trans _ _ _ hec he) (hE.symm _ _ hec')
    have e := first_uniq hE (firsts_mem.1 (getD_mem hc)).2 (firsts_mem.1 (getD_mem hc')).2 hff
    have hnd : (firsts E n).Nodup := List.nodup_range.filter _
    rw [List.getD_eq_getElem?_getD, List.getElem?_eq_getElem hc, List.getD_eq_getElem?_getD, List.getElem?_eq_getElem hc'] at e
    have hpw := List.pairwise_iff_getElem.1 hnd
    rcases Nat.lt_trichotomy c c' with q | q | q
    · exact absurd e (hpw c c' hc hc' q)
    · omega
    · exact absurd e.symm (hpw c' c hc' hc q)
theorem l1_ev {g : NdG} {r : Nat} {cl : List Int} (hv : vgB g = true) (hs : ∀ x ∈ g, smNode' x) (hcl : ClassOf g.length (eqR g r) cl) (count : Int) : ∀ (d i : Nat) (nx : List Int), g.length - i = d → i ≤ g.length → NextAt (eqR g (r + 1)) g.length i nx →
    ∃ nx', NextAt (eqR g (r + 1)) g.length g.length nx' ∧ ∀ q, Ev (fun k => spec_l1Classes.l1 k g.length cl count r nx' (natI (firsts (eqR g (r + 1)) g.length)) (g.length : Int) g) q → Ev (fun k => spec_l1Classes.l1 k g.length cl count r nx (natI (firsts (eqR g (r + 1)) i)) (i : Int) g) q := by
  have hn := vg_len hv
  have hE := eqR_eqv g (r + 1)
  intro d
  induction d with
  | zero =>
    intro i nx hd hi h
    obtain rfl : i = g.length := by omega
    exact ⟨nx, h, fun q hq => hq⟩
  | succ d ih =>
    intro i nx hd hi h
    have hlt : i < g.length := by omega
    have hfl := firsts_len (eqR g (r + 1)) i
    have hfm : ∀ f ∈ firsts (eqR g (r + 1)) i, f < g.length := fun f hf => by have := (firsts_mem.1 hf).1; omega
    by_cases hex : ∃ c', c' < (firsts (eqR g (r + 1)) i).length ∧ eqR g (r + 1) ((firsts (eqR g (r + 1)) i).getD c' 0) i = true
    · obtain ⟨c0, hc0, he0⟩ := hex
      have hfi : (firsts (eqR g (r + 1)) i).getD c0 0 < i := (firsts_mem.1 (getD_mem hc0)).1
      have hnf : ¬ firstB (eqR g (r + 1)) i = true := fun hf => by rw [firstB_iff.1 hf _ hfi] at he0; cases he0
      have efs : firsts (eqR g (r + 1)) (i + 1) = firsts (eqR g (r + 1)) i := by rw [firsts_succ, if_neg hnf, List.append_nil]
      obtain ⟨nx', h1, h2⟩ := ih (i + 1) (nx.set i (c0 : Int)) (by omega) (by omega) ⟨by rw [List.length_set]; exact h.1, fun j hj => by
        rw [efs]
        rcases Nat.lt_succ_iff_lt_or_eq.1 hj with hj' | rfl
        · obtain ⟨c, h1, h2, h3⟩ := h.2 j hj'
          exact ⟨c, h1, by rw [rd_set_ne (by omega)]; exact h2, h3⟩
        · exact ⟨c0, hc0, rd_set_self (by rw [h.1]; exact hlt), he0⟩⟩
      rw [efs] at h2
      refine ⟨nx', h1, fun q hq => Ev.shift ?_⟩
      simp only [spec_l1Classes.l1, if_pos (show (i : Int) < (g.length : Int) by omega)]
      refine l2_ev hv hs hcl count nx h.1 _ (by omega) hfm i hlt q ?_ ?_ _ 0 rfl (Nat.zero_le _) (fun j hj => by omega)
      · intro c' hc' he
        have hff := first_uniq hE (firsts_mem.1 (getD_mem hc0)).2 (firsts_mem.1 (getD_mem hc')).2 (hE.trans _ _ _ he0 (hE.symm _ _ he))
        have hpw := List.pairwise_iff_getElem.1 (List.nodup_range.filter (firstB (eqR g (r + 1))) : (firsts (eqR g (r + 1)) i).Nodup)
        rw [List.getD_eq_getElem?_getD, List.getElem?_eq_getElem hc0, List.getD_eq_getElem?_getD, List.getElem?_eq_getElem hc'] at hff
        have hcc : c0 = c' := by
          rcases Nat.lt_trichotomy c0 c' with q | q | q
          · exact absurd hff (hpw c0 c' hc0 hc' q)
          · exact q
          · exact absurd hff.symm (hpw c' c0 hc' hc0 q)
        rw [← hcc]
        exact h2 q hq
      · intro hno
        rw [hno c0 hc0] at he0
        cases he0
    · have hno : ∀ c', c' < (firsts (eqR g (r + 1)) i).length → eqR g (r + 1) ((firsts (eqR g (r + 1)) i).getD c' 0) i = false := fun c' hc' => by
        cases hx : eqR g (r + 1) ((firsts (eqR g (r + 1)) i).getD c' 0) i with
        | false => rfl
        | true => exact absurd ⟨c', hc', hx⟩ hex
      have hf : firstB (eqR g (r + 1)) i = true := firstB_iff.2 (fun j hj => by
        cases hx : eqR g (r + 1) j i with
        | false => rfl
        | true =>
          obtain ⟨f, hf1, hf2, hf3⟩ := rep_ex hE j j (Nat.le_refl _)
          have hm : f ∈ firsts (eqR g (r + 1)) i := firsts_mem.2 ⟨by omega, hf2⟩
          obtain ⟨c, hc, hcf⟩ := List.getElem_of_mem hm
          have := hno c hc
          rw [List.getD_eq_getElem?_getD, List.getElem?_eq_getElem hc, Option.getD_some, hcf, hE.trans _ _ _ hf3 hx] at this
          cases this)
      have efs : firsts (eqR g (r + 1)) (i + 1) = firsts (eqR g (r + 1)) i ++ [i] := by rw [firsts_succ, if_pos hf]
      obtain ⟨nx', h1, h2⟩ := ih (i + 1) (nx.set i ((firsts (eqR g (r + 1)) i).length : Int)) (by omega) (by omega) ⟨by rw [List.length_set]; exact h.1, fun j hj => by
        rw [efs]
        rcases Nat.lt_succ_iff_lt_or_eq.1 hj with hj' | rfl
        · obtain ⟨c, h1, h2, h3⟩ := h.2 j hj'
          refine ⟨c, by rw [List.length_append]; omega, by rw [rd_set_ne (by omega)]; exact h2, ?_⟩
          rw [List.getD_eq_getElem?_getD, List.getElem?_append_left h1, ← List.getD_eq_getElem?_getD]
          exact h3
        · refine ⟨(firsts (eqR g (r + 1)) j).length, by rw [List.length_append]; simp, rd_set_self (by rw [h.1]; exact hlt), ?_⟩
          rw [List.getD_eq_getElem?_getD, List.getElem?_append_right (Nat.le_refl _), Nat.sub_self]
          exact hE.refl _⟩
      rw [efs] at h2
      refine ⟨nx', h1, fun q hq => Ev.shift ?_⟩
      simp only [spec_l1Classes.l1, if_pos (show (i : Int) < (g.length : Int) by omega)]
      exact l2_ev hv hs hcl count nx h.1 _ (by omega) hfm i hlt q (fun c' hc' he => absurd ⟨c', hc', he⟩ hex) (fun _ => h2 q hq) _ 0 rfl (Nat.zero_le _) (fun j hj => by omega)
/-- Two rounds' relations are one on the graph's nodes. -/
def Stable (g : NdG) (R : Nat) : Prop := ∀ x y, x < g.length → y < g.length → eqR g R x y = true → eqR g (R + 1) x y = true
theorem l0_ev {g : NdG} (hv : vgB g = true) (hs : ∀ x ∈ g, smNode' x) (hn1 : 0 < g.length) : ∀ (d r : Nat) (cl : List Int) (count : Int), g.length + 1 - r = d → r ≤ g.length + 1 → ClassOf g.length (eqR g r) cl →
    (r = 0 ∨ (1 ≤ r ∧ count = ((firsts (eqR g r) g.length).length : Int) ∧ r ≤ (firsts (eqR g r) g.length).length)) →
    ∃ cl' R, Ev (fun k => spec_l1Classes.l0 k g.length cl count (r : Int) g) cl' ∧ ClassOf g.length (eqR g R) cl' ∧ Stable g R := by
  have hn := vg_len hv
  intro d
  induction d with
  | zero =>
    intro r cl count hd hr hcl hcnt
    have := firsts_len (eqR g r) g.length
    rcases hcnt with h | ⟨_, _, h⟩ <;> omega
  | succ d ih =>
    intro r cl count hd hr hcl hcnt
    have hE := eqR_eqv g (r + 1)
    obtain ⟨nx, hnx, hloop⟩ := l1_ev hv hs hcl count g.length 0 (List.replicate g.length 0) (by omega) (Nat.zero_le _) ⟨List.length_replicate, fun j hj => by omega⟩
    have hcl' := next_class hE hnx
    have hfl := firsts_len (eqR g (r + 1)) g.length
    have start : ∀ q, Ev (fun k => if ((firsts (eqR g (r + 1)) g.length).length : Int) = count then (if (r : Int) > 0 then some nx else spec_l1Classes.l0 k g.length nx ((firsts (eqR g (r + 1)) g.length).length : Int) ((r + 1 : Nat) : Int) g) else spec_l1Classes.l0 k g.length nx ((firsts (eqR g (r + 1)) g.length).length : Int) ((r + 1 : Nat) : Int) g) q → Ev (fun k => spec_l1Classes.l0 k g.length cl count (r : Int) g) q := fun q hq => by
      refine Ev.shift ?_
      simp only [spec_l1Classes.l0, if_pos (show (r : Int) ≤ (g.length : Int) by omega), if_pos (show (0 : Int) ≤ (g.length : Int) by omega), Int.toNat_natCast, if_pos (show g.length ≤ 35184372088832 by omega)]
      refine hloop q (Ev.shift ?_)
      simp only [spec_l1Classes.l1, if_neg (show ¬ (g.length : Int) < (g.length : Int) by omega), List.length_map, wrap_nat r (by omega)]
      exact hq
    have hsub := firsts_finer (E := eqR g r) (E' := eqR g (r + 1)) (fun x y h => (eqR_succ.1 h).1) g.length
    have hle := hsub.length_le
    by_cases hstop : 1 ≤ r ∧ ((firsts (eqR g (r + 1)) g.length).length : Int) = count
    · obtain ⟨h1, h2⟩ := hstop
      rcases hcnt with h | ⟨_, hc, _⟩
      · omega
      refine ⟨nx, r + 1, start nx ?_, hcl', ?_⟩
      · simp only [if_pos h2, if_pos (show (r : Int) > 0 by omega)]
        exact Ev.now _
      · intro x y hx hy h
        obtain ⟨e1, e2, e3⟩ := eqR_succ.1 h
        have hl := (locB_iff.1 e2).2.2
        refine eqR_succ.2 ⟨h, e2, fun i hi => ?_⟩
        exact firsts_stable (eqR_eqv g r) hE (fun x y h => (eqR_succ.1 h).1) g.length (by omega) _ _ (vg_kid hv hx hi).1 (vg_kid hv hy (by omega)).1 (e3 i hi)
    · obtain ⟨cl', R, h1, h2, h3⟩ := ih (r + 1) nx ((firsts (eqR g (r + 1)) g.length).length : Int) (by omega) (by omega) hcl' (.inr ⟨by omega, rfl, by
        rcases hcnt with rfl | ⟨hr1, hc, hrl⟩
        · have : (0 : Nat) ∈ firsts (eqR g (0 + 1)) g.length := firsts_mem.2 ⟨hn1, firstB_iff.2 (fun j hj => by omega)⟩
          have := List.length_pos_of_mem this
          omega
        · have : ¬ ((firsts (eqR g (r + 1)) g.length).length : Int) = count := fun e => hstop ⟨hr1, e⟩
          omega⟩)
      refine ⟨cl', R, start cl' ?_, h2, h3⟩
      by_cases hc : ((firsts (eqR g (r + 1)) g.length).length : Int) = count
      · have hr0 : r = 0 := by
          rcases Nat.eq_zero_or_pos r with h | h
          · exact h
          · exact absurd ⟨h, hc⟩ hstop
        simp only [if_pos hc, if_neg (show ¬ (r : Int) > 0 by omega)]
        exact h1
      · simp only [if_neg hc]
        exact h1
theorem specClasses {g : NdG} (hv : vgB g = true) (hs : ∀ x ∈ g, smNode' x) (hn1 : 0 < g.length) : ∃ cl R, Ev (fun k => spec_l1Classes.f k g) cl ∧ ClassOf g.length (eqR g R) cl ∧ Stable g R := by
  have hn := vg_len hv
  obtain ⟨cl, R, h1, h2, h3⟩ := l0_ev hv hs hn1 (g.length + 1) 0 (List.replicate g.length 0) 1 (by omega) (by omega) ⟨List.length_replicate, fun i j hi hj => by
    have e : ∀ i, i < g.length → rd (List.replicate g.length (0 : Int)) (i : Int) = 0 := fun i hi => by
      unfold rd
      rw [Int.toNat_natCast, List.getD_eq_getElem?_getD, List.getElem?_replicate_of_lt hi]
      rfl
    rw [e i hi, e j hj]
    exact ⟨fun _ => rfl, fun _ => rfl⟩⟩ (.inl rfl)
  refine ⟨cl, R, ?_, h2, h3⟩
  unfold spec_l1Classes.f
  simp only [if_pos (show (0 : Int) ≤ (g.length : Int) by omega), Int.toNat_natCast, if_pos (show g.length ≤ 35184372088832 by omega)]
  exact h1
end Go.Proofs.YtnbohlcibgfjaaaDoor.Gp
end
section
namespace Go.Proofs.YtnbohlcibgfjaaaDoor.Gp
open Go.RowKit Go.Proofs.YtnbohlcibgfjaaaDoorW.PrintWords
theorem nodup_bound : ∀ (N : Nat) (l : List Nat), l.Nodup → (∀ x ∈ l, x < N) → l.length ≤ N
  | 0, l, _, h => by
    cases l with
    | nil => exact Nat.le_refl _
    | cons x r => exact absurd (h x List.mem_cons_self) (Nat.not_lt_zero _)
  | N + 1, l, hd, h => by
    by_cases hm : N ∈ l
    · have h1 := nodup_bound N (l.erase N) (hd.erase N) (fun x hx => by
        have h2 := (List.Nodup.mem_erase_iff hd).1 hx
        have := h x h2.2
        omega)
      rw [List.length_erase_of_mem hm] at h1
      omega
    · have h1 := nodup_bound N l hd (fun x hx => by
        have := h x hx
        have : x ≠ N := fun e => hm (e ▸ hx)
        omega)
      omega
def mkP (x y : Nat) : PrT := ⟨(x : Int), (y : Int), 0⟩
theorem mkP_inj {x y x' y' : Nat} (h : mkP x y = mkP x' y') : x = x' ∧ y = y' := by
  unfold mkP at h
  simp only [S141.mk.injEq] at h
  omega
/-- No pair twice; all pairs of the graph's nodes. -/
structure OkO (n : Nat) (o : List PrT) : Prop where
  nd : o.Nodup
  ok : ∀ q ∈ o, ∃ x y, q = mkP x y ∧ x < n ∧ y < n
theorem OkO.len {n : Nat} {o : List PrT} (h : OkO n o) : o.length ≤ n * n := by
  have h1 : (o.map (fun q => q.f0.toNat * n + q.f1.toNat)).length ≤ n * n := by
    apply nodup_bound
    · rw [List.Nodup, List.pairwise_map]
      refine List.Pairwise.imp_of_mem ?_ h.nd
      intro q r hq hr hne he
      obtain ⟨x, y, rfl, hx, hy⟩ := h.ok q hq
      obtain ⟨x', y', rfl, hx', hy'⟩ := h.ok r hr
      have e : x * n + y = x' * n + y' := by simpa [mkP] using he
      have e1 : x = x' := by
        have a1 : (x * n + y) / n = x := by rw [Nat.mul_comm, Nat.mul_add_div (by omega), Nat.div_eq_of_lt hy, Nat.add_zero]
        have a2 : (x' * n + y') / n = x' := by rw [Nat.mul_comm, Nat.mul_add_div (by omega), Nat.div_eq_of_lt hy', Nat.add_zero]
        rw [← a1, e, a2]
      subst e1
      exact hne (by rw [show y = y' by omega])
    · intro z hz
      obtain ⟨q, hq, rfl⟩ := List.mem_map.1 hz
      obtain ⟨x, y, rfl, hx, hy⟩ := h.ok q hq
      have : x * n + y < n * n := by
        have h2 : (x + 1) * n ≤ n * n := Nat.mul_le_mul_right _ hx
        rw [Nat.succ_mul] at h2
        omega
      simpa [mkP] using this
  rw [List.length_map] at h1
  exact h1
theorem OkO.add {n : Nat} {o : List PrT} (h : OkO n o) {x y : Nat} (hx : x < n) (hy : y < n) : OkO n (addP o (mkP x y)) := by
  by_cases hin : mkP x y ∈ o
  · rw [addP_in hin]; exact h
  · rw [addP_out hin]
    refine ⟨?_, fun q hq => ?_⟩
    · rw [List.nodup_append]
      exact ⟨h.nd, by simp, fun a ha b hb => by rw [List.mem_singleton.1 hb]; exact fun e => hin (e ▸ ha)⟩
    · rcases List.mem_append.1 hq with hq | hq
      · exact h.ok q hq
      · exact ⟨x, y, List.mem_singleton.1 hq, hx, hy⟩
theorem mem_addP {o : List PrT} {q r : PrT} : r ∈ addP o q ↔ r ∈ o ∨ r = q := by
  by_cases hin : q ∈ o
  · rw [addP_in hin]
    exact ⟨.inl, fun h => h.elim id (fun e => e ▸ hin)⟩
  · rw [addP_out hin, List.mem_append, List.mem_singleton]
theorem pre_addP (o : List PrT) (q : PrT) : o <+: addP o q := by
  by_cases hin : q ∈ o
  · rw [addP_in hin]; exact List.prefix_refl _
  · rw [addP_out hin]; exact List.prefix_append _ _
theorem mem_addAll : ∀ (L : List PrT) {o : List PrT} {r : PrT}, r ∈ L.foldl addP o ↔ r ∈ o ∨ r ∈ L
  | [], _, _ => by simp
  | q :: L, o, r => by
    rw [List.foldl_cons, mem_addAll L, mem_addP, List.mem_cons]
    exact ⟨fun h => h.elim (fun h => h.elim .inl (fun e => .inr (.inl e))) (fun h => .inr (.inr h)), fun h => h.elim (fun h => .inl (.inl h)) (fun h => h.elim (fun e => .inl (.inr e)) .inr)⟩
theorem pre_addAll : ∀ (L : List PrT) (o : List PrT), o <+: L.foldl addP o
  | [], _ => List.prefix_refl _
  | q :: L, o => (pre_addP o q).trans (pre_addAll L (addP o q))
theorem OkO.addAll {n : Nat} : ∀ (L : List PrT) {o : List PrT}, OkO n o → (∀ q ∈ L, ∃ x y, q = mkP x y ∧ x < n ∧ y < n) → OkO n (L.foldl addP o)
  | [], _, h, _ => h
  | q :: L, o, h, hL => by
    obtain ⟨x, y, rfl, hx, hy⟩ := hL q List.mem_cons_self
    exact OkO.addAll L (h.add hx hy) (fun r hr => hL r (List.mem_cons_of_mem _ hr))
theorem pre_getD {o o' : List PrT} (h : o <+: o') {j : Nat} (hj : j < o.length) : o'.getD j z141 = o.getD j z141 := by
  obtain ⟨t, rfl⟩ := h
  rw [List.getD_eq_getElem?_getD, List.getElem?_append_left hj, ← List.getD_eq_getElem?_getD]
theorem getD_pr {o : List PrT} {j : Nat} (hj : j < o.length) : o.getD j z141 ∈ o := by
  rw [List.getD_eq_getElem?_getD, List.getElem?_eq_getElem hj]
  exact List.getElem_mem hj
/-- The search through pairs, where the step is known: it says whether every pair that is come to is well. -/
theorem all_search {n : Nat} (hn : n ≤ 4000) (st : Nat → PrT → List PrT → Option (Bool × List PrT)) (good : Nat → Nat → Bool) (dem : Nat → Nat → List PrT)
    (hdem : ∀ x y, x < n → y < n → good x y = true → ∀ q ∈ dem x y, ∃ x' y', q = mkP x' y' ∧ x' < n ∧ y' < n)
    (hst : ∀ x y o, x < n → y < n → OkO n o → mkP x y ∈ o → if good x y = true then Ev (fun k => st k (mkP x y) o) (true, (dem x y).foldl addP o) else ∃ o', Ev (fun k => st k (mkP x y) o) (false, o'))
    (T : Bool) (S : Nat → Nat → Prop) (hS : T = true → ∀ x y, x < n → y < n → S x y → good x y = true ∧ ∀ x' y', mkP x' y' ∈ dem x y → S x' y')
    (a b : Nat)
    (hT : ∀ o, OkO n o → mkP a b ∈ o → (∀ x y, mkP x y ∈ o → good x y = true ∧ ∀ q ∈ dem x y, q ∈ o) → T = true) :
    ∀ (d i : Nat) (o : List PrT), n * n - i = d → i ≤ o.length → OkO n o → mkP a b ∈ o → (∀ j, j < i → ∀ x y, o.getD j z141 = mkP x y → good x y = true ∧ ∀ q ∈ dem x y, q ∈ o) → (T = true → ∀ x y, mkP x y ∈ o → S x y) →
      Ev (fun k => all_l st k o i) T := by
  have hnn : n * n ≤ 4000 * 4000 := Nat.mul_le_mul hn hn
  have fin : ∀ (i : Nat) (o : List PrT), i = o.length → OkO n o → mkP a b ∈ o → (∀ j, j < i → ∀ x y, o.getD j z141 = mkP x y → good x y = true ∧ ∀ q ∈ dem x y, q ∈ o) → Ev (fun k => all_l st k o i) T := by
    rintro i o rfl hO hab hcl
    have hlen := hO.len
    have : T = true := hT o hO hab (fun x y hm => by
      obtain ⟨j, hj, hjx⟩ := List.getElem_of_mem hm
      exact hcl j hj x y (by rw [List.getD_eq_getElem?_getD, List.getElem?_eq_getElem hj]; exact hjx))
    rw [this]
    refine Ev.shift ?_
    simp only [all_l, if_pos (show o.length < 1099511627776 by omega), if_neg (Nat.lt_irrefl _)]
    exact Ev.now _
  intro d
  induction d with
  | zero =>
    intro i o hd hi hO hab hcl _
    have hlen := hO.len
    exact fin i o (by omega) hO hab hcl
  | succ d ih =>
    intro i o hd hi hO hab hcl hSo
    have hlen := hO.len
    by_cases hlt : i < o.length
    case neg => exact fin i o (by omega) hO hab hcl
    have hmem := getD_pr hlt
    obtain ⟨x, y, hq, hx, hy⟩ := hO.ok _ hmem
    have hrd : rd_T141 o (i : Int) = mkP x y := hq
    rw [hq] at hmem
    have hst1 := hst x y o hx hy hO hmem
    refine Ev.shift ?_
    simp only [all_l, if_pos (show o.length < 1099511627776 by omega), if_pos hlt, hrd]
    cases hg : good x y with
    | true =>
      rw [if_pos hg] at hst1
      refine Ev.bind hst1 ?_
      simp only [if_true]
      have hpre := pre_addAll (dem x y) o
      refine ih (i + 1) _ (by omega) (by have := hpre.length_le; omega) (OkO.addAll _ hO (hdem x y hx hy hg)) (mem_addAll _ |>.2 (.inl hab)) (fun j hj x' y' he => ?_) (fun hTt x' y' hm => ?_)
      · rcases Nat.lt_succ_iff_lt_or_eq.1 hj with hj' | rfl
        · rw [pre_getD hpre (by omega)] at he
          obtain ⟨h1, h2⟩ := hcl j hj' x' y' he
          exact ⟨h1, fun q hq => (mem_addAll _).2 (.inl (h2 q hq))⟩
        · rw [pre_getD hpre hlt, hq] at he
          obtain ⟨rfl, rfl⟩ := mkP_inj he
          exact ⟨hg, fun q hq => (mem_addAll _).2 (.inr hq)⟩
      · rcases (mem_addAll _).1 hm with hm | hm
        · exact hSo hTt x' y' hm
        · exact (hS hTt x y hx hy (hSo hTt x y hmem)).2 x' y' hm
    | false =>
      rw [if_neg (by rw [hg]; simp)] at hst1
      obtain ⟨o', ho'⟩ := hst1
      have : T = false := by
        cases hTt : T with
        | false => rfl
        | true =>
          have := (hS hTt x y hx hy (hSo hTt x y hmem)).1
          rw [hg] at this
          cases this
      rw [this]
      refine Ev.bind ho' ?_
      simp only [Bool.false_eq_true, if_false]
      exact Ev.now _
end Go.Proofs.YtnbohlcibgfjaaaDoor.Gp
end
