/- A part of the proof of RowFnExactValidTable: each text's theorems that it needs, packed by shake.py, a program of this work; Lean checks them. -/
import Derived.Test.YtiicaoiijhodkaaDoorVt2
import Derived.Test.YtiicaoiijhodkaaDoorVt19
import Derived.KernelRfl
import Derived.Test.YtiicaoiijhodkaaDoorVt3
import Derived.Test.YtiicaoiijhodkaaDoorVt7
import Derived.Test.YtiicaoiijhodkaaDoorVt14
import Derived.Test.YtiicaoiijhodkaaDoorVt5
import Derived.Test.YtiicaoiijhodkaaDoorVt8
import Derived.Test.YtiicaoiijhodkaaDoorVt18
import Derived.Test.YtiicaoiijhodkaaDoorVt15
import Derived.Test.YtiicaoiijhodkaaDoorVt16
import Derived.Test.YtiicaoiijhodkaaDoorVt6
import Derived.Test.YtiicaoiijhodkaaDoorVt4
import Derived.Test.YtiicaoiijhodkaaDoorVt13
import Derived.Test.YtiicaoiijhodkaaDoorVt9
import Derived.Test.YtiicaoiijhodkaaDoorVt12
import Derived.Test.YtiicaoiijhodkaaDoorVt10
import Derived.Test.YtiicaoiijhodkaaDoorVt11
section
namespace Go.Proofs.YtiicaoiijhodkaaDoor.Gp
open Go.RowKit Go.Proofs.YtiicaoiijhodkaaDoorW.PrintWords
def q99 (x : S99) : Prop := ((Lit.int .i64 x.f0).wf = true) ∧ (x.f1.size ≤ maxLen)
theorem opn99 : Opn Tryd.prog 99 k99 q99 := Opn.iso (Opn.struct Tryd.underlying99 (OpnF.cons (Opn.int Tryd.underlying3 (by kernel_rfl)) rfl (OpnF.one (Opn.string Tryd.underlying9 (by kernel_rfl)) rfl)) (by kernel_rfl)) _ (fun p => (⟨p.1, p.2⟩ : S99)) (fun _ => rfl)
def q102 (x : S102) : Prop := (q99 x.f0) ∧ (True) ∧ (x.f2.size ≤ maxLen) ∧ ((x.f3.length ≤ maxLen ∧ ∀ y_ ∈ x.f3, q99 y_)) ∧ ((Lit.int .i64 x.f4).wf = true) ∧ ((Lit.int .i64 x.f5).wf = true) ∧ ((Lit.int .i64 x.f6).wf = true) ∧ ((Lit.int .i64 x.f7).wf = true)
theorem opn102 : Opn Tryd.prog 102 k102 q102 := Opn.iso (Opn.struct Tryd.underlying102 (OpnF.cons opn99 rfl (OpnF.cons (Opn.bool Tryd.underlying4 (by kernel_rfl)) rfl (OpnF.cons (Opn.string Tryd.underlying9 (by kernel_rfl)) rfl (OpnF.cons (Opn.slice opn99 Tryd.underlying100 (by kernel_rfl)) rfl (OpnF.cons (Opn.int Tryd.underlying3 (by kernel_rfl)) rfl (OpnF.cons (Opn.int Tryd.underlying3 (by kernel_rfl)) rfl (OpnF.cons (Opn.int Tryd.underlying3 (by kernel_rfl)) rfl (OpnF.one (Opn.int Tryd.underlying3 (by kernel_rfl)) rfl)))))))) (by kernel_rfl)) _ (fun p => (⟨p.1, p.2.1, p.2.2.1, p.2.2.2.1, p.2.2.2.2.1, p.2.2.2.2.2.1, p.2.2.2.2.2.2.1, p.2.2.2.2.2.2.2⟩ : S102)) (fun _ => rfl)
end Go.Proofs.YtiicaoiijhodkaaDoor.Gp
end
section
namespace Go.Proofs.YtiicaoiijhodkaaDoor.Gp
open Go.RowKit Go.Proofs.YtiicaoiijhodkaaDoorW.PrintWords
theorem szKey_ev (x : S99) (left : Int) (h0 : 0 ≤ left) (h1 : left ≤ 1048576) (hq : q99 x) :
    ∃ t, laws_szKey.f x.f0 x.f1 left = some t ∧ (t < 0 ∨ (0 ≤ t ∧ t ≤ left ∧ x.f1.size ≤ 1048576)) := by
  have hz := hq.2
  unfold maxLen at hz
  unfold laws_szKey.f
  have e1 : wrap64 (left - (x.f1.size : Int)) = left - x.f1.size := by unfold wrap64; omega
  rw [e1]
  by_cases c1 : left - (x.f1.size : Int) < 0
  · rw [if_pos c1]
    exact ⟨-1, rfl, .inl (by omega)⟩
  rw [if_neg c1]
  exact ⟨_, rfl, .inr ⟨by omega, by omega, by omega⟩⟩
theorem szKeyS_ev (l : List S99) (left : Int) (h0 : 0 ≤ left) (h1 : left ≤ 1048576) (hl : l.length ≤ maxLen) (hz : ∀ s ∈ l, q99 s) :
    ∃ t, Ev (fun k => laws_szKeyS.f k l left) t ∧ (t < 0 ∨ (0 ≤ t ∧ t ≤ left ∧ l.length ≤ 1048576 ∧ ∀ s ∈ l, s.f1.size ≤ 1048576)) := by
  unfold maxLen at hl
  unfold laws_szKeyS.f
  have e1 : wrap64 (left - (l.length : Int)) = left - l.length := by unfold wrap64; omega
  rw [e1]
  by_cases c1 : left - (l.length : Int) < 0
  · simp only [if_pos c1]
    exact ⟨-1, Ev.now _, .inl (by omega)⟩
  simp only [if_neg c1]
  obtain ⟨t, ht, hev⟩ := sz_loop z99 (fun _ s left => laws_szKey.f s.f0 s.f1 left) laws_szKeyS.l0 1048576 (fun _ _ _ _ => rfl) q99 (fun s => s.f1.size ≤ 1048576)
    (fun x left h0 h1 hq => by obtain ⟨t, ht, hc⟩ := szKey_ev x left h0 h1 hq; exact ⟨t, Ev.const ht, hc⟩) l (by omega) hz (left - (l.length : Int)) (by omega) (by omega)
  exact ⟨t, hev, ht.imp id (fun h => ⟨h.1, by omega, by omega, h.2.2⟩)⟩
def convKey (x : S99) : S84 := ⟨x.f0, x.f1⟩
theorem toKeyS_ev (l : List S99) (hl : l.length ≤ 1048576) : Ev (fun k => laws_toKeyS.f k l) (l.map convKey) := by
  unfold laws_toKeyS.f
  simp only [if_pos (show 0 ≤ (l.length : Int) by omega), Int.toNat_natCast, if_pos (show l.length ≤ 11728124029610 by omega)]
  exact to_loop z99 (fun _ s => laws_toKey.f s.f0 s.f1) (fun t => (⟨t.1, t.2⟩ : S84)) laws_toKeyS.l0 (fun _ _ _ _ => rfl) convKey l (fun x _ => ⟨(x.f0, x.f1), Ev.const rfl, rfl⟩) (by omega) _ (by simp)
theorem eqKey_self (x : S84) : laws_eqKey.f x.f0 x.f1 x.f0 x.f1 = some true := by
  unfold laws_eqKey.f
  simp
theorem eqKeyS_ev (l : List S84) (hl : l.length ≤ 1048576) : Ev (fun k => laws_eqKeyS.f k l l) true := by
  unfold laws_eqKeyS.f
  simp only [if_true]
  exact eq_loop z84 (fun _ x y => laws_eqKey.f x.f0 x.f1 y.f0 y.f1) laws_eqKeyS.l0 (fun _ _ _ _ => rfl) l (fun x _ => Ev.const (eqKey_self x)) (by omega)
theorem specKeyOk (x : S84) : Ev (fun k => spec_l4KeyOk.f k x.f0 x.f1) (kyB x) := by
  unfold spec_l4KeyOk.f kyB
  by_cases h1 : x.f0 = 1
  · simp only [if_pos h1]
    rw [decide_eq_true (by omega), Bool.true_and]
    exact Ev.bind (specGood _) (Ev.now _)
  simp only [if_neg h1]
  by_cases h2 : x.f0 = 2
  · simp only [if_pos h2]
    rw [decide_eq_true (by omega), Bool.true_and]
    exact Ev.bind (specGood _) (Ev.now _)
  simp only [if_neg h2]
  by_cases h3 : x.f0 = 3
  · simp only [if_pos h3]
    rw [decide_eq_true (by omega), Bool.true_and]
    exact Ev.bind (specGood _) (Ev.now _)
  simp only [if_neg h3]
  rw [decide_eq_false (by omega), Bool.false_and]
  exact Ev.now _
theorem specDepsOk (l : List S84) : Ev (fun k => spec_l4DepsOk.f k l) (decide (l.length ≤ 1000) && l.all kyB) := by
  unfold spec_l4DepsOk.f
  by_cases c : (l.length : Int) > 1000
  · simp only [if_pos c]
    rw [decide_eq_false (by omega), Bool.false_and]
    exact Ev.now _
  simp only [if_neg c]
  rw [decide_eq_true (by omega), Bool.true_and]
  refine cont_loop (fun k i => spec_l4DepsOk.l0 k l (i : Nat)) l.length (fun i => kyB (rd_T84 l i)) false (fun _ => some true) ?_ ?_ ?_ _ ?_ ?_
  · intro i hi ho r hr
    refine Ev.shift ?_
    simp only [spec_l4DepsOk.l0, if_pos (show (i : Int) < (l.length : Int) by omega), if_pos (show (0 : Int) ≤ (i : Int) by omega)]
    refine Ev.bind (specKeyOk _) ?_
    simp only [ho, if_true, wrap_nat i (by omega)]
    exact hr
  · intro i hi ho
    refine Ev.shift ?_
    simp only [spec_l4DepsOk.l0, if_pos (show (i : Int) < (l.length : Int) by omega), if_pos (show (0 : Int) ≤ (i : Int) by omega)]
    refine Ev.bind (specKeyOk _) ?_
    simp only [ho, Bool.false_eq_true, if_false]
    exact Ev.now _
  · intro r hr
    refine Ev.shift ?_
    simp only [spec_l4DepsOk.l0, if_neg (show ¬ (l.length : Int) < (l.length : Int) by omega)]
    exact hr
  · intro h
    rw [show l.all kyB = true from List.all_eq_true.2 (fun x hx => by
      obtain ⟨j, hj, rfl⟩ := List.getElem_of_mem hx
      have := h j hj
      unfold rd_T84 at this
      rw [Int.toNat_natCast, List.getD_eq_getElem?_getD, List.getElem?_eq_getElem hj] at this
      exact this)]
    exact Ev.now _
  · rintro ⟨i, hi, ho⟩
    rw [Bool.eq_false_iff]
    intro h
    rw [List.all_eq_true.1 h _ (rd_mem_ky l hi)] at ho
    cases ho
/-- One key is before another. -/
def keyLt (a b : S84) : Bool := if a.f0 = b.f0 then ltB a.f1 b.f1 else decide (a.f0 < b.f0)
theorem specKeyLess (a b : S84) (ha : a.f1.size < 9223372036854775807) : Ev (fun k => spec_l4KeyLess.f k a.f0 a.f1 b.f0 b.f1) (keyLt a b) := by
  unfold spec_l4KeyLess.f keyLt
  by_cases h : a.f0 = b.f0
  · simp only [if_pos h]
    exact Ev.bind (specLess _ _ ha) (Ev.now _)
  · simp only [if_neg h]
    exact Ev.now _
end Go.Proofs.YtiicaoiijhodkaaDoor.Gp
end
section
namespace Go.Proofs.YtiicaoiijhodkaaDoor.Gp
open Go.RowKit Go.Proofs.YtiicaoiijhodkaaDoorW.PrintWords
def smSlot (x : S102) : Prop := x.f0.f1.size ≤ 1048576 ∧ x.f2.size ≤ 1048576 ∧ x.f3.length ≤ 1048576 ∧ ∀ s ∈ x.f3, s.f1.size ≤ 1048576
theorem szSlot_ev (x : S102) (left : Int) (h0 : 0 ≤ left) (h1 : left ≤ 1048576) (hq : q102 x) :
    ∃ t, Ev (fun k => laws_szSlot.f k x.f0.f0 x.f0.f1 x.f1 x.f2 x.f3 x.f4 x.f5 x.f6 x.f7 left) t ∧ (t < 0 ∨ (0 ≤ t ∧ t ≤ left ∧ smSlot x)) := by
  obtain ⟨hk, _, hv, ⟨hl, hz⟩, _⟩ := hq
  unfold laws_szSlot.f
  obtain ⟨t, ht, hc⟩ := szKey_ev x.f0 left h0 h1 hk
  simp only [ht, Option.bind_some]
  by_cases c : t < 0
  · simp only [if_pos c]
    exact ⟨-1, Ev.now _, .inl (by omega)⟩
  obtain ⟨ht0, ht1, hs1⟩ := hc.resolve_left c
  simp only [if_neg c]
  unfold maxLen at hv
  have e1 : wrap64 (t - (x.f2.size : Int)) = t - x.f2.size := by unfold wrap64; omega
  rw [e1]
  by_cases c2 : t - (x.f2.size : Int) < 0
  · simp only [if_pos c2]
    exact ⟨-1, Ev.now _, .inl (by omega)⟩
  simp only [if_neg c2]
  obtain ⟨u, hu, hcu⟩ := szKeyS_ev x.f3 (t - (x.f2.size : Int)) (by omega) (by omega) hl hz
  by_cases cu : u < 0
  · refine ⟨-1, Ev.bind hu ?_, .inl (by omega)⟩
    simp only [if_pos cu]
    exact Ev.now _
  obtain ⟨hu0, hu1, hu2, hu3⟩ := hcu.resolve_left cu
  refine ⟨u, Ev.bind hu ?_, .inr ⟨hu0, by omega, hs1, by omega, hu2, hu3⟩⟩
  simp only [if_neg cu]
  exact Ev.now _
theorem szTable_ev (l : List S102) (left : Int) (h0 : 0 ≤ left) (h1 : left ≤ 1048576) (hl : l.length ≤ maxLen) (hz : ∀ s ∈ l, q102 s) :
    ∃ t, Ev (fun k => laws_szTable.f k l left) t ∧ (t < 0 ∨ (0 ≤ t ∧ t ≤ left ∧ l.length ≤ 1048576 ∧ ∀ s ∈ l, smSlot s)) := by
  unfold maxLen at hl
  unfold laws_szTable.f
  have main : ∃ t, Ev (fun k => laws_szSlotS.f k l left) t ∧ (t < 0 ∨ (0 ≤ t ∧ t ≤ left ∧ l.length ≤ 1048576 ∧ ∀ s ∈ l, smSlot s)) := by
    unfold laws_szSlotS.f
    have e1 : wrap64 (left - (l.length : Int)) = left - l.length := by unfold wrap64; omega
    rw [e1]
    by_cases c1 : left - (l.length : Int) < 0
    · simp only [if_pos c1]
      exact ⟨-1, Ev.now _, .inl (by omega)⟩
    simp only [if_neg c1]
    obtain ⟨t, ht, hev⟩ := sz_loop z102 (fun k s left => laws_szSlot.f k s.f0.f0 s.f0.f1 s.f1 s.f2 s.f3 s.f4 s.f5 s.f6 s.f7 left) laws_szSlotS.l0 1048576 (fun _ _ _ _ => rfl) q102 smSlot szSlot_ev l (by omega) hz (left - (l.length : Int)) (by omega) (by omega)
    exact ⟨t, hev, ht.imp id (fun h => ⟨h.1, by omega, by omega, h.2.2⟩)⟩
  obtain ⟨t, hev, ht⟩ := main
  by_cases c : t < 0
  · refine ⟨-1, Ev.bind hev ?_, .inl (by omega)⟩
    simp only [if_pos c]
    exact Ev.now _
  refine ⟨t, Ev.bind hev ?_, ht⟩
  simp only [if_neg c]
  exact Ev.now _
def convSlot (x : S102) : S87 := ⟨convKey x.f0, x.f1, x.f2, x.f3.map convKey, x.f4, x.f5, x.f6, x.f7⟩
theorem toTable_ev (l : List S102) (hl : l.length ≤ 1048576) (hs : ∀ s ∈ l, smSlot s) : Ev (fun k => laws_toTable.f k l) (l.map convSlot) := by
  unfold laws_toTable.f
  refine Ev.bind (a := l.map convSlot) ?_ (Ev.now _)
  unfold laws_toSlotS.f
  simp only [if_pos (show 0 ≤ (l.length : Int) by omega), Int.toNat_natCast, if_pos (show l.length ≤ 2706490160679 by omega)]
  refine to_loop z102 (fun k s => laws_toSlot.f k s.f0.f0 s.f0.f1 s.f1 s.f2 s.f3 s.f4 s.f5 s.f6 s.f7) (fun b => (⟨(⟨b.1, b.2.1⟩ : S84), b.2.2.1, b.2.2.2.1, b.2.2.2.2.1, b.2.2.2.2.2.1, b.2.2.2.2.2.2.1, b.2.2.2.2.2.2.2.1, b.2.2.2.2.2.2.2.2⟩ : S87)) laws_toSlotS.l0 (fun _ _ _ _ => rfl) convSlot l
    (fun x hx => ⟨(x.f0.f0, x.f0.f1, x.f1, x.f2, x.f3.map convKey, x.f4, x.f5, x.f6, x.f7), ?_, rfl⟩) (by omega) _ (by simp)
  unfold laws_toSlot.f laws_toKey.f
  simp only [Option.bind_some]
  exact Ev.bind (toKeyS_ev _ (hs x hx).2.2.1) (Ev.now _)
def smSlot' (x : S87) : Prop := x.f0.f1.size ≤ 1048576 ∧ x.f2.size ≤ 1048576 ∧ x.f3.length ≤ 1048576 ∧ ∀ s ∈ x.f3, s.f1.size ≤ 1048576
theorem smSlot_conv {l : List S102} (h : ∀ s ∈ l, smSlot s) : ∀ s ∈ l.map convSlot, smSlot' s := fun s hs => by
  obtain ⟨x, hx, rfl⟩ := List.mem_map.1 hs
  obtain ⟨h1, h2, h3, h4⟩ := h x hx
  refine ⟨h1, h2, by show (x.f3.map convKey).length ≤ _; rw [List.length_map]; exact h3, fun s hs => ?_⟩
  obtain ⟨y, hy, rfl⟩ := List.mem_map.1 hs
  exact h4 y hy
theorem eqSlot_ev (x : S87) (h : smSlot' x) : Ev (fun k => laws_eqSlot.f k x.f0.f0 x.f0.f1 x.f1 x.f2 x.f3 x.f4 x.f5 x.f6 x.f7 x.f0.f0 x.f0.f1 x.f1 x.f2 x.f3 x.f4 x.f5 x.f6 x.f7) true := by
  unfold laws_eqSlot.f
  simp only [eqKey_self, Option.bind_some, if_true, bne_self_eq_false, Bool.false_eq_true, if_false]
  refine Ev.bind (eqKeyS_ev _ h.2.2.1) ?_
  simp only [if_true]
  exact Ev.now _
theorem eqTable_ev (l : List S87) (hl : l.length ≤ 1048576) (h : ∀ s ∈ l, smSlot' s) : Ev (fun k => laws_eqTable.f k l l) true := by
  unfold laws_eqTable.f
  refine Ev.bind (a := true) ?_ (by simp only [if_true]; exact Ev.now _)
  unfold laws_eqSlotS.f
  simp only [if_true]
  exact eq_loop z87 (fun k x y => laws_eqSlot.f k x.f0.f0 x.f0.f1 x.f1 x.f2 x.f3 x.f4 x.f5 x.f6 x.f7 y.f0.f0 y.f0.f1 y.f1 y.f2 y.f3 y.f4 y.f5 y.f6 y.f7) laws_eqSlotS.l0 (fun _ _ _ _ => rfl) l (fun x hx => eqSlot_ev x (h x hx)) (by omega)
end Go.Proofs.YtiicaoiijhodkaaDoor.Gp
end
section
namespace Go.Proofs.YtiicaoiijhodkaaDoor.Gp
open Go.RowKit Go.Proofs.YtiicaoiijhodkaaDoorW.PrintWords
def heldB (s : S87) : Bool := decide (1 ≤ s.f6 ∧ s.f6 ≤ 16 ∧ 1 ≤ s.f7)
/-- A slot is valid. -/
def slB (s : S87) : Bool :=
  kyB s.f0 && (heldB s || decide (s.f6 = 0 ∧ s.f7 = 0)) && (if s.f1 = true then decide (1 ≤ s.f5 ∧ s.f5 ≤ s.f4 ∧ s.f3.length ≤ 1000) && s.f3.all kyB else heldB s && decide (s.f2.size = 0 ∧ s.f3.length = 0 ∧ s.f4 = 0 ∧ s.f5 = 0))
abbrev slotAt (t : List S87) (i : Nat) : S87 := rd_T87 t i
def slotOk (t : List S87) (i : Nat) : Bool := slB (slotAt t i) && (decide (i = 0) || keyLt (slotAt t (i - 1)).f0 (slotAt t i).f0)
/-- A table is valid. -/
def vtB (t : List S87) : Bool := decide (t.length ≤ 4096 ∧ ∀ i : Nat, i < t.length → slotOk t i = true)
theorem slotAt_mem (l : List S87) {k : Nat} (h : k < l.length) : slotAt l k ∈ l := by
  unfold slotAt rd_T87
  rw [Int.toNat_natCast, List.getD_eq_getElem?_getD, List.getElem?_eq_getElem h]
  exact List.getElem_mem h
theorem wrap_pred' (i : Nat) (h : 0 < i) (h2 : i < 9223372036854775807) : wrap64 ((i : Int) - 1) = ((i - 1 : Nat) : Int) := by unfold wrap64; omega
theorem tail_ev (s : S87) : Ev (fun k => if s.f1 = true then (if s.f5 ≥ 1 then (if s.f5 ≤ s.f4 then ((spec_l4DepsOk.f k s.f3).bind fun t304 => (some t304)) else (some false)) else (some false)) else (if heldB s = true then (if (s.f2.size : Int) = 0 then (if (s.f3.length : Int) = 0 then (if s.f4 = 0 then (some (s.f5 == 0)) else (some false)) else (some false)) else (some false)) else (some false)))
    (if s.f1 = true then decide (1 ≤ s.f5 ∧ s.f5 ≤ s.f4 ∧ s.f3.length ≤ 1000) && s.f3.all kyB else heldB s && decide (s.f2.size = 0 ∧ s.f3.length = 0 ∧ s.f4 = 0 ∧ s.f5 = 0)) := by
  cases hh : s.f1
  · simp only [Bool.false_eq_true, if_false]
    cases hb : heldB s
    · simp only [Bool.false_eq_true, if_false, Bool.false_and]
      exact Ev.now _
    simp only [if_true, Bool.true_and]
    by_cases h1 : s.f2.size = 0
    · simp only [if_pos (show (s.f2.size : Int) = 0 by omega)]
      by_cases h2 : s.f3.length = 0
      · simp only [if_pos (show (s.f3.length : Int) = 0 by omega)]
        by_cases h3 : s.f4 = 0
        · simp only [if_pos h3]
          refine Ev.const (congrArg some ?_)
          rw [Bool.eq_iff_iff, beq_iff_eq, decide_eq_true_iff]
          exact ⟨fun h => ⟨h1, h2, h3, h⟩, fun h => h.2.2.2⟩
        · simp only [if_neg h3]
          rw [decide_eq_false (fun h => h3 h.2.2.1)]
          exact Ev.now _
      · simp only [if_neg (show ¬ (s.f3.length : Int) = 0 by omega)]
        rw [decide_eq_false (fun h => h2 h.2.1)]
        exact Ev.now _
    · simp only [if_neg (show ¬ (s.f2.size : Int) = 0 by omega)]
      rw [decide_eq_false (fun h => h1 h.1)]
      exact Ev.now _
  · simp only [if_true]
    by_cases h1 : s.f5 ≥ 1
    · simp only [if_pos h1]
      by_cases h2 : s.f5 ≤ s.f4
      · simp only [if_pos h2]
        rw [show decide (1 ≤ s.f5 ∧ s.f5 ≤ s.f4 ∧ s.f3.length ≤ 1000) = decide (s.f3.length ≤ 1000) from decide_eq_decide.2 ⟨fun h => h.2.2, fun h => ⟨h1, h2, h⟩⟩]
        exact Ev.bind (specDepsOk _) (Ev.now _)
      · simp only [if_neg h2]
        rw [decide_eq_false (fun h => h2 h.2.1), Bool.false_and]
        exact Ev.now _
    · simp only [if_neg h1]
      rw [decide_eq_false (fun h => h1 h.1), Bool.false_and]
      exact Ev.now _
theorem specSlotOk (s : S87) : Ev (fun k => spec_l4SlotOk.f k s.f0.f0 s.f0.f1 s.f1 s.f2 s.f3 s.f4 s.f5 s.f6 s.f7) (slB s) := by
  unfold spec_l4SlotOk.f slB
  refine Ev.bind (specKeyOk s.f0) ?_
  cases hk : kyB s.f0
  · simp only [Bool.false_eq_true, if_false, Bool.false_and]
    exact Ev.now _
  simp only [if_true, Bool.true_and]
  have main : Ev (fun k => spec_l4SlotOk.j0 k (heldB s) s.f0.f0 s.f0.f1 s.f1 s.f2 s.f3 s.f4 s.f5 s.f6 s.f7) ((heldB s || decide (s.f6 = 0 ∧ s.f7 = 0)) && (if s.f1 = true then decide (1 ≤ s.f5 ∧ s.f5 ≤ s.f4 ∧ s.f3.length ≤ 1000) && s.f3.all kyB else heldB s && decide (s.f2.size = 0 ∧ s.f3.length = 0 ∧ s.f4 = 0 ∧ s.f5 = 0))) := by
    refine Ev.shift ?_
    have step : ∀ b : Bool, b = decide (s.f6 = 0 ∧ s.f7 = 0) → Ev (fun k => spec_l4SlotOk.j1 k (heldB s) b s.f0.f0 s.f0.f1 s.f1 s.f2 s.f3 s.f4 s.f5 s.f6 s.f7) ((heldB s || decide (s.f6 = 0 ∧ s.f7 = 0)) && (if s.f1 = true then decide (1 ≤ s.f5 ∧ s.f5 ≤ s.f4 ∧ s.f3.length ≤ 1000) && s.f3.all kyB else heldB s && decide (s.f2.size = 0 ∧ s.f3.length = 0 ∧ s.f4 = 0 ∧ s.f5 = 0))) := fun b hb => by
      rw [← hb]
      refine Ev.shift ?_
      simp only [spec_l4SlotOk.j1]
      have fin : ∀ c : Bool, Ev (fun k => spec_l4SlotOk.j2 k (heldB s) c s.f0.f0 s.f0.f1 s.f1 s.f2 s.f3 s.f4 s.f5 s.f6 s.f7) (if c = true then false else (if s.f1 = true then decide (1 ≤ s.f5 ∧ s.f5 ≤ s.f4 ∧ s.f3.length ≤ 1000) && s.f3.all kyB else heldB s && decide (s.f2.size = 0 ∧ s.f3.length = 0 ∧ s.f4 = 0 ∧ s.f5 = 0))) := fun c => by
        refine Ev.shift ?_
        simp only [spec_l4SlotOk.j2]
        cases c
        · simp only [Bool.false_eq_true, if_false]
          exact tail_ev s
        · simp only [if_true]
          exact Ev.now _
      cases hh : heldB s
      · rw [hh] at fin
        simp only [Bool.false_eq_true, if_false, Bool.false_or]
        have := fin (!b)
        cases b
        · exact this
        · exact this
      · rw [hh] at fin
        simp only [if_true, Bool.true_or, Bool.true_and]
        exact fin false
    simp only [spec_l4SlotOk.j0]
    by_cases h0 : s.f6 = 0
    · simp only [if_pos h0]
      refine step _ ?_
      rw [Bool.eq_iff_iff, beq_iff_eq, decide_eq_true_iff]
      exact ⟨fun h => ⟨h0, h⟩, fun h => h.2⟩
    · simp only [if_neg h0]
      exact step _ (decide_eq_false (fun h => h0 h.1)).symm
  by_cases h1 : s.f6 ≥ 1
  · simp only [if_pos h1]
    by_cases h2 : s.f6 ≤ 16
    · simp only [if_pos h2]
      rw [show decide (s.f7 ≥ 1) = heldB s from decide_eq_decide.2 ⟨fun h => ⟨h1, h2, h⟩, fun h => h.2.2⟩]
      exact main
    · simp only [if_neg h2]
      rw [show heldB s = false from decide_eq_false (fun h => h2 h.2.1)] at main ⊢
      exact main
  · simp only [if_neg h1]
    rw [show heldB s = false from decide_eq_false (fun h => h1 h.1)] at main ⊢
    exact main
theorem specValidTable (t : List S87) (hs : ∀ x ∈ t, smSlot' x) : Ev (fun k => spec_ValidTable.f k t) (vtB t) := by
  unfold spec_ValidTable.f vtB
  by_cases c : (t.length : Int) > 4096
  · simp only [if_pos c]
    rw [decide_eq_false (fun h => by omega)]
    exact Ev.now _
  simp only [if_neg c]
  refine cont_loop (fun k i => spec_ValidTable.l0 k (i : Nat) t) t.length (slotOk t) false (fun _ => some true) ?_ ?_ ?_ _ ?_ ?_
  · intro i hi ho r hr
    unfold slotOk at ho
    rw [Bool.and_eq_true] at ho
    have ho1 : slB (rd_T87 t (i : Int)) = true := ho.1
    refine Ev.shift ?_
    simp only [spec_ValidTable.l0, if_pos (show (i : Int) < (t.length : Int) by omega), if_pos (show (0 : Int) ≤ (i : Int) by omega)]
    refine Ev.bind (specSlotOk _) ?_
    simp only [ho1, if_true]
    by_cases h0 : i = 0
    · subst h0
      simp only [if_neg (show ¬ ((0 : Nat) : Int) > 0 by omega), wrap_nat 0 (by omega)]
      exact hr
    · have hlt := ho.2
      rw [decide_eq_false h0, Bool.false_or] at hlt
      simp only [if_pos (show (i : Int) > 0 by omega), wrap_pred' i (by omega) (by omega), if_pos (show (0 : Int) ≤ ((i - 1 : Nat) : Int) by omega), if_pos (show ((i - 1 : Nat) : Int) < (t.length : Int) by omega)]
      refine Ev.bind (specKeyLess _ _ (by have := (hs _ (slotAt_mem t (k := i - 1) (by omega))).1; unfold slotAt at this; omega)) ?_
      have hlt' : keyLt (rd_T87 t ((i - 1 : Nat) : Int)).f0 (rd_T87 t (i : Int)).f0 = true := hlt
      simp only [hlt', if_true, wrap_nat i (by omega)]
      exact hr
  · intro i hi ho
    unfold slotOk at ho
    refine Ev.shift ?_
    simp only [spec_ValidTable.l0, if_pos (show (i : Int) < (t.length : Int) by omega), if_pos (show (0 : Int) ≤ (i : Int) by omega)]
    refine Ev.bind (specSlotOk _) ?_
    cases hg : slB (rd_T87 t (i : Int))
    · simp only [Bool.false_eq_true, if_false]
      exact Ev.now _
    have hg' : slB (slotAt t i) = true := hg
    rw [hg', Bool.true_and, Bool.or_eq_false_iff] at ho
    have h0 : ¬ i = 0 := of_decide_eq_false ho.1
    simp only [if_true, if_pos (show (i : Int) > 0 by omega), wrap_pred' i (by omega) (by omega), if_pos (show (0 : Int) ≤ ((i - 1 : Nat) : Int) by omega), if_pos (show ((i - 1 : Nat) : Int) < (t.length : Int) by omega)]
    refine Ev.bind (specKeyLess _ _ (by have := (hs _ (slotAt_mem t (k := i - 1) (by omega))).1; unfold slotAt at this; omega)) ?_
    have hlt' : keyLt (rd_T87 t ((i - 1 : Nat) : Int)).f0 (rd_T87 t (i : Int)).f0 = false := ho.2
    simp only [hlt', Bool.false_eq_true, if_false]
    exact Ev.now _
  · intro r hr
    refine Ev.shift ?_
    simp only [spec_ValidTable.l0, if_neg (show ¬ (t.length : Int) < (t.length : Int) by omega)]
    exact hr
  · intro h
    rw [decide_eq_true ⟨by omega, h⟩]
    exact Ev.now _
  · rintro ⟨i, hi, ho⟩
    exact decide_eq_false (fun h => by rw [h.2 i hi] at ho; cases ho)
theorem implSlotValid (s : S87) : Ev (fun k => impl_Slot_valid.f k s.f0.f0 s.f0.f1 s.f1 s.f2 s.f3 s.f4 s.f5 s.f6 s.f7) (slB s) := by
  have empty : s.f2.toList = ([] : List UInt8) ↔ s.f2.size = 0 := by
    rw [Lib.toList_data, ← data_length, List.length_eq_zero_iff]
  have tail : Ev (fun _ => if s.f1 = true then (if s.f5 ≥ 1 then (if s.f5 ≤ s.f4 then (if (s.f3.length : Int) ≤ 1000 then ((slices_ContainsFunc_impl_Key_impl_Key_66.f s.f3).bind fun t358 => (some (!t358))) else (some false)) else (some false)) else (some false)) else (if heldB s = true then (if s.f2.toList = ([] : List UInt8) then (if (s.f3.length : Int) = 0 then (if s.f4 = 0 then (some (s.f5 == 0)) else (some false)) else (some false)) else (some false)) else (some false)))
      (if s.f1 = true then decide (1 ≤ s.f5 ∧ s.f5 ≤ s.f4 ∧ s.f3.length ≤ 1000) && s.f3.all kyB else heldB s && decide (s.f2.size = 0 ∧ s.f3.length = 0 ∧ s.f4 = 0 ∧ s.f5 = 0)) := by
    cases hh : s.f1
    · simp only [Bool.false_eq_true, if_false]
      cases hb : heldB s
      · simp only [Bool.false_eq_true, if_false, Bool.false_and]
        exact Ev.now _
      simp only [if_true, Bool.true_and]
      by_cases h1 : s.f2.size = 0
      · simp only [if_pos (empty.2 h1)]
        by_cases h2 : s.f3.length = 0
        · simp only [if_pos (show (s.f3.length : Int) = 0 by omega)]
          by_cases h3 : s.f4 = 0
          · simp only [if_pos h3]
            refine Ev.const (congrArg some ?_)
            rw [Bool.eq_iff_iff, beq_iff_eq, decide_eq_true_iff]
            exact ⟨fun h => ⟨h1, h2, h3, h⟩, fun h => h.2.2.2⟩
          · simp only [if_neg h3]
            rw [decide_eq_false (fun h => h3 h.2.2.1)]
            exact Ev.now _
        · simp only [if_neg (show ¬ (s.f3.length : Int) = 0 by omega)]
          rw [decide_eq_false (fun h => h2 h.2.1)]
          exact Ev.now _
      · simp only [if_neg (fun h => h1 (empty.1 h))]
        rw [decide_eq_false (fun h => h1 h.1)]
        exact Ev.now _
    · simp only [if_true]
      by_cases h1 : s.f5 ≥ 1
      · simp only [if_pos h1]
        by_cases h2 : s.f5 ≤ s.f4
        · simp only [if_pos h2]
          by_cases h3 : s.f3.length ≤ 1000
          · simp only [if_pos (show (s.f3.length : Int) ≤ 1000 by omega), slices_ContainsFunc_impl_Key_impl_Key_66.f, Option.bind_some]
            rw [decide_eq_true ⟨h1, h2, h3⟩, Bool.true_and]
            refine Ev.const (congrArg some ?_)
            rw [List.not_any_eq_all_not]
            simp
          · simp only [if_neg (show ¬ (s.f3.length : Int) ≤ 1000 by omega)]
            rw [decide_eq_false (fun h => h3 h.2.2), Bool.false_and]
            exact Ev.now _
        · simp only [if_neg h2]
          rw [decide_eq_false (fun h => h2 h.2.1), Bool.false_and]
          exact Ev.now _
      · simp only [if_neg h1]
        rw [decide_eq_false (fun h => h1 h.1), Bool.false_and]
        exact Ev.now _
  have fin : ∀ c : Bool, Ev (fun k => impl_Slot_valid.j1 k (heldB s) c s.f0.f0 s.f0.f1 s.f1 s.f2 s.f3 s.f4 s.f5 s.f6 s.f7) (if c = true then false else (if s.f1 = true then decide (1 ≤ s.f5 ∧ s.f5 ≤ s.f4 ∧ s.f3.length ≤ 1000) && s.f3.all kyB else heldB s && decide (s.f2.size = 0 ∧ s.f3.length = 0 ∧ s.f4 = 0 ∧ s.f5 = 0))) := fun c => by
    refine Ev.shift ?_
    simp only [impl_Slot_valid.j1]
    cases c
    · simp only [Bool.false_eq_true, if_false]
      exact tail
    · simp only [if_true]
      exact Ev.now _
  have main : Ev (fun k => impl_Slot_valid.j0 k (heldB s) s.f0.f0 s.f0.f1 s.f1 s.f2 s.f3 s.f4 s.f5 s.f6 s.f7) (slB s) := by
    refine Ev.shift ?_
    simp only [impl_Slot_valid.j0, keyValid_f, Option.bind_some]
    unfold slB
    cases hk : kyB s.f0
    · simp only [Bool.false_eq_true, if_false, Bool.false_and]
      exact fin true
    simp only [if_true, Bool.true_and]
    cases hh : heldB s
    · rw [hh] at fin
      simp only [Bool.false_eq_true, if_false, Bool.false_or]
      by_cases h0 : s.f6 = 0
      · simp only [if_pos h0]
        by_cases h7 : s.f7 = 0
        · have e7 : (s.f7 != 0) = false := by simp [h7]
          rw [decide_eq_true ⟨h0, h7⟩, Bool.true_and, e7]
          exact fin false
        · rw [decide_eq_false (fun h => h7 h.2), Bool.false_and, show (s.f7 != 0) = true from bne_iff_ne.2 h7]
          exact fin true
      · simp only [if_neg h0]
        rw [decide_eq_false (fun h => h0 h.1), Bool.false_and]
        exact fin true
    · rw [hh] at fin
      simp only [if_true, Bool.true_or, Bool.true_and]
      exact fin false
  unfold impl_Slot_valid.f
  by_cases h1 : s.f6 ≥ 1
  · simp only [if_pos h1]
    by_cases h2 : s.f6 ≤ 16
    · simp only [if_pos h2]
      rw [show decide (s.f7 ≥ 1) = heldB s from decide_eq_decide.2 ⟨fun h => ⟨h1, h2, h⟩, fun h => h.2.2⟩]
      exact main
    · simp only [if_neg h2]
      rw [show heldB s = false from decide_eq_false (fun h => h2 h.2.1)] at main
      exact main
  · simp only [if_neg h1]
    rw [show heldB s = false from decide_eq_false (fun h => h1 h.1)] at main
    exact main
/-- What compareKeys answers. -/
def cmpK (a b : S84) : Int := if a.f0 < b.f0 then -1 else if a.f0 > b.f0 then 1 else if ltB a.f1 b.f1 = true then -1 else if ltB b.f1 a.f1 = true then 1 else 0
theorem or2 (x y : Int) : Ev (fun k => cmp_Or_int.f k [x, y]) (if x = 0 then y else x) := by
  refine Ev.shift (Ev.shift (Ev.shift ?_))
  by_cases h : x = 0
  · by_cases h2 : y = 0
    · simp [cmp_Or_int.f, cmp_Or_int.l0, rd, wrap64, h, h2]
      exact Ev.now _
    · simp [cmp_Or_int.f, cmp_Or_int.l0, rd, wrap64, h, h2]
      exact Ev.now _
  · simp [cmp_Or_int.f, cmp_Or_int.l0, rd, h]
    exact Ev.now _
theorem implCompareKeys (a b : S84) : Ev (fun k => impl_compareKeys.f k a.f0 a.f1 b.f0 b.f1) (cmpK a b) := by
  have e1 : cmp_Compare_int.f a.f0 b.f0 = some (if a.f0 < b.f0 then -1 else if a.f0 > b.f0 then 1 else 0) := by
    unfold cmp_Compare_int.f cmp_isNaN_int.f
    simp only [bne_self_eq_false, Option.bind_some, Bool.false_eq_true, if_false]
    split
    · rfl
    · split <;> rfl
  have e2 : cmp_Compare_string.f a.f1 b.f1 = some (if ltB a.f1 b.f1 = true then -1 else if ltB b.f1 a.f1 = true then 1 else 0) := by
    unfold cmp_Compare_string.f ltB
    rw [Lib.toList_data, Lib.toList_data]
  unfold impl_compareKeys.f
  simp only [e1, e2, Option.bind_some]
  refine Ev.bind (or2 _ _) ?_
  refine Ev.const (congrArg some ?_)
  unfold cmpK
  by_cases h1 : a.f0 < b.f0
  · simp [h1]
  · by_cases h2 : a.f0 > b.f0
    · simp [h1, h2]
    · simp [h1, h2]
theorem cmpK_lt (a b : S84) : (cmpK a b ≥ 0) ↔ keyLt a b = false := by
  unfold cmpK keyLt
  by_cases h1 : a.f0 < b.f0
  · rw [if_pos h1, if_neg (by omega), decide_eq_true h1]
    simp
  rw [if_neg h1]
  by_cases h2 : a.f0 > b.f0
  · rw [if_pos h2, if_neg (by omega), decide_eq_false h1]
    simp
  have he : a.f0 = b.f0 := by omega
  rw [if_neg h2, decide_eq_false h1, he]
  cases h3 : ltB a.f1 b.f1
  · cases h4 : ltB b.f1 a.f1 <;> simp
  · simp
theorem implValidTable (t : List S87) : Ev (fun k => impl_ValidTable.f k t) (vtB t) := by
  unfold impl_ValidTable.f vtB
  by_cases c : (t.length : Int) > 4096
  · simp only [if_pos c]
    rw [decide_eq_false (fun h => by omega)]
    exact Ev.now _
  simp only [if_neg c]
  refine cont_loop (fun k i => impl_ValidTable.l0 k t (t.length : Int) (i : Nat) t) t.length (slotOk t) false (fun _ => some true) ?_ ?_ ?_ _ ?_ ?_
  · intro i hi ho r hr
    unfold slotOk at ho
    rw [Bool.and_eq_true] at ho
    have ho1 : slB (rd_T87 t (i : Int)) = true := ho.1
    refine Ev.shift ?_
    simp only [impl_ValidTable.l0, if_pos (show (i : Int) < (t.length : Int) by omega), if_pos (show (0 : Int) ≤ (i : Int) by omega)]
    refine Ev.bind (implSlotValid _) ?_
    simp only [ho1, if_true]
    by_cases h0 : i = 0
    · subst h0
      simp only [if_neg (show ¬ ((0 : Nat) : Int) > 0 by omega), wrap_nat 0 (by omega)]
      exact hr
    · have hlt := ho.2
      rw [decide_eq_false h0, Bool.false_or] at hlt
      simp only [if_pos (show (i : Int) > 0 by omega), wrap_pred' i (by omega) (by omega), if_pos (show (0 : Int) ≤ ((i - 1 : Nat) : Int) by omega), if_pos (show ((i - 1 : Nat) : Int) < (t.length : Int) by omega)]
      refine Ev.bind (implCompareKeys _ _) ?_
      have hlt' : ¬ cmpK (rd_T87 t ((i - 1 : Nat) : Int)).f0 (rd_T87 t (i : Int)).f0 ≥ 0 := fun h => by
        have h2 : keyLt (rd_T87 t ((i - 1 : Nat) : Int)).f0 (rd_T87 t (i : Int)).f0 = true := hlt
        rw [(cmpK_lt _ _).1 h] at h2
        cases h2
      simp only [if_neg hlt', wrap_nat i (by omega)]
      exact hr
  · intro i hi ho
    unfold slotOk at ho
    refine Ev.shift ?_
    simp only [impl_ValidTable.l0, if_pos (show (i : Int) < (t.length : Int) by omega), if_pos (show (0 : Int) ≤ (i : Int) by omega)]
    refine Ev.bind (implSlotValid _) ?_
    cases hg : slB (rd_T87 t (i : Int))
    · simp only [Bool.false_eq_true, if_false]
      exact Ev.now _
    have hg' : slB (slotAt t i) = true := hg
    rw [hg', Bool.true_and, Bool.or_eq_false_iff] at ho
    have h0 : ¬ i = 0 := of_decide_eq_false ho.1
    simp only [if_true, if_pos (show (i : Int) > 0 by omega), wrap_pred' i (by omega) (by omega), if_pos (show (0 : Int) ≤ ((i - 1 : Nat) : Int) by omega), if_pos (show ((i - 1 : Nat) : Int) < (t.length : Int) by omega)]
    refine Ev.bind (implCompareKeys _ _) ?_
    have hlt' : cmpK (rd_T87 t ((i - 1 : Nat) : Int)).f0 (rd_T87 t (i : Int)).f0 ≥ 0 := (cmpK_lt _ _).2 ho.2
    simp only [if_pos hlt']
    exact Ev.now _
  · intro r hr
    refine Ev.shift ?_
    simp only [impl_ValidTable.l0, if_neg (show ¬ (t.length : Int) < (t.length : Int) by omega)]
    exact hr
  · intro h
    rw [decide_eq_true ⟨by omega, h⟩]
    exact Ev.now _
  · rintro ⟨i, hi, ho⟩
    exact decide_eq_false (fun h => by rw [h.2 i hi] at ho; cases ho)
/-- The law's plain function answers true. -/
theorem validTable_true (l : List S102) (hl : l.length ≤ maxLen) (hz : ∀ s ∈ l, q102 s) : Ev (fun k => laws_FnExactValidTable.f k l) true := by
  unfold laws_FnExactValidTable.f
  obtain ⟨t, hev, ht⟩ := szTable_ev l 1048576 (by omega) (by omega) hl hz
  refine Ev.bind hev ?_
  by_cases c : t < 0
  · simp only [if_pos c]
    exact Ev.now _
  simp only [if_neg c]
  obtain ⟨_, _, hl1, hz1⟩ := ht.resolve_left c
  have hto := toTable_ev l hl1 hz1
  have hs := smSlot_conv hz1
  refine Ev.bind hto (Ev.bind (specValidTable _ hs) (Ev.bind hto (Ev.bind (implValidTable _) ?_)))
  simp only [bne_self_eq_false, Bool.false_eq_true, if_false]
  refine Ev.bind hto (Ev.bind (eqTable_ev _ (by simpa using hl1) hs) ?_)
  simp only [if_true]
  exact Ev.now _
end Go.Proofs.YtiicaoiijhodkaaDoor.Gp
end
