/- A part of the proof of RowFnExactClaim: each text's theorems that it needs, packed by shake.py, a program of this work; Lean checks them. -/
import Derived.Test.YtnbohlcibgfjaaaDoorClm3
import Derived.Test.YtnbohlcibgfjaaaDoorClm27
import Derived.KernelRfl
import Derived.Test.YtnbohlcibgfjaaaDoorClm4
import Derived.Test.YtnbohlcibgfjaaaDoorClm5
import Derived.Test.YtnbohlcibgfjaaaDoorClm9
import Derived.Test.YtnbohlcibgfjaaaDoorClm10
import Derived.Test.YtnbohlcibgfjaaaDoorClm15
import Derived.Test.YtnbohlcibgfjaaaDoorClm26
import Derived.Test.YtnbohlcibgfjaaaDoorClm6
import Derived.Test.YtnbohlcibgfjaaaDoorClm11
import Derived.Test.YtnbohlcibgfjaaaDoorClm19
import Derived.Test.YtnbohlcibgfjaaaDoorClm16
import Derived.Test.YtnbohlcibgfjaaaDoorClm18
import Derived.Test.YtnbohlcibgfjaaaDoorClm17
import Derived.Test.YtnbohlcibgfjaaaDoorClm12
import Derived.Test.YtnbohlcibgfjaaaDoorClm20
import Derived.Test.YtnbohlcibgfjaaaDoorClm22
import Derived.Test.YtnbohlcibgfjaaaDoorClm13
import Derived.Test.YtnbohlcibgfjaaaDoorClm7
section
namespace Go.Proofs.YtnbohlcibgfjaaaDoor.Gp
open Go.RowKit Go.Proofs.YtnbohlcibgfjaaaDoorW.PrintWords
def q26 (x : S26) : Prop := ((Lit.int .i64 x.f0).wf = true) ∧ (x.f1.size ≤ maxLen)
theorem opn26 : Opn Tryd.prog 26 k26 q26 := Opn.iso (Opn.struct Tryd.underlying26 (OpnF.cons (Opn.int Tryd.underlying3 (by kernel_rfl)) rfl (OpnF.one (Opn.string Tryd.underlying9 (by kernel_rfl)) rfl)) (by kernel_rfl)) _ (fun p => (⟨p.1, p.2⟩ : S26)) (fun _ => rfl)
def q154 (x : S154) : Prop := (q26 x.f0) ∧ (True) ∧ (x.f2.size ≤ maxLen) ∧ ((x.f3.length ≤ maxLen ∧ ∀ y_ ∈ x.f3, q26 y_)) ∧ ((Lit.int .i64 x.f4).wf = true) ∧ ((Lit.int .i64 x.f5).wf = true) ∧ ((Lit.int .i64 x.f6).wf = true) ∧ ((Lit.int .i64 x.f7).wf = true)
theorem opn154 : Opn Tryd.prog 154 k154 q154 := Opn.iso (Opn.struct Tryd.underlying154 (OpnF.cons opn26 rfl (OpnF.cons (Opn.bool Tryd.underlying4 (by kernel_rfl)) rfl (OpnF.cons (Opn.string Tryd.underlying9 (by kernel_rfl)) rfl (OpnF.cons (Opn.slice opn26 Tryd.underlying56 (by kernel_rfl)) rfl (OpnF.cons (Opn.int Tryd.underlying3 (by kernel_rfl)) rfl (OpnF.cons (Opn.int Tryd.underlying3 (by kernel_rfl)) rfl (OpnF.cons (Opn.int Tryd.underlying3 (by kernel_rfl)) rfl (OpnF.one (Opn.int Tryd.underlying3 (by kernel_rfl)) rfl)))))))) (by kernel_rfl)) _ (fun p => (⟨p.1, p.2.1, p.2.2.1, p.2.2.2.1, p.2.2.2.2.1, p.2.2.2.2.2.1, p.2.2.2.2.2.2.1, p.2.2.2.2.2.2.2⟩ : S154)) (fun _ => rfl)
theorem szKey_ev (x : S26) (left : Int) (h0 : 0 ≤ left) (h1 : left ≤ 1048576) (hq : q26 x) :
 ∃ t, laws_szKey.f x.f0 x.f1 left = some t ∧ (t < 0 ∨ (0 ≤ t ∧ t ≤ left ∧ x.f1.size ≤ 1048576)) := by
 have hz := hq.2
 unfold maxLen at hz
 unfold laws_szKey.f
 have e1 : wrap64 (left - (x.f1.size : Int)) = left - x.f1.size := by unfold wrap64; omega
 rw [e1]
 by_cases c1 : left - (x.f1.size : Int) < 0
 · rw [if_pos c1]
   exact ⟨-1, rfl, .inl (by omega)⟩
 rw [if_neg c1]
 exact ⟨_, rfl, .inr ⟨by omega, by omega, by omega⟩⟩
theorem szKeyS_ev (l : List S26) (left : Int) (h0 : 0 ≤ left) (h1 : left ≤ 1048576) (hl : l.length ≤ maxLen) (hz : ∀ s ∈ l, q26 s) :
 ∃ t, Ev (fun k => laws_szKeyS.f k l left) t ∧ (t < 0 ∨ (0 ≤ t ∧ t ≤ left ∧ l.length ≤ 1048576 ∧ ∀ s ∈ l, s.f1.size ≤ 1048576)) := by
 unfold maxLen at hl
 unfold laws_szKeyS.f
 have e1 : wrap64 (left - (l.length : Int)) = left - l.length := by unfold wrap64; omega
 rw [e1]
 by_cases c1 : left - (l.length : Int) < 0
 · simp only [if_pos c1]
   exact ⟨-1, Ev.now _, .inl (by omega)⟩
 simp only [if_neg c1]
 obtain ⟨t, ht, hev⟩ := sz_loop z26 (fun _ s left => laws_szKey.f s.f0 s.f1 left) laws_szKeyS.l0 1048576 (fun _ _ _ _ => rfl) q26 (fun s => s.f1.size ≤ 1048576)
  (fun x left h0 h1 hq => by obtain ⟨t, ht, hc⟩ := szKey_ev x left h0 h1 hq; exact ⟨t, Ev.const ht, hc⟩) l (by omega) hz (left - (l.length : Int)) (by omega) (by omega)
 exact ⟨t, hev, ht.imp id (fun h => ⟨h.1, by omega, by omega, h.2.2⟩)⟩
def convKey (x : S26) : S29 := ⟨x.f0, x.f1⟩
theorem toKeyS_ev (l : List S26) (hl : l.length ≤ 1048576) : Ev (fun k => laws_toKeyS.f k l) (l.map convKey) := by
 unfold laws_toKeyS.f
 simp only [if_pos (show 0 ≤ (l.length : Int) by omega), Int.toNat_natCast, if_pos (show l.length ≤ 11728124029610 by omega)]
 exact to_loop z26 (fun _ s => laws_toKey.f s.f0 s.f1) (fun t => (⟨t.1, t.2⟩ : S29)) laws_toKeyS.l0 (fun _ _ _ _ => rfl) convKey l (fun x _ => ⟨(x.f0, x.f1), Ev.const rfl, rfl⟩) (by omega) _ (by simp)
theorem eqKey_self (x : S29) : laws_eqKey.f x.f0 x.f1 x.f0 x.f1 = some true := by
 unfold laws_eqKey.f
 simp
theorem eqKeyS_ev (l : List S29) (hl : l.length ≤ 1048576) : Ev (fun k => laws_eqKeyS.f k l l) true := by
 unfold laws_eqKeyS.f
 simp only [if_true]
 exact eq_loop z29 (fun _ x y => laws_eqKey.f x.f0 x.f1 y.f0 y.f1) laws_eqKeyS.l0 (fun _ _ _ _ => rfl) l (fun x _ => Ev.const (eqKey_self x)) (by omega)
theorem specKeyOk (x : S29) : Ev (fun k => spec_l4KeyOk.f k x.f0 x.f1) (kyB x) := by
 unfold spec_l4KeyOk.f kyB
 by_cases h1 : x.f0 = 1
 · simp only [if_pos h1]
   rw [decide_eq_true (by omega), Bool.true_and]
   exact Ev.bind (specGood _) (Ev.now _)
 simp only [if_neg h1]
 by_cases h2 : x.f0 = 2
 · simp only [if_pos h2]
   rw [decide_eq_true (by omega), Bool.true_and]
   exact Ev.bind (specGood _) (Ev.now _)
 simp only [if_neg h2]
 by_cases h3 : x.f0 = 3
 · simp only [if_pos h3]
   rw [decide_eq_true (by omega), Bool.true_and]
   exact Ev.bind (specGood _) (Ev.now _)
 simp only [if_neg h3]
 rw [decide_eq_false (by omega), Bool.false_and]
 exact Ev.now _
theorem specDepsOk (l : List S29) : Ev (fun k => spec_l4DepsOk.f k l) (decide (l.length ≤ 1000) && l.all kyB) := by
 unfold spec_l4DepsOk.f
 by_cases c : (l.length : Int) > 1000
 · simp only [if_pos c]
   rw [decide_eq_false (by omega), Bool.false_and]
   exact Ev.now _
 simp only [if_neg c]
 rw [decide_eq_true (by omega), Bool.true_and]
 refine cont_loop (fun k i => spec_l4DepsOk.l0 k l (i : Nat)) l.length (fun i => kyB (rd_T29 l i)) false (fun _ => some true) ?_ ?_ ?_ _ ?_ ?_
 ·
  intro i hi ho r hr
  refine Ev.shift ?_
  simp only [spec_l4DepsOk.l0, if_pos (show (i : Int) < (l.length : Int) by omega), if_pos (show (0 : Int) ≤ (i : Int) by omega)]
  refine Ev.bind (specKeyOk _) ?_
  simp only [ho, if_true, wrap_nat i (by omega)]
  exact hr
 ·
  intro i hi ho
  refine Ev.shift ?_
  simp only [spec_l4DepsOk.l0, if_pos (show (i : Int) < (l.length : Int) by omega), if_pos (show (0 : Int) ≤ (i : Int) by omega)]
  refine Ev.bind (specKeyOk _) ?_
  simp only [ho, Bool.false_eq_true, if_false]
  exact Ev.now _
 · intro r hr
   refine Ev.shift ?_
   simp only [spec_l4DepsOk.l0, if_neg (show ¬ (l.length : Int) < (l.length : Int) by omega)]
   exact hr
 ·
  intro h
  rw [show l.all kyB = true from List.all_eq_true.2 (fun x hx => by
   obtain ⟨j, hj, rfl⟩ := List.getElem_of_mem hx
   have := h j hj
   unfold rd_T29 at this
   rw [Int.toNat_natCast, List.getD_eq_getElem?_getD, List.getElem?_eq_getElem hj] at this
   exact this)]
  exact Ev.now _
 rintro ⟨i, hi, ho⟩
 rw [Bool.eq_false_iff]
 intro h
 rw [List.all_eq_true.1 h _ (rd_mem_ky l hi)] at ho
 cases ho
/-- One key is before another. -/
def keyLt (a b : S29) : Bool := if a.f0 = b.f0 then ltB a.f1 b.f1 else decide (a.f0 < b.f0)
theorem specKeyLess (a b : S29) (ha : a.f1.size < 9223372036854775807) : Ev (fun k => spec_l4KeyLess.f k a.f0 a.f1 b.f0 b.f1) (keyLt a b) := by
 unfold spec_l4KeyLess.f keyLt
 by_cases h : a.f0 = b.f0
 · simp only [if_pos h]
   exact Ev.bind (specLess _ _ ha) (Ev.now _)
 simp only [if_neg h]
 exact Ev.now _
def smSlot (x : S154) : Prop := x.f0.f1.size ≤ 1048576 ∧ x.f2.size ≤ 1048576 ∧ x.f3.length ≤ 1048576 ∧ ∀ s ∈ x.f3, s.f1.size ≤ 1048576
theorem szSlot_ev (x : S154) (left : Int) (h0 : 0 ≤ left) (h1 : left ≤ 1048576) (hq : q154 x) :
 ∃ t, Ev (fun k => laws_szSlot.f k x.f0.f0 x.f0.f1 x.f1 x.f2 x.f3 x.f4 x.f5 x.f6 x.f7 left) t ∧ (t < 0 ∨ (0 ≤ t ∧ t ≤ left ∧ smSlot x)) := by
 obtain ⟨hk, _, hv, ⟨hl, hz⟩, _⟩ := hq
 unfold laws_szSlot.f
 obtain ⟨t, ht, hc⟩ := szKey_ev x.f0 left h0 h1 hk
 simp only [ht, Option.bind_some]
 by_cases c : t < 0
 · simp only [if_pos c]
   exact ⟨-1, Ev.now _, .inl (by omega)⟩
 obtain ⟨ht0, ht1, hs1⟩ := hc.resolve_left c
 simp only [if_neg c]
 unfold maxLen at hv
 have e1 : wrap64 (t - (x.f2.size : Int)) = t - x.f2.size := by unfold wrap64; omega
 rw [e1]
 by_cases c2 : t - (x.f2.size : Int) < 0
 · simp only [if_pos c2]
   exact ⟨-1, Ev.now _, .inl (by omega)⟩
 simp only [if_neg c2]
 obtain ⟨u, hu, hcu⟩ := szKeyS_ev x.f3 (t - (x.f2.size : Int)) (by omega) (by omega) hl hz
 by_cases cu : u < 0
 · refine ⟨-1, Ev.bind hu ?_, .inl (by omega)⟩
   simp only [if_pos cu]
   exact Ev.now _
 obtain ⟨hu0, hu1, hu2, hu3⟩ := hcu.resolve_left cu
 refine ⟨u, Ev.bind hu ?_, .inr ⟨hu0, by omega, hs1, by omega, hu2, hu3⟩⟩
 simp only [if_neg cu]
 exact Ev.now _
theorem szTable_ev (l : List S154) (left : Int) (h0 : 0 ≤ left) (h1 : left ≤ 1048576) (hl : l.length ≤ maxLen) (hz : ∀ s ∈ l, q154 s) :
 ∃ t, Ev (fun k => laws_szTable.f k l left) t ∧ (t < 0 ∨ (0 ≤ t ∧ t ≤ left ∧ l.length ≤ 1048576 ∧ ∀ s ∈ l, smSlot s)) := by
 unfold maxLen at hl
 unfold laws_szTable.f
 have main : ∃ t, Ev (fun k => laws_szSlotS.f k l left) t ∧ (t < 0 ∨ (0 ≤ t ∧ t ≤ left ∧ l.length ≤ 1048576 ∧ ∀ s ∈ l, smSlot s)) := by
  unfold laws_szSlotS.f
  have e1 : wrap64 (left - (l.length : Int)) = left - l.length := by unfold wrap64; omega
  rw [e1]
  by_cases c1 : left - (l.length : Int) < 0
  · simp only [if_pos c1]
    exact ⟨-1, Ev.now _, .inl (by omega)⟩
  simp only [if_neg c1]
  obtain ⟨t, ht, hev⟩ := sz_loop z154 (fun k s left => laws_szSlot.f k s.f0.f0 s.f0.f1 s.f1 s.f2 s.f3 s.f4 s.f5 s.f6 s.f7 left) laws_szSlotS.l0 1048576 (fun _ _ _ _ => rfl) q154 smSlot szSlot_ev l (by omega) hz (left - (l.length : Int)) (by omega) (by omega)
  exact ⟨t, hev, ht.imp id (fun h => ⟨h.1, by omega, by omega, h.2.2⟩)⟩
 obtain ⟨t, hev, ht⟩ := main
 by_cases c : t < 0
 · refine ⟨-1, Ev.bind hev ?_, .inl (by omega)⟩
   simp only [if_pos c]
   exact Ev.now _
 refine ⟨t, Ev.bind hev ?_, ht⟩
 simp only [if_neg c]
 exact Ev.now _
def convSlot (x : S154) : S32 := ⟨convKey x.f0, x.f1, x.f2, x.f3.map convKey, x.f4, x.f5, x.f6, x.f7⟩
theorem toTable_ev (l : List S154) (hl : l.length ≤ 1048576) (hs : ∀ s ∈ l, smSlot s) : Ev (fun k => laws_toTable.f k l) (l.map convSlot) := by
 unfold laws_toTable.f
 refine Ev.bind (a := l.map convSlot) ?_ (Ev.now _)
 unfold laws_toSlotS.f
 simp only [if_pos (show 0 ≤ (l.length : Int) by omega), Int.toNat_natCast, if_pos (show l.length ≤ 2706490160679 by omega)]
 refine to_loop z154 (fun k s => laws_toSlot.f k s.f0.f0 s.f0.f1 s.f1 s.f2 s.f3 s.f4 s.f5 s.f6 s.f7) (fun b => (⟨(⟨b.1, b.2.1⟩ : S29), b.2.2.1, b.2.2.2.1, b.2.2.2.2.1, b.2.2.2.2.2.1, b.2.2.2.2.2.2.1, b.2.2.2.2.2.2.2.1, b.2.2.2.2.2.2.2.2⟩ : S32)) laws_toSlotS.l0 (fun _ _ _ _ => rfl) convSlot l
  (fun x hx => ⟨(x.f0.f0, x.f0.f1, x.f1, x.f2, x.f3.map convKey, x.f4, x.f5, x.f6, x.f7), ?_, rfl⟩) (by omega) _ (by simp)
 unfold laws_toSlot.f laws_toKey.f
 simp only [Option.bind_some]
 exact Ev.bind (toKeyS_ev _ (hs x hx).2.2.1) (Ev.now _)
def smSlot' (x : S32) : Prop := x.f0.f1.size ≤ 1048576 ∧ x.f2.size ≤ 1048576 ∧ x.f3.length ≤ 1048576 ∧ ∀ s ∈ x.f3, s.f1.size ≤ 1048576
theorem smSlot_conv {l : List S154} (h : ∀ s ∈ l, smSlot s) : ∀ s ∈ l.map convSlot, smSlot' s := fun s hs => by
 obtain ⟨x, hx, rfl⟩ := List.mem_map.1 hs
 obtain ⟨h1, h2, h3, h4⟩ := h x hx
 refine ⟨h1, h2, by show (x.f3.map convKey).length ≤ _; rw [List.length_map]; exact h3, fun s hs => ?_⟩
 obtain ⟨y, hy, rfl⟩ := List.mem_map.1 hs
 exact h4 y hy
theorem eqSlot_ev (x : S32) (h : smSlot' x) : Ev (fun k => laws_eqSlot.f k x.f0.f0 x.f0.f1 x.f1 x.f2 x.f3 x.f4 x.f5 x.f6 x.f7 x.f0.f0 x.f0.f1 x.f1 x.f2 x.f3 x.f4 x.f5 x.f6 x.f7) true := by
 unfold laws_eqSlot.f
 simp only [eqKey_self, Option.bind_some, if_true, bne_self_eq_false, Bool.false_eq_true, if_false]
 refine Ev.bind (eqKeyS_ev _ h.2.2.1) ?_
 simp only [if_true]
 exact Ev.now _
theorem eqTable_ev (l : List S32) (hl : l.length ≤ 1048576) (h : ∀ s ∈ l, smSlot' s) : Ev (fun k => laws_eqTable.f k l l) true := by
 unfold laws_eqTable.f
 refine Ev.bind (a := true) ?_ (by simp only [if_true]; exact Ev.now _)
 unfold laws_eqSlotS.f
 simp only [if_true]
 exact eq_loop z32 (fun k x y => laws_eqSlot.f k x.f0.f0 x.f0.f1 x.f1 x.f2 x.f3 x.f4 x.f5 x.f6 x.f7 y.f0.f0 y.f0.f1 y.f1 y.f2 y.f3 y.f4 y.f5 y.f6 y.f7) laws_eqSlotS.l0 (fun _ _ _ _ => rfl) l (fun x hx => eqSlot_ev x (h x hx)) (by omega)
def heldB (s : S32) : Bool := decide (1 ≤ s.f6 ∧ s.f6 ≤ 16 ∧ 1 ≤ s.f7)
/-- A slot is valid. -/
def slB (s : S32) : Bool :=
 kyB s.f0 && (heldB s || decide (s.f6 = 0 ∧ s.f7 = 0)) && (if s.f1 = true then decide (1 ≤ s.f5 ∧ s.f5 ≤ s.f4 ∧ s.f3.length ≤ 1000) && s.f3.all kyB else heldB s && decide (s.f2.size = 0 ∧ s.f3.length = 0 ∧ s.f4 = 0 ∧ s.f5 = 0))
abbrev slotAt (t : List S32) (i : Nat) : S32 := rd_T32 t i
def slotOk (t : List S32) (i : Nat) : Bool := slB (slotAt t i) && (decide (i = 0) || keyLt (slotAt t (i - 1)).f0 (slotAt t i).f0)
/-- A table is valid. -/
def vtB (t : List S32) : Bool := decide (t.length ≤ 4096 ∧ ∀ i : Nat, i < t.length → slotOk t i = true)
theorem slotAt_mem (l : List S32) {k : Nat} (h : k < l.length) : slotAt l k ∈ l := by
 unfold slotAt rd_T32
 rw [Int.toNat_natCast, List.getD_eq_getElem?_getD, List.getElem?_eq_getElem h]
 exact List.getElem_mem h
theorem wrap_pred' (i : Nat) (h : 0 < i) (h2 : i < 9223372036854775807) : wrap64 ((i : Int) - 1) = ((i - 1 : Nat) : Int) := by unfold wrap64; omega
theorem tail_ev (s : S32) : Ev (fun k => if s.f1 = true then (if s.f5 ≥ 1 then (if s.f5 ≤ s.f4 then ((spec_l4DepsOk.f k s.f3).bind fun t304 => (some t304)) else (some false)) else (some false)) else (if heldB s = true then (if (s.f2.size : Int) = 0 then (if (s.f3.length : Int) = 0 then (if s.f4 = 0 then (some (s.f5 == 0)) else (some false)) else (some false)) else (some false)) else (some false)))
 (if s.f1 = true then decide (1 ≤ s.f5 ∧ s.f5 ≤ s.f4 ∧ s.f3.length ≤ 1000) && s.f3.all kyB else heldB s && decide (s.f2.size = 0 ∧ s.f3.length = 0 ∧ s.f4 = 0 ∧ s.f5 = 0)) := by
 cases hh : s.f1
 ·
  simp only [Bool.false_eq_true, if_false]
  cases hb : heldB s
  · simp only [Bool.false_eq_true, if_false, Bool.false_and]
    exact Ev.now _
  simp only [if_true, Bool.true_and]
  by_cases h1 : s.f2.size = 0
  ·
   simp only [if_pos (show (s.f2.size : Int) = 0 by omega)]
   by_cases h2 : s.f3.length = 0
   ·
    simp only [if_pos (show (s.f3.length : Int) = 0 by omega)]
    by_cases h3 : s.f4 = 0
    · simp only [if_pos h3]
      refine Ev.const (congrArg some ?_)
      rw [Bool.eq_iff_iff, beq_iff_eq, decide_eq_true_iff]
      exact ⟨fun h => ⟨h1, h2, h3, h⟩, fun h => h.2.2.2⟩
    simp only [if_neg h3]
    rw [decide_eq_false (fun h => h3 h.2.2.1)]
    exact Ev.now _
   simp only [if_neg (show ¬ (s.f3.length : Int) = 0 by omega)]
   rw [decide_eq_false (fun h => h2 h.2.1)]
   exact Ev.now _
  simp only [if_neg (show ¬ (s.f2.size : Int) = 0 by omega)]
  rw [decide_eq_false (fun h => h1 h.1)]
  exact Ev.now _
 simp only [if_true]
 by_cases h1 : s.f5 ≥ 1
 ·
  simp only [if_pos h1]
  by_cases h2 : s.f5 ≤ s.f4
  · simp only [if_pos h2]
    rw [show decide (1 ≤ s.f5 ∧ s.f5 ≤ s.f4 ∧ s.f3.length ≤ 1000) = decide (s.f3.length ≤ 1000) from decide_eq_decide.2 ⟨fun h => h.2.2, fun h => ⟨h1, h2, h⟩⟩]
    exact Ev.bind (specDepsOk _) (Ev.now _)
  simp only [if_neg h2]
  rw [decide_eq_false (fun h => h2 h.2.1), Bool.false_and]
  exact Ev.now _
 simp only [if_neg h1]
 rw [decide_eq_false (fun h => h1 h.1), Bool.false_and]
 exact Ev.now _
theorem specSlotOk (s : S32) : Ev (fun k => spec_l4SlotOk.f k s.f0.f0 s.f0.f1 s.f1 s.f2 s.f3 s.f4 s.f5 s.f6 s.f7) (slB s) := by
 unfold spec_l4SlotOk.f slB
 refine Ev.bind (specKeyOk s.f0) ?_
 cases hk : kyB s.f0
 · simp only [Bool.false_eq_true, if_false, Bool.false_and]
   exact Ev.now _
 simp only [if_true, Bool.true_and]
 have main : Ev (fun k => spec_l4SlotOk.j0 k (heldB s) s.f0.f0 s.f0.f1 s.f1 s.f2 s.f3 s.f4 s.f5 s.f6 s.f7) ((heldB s || decide (s.f6 = 0 ∧ s.f7 = 0)) && (if s.f1 = true then decide (1 ≤ s.f5 ∧ s.f5 ≤ s.f4 ∧ s.f3.length ≤ 1000) && s.f3.all kyB else heldB s && decide (s.f2.size = 0 ∧ s.f3.length = 0 ∧ s.f4 = 0 ∧ s.f5 = 0))) := by
  refine Ev.shift ?_
  have step : ∀ b : Bool, b = decide (s.f6 = 0 ∧ s.f7 = 0) → Ev (fun k => spec_l4SlotOk.j1 k (heldB s) b s.f0.f0 s.f0.f1 s.f1 s.f2 s.f3 s.f4 s.f5 s.f6 s.f7) ((heldB s || decide (s.f6 = 0 ∧ s.f7 = 0)) && (if s.f1 = true then decide (1 ≤ s.f5 ∧ s.f5 ≤ s.f4 ∧ s.f3.length ≤ 1000) && s.f3.all kyB else heldB s && decide (s.f2.size = 0 ∧ s.f3.length = 0 ∧ s.f4 = 0 ∧ s.f5 = 0))) := fun b hb => by
   rw [← hb]
   refine Ev.shift ?_
   simp only [spec_l4SlotOk.j1]
   have fin : ∀ c : Bool, Ev (fun k => spec_l4SlotOk.j2 k (heldB s) c s.f0.f0 s.f0.f1 s.f1 s.f2 s.f3 s.f4 s.f5 s.f6 s.f7) (if c = true then false else (if s.f1 = true then decide (1 ≤ s.f5 ∧ s.f5 ≤ s.f4 ∧ s.f3.length ≤ 1000) && s.f3.all kyB else heldB s && decide (s.f2.size = 0 ∧ s.f3.length = 0 ∧ s.f4 = 0 ∧ s.f5 = 0))) := fun c => by
    refine Ev.shift ?_
    simp only [spec_l4SlotOk.j2]
    cases c
    · simp only [Bool.false_eq_true, if_false]
      exact tail_ev s
    simp only [if_true]
    exact Ev.now _
   cases hh : heldB s
   · rw [hh] at fin
     simp only [Bool.false_eq_true, if_false, Bool.false_or]
     have := fin (!b)
     cases b
     · exact this
     exact this
   rw [hh] at fin
   simp only [if_true, Bool.true_or, Bool.true_and]
   exact fin false
  simp only [spec_l4SlotOk.j0]
  by_cases h0 : s.f6 = 0
  · simp only [if_pos h0]
    refine step _ ?_
    rw [Bool.eq_iff_iff, beq_iff_eq, decide_eq_true_iff]
    exact ⟨fun h => ⟨h0, h⟩, fun h => h.2⟩
  simp only [if_neg h0]
  exact step _ (decide_eq_false (fun h => h0 h.1)).symm
 by_cases h1 : s.f6 ≥ 1
 ·
  simp only [if_pos h1]
  by_cases h2 : s.f6 ≤ 16
  · simp only [if_pos h2]
    rw [show decide (s.f7 ≥ 1) = heldB s from decide_eq_decide.2 ⟨fun h => ⟨h1, h2, h⟩, fun h => h.2.2⟩]
    exact main
  simp only [if_neg h2]
  rw [show heldB s = false from decide_eq_false (fun h => h2 h.2.1)] at main ⊢
  exact main
 simp only [if_neg h1]
 rw [show heldB s = false from decide_eq_false (fun h => h1 h.1)] at main ⊢
 exact main
theorem specValidTable (t : List S32) (hs : ∀ x ∈ t, smSlot' x) : Ev (fun k => spec_ValidTable.f k t) (vtB t) := by
 unfold spec_ValidTable.f vtB
 by_cases c : (t.length : Int) > 4096
 · simp only [if_pos c]
   rw [decide_eq_false (fun h => by omega)]
   exact Ev.now _
 simp only [if_neg c]
 refine cont_loop (fun k i => spec_ValidTable.l0 k (i : Nat) t) t.length (slotOk t) false (fun _ => some true) ?_ ?_ ?_ _ ?_ ?_
 ·
  intro i hi ho r hr
  unfold slotOk at ho
  rw [Bool.and_eq_true] at ho
  have ho1 : slB (rd_T32 t (i : Int)) = true := ho.1
  refine Ev.shift ?_
  simp only [spec_ValidTable.l0, if_pos (show (i : Int) < (t.length : Int) by omega), if_pos (show (0 : Int) ≤ (i : Int) by omega)]
  refine Ev.bind (specSlotOk _) ?_
  simp only [ho1, if_true]
  by_cases h0 : i = 0
  · subst h0
    simp only [if_neg (show ¬ ((0 : Nat) : Int) > 0 by omega), wrap_nat 0 (by omega)]
    exact hr
  have hlt := ho.2
  rw [decide_eq_false h0, Bool.false_or] at hlt
  simp only [if_pos (show (i : Int) > 0 by omega), wrap_pred' i (by omega) (by omega), if_pos (show (0 : Int) ≤ ((i - 1 : Nat) : Int) by omega), if_pos (show ((i - 1 : Nat) : Int) < (t.length : Int) by omega)]
  refine Ev.bind (specKeyLess _ _ (by have := (hs _ (slotAt_mem t (k := i - 1) (by omega))).1; unfold slotAt at this; omega)) ?_
  have hlt' : keyLt (rd_T32 t ((i - 1 : Nat) : Int)).f0 (rd_T32 t (i : Int)).f0 = true := hlt
  simp only [hlt', if_true, wrap_nat i (by omega)]
  exact hr
 ·
  intro i hi ho
  unfold slotOk at ho
  refine Ev.shift ?_
  simp only [spec_ValidTable.l0, if_pos (show (i : Int) < (t.length : Int) by omega), if_pos (show (0 : Int) ≤ (i : Int) by omega)]
  refine Ev.bind (specSlotOk _) ?_
  cases hg : slB (rd_T32 t (i : Int))
  · simp only [Bool.false_eq_true, if_false]
    exact Ev.now _
  have hg' : slB (slotAt t i) = true := hg
  rw [hg', Bool.true_and, Bool.or_eq_false_iff] at ho
  have h0 : ¬ i = 0 := of_decide_eq_false ho.1
  simp only [if_true, if_pos (show (i : Int) > 0 by omega), wrap_pred' i (by omega) (by omega), if_pos (show (0 : Int) ≤ ((i - 1 : Nat) : Int) by omega), if_pos (show ((i - 1 : Nat) : Int) < (t.length : Int) by omega)]
  refine Ev.bind (specKeyLess _ _ (by have := (hs _ (slotAt_mem t (k := i - 1) (by omega))).1; unfold slotAt at this; omega)) ?_
  have hlt' : keyLt (rd_T32 t ((i - 1 : Nat) : Int)).f0 (rd_T32 t (i : Int)).f0 = false := ho.2
  simp only [hlt', Bool.false_eq_true, if_false]
  exact Ev.now _
 · intro r hr
   refine Ev.shift ?_
   simp only [spec_ValidTable.l0, if_neg (show ¬ (t.length : Int) < (t.length : Int) by omega)]
   exact hr
 · intro h
   rw [decide_eq_true ⟨by omega, h⟩]
   exact Ev.now _
 rintro ⟨i, hi, ho⟩
 exact decide_eq_false (fun h => by rw [h.2 i hi] at ho; cases ho)
theorem implSlotValid (s : S32) : Ev (fun k => impl_Slot_valid.f k s.f0.f0 s.f0.f1 s.f1 s.f2 s.f3 s.f4 s.f5 s.f6 s.f7) (slB s) := by
 have empty : s.f2.toList = ([] : List UInt8) ↔ s.f2.size = 0 := by
  rw [Lib.toList_data, ← data_length, List.length_eq_zero_iff]
 have tail : Ev (fun _ => if s.f1 = true then (if s.f5 ≥ 1 then (if s.f5 ≤ s.f4 then (if (s.f3.length : Int) ≤ 1000 then ((slices_ContainsFunc_impl_Key_impl_Key_130.f s.f3).bind fun t358 => (some (!t358))) else (some false)) else (some false)) else (some false)) else (if heldB s = true then (if s.f2.toList = ([] : List UInt8) then (if (s.f3.length : Int) = 0 then (if s.f4 = 0 then (some (s.f5 == 0)) else (some false)) else (some false)) else (some false)) else (some false)))
  (if s.f1 = true then decide (1 ≤ s.f5 ∧ s.f5 ≤ s.f4 ∧ s.f3.length ≤ 1000) && s.f3.all kyB else heldB s && decide (s.f2.size = 0 ∧ s.f3.length = 0 ∧ s.f4 = 0 ∧ s.f5 = 0)) := by
  cases hh : s.f1
  ·
   simp only [Bool.false_eq_true, if_false]
   cases hb : heldB s
   · simp only [Bool.false_eq_true, if_false, Bool.false_and]
     exact Ev.now _
   simp only [if_true, Bool.true_and]
   by_cases h1 : s.f2.size = 0
   ·
    simp only [if_pos (empty.2 h1)]
    by_cases h2 : s.f3.length = 0
    ·
     simp only [if_pos (show (s.f3.length : Int) = 0 by omega)]
     by_cases h3 : s.f4 = 0
     · simp only [if_pos h3]
       refine Ev.const (congrArg some ?_)
       rw [Bool.eq_iff_iff, beq_iff_eq, decide_eq_true_iff]
       exact ⟨fun h => ⟨h1, h2, h3, h⟩, fun h => h.2.2.2⟩
     simp only [if_neg h3]
     rw [decide_eq_false (fun h => h3 h.2.2.1)]
     exact Ev.now _
    simp only [if_neg (show ¬ (s.f3.length : Int) = 0 by omega)]
    rw [decide_eq_false (fun h => h2 h.2.1)]
    exact Ev.now _
   simp only [if_neg (fun h => h1 (empty.1 h))]
   rw [decide_eq_false (fun h => h1 h.1)]
   exact Ev.now _
  simp only [if_true]
  by_cases h1 : s.f5 ≥ 1
  ·
   simp only [if_pos h1]
   by_cases h2 : s.f5 ≤ s.f4
   ·
    simp only [if_pos h2]
    by_cases h3 : s.f3.length ≤ 1000
    · simp only [if_pos (show (s.f3.length : Int) ≤ 1000 by omega), slices_ContainsFunc_impl_Key_impl_Key_130.f, Option.bind_some]
      rw [decide_eq_true ⟨h1, h2, h3⟩, Bool.true_and]
      refine Ev.const (congrArg some ?_)
      rw [List.not_any_eq_all_not]
      simp
    simp only [if_neg (show ¬ (s.f3.length : Int) ≤ 1000 by omega)]
    rw [decide_eq_false (fun h => h3 h.2.2), Bool.false_and]
    exact Ev.now _
   simp only [if_neg h2]
   rw [decide_eq_false (fun h => h2 h.2.1), Bool.false_and]
   exact Ev.now _
  simp only [if_neg h1]
  rw [decide_eq_false (fun h => h1 h.1), Bool.false_and]
  exact Ev.now _
 have fin : ∀ c : Bool, Ev (fun k => impl_Slot_valid.j1 k (heldB s) c s.f0.f0 s.f0.f1 s.f1 s.f2 s.f3 s.f4 s.f5 s.f6 s.f7) (if c = true then false else (if s.f1 = true then decide (1 ≤ s.f5 ∧ s.f5 ≤ s.f4 ∧ s.f3.length ≤ 1000) && s.f3.all kyB else heldB s && decide (s.f2.size = 0 ∧ s.f3.length = 0 ∧ s.f4 = 0 ∧ s.f5 = 0))) := fun c => by
  refine Ev.shift ?_
  simp only [impl_Slot_valid.j1]
  cases c
  · simp only [Bool.false_eq_true, if_false]
    exact tail
  simp only [if_true]
  exact Ev.now _
 have main : Ev (fun k => impl_Slot_valid.j0 k (heldB s) s.f0.f0 s.f0.f1 s.f1 s.f2 s.f3 s.f4 s.f5 s.f6 s.f7) (slB s) := by
  refine Ev.shift ?_
  simp only [impl_Slot_valid.j0, keyValid_f, Option.bind_some]
  unfold slB
  cases hk : kyB s.f0
  · simp only [Bool.false_eq_true, if_false, Bool.false_and]
    exact fin true
  simp only [if_true, Bool.true_and]
  cases hh : heldB s
  ·
   rw [hh] at fin
   simp only [Bool.false_eq_true, if_false, Bool.false_or]
   by_cases h0 : s.f6 = 0
   ·
    simp only [if_pos h0]
    by_cases h7 : s.f7 = 0
    · have e7 : (s.f7 != 0) = false := by simp [h7]
      rw [decide_eq_true ⟨h0, h7⟩, Bool.true_and, e7]
      exact fin false
    rw [decide_eq_false (fun h => h7 h.2), Bool.false_and, show (s.f7 != 0) = true from bne_iff_ne.2 h7]
    exact fin true
   simp only [if_neg h0]
   rw [decide_eq_false (fun h => h0 h.1), Bool.false_and]
   exact fin true
  rw [hh] at fin
  simp only [if_true, Bool.true_or, Bool.true_and]
  exact fin false
 unfold impl_Slot_valid.f
 by_cases h1 : s.f6 ≥ 1
 ·
  simp only [if_pos h1]
  by_cases h2 : s.f6 ≤ 16
  · simp only [if_pos h2]
    rw [show decide (s.f7 ≥ 1) = heldB s from decide_eq_decide.2 ⟨fun h => ⟨h1, h2, h⟩, fun h => h.2.2⟩]
    exact main
  simp only [if_neg h2]
  rw [show heldB s = false from decide_eq_false (fun h => h2 h.2.1)] at main
  exact main
 simp only [if_neg h1]
 rw [show heldB s = false from decide_eq_false (fun h => h1 h.1)] at main
 exact main
/-- What compareKeys answers. -/
def cmpK (a b : S29) : Int := if a.f0 < b.f0 then -1 else if a.f0 > b.f0 then 1 else if ltB a.f1 b.f1 = true then -1 else if ltB b.f1 a.f1 = true then 1 else 0
theorem or2 (x y : Int) : Ev (fun k => cmp_Or_int.f k [x, y]) (if x = 0 then y else x) := by
 refine Ev.shift (Ev.shift (Ev.shift ?_))
 by_cases h : x = 0
 ·
  by_cases h2 : y = 0
  · simp [cmp_Or_int.f, cmp_Or_int.l0, rd, wrap64, h, h2]
    exact Ev.now _
  simp [cmp_Or_int.f, cmp_Or_int.l0, rd, wrap64, h, h2]
  exact Ev.now _
 simp [cmp_Or_int.f, cmp_Or_int.l0, rd, h]
 exact Ev.now _
theorem implCompareKeys (a b : S29) : Ev (fun k => impl_compareKeys.f k a.f0 a.f1 b.f0 b.f1) (cmpK a b) := by
 have e1 : cmp_Compare_int.f a.f0 b.f0 = some (if a.f0 < b.f0 then -1 else if a.f0 > b.f0 then 1 else 0) := by
  unfold cmp_Compare_int.f cmp_isNaN_int.f
  simp only [bne_self_eq_false, Option.bind_some, Bool.false_eq_true, if_false]
  split
  · rfl
  split <;> rfl
 have e2 : cmp_Compare_string.f a.f1 b.f1 = some (if ltB a.f1 b.f1 = true then -1 else if ltB b.f1 a.f1 = true then 1 else 0) := by
  unfold cmp_Compare_string.f ltB
  rw [Lib.toList_data, Lib.toList_data]
 unfold impl_compareKeys.f
 simp only [e1, e2, Option.bind_some]
 refine Ev.bind (or2 _ _) ?_
 refine Ev.const (congrArg some ?_)
 unfold cmpK
 by_cases h1 : a.f0 < b.f0
 · simp [h1]
 by_cases h2 : a.f0 > b.f0
 · simp [h1, h2]
 simp [h1, h2]
theorem cmpK_lt (a b : S29) : (cmpK a b ≥ 0) ↔ keyLt a b = false := by
 unfold cmpK keyLt
 by_cases h1 : a.f0 < b.f0
 · rw [if_pos h1, if_neg (by omega), decide_eq_true h1]
   simp
 rw [if_neg h1]
 by_cases h2 : a.f0 > b.f0
 · rw [if_pos h2, if_neg (by omega), decide_eq_false h1]
   simp
 have he : a.f0 = b.f0 := by omega
 rw [if_neg h2, decide_eq_false h1, he]
 cases h3 : ltB a.f1 b.f1
 · cases h4 : ltB b.f1 a.f1 <;> simp
 simp
theorem implValidTable (t : List S32) : Ev (fun k => impl_ValidTable.f k t) (vtB t) := by
 unfold impl_ValidTable.f vtB
 by_cases c : (t.length : Int) > 4096
 · simp only [if_pos c]
   rw [decide_eq_false (fun h => by omega)]
   exact Ev.now _
 simp only [if_neg c]
 refine cont_loop (fun k i => impl_ValidTable.l0 k t (t.length : Int) (i : Nat) t) t.length (slotOk t) false (fun _ => some true) ?_ ?_ ?_ _ ?_ ?_
 ·
  intro i hi ho r hr
  unfold slotOk at ho
  rw [Bool.and_eq_true] at ho
  have ho1 : slB (rd_T32 t (i : Int)) = true := ho.1
  refine Ev.shift ?_
  simp only [impl_ValidTable.l0, if_pos (show (i : Int) < (t.length : Int) by omega), if_pos (show (0 : Int) ≤ (i : Int) by omega)]
  refine Ev.bind (implSlotValid _) ?_
  simp only [ho1, if_true]
  by_cases h0 : i = 0
  · subst h0
    simp only [if_neg (show ¬ ((0 : Nat) : Int) > 0 by omega), wrap_nat 0 (by omega)]
    exact hr
  have hlt := ho.2
  rw [decide_eq_false h0, Bool.false_or] at hlt
  simp only [if_pos (show (i : Int) > 0 by omega), wrap_pred' i (by omega) (by omega), if_pos (show (0 : Int) ≤ ((i - 1 : Nat) : Int) by omega), if_pos (show ((i - 1 : Nat) : Int) < (t.length : Int) by omega)]
  refine Ev.bind (implCompareKeys _ _) ?_
  have hlt' : ¬ cmpK (rd_T32 t ((i - 1 : Nat) : Int)).f0 (rd_T32 t (i : Int)).f0 ≥ 0 := fun h => by
   have h2 : keyLt (rd_T32 t ((i - 1 : Nat) : Int)).f0 (rd_T32 t (i : Int)).f0 = true := hlt
   rw [(cmpK_lt _ _).1 h] at h2
   cases h2
  simp only [if_neg hlt', wrap_nat i (by omega)]
  exact hr
 ·
  intro i hi ho
  unfold slotOk at ho
  refine Ev.shift ?_
  simp only [impl_ValidTable.l0, if_pos (show (i : Int) < (t.length : Int) by omega), if_pos (show (0 : Int) ≤ (i : Int) by omega)]
  refine Ev.bind (implSlotValid _) ?_
  cases hg : slB (rd_T32 t (i : Int))
  · simp only [Bool.false_eq_true, if_false]
    exact Ev.now _
  have hg' : slB (slotAt t i) = true := hg
  rw [hg', Bool.true_and, Bool.or_eq_false_iff] at ho
  have h0 : ¬ i = 0 := of_decide_eq_false ho.1
  simp only [if_true, if_pos (show (i : Int) > 0 by omega), wrap_pred' i (by omega) (by omega), if_pos (show (0 : Int) ≤ ((i - 1 : Nat) : Int) by omega), if_pos (show ((i - 1 : Nat) : Int) < (t.length : Int) by omega)]
  refine Ev.bind (implCompareKeys _ _) ?_
  have hlt' : cmpK (rd_T32 t ((i - 1 : Nat) : Int)).f0 (rd_T32 t (i : Int)).f0 ≥ 0 := (cmpK_lt _ _).2 ho.2
  simp only [if_pos hlt']
  exact Ev.now _
 · intro r hr
   refine Ev.shift ?_
   simp only [impl_ValidTable.l0, if_neg (show ¬ (t.length : Int) < (t.length : Int) by omega)]
   exact hr
 · intro h
   rw [decide_eq_true ⟨by omega, h⟩]
   exact Ev.now _
 rintro ⟨i, hi, ho⟩
 exact decide_eq_false (fun h => by rw [h.2 i hi] at ho; cases ho)
theorem vtB_len {t : List S32} (h : vtB t = true) : t.length ≤ 4096 := (of_decide_eq_true h).1
theorem slotAt_get {t : List S32} {i : Nat} (h : i < t.length) : slotAt t i = t[i] := by
 unfold slotAt rd_T32
 rw [Int.toNat_natCast, List.getD_eq_getElem?_getD, List.getElem?_eq_getElem h]
 rfl
abbrev SlT := Int × ByteArray × Bool × ByteArray × List S29 × Int × Int × Int × Int
abbrev tupS (x : S32) : SlT := (x.f0.f0, x.f0.f1, x.f1, x.f2, x.f3, x.f4, x.f5, x.f6, x.f7)
theorem specCopyKeys (l : List S29) (hl : l.length ≤ 1048576) : Ev (fun k => spec_l4CopyKeys.f k l) l := by
 unfold spec_l4CopyKeys.f
 refine Exists.elim (ev_loop (fun k (s : List S29) (i : Nat) => spec_l4CopyKeys.l0 k l s i) l.length (fun i s => s = l.take i) (fun r => r = l) ?_ ?_ 0 [] (Nat.zero_le _) (by simp)) (fun r h => by obtain ⟨rfl, hr⟩ := h; exact hr)
 ·
  rintro i s hi rfl
  refine .inr ⟨l.take (i + 1), rfl, fun r hr => Ev.shift ?_⟩
  have hg : rd_T29 l (i : Int) = l[i] := by unfold rd_T29; rw [Int.toNat_natCast, List.getD_eq_getElem?_getD, List.getElem?_eq_getElem hi]; rfl
  simp only [spec_l4CopyKeys.l0, if_pos (show (i : Int) < (l.length : Int) by omega), if_pos (show (0 : Int) ≤ (i : Int) by omega), if_pos (show (l.take i).length < 5864062014805 by rw [List.length_take]; omega), wrap_nat i (by omega), hg]
  rw [List.take_succ_eq_append_getElem hi] at hr
  exact hr
 rintro s rfl
 refine ⟨l, rfl, Ev.shift ?_⟩
 simp only [spec_l4CopyKeys.l0, if_neg (show ¬ (l.length : Int) < (l.length : Int) by omega), List.take_length]
 exact Ev.now _
theorem specCopySlot (x : S32) (hl : x.f3.length ≤ 1048576) : Ev (fun k => spec_l4CopySlot.f k x.f0.f0 x.f0.f1 x.f1 x.f2 x.f3 x.f4 x.f5 x.f6 x.f7) (tupS x) := by
 unfold spec_l4CopySlot.f
 exact Ev.bind (specCopyKeys _ hl) (Ev.now _)
theorem implRows (t : List S32) (hv : vtB t = true) (hs : ∀ x ∈ t, smSlot' x) : impl_Table_rows.f t = some (t.map rowS) := by
 unfold impl_Table_rows.f
 rw [if_pos ⟨vtB_len hv, fun s h => by have := (hs s h).2.2.1; omega⟩]
theorem key_ext {a b : S29} (h0 : a.f0 = b.f0) (h1 : a.f1 = b.f1) : a = b := by
 cases a; cases b; simp only at h0 h1; rw [h0, h1]
theorem keyLt_irrefl (a : S29) : keyLt a a = false := by unfold keyLt; rw [if_pos rfl]; exact ltB_irrefl _
theorem keyLt_trans {a b c : S29} (h : keyLt a b = true) (k : keyLt b c = true) : keyLt a c = true := by
 unfold keyLt at h k ⊢
 by_cases h1 : a.f0 = b.f0
 ·
  rw [if_pos h1] at h
  by_cases h2 : b.f0 = c.f0
  · rw [if_pos h2] at k
    rw [if_pos (h1.trans h2)]
    exact ltB_trans h k
  rw [if_neg h2] at k
  have := of_decide_eq_true k
  rw [if_neg (by omega)]
  exact decide_eq_true (by omega)
 rw [if_neg h1] at h
 have g := of_decide_eq_true h
 by_cases h2 : b.f0 = c.f0
 · rw [if_neg (by omega)]
   exact decide_eq_true (by omega)
 rw [if_neg h2] at k
 have := of_decide_eq_true k
 rw [if_neg (by omega)]
 exact decide_eq_true (by omega)
theorem keyLt_tri {a b : S29} (h : keyLt a b = false) (k : keyLt b a = false) : a = b := by
 unfold keyLt at h k
 by_cases h1 : a.f0 = b.f0
 · rw [if_pos h1] at h
   rw [if_pos h1.symm] at k
   exact key_ext h1 (ltB_tri h k)
 rw [if_neg h1] at h
 rw [if_neg (fun e => h1 e.symm)] at k
 have := of_decide_eq_false h
 have := of_decide_eq_false k
 exact key_ext (by omega) (by exfalso; omega)
theorem vtB_next {t : List S32} (h : vtB t = true) {i : Nat} (hi : i + 1 < t.length) : keyLt (slotAt t i).f0 (slotAt t (i + 1)).f0 = true := by
 have := (of_decide_eq_true h).2 (i + 1) hi
 unfold slotOk at this
 rw [Bool.and_eq_true] at this
 have h2 := this.2
 rw [decide_eq_false (by omega), Bool.false_or] at h2
 exact h2
theorem vtB_lt {t : List S32} (h : vtB t = true) (i : Nat) : ∀ d : Nat, i + d + 1 < t.length → keyLt (slotAt t i).f0 (slotAt t (i + d + 1)).f0 = true
 | 0, hj => vtB_next h hj
 | d + 1, hj => keyLt_trans (vtB_lt h i d (by omega)) (vtB_next h hj)
theorem vtB_lt' {t : List S32} (h : vtB t = true) {i j : Nat} (hij : i < j) (hj : j < t.length) : keyLt (slotAt t i).f0 (slotAt t j).f0 = true := by
 have := vtB_lt h i (j - i - 1) (by omega)
 rw [show i + (j - i - 1) + 1 = j by omega] at this
 exact this
def kEq (a b : S29) : Bool := if a.f0 = b.f0 then (a.f1.toList == b.f1.toList) else false
theorem kEq_iff {a b : S29} : kEq a b = true ↔ a = b := by
 unfold kEq
 by_cases h : a.f0 = b.f0
 · rw [if_pos h, beq_iff_eq, Lib.toList_data, Lib.toList_data]
   exact ⟨fun k => key_ext h (data_inj0 k), fun k => by rw [k]⟩
 rw [if_neg h]
 exact ⟨(fun k => by cases k), fun k => absurd (by rw [k]) h⟩
theorem sameKey_f (a b : S29) : spec_l4SameKey.f a.f0 a.f1 b.f0 b.f1 = some (kEq a b) := by
 unfold spec_l4SameKey.f kEq
 by_cases h : a.f0 = b.f0
 · rw [if_pos h, if_pos h]
 rw [if_neg h, if_neg h]
/-- The place of a key in a table. -/
def atK (t : List S32) (kx : S29) : Option Nat := t.findIdx? (fun s => kEq s.f0 kx)
theorem atK_some {t : List S32} {kx : S29} {i : Nat} (h : atK t kx = some i) : i < t.length ∧ (slotAt t i).f0 = kx ∧ ∀ j, j < i → (slotAt t j).f0 ≠ kx := by
 unfold atK at h
 rw [List.findIdx?_eq_some_iff_getElem] at h
 obtain ⟨hi, h1, h2⟩ := h
 refine ⟨hi, ?_, fun j hj => ?_⟩
 · rw [slotAt_get hi]; exact kEq_iff.1 h1
 rw [slotAt_get (by omega)]
 exact fun e => h2 j hj (kEq_iff.2 e)
theorem atK_none {t : List S32} {kx : S29} (h : atK t kx = none) : ∀ i, i < t.length → (slotAt t i).f0 ≠ kx := fun i hi e => by
 unfold atK at h
 rw [List.findIdx?_eq_none_iff] at h
 have := h (slotAt t i) (slotAt_mem t hi)
 rw [kEq_iff.2 e] at this
 cases this
theorem atK_of {t : List S32} (hv : vtB t = true) {kx : S29} {i : Nat} (hi : i < t.length) (hk : (slotAt t i).f0 = kx) : atK t kx = some i := by
 cases h : atK t kx with
 | none => exact absurd hk (atK_none h i hi)
 | some j =>
  obtain ⟨hj, h1, h2⟩ := atK_some h
  rcases Nat.lt_trichotomy i j with hij | hij | hij
  · exact absurd hk (h2 i hij)
  · rw [hij]
  have := vtB_lt' hv hij hi
  rw [hk, h1, keyLt_irrefl] at this
  cases this
/-- The slot of a key; the empty one where there is none. -/
def slK (t : List S32) (kx : S29) : S32 := match atK t kx with | some i => slotAt t i | none => z32
theorem specFind (t : List S32) (hv : vtB t = true) (hs : ∀ x ∈ t, smSlot' x) (kx : S29) : Ev (fun k => spec_l4Find.f k t kx.f0 kx.f1) (tupS (slK t kx)) := by
 unfold spec_l4Find.f
 have hl := vtB_len hv
 refine cont_loop (fun k i => spec_l4Find.l0 k (i : Nat) t kx.f0 kx.f1) t.length (fun i => !kEq (slotAt t i).f0 kx) (tupS (slK t kx)) (fun _ => some (tupS z32)) ?_ ?_ ?_ _ ?_ ?_
 ·
  intro i hi ho r hr
  refine Ev.shift ?_
  have ho' : kEq (slotAt t i).f0 kx = false := by simpa using ho
  have e := sameKey_f (slotAt t i).f0 kx
  rw [ho'] at e
  simp only [spec_l4Find.l0, if_pos (show (i : Int) < (t.length : Int) by omega), if_pos (show (0 : Int) ≤ (i : Int) by omega), e, Option.bind_some, Bool.false_eq_true, if_false, wrap_nat i (by omega)]
  exact hr
 ·
  intro i hi ho
  refine Ev.shift ?_
  have ho' : kEq (slotAt t i).f0 kx = true := by simpa using ho
  have e := sameKey_f (slotAt t i).f0 kx
  rw [ho'] at e
  simp only [spec_l4Find.l0, if_pos (show (i : Int) < (t.length : Int) by omega), if_pos (show (0 : Int) ≤ (i : Int) by omega), e, Option.bind_some, if_true]
  have hk := kEq_iff.1 ho'
  have e2 : slK t kx = slotAt t i := by unfold slK; rw [atK_of hv hi hk]
  rw [e2]
  exact Ev.bind (specCopySlot _ (hs _ (slotAt_mem t hi)).2.2.1) (Ev.now _)
 · intro r hr
   refine Ev.shift ?_
   simp only [spec_l4Find.l0, if_neg (show ¬ (t.length : Int) < (t.length : Int) by omega)]
   exact hr
 ·
  intro h
  have e : slK t kx = z32 := by
   unfold slK
   cases ha : atK t kx with
   | none => rfl
   | some i =>
    obtain ⟨hi, h1, _⟩ := atK_some ha
    have := h i hi
    rw [kEq_iff.2 h1] at this
    cases this
  rw [e]
  exact Ev.now _
 rintro _
 rfl
theorem rowAt {t : List S32} {i : Nat} (h : i < t.length) : rd_T101 (t.map rowS) (i : Int) = rowS (slotAt t i) := by
 rw [slotAt_get h]
 unfold rd_T101
 rw [Int.toNat_natCast, List.getD_eq_getElem?_getD, List.getElem?_eq_getElem (by simpa using h)]
 simp
theorem cmpK_neg (a b : S29) : cmpK a b < 0 ↔ keyLt a b = true := by
 have h := cmpK_lt a b
 constructor
 · intro k
   cases e : keyLt a b
   · have := h.2 e; omega
   rfl
 intro k
 have : ¬ cmpK a b ≥ 0 := fun g => by rw [h.1 g] at k; cases k
 omega
theorem cmpK_zero (a b : S29) : (cmpK a b == 0) = kEq a b := by
 rw [Bool.eq_iff_iff, beq_iff_eq, kEq_iff]
 constructor
 ·
  intro h
  refine keyLt_tri ((cmpK_lt a b).1 (by omega)) ?_
  cases e : keyLt b a
  · rfl
  exfalso
  unfold cmpK at h
  unfold keyLt at e
  by_cases h0 : b.f0 = a.f0
  · rw [if_pos h0] at e
    rw [if_neg (by omega), if_neg (by omega)] at h
    cases g : ltB a.f1 b.f1
    · rw [g, if_neg (by simp), e, if_pos rfl] at h; cases h
    rw [g, if_pos rfl] at h; cases h
  rw [if_neg h0] at e
  have := of_decide_eq_true e
  rw [if_neg (by omega), if_pos (by omega)] at h
  cases h
 rintro rfl
 unfold cmpK
 rw [if_neg (by omega), if_neg (by omega), ltB_irrefl]
 rfl
theorem bs_ev (t : List S32) (hv : vtB t = true) (kx : S29) : ∀ (d lo hi : Nat), hi - lo ≤ d → lo ≤ hi → hi ≤ t.length → (∀ j, j < lo → keyLt (slotAt t j).f0 kx = true) → (∀ j, hi ≤ j → j < t.length → keyLt (slotAt t j).f0 kx = false) →
 ∃ m : Nat, Ev (fun k => slices_BinarySearchFunc_impl_row_impl_row_impl_Key.bsL k (t.map rowS) kx.f0 kx.f1 lo hi) (m : Int) ∧ m ≤ t.length ∧ (∀ j, j < m → keyLt (slotAt t j).f0 kx = true) ∧ (∀ j, m ≤ j → j < t.length → keyLt (slotAt t j).f0 kx = false) := by
 have hl := vtB_len hv
 intro d
 induction d with
 | zero =>
  intro lo hi hd h0 h1 ha hb
  obtain rfl : lo = hi := by omega
  refine ⟨lo, Ev.shift ?_, h1, ha, hb⟩
  simp only [slices_BinarySearchFunc_impl_row_impl_row_impl_Key.bsL, List.length_map, if_pos (show 0 ≤ (lo : Int) ∧ (lo : Int) ≤ (t.length : Int) ∧ t.length ≤ 4096 from ⟨by omega, by omega, by omega⟩)]
  simp only [if_neg (show ¬ (lo : Int) < (lo : Int) by omega)]
  exact Ev.now _
 | succ d ih =>
  intro lo hi hd h0 h1 ha hb
  by_cases hlt : lo < hi
  ·
   have hm : ((lo : Int) + (hi : Int)) / 2 = (((lo + hi) / 2 : Nat) : Int) := by omega
   obtain ⟨mid, rfl⟩ : ∃ mid, mid = (lo + hi) / 2 := ⟨_, rfl⟩
   have hmt : (lo + hi) / 2 < t.length := by omega
   have hc := implCompareKeys (slotAt t ((lo + hi) / 2)).f0 kx
   by_cases c : keyLt (slotAt t ((lo + hi) / 2)).f0 kx = true
   ·
    obtain ⟨m, hm1, hm2, hm3, hm4⟩ := ih ((lo + hi) / 2 + 1) hi (by omega) (by omega) h1 (fun j hj => by
     rcases Nat.lt_or_ge j ((lo + hi) / 2) with g | g
     · exact keyLt_trans (vtB_lt' hv g hmt) c
     obtain rfl : j = (lo + hi) / 2 := by omega
     exact c) hb
    refine ⟨m, Ev.shift ?_, hm2, hm3, hm4⟩
    simp only [slices_BinarySearchFunc_impl_row_impl_row_impl_Key.bsL, List.length_map, if_pos (show 0 ≤ (lo : Int) ∧ (hi : Int) ≤ (t.length : Int) ∧ t.length ≤ 4096 from ⟨by omega, by omega, by omega⟩)]
    simp only [if_pos (show (lo : Int) < (hi : Int) by omega), hm, rowAt hmt]
    refine Ev.bind hc ?_
    simp only [if_pos ((cmpK_neg _ _).2 c)]
    exact hm1
   have c' : keyLt (slotAt t ((lo + hi) / 2)).f0 kx = false := by simpa using c
   obtain ⟨m, hm1, hm2, hm3, hm4⟩ := ih lo ((lo + hi) / 2) (by omega) (by omega) (by omega) ha (fun j hj hjt => by
    cases g : keyLt (slotAt t j).f0 kx
    · rfl
    rcases Nat.lt_or_ge ((lo + hi) / 2) j with q | q
    · rw [keyLt_trans (vtB_lt' hv q hjt) g] at c'
      cases c'
    obtain rfl : j = (lo + hi) / 2 := by omega
    rw [g] at c'
    cases c')
   refine ⟨m, Ev.shift ?_, hm2, hm3, hm4⟩
   simp only [slices_BinarySearchFunc_impl_row_impl_row_impl_Key.bsL, List.length_map, if_pos (show 0 ≤ (lo : Int) ∧ (hi : Int) ≤ (t.length : Int) ∧ t.length ≤ 4096 from ⟨by omega, by omega, by omega⟩)]
   simp only [if_pos (show (lo : Int) < (hi : Int) by omega), hm, rowAt hmt]
   refine Ev.bind hc ?_
   simp only [if_neg (fun q => c ((cmpK_neg _ _).1 q))]
   exact hm1
  exact ih lo hi (by omega) h0 h1 ha hb
/-- Where a key stands or would stand. -/
theorem search_ev (t : List S32) (hv : vtB t = true) (kx : S29) : ∃ m : Nat, Ev (fun k => slices_BinarySearchFunc_impl_row_impl_row_impl_Key.f k (t.map rowS) kx.f0 kx.f1) ((m : Int), (atK t kx).isSome) ∧ m ≤ t.length ∧ (∀ j, j < m → keyLt (slotAt t j).f0 kx = true) ∧ (∀ j, m ≤ j → j < t.length → keyLt (slotAt t j).f0 kx = false) ∧ (∀ i, atK t kx = some i → i = m) := by
 have hl := vtB_len hv
 obtain ⟨m, h1, h2, h3, h4⟩ := bs_ev t hv kx t.length 0 t.length (by omega) (by omega) (Nat.le_refl _) (fun j hj => by omega) (fun j hj hjt => by omega)
 have hat : ∀ i, atK t kx = some i → i = m := fun i hi => by
  obtain ⟨g1, g2, _⟩ := atK_some hi
  rcases Nat.lt_trichotomy i m with q | q | q
  · have := h3 i q
    rw [g2, keyLt_irrefl] at this
    cases this
  · exact q
  have hq := vtB_lt' hv q g1
  rw [g2] at hq
  rw [h4 m (Nat.le_refl _) (by omega)] at hq
  cases hq
 refine ⟨m, ?_, h2, h3, h4, hat⟩
 unfold slices_BinarySearchFunc_impl_row_impl_row_impl_Key.f
 have h1' : Ev (fun k => slices_BinarySearchFunc_impl_row_impl_row_impl_Key.bsL k (t.map rowS) kx.f0 kx.f1 0 ((t.map rowS).length : Int)) (m : Int) := by rw [List.length_map]; exact h1
 refine Ev.bind h1' ?_
 simp only [List.length_map, if_pos (show 0 ≤ (m : Int) ∧ t.length ≤ 4096 from ⟨by omega, by omega⟩)]
 by_cases c : m < t.length
 ·
  simp only [if_pos (show (m : Int) < (t.length : Int) by omega), rowAt c]
  refine Ev.bind (implCompareKeys (slotAt t m).f0 kx) ?_
  rw [cmpK_zero]
  refine Ev.const (congrArg (fun b => some ((m : Int), b)) ?_)
  cases e : kEq (slotAt t m).f0 kx
  ·
   cases g : atK t kx with
   | none => rfl
   | some i =>
    obtain rfl := hat i g
    rw [kEq_iff.2 (atK_some g).2.1] at e
    cases e
  rw [atK_of hv c (kEq_iff.1 e)]
  rfl
 simp only [if_neg (show ¬ (m : Int) < (t.length : Int) by omega)]
 refine Ev.const (congrArg (fun b => some ((m : Int), b)) ?_)
 cases g : atK t kx with
 | none => rfl
 | some i =>
  have := hat i g
  have := (atK_some g).1
  omega
theorem implFind (t : List S32) (hv : vtB t = true) (kx : S29) : Ev (fun k => impl_ordered_impl_Key_impl_row_find.f k (t.map rowS) kx.f0 kx.f1) (Option.map (fun (i : Nat) => (i : Int)) (atK t kx)) := by
 obtain ⟨m, h1, h2, _, _, h5⟩ := search_ev t hv kx
 unfold impl_ordered_impl_Key_impl_row_find.f
 refine Ev.bind h1 ?_
 cases g : atK t kx with
 | none =>
  simp only [Option.isSome_none, Bool.false_eq_true, if_false]
  exact Ev.now _
 | some i =>
  obtain rfl := h5 i g
  have := (atK_some g).1
  simp only [Option.isSome_some, if_true, List.length_map, if_pos (show 0 ≤ (i : Int) ∧ (i : Int) < (t.length : Int) from ⟨by omega, by omega⟩)]
  exact Ev.now _
theorem wrap_i (i : Nat) (h : i < 9223372036854775807) : wrap64 ((i : Int) + 1) = ((i + 1 : Nat) : Int) := wrap_nat i h
theorem copyS (x : S32) (hl : x.f3.length ≤ 1048576) : Ev (fun k => spec_l4CopySlot.f k x.f0.f0 x.f0.f1 x.f1 x.f2 x.f3 x.f4 x.f5 x.f6 x.f7) (tupS x) := specCopySlot x hl
theorem slotAt_drop (t : List S32) (i : Nat) (h : i < t.length) : t.drop i = slotAt t i :: t.drop (i + 1) := by rw [List.drop_eq_getElem_cons h, slotAt_get h]
theorem rowTS (s : S32) : rowT (rowS s) = s := rfl
theorem map_rowTS (t : List S32) : (t.map rowS).map rowT = t := by rw [List.map_map]; exact List.map_id'' (fun s => rowTS s) t
theorem table_of (t : List S32) (hl : t.length ≤ 4096) (hs : ∀ x ∈ t, smSlot' x) : impl_rows_table.f (t.map rowS) = some t := by
 unfold impl_rows_table.f
 have hb : ∀ s ∈ t.map rowS, s.f4.length < 4398046511104 := fun s h => by
  obtain ⟨x, hx, rfl⟩ := List.mem_map.1 h
  have := (hs x hx).2.2.1
  show x.f3.length < _
  omega
 rw [if_pos ⟨by rw [List.length_map]; omega, hb⟩, map_rowTS]
theorem set_rows (t : List S32) (i : Nat) (s : S32) : (t.map rowS).set i (rowS s) = (t.set i s).map rowS := (List.map_set ..).symm
theorem sm_set {t : List S32} (hs : ∀ x ∈ t, smSlot' x) (i : Nat) {s : S32} (h : smSlot' s) : ∀ x ∈ t.set i s, smSlot' x := fun x hx => by
 rcases List.mem_or_eq_of_mem_set hx with g | rfl
 · exact hs x g
 exact h
theorem workerOk_f (wk : Int) : impl_workerOk.f wk = some (decide (0 ≤ wk ∧ wk < 16)) := by
 unfold impl_workerOk.f
 by_cases c : wk ≥ 0
 · rw [if_pos c]
   congr 1
   rw [Bool.eq_iff_iff, decide_eq_true_iff, decide_eq_true_iff]
   exact ⟨fun h => ⟨c, h⟩, fun h => h.2⟩
 rw [if_neg c, decide_eq_false (fun h => c h.1)]
theorem specWorkerOk_f (wk : Int) : spec_l4WorkerOk.f wk = some (decide (0 ≤ wk ∧ wk < 16)) := workerOk_f wk
theorem copy_loop (t : List S32) (hl : t.length ≤ 1048576) (hs : ∀ x ∈ t, smSlot' x) : ∀ (d i : Nat) (out : List S32), t.length - i = d → i ≤ t.length → out.length ≤ i → Ev (fun k => spec_l4Copy.l0 k out (i : Int) t) (out ++ t.drop i) := by
 intro d
 induction d with
 | zero =>
  intro i out hd hi ho
  obtain rfl : i = t.length := by omega
  refine Ev.shift ?_
  simp only [spec_l4Copy.l0, if_neg (show ¬ (t.length : Int) < (t.length : Int) by omega), List.drop_length, List.append_nil]
  exact Ev.now _
 | succ d ih =>
  intro i out hd hi ho
  have hlt : i < t.length := by omega
  refine Ev.shift ?_
  simp only [spec_l4Copy.l0, if_pos (show (i : Int) < (t.length : Int) by omega), if_pos (show (0 : Int) ≤ (i : Int) by omega), wrap_i i (by omega)]
  refine Ev.bind (copyS (slotAt t i) (hs _ (slotAt_mem t hlt)).2.2.1) ?_
  simp only [if_pos (show out.length < 1353245080339 by omega)]
  have := ih (i + 1) (out ++ [slotAt t i]) (by omega) (by omega) (by simp; omega)
  rw [slotAt_drop t i hlt]
  simp only [List.append_assoc, List.singleton_append] at this
  exact this
theorem copy_ev (t : List S32) (hl : t.length ≤ 1048576) (hs : ∀ x ∈ t, smSlot' x) : Ev (fun k => spec_l4Copy.f k t) t := by
 unfold spec_l4Copy.f
 simpa using copy_loop t hl hs t.length 0 [] (by omega) (by omega) (by simp)
/-- What l4Put's loop adds. -/
def ins (s : S32) : List S32 → Bool → List S32
 | [], dn => if dn = true then [] else [s]
 | x :: l, dn => if dn = false ∧ keyLt x.f0 s.f0 = false then (if kEq x.f0 s.f0 = true then s :: ins s l true else s :: x :: ins s l true) else (if kEq x.f0 s.f0 = true then ins s l dn else x :: ins s l dn)
theorem ins_cons (s x : S32) (l : List S32) (dn : Bool) : ins s (x :: l) dn = (if dn = false ∧ keyLt x.f0 s.f0 = false then (if kEq x.f0 s.f0 = true then s :: ins s l true else s :: x :: ins s l true) else (if kEq x.f0 s.f0 = true then ins s l dn else x :: ins s l dn)) := rfl
theorem pick_len (c : Bool) (out : List S32) (x : S32) : (if c = true then out else out ++ [x]).length ≤ out.length + 1 := by cases c <;> simp
theorem ins_new (s x : S32) (l out : List S32) (h : keyLt x.f0 s.f0 = false) : (if kEq x.f0 s.f0 = true then out ++ [s] else (out ++ [s]) ++ [x]) ++ ins s l true = out ++ ins s (x :: l) false := by
 rw [ins_cons, if_pos (show false = false ∧ keyLt x.f0 s.f0 = false from ⟨rfl, h⟩)]
 cases kEq x.f0 s.f0 <;> simp
theorem ins_old (s x : S32) (l out : List S32) (dn : Bool) (h : ¬ (dn = false ∧ keyLt x.f0 s.f0 = false)) : (if kEq x.f0 s.f0 = true then out else out ++ [x]) ++ ins s l dn = out ++ ins s (x :: l) dn := by
 rw [ins_cons, if_neg h]
 cases kEq x.f0 s.f0 <;> simp
theorem put_tail (t : List S32) (s : S32) (i : Nat) (hi : i < t.length) (hl : t.length ≤ 1048576) (hx : (slotAt t i).f3.length ≤ 1048576) (out : List S32) (dn : Bool) (ho : out.length ≤ 2 * i + 1) (r : List S32)
 (ih : ∀ out' : List S32, out' = (if kEq (slotAt t i).f0 s.f0 = true then out else out ++ [slotAt t i]) → Ev (fun k => spec_l4Put.l0 k out' dn ((i + 1 : Nat) : Int) t s.f0.f0 s.f0.f1 s.f1 s.f2 s.f3 s.f4 s.f5 s.f6 s.f7) r) :
 Ev (fun k => spec_l4Put.j2 k out dn (i : Int) t s.f0.f0 s.f0.f1 s.f1 s.f2 s.f3 s.f4 s.f5 s.f6 s.f7 (slotAt t i).f0.f0 (slotAt t i).f0.f1 (slotAt t i).f1 (slotAt t i).f2 (slotAt t i).f3 (slotAt t i).f4 (slotAt t i).f5 (slotAt t i).f6 (slotAt t i).f7) r := by
 refine Ev.shift ?_
 simp only [spec_l4Put.j2, sameKey_f, Option.bind_some, wrap_i i (by omega)]
 cases c : kEq (slotAt t i).f0 s.f0
 · simp only [Bool.false_eq_true, if_false]
   refine Ev.bind (copyS (slotAt t i) hx) ?_
   simp only [if_pos (show out.length < 1353245080339 by omega)]
   exact ih _ (by rw [c, if_neg (by decide)])
 simp only [if_true]
 exact ih _ (by rw [c, if_pos rfl])
theorem put_loop (t : List S32) (hl : t.length ≤ 1048576) (hs : ∀ x ∈ t, smSlot' x) (s : S32) (hx : s.f3.length ≤ 1048576) : ∀ (d i : Nat) (out : List S32) (dn : Bool), t.length - i = d → i ≤ t.length → out.length ≤ 2 * i →
 Ev (fun k => spec_l4Put.l0 k out dn (i : Int) t s.f0.f0 s.f0.f1 s.f1 s.f2 s.f3 s.f4 s.f5 s.f6 s.f7) (out ++ ins s (t.drop i) dn) := by
 intro d
 induction d with
 | zero =>
  intro i out dn hd hi ho
  obtain rfl : i = t.length := by omega
  refine Ev.shift ?_
  simp only [spec_l4Put.l0, if_neg (show ¬ (t.length : Int) < (t.length : Int) by omega), List.drop_length, ins]
  cases dn
  · simp only [Bool.false_eq_true, if_false]
    refine Ev.bind (copyS s hx) ?_
    simp only [if_pos (show out.length < 1353245080339 by omega)]
    exact Ev.now _
  simp only [if_true, List.append_nil]
  exact Ev.now _
 | succ d ih =>
  intro i out dn hd hi ho
  have hlt : i < t.length := by omega
  have hm := hs _ (slotAt_mem t hlt)
  refine Ev.shift ?_
  rw [slotAt_drop t i hlt]
  simp only [spec_l4Put.l0, if_pos (show (i : Int) < (t.length : Int) by omega), if_pos (show (0 : Int) ≤ (i : Int) by omega)]
  cases dn
  ·
   simp only [Bool.false_eq_true, if_false]
   refine Ev.bind (specKeyLess (slotAt t i).f0 s.f0 (by have := hm.1; omega)) ?_
   cases c : keyLt (slotAt t i).f0 s.f0
   ·
    simp only [Bool.not_false]
    refine Ev.shift ?_
    simp only [spec_l4Put.j1, if_true]
    refine Ev.bind (copyS s hx) ?_
    simp only [if_pos (show out.length < 1353245080339 by omega)]
    refine put_tail t s i hlt hl hm.2.2.1 (out ++ [s]) true (by simp; omega) _ (fun out' he => ?_)
    have := ih (i + 1) out' true (by omega) (by omega) (by rw [he]; have := pick_len (kEq (slotAt t i).f0 s.f0) (out ++ [s]) (slotAt t i); have e2 : (out ++ [s]).length = out.length + 1 := List.length_append; omega)
    rw [he, ins_new s _ _ _ c] at this
    rw [he]
    exact this
   simp only [Bool.not_true]
   refine Ev.shift ?_
   simp only [spec_l4Put.j1, Bool.false_eq_true, if_false]
   refine put_tail t s i hlt hl hm.2.2.1 out false (by omega) _ (fun out' he => ?_)
   have := ih (i + 1) out' false (by omega) (by omega) (by rw [he]; have := pick_len (kEq (slotAt t i).f0 s.f0) out (slotAt t i); omega)
   rw [he, ins_old s _ _ _ false (fun g => by rw [c] at g; exact absurd g.2 (by decide))] at this
   rw [he]
   exact this
  simp only [if_true]
  refine Ev.shift ?_
  simp only [spec_l4Put.j1, Bool.false_eq_true, if_false]
  refine put_tail t s i hlt hl hm.2.2.1 out true (by omega) _ (fun out' he => ?_)
  have := ih (i + 1) out' true (by omega) (by omega) (by rw [he]; have := pick_len (kEq (slotAt t i).f0 s.f0) out (slotAt t i); omega)
  rw [he, ins_old s _ _ _ true (fun g => absurd g.1 (by decide))] at this
  rw [he]
  exact this
theorem put_ev (t : List S32) (hl : t.length ≤ 1048576) (hs : ∀ x ∈ t, smSlot' x) (s : S32) (hx : s.f3.length ≤ 1048576) : Ev (fun k => spec_l4Put.f k t s.f0.f0 s.f0.f1 s.f1 s.f2 s.f3 s.f4 s.f5 s.f6 s.f7) (ins s t false) := by
 unfold spec_l4Put.f
 simpa using put_loop t hl hs s hx t.length 0 [] false (by omega) (by omega) (by simp)
theorem kEq_lt {a b : S29} (h : keyLt a b = true) : kEq a b = false := by
 cases c : kEq a b
 · rfl
 rw [kEq_iff.1 c, keyLt_irrefl] at h; cases h
theorem ins_done (s : S32) (l : List S32) (h : ∀ x ∈ l, x.f0 ≠ s.f0) : ins s l true = l := by
 induction l with
 | nil => rfl
 | cons x l ih =>
  rw [ins_cons, if_neg (fun g => absurd g.1 (by decide)), if_neg (fun g => h x (List.mem_cons_self ..) (kEq_iff.1 g)), ih (fun y hy => h y (List.mem_cons_of_mem _ hy))]
theorem ins_front (s : S32) (a b : List S32) (h : ∀ x ∈ a, keyLt x.f0 s.f0 = true) : ins s (a ++ b) false = a ++ ins s b false := by
 induction a with
 | nil => rfl
 | cons x a ih =>
  have hx := h x (List.mem_cons_self ..)
  rw [List.cons_append]
  rw [ins_cons, if_neg (fun g => by rw [hx] at g; exact absurd g.2 (by decide)), if_neg (by rw [kEq_lt hx]; decide), ih (fun y hy => h y (List.mem_cons_of_mem _ hy))]
  rfl
theorem mem_take_slot {t : List S32} {i : Nat} {x : S32} (h : x ∈ t.take i) : ∃ j, j < i ∧ j < t.length ∧ x = slotAt t j := by
 obtain ⟨j, hj, rfl⟩ := List.mem_iff_getElem.1 h
 rw [List.length_take] at hj
 exact ⟨j, by omega, by omega, by rw [List.getElem_take, slotAt_get (by omega)]⟩
theorem mem_drop_slot {t : List S32} {i : Nat} {x : S32} (h : x ∈ t.drop i) : ∃ j, i ≤ j ∧ j < t.length ∧ x = slotAt t j := by
 obtain ⟨j, hj, rfl⟩ := List.mem_iff_getElem.1 h
 rw [List.length_drop] at hj
 exact ⟨i + j, by omega, by omega, by rw [List.getElem_drop, slotAt_get (by omega)]⟩
/-- A slot put where its key stands. -/
theorem ins_some {t : List S32} (hv : vtB t = true) (s : S32) {i : Nat} (h : atK t s.f0 = some i) : ins s t false = t.set i s := by
 obtain ⟨hi, hk, _⟩ := atK_some h
 have e : t = t.take i ++ slotAt t i :: t.drop (i + 1) := by rw [← slotAt_drop t i hi, List.take_append_drop]
 have h1 : ins s t false = t.take i ++ ins s (slotAt t i :: t.drop (i + 1)) false := by
  conv => lhs; rw [e]
  refine ins_front s _ _ (fun x hx => ?_)
  obtain ⟨j, hj, hjt, rfl⟩ := mem_take_slot hx
  rw [← hk]
  exact vtB_lt' hv hj hi
 rw [h1]
 rw [ins_cons, if_pos ⟨rfl, by rw [hk, keyLt_irrefl]⟩, if_pos (kEq_iff.2 hk), ins_done s _ (fun x hx => ?_), List.set_eq_take_append_cons_drop, if_pos hi]
 obtain ⟨j, hj, hjt, rfl⟩ := mem_drop_slot hx
 intro e2
 have := vtB_lt' hv (show i < j by omega) hjt
 rw [hk, e2, keyLt_irrefl] at this
 cases this
/-- A slot put where its key would stand. -/
theorem ins_none {t : List S32} (s : S32) (h : atK t s.f0 = none) (m : Nat) (hm : m ≤ t.length) (h1 : ∀ j, j < m → keyLt (slotAt t j).f0 s.f0 = true) (h2 : ∀ j, m ≤ j → j < t.length → keyLt (slotAt t j).f0 s.f0 = false) : ins s t false = t.take m ++ s :: t.drop m := by
 have e : ins s t false = t.take m ++ ins s (t.drop m) false := by
  conv => lhs; rw [← List.take_append_drop m t]
  refine ins_front s _ _ (fun x hx => ?_)
  obtain ⟨j, hj, hjt, rfl⟩ := mem_take_slot hx
  exact h1 j hj
 rw [e]
 congr 1
 by_cases c : m < t.length
 · rw [slotAt_drop t m c]
   rw [ins_cons, if_pos ⟨rfl, h2 m (Nat.le_refl _) c⟩, if_neg (fun g => atK_none h m c (kEq_iff.1 g)), ins_done s _ (fun x hx => ?_)]
   obtain ⟨j, hj, hjt, rfl⟩ := mem_drop_slot hx
   exact atK_none h j hjt
 rw [List.drop_eq_nil_of_le (by omega)]
 rfl
theorem kyB_kind {kx : S29} (h : kyB kx = true) : kx.f0 ≠ 0 := by
 intro e
 unfold kyB at h
 rw [e] at h
 simp at h
/-- The text of a mark. -/
def mtL : Nat → Int → ByteArray → ByteArray
 | 0, _, s => (⟨#[109]⟩ : ByteArray) ++ s
 | n + 1, x, s => if x > 0 then mtL n (x / 10) (strOfNums [wrap64 (48 + Int.tmod x 10) % 256] ++ s) else (⟨#[109]⟩ : ByteArray) ++ s
def mt (x : Int) : ByteArray := if x ≤ 0 then (⟨#[109, 48]⟩ : ByteArray) else mtL x.toNat x (⟨#[]⟩ : ByteArray)
theorem markText_loop : ∀ (n : Nat) (x : Int) (s : ByteArray), 0 ≤ x → x ≤ n → s.size + n ≤ 4611686018427387904 → Ev (fun k => laws_markText.l0 k x s) (mtL n x s) := by
 intro n
 induction n with
 | zero =>
  intro x s h0 h1 h2
  refine Ev.shift ?_
  simp only [laws_markText.l0, mtL, if_neg (show ¬ x > 0 by omega), if_pos (show 1 + s.size ≤ 9223372036854775807 by omega)]
  exact Ev.now _
 | succ n ih =>
  intro x s h0 h1 h2
  by_cases c : x > 0
  ·
   have e : (strOfNums [wrap64 (48 + Int.tmod x 10) % 256]).size = 1 := by rw [strOfNums_size]; rfl
   have hd : Int.tdiv x 10 = x / 10 := Int.tdiv_eq_ediv_of_nonneg h0
   have ew : wrap64 (Int.tdiv x 10) = x / 10 := by rw [hd]; unfold wrap64; omega
   have ht := ih (x / 10) (strOfNums [wrap64 (48 + Int.tmod x 10) % 256] ++ s) (by omega) (by omega) (by rw [ByteArray.size_append, e]; omega)
   refine Ev.shift ?_
   simp only [laws_markText.l0, mtL, if_pos c, Option.bind_some, e, if_pos (show 1 + s.size ≤ 9223372036854775807 by omega), ew]
   exact ht
  refine Ev.shift ?_
  simp only [laws_markText.l0, mtL, if_neg c, if_pos (show 1 + s.size ≤ 9223372036854775807 by omega)]
  exact Ev.now _
theorem markText_ev (x : Int) (h : x < 4611686018427387904) : Ev (fun k => laws_markText.f k x) (mt x) := by
 unfold laws_markText.f mt
 by_cases c : x ≤ 0
 · simp only [if_pos c]; exact Ev.now _
 simp only [if_neg c]
 exact markText_loop x.toNat x ⟨#[]⟩ (by omega) (by omega) (by show 0 + _ ≤ _; omega)
theorem wrap_up (x : Int) (h0 : 0 ≤ x) (h1 : x < 4611686018427387904) : wrap64 (x + 1) = x + 1 := by unfold wrap64; omega
/-- Keys, marked from x on. -/
def mkKs : List S29 → Int → List S29
 | [], _ => []
 | _ :: l, x => ⟨x, mt (x + 1)⟩ :: mkKs l (x + 2)
theorem mkKs_length (l : List S29) : ∀ x, (mkKs l x).length = l.length := by
 induction l with
 | nil => intro x; rfl
 | cons a l ih => intro x; simp [mkKs, ih]
theorem rdK (a : List S29) (s : S29) (l : List S29) : rd_T29 (a ++ s :: l) (a.length : Int) = s := by
 unfold rd_T29
 rw [Int.toNat_natCast, List.getD_eq_getElem?_getD, List.getElem?_append_right (Nat.le_refl _)]
 simp
theorem setK {α : Type} (a : List α) (s s' : α) (l : List α) : (a ++ s :: l).set a.length s' = a ++ s' :: l := by
 rw [List.set_append_right _ _ (Nat.le_refl _)]
 simp
theorem markKeyS_ev (l : List S29) : ∀ (a : List S29) (x : Int), 0 ≤ x → x + 2 * l.length < 4611686018427387904 → a.length + l.length < 4611686018427387904 →
 Ev (fun k => laws_markKeyS.l0 k (a ++ l) x (a.length : Int)) (x + 2 * l.length, a ++ mkKs l x) := by
 induction l with
 | nil =>
  intro a x h0 h1 h2
  refine Ev.shift ?_
  simp only [laws_markKeyS.l0, List.append_nil, if_neg (show ¬ (a.length : Int) < (a.length : Int) by omega), mkKs, List.length_nil]
  have e : x + 2 * ((0 : Nat) : Int) = x := by omega
  rw [e]
  exact Ev.now _
 | cons s l ih =>
  intro a x h0 h1 h2
  rw [List.length_cons] at h1 h2
  refine Ev.shift ?_
  have hl : (a.length : Int) < ((a ++ s :: l).length : Int) := by rw [List.length_append, List.length_cons]; omega
  simp only [laws_markKeyS.l0, if_pos hl, if_pos (show (0 : Int) ≤ (a.length : Int) by omega), Option.bind_some, wrap_up x h0 (by omega), wrap_up (x + 1) (by omega) (by omega), wrap_nat a.length (by omega), Int.toNat_natCast, rdK, setK]
  refine Ev.bind (markText_ev (x + 1) (by omega)) ?_
  have := ih (a ++ [⟨x, mt (x + 1)⟩]) (x + 2) (by omega) (by omega) (by simp; omega)
  simp only [List.append_assoc, List.singleton_append, List.length_append, List.length_cons, List.length_nil] at this
  rw [show x + 1 + 1 = x + 2 by omega, List.length_cons, show x + 2 * ((l.length + 1 : Nat) : Int) = x + 2 + 2 * (l.length : Int) by omega]
  exact this
theorem heldKeyS_ev (l : List S29) : ∀ (a : List S29) (x : Int), 0 ≤ x → x + 2 * l.length < 4611686018427387904 → a.length + l.length < 4611686018427387904 →
 Ev (fun k => laws_heldKeyS.l0 k (a ++ mkKs l x) x (a.length : Int)) (x + 2 * l.length) := by
 induction l with
 | nil =>
  intro a x h0 h1 h2
  refine Ev.shift ?_
  simp only [laws_heldKeyS.l0, mkKs, List.append_nil, if_neg (show ¬ (a.length : Int) < (a.length : Int) by omega), List.length_nil]
  have e : x + 2 * ((0 : Nat) : Int) = x := by omega
  rw [e]
  exact Ev.now _
 | cons s l ih =>
  intro a x h0 h1 h2
  rw [List.length_cons] at h1 h2
  refine Ev.shift ?_
  have hl : (a.length : Int) < ((a ++ mkKs (s :: l) x).length : Int) := by rw [List.length_append, mkKs_length, List.length_cons]; omega
  simp only [laws_heldKeyS.l0, if_pos hl, if_pos (show (0 : Int) ≤ (a.length : Int) by omega), wrap_up x h0 (by omega), wrap_up (x + 1) (by omega) (by omega), wrap_nat a.length (by omega)]
  simp only [mkKs, rdK, if_true]
  refine Ev.bind (markText_ev (x + 1) (by omega)) ?_
  simp only [if_true]
  have := ih (a ++ [⟨x, mt (x + 1)⟩]) (x + 2) (by omega) (by omega) (by simp; omega)
  simp only [List.append_assoc, List.singleton_append, List.length_append, List.length_cons, List.length_nil] at this
  rw [show x + 1 + 1 = x + 2 by omega, List.length_cons, show x + 2 * ((l.length + 1 : Nat) : Int) = x + 2 + 2 * (l.length : Int) by omega]
  exact this
/-- A marked slot; slots, marked from x on; the mark behind them. -/
def mkS (s : S32) (x : Int) : S32 := ⟨⟨x, mt (x + 1)⟩, (Int.tmod (x + 2) 3 == 0), mt (x + 3), mkKs s.f3 (x + 4), x + 4 + 2 * s.f3.length, x + 4 + 2 * s.f3.length + 1, x + 4 + 2 * s.f3.length + 2, x + 4 + 2 * s.f3.length + 3⟩
def mkN : List S32 → Int → Int
 | [], x => x
 | s :: l, x => mkN l (x + 4 + 2 * s.f3.length + 4)
def mkSs : List S32 → Int → List S32
 | [], _ => []
 | s :: l, x => mkS s x :: mkSs l (x + 4 + 2 * s.f3.length + 4)
theorem mkSs_length (l : List S32) : ∀ x, (mkSs l x).length = l.length := by
 induction l with
 | nil => intro x; rfl
 | cons a l ih => intro x; simp [mkSs, ih]
theorem mkN_le (l : List S32) : ∀ x, x ≤ mkN l x := by
 induction l with
 | nil => intro x; exact Int.le_refl _
 | cons a l ih => intro x; have := ih (x + 4 + 2 * a.f3.length + 4); unfold mkN; omega
theorem mkN_lt (l : List S32) (h : ∀ s ∈ l, s.f3.length ≤ 1048576) : ∀ x, mkN l x ≤ x + 2097160 * l.length := by
 induction l with
 | nil => intro x; simp [mkN]
 | cons a l ih =>
  intro x
  have h1 := ih (fun s hs => h s (List.mem_cons_of_mem _ hs)) (x + 4 + 2 * a.f3.length + 4)
  have h2 := h a (List.mem_cons_self ..)
  unfold mkN
  rw [List.length_cons]
  omega
theorem rdS (a : List S32) (s : S32) (l : List S32) : rd_T32 (a ++ s :: l) (a.length : Int) = s := by
 unfold rd_T32
 rw [Int.toNat_natCast, List.getD_eq_getElem?_getD, List.getElem?_append_right (Nat.le_refl _)]
 simp
theorem mkSl_ev (s : S32) (x : Int) (h0 : 0 ≤ x) (h1 : x + 4 + 2 * s.f3.length + 4 < 4611686018427387904) (h2 : s.f3.length < 4611686018427387904) : Ev (fun k => mkSl k s x) (x + 4 + 2 * s.f3.length + 4, mkS s x) := by
 unfold mkSl mX
 simp only [wrap_up x h0 (by omega), wrap_up (x + 1) (by omega) (by omega), wrap_up (x + 1 + 1) (by omega) (by omega), wrap_up (x + 1 + 1 + 1) (by omega) (by omega)]
 refine Ev.bind (markText_ev (x + 1) (by omega)) ?_
 refine Ev.bind (markText_ev (x + 1 + 1 + 1) (by omega)) ?_
 have hk : Ev (fun k => laws_markKeyS.l0 k s.f3 (x + 4) 0) (x + 4 + 2 * s.f3.length, mkKs s.f3 (x + 4)) := by simpa using markKeyS_ev s.f3 [] (x + 4) (by omega) (by omega) (by simpa using h2)
 have hk' : Ev (fun k => laws_markKeyS.f k s.f3 (x + 1 + 1 + 1 + 1)) (x + 4 + 2 * s.f3.length, mkKs s.f3 (x + 4)) := by
  unfold laws_markKeyS.f
  rw [show x + 1 + 1 + 1 + 1 = x + 4 by omega]
  exact hk
 refine Ev.bind hk' (Ev.const ?_)
 simp only [wrap_up (x + 4 + 2 * s.f3.length) (by omega) (by omega), wrap_up (x + 4 + 2 * s.f3.length + 1) (by omega) (by omega), wrap_up (x + 4 + 2 * s.f3.length + 1 + 1) (by omega) (by omega), wrap_up (x + 4 + 2 * s.f3.length + 1 + 1 + 1) (by omega) (by omega)]
 unfold mkS
 rw [show x + 1 + 1 + 1 = x + 3 by omega, show x + 1 + 1 = x + 2 by omega, show x + 4 + 2 * (s.f3.length : Int) + 1 + 1 + 1 + 1 = x + 4 + 2 * s.f3.length + 4 by omega, show x + 4 + 2 * (s.f3.length : Int) + 1 + 1 + 1 = x + 4 + 2 * s.f3.length + 3 by omega, show x + 4 + 2 * (s.f3.length : Int) + 1 + 1 = x + 4 + 2 * s.f3.length + 2 by omega]
theorem markSlotS_ev (l : List S32) (hs : ∀ s ∈ l, s.f3.length ≤ 1048576) : ∀ (a : List S32) (x : Int), 0 ≤ x → mkN l x < 4611686018427387904 → a.length + l.length < 4611686018427387904 →
 Ev (fun k => laws_markSlotS.l0 k (a ++ l) x a.length) (mkN l x, a ++ mkSs l x) := by
 induction l with
 | nil =>
  intro a x h0 h1 h2
  refine Ev.shift ?_
  simp only [laws_markSlotS.l0, List.append_nil, if_neg (show ¬ a.length < a.length by omega), mkSs, mkN]
  exact Ev.now _
 | cons s l ih =>
  intro a x h0 h1 h2
  rw [List.length_cons] at h2
  refine Ev.shift ?_
  have hl : a.length < (a ++ s :: l).length := by rw [List.length_append, List.length_cons]; omega
  have h3 := hs s (List.mem_cons_self ..)
  have h4 := mkN_le l (x + 4 + 2 * s.f3.length + 4)
  simp only [mkN] at h1
  simp only [laws_markSlotS.l0, if_pos hl, rdS, setK]
  refine Ev.bind (mkSl_ev s x h0 (by omega) (by omega)) ?_
  have := ih (fun s hs' => hs s (List.mem_cons_of_mem _ hs')) (a ++ [mkS s x]) (x + 4 + 2 * s.f3.length + 4) (by omega) h1 (by simp; omega)
  simp only [List.append_assoc, List.singleton_append, List.length_append, List.length_singleton] at this
  exact this
theorem markTable_ev (l : List S32) (hl : l.length ≤ 1048576) (hs : ∀ s ∈ l, smSlot' s) : Ev (fun k => laws_markSlotS.f k l 1) (mkN l 1, mkSs l 1) := by
 unfold laws_markSlotS.f
 simp only [if_pos (show l.length < 4611686018427387904 by omega)]
 have h := mkN_lt l (fun s h => (hs s h).2.2.1) 1
 have := markSlotS_ev l (fun s h => (hs s h).2.2.1) [] 1 (by omega) (by omega) (by simp; omega)
 simpa using this
theorem markTable_pos (l : List S32) : ¬ mkN l 1 < 0 := by have := mkN_le l 1; omega
end Go.Proofs.YtnbohlcibgfjaaaDoor.Gp
end
