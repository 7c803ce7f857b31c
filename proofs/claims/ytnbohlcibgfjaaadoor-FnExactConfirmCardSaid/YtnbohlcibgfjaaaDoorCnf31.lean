/- A part of the proof of RowFnExactConfirm: each text's theorems that it needs, packed by shake.py, a program of this work; Lean checks them. -/
import Derived.Test.YtnbohlcibgfjaaaDoorCnf8
import Derived.Test.YtnbohlcibgfjaaaDoorCnf9
import Derived.Test.YtnbohlcibgfjaaaDoorCnf6
import Derived.Test.YtnbohlcibgfjaaaDoorCnf30
import Derived.Test.YtnbohlcibgfjaaaDoorCnf26
import Derived.Test.YtnbohlcibgfjaaaDoorCnf25
import Derived.Test.YtnbohlcibgfjaaaDoorCnf24
import Derived.Test.YtnbohlcibgfjaaaDoorCnf16
section
namespace Go.Proofs.YtnbohlcibgfjaaaDoor.Gp
open Go.RowKit Go.Proofs.YtnbohlcibgfjaaaDoorW.PrintWords
theorem heldSlotS_ev (l : List S32) (hs : ∀ s ∈ l, s.f3.length ≤ 1048576) : ∀ (a : List S32) (x : Int), 0 ≤ x → mkN l x < 4611686018427387904 → a.length + l.length < 4611686018427387904 →
 Ev (fun k => laws_heldSlotS.l0 k (a ++ mkSs l x) x (a.length : Int)) (mkN l x) := by
 induction l with
 | nil =>
  intro a x h0 h1 h2
  refine Ev.shift ?_
  simp only [laws_heldSlotS.l0, mkSs, mkN, List.append_nil, if_neg (show ¬ (a.length : Int) < (a.length : Int) by omega)]
  exact Ev.now _
 | cons s l ih =>
  intro a x h0 h1 h2
  rw [List.length_cons] at h2
  refine Ev.shift ?_
  have hl : (a.length : Int) < ((a ++ mkSs (s :: l) x).length : Int) := by rw [List.length_append, mkSs_length, List.length_cons]; omega
  have h3 := hs s (List.mem_cons_self ..)
  have h4 := mkN_le l (x + 4 + 2 * s.f3.length + 4)
  simp only [mkN] at h1
  simp only [laws_heldSlotS.l0, if_pos hl, if_pos (show (0 : Int) ≤ (a.length : Int) by omega), wrap_up x h0 (by omega), wrap_up (x + 1) (by omega) (by omega), wrap_up (x + 1 + 1) (by omega) (by omega), wrap_up (x + 1 + 1 + 1) (by omega) (by omega), wrap_nat a.length (by omega)]
  simp only [mkSs, rdS]
  simp only [mkS, if_true]
  refine Ev.bind (markText_ev (x + 1) (by omega)) ?_
  simp only [if_true, show x + 1 + 1 = x + 2 by omega, bne_self_eq_false, Bool.false_eq_true, if_false, show x + 2 + 1 = x + 3 by omega]
  refine Ev.bind (markText_ev (x + 3) (by omega)) ?_
  simp only [if_true]
  have hk : Ev (fun k => laws_heldKeyS.f k (mkKs s.f3 (x + 4)) (x + 3 + 1)) (x + 4 + 2 * s.f3.length) := by
   unfold laws_heldKeyS.f
   rw [show x + 3 + 1 = x + 4 by omega]
   simpa using heldKeyS_ev s.f3 [] (x + 4) (by omega) (by omega) (by simp; omega)
  refine Ev.bind hk ?_
  simp only [if_neg (show ¬ x + 4 + 2 * (s.f3.length : Int) < 0 by omega), if_true, wrap_up (x + 4 + 2 * s.f3.length) (by omega) (by omega), wrap_up (x + 4 + 2 * s.f3.length + 1) (by omega) (by omega), wrap_up (x + 4 + 2 * s.f3.length + 1 + 1) (by omega) (by omega), if_pos (show x + 4 + 2 * (s.f3.length : Int) + 2 = x + 4 + 2 * (s.f3.length : Int) + 1 + 1 by omega), if_pos (show x + 4 + 2 * (s.f3.length : Int) + 3 = x + 4 + 2 * (s.f3.length : Int) + 1 + 1 + 1 by omega), show x + 4 + 2 * (s.f3.length : Int) + 1 + 1 + 1 + 1 = x + 4 + 2 * (s.f3.length : Int) + 4 by omega, show wrap64 (x + 4 + 2 * (s.f3.length : Int) + 4) = x + 4 + 2 * (s.f3.length : Int) + 4 by unfold wrap64; omega]
  have := ih (fun s hs' => hs s (List.mem_cons_of_mem _ hs')) (a ++ [mkS s x]) (x + 4 + 2 * s.f3.length + 4) (by omega) h1 (by simp; omega)
  simp only [List.append_assoc, List.singleton_append, List.length_append, List.length_cons, List.length_nil] at this
  exact this
theorem heldTable_ev (l : List S32) (hl : l.length ≤ 1048576) (hs : ∀ s ∈ l, smSlot' s) : Ev (fun k => laws_heldTable.f k (mkSs l 1) 1) (mkN l 1) := by
 unfold laws_heldTable.f laws_heldSlotS.f
 have h := mkN_lt l (fun s h => (hs s h).2.2.1) 1
 have h2 : Ev (fun k => laws_heldSlotS.l0 k (mkSs l 1) 1 0) (mkN l 1) := by simpa using heldSlotS_ev l (fun s h => (hs s h).2.2.1) [] 1 (by omega) (by omega) (by simp; omega)
 refine Ev.bind h2 ?_
 simp only [if_neg (markTable_pos l)]
 exact Ev.now _
theorem rowTS (s : S32) : rowT (rowS s) = s := rfl
theorem map_rowTS (t : List S32) : (t.map rowS).map rowT = t := by rw [List.map_map]; exact List.map_id'' (fun s => rowTS s) t
theorem table_of (t : List S32) (hl : t.length ≤ 4096) (hs : ∀ x ∈ t, smSlot' x) : impl_rows_table.f (t.map rowS) = some t := by
 unfold impl_rows_table.f
 have hb : ∀ s ∈ t.map rowS, s.f4.length < 4398046511104 := fun s h => by
  obtain ⟨x, hx, rfl⟩ := List.mem_map.1 h
  have := (hs x hx).2.2.1
  show x.f3.length < _
  omega
 rw [if_pos ⟨by rw [List.length_map]; omega, hb⟩, map_rowTS]
theorem set_rows (t : List S32) (i : Nat) (s : S32) : (t.map rowS).set i (rowS s) = (t.set i s).map rowS := (List.map_set ..).symm
theorem sm_set {t : List S32} (hs : ∀ x ∈ t, smSlot' x) (i : Nat) {s : S32} (h : smSlot' s) : ∀ x ∈ t.set i s, smSlot' x := fun x hx => by
 rcases List.mem_or_eq_of_mem_set hx with g | rfl
 · exact hs x g
 exact h
/-- A slot, confirmed. -/
def cfS (s : S32) (rev : Int) : S32 := ⟨s.f0, s.f1, s.f2, s.f3, rev, s.f5, 0, 0⟩
/-- What Confirm answers. -/
def cfT (t : List S32) (kx : S29) (wk rev : Int) : List S32 × Int :=
 if vtB t = true then (if kyB kx = true then (if 0 ≤ wk ∧ wk < 16 then (if 1 ≤ rev then (match atK t kx with
  | none => (t, 1)
  | some i => if ((slotAt t i).f6 = wrap64 (wk + 1) ∧ (slotAt t i).f7 = rev) ∧ (slotAt t i).f1 = true ∧ (slotAt t i).f4 ≤ rev then (t.set i (cfS (slotAt t i) rev), 0) else (t, 1)) else ([], 9)) else ([], 9)) else ([], 9)) else ([], 9)
theorem workerOk_f (wk : Int) : impl_workerOk.f wk = some (decide (0 ≤ wk ∧ wk < 16)) := by
 unfold impl_workerOk.f
 by_cases c : wk ≥ 0
 · rw [if_pos c]
   congr 1
   rw [Bool.eq_iff_iff, decide_eq_true_iff, decide_eq_true_iff]
   exact ⟨fun h => ⟨c, h⟩, fun h => h.2⟩
 rw [if_neg c, decide_eq_false (fun h => c h.1)]
theorem specWorkerOk_f (wk : Int) : spec_l4WorkerOk.f wk = some (decide (0 ≤ wk ∧ wk < 16)) := workerOk_f wk
theorem specConfirm (t : List S32) (hs : ∀ x ∈ t, smSlot' x) (kx : S29) (wk rev : Int) : Ev (fun k => spec_Confirm.f k t kx.f0 kx.f1 wk rev) (cfT t kx wk rev) := by
 unfold spec_Confirm.f cfT
 have hno : ∀ a b, Ev (fun k => spec_Confirm.j0 k wk rev true t a b) ([], 9) := fun a b => Ev.shift (by simp only [spec_Confirm.j0, if_true]; exact Ev.now _)
 refine Ev.bind (specValidTable t hs) ?_
 cases hv : vtB t
 · simp only [Bool.false_eq_true, if_false]; exact hno _ _
 simp only [if_true]
 refine Ev.bind (specKeyOk kx) ?_
 cases hk : kyB kx
 · simp only [Bool.false_eq_true, if_false]; exact hno _ _
 simp only [if_true, specWorkerOk_f, Option.bind_some, decide_eq_true_iff]
 by_cases c0 : 0 ≤ wk ∧ wk < 16
 case neg => simp only [if_neg c0]; exact hno _ _
 simp only [if_pos c0]
 by_cases c1 : 1 ≤ rev
 case neg => simp only [if_neg c1, decide_eq_true (show rev < 1 by omega)]; exact hno _ _
 simp only [if_pos c1, decide_eq_false (show ¬ rev < 1 by omega)]
 have hl : t.length ≤ 1048576 := by have := vtB_len hv; omega
 refine Ev.shift ?_
 simp only [spec_Confirm.j0, Bool.false_eq_true, if_false]
 refine Ev.bind (mine_ev t hv hs kx hk wk rev) ?_
 have hcopy : ∀ a b c d e f g h i, Ev (fun k => spec_Confirm.j1 k rev true t a b c d e f g h i) (t, 1) := fun a b c d e f g h i => Ev.shift (by simp only [spec_Confirm.j1, if_true]; exact Ev.bind (copy_ev t hl hs) (Ev.now _))
 unfold mineB slK
 cases ha : atK t kx with
 | none => simp only [Bool.false_eq_true, if_false]; exact hcopy _ _ _ _ _ _ _ _ _
 | some i =>
  obtain ⟨hi, hk2, _⟩ := atK_some ha
  have hx := hs _ (slotAt_mem t hi)
  simp only [decide_eq_true_iff]
  by_cases c2 : (slotAt t i).f6 = wrap64 (wk + 1) ∧ (slotAt t i).f7 = rev ∧ (slotAt t i).f4 ≤ rev
  case neg => simp only [if_neg c2, if_neg (show ¬ (((slotAt t i).f6 = wrap64 (wk + 1) ∧ (slotAt t i).f7 = rev) ∧ (slotAt t i).f1 = true ∧ (slotAt t i).f4 ≤ rev) from fun h => c2 ⟨h.1.1, h.1.2, h.2.2⟩)]; exact hcopy _ _ _ _ _ _ _ _ _
  simp only [if_pos c2]
  cases c3 : (slotAt t i).f1
  · simp only [Bool.not_false, Bool.false_eq_true, false_and, and_false, if_false]; exact hcopy _ _ _ _ _ _ _ _ _
  simp only [Bool.not_true, if_pos (show (((slotAt t i).f6 = wrap64 (wk + 1) ∧ (slotAt t i).f7 = rev) ∧ True ∧ (slotAt t i).f4 ≤ rev) from ⟨⟨c2.1, c2.2.1⟩, trivial, c2.2.2⟩)]
  refine Ev.shift ?_
  simp only [spec_Confirm.j1, Bool.false_eq_true, if_false]
  have hp := put_ev t hl hs (cfS (slotAt t i) rev) hx.2.2.1
  rw [ins_some hv (cfS (slotAt t i) rev) (i := i) (by show atK t (slotAt t i).f0 = some i; rw [hk2]; exact ha)] at hp
  simp only [cfS, c3] at hp ⊢
  exact Ev.bind hp (Ev.now _)
theorem implConfirm (t : List S32) (hs : ∀ x ∈ t, smSlot' x) (kx : S29) (wk rev : Int) : Ev (fun k => impl_Confirm.f k t kx.f0 kx.f1 wk rev) (cfT t kx wk rev) := by
 unfold impl_Confirm.f cfT
 simp only [keyValid_f, workerOk_f, Option.bind_some]
 have hno : Ev (fun k => impl_Confirm.ch k t false kx.f0 kx.f1 wk rev) (([] : List S32), (9 : Int)) := by
  unfold impl_Confirm.ch
  simp only [Bool.false_eq_true, if_false]
  exact Ev.now _
 cases hk : kyB kx
 · simp only [Bool.false_and, Bool.false_eq_true, if_false]
   cases vtB t <;> simpa using hno
 simp only [Bool.true_and, if_true]
 by_cases c0 : 0 ≤ wk ∧ wk < 16
 case neg =>
  simp only [if_neg c0, decide_eq_false c0, Bool.false_and]
  cases vtB t <;> simpa using hno
 simp only [if_pos c0, decide_eq_true c0, Bool.true_and]
 by_cases c1 : 1 ≤ rev
 case neg =>
  simp only [if_neg c1, decide_eq_false c1]
  cases vtB t <;> simpa using hno
 simp only [if_pos c1, decide_eq_true c1]
 unfold impl_Confirm.ch
 simp only [if_true]
 refine Ev.bind (implValidTable t) ?_
 cases hv : vtB t
 · simp only [Bool.false_eq_true, if_false]; exact Ev.now _
 simp only [if_true, implRows t hv hs, Option.bind_some]
 have hl := vtB_len hv
 unfold impl_rows_confirm.f
 refine Ev.bind (a := match atK t kx with | none => ((1 : Int), t.map rowS) | some i => if ((slotAt t i).f6 = wrap64 (wk + 1) ∧ (slotAt t i).f7 = rev) ∧ (slotAt t i).f1 = true ∧ (slotAt t i).f4 ≤ rev then (0, (t.set i (cfS (slotAt t i) rev)).map rowS) else (1, t.map rowS)) (Ev.bind (implFind t hv kx) (Ev.const ?_)) ?_
 ·
  cases ha : atK t kx with
  | none => rfl
  | some i =>
   have hi := (atK_some ha).1
   simp only [Option.map_some, impl_rows_confirm.fo, impl_rows_confirm.at, rowAt hi, rowS]
   by_cases c2 : (slotAt t i).f6 = wrap64 (wk + 1) ∧ (slotAt t i).f7 = rev
   case neg => rw [if_neg c2, if_neg (fun h => c2 h.1)]
   rw [if_pos c2]
   by_cases c3 : (slotAt t i).f1 = true
   case neg => rw [if_neg c3, if_neg (fun h => c3 h.2.1)]
   rw [if_pos c3]
   by_cases c4 : (slotAt t i).f4 > rev
   · rw [if_pos c4, if_neg (fun h => by have := h.2.2; omega)]
   rw [if_neg c4, if_pos ⟨c2, c3, by omega⟩, Int.toNat_natCast]
   rw [← set_rows]
   rfl
 cases ha : atK t kx with
 | none => exact Ev.const (by simp only [table_of t hl hs, Option.bind_some])
 | some i =>
  have hi := (atK_some ha).1
  have hx := hs _ (slotAt_mem t hi)
  refine Ev.const ?_
  simp only
  split
  · simp only [table_of (t.set i (cfS (slotAt t i) rev)) (by rw [List.length_set]; exact hl) (sm_set hs i hx), Option.bind_some]
  simp only [table_of t hl hs, Option.bind_some]
theorem cfT_sm {t : List S32} (hl : t.length ≤ 1048576) (hs : ∀ x ∈ t, smSlot' x) (kx : S29) (wk rev : Int) : (cfT t kx wk rev).1.length ≤ 1048576 ∧ ∀ x ∈ (cfT t kx wk rev).1, smSlot' x := by
 have h0 : (([] : List S32)).length ≤ 1048576 ∧ ∀ x ∈ ([] : List S32), smSlot' x := ⟨by simp, fun x hx => by cases hx⟩
 unfold cfT
 split
 ·
  split
  ·
   split
   ·
    split
    · cases ha : atK t kx with
      | none => exact ⟨hl, hs⟩
      | some i =>
       simp only
       split
       · exact ⟨by show (t.set i _).length ≤ _; rw [List.length_set]; exact hl, sm_set hs i (s := cfS (slotAt t i) rev) (hs (slotAt t i) (slotAt_mem t (atK_some ha).1))⟩
       exact ⟨hl, hs⟩
    exact h0
   exact h0
  exact h0
 exact h0
theorem confirm_true (l : List S154) (b0 : Int) (b1 : ByteArray) (wk rev : Int) (hl : l.length ≤ maxLen) (hz : ∀ s ∈ l, q154 s) (hb0 : (Lit.int .i64 b0).wf = true) (hb1 : b1.size ≤ maxLen) (_ : (Lit.int .i64 wk).wf = true) (_ : (Lit.int .i64 rev).wf = true) : Ev (fun k => laws_FnExactConfirm.f k l b0 b1 wk rev) true := by
 unfold laws_FnExactConfirm.f
 obtain ⟨t, hev, ht⟩ := szTable_ev l 1048576 (by omega) (by omega) hl hz
 refine Ev.bind hev ?_
 by_cases c : t < 0
 · simp only [if_pos c]; exact Ev.now _
 simp only [if_neg c]
 obtain ⟨ht0, ht1, hl1, hz1⟩ := ht.resolve_left c
 obtain ⟨v, hevv, hv⟩ := szKey_ev ⟨b0, b1⟩ t ht0 (by omega) ⟨hb0, hb1⟩
 simp only at hevv
 simp only [hevv, Option.bind_some]
 by_cases cv : v < 0
 · simp only [if_pos cv]; exact Ev.now _
 simp only [if_neg cv]
 have hto := toTable_ev l hl1 hz1
 have hs := smSlot_conv hz1
 have hlen : (l.map convSlot).length ≤ 1048576 := by simpa using hl1
 obtain ⟨hrl, hrs⟩ := cfT_sm hlen hs ⟨b0, b1⟩ wk rev
 unfold F27
 refine Ev.bind hto ?_
 refine Ev.bind (specConfirm _ hs ⟨b0, b1⟩ wk rev) ?_
 refine Ev.bind (implConfirm _ hs ⟨b0, b1⟩ wk rev) ?_
 refine Ev.bind (eqTable_ev _ hrl hrs) ?_
 refine Ev.bind (eqTable_ev _ hlen hs) ?_
 refine Ev.bind (markTable_ev _ hlen hs) ?_
 refine Ev.bind (markTable_ev _ hrl hrs) ?_
 refine Ev.bind (heldTable_ev _ hrl hrs) (Ev.const ?_)
 rw [if_pos ⟨⟨⟨⟨rfl, rfl⟩, rfl⟩, markTable_pos _⟩, markTable_pos _, rfl⟩]
end Go.Proofs.YtnbohlcibgfjaaaDoor.Gp
end
