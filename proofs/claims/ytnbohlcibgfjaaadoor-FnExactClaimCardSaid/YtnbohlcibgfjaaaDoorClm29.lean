/- A part of the proof of RowFnExactClaim: each text's theorems that it needs, packed by shake.py, a program of this work; Lean checks them. -/
import Derived.Test.YtnbohlcibgfjaaaDoorClm8
import Derived.Test.YtnbohlcibgfjaaaDoorClm9
import Derived.Test.YtnbohlcibgfjaaaDoorClm6
import Derived.Test.YtnbohlcibgfjaaaDoorClm28
import Derived.Test.YtnbohlcibgfjaaaDoorClm24
import Derived.Test.YtnbohlcibgfjaaaDoorClm23
import Derived.Test.YtnbohlcibgfjaaaDoorClm22
import Derived.Test.YtnbohlcibgfjaaaDoorClm15
import Derived.Test.YtnbohlcibgfjaaaDoorClm14
section
namespace Go.Proofs.YtnbohlcibgfjaaaDoor.Gp
open Go.RowKit Go.Proofs.YtnbohlcibgfjaaaDoorW.PrintWords
theorem heldSlotS_ev (l : List S32) (hs : ∀ s ∈ l, s.f3.length ≤ 1048576) : ∀ (a : List S32) (x : Int), 0 ≤ x → mkN l x < 4611686018427387904 → a.length + l.length < 4611686018427387904 →
 Ev (fun k => laws_heldSlotS.l0 k (a ++ mkSs l x) x (a.length : Int)) (mkN l x) := by
 induction l with
 | nil =>
  intro a x h0 h1 h2
  refine Ev.shift ?_
  simp only [laws_heldSlotS.l0, mkSs, mkN, List.append_nil, if_neg (show ¬ (a.length : Int) < (a.length : Int) by omega)]
  exact Ev.now _
 | cons s l ih =>
  intro a x h0 h1 h2
  rw [List.length_cons] at h2
  refine Ev.shift ?_
  have hl : (a.length : Int) < ((a ++ mkSs (s :: l) x).length : Int) := by rw [List.length_append, mkSs_length, List.length_cons]; omega
  have h3 := hs s (List.mem_cons_self ..)
  have h4 := mkN_le l (x + 4 + 2 * s.f3.length + 4)
  simp only [mkN] at h1
  simp only [laws_heldSlotS.l0, if_pos hl, if_pos (show (0 : Int) ≤ (a.length : Int) by omega), wrap_up x h0 (by omega), wrap_up (x + 1) (by omega) (by omega), wrap_up (x + 1 + 1) (by omega) (by omega), wrap_up (x + 1 + 1 + 1) (by omega) (by omega), wrap_nat a.length (by omega)]
  simp only [mkSs, rdS]
  simp only [mkS, if_true]
  refine Ev.bind (markText_ev (x + 1) (by omega)) ?_
  simp only [if_true, show x + 1 + 1 = x + 2 by omega, bne_self_eq_false, Bool.false_eq_true, if_false, show x + 2 + 1 = x + 3 by omega]
  refine Ev.bind (markText_ev (x + 3) (by omega)) ?_
  simp only [if_true]
  have hk : Ev (fun k => laws_heldKeyS.f k (mkKs s.f3 (x + 4)) (x + 3 + 1)) (x + 4 + 2 * s.f3.length) := by
   unfold laws_heldKeyS.f
   rw [show x + 3 + 1 = x + 4 by omega]
   simpa using heldKeyS_ev s.f3 [] (x + 4) (by omega) (by omega) (by simp; omega)
  refine Ev.bind hk ?_
  simp only [if_neg (show ¬ x + 4 + 2 * (s.f3.length : Int) < 0 by omega), if_true, wrap_up (x + 4 + 2 * s.f3.length) (by omega) (by omega), wrap_up (x + 4 + 2 * s.f3.length + 1) (by omega) (by omega), wrap_up (x + 4 + 2 * s.f3.length + 1 + 1) (by omega) (by omega), if_pos (show x + 4 + 2 * (s.f3.length : Int) + 2 = x + 4 + 2 * (s.f3.length : Int) + 1 + 1 by omega), if_pos (show x + 4 + 2 * (s.f3.length : Int) + 3 = x + 4 + 2 * (s.f3.length : Int) + 1 + 1 + 1 by omega), show x + 4 + 2 * (s.f3.length : Int) + 1 + 1 + 1 + 1 = x + 4 + 2 * (s.f3.length : Int) + 4 by omega, show wrap64 (x + 4 + 2 * (s.f3.length : Int) + 4) = x + 4 + 2 * (s.f3.length : Int) + 4 by unfold wrap64; omega]
  have := ih (fun s hs' => hs s (List.mem_cons_of_mem _ hs')) (a ++ [mkS s x]) (x + 4 + 2 * s.f3.length + 4) (by omega) h1 (by simp; omega)
  simp only [List.append_assoc, List.singleton_append, List.length_append, List.length_cons, List.length_nil] at this
  exact this
theorem heldTable_ev (l : List S32) (hl : l.length ≤ 1048576) (hs : ∀ s ∈ l, smSlot' s) : Ev (fun k => laws_heldTable.f k (mkSs l 1) 1) (mkN l 1) := by
 unfold laws_heldTable.f laws_heldSlotS.f
 have h := mkN_lt l (fun s h => (hs s h).2.2.1) 1
 have h2 : Ev (fun k => laws_heldSlotS.l0 k (mkSs l 1) 1 0) (mkN l 1) := by simpa using heldSlotS_ev l (fun s h => (hs s h).2.2.1) [] 1 (by omega) (by omega) (by simp; omega)
 refine Ev.bind h2 ?_
 simp only [if_neg (markTable_pos l)]
 exact Ev.now _
/-- A slot, claimed. -/
def clS (s : S32) (wk rev : Int) : S32 := ⟨s.f0, s.f1, s.f2, s.f3, s.f4, s.f5, wrap64 (wk + 1), rev⟩
/-- A slot that is new. -/
def nwS (kx : S29) : S32 := ⟨kx, false, ⟨#[]⟩, [], 0, 0, 0, 0⟩
def clIn (t : List S32) (kx : S29) (wk rev cap : Int) : List S32 × Int := match atK t kx with
 | none => if cap ≤ (t.length : Int) then (t, 2) else (ins (clS (nwS kx) wk rev) t false, 0)
 | some i => if (slotAt t i).f6 ≠ 0 ∧ (slotAt t i).f7 = rev then (t, 1) else (t.set i (clS (slotAt t i) wk rev), 0)
/-- What Claim answers. -/
def clT (t : List S32) (kx : S29) (wk rev cap : Int) : List S32 × Int :=
 if vtB t = true then (if kyB kx = true then (if 0 ≤ wk ∧ wk < 16 then (if (1 ≤ rev ∧ 1 ≤ cap) ∧ cap ≤ 4096 then clIn t kx wk rev cap else ([], 9)) else ([], 9)) else ([], 9)) else ([], 9)
theorem claimIn (t : List S32) (hv : vtB t = true) (hs : ∀ x ∈ t, smSlot' x) (kx : S29) (hk : kyB kx = true) (wk rev cap : Int) : Ev (fun k => spec_l4Claim.f k t kx.f0 kx.f1 wk rev cap) (clIn t kx wk rev cap) := by
 have hl : t.length ≤ 1048576 := by have := vtB_len hv; omega
 unfold spec_l4Claim.f clIn
 refine Ev.bind (specFind t hv hs kx) ?_
 have e := sameKey_f (slK t kx).f0 kx
 simp only [e, Option.bind_some]
 cases ha : atK t kx with
 | none =>
  have e2 : kEq (slK t kx).f0 kx = false := by
   cases c : kEq (slK t kx).f0 kx
   · rfl
   have g := kEq_iff.1 c
   unfold slK at g
   rw [ha] at g
   exact absurd (by rw [← g]; rfl) (kyB_kind hk)
  simp only [e2, Bool.false_eq_true, if_false]
  by_cases c : cap ≤ (t.length : Int)
  · simp only [if_pos c]
    exact Ev.bind (copy_ev t hl hs) (Ev.now _)
  simp only [if_neg c]
  exact Ev.bind (put_ev t hl hs (clS (nwS kx) wk rev) (Nat.zero_le _)) (Ev.now _)
 | some i =>
  obtain ⟨hi, hk2, _⟩ := atK_some ha
  have hx := hs _ (slotAt_mem t hi)
  have e3 : slK t kx = slotAt t i := by unfold slK; rw [ha]
  have e2 : kEq (slK t kx).f0 kx = true := by rw [e3]; exact kEq_iff.2 hk2
  simp only [e2, if_true]
  rw [e3]
  by_cases c : (slotAt t i).f6 ≠ 0 ∧ (slotAt t i).f7 = rev
  · simp only [if_pos c]
    exact Ev.bind (copy_ev t hl hs) (Ev.now _)
  simp only [if_neg c]
  have hp := put_ev t hl hs (clS (slotAt t i) wk rev) hx.2.2.1
  rw [ins_some hv (clS (slotAt t i) wk rev) (i := i) (by show atK t (slotAt t i).f0 = some i; rw [hk2]; exact ha)] at hp
  exact Ev.bind hp (Ev.now _)
theorem specClaim (t : List S32) (hs : ∀ x ∈ t, smSlot' x) (kx : S29) (wk rev cap : Int) : Ev (fun k => spec_Claim.f k t kx.f0 kx.f1 wk rev cap) (clT t kx wk rev cap) := by
 unfold spec_Claim.f clT
 refine Ev.bind (specValidTable t hs) ?_
 cases hv : vtB t
 · simp only [Bool.false_eq_true, if_false]; exact Ev.now _
 simp only [if_true]
 refine Ev.bind (specKeyOk kx) ?_
 cases hk : kyB kx
 · simp only [Bool.false_eq_true, if_false]; exact Ev.now _
 simp only [if_true, specWorkerOk_f, Option.bind_some, decide_eq_true_iff]
 by_cases c0 : 0 ≤ wk ∧ wk < 16
 case neg => simp only [if_neg c0]; exact Ev.now _
 simp only [if_pos c0]
 by_cases c1 : 1 ≤ rev
 case neg => simp only [if_pos (show rev < 1 by omega), if_neg (show ¬ ((1 ≤ rev ∧ 1 ≤ cap) ∧ cap ≤ 4096) from fun h => c1 h.1.1)]; exact Ev.now _
 by_cases c2 : 1 ≤ cap
 case neg => simp only [if_neg (show ¬ rev < 1 by omega), if_pos (show cap < 1 by omega), if_neg (show ¬ ((1 ≤ rev ∧ 1 ≤ cap) ∧ cap ≤ 4096) from fun h => c2 h.1.2)]; exact Ev.now _
 by_cases c3 : cap ≤ 4096
 case neg => simp only [if_neg (show ¬ rev < 1 by omega), if_neg (show ¬ cap < 1 by omega), if_pos (show cap > 4096 by omega), if_neg (show ¬ ((1 ≤ rev ∧ 1 ≤ cap) ∧ cap ≤ 4096) from fun h => c3 h.2)]; exact Ev.now _
 simp only [if_neg (show ¬ rev < 1 by omega), if_neg (show ¬ cap < 1 by omega), if_neg (show ¬ cap > 4096 by omega), if_pos (show ((1 ≤ rev ∧ 1 ≤ cap) ∧ cap ≤ 4096) from ⟨⟨c1, c2⟩, c3⟩)]
 exact Ev.bind (claimIn t hv hs kx hk wk rev cap) (Ev.now _)
theorem ins_map (t : List S32) (m : Nat) (s : S32) : (t.map rowS).take m ++ rowS s :: (t.map rowS).drop m = (t.take m ++ s :: t.drop m).map rowS := by
 rw [List.map_append, List.map_cons, List.map_take, List.map_drop]
theorem ins_size (t : List S32) (m : Nat) (s : S32) (h : m ≤ t.length) : (t.take m ++ s :: t.drop m).length = t.length + 1 := by
 rw [List.length_append, List.length_cons, List.length_take, List.length_drop, Nat.min_eq_left h]
 omega
theorem ins_sm {t : List S32} (hs : ∀ x ∈ t, smSlot' x) (m : Nat) {s : S32} (h : smSlot' s) : ∀ x ∈ t.take m ++ s :: t.drop m, smSlot' x := by
 intro x hx
 rw [List.mem_append, List.mem_cons] at hx
 rcases hx with hx | rfl | hx
 · exact hs x (List.mem_of_mem_take hx)
 · exact h
 exact hs x (List.mem_of_mem_drop hx)
theorem nw_sm {kx : S29} (h : kx.f1.size ≤ 1048576) (wk rev : Int) : smSlot' (clS (nwS kx) wk rev) := ⟨h, Nat.zero_le _, Nat.zero_le _, fun x hx => by cases hx⟩
theorem fo_none (k : Nat) (L : List RwT) (b0 : Int) (b1 : ByteArray) (wk rev cap : Int) : impl_rows_claim.fo k L b0 b1 wk rev cap none = if cap ≤ (L.length : Int) then some (2, L) else (slices_BinarySearchFunc_impl_row_impl_row_impl_Key.f k L b0 b1).bind fun p => impl_rows_claim.new L b0 b1 wk rev p := rfl
theorem fo_some (k : Nat) (L : List RwT) (b0 : Int) (b1 : ByteArray) (wk rev cap i : Int) : impl_rows_claim.fo k L b0 b1 wk rev cap (some i) = if (rd_T101 L i).f1 ≠ 0 ∧ (rd_T101 L i).f0.f1 = rev then some (1, L) else some (0, L.set i.toNat (clRow (rd_T101 L i) wk rev)) := rfl
/-- Where a new slot goes. -/
theorem place_new (t : List S32) (hv : vtB t = true) (kx : S29) (ha : atK t kx = none) (wk rev : Int) : ∃ m : Nat, Ev (fun k => slices_BinarySearchFunc_impl_row_impl_row_impl_Key.f k (t.map rowS) kx.f0 kx.f1) ((m : Int), false) ∧ m ≤ t.length ∧ ins (clS (nwS kx) wk rev) t false = t.take m ++ clS (nwS kx) wk rev :: t.drop m := by
 obtain ⟨m, hev, hm, h1, h2, _⟩ := search_ev t hv kx
 rw [ha] at hev
 exact ⟨m, hev, hm, ins_none (clS (nwS kx) wk rev) ha m hm h1 h2⟩
theorem implClaim (t : List S32) (hs : ∀ x ∈ t, smSlot' x) (kx : S29) (hks : kx.f1.size ≤ 1048576) (wk rev cap : Int) : Ev (fun k => impl_Claim.f k t kx.f0 kx.f1 wk rev cap) (clT t kx wk rev cap) := by
 unfold impl_Claim.f clT
 simp only [keyValid_f, workerOk_f, Option.bind_some]
 have hno : Ev (fun k => impl_Claim.ch k t false kx.f0 kx.f1 wk rev cap) (([] : List S32), (9 : Int)) := by
  unfold impl_Claim.ch
  simp only [Bool.false_eq_true, if_false]
  exact Ev.now _
 cases hk : kyB kx
 · simp only [Bool.false_and, Bool.false_eq_true, if_false]
   cases vtB t <;> simpa using hno
 simp only [Bool.true_and, if_true]
 by_cases c0 : 0 ≤ wk ∧ wk < 16
 case neg =>
  simp only [if_neg c0, decide_eq_false c0, Bool.false_and]
  cases vtB t <;> simpa using hno
 simp only [if_pos c0, decide_eq_true c0, Bool.true_and]
 by_cases c1 : (1 ≤ rev ∧ 1 ≤ cap) ∧ cap ≤ 4096
 case neg =>
  have e : ((decide (1 ≤ rev) && decide (1 ≤ cap)) && decide (cap ≤ 4096)) = false := by
   cases h : ((decide (1 ≤ rev) && decide (1 ≤ cap)) && decide (cap ≤ 4096))
   · rfl
   simp only [Bool.and_eq_true, decide_eq_true_eq] at h
   exact absurd h c1
  simp only [if_neg c1, e]
  cases vtB t <;> simpa using hno
 simp only [if_pos c1, decide_eq_true c1.1.1, decide_eq_true c1.1.2, decide_eq_true c1.2, Bool.and_self]
 unfold impl_Claim.ch
 simp only [if_true]
 refine Ev.bind (implValidTable t) ?_
 cases hv : vtB t
 · simp only [Bool.false_eq_true, if_false]; exact Ev.now _
 simp only [if_true, implRows t hv hs, Option.bind_some]
 have hl := vtB_len hv
 unfold impl_rows_claim.f clIn
 have hf := implFind t hv kx
 cases ha : atK t kx with
 | none =>
  rw [ha] at hf
  by_cases c : cap ≤ (t.length : Int)
  · refine Ev.bind (a := ((2 : Int), t.map rowS)) (Ev.bind hf ?_) (Ev.const ?_)
    · simp only [Option.map_none, fo_none, List.length_map, if_pos c]
      exact Ev.now _
    simp only [table_of t hl hs, Option.bind_some, if_pos c]
  obtain ⟨m, hev, hm, he⟩ := place_new t hv kx ha wk rev
  refine Ev.bind (a := ((0 : Int), (t.take m ++ clS (nwS kx) wk rev :: t.drop m).map rowS)) (Ev.bind hf ?_) (Ev.const ?_)
  ·
   simp only [Option.map_none, fo_none, List.length_map, if_neg c]
   refine Ev.bind hev (Ev.const ?_)
   unfold impl_rows_claim.new
   simp only [List.length_map]
   rw [if_pos ⟨⟨by omega, by omega⟩, by omega⟩, Int.toNat_natCast, ← ins_map]
   rfl
  simp only [if_neg c, he]
  rw [table_of _ (by rw [ins_size t m _ hm]; omega) (ins_sm hs m (nw_sm hks wk rev))]
  rfl
 | some i =>
  rw [ha] at hf
  have hi := (atK_some ha).1
  have hx := hs _ (slotAt_mem t hi)
  by_cases c : (slotAt t i).f6 ≠ 0 ∧ (slotAt t i).f7 = rev
  · have hc : (rd_T101 (t.map rowS) (i : Int)).f1 ≠ 0 ∧ (rd_T101 (t.map rowS) (i : Int)).f0.f1 = rev := by rw [rowAt hi]; exact c
    refine Ev.bind (a := ((1 : Int), t.map rowS)) (Ev.bind hf ?_) (Ev.const ?_)
    · simp only [Option.map_some, fo_some, if_pos hc]
      exact Ev.now _
    simp only [table_of t hl hs, Option.bind_some, if_pos c]
  have hc : ¬ ((rd_T101 (t.map rowS) (i : Int)).f1 ≠ 0 ∧ (rd_T101 (t.map rowS) (i : Int)).f0.f1 = rev) := by rw [rowAt hi]; exact c
  refine Ev.bind (a := ((0 : Int), (t.set i (clS (slotAt t i) wk rev)).map rowS)) (Ev.bind hf ?_) (Ev.const ?_)
  · simp only [Option.map_some, fo_some, if_neg hc]
    refine Ev.const ?_
    rw [rowAt hi, Int.toNat_natCast, ← set_rows]
    rfl
  simp only [if_neg c]
  rw [table_of (t.set i (clS (slotAt t i) wk rev)) (by rw [List.length_set]; exact hl) (sm_set hs i (s := clS (slotAt t i) wk rev) hx)]
  rfl
theorem clT_sm {t : List S32} (hl : t.length ≤ 1048576) (hs : ∀ x ∈ t, smSlot' x) (kx : S29) (hks : kx.f1.size ≤ 1048576) (wk rev cap : Int) : (clT t kx wk rev cap).1.length ≤ 1048576 ∧ ∀ x ∈ (clT t kx wk rev cap).1, smSlot' x := by
 have h0 : (([] : List S32)).length ≤ 1048576 ∧ ∀ x ∈ ([] : List S32), smSlot' x := ⟨by simp, fun x hx => by cases hx⟩
 unfold clT
 by_cases hv : vtB t = true
 ·
  rw [if_pos hv]
  split
  ·
   split
   ·
    split
    ·
     unfold clIn
     cases ha : atK t kx with
     | none =>
      simp only
      split
      · exact ⟨hl, hs⟩
      obtain ⟨m, _, hm, he⟩ := place_new t hv kx ha wk rev
      have := vtB_len hv
      simp only [he]
      exact ⟨by rw [ins_size t m _ hm]; omega, ins_sm hs m (nw_sm hks wk rev)⟩
     | some i =>
      simp only
      split
      · exact ⟨hl, hs⟩
      exact ⟨by show (t.set i _).length ≤ _; rw [List.length_set]; exact hl, sm_set hs i (s := clS (slotAt t i) wk rev) (hs (slotAt t i) (slotAt_mem t (atK_some ha).1))⟩
    exact h0
   exact h0
  exact h0
 rw [if_neg hv]
 exact h0
theorem claim_true (l : List S154) (b0 : Int) (b1 : ByteArray) (wk rev cap : Int) (hl : l.length ≤ maxLen) (hz : ∀ s ∈ l, q154 s) (hb0 : (Lit.int .i64 b0).wf = true) (hb1 : b1.size ≤ maxLen) (_ : (Lit.int .i64 wk).wf = true) (_ : (Lit.int .i64 rev).wf = true) (_ : (Lit.int .i64 cap).wf = true) : Ev (fun k => laws_FnExactClaim.f k l b0 b1 wk rev cap) true := by
 unfold laws_FnExactClaim.f
 obtain ⟨t, hev, ht⟩ := szTable_ev l 1048576 (by omega) (by omega) hl hz
 refine Ev.bind hev ?_
 by_cases c : t < 0
 · simp only [if_pos c]; exact Ev.now _
 simp only [if_neg c]
 obtain ⟨ht0, ht1, hl1, hz1⟩ := ht.resolve_left c
 obtain ⟨v, hevv, hv⟩ := szKey_ev ⟨b0, b1⟩ t ht0 (by omega) ⟨hb0, hb1⟩
 simp only at hevv
 simp only [hevv, Option.bind_some]
 by_cases cv : v < 0
 · simp only [if_pos cv]; exact Ev.now _
 simp only [if_neg cv]
 have hks : b1.size ≤ 1048576 := (hv.resolve_left cv).2.2
 have hto := toTable_ev l hl1 hz1
 have hs := smSlot_conv hz1
 have hlen : (l.map convSlot).length ≤ 1048576 := by simpa using hl1
 obtain ⟨hrl, hrs⟩ := clT_sm hlen hs ⟨b0, b1⟩ hks wk rev cap
 unfold F27
 refine Ev.bind hto ?_
 refine Ev.bind (specClaim _ hs ⟨b0, b1⟩ wk rev cap) ?_
 refine Ev.bind (implClaim _ hs ⟨b0, b1⟩ hks wk rev cap) ?_
 refine Ev.bind (eqTable_ev _ hrl hrs) ?_
 refine Ev.bind (eqTable_ev _ hlen hs) ?_
 refine Ev.bind (markTable_ev _ hlen hs) ?_
 refine Ev.bind (markTable_ev _ hrl hrs) ?_
 refine Ev.bind (heldTable_ev _ hrl hrs) (Ev.const ?_)
 rw [if_pos ⟨⟨⟨⟨rfl, rfl⟩, rfl⟩, markTable_pos _⟩, markTable_pos _, rfl⟩]
end Go.Proofs.YtnbohlcibgfjaaaDoor.Gp
end
