/- A part of the proof of RowFnExactClaim: each text's theorems that it needs, packed by shake.py, a program of this work; Lean checks them. -/
import Derived.Test.YtnbohlcibgfjaaaDoorClm3
import Derived.Test.YtnbohlcibgfjaaaDoorClm6
import Derived.Test.YtnbohlcibgfjaaaDoorClm7
section
namespace Go.Proofs.YtnbohlcibgfjaaaDoor.Gp
open Go.RowKit Go.Proofs.YtnbohlcibgfjaaaDoorW.PrintWords Go.Proofs.YtnbohlcibgfjaaaDoorW.PrintLast Go.Proofs.YtnbohlcibgfjaaaDoorW.PrintMore
set_option linter.unusedVariables false
set_option linter.unusedSimpArgs false
def laws_heldSlotS.l0 : Nat → List (S32) → Int → Int → Option (Int)
 | 0, _, _, _ => none
 | k + 1, x0, x1, x5 => if x5 < (x0.length : Int) then (if 0 ≤ x5 then (if ((rd_T32 x0 x5).f0.f0) = x1 then ((laws_markText.f k (wrap64 (x1 + 1))).bind fun t177 => (if ((rd_T32 x0 x5).f0.f1).toList = t177.toList then (if (((rd_T32 x0 x5).f1) != ((Int.tmod (wrap64 ((wrap64 (x1 + 1)) + 1)) 3) == 0)) = true then (some (-1)) else ((laws_markText.f k (wrap64 ((wrap64 ((wrap64 (x1 + 1)) + 1)) + 1))).bind fun t180 => (if ((rd_T32 x0 x5).f2).toList = t180.toList then ((laws_heldKeyS.f k ((rd_T32 x0 x5).f3) (wrap64 ((wrap64 ((wrap64 ((wrap64 (x1 + 1)) + 1)) + 1)) + 1))).bind fun t182 => (if t182 < 0 then (some (-1)) else (if ((rd_T32 x0 x5).f4) = t182 then (if ((rd_T32 x0 x5).f5) = (wrap64 (t182 + 1)) then (if ((rd_T32 x0 x5).f6) = (wrap64 ((wrap64 (t182 + 1)) + 1)) then (if ((rd_T32 x0 x5).f7) = (wrap64 ((wrap64 ((wrap64 (t182 + 1)) + 1)) + 1)) then (laws_heldSlotS.l0 k x0 (wrap64 ((wrap64 ((wrap64 ((wrap64 (t182 + 1)) + 1)) + 1)) + 1)) (wrap64 (x5 + 1))) else (some (-1))) else (some (-1))) else (some (-1))) else (some (-1))))) else (some (-1))))) else (some (-1)))) else (some (-1))) else (none)) else (some x1)
def laws_heldSlotS.f (k : Nat) (l0 : List (S32)) (a1 : Int) : Option (Int) := laws_heldSlotS.l0 k l0 a1 0
def laws_heldSlotS.T7 : Bool × List (List Nat × List Nat) := (true, [([], []), ([], []), ([0, 1], [0, 1]), ([2], [2]), ([3], [3]), ([4], [4]), ([], []), ([6], [6]), ([5, 7], [5, 7])])
def laws_heldSlotS.B7 : List Nat := [0, 0, 3, 7, 15, 31, 0, 64, 255]
theorem laws_heldSlotS.tab7 : rtab .any (opsOf Tryd.f79 7) = laws_heldSlotS.T7 := by kernel_rfl
theorem laws_heldSlotS.bits7 : waitsOk laws_heldSlotS.T7.2 laws_heldSlotS.B7 = true := by kernel_rfl
def laws_heldSlotS.T13 : Bool × List (List Nat × List Nat) := (true, [([], []), ([], []), ([0, 1], [0, 1]), ([2], [2]), ([3], [3]), ([], []), ([5], [5]), ([4, 6], [4, 6])])
def laws_heldSlotS.B13 : List Nat := [0, 0, 3, 7, 15, 0, 32, 127]
theorem laws_heldSlotS.tab13 : rtab .any (opsOf Tryd.f79 13) = laws_heldSlotS.T13 := by kernel_rfl
theorem laws_heldSlotS.bits13 : waitsOk laws_heldSlotS.T13.2 laws_heldSlotS.B13 = true := by kernel_rfl
set_option maxHeartbeats 8000000 in
set_option maxRecDepth 100000 in
theorem laws_heldSlotS.calls (k : Nat) (A0 : Option Addr) (c0 : Nat) (l0 : List (S32)) (a1 : Int) (r : Int) (w : World) (hr0 : Kd.C k32 w A0 l0.length l0) (hc0 : l0.length ≤ c0) (h : laws_heldSlotS.f k l0 a1 = some r) :
 Calls Tryd.prog 79 #[.slice A0 l0.length c0, .int .i64 a1] w fun e w' => e = .returned (.int .i64 r) ∧ Below w.heap.size w w' := by
 have HR0 := Aside0.mk hr0
 have HC0 := Aside0.mk hc0
 clear hr0 hc0
 have HB := Aside0.mk (Below.refl w.heap.size w)
 have H : (laws_heldSlotS.l0 k l0 a1 0) = some r := h
 clear h
 have H' := Aside0.mk H
 clear H
 go_enter Tryd.func79, Tryd.ntmps79
 go_wp2
 go_loopg [1, 5] k (fun kq v1 v5 w' => ∃ (x1_1 : Int) (x5_1 : Int), v1 = .int .i64 x1_1 ∧ v5 = .int .i64 x5_1 ∧ Aside0 (laws_heldSlotS.l0 kq l0 x1_1 x5_1 = some r) ∧ Aside0 (kq ≤ k) ∧ Aside0 (Below w.heap.size w w'))
 case atStart => exact ⟨(a1), (0), (by first | rfl | (simp; done) | (simp [*]; done)), (by first | rfl | (simp; done) | (simp [*]; done)), H', ⟨Nat.le_refl _⟩, ⟨by repeat (first | (with_reducible first | exact HB.out | apply below_alloc | apply pw_below_drewN | apply below_drew1) | exact HB.out)⟩⟩
 case round =>
  clear H'
  try clear p2
  obtain ⟨x1_1, x5_1, rfl, rfl, HA, HK1, HB⟩ := hrel
  cases gk with
  | zero => exact absurd HA.out (by simp [laws_heldSlotS.l0])
  | succ k1 =>
   have H := HA.out
   clear HA
   simp only [laws_heldSlotS.l0] at H
   by_cases c3 : x5_1 < (l0.length : Int)
   ·
    rw [if_pos c3] at H
    have c3b0 : decide (x5_1 < (l0.length : Int)) = true := decide_eq_true c3
    clear c3
    by_cases c4 : 0 ≤ x5_1
    ·
     rw [if_pos c4] at H
     have c4b0 : decide (0 ≤ x5_1) = true := decide_eq_true c4
     clear c4
     by_cases c5 : ((rd_T32 l0 x5_1).f0.f0) = x1_1
     ·
      rw [if_pos c5] at H
      have c5b0 : (((rd_T32 l0 x5_1).f0.f0) == x1_1) = true := beq_iff_eq.mpr c5
      have c5b1 : (((rd_T32 l0 x5_1).f0.f0) != x1_1) = false := bne_eq_false_iff_eq.mpr c5
      clear c5
      replace H := Option.bind_eq_some_iff.mp H
      obtain ⟨t177, A60, H⟩ := H
      replace H : (if ((rd_T32 l0 x5_1).f0.f1).toList = t177.toList then (if (((rd_T32 l0 x5_1).f1) != ((Int.tmod (wrap64 ((wrap64 (x1_1 + 1)) + 1)) 3) == 0)) = true then (some (-1)) else ((laws_markText.f k1 (wrap64 ((wrap64 ((wrap64 (x1_1 + 1)) + 1)) + 1))).bind fun t180 => (if ((rd_T32 l0 x5_1).f2).toList = t180.toList then ((laws_heldKeyS.f k1 ((rd_T32 l0 x5_1).f3) (wrap64 ((wrap64 ((wrap64 ((wrap64 (x1_1 + 1)) + 1)) + 1)) + 1))).bind fun t182 => (if t182 < 0 then (some (-1)) else (if ((rd_T32 l0 x5_1).f4) = t182 then (if ((rd_T32 l0 x5_1).f5) = (wrap64 (t182 + 1)) then (if ((rd_T32 l0 x5_1).f6) = (wrap64 ((wrap64 (t182 + 1)) + 1)) then (if ((rd_T32 l0 x5_1).f7) = (wrap64 ((wrap64 ((wrap64 (t182 + 1)) + 1)) + 1)) then (laws_heldSlotS.l0 k1 l0 (wrap64 ((wrap64 ((wrap64 ((wrap64 (t182 + 1)) + 1)) + 1)) + 1)) (wrap64 (x5_1 + 1))) else (some (-1))) else (some (-1))) else (some (-1))) else (some (-1))))) else (some (-1))))) else (some (-1))) = some r := H
      have A6 := Aside0.mk A60
      clear A60
      have HL7 := Aside0.mk H
      clear H
      have p175 : 0 ≤ (x5_1 : Int) := of_decide_eq_true (by first | (with_reducible assumption) | assumption)
      have q175 : x5_1 < (l0.length : Int) := of_decide_eq_true (by first | (with_reducible assumption) | assumption)
      obtain ⟨ad175, A175_4, c175_4, e175, hx175_0, hx175_1, hx175_2, hx175_3, hx175_4, hx175_5, hx175_6, hx175_7, hx175_8, hl175_4, hi175_4⟩ := at_T32 HR0.out x5_1 p175 q175
      cases e175
      replace hx175_0 := bcl HB hx175_0
      replace hx175_1 := bcl HB hx175_1
      replace hx175_2 := bcl HB hx175_2
      replace hx175_3 := bcl HB hx175_3
      replace hx175_4 := bcl HB hx175_4
      replace hx175_5 := bcl HB hx175_5
      replace hx175_6 := bcl HB hx175_6
      replace hx175_7 := bcl HB hx175_7
      replace hx175_8 := bcl HB hx175_8
      have HR175_4 := Aside0.mk hi175_4
      have HC175_4 := Aside0.mk hl175_4
      clear hi175_4 hl175_4
      replace p175 := eq_true p175
      replace q175 := eq_true q175
      try go_wp2
      have n0_ := Aside0.mk (below_drew1 HB.out)
      clear HB
      have HB := n0_
      clear n0_
      have p176 : 0 ≤ (x5_1 : Int) := of_decide_eq_true (by first | (with_reducible assumption) | assumption)
      have q176 : x5_1 < (l0.length : Int) := of_decide_eq_true (by first | (with_reducible assumption) | assumption)
      obtain ⟨ad176, A176_4, c176_4, e176, hx176_0, hx176_1, hx176_2, hx176_3, hx176_4, hx176_5, hx176_6, hx176_7, hx176_8, hl176_4, hi176_4⟩ := at_T32 HR0.out x5_1 p176 q176
      have hw176_8 := hx176_8
      have hw176_7 := hx176_7
      have hw176_6 := hx176_6
      have hw176_5 := hx176_5
      have hw176_4 := hx176_4
      have hw176_3 := hx176_3
      have hw176_2 := hx176_2
      have hw176_1 := hx176_1
      have hw176_0 := hx176_0
      obtain rfl : ad175 = ad176 := (by injection e176)
      (try clear hHeld)
      replace hx176_0 := bcl HB hx176_0
      replace hx176_1 := bcl HB hx176_1
      replace hx176_2 := bcl HB hx176_2
      replace hx176_3 := bcl HB hx176_3
      replace hx176_4 := bcl HB hx176_4
      replace hx176_5 := bcl HB hx176_5
      replace hx176_6 := bcl HB hx176_6
      replace hx176_7 := bcl HB hx176_7
      replace hx176_8 := bcl HB hx176_8
      have HR176_4 := Aside0.mk hi176_4
      have HC176_4 := Aside0.mk hl176_4
      clear hi176_4 hl176_4
      replace p176 := eq_true p176
      replace q176 := eq_true q176
      refine start_ (n := 9) (S := fun w' => w'.cell? (ad175.add ((x5_1).toNat * 9)) = some (.int .i64 ((rd_T32 l0 x5_1).f0.f0)) ∧ w'.cell? ⟨(ad175.add ((x5_1).toNat * 9)).block, (ad175.add ((x5_1).toNat * 9)).off + 1, none⟩ = some (.string ((rd_T32 l0 x5_1).f0.f1)) ∧ w'.cell? ⟨(ad175.add ((x5_1).toNat * 9)).block, (ad175.add ((x5_1).toNat * 9)).off + 2, none⟩ = some (.bool ((rd_T32 l0 x5_1).f1)) ∧ w'.cell? ⟨(ad175.add ((x5_1).toNat * 9)).block, (ad175.add ((x5_1).toNat * 9)).off + 3, none⟩ = some (.string ((rd_T32 l0 x5_1).f2)) ∧ w'.cell? ⟨(ad175.add ((x5_1).toNat * 9)).block, (ad175.add ((x5_1).toNat * 9)).off + 4, none⟩ = some (.slice A176_4 ((rd_T32 l0 x5_1).f3).length c176_4) ∧ w'.cell? ⟨(ad175.add ((x5_1).toNat * 9)).block, (ad175.add ((x5_1).toNat * 9)).off + 5, none⟩ = some (.int .i64 ((rd_T32 l0 x5_1).f4)) ∧ w'.cell? ⟨(ad175.add ((x5_1).toNat * 9)).block, (ad175.add ((x5_1).toNat * 9)).off + 6, none⟩ = some (.int .i64 ((rd_T32 l0 x5_1).f5)) ∧ w'.cell? ⟨(ad175.add ((x5_1).toNat * 9)).block, (ad175.add ((x5_1).toNat * 9)).off + 7, none⟩ = some (.int .i64 ((rd_T32 l0 x5_1).f6)) ∧ w'.cell? ⟨(ad175.add ((x5_1).toNat * 9)).block, (ad175.add ((x5_1).toNat * 9)).off + 8, none⟩ = some (.int .i64 ((rd_T32 l0 x5_1).f7))) (ds := []) #[false, false, false, false, false, false, false, false, false] (by kernel_rfl) rfl rfl ⟨((HB.out.cell (World.block_lt_of_cell? w _ hw176_0)).trans hw176_0), ((HB.out.cell (World.block_lt_of_cell? w _ hw176_1)).trans hw176_1), ((HB.out.cell (World.block_lt_of_cell? w _ hw176_2)).trans hw176_2), ((HB.out.cell (World.block_lt_of_cell? w _ hw176_3)).trans hw176_3), ((HB.out.cell (World.block_lt_of_cell? w _ hw176_4)).trans hw176_4), ((HB.out.cell (World.block_lt_of_cell? w _ hw176_5)).trans hw176_5), ((HB.out.cell (World.block_lt_of_cell? w _ hw176_6)).trans hw176_6), ((HB.out.cell (World.block_lt_of_cell? w _ hw176_7)).trans hw176_7), ((HB.out.cell (World.block_lt_of_cell? w _ hw176_8)).trans hw176_8)⟩ (fun hHeld => ?_); refine with_tabW laws_heldSlotS.tab7 laws_heldSlotS.bits7 (fun HT_ HW_ => ?_)
      generalize wr.drew = w8 at HB HR176_4 hx176_0 hx176_1 hx176_2 hx176_3 hx176_4 hx176_5 hx176_6 hx176_7 hx176_8 hHeld ⊢
      refine pureY (i := 0) (N := some 22) (v := ?_) (a' := ?_) #[true, false, false, false, false, false, false, false, false] rfl rfl (any_of HT_.out (by kernel_rfl)) ⟨by rfl, ?_⟩ ?_ ?_
      rotate_left
      · intro w'
        go_simp
        with_reducible rfl
      rotate_left
      · simp only [Act.put, sA_, i64_w, i32_w]
        rfl
      refine pureY (i := 1) (N := some 23) (v := ?_) (a' := ?_) #[true, true, false, false, false, false, false, false, false] rfl rfl (any_of HT_.out (by kernel_rfl)) ⟨by rfl, ?_⟩ ?_ ?_
      rotate_left
      · intro w'
        go_simp
        with_reducible rfl
      rotate_left
      · simp only [Act.put, sA_, i64_w, i32_w]
        rfl
      refine pureY (i := 2) (N := some 24) (v := ?_) (a' := ?_) #[true, true, true, false, false, false, false, false, false] rfl rfl (any_of HT_.out (by kernel_rfl)) ⟨by rfl, ?_⟩ ?_ ?_
      rotate_left
      · intro w'
        go_simp
        with_reducible rfl
      rotate_left
      · simp only [Act.put, sA_, i64_w, i32_w]
        rfl
      refine pureY (i := 3) (N := some 25) (v := ?_) (a' := ?_) #[true, true, true, true, false, false, false, false, false] rfl rfl (any_of HT_.out (by kernel_rfl)) ⟨by rfl, ?_⟩ ?_ ?_
      rotate_left
      · intro w'
        go_simp
        with_reducible rfl
      rotate_left
      · simp only [Act.put, sA_, i64_w, i32_w]
        rfl
      refine pureY (i := 4) (N := some 26) (v := ?_) (a' := ?_) #[true, true, true, true, true, false, false, false, false] rfl rfl (any_of HT_.out (by kernel_rfl)) ⟨by rfl, ?_⟩ ?_ ?_
      rotate_left
      · intro w'
        go_simp
        with_reducible rfl
      rotate_left
      · simp only [Act.put, sA_, i64_w, i32_w]
        rfl
      refine pureY (i := 6) (N := some 28) (v := ?_) (a' := ?_) #[true, true, true, true, true, false, true, false, false] rfl rfl (any_of HT_.out (by kernel_rfl)) ⟨by rfl, ?_⟩ ?_ ?_
      rotate_left
      · intro w'
        go_simp
        with_reducible rfl
      rotate_left
      · simp only [Act.put, sA_, i64_w, i32_w]
        rfl
      refine takeY (i := 5) (N := some 27) (v := ?_) (a' := ?_) #[true, true, true, true, true, true, true, false, false] rfl rfl (take_ofW HT_.out HW_.out (by kernel_rfl)) ⟨by rfl, ?_⟩ hHeld ?_ ?_
      rotate_left
      · rintro w' ⟨s0, s1, s2, s3, s4, s5, s6, s7, s8⟩
        go_simp
        with_reducible rfl
      rotate_left
      · simp only [Act.put, sA_, i64_w, i32_w]
        rfl
      refine one_ (i := 7) (N := some 29) #[true, true, true, true, true, true, true, true, false] rfl rfl (one_of HT_.out (by kernel_rfl)) (by decide) (fun K hK => ?_)
      refine goes_ Tryd.func90 (by kernel_rfl) rfl #[.int .i64 (wrap64 (x1_1 + 1))] (by rfl) rfl rfl (by (try simp only [List.map_toArray, List.map_cons, List.map_nil]); first | done | rfl | (simp only [List.length_drop, List.length_take]; rfl)) ?_
      with_reducible refine (laws_markText.calls k1 (wrap64 (x1_1 + 1)) t177 _ A6.out).mono ?_
      rintro e w9 ⟨rfl, hb⟩
      refine ⟨_, rfl, ?_⟩
      have hb1_ := fromQ HB.out hb
      have hb0_ := below_step hb1_ hb
      replace HB := kH HB hb0_
      clear hb1_ hb0_
      (try clear hb)
      (try clear hb2)
      (try clear hk)
      (try clear hi)
      refine hK.out _ _ ⟨((HB.out.cell (World.block_lt_of_cell? w _ hw176_0)).trans hw176_0), ((HB.out.cell (World.block_lt_of_cell? w _ hw176_1)).trans hw176_1), ((HB.out.cell (World.block_lt_of_cell? w _ hw176_2)).trans hw176_2), ((HB.out.cell (World.block_lt_of_cell? w _ hw176_3)).trans hw176_3), ((HB.out.cell (World.block_lt_of_cell? w _ hw176_4)).trans hw176_4), ((HB.out.cell (World.block_lt_of_cell? w _ hw176_5)).trans hw176_5), ((HB.out.cell (World.block_lt_of_cell? w _ hw176_6)).trans hw176_6), ((HB.out.cell (World.block_lt_of_cell? w _ hw176_7)).trans hw176_7), ((HB.out.cell (World.block_lt_of_cell? w _ hw176_8)).trans hw176_8)⟩ (fun hHeld => ?_)
      clear hK K
      refine norm_ (a' := ?_) ?_ ?_
      rotate_left
      · show Act.put _ (some 29) _ = _
        simp only [Act.put, sA_, i64_w, i32_w]
        rfl
      refine pureY (i := 8) (N := some 30) (v := ?_) (a' := ?_) #[true, true, true, true, true, true, true, true, true] rfl rfl (any_of HT_.out (by kernel_rfl)) ⟨by rfl, ?_⟩ ?_ ?_
      rotate_left
      · intro w'
        go_simp
        with_reducible rfl
      rotate_left
      · simp only [Act.put, sA_, i64_w, i32_w]
        rfl
      refine done_ (done_of HT_.out (by kernel_rfl)) ?_
      go_upto_if 30 with (fail)
      have H := HL7.out
      clear HL7
      by_cases c10 : ((rd_T32 l0 x5_1).f0.f1).toList = t177.toList
      ·
       rw [if_pos c10] at H
       have c10b0 : (((rd_T32 l0 x5_1).f0.f1).toList == t177.toList) = true := beq_iff_eq.mpr c10
       have c10b1 : (((rd_T32 l0 x5_1).f0.f1).toList != t177.toList) = false := bne_eq_false_iff_eq.mpr c10
       clear c10
       (first | rw [c10b0] | (simp only [i64_w, i32_w]; rw [c10b0]) | simp only [c10b2, Bool.not_false, Bool.not_true] | skip)
       by_cases c11 : (((rd_T32 l0 x5_1).f1) != ((Int.tmod (wrap64 ((wrap64 (x1_1 + 1)) + 1)) 3) == 0)) = true
       ·
        rw [if_pos c11] at H
        have c11b0 : (((rd_T32 l0 x5_1).f1) != ((Int.tmod (wrap64 ((wrap64 (x1_1 + 1)) + 1)) 3) == 0)) = true := c11
        (try (have c11b1 : decide (((rd_T32 l0 x5_1).f1) = ((Int.tmod (wrap64 ((wrap64 (x1_1 + 1)) + 1)) 3) == 0)) = false := by simpa using c11))
        (try (have c11b2 : (((rd_T32 l0 x5_1).f1) == ((Int.tmod (wrap64 ((wrap64 (x1_1 + 1)) + 1)) 3) == 0)) = false := by simpa using c11))
        (try (have c11b3 : ¬ (((rd_T32 l0 x5_1).f1) = ((Int.tmod (wrap64 ((wrap64 (x1_1 + 1)) + 1)) 3) == 0)) := by simpa using c11))
        clear c11
        obtain rfl := Option.some.inj H
        have p178 : 0 ≤ (x5_1 : Int) := of_decide_eq_true (by first | (with_reducible assumption) | assumption)
        have q178 : x5_1 < (l0.length : Int) := of_decide_eq_true (by first | (with_reducible assumption) | assumption)
        obtain ⟨ad178, A178_4, c178_4, e178, hx178_0, hx178_1, hx178_2, hx178_3, hx178_4, hx178_5, hx178_6, hx178_7, hx178_8, hl178_4, hi178_4⟩ := at_T32 HR0.out x5_1 p178 q178
        obtain rfl : ad175 = ad178 := (by injection e178)
        (try clear hHeld)
        replace hx178_0 := bcl HB hx178_0
        replace hx178_1 := bcl HB hx178_1
        replace hx178_2 := bcl HB hx178_2
        replace hx178_3 := bcl HB hx178_3
        replace hx178_4 := bcl HB hx178_4
        replace hx178_5 := bcl HB hx178_5
        replace hx178_6 := bcl HB hx178_6
        replace hx178_7 := bcl HB hx178_7
        replace hx178_8 := bcl HB hx178_8
        have HR178_4 := Aside0.mk hi178_4
        have HC178_4 := Aside0.mk hl178_4
        clear hi178_4 hl178_4
        replace p178 := eq_true p178
        replace q178 := eq_true q178
        go_wp2
        go_ret
        exact ⟨by first | rfl | (simp [errW_none, errW_some] <;> rfl) | (simp [*, errW_none, errW_some] <;> rfl), by repeat (first | (with_reducible first | exact HB.out | apply below_alloc | apply pw_below_drewN | apply below_drew1) | exact HB.out)⟩
       rw [if_neg c11] at H
       have c11b0 : (((rd_T32 l0 x5_1).f1) != ((Int.tmod (wrap64 ((wrap64 (x1_1 + 1)) + 1)) 3) == 0)) = false := by simpa using c11
       (try (have c11b1 : decide (((rd_T32 l0 x5_1).f1) = ((Int.tmod (wrap64 ((wrap64 (x1_1 + 1)) + 1)) 3) == 0)) = true := by simpa using c11))
       (try (have c11b2 : (((rd_T32 l0 x5_1).f1) == ((Int.tmod (wrap64 ((wrap64 (x1_1 + 1)) + 1)) 3) == 0)) = true := by simpa using c11))
       clear c11
       replace H := Option.bind_eq_some_iff.mp H
       obtain ⟨t180, A120, H⟩ := H
       replace H : (if ((rd_T32 l0 x5_1).f2).toList = t180.toList then ((laws_heldKeyS.f k1 ((rd_T32 l0 x5_1).f3) (wrap64 ((wrap64 ((wrap64 ((wrap64 (x1_1 + 1)) + 1)) + 1)) + 1))).bind fun t182 => (if t182 < 0 then (some (-1)) else (if ((rd_T32 l0 x5_1).f4) = t182 then (if ((rd_T32 l0 x5_1).f5) = (wrap64 (t182 + 1)) then (if ((rd_T32 l0 x5_1).f6) = (wrap64 ((wrap64 (t182 + 1)) + 1)) then (if ((rd_T32 l0 x5_1).f7) = (wrap64 ((wrap64 ((wrap64 (t182 + 1)) + 1)) + 1)) then (laws_heldSlotS.l0 k1 l0 (wrap64 ((wrap64 ((wrap64 ((wrap64 (t182 + 1)) + 1)) + 1)) + 1)) (wrap64 (x5_1 + 1))) else (some (-1))) else (some (-1))) else (some (-1))) else (some (-1))))) else (some (-1))) = some r := H
       have A12 := Aside0.mk A120
       clear A120
       have HL13 := Aside0.mk H
       clear H
       have p178 : 0 ≤ (x5_1 : Int) := of_decide_eq_true (by first | (with_reducible assumption) | assumption)
       have q178 : x5_1 < (l0.length : Int) := of_decide_eq_true (by first | (with_reducible assumption) | assumption)
       obtain ⟨ad178, A178_4, c178_4, e178, hx178_0, hx178_1, hx178_2, hx178_3, hx178_4, hx178_5, hx178_6, hx178_7, hx178_8, hl178_4, hi178_4⟩ := at_T32 HR0.out x5_1 p178 q178
       obtain rfl : ad175 = ad178 := (by injection e178)
       (try clear hHeld)
       replace hx178_0 := bcl HB hx178_0
       replace hx178_1 := bcl HB hx178_1
       replace hx178_2 := bcl HB hx178_2
       replace hx178_3 := bcl HB hx178_3
       replace hx178_4 := bcl HB hx178_4
       replace hx178_5 := bcl HB hx178_5
       replace hx178_6 := bcl HB hx178_6
       replace hx178_7 := bcl HB hx178_7
       replace hx178_8 := bcl HB hx178_8
       have HR178_4 := Aside0.mk hi178_4
       have HC178_4 := Aside0.mk hl178_4
       clear hi178_4 hl178_4
       replace p178 := eq_true p178
       replace q178 := eq_true q178
       try go_wp2
       have n0_ := Aside0.mk (below_drew1 HB.out)
       clear HB
       have HB := n0_
       clear n0_
       have p179 : 0 ≤ (x5_1 : Int) := of_decide_eq_true (by first | (with_reducible assumption) | assumption)
       have q179 : x5_1 < (l0.length : Int) := of_decide_eq_true (by first | (with_reducible assumption) | assumption)
       obtain ⟨ad179, A179_4, c179_4, e179, hx179_0, hx179_1, hx179_2, hx179_3, hx179_4, hx179_5, hx179_6, hx179_7, hx179_8, hl179_4, hi179_4⟩ := at_T32 HR0.out x5_1 p179 q179
       have hw179_8 := hx179_8
       have hw179_7 := hx179_7
       have hw179_6 := hx179_6
       have hw179_5 := hx179_5
       have hw179_4 := hx179_4
       have hw179_3 := hx179_3
       have hw179_2 := hx179_2
       have hw179_1 := hx179_1
       have hw179_0 := hx179_0
       obtain rfl : ad175 = ad179 := (by injection e179)
       (try clear hHeld)
       replace hx179_0 := bcl HB hx179_0
       replace hx179_1 := bcl HB hx179_1
       replace hx179_2 := bcl HB hx179_2
       replace hx179_3 := bcl HB hx179_3
       replace hx179_4 := bcl HB hx179_4
       replace hx179_5 := bcl HB hx179_5
       replace hx179_6 := bcl HB hx179_6
       replace hx179_7 := bcl HB hx179_7
       replace hx179_8 := bcl HB hx179_8
       have HR179_4 := Aside0.mk hi179_4
       have HC179_4 := Aside0.mk hl179_4
       clear hi179_4 hl179_4
       replace p179 := eq_true p179
       replace q179 := eq_true q179
       refine start_ (n := 8) (S := fun w' => w'.cell? (ad175.add ((x5_1).toNat * 9)) = some (.int .i64 ((rd_T32 l0 x5_1).f0.f0)) ∧ w'.cell? ⟨(ad175.add ((x5_1).toNat * 9)).block, (ad175.add ((x5_1).toNat * 9)).off + 1, none⟩ = some (.string ((rd_T32 l0 x5_1).f0.f1)) ∧ w'.cell? ⟨(ad175.add ((x5_1).toNat * 9)).block, (ad175.add ((x5_1).toNat * 9)).off + 2, none⟩ = some (.bool ((rd_T32 l0 x5_1).f1)) ∧ w'.cell? ⟨(ad175.add ((x5_1).toNat * 9)).block, (ad175.add ((x5_1).toNat * 9)).off + 3, none⟩ = some (.string ((rd_T32 l0 x5_1).f2)) ∧ w'.cell? ⟨(ad175.add ((x5_1).toNat * 9)).block, (ad175.add ((x5_1).toNat * 9)).off + 4, none⟩ = some (.slice A179_4 ((rd_T32 l0 x5_1).f3).length c179_4) ∧ w'.cell? ⟨(ad175.add ((x5_1).toNat * 9)).block, (ad175.add ((x5_1).toNat * 9)).off + 5, none⟩ = some (.int .i64 ((rd_T32 l0 x5_1).f4)) ∧ w'.cell? ⟨(ad175.add ((x5_1).toNat * 9)).block, (ad175.add ((x5_1).toNat * 9)).off + 6, none⟩ = some (.int .i64 ((rd_T32 l0 x5_1).f5)) ∧ w'.cell? ⟨(ad175.add ((x5_1).toNat * 9)).block, (ad175.add ((x5_1).toNat * 9)).off + 7, none⟩ = some (.int .i64 ((rd_T32 l0 x5_1).f6)) ∧ w'.cell? ⟨(ad175.add ((x5_1).toNat * 9)).block, (ad175.add ((x5_1).toNat * 9)).off + 8, none⟩ = some (.int .i64 ((rd_T32 l0 x5_1).f7))) (ds := []) #[false, false, false, false, false, false, false, false] (by kernel_rfl) rfl rfl ⟨((HB.out.cell (World.block_lt_of_cell? w _ hw179_0)).trans hw179_0), ((HB.out.cell (World.block_lt_of_cell? w _ hw179_1)).trans hw179_1), ((HB.out.cell (World.block_lt_of_cell? w _ hw179_2)).trans hw179_2), ((HB.out.cell (World.block_lt_of_cell? w _ hw179_3)).trans hw179_3), ((HB.out.cell (World.block_lt_of_cell? w _ hw179_4)).trans hw179_4), ((HB.out.cell (World.block_lt_of_cell? w _ hw179_5)).trans hw179_5), ((HB.out.cell (World.block_lt_of_cell? w _ hw179_6)).trans hw179_6), ((HB.out.cell (World.block_lt_of_cell? w _ hw179_7)).trans hw179_7), ((HB.out.cell (World.block_lt_of_cell? w _ hw179_8)).trans hw179_8)⟩ (fun hHeld => ?_); refine with_tabW laws_heldSlotS.tab13 laws_heldSlotS.bits13 (fun HT_ HW_ => ?_)
       generalize w9.drew = w14 at HB HR179_4 hx179_0 hx179_1 hx179_2 hx179_3 hx179_4 hx179_5 hx179_6 hx179_7 hx179_8 hHeld ⊢
       refine pureY (i := 0) (N := some 44) (v := ?_) (a' := ?_) #[true, false, false, false, false, false, false, false] rfl rfl (any_of HT_.out (by kernel_rfl)) ⟨by rfl, ?_⟩ ?_ ?_
       rotate_left
       · intro w'
         go_simp
         with_reducible rfl
       rotate_left
       · simp only [Act.put, sA_, i64_w, i32_w]
         rfl
       refine pureY (i := 1) (N := some 45) (v := ?_) (a' := ?_) #[true, true, false, false, false, false, false, false] rfl rfl (any_of HT_.out (by kernel_rfl)) ⟨by rfl, ?_⟩ ?_ ?_
       rotate_left
       · intro w'
         go_simp
         with_reducible rfl
       rotate_left
       · simp only [Act.put, sA_, i64_w, i32_w]
         rfl
       refine pureY (i := 2) (N := some 46) (v := ?_) (a' := ?_) #[true, true, true, false, false, false, false, false] rfl rfl (any_of HT_.out (by kernel_rfl)) ⟨by rfl, ?_⟩ ?_ ?_
       rotate_left
       · intro w'
         go_simp
         with_reducible rfl
       rotate_left
       · simp only [Act.put, sA_, i64_w, i32_w]
         rfl
       refine pureY (i := 3) (N := some 47) (v := ?_) (a' := ?_) #[true, true, true, true, false, false, false, false] rfl rfl (any_of HT_.out (by kernel_rfl)) ⟨by rfl, ?_⟩ ?_ ?_
       rotate_left
       · intro w'
         go_simp
         with_reducible rfl
       rotate_left
       · simp only [Act.put, sA_, i64_w, i32_w]
         rfl
       refine pureY (i := 5) (N := some 49) (v := ?_) (a' := ?_) #[true, true, true, true, false, true, false, false] rfl rfl (any_of HT_.out (by kernel_rfl)) ⟨by rfl, ?_⟩ ?_ ?_
       rotate_left
       · intro w'
         go_simp
         with_reducible rfl
       rotate_left
       · simp only [Act.put, sA_, i64_w, i32_w]
         rfl
       refine takeY (i := 4) (N := some 48) (v := ?_) (a' := ?_) #[true, true, true, true, true, true, false, false] rfl rfl (take_ofW HT_.out HW_.out (by kernel_rfl)) ⟨by rfl, ?_⟩ hHeld ?_ ?_
       rotate_left
       · rintro w' ⟨s0, s1, s2, s3, s4, s5, s6, s7, s8⟩
         go_simp
         with_reducible rfl
       rotate_left
       · simp only [Act.put, sA_, i64_w, i32_w]
         rfl
       refine one_ (i := 6) (N := some 50) #[true, true, true, true, true, true, true, false] rfl rfl (one_of HT_.out (by kernel_rfl)) (by decide) (fun K hK => ?_)
       refine goes_ Tryd.func90 (by kernel_rfl) rfl #[.int .i64 (wrap64 ((wrap64 ((wrap64 (x1_1 + 1)) + 1)) + 1))] (by rfl) rfl rfl (by (try simp only [List.map_toArray, List.map_cons, List.map_nil]); first | done | rfl | (simp only [List.length_drop, List.length_take]; rfl)) ?_
       with_reducible refine (laws_markText.calls k1 (wrap64 ((wrap64 ((wrap64 (x1_1 + 1)) + 1)) + 1)) t180 _ A12.out).mono ?_
       rintro e w15 ⟨rfl, hb⟩
       refine ⟨_, rfl, ?_⟩
       have hb1_ := fromQ HB.out hb
       have hb0_ := below_step hb1_ hb
       replace HB := kH HB hb0_
       clear hb1_ hb0_
       (try clear hb)
       (try clear hb2)
       (try clear hk)
       (try clear hi)
       refine hK.out _ _ ⟨((HB.out.cell (World.block_lt_of_cell? w _ hw179_0)).trans hw179_0), ((HB.out.cell (World.block_lt_of_cell? w _ hw179_1)).trans hw179_1), ((HB.out.cell (World.block_lt_of_cell? w _ hw179_2)).trans hw179_2), ((HB.out.cell (World.block_lt_of_cell? w _ hw179_3)).trans hw179_3), ((HB.out.cell (World.block_lt_of_cell? w _ hw179_4)).trans hw179_4), ((HB.out.cell (World.block_lt_of_cell? w _ hw179_5)).trans hw179_5), ((HB.out.cell (World.block_lt_of_cell? w _ hw179_6)).trans hw179_6), ((HB.out.cell (World.block_lt_of_cell? w _ hw179_7)).trans hw179_7), ((HB.out.cell (World.block_lt_of_cell? w _ hw179_8)).trans hw179_8)⟩ (fun hHeld => ?_)
       clear hK K
       refine norm_ (a' := ?_) ?_ ?_
       rotate_left
       · show Act.put _ (some 50) _ = _
         simp only [Act.put, sA_, i64_w, i32_w]
         rfl
       refine pureY (i := 7) (N := some 51) (v := ?_) (a' := ?_) #[true, true, true, true, true, true, true, true] rfl rfl (any_of HT_.out (by kernel_rfl)) ⟨by rfl, ?_⟩ ?_ ?_
       rotate_left
       · intro w'
         go_simp
         with_reducible rfl
       rotate_left
       · simp only [Act.put, sA_, i64_w, i32_w]
         rfl
       refine done_ (done_of HT_.out (by kernel_rfl)) ?_
       go_upto_if 51 with (fail)
       have H := HL13.out
       clear HL13
       by_cases c16 : ((rd_T32 l0 x5_1).f2).toList = t180.toList
       ·
        rw [if_pos c16] at H
        have c16b0 : (((rd_T32 l0 x5_1).f2).toList == t180.toList) = true := beq_iff_eq.mpr c16
        have c16b1 : (((rd_T32 l0 x5_1).f2).toList != t180.toList) = false := bne_eq_false_iff_eq.mpr c16
        clear c16
        (first | rw [c16b0] | (simp only [i64_w, i32_w]; rw [c16b0]) | simp only [c16b2, Bool.not_false, Bool.not_true] | skip)
        replace H := Option.bind_eq_some_iff.mp H
        obtain ⟨t182, A170, H⟩ := H
        replace H : (if t182 < 0 then (some (-1)) else (if ((rd_T32 l0 x5_1).f4) = t182 then (if ((rd_T32 l0 x5_1).f5) = (wrap64 (t182 + 1)) then (if ((rd_T32 l0 x5_1).f6) = (wrap64 ((wrap64 (t182 + 1)) + 1)) then (if ((rd_T32 l0 x5_1).f7) = (wrap64 ((wrap64 ((wrap64 (t182 + 1)) + 1)) + 1)) then (laws_heldSlotS.l0 k1 l0 (wrap64 ((wrap64 ((wrap64 ((wrap64 (t182 + 1)) + 1)) + 1)) + 1)) (wrap64 (x5_1 + 1))) else (some (-1))) else (some (-1))) else (some (-1))) else (some (-1)))) = some r := H
        have A17 := Aside0.mk A170
        clear A170
        have HL18 := Aside0.mk H
        clear H
        have p181 : 0 ≤ (x5_1 : Int) := of_decide_eq_true (by first | (with_reducible assumption) | assumption)
        have q181 : x5_1 < (l0.length : Int) := of_decide_eq_true (by first | (with_reducible assumption) | assumption)
        obtain ⟨ad181, A181_4, c181_4, e181, hx181_0, hx181_1, hx181_2, hx181_3, hx181_4, hx181_5, hx181_6, hx181_7, hx181_8, hl181_4, hi181_4⟩ := at_T32 HR0.out x5_1 p181 q181
        obtain rfl : ad175 = ad181 := (by injection e181)
        (try clear hHeld)
        replace hx181_0 := bcl HB hx181_0
        replace hx181_1 := bcl HB hx181_1
        replace hx181_2 := bcl HB hx181_2
        replace hx181_3 := bcl HB hx181_3
        replace hx181_4 := bcl HB hx181_4
        replace hx181_5 := bcl HB hx181_5
        replace hx181_6 := bcl HB hx181_6
        replace hx181_7 := bcl HB hx181_7
        replace hx181_8 := bcl HB hx181_8
        have HR181_4 := Aside0.mk hi181_4
        have HC181_4 := Aside0.mk hl181_4
        clear hi181_4 hl181_4
        replace p181 := eq_true p181
        replace q181 := eq_true q181
        go_upto_if 62 with (first | ((with_reducible refine gate_callee (f := 64) rfl ?_); refine goesL_ (some 60) rfl rfl Tryd.func64 (by kernel_rfl) rfl #[.slice A181_4 ((rd_T32 l0 x5_1).f3).length c181_4, .int .i64 (wrap64 ((wrap64 ((wrap64 ((wrap64 (x1_1 + 1)) + 1)) + 1)) + 1))] rfl (by (try simp only [List.map_toArray, List.map_cons, List.map_nil]); first | done | rfl | (simp only [List.length_drop, List.length_take]; rfl)) ?_; (with_reducible refine (laws_heldKeyS.calls k1 _ _ ((rd_T32 l0 x5_1).f3) (wrap64 ((wrap64 ((wrap64 ((wrap64 (x1_1 + 1)) + 1)) + 1)) + 1)) t182 _ ?side1 ?side2 A17.out).mono ?_); (case side1 => repeat (first | exact (Kd.C_below HR181_4.out HB.out) | (with_reducible refine Kd.C_alloc ?_ _) | (with_reducible refine Kd.C_drewN ?_ _) | (with_reducible refine Kd.C_drew ?_))); (case side2 => exact HC181_4.out); rintro e w19 ⟨rfl, hb⟩; refine ⟨_, rfl, ?_⟩; have hb1_ := fromQ HB.out hb; have hb0_ := below_step hb1_ hb; replace HB := kH HB hb0_; clear hb1_ hb0_; (try clear hb); (try clear hb2); (try clear hk); (try clear hi)))
        have H := HL18.out
        clear HL18
        by_cases c20 : t182 < 0
        · rw [if_pos c20] at H
          have c20b0 : decide (t182 < 0) = true := decide_eq_true c20
          clear c20
          (first | rw [c20b0] | (simp only [i64_w, i32_w]; rw [c20b0]) | simp only [c20b2, Bool.not_false, Bool.not_true] | skip)
          obtain rfl := Option.some.inj H
          go_wp2
          go_ret
          exact ⟨by first | rfl | (simp [errW_none, errW_some] <;> rfl) | (simp [*, errW_none, errW_some] <;> rfl), by repeat (first | (with_reducible first | exact HB.out | apply below_alloc | apply pw_below_drewN | apply below_drew1) | exact HB.out)⟩
        rw [if_neg c20] at H
        have c20b0 : decide (t182 < 0) = false := decide_eq_false c20
        clear c20
        (first | rw [c20b0] | (simp only [i64_w, i32_w]; rw [c20b0]) | simp only [c20b2, Bool.not_false, Bool.not_true] | skip)
        by_cases c21 : ((rd_T32 l0 x5_1).f4) = t182
        ·
         rw [if_pos c21] at H
         have c21b0 : (((rd_T32 l0 x5_1).f4) == t182) = true := beq_iff_eq.mpr c21
         have c21b1 : (((rd_T32 l0 x5_1).f4) != t182) = false := bne_eq_false_iff_eq.mpr c21
         clear c21
         by_cases c22 : ((rd_T32 l0 x5_1).f5) = (wrap64 (t182 + 1))
         ·
          rw [if_pos c22] at H
          have c22b0 : (((rd_T32 l0 x5_1).f5) == (wrap64 (t182 + 1))) = true := beq_iff_eq.mpr c22
          have c22b1 : (((rd_T32 l0 x5_1).f5) != (wrap64 (t182 + 1))) = false := bne_eq_false_iff_eq.mpr c22
          clear c22
          by_cases c23 : ((rd_T32 l0 x5_1).f6) = (wrap64 ((wrap64 (t182 + 1)) + 1))
          ·
           rw [if_pos c23] at H
           have c23b0 : (((rd_T32 l0 x5_1).f6) == (wrap64 ((wrap64 (t182 + 1)) + 1))) = true := beq_iff_eq.mpr c23
           have c23b1 : (((rd_T32 l0 x5_1).f6) != (wrap64 ((wrap64 (t182 + 1)) + 1))) = false := bne_eq_false_iff_eq.mpr c23
           clear c23
           by_cases c24 : ((rd_T32 l0 x5_1).f7) = (wrap64 ((wrap64 ((wrap64 (t182 + 1)) + 1)) + 1))
           ·
            rw [if_pos c24] at H
            have c24b0 : (((rd_T32 l0 x5_1).f7) == (wrap64 ((wrap64 ((wrap64 (t182 + 1)) + 1)) + 1))) = true := beq_iff_eq.mpr c24
            have c24b1 : (((rd_T32 l0 x5_1).f7) != (wrap64 ((wrap64 ((wrap64 (t182 + 1)) + 1)) + 1))) = false := bne_eq_false_iff_eq.mpr c24
            clear c24
            have H' := Aside0.mk H
            clear H
            have p183 : 0 ≤ (x5_1 : Int) := of_decide_eq_true (by first | (with_reducible assumption) | assumption)
            have q183 : x5_1 < (l0.length : Int) := of_decide_eq_true (by first | (with_reducible assumption) | assumption)
            obtain ⟨ad183, A183_4, c183_4, e183, hx183_0, hx183_1, hx183_2, hx183_3, hx183_4, hx183_5, hx183_6, hx183_7, hx183_8, hl183_4, hi183_4⟩ := at_T32 HR0.out x5_1 p183 q183
            obtain rfl : ad175 = ad183 := (by injection e183)
            (try clear hHeld)
            replace hx183_0 := bcl HB hx183_0
            replace hx183_1 := bcl HB hx183_1
            replace hx183_2 := bcl HB hx183_2
            replace hx183_3 := bcl HB hx183_3
            replace hx183_4 := bcl HB hx183_4
            replace hx183_5 := bcl HB hx183_5
            replace hx183_6 := bcl HB hx183_6
            replace hx183_7 := bcl HB hx183_7
            replace hx183_8 := bcl HB hx183_8
            have HR183_4 := Aside0.mk hi183_4
            have HC183_4 := Aside0.mk hl183_4
            clear hi183_4 hl183_4
            replace p183 := eq_true p183
            replace q183 := eq_true q183
            have p184 : 0 ≤ (x5_1 : Int) := of_decide_eq_true (by first | (with_reducible assumption) | assumption)
            have q184 : x5_1 < (l0.length : Int) := of_decide_eq_true (by first | (with_reducible assumption) | assumption)
            obtain ⟨ad184, A184_4, c184_4, e184, hx184_0, hx184_1, hx184_2, hx184_3, hx184_4, hx184_5, hx184_6, hx184_7, hx184_8, hl184_4, hi184_4⟩ := at_T32 HR0.out x5_1 p184 q184
            obtain rfl : ad175 = ad184 := (by injection e184)
            (try clear hHeld)
            replace hx184_0 := bcl HB hx184_0
            replace hx184_1 := bcl HB hx184_1
            replace hx184_2 := bcl HB hx184_2
            replace hx184_3 := bcl HB hx184_3
            replace hx184_4 := bcl HB hx184_4
            replace hx184_5 := bcl HB hx184_5
            replace hx184_6 := bcl HB hx184_6
            replace hx184_7 := bcl HB hx184_7
            replace hx184_8 := bcl HB hx184_8
            have HR184_4 := Aside0.mk hi184_4
            have HC184_4 := Aside0.mk hl184_4
            clear hi184_4 hl184_4
            replace p184 := eq_true p184
            replace q184 := eq_true q184
            have ea_ := Option.some.inj (hx183_4.symm.trans hx184_4)
            injection ea_ with ea_ en_ ec_
            subst ea_
            subst ec_
            clear en_
            have p185 : 0 ≤ (x5_1 : Int) := of_decide_eq_true (by first | (with_reducible assumption) | assumption)
            have q185 : x5_1 < (l0.length : Int) := of_decide_eq_true (by first | (with_reducible assumption) | assumption)
            obtain ⟨ad185, A185_4, c185_4, e185, hx185_0, hx185_1, hx185_2, hx185_3, hx185_4, hx185_5, hx185_6, hx185_7, hx185_8, hl185_4, hi185_4⟩ := at_T32 HR0.out x5_1 p185 q185
            obtain rfl : ad175 = ad185 := (by injection e185)
            (try clear hHeld)
            replace hx185_0 := bcl HB hx185_0
            replace hx185_1 := bcl HB hx185_1
            replace hx185_2 := bcl HB hx185_2
            replace hx185_3 := bcl HB hx185_3
            replace hx185_4 := bcl HB hx185_4
            replace hx185_5 := bcl HB hx185_5
            replace hx185_6 := bcl HB hx185_6
            replace hx185_7 := bcl HB hx185_7
            replace hx185_8 := bcl HB hx185_8
            have HR185_4 := Aside0.mk hi185_4
            have HC185_4 := Aside0.mk hl185_4
            clear hi185_4 hl185_4
            replace p185 := eq_true p185
            replace q185 := eq_true q185
            have ea_ := Option.some.inj (hx183_4.symm.trans hx185_4)
            injection ea_ with ea_ en_ ec_
            subst ea_
            subst ec_
            clear en_
            have p186 : 0 ≤ (x5_1 : Int) := of_decide_eq_true (by first | (with_reducible assumption) | assumption)
            have q186 : x5_1 < (l0.length : Int) := of_decide_eq_true (by first | (with_reducible assumption) | assumption)
            obtain ⟨ad186, A186_4, c186_4, e186, hx186_0, hx186_1, hx186_2, hx186_3, hx186_4, hx186_5, hx186_6, hx186_7, hx186_8, hl186_4, hi186_4⟩ := at_T32 HR0.out x5_1 p186 q186
            obtain rfl : ad175 = ad186 := (by injection e186)
            (try clear hHeld)
            replace hx186_0 := bcl HB hx186_0
            replace hx186_1 := bcl HB hx186_1
            replace hx186_2 := bcl HB hx186_2
            replace hx186_3 := bcl HB hx186_3
            replace hx186_4 := bcl HB hx186_4
            replace hx186_5 := bcl HB hx186_5
            replace hx186_6 := bcl HB hx186_6
            replace hx186_7 := bcl HB hx186_7
            replace hx186_8 := bcl HB hx186_8
            have HR186_4 := Aside0.mk hi186_4
            have HC186_4 := Aside0.mk hl186_4
            clear hi186_4 hl186_4
            replace p186 := eq_true p186
            replace q186 := eq_true q186
            have ea_ := Option.some.inj (hx183_4.symm.trans hx186_4)
            injection ea_ with ea_ en_ ec_
            subst ea_
            subst ec_
            clear en_
            go_wp2
            go_roundg k1
            case measure => have := HK1.out; omega
            case rel => exact ⟨(wrap64 ((wrap64 ((wrap64 ((wrap64 (t182 + 1)) + 1)) + 1)) + 1)), (wrap64 (x5_1 + 1)), (by first | rfl | (simp; done) | (simp [*]; done)), (by first | rfl | (simp; done) | (simp [*]; done)), H', ⟨by have := HK1.out; omega⟩, ⟨by repeat (first | (with_reducible first | exact HB.out | apply below_alloc | apply pw_below_drewN | apply below_drew1) | exact HB.out)⟩⟩
           rw [if_neg c24] at H
           have c24b0 : (((rd_T32 l0 x5_1).f7) == (wrap64 ((wrap64 ((wrap64 (t182 + 1)) + 1)) + 1))) = false := beq_eq_false_iff_ne.mpr c24
           have c24b1 : (((rd_T32 l0 x5_1).f7) != (wrap64 ((wrap64 ((wrap64 (t182 + 1)) + 1)) + 1))) = true := bne_iff_ne.mpr c24
           obtain rfl := Option.some.inj H
           have p183 : 0 ≤ (x5_1 : Int) := of_decide_eq_true (by first | (with_reducible assumption) | assumption)
           have q183 : x5_1 < (l0.length : Int) := of_decide_eq_true (by first | (with_reducible assumption) | assumption)
           obtain ⟨ad183, A183_4, c183_4, e183, hx183_0, hx183_1, hx183_2, hx183_3, hx183_4, hx183_5, hx183_6, hx183_7, hx183_8, hl183_4, hi183_4⟩ := at_T32 HR0.out x5_1 p183 q183
           obtain rfl : ad175 = ad183 := (by injection e183)
           (try clear hHeld)
           replace hx183_0 := bcl HB hx183_0
           replace hx183_1 := bcl HB hx183_1
           replace hx183_2 := bcl HB hx183_2
           replace hx183_3 := bcl HB hx183_3
           replace hx183_4 := bcl HB hx183_4
           replace hx183_5 := bcl HB hx183_5
           replace hx183_6 := bcl HB hx183_6
           replace hx183_7 := bcl HB hx183_7
           replace hx183_8 := bcl HB hx183_8
           have HR183_4 := Aside0.mk hi183_4
           have HC183_4 := Aside0.mk hl183_4
           clear hi183_4 hl183_4
           replace p183 := eq_true p183
           replace q183 := eq_true q183
           have p184 : 0 ≤ (x5_1 : Int) := of_decide_eq_true (by first | (with_reducible assumption) | assumption)
           have q184 : x5_1 < (l0.length : Int) := of_decide_eq_true (by first | (with_reducible assumption) | assumption)
           obtain ⟨ad184, A184_4, c184_4, e184, hx184_0, hx184_1, hx184_2, hx184_3, hx184_4, hx184_5, hx184_6, hx184_7, hx184_8, hl184_4, hi184_4⟩ := at_T32 HR0.out x5_1 p184 q184
           obtain rfl : ad175 = ad184 := (by injection e184)
           (try clear hHeld)
           replace hx184_0 := bcl HB hx184_0
           replace hx184_1 := bcl HB hx184_1
           replace hx184_2 := bcl HB hx184_2
           replace hx184_3 := bcl HB hx184_3
           replace hx184_4 := bcl HB hx184_4
           replace hx184_5 := bcl HB hx184_5
           replace hx184_6 := bcl HB hx184_6
           replace hx184_7 := bcl HB hx184_7
           replace hx184_8 := bcl HB hx184_8
           have HR184_4 := Aside0.mk hi184_4
           have HC184_4 := Aside0.mk hl184_4
           clear hi184_4 hl184_4
           replace p184 := eq_true p184
           replace q184 := eq_true q184
           have ea_ := Option.some.inj (hx183_4.symm.trans hx184_4)
           injection ea_ with ea_ en_ ec_
           subst ea_
           subst ec_
           clear en_
           have p185 : 0 ≤ (x5_1 : Int) := of_decide_eq_true (by first | (with_reducible assumption) | assumption)
           have q185 : x5_1 < (l0.length : Int) := of_decide_eq_true (by first | (with_reducible assumption) | assumption)
           obtain ⟨ad185, A185_4, c185_4, e185, hx185_0, hx185_1, hx185_2, hx185_3, hx185_4, hx185_5, hx185_6, hx185_7, hx185_8, hl185_4, hi185_4⟩ := at_T32 HR0.out x5_1 p185 q185
           obtain rfl : ad175 = ad185 := (by injection e185)
           (try clear hHeld)
           replace hx185_0 := bcl HB hx185_0
           replace hx185_1 := bcl HB hx185_1
           replace hx185_2 := bcl HB hx185_2
           replace hx185_3 := bcl HB hx185_3
           replace hx185_4 := bcl HB hx185_4
           replace hx185_5 := bcl HB hx185_5
           replace hx185_6 := bcl HB hx185_6
           replace hx185_7 := bcl HB hx185_7
           replace hx185_8 := bcl HB hx185_8
           have HR185_4 := Aside0.mk hi185_4
           have HC185_4 := Aside0.mk hl185_4
           clear hi185_4 hl185_4
           replace p185 := eq_true p185
           replace q185 := eq_true q185
           have ea_ := Option.some.inj (hx183_4.symm.trans hx185_4)
           injection ea_ with ea_ en_ ec_
           subst ea_
           subst ec_
           clear en_
           have p186 : 0 ≤ (x5_1 : Int) := of_decide_eq_true (by first | (with_reducible assumption) | assumption)
           have q186 : x5_1 < (l0.length : Int) := of_decide_eq_true (by first | (with_reducible assumption) | assumption)
           obtain ⟨ad186, A186_4, c186_4, e186, hx186_0, hx186_1, hx186_2, hx186_3, hx186_4, hx186_5, hx186_6, hx186_7, hx186_8, hl186_4, hi186_4⟩ := at_T32 HR0.out x5_1 p186 q186
           obtain rfl : ad175 = ad186 := (by injection e186)
           (try clear hHeld)
           replace hx186_0 := bcl HB hx186_0
           replace hx186_1 := bcl HB hx186_1
           replace hx186_2 := bcl HB hx186_2
           replace hx186_3 := bcl HB hx186_3
           replace hx186_4 := bcl HB hx186_4
           replace hx186_5 := bcl HB hx186_5
           replace hx186_6 := bcl HB hx186_6
           replace hx186_7 := bcl HB hx186_7
           replace hx186_8 := bcl HB hx186_8
           have HR186_4 := Aside0.mk hi186_4
           have HC186_4 := Aside0.mk hl186_4
           clear hi186_4 hl186_4
           replace p186 := eq_true p186
           replace q186 := eq_true q186
           have ea_ := Option.some.inj (hx183_4.symm.trans hx186_4)
           injection ea_ with ea_ en_ ec_
           subst ea_
           subst ec_
           clear en_
           go_wp2
           go_ret
           exact ⟨by first | rfl | (simp [errW_none, errW_some] <;> rfl) | (simp [*, errW_none, errW_some] <;> rfl), by repeat (first | (with_reducible first | exact HB.out | apply below_alloc | apply pw_below_drewN | apply below_drew1) | exact HB.out)⟩
          rw [if_neg c23] at H
          have c23b0 : (((rd_T32 l0 x5_1).f6) == (wrap64 ((wrap64 (t182 + 1)) + 1))) = false := beq_eq_false_iff_ne.mpr c23
          have c23b1 : (((rd_T32 l0 x5_1).f6) != (wrap64 ((wrap64 (t182 + 1)) + 1))) = true := bne_iff_ne.mpr c23
          obtain rfl := Option.some.inj H
          have p183 : 0 ≤ (x5_1 : Int) := of_decide_eq_true (by first | (with_reducible assumption) | assumption)
          have q183 : x5_1 < (l0.length : Int) := of_decide_eq_true (by first | (with_reducible assumption) | assumption)
          obtain ⟨ad183, A183_4, c183_4, e183, hx183_0, hx183_1, hx183_2, hx183_3, hx183_4, hx183_5, hx183_6, hx183_7, hx183_8, hl183_4, hi183_4⟩ := at_T32 HR0.out x5_1 p183 q183
          obtain rfl : ad175 = ad183 := (by injection e183)
          (try clear hHeld)
          replace hx183_0 := bcl HB hx183_0
          replace hx183_1 := bcl HB hx183_1
          replace hx183_2 := bcl HB hx183_2
          replace hx183_3 := bcl HB hx183_3
          replace hx183_4 := bcl HB hx183_4
          replace hx183_5 := bcl HB hx183_5
          replace hx183_6 := bcl HB hx183_6
          replace hx183_7 := bcl HB hx183_7
          replace hx183_8 := bcl HB hx183_8
          have HR183_4 := Aside0.mk hi183_4
          have HC183_4 := Aside0.mk hl183_4
          clear hi183_4 hl183_4
          replace p183 := eq_true p183
          replace q183 := eq_true q183
          have p184 : 0 ≤ (x5_1 : Int) := of_decide_eq_true (by first | (with_reducible assumption) | assumption)
          have q184 : x5_1 < (l0.length : Int) := of_decide_eq_true (by first | (with_reducible assumption) | assumption)
          obtain ⟨ad184, A184_4, c184_4, e184, hx184_0, hx184_1, hx184_2, hx184_3, hx184_4, hx184_5, hx184_6, hx184_7, hx184_8, hl184_4, hi184_4⟩ := at_T32 HR0.out x5_1 p184 q184
          obtain rfl : ad175 = ad184 := (by injection e184)
          (try clear hHeld)
          replace hx184_0 := bcl HB hx184_0
          replace hx184_1 := bcl HB hx184_1
          replace hx184_2 := bcl HB hx184_2
          replace hx184_3 := bcl HB hx184_3
          replace hx184_4 := bcl HB hx184_4
          replace hx184_5 := bcl HB hx184_5
          replace hx184_6 := bcl HB hx184_6
          replace hx184_7 := bcl HB hx184_7
          replace hx184_8 := bcl HB hx184_8
          have HR184_4 := Aside0.mk hi184_4
          have HC184_4 := Aside0.mk hl184_4
          clear hi184_4 hl184_4
          replace p184 := eq_true p184
          replace q184 := eq_true q184
          have ea_ := Option.some.inj (hx183_4.symm.trans hx184_4)
          injection ea_ with ea_ en_ ec_
          subst ea_
          subst ec_
          clear en_
          have p185 : 0 ≤ (x5_1 : Int) := of_decide_eq_true (by first | (with_reducible assumption) | assumption)
          have q185 : x5_1 < (l0.length : Int) := of_decide_eq_true (by first | (with_reducible assumption) | assumption)
          obtain ⟨ad185, A185_4, c185_4, e185, hx185_0, hx185_1, hx185_2, hx185_3, hx185_4, hx185_5, hx185_6, hx185_7, hx185_8, hl185_4, hi185_4⟩ := at_T32 HR0.out x5_1 p185 q185
          obtain rfl : ad175 = ad185 := (by injection e185)
          (try clear hHeld)
          replace hx185_0 := bcl HB hx185_0
          replace hx185_1 := bcl HB hx185_1
          replace hx185_2 := bcl HB hx185_2
          replace hx185_3 := bcl HB hx185_3
          replace hx185_4 := bcl HB hx185_4
          replace hx185_5 := bcl HB hx185_5
          replace hx185_6 := bcl HB hx185_6
          replace hx185_7 := bcl HB hx185_7
          replace hx185_8 := bcl HB hx185_8
          have HR185_4 := Aside0.mk hi185_4
          have HC185_4 := Aside0.mk hl185_4
          clear hi185_4 hl185_4
          replace p185 := eq_true p185
          replace q185 := eq_true q185
          have ea_ := Option.some.inj (hx183_4.symm.trans hx185_4)
          injection ea_ with ea_ en_ ec_
          subst ea_
          subst ec_
          clear en_
          go_wp2
          go_ret
          exact ⟨by first | rfl | (simp [errW_none, errW_some] <;> rfl) | (simp [*, errW_none, errW_some] <;> rfl), by repeat (first | (with_reducible first | exact HB.out | apply below_alloc | apply pw_below_drewN | apply below_drew1) | exact HB.out)⟩
         rw [if_neg c22] at H
         have c22b0 : (((rd_T32 l0 x5_1).f5) == (wrap64 (t182 + 1))) = false := beq_eq_false_iff_ne.mpr c22
         have c22b1 : (((rd_T32 l0 x5_1).f5) != (wrap64 (t182 + 1))) = true := bne_iff_ne.mpr c22
         obtain rfl := Option.some.inj H
         have p183 : 0 ≤ (x5_1 : Int) := of_decide_eq_true (by first | (with_reducible assumption) | assumption)
         have q183 : x5_1 < (l0.length : Int) := of_decide_eq_true (by first | (with_reducible assumption) | assumption)
         obtain ⟨ad183, A183_4, c183_4, e183, hx183_0, hx183_1, hx183_2, hx183_3, hx183_4, hx183_5, hx183_6, hx183_7, hx183_8, hl183_4, hi183_4⟩ := at_T32 HR0.out x5_1 p183 q183
         obtain rfl : ad175 = ad183 := (by injection e183)
         (try clear hHeld)
         replace hx183_0 := bcl HB hx183_0
         replace hx183_1 := bcl HB hx183_1
         replace hx183_2 := bcl HB hx183_2
         replace hx183_3 := bcl HB hx183_3
         replace hx183_4 := bcl HB hx183_4
         replace hx183_5 := bcl HB hx183_5
         replace hx183_6 := bcl HB hx183_6
         replace hx183_7 := bcl HB hx183_7
         replace hx183_8 := bcl HB hx183_8
         have HR183_4 := Aside0.mk hi183_4
         have HC183_4 := Aside0.mk hl183_4
         clear hi183_4 hl183_4
         replace p183 := eq_true p183
         replace q183 := eq_true q183
         have p184 : 0 ≤ (x5_1 : Int) := of_decide_eq_true (by first | (with_reducible assumption) | assumption)
         have q184 : x5_1 < (l0.length : Int) := of_decide_eq_true (by first | (with_reducible assumption) | assumption)
         obtain ⟨ad184, A184_4, c184_4, e184, hx184_0, hx184_1, hx184_2, hx184_3, hx184_4, hx184_5, hx184_6, hx184_7, hx184_8, hl184_4, hi184_4⟩ := at_T32 HR0.out x5_1 p184 q184
         obtain rfl : ad175 = ad184 := (by injection e184)
         (try clear hHeld)
         replace hx184_0 := bcl HB hx184_0
         replace hx184_1 := bcl HB hx184_1
         replace hx184_2 := bcl HB hx184_2
         replace hx184_3 := bcl HB hx184_3
         replace hx184_4 := bcl HB hx184_4
         replace hx184_5 := bcl HB hx184_5
         replace hx184_6 := bcl HB hx184_6
         replace hx184_7 := bcl HB hx184_7
         replace hx184_8 := bcl HB hx184_8
         have HR184_4 := Aside0.mk hi184_4
         have HC184_4 := Aside0.mk hl184_4
         clear hi184_4 hl184_4
         replace p184 := eq_true p184
         replace q184 := eq_true q184
         have ea_ := Option.some.inj (hx183_4.symm.trans hx184_4)
         injection ea_ with ea_ en_ ec_
         subst ea_
         subst ec_
         clear en_
         go_wp2
         go_ret
         exact ⟨by first | rfl | (simp [errW_none, errW_some] <;> rfl) | (simp [*, errW_none, errW_some] <;> rfl), by repeat (first | (with_reducible first | exact HB.out | apply below_alloc | apply pw_below_drewN | apply below_drew1) | exact HB.out)⟩
        rw [if_neg c21] at H
        have c21b0 : (((rd_T32 l0 x5_1).f4) == t182) = false := beq_eq_false_iff_ne.mpr c21
        have c21b1 : (((rd_T32 l0 x5_1).f4) != t182) = true := bne_iff_ne.mpr c21
        obtain rfl := Option.some.inj H
        have p183 : 0 ≤ (x5_1 : Int) := of_decide_eq_true (by first | (with_reducible assumption) | assumption)
        have q183 : x5_1 < (l0.length : Int) := of_decide_eq_true (by first | (with_reducible assumption) | assumption)
        obtain ⟨ad183, A183_4, c183_4, e183, hx183_0, hx183_1, hx183_2, hx183_3, hx183_4, hx183_5, hx183_6, hx183_7, hx183_8, hl183_4, hi183_4⟩ := at_T32 HR0.out x5_1 p183 q183
        obtain rfl : ad175 = ad183 := (by injection e183)
        (try clear hHeld)
        replace hx183_0 := bcl HB hx183_0
        replace hx183_1 := bcl HB hx183_1
        replace hx183_2 := bcl HB hx183_2
        replace hx183_3 := bcl HB hx183_3
        replace hx183_4 := bcl HB hx183_4
        replace hx183_5 := bcl HB hx183_5
        replace hx183_6 := bcl HB hx183_6
        replace hx183_7 := bcl HB hx183_7
        replace hx183_8 := bcl HB hx183_8
        have HR183_4 := Aside0.mk hi183_4
        have HC183_4 := Aside0.mk hl183_4
        clear hi183_4 hl183_4
        replace p183 := eq_true p183
        replace q183 := eq_true q183
        go_wp2
        go_ret
        exact ⟨by first | rfl | (simp [errW_none, errW_some] <;> rfl) | (simp [*, errW_none, errW_some] <;> rfl), by repeat (first | (with_reducible first | exact HB.out | apply below_alloc | apply pw_below_drewN | apply below_drew1) | exact HB.out)⟩
       rw [if_neg c16] at H
       have c16b0 : (((rd_T32 l0 x5_1).f2).toList == t180.toList) = false := beq_eq_false_iff_ne.mpr c16
       have c16b1 : (((rd_T32 l0 x5_1).f2).toList != t180.toList) = true := bne_iff_ne.mpr c16
       (first | rw [c16b0] | (simp only [i64_w, i32_w]; rw [c16b0]) | simp only [c16b2, Bool.not_false, Bool.not_true] | skip)
       obtain rfl := Option.some.inj H
       go_wp2
       go_ret
       exact ⟨by first | rfl | (simp [errW_none, errW_some] <;> rfl) | (simp [*, errW_none, errW_some] <;> rfl), by repeat (first | (with_reducible first | exact HB.out | apply below_alloc | apply pw_below_drewN | apply below_drew1) | exact HB.out)⟩
      rw [if_neg c10] at H
      have c10b0 : (((rd_T32 l0 x5_1).f0.f1).toList == t177.toList) = false := beq_eq_false_iff_ne.mpr c10
      have c10b1 : (((rd_T32 l0 x5_1).f0.f1).toList != t177.toList) = true := bne_iff_ne.mpr c10
      (first | rw [c10b0] | (simp only [i64_w, i32_w]; rw [c10b0]) | simp only [c10b2, Bool.not_false, Bool.not_true] | skip)
      obtain rfl := Option.some.inj H
      go_wp2
      go_ret
      exact ⟨by first | rfl | (simp [errW_none, errW_some] <;> rfl) | (simp [*, errW_none, errW_some] <;> rfl), by repeat (first | (with_reducible first | exact HB.out | apply below_alloc | apply pw_below_drewN | apply below_drew1) | exact HB.out)⟩
     rw [if_neg c5] at H
     have c5b0 : (((rd_T32 l0 x5_1).f0.f0) == x1_1) = false := beq_eq_false_iff_ne.mpr c5
     have c5b1 : (((rd_T32 l0 x5_1).f0.f0) != x1_1) = true := bne_iff_ne.mpr c5
     obtain rfl := Option.some.inj H
     have p175 : 0 ≤ (x5_1 : Int) := of_decide_eq_true (by first | (with_reducible assumption) | assumption)
     have q175 : x5_1 < (l0.length : Int) := of_decide_eq_true (by first | (with_reducible assumption) | assumption)
     obtain ⟨ad175, A175_4, c175_4, e175, hx175_0, hx175_1, hx175_2, hx175_3, hx175_4, hx175_5, hx175_6, hx175_7, hx175_8, hl175_4, hi175_4⟩ := at_T32 HR0.out x5_1 p175 q175
     cases e175
     replace hx175_0 := bcl HB hx175_0
     replace hx175_1 := bcl HB hx175_1
     replace hx175_2 := bcl HB hx175_2
     replace hx175_3 := bcl HB hx175_3
     replace hx175_4 := bcl HB hx175_4
     replace hx175_5 := bcl HB hx175_5
     replace hx175_6 := bcl HB hx175_6
     replace hx175_7 := bcl HB hx175_7
     replace hx175_8 := bcl HB hx175_8
     have HR175_4 := Aside0.mk hi175_4
     have HC175_4 := Aside0.mk hl175_4
     clear hi175_4 hl175_4
     replace p175 := eq_true p175
     replace q175 := eq_true q175
     go_wp2
     go_ret
     exact ⟨by first | rfl | (simp [errW_none, errW_some] <;> rfl) | (simp [*, errW_none, errW_some] <;> rfl), by repeat (first | (with_reducible first | exact HB.out | apply below_alloc | apply pw_below_drewN | apply below_drew1) | exact HB.out)⟩
    rw [if_neg c4] at H
    exact absurd H (by simp)
   rw [if_neg c3] at H
   have c3b0 : decide (x5_1 < (l0.length : Int)) = false := decide_eq_false c3
   clear c3
   obtain rfl := Option.some.inj H
   go_wp2
   go_ret
   exact ⟨by first | rfl | (simp [errW_none, errW_some] <;> rfl) | (simp [*, errW_none, errW_some] <;> rfl), by repeat (first | (with_reducible first | exact HB.out | apply below_alloc | apply pw_below_drewN | apply below_drew1) | exact HB.out)⟩
end Go.Proofs.YtnbohlcibgfjaaaDoor.Gp
end
