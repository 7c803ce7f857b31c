/- A part of the proof of RowFnExactRelease: each text's theorems that it needs, packed by shake.py, a program of this work; Lean checks them. -/
import Derived.Test.YtnbohlcibgfjaaaDoorRel3
import Derived.Test.YtnbohlcibgfjaaaDoorRel6
import Derived.Test.YtnbohlcibgfjaaaDoorRel17
section
namespace Go.Proofs.YtnbohlcibgfjaaaDoor.Gp
open Go.RowKit Go.Proofs.YtnbohlcibgfjaaaDoorW.PrintWords Go.Proofs.YtnbohlcibgfjaaaDoorW.PrintLast Go.Proofs.YtnbohlcibgfjaaaDoorW.PrintMore
set_option linter.unusedVariables false
set_option linter.unusedSimpArgs false
def laws_heldSlotS.l0 : Nat → List (S32) → Int → Int → Option (Int)
 | 0, _, _, _ => none
 | k + 1, x0, x1, x5 => if x5 < (x0.length : Int) then (if 0 ≤ x5 then (if ((rd_T32 x0 x5).f0.f0) = x1 then ((laws_markText.f k (wrap64 (x1 + 1))).bind fun t241 => (if ((rd_T32 x0 x5).f0.f1).toList = t241.toList then (if (((rd_T32 x0 x5).f1) != ((Int.tmod (wrap64 ((wrap64 (x1 + 1)) + 1)) 3) == 0)) = true then (some (-1)) else ((laws_markText.f k (wrap64 ((wrap64 ((wrap64 (x1 + 1)) + 1)) + 1))).bind fun t244 => (if ((rd_T32 x0 x5).f2).toList = t244.toList then ((laws_heldKeyS.f k ((rd_T32 x0 x5).f3) (wrap64 ((wrap64 ((wrap64 ((wrap64 (x1 + 1)) + 1)) + 1)) + 1))).bind fun t246 => (if t246 < 0 then (some (-1)) else (if ((rd_T32 x0 x5).f4) = t246 then (if ((rd_T32 x0 x5).f5) = (wrap64 (t246 + 1)) then (if ((rd_T32 x0 x5).f6) = (wrap64 ((wrap64 (t246 + 1)) + 1)) then (if ((rd_T32 x0 x5).f7) = (wrap64 ((wrap64 ((wrap64 (t246 + 1)) + 1)) + 1)) then (laws_heldSlotS.l0 k x0 (wrap64 ((wrap64 ((wrap64 ((wrap64 (t246 + 1)) + 1)) + 1)) + 1)) (wrap64 (x5 + 1))) else (some (-1))) else (some (-1))) else (some (-1))) else (some (-1))))) else (some (-1))))) else (some (-1)))) else (some (-1))) else (none)) else (some x1)
def laws_heldSlotS.f (k : Nat) (l0 : List (S32)) (a1 : Int) : Option (Int) := laws_heldSlotS.l0 k l0 a1 0
def laws_heldSlotS.T7 : Bool × List (List Nat × List Nat) := (true, [([], []), ([], []), ([0, 1], [0, 1]), ([2], [2]), ([3], [3]), ([4], [4]), ([], []), ([6], [6]), ([5, 7], [5, 7])])
def laws_heldSlotS.B7 : List Nat := [0, 0, 3, 7, 15, 31, 0, 64, 255]
theorem laws_heldSlotS.tab7 : rtab .any (opsOf Tryd.f79 7) = laws_heldSlotS.T7 := by kernel_rfl
theorem laws_heldSlotS.bits7 : waitsOk laws_heldSlotS.T7.2 laws_heldSlotS.B7 = true := by kernel_rfl
def laws_heldSlotS.T13 : Bool × List (List Nat × List Nat) := (true, [([], []), ([], []), ([0, 1], [0, 1]), ([2], [2]), ([3], [3]), ([], []), ([5], [5]), ([4, 6], [4, 6])])
def laws_heldSlotS.B13 : List Nat := [0, 0, 3, 7, 15, 0, 32, 127]
theorem laws_heldSlotS.tab13 : rtab .any (opsOf Tryd.f79 13) = laws_heldSlotS.T13 := by kernel_rfl
theorem laws_heldSlotS.bits13 : waitsOk laws_heldSlotS.T13.2 laws_heldSlotS.B13 = true := by kernel_rfl
set_option maxHeartbeats 8000000 in
set_option maxRecDepth 100000 in
theorem laws_heldSlotS.calls (k : Nat) (A0 : Option Addr) (c0 : Nat) (l0 : List (S32)) (a1 : Int) (r : Int) (w : World) (hr0 : Kd.C k32 w A0 l0.length l0) (hc0 : l0.length ≤ c0) (h : laws_heldSlotS.f k l0 a1 = some r) :
 Calls Tryd.prog 79 #[.slice A0 l0.length c0, .int .i64 a1] w fun e w' => e = .returned (.int .i64 r) ∧ Below w.heap.size w w' := by
 have HR0 := Aside0.mk hr0
 have HC0 := Aside0.mk hc0
 clear hr0 hc0
 have HB := Aside0.mk (Below.refl w.heap.size w)
 have H : (laws_heldSlotS.l0 k l0 a1 0) = some r := h
 clear h
 have H' := Aside0.mk H
 clear H
 go_enter Tryd.func79, Tryd.ntmps79
 go_wp2
 go_loopg [1, 5] k (fun kq v1 v5 w' => ∃ (x1_1 : Int) (x5_1 : Int), v1 = .int .i64 x1_1 ∧ v5 = .int .i64 x5_1 ∧ Aside0 (laws_heldSlotS.l0 kq l0 x1_1 x5_1 = some r) ∧ Aside0 (kq ≤ k) ∧ Aside0 (Below w.heap.size w w'))
 case atStart => exact ⟨(a1), (0), (by first | rfl | (simp; done) | (simp [*]; done)), (by first | rfl | (simp; done) | (simp [*]; done)), H', ⟨Nat.le_refl _⟩, ⟨by repeat (first | (with_reducible first | exact HB.out | apply below_alloc | apply pw_below_drewN | apply below_drew1) | exact HB.out)⟩⟩
 case round =>
  clear H'
  try clear p2
  obtain ⟨x1_1, x5_1, rfl, rfl, HA, HK1, HB⟩ := hrel
  cases gk with
  | zero => exact absurd HA.out (by simp [laws_heldSlotS.l0])
  | succ k1 =>
   have H := HA.out
   clear HA
   simp only [laws_heldSlotS.l0] at H
   by_cases c3 : x5_1 < (l0.length : Int)
   ·
    rw [if_pos c3] at H
    have c3b0 : decide (x5_1 < (l0.length : Int)) = true := decide_eq_true c3
    clear c3
    by_cases c4 : 0 ≤ x5_1
    ·
     rw [if_pos c4] at H
     have c4b0 : decide (0 ≤ x5_1) = true := decide_eq_true c4
     clear c4
     by_cases c5 : ((rd_T32 l0 x5_1).f0.f0) = x1_1
     ·
      rw [if_pos c5] at H
      have c5b0 : (((rd_T32 l0 x5_1).f0.f0) == x1_1) = true := beq_iff_eq.mpr c5
      have c5b1 : (((rd_T32 l0 x5_1).f0.f0) != x1_1) = false := bne_eq_false_iff_eq.mpr c5
      clear c5
      replace H := Option.bind_eq_some_iff.mp H
      obtain ⟨t241, A60, H⟩ := H
      replace H : (if ((rd_T32 l0 x5_1).f0.f1).toList = t241.toList then (if (((rd_T32 l0 x5_1).f1) != ((Int.tmod (wrap64 ((wrap64 (x1_1 + 1)) + 1)) 3) == 0)) = true then (some (-1)) else ((laws_markText.f k1 (wrap64 ((wrap64 ((wrap64 (x1_1 + 1)) + 1)) + 1))).bind fun t244 => (if ((rd_T32 l0 x5_1).f2).toList = t244.toList then ((laws_heldKeyS.f k1 ((rd_T32 l0 x5_1).f3) (wrap64 ((wrap64 ((wrap64 ((wrap64 (x1_1 + 1)) + 1)) + 1)) + 1))).bind fun t246 => (if t246 < 0 then (some (-1)) else (if ((rd_T32 l0 x5_1).f4) = t246 then (if ((rd_T32 l0 x5_1).f5) = (wrap64 (t246 + 1)) then (if ((rd_T32 l0 x5_1).f6) = (wrap64 ((wrap64 (t246 + 1)) + 1)) then (if ((rd_T32 l0 x5_1).f7) = (wrap64 ((wrap64 ((wrap64 (t246 + 1)) + 1)) + 1)) then (laws_heldSlotS.l0 k1 l0 (wrap64 ((wrap64 ((wrap64 ((wrap64 (t246 + 1)) + 1)) + 1)) + 1)) (wrap64 (x5_1 + 1))) else (some (-1))) else (some (-1))) else (some (-1))) else (some (-1))))) else (some (-1))))) else (some (-1))) = some r := H
      have A6 := Aside0.mk A60
      clear A60
      have HL7 := Aside0.mk H
      clear H
      have p239 : 0 ≤ (x5_1 : Int) := of_decide_eq_true (by first | (with_reducible assumption) | assumption)
      have q239 : x5_1 < (l0.length : Int) := of_decide_eq_true (by first | (with_reducible assumption) | assumption)
      obtain ⟨ad239, A239_4, c239_4, e239, hx239_0, hx239_1, hx239_2, hx239_3, hx239_4, hx239_5, hx239_6, hx239_7, hx239_8, hl239_4, hi239_4⟩ := at_T32 HR0.out x5_1 p239 q239
      cases e239
      replace hx239_0 := bcl HB hx239_0
      replace hx239_1 := bcl HB hx239_1
      replace hx239_2 := bcl HB hx239_2
      replace hx239_3 := bcl HB hx239_3
      replace hx239_4 := bcl HB hx239_4
      replace hx239_5 := bcl HB hx239_5
      replace hx239_6 := bcl HB hx239_6
      replace hx239_7 := bcl HB hx239_7
      replace hx239_8 := bcl HB hx239_8
      have HR239_4 := Aside0.mk hi239_4
      have HC239_4 := Aside0.mk hl239_4
      clear hi239_4 hl239_4
      replace p239 := eq_true p239
      replace q239 := eq_true q239
      try go_wp2
      have n0_ := Aside0.mk (below_drew1 HB.out)
      clear HB
      have HB := n0_
      clear n0_
      have p240 : 0 ≤ (x5_1 : Int) := of_decide_eq_true (by first | (with_reducible assumption) | assumption)
      have q240 : x5_1 < (l0.length : Int) := of_decide_eq_true (by first | (with_reducible assumption) | assumption)
      obtain ⟨ad240, A240_4, c240_4, e240, hx240_0, hx240_1, hx240_2, hx240_3, hx240_4, hx240_5, hx240_6, hx240_7, hx240_8, hl240_4, hi240_4⟩ := at_T32 HR0.out x5_1 p240 q240
      have hw240_8 := hx240_8
      have hw240_7 := hx240_7
      have hw240_6 := hx240_6
      have hw240_5 := hx240_5
      have hw240_4 := hx240_4
      have hw240_3 := hx240_3
      have hw240_2 := hx240_2
      have hw240_1 := hx240_1
      have hw240_0 := hx240_0
      obtain rfl : ad239 = ad240 := (by injection e240)
      (try clear hHeld)
      replace hx240_0 := bcl HB hx240_0
      replace hx240_1 := bcl HB hx240_1
      replace hx240_2 := bcl HB hx240_2
      replace hx240_3 := bcl HB hx240_3
      replace hx240_4 := bcl HB hx240_4
      replace hx240_5 := bcl HB hx240_5
      replace hx240_6 := bcl HB hx240_6
      replace hx240_7 := bcl HB hx240_7
      replace hx240_8 := bcl HB hx240_8
      have HR240_4 := Aside0.mk hi240_4
      have HC240_4 := Aside0.mk hl240_4
      clear hi240_4 hl240_4
      replace p240 := eq_true p240
      replace q240 := eq_true q240
      refine start_ (n := 9) (S := fun w' => w'.cell? (ad239.add ((x5_1).toNat * 9)) = some (.int .i64 ((rd_T32 l0 x5_1).f0.f0)) ∧ w'.cell? ⟨(ad239.add ((x5_1).toNat * 9)).block, (ad239.add ((x5_1).toNat * 9)).off + 1, none⟩ = some (.string ((rd_T32 l0 x5_1).f0.f1)) ∧ w'.cell? ⟨(ad239.add ((x5_1).toNat * 9)).block, (ad239.add ((x5_1).toNat * 9)).off + 2, none⟩ = some (.bool ((rd_T32 l0 x5_1).f1)) ∧ w'.cell? ⟨(ad239.add ((x5_1).toNat * 9)).block, (ad239.add ((x5_1).toNat * 9)).off + 3, none⟩ = some (.string ((rd_T32 l0 x5_1).f2)) ∧ w'.cell? ⟨(ad239.add ((x5_1).toNat * 9)).block, (ad239.add ((x5_1).toNat * 9)).off + 4, none⟩ = some (.slice A240_4 ((rd_T32 l0 x5_1).f3).length c240_4) ∧ w'.cell? ⟨(ad239.add ((x5_1).toNat * 9)).block, (ad239.add ((x5_1).toNat * 9)).off + 5, none⟩ = some (.int .i64 ((rd_T32 l0 x5_1).f4)) ∧ w'.cell? ⟨(ad239.add ((x5_1).toNat * 9)).block, (ad239.add ((x5_1).toNat * 9)).off + 6, none⟩ = some (.int .i64 ((rd_T32 l0 x5_1).f5)) ∧ w'.cell? ⟨(ad239.add ((x5_1).toNat * 9)).block, (ad239.add ((x5_1).toNat * 9)).off + 7, none⟩ = some (.int .i64 ((rd_T32 l0 x5_1).f6)) ∧ w'.cell? ⟨(ad239.add ((x5_1).toNat * 9)).block, (ad239.add ((x5_1).toNat * 9)).off + 8, none⟩ = some (.int .i64 ((rd_T32 l0 x5_1).f7))) (ds := []) #[false, false, false, false, false, false, false, false, false] (by kernel_rfl) rfl rfl ⟨((HB.out.cell (World.block_lt_of_cell? w _ hw240_0)).trans hw240_0), ((HB.out.cell (World.block_lt_of_cell? w _ hw240_1)).trans hw240_1), ((HB.out.cell (World.block_lt_of_cell? w _ hw240_2)).trans hw240_2), ((HB.out.cell (World.block_lt_of_cell? w _ hw240_3)).trans hw240_3), ((HB.out.cell (World.block_lt_of_cell? w _ hw240_4)).trans hw240_4), ((HB.out.cell (World.block_lt_of_cell? w _ hw240_5)).trans hw240_5), ((HB.out.cell (World.block_lt_of_cell? w _ hw240_6)).trans hw240_6), ((HB.out.cell (World.block_lt_of_cell? w _ hw240_7)).trans hw240_7), ((HB.out.cell (World.block_lt_of_cell? w _ hw240_8)).trans hw240_8)⟩ (fun hHeld => ?_); refine with_tabW laws_heldSlotS.tab7 laws_heldSlotS.bits7 (fun HT_ HW_ => ?_)
      generalize wr.drew = w8 at HB HR240_4 hx240_0 hx240_1 hx240_2 hx240_3 hx240_4 hx240_5 hx240_6 hx240_7 hx240_8 hHeld ⊢
      refine pureY (i := 0) (N := some 22) (v := ?_) (a' := ?_) #[true, false, false, false, false, false, false, false, false] rfl rfl (any_of HT_.out (by kernel_rfl)) ⟨by rfl, ?_⟩ ?_ ?_
      rotate_left
      · intro w'
        go_simp
        with_reducible rfl
      rotate_left
      · simp only [Act.put, sA_, i64_w, i32_w]
        rfl
      refine pureY (i := 1) (N := some 23) (v := ?_) (a' := ?_) #[true, true, false, false, false, false, false, false, false] rfl rfl (any_of HT_.out (by kernel_rfl)) ⟨by rfl, ?_⟩ ?_ ?_
      rotate_left
      · intro w'
        go_simp
        with_reducible rfl
      rotate_left
      · simp only [Act.put, sA_, i64_w, i32_w]
        rfl
      refine pureY (i := 2) (N := some 24) (v := ?_) (a' := ?_) #[true, true, true, false, false, false, false, false, false] rfl rfl (any_of HT_.out (by kernel_rfl)) ⟨by rfl, ?_⟩ ?_ ?_
      rotate_left
      · intro w'
        go_simp
        with_reducible rfl
      rotate_left
      · simp only [Act.put, sA_, i64_w, i32_w]
        rfl
      refine pureY (i := 3) (N := some 25) (v := ?_) (a' := ?_) #[true, true, true, true, false, false, false, false, false] rfl rfl (any_of HT_.out (by kernel_rfl)) ⟨by rfl, ?_⟩ ?_ ?_
      rotate_left
      · intro w'
        go_simp
        with_reducible rfl
      rotate_left
      · simp only [Act.put, sA_, i64_w, i32_w]
        rfl
      refine pureY (i := 4) (N := some 26) (v := ?_) (a' := ?_) #[true, true, true, true, true, false, false, false, false] rfl rfl (any_of HT_.out (by kernel_rfl)) ⟨by rfl, ?_⟩ ?_ ?_
      rotate_left
      · intro w'
        go_simp
        with_reducible rfl
      rotate_left
      · simp only [Act.put, sA_, i64_w, i32_w]
        rfl
      refine pureY (i := 6) (N := some 28) (v := ?_) (a' := ?_) #[true, true, true, true, true, false, true, false, false] rfl rfl (any_of HT_.out (by kernel_rfl)) ⟨by rfl, ?_⟩ ?_ ?_
      rotate_left
      · intro w'
        go_simp
        with_reducible rfl
      rotate_left
      · simp only [Act.put, sA_, i64_w, i32_w]
        rfl
      refine takeY (i := 5) (N := some 27) (v := ?_) (a' := ?_) #[true, true, true, true, true, true, true, false, false] rfl rfl (take_ofW HT_.out HW_.out (by kernel_rfl)) ⟨by rfl, ?_⟩ hHeld ?_ ?_
      rotate_left
      · rintro w' ⟨s0, s1, s2, s3, s4, s5, s6, s7, s8⟩
        go_simp
        with_reducible rfl
      rotate_left
      · simp only [Act.put, sA_, i64_w, i32_w]
        rfl
      refine one_ (i := 7) (N := some 29) #[true, true, true, true, true, true, true, true, false] rfl rfl (one_of HT_.out (by kernel_rfl)) (by decide) (fun K hK => ?_)
      refine goes_ Tryd.func90 (by kernel_rfl) rfl #[.int .i64 (wrap64 (x1_1 + 1))] (by rfl) rfl rfl (by (try simp only [List.map_toArray, List.map_cons, List.map_nil]); first | done | rfl | (simp only [List.length_drop, List.length_take]; rfl)) ?_
      with_reducible refine (laws_markText.calls k1 (wrap64 (x1_1 + 1)) t241 _ A6.out).mono ?_
      rintro e w9 ⟨rfl, hb⟩
      refine ⟨_, rfl, ?_⟩
      have hb1_ := fromQ HB.out hb
      have hb0_ := below_step hb1_ hb
      replace HB := kH HB hb0_
      clear hb1_ hb0_
      (try clear hb)
      (try clear hb2)
      (try clear hk)
      (try clear hi)
      refine hK.out _ _ ⟨((HB.out.cell (World.block_lt_of_cell? w _ hw240_0)).trans hw240_0), ((HB.out.cell (World.block_lt_of_cell? w _ hw240_1)).trans hw240_1), ((HB.out.cell (World.block_lt_of_cell? w _ hw240_2)).trans hw240_2), ((HB.out.cell (World.block_lt_of_cell? w _ hw240_3)).trans hw240_3), ((HB.out.cell (World.block_lt_of_cell? w _ hw240_4)).trans hw240_4), ((HB.out.cell (World.block_lt_of_cell? w _ hw240_5)).trans hw240_5), ((HB.out.cell (World.block_lt_of_cell? w _ hw240_6)).trans hw240_6), ((HB.out.cell (World.block_lt_of_cell? w _ hw240_7)).trans hw240_7), ((HB.out.cell (World.block_lt_of_cell? w _ hw240_8)).trans hw240_8)⟩ (fun hHeld => ?_)
      clear hK K
      refine norm_ (a' := ?_) ?_ ?_
      rotate_left
      · show Act.put _ (some 29) _ = _
        simp only [Act.put, sA_, i64_w, i32_w]
        rfl
      refine pureY (i := 8) (N := some 30) (v := ?_) (a' := ?_) #[true, true, true, true, true, true, true, true, true] rfl rfl (any_of HT_.out (by kernel_rfl)) ⟨by rfl, ?_⟩ ?_ ?_
      rotate_left
      · intro w'
        go_simp
        with_reducible rfl
      rotate_left
      · simp only [Act.put, sA_, i64_w, i32_w]
        rfl
      refine done_ (done_of HT_.out (by kernel_rfl)) ?_
      go_upto_if 30 with (fail)
      have H := HL7.out
      clear HL7
      by_cases c10 : ((rd_T32 l0 x5_1).f0.f1).toList = t241.toList
      ·
       rw [if_pos c10] at H
       have c10b0 : (((rd_T32 l0 x5_1).f0.f1).toList == t241.toList) = true := beq_iff_eq.mpr c10
       have c10b1 : (((rd_T32 l0 x5_1).f0.f1).toList != t241.toList) = false := bne_eq_false_iff_eq.mpr c10
       clear c10
       (first | rw [c10b0] | (simp only [i64_w, i32_w]; rw [c10b0]) | simp only [c10b2, Bool.not_false, Bool.not_true] | skip)
       by_cases c11 : (((rd_T32 l0 x5_1).f1) != ((Int.tmod (wrap64 ((wrap64 (x1_1 + 1)) + 1)) 3) == 0)) = true
       ·
        rw [if_pos c11] at H
        have c11b0 : (((rd_T32 l0 x5_1).f1) != ((Int.tmod (wrap64 ((wrap64 (x1_1 + 1)) + 1)) 3) == 0)) = true := c11
        (try (have c11b1 : decide (((rd_T32 l0 x5_1).f1) = ((Int.tmod (wrap64 ((wrap64 (x1_1 + 1)) + 1)) 3) == 0)) = false := by simpa using c11))
        (try (have c11b2 : (((rd_T32 l0 x5_1).f1) == ((Int.tmod (wrap64 ((wrap64 (x1_1 + 1)) + 1)) 3) == 0)) = false := by simpa using c11))
        (try (have c11b3 : ¬ (((rd_T32 l0 x5_1).f1) = ((Int.tmod (wrap64 ((wrap64 (x1_1 + 1)) + 1)) 3) == 0)) := by simpa using c11))
        clear c11
        obtain rfl := Option.some.inj H
        have p242 : 0 ≤ (x5_1 : Int) := of_decide_eq_true (by first | (with_reducible assumption) | assumption)
        have q242 : x5_1 < (l0.length : Int) := of_decide_eq_true (by first | (with_reducible assumption) | assumption)
        obtain ⟨ad242, A242_4, c242_4, e242, hx242_0, hx242_1, hx242_2, hx242_3, hx242_4, hx242_5, hx242_6, hx242_7, hx242_8, hl242_4, hi242_4⟩ := at_T32 HR0.out x5_1 p242 q242
        obtain rfl : ad239 = ad242 := (by injection e242)
        (try clear hHeld)
        replace hx242_0 := bcl HB hx242_0
        replace hx242_1 := bcl HB hx242_1
        replace hx242_2 := bcl HB hx242_2
        replace hx242_3 := bcl HB hx242_3
        replace hx242_4 := bcl HB hx242_4
        replace hx242_5 := bcl HB hx242_5
        replace hx242_6 := bcl HB hx242_6
        replace hx242_7 := bcl HB hx242_7
        replace hx242_8 := bcl HB hx242_8
        have HR242_4 := Aside0.mk hi242_4
        have HC242_4 := Aside0.mk hl242_4
        clear hi242_4 hl242_4
        replace p242 := eq_true p242
        replace q242 := eq_true q242
        go_wp2
        go_ret
        exact ⟨by first | rfl | (simp [errW_none, errW_some] <;> rfl) | (simp [*, errW_none, errW_some] <;> rfl), by repeat (first | (with_reducible first | exact HB.out | apply below_alloc | apply pw_below_drewN | apply below_drew1) | exact HB.out)⟩
       rw [if_neg c11] at H
       have c11b0 : (((rd_T32 l0 x5_1).f1) != ((Int.tmod (wrap64 ((wrap64 (x1_1 + 1)) + 1)) 3) == 0)) = false := by simpa using c11
       (try (have c11b1 : decide (((rd_T32 l0 x5_1).f1) = ((Int.tmod (wrap64 ((wrap64 (x1_1 + 1)) + 1)) 3) == 0)) = true := by simpa using c11))
       (try (have c11b2 : (((rd_T32 l0 x5_1).f1) == ((Int.tmod (wrap64 ((wrap64 (x1_1 + 1)) + 1)) 3) == 0)) = true := by simpa using c11))
       clear c11
       replace H := Option.bind_eq_some_iff.mp H
       obtain ⟨t244, A120, H⟩ := H
       replace H : (if ((rd_T32 l0 x5_1).f2).toList = t244.toList then ((laws_heldKeyS.f k1 ((rd_T32 l0 x5_1).f3) (wrap64 ((wrap64 ((wrap64 ((wrap64 (x1_1 + 1)) + 1)) + 1)) + 1))).bind fun t246 => (if t246 < 0 then (some (-1)) else (if ((rd_T32 l0 x5_1).f4) = t246 then (if ((rd_T32 l0 x5_1).f5) = (wrap64 (t246 + 1)) then (if ((rd_T32 l0 x5_1).f6) = (wrap64 ((wrap64 (t246 + 1)) + 1)) then (if ((rd_T32 l0 x5_1).f7) = (wrap64 ((wrap64 ((wrap64 (t246 + 1)) + 1)) + 1)) then (laws_heldSlotS.l0 k1 l0 (wrap64 ((wrap64 ((wrap64 ((wrap64 (t246 + 1)) + 1)) + 1)) + 1)) (wrap64 (x5_1 + 1))) else (some (-1))) else (some (-1))) else (some (-1))) else (some (-1))))) else (some (-1))) = some r := H
       have A12 := Aside0.mk A120
       clear A120
       have HL13 := Aside0.mk H
       clear H
       have p242 : 0 ≤ (x5_1 : Int) := of_decide_eq_true (by first | (with_reducible assumption) | assumption)
       have q242 : x5_1 < (l0.length : Int) := of_decide_eq_true (by first | (with_reducible assumption) | assumption)
       obtain ⟨ad242, A242_4, c242_4, e242, hx242_0, hx242_1, hx242_2, hx242_3, hx242_4, hx242_5, hx242_6, hx242_7, hx242_8, hl242_4, hi242_4⟩ := at_T32 HR0.out x5_1 p242 q242
       obtain rfl : ad239 = ad242 := (by injection e242)
       (try clear hHeld)
       replace hx242_0 := bcl HB hx242_0
       replace hx242_1 := bcl HB hx242_1
       replace hx242_2 := bcl HB hx242_2
       replace hx242_3 := bcl HB hx242_3
       replace hx242_4 := bcl HB hx242_4
       replace hx242_5 := bcl HB hx242_5
       replace hx242_6 := bcl HB hx242_6
       replace hx242_7 := bcl HB hx242_7
       replace hx242_8 := bcl HB hx242_8
       have HR242_4 := Aside0.mk hi242_4
       have HC242_4 := Aside0.mk hl242_4
       clear hi242_4 hl242_4
       replace p242 := eq_true p242
       replace q242 := eq_true q242
       try go_wp2
       have n0_ := Aside0.mk (below_drew1 HB.out)
       clear HB
       have HB := n0_
       clear n0_
       have p243 : 0 ≤ (x5_1 : Int) := of_decide_eq_true (by first | (with_reducible assumption) | assumption)
       have q243 : x5_1 < (l0.length : Int) := of_decide_eq_true (by first | (with_reducible assumption) | assumption)
       obtain ⟨ad243, A243_4, c243_4, e243, hx243_0, hx243_1, hx243_2, hx243_3, hx243_4, hx243_5, hx243_6, hx243_7, hx243_8, hl243_4, hi243_4⟩ := at_T32 HR0.out x5_1 p243 q243
       have hw243_8 := hx243_8
       have hw243_7 := hx243_7
       have hw243_6 := hx243_6
       have hw243_5 := hx243_5
       have hw243_4 := hx243_4
       have hw243_3 := hx243_3
       have hw243_2 := hx243_2
       have hw243_1 := hx243_1
       have hw243_0 := hx243_0
       obtain rfl : ad239 = ad243 := (by injection e243)
       (try clear hHeld)
       replace hx243_0 := bcl HB hx243_0
       replace hx243_1 := bcl HB hx243_1
       replace hx243_2 := bcl HB hx243_2
       replace hx243_3 := bcl HB hx243_3
       replace hx243_4 := bcl HB hx243_4
       replace hx243_5 := bcl HB hx243_5
       replace hx243_6 := bcl HB hx243_6
       replace hx243_7 := bcl HB hx243_7
       replace hx243_8 := bcl HB hx243_8
       have HR243_4 := Aside0.mk hi243_4
       have HC243_4 := Aside0.mk hl243_4
       clear hi243_4 hl243_4
       replace p243 := eq_true p243
       replace q243 := eq_true q243
       refine start_ (n := 8) (S := fun w' => w'.cell? (ad239.add ((x5_1).toNat * 9)) = some (.int .i64 ((rd_T32 l0 x5_1).f0.f0)) ∧ w'.cell? ⟨(ad239.add ((x5_1).toNat * 9)).block, (ad239.add ((x5_1).toNat * 9)).off + 1, none⟩ = some (.string ((rd_T32 l0 x5_1).f0.f1)) ∧ w'.cell? ⟨(ad239.add ((x5_1).toNat * 9)).block, (ad239.add ((x5_1).toNat * 9)).off + 2, none⟩ = some (.bool ((rd_T32 l0 x5_1).f1)) ∧ w'.cell? ⟨(ad239.add ((x5_1).toNat * 9)).block, (ad239.add ((x5_1).toNat * 9)).off + 3, none⟩ = some (.string ((rd_T32 l0 x5_1).f2)) ∧ w'.cell? ⟨(ad239.add ((x5_1).toNat * 9)).block, (ad239.add ((x5_1).toNat * 9)).off + 4, none⟩ = some (.slice A243_4 ((rd_T32 l0 x5_1).f3).length c243_4) ∧ w'.cell? ⟨(ad239.add ((x5_1).toNat * 9)).block, (ad239.add ((x5_1).toNat * 9)).off + 5, none⟩ = some (.int .i64 ((rd_T32 l0 x5_1).f4)) ∧ w'.cell? ⟨(ad239.add ((x5_1).toNat * 9)).block, (ad239.add ((x5_1).toNat * 9)).off + 6, none⟩ = some (.int .i64 ((rd_T32 l0 x5_1).f5)) ∧ w'.cell? ⟨(ad239.add ((x5_1).toNat * 9)).block, (ad239.add ((x5_1).toNat * 9)).off + 7, none⟩ = some (.int .i64 ((rd_T32 l0 x5_1).f6)) ∧ w'.cell? ⟨(ad239.add ((x5_1).toNat * 9)).block, (ad239.add ((x5_1).toNat * 9)).off + 8, none⟩ = some (.int .i64 ((rd_T32 l0 x5_1).f7))) (ds := []) #[false, false, false, false, false, false, false, false] (by kernel_rfl) rfl rfl ⟨((HB.out.cell (World.block_lt_of_cell? w _ hw243_0)).trans hw243_0), ((HB.out.cell (World.block_lt_of_cell? w _ hw243_1)).trans hw243_1), ((HB.out.cell (World.block_lt_of_cell? w _ hw243_2)).trans hw243_2), ((HB.out.cell (World.block_lt_of_cell? w _ hw243_3)).trans hw243_3), ((HB.out.cell (World.block_lt_of_cell? w _ hw243_4)).trans hw243_4), ((HB.out.cell (World.block_lt_of_cell? w _ hw243_5)).trans hw243_5), ((HB.out.cell (World.block_lt_of_cell? w _ hw243_6)).trans hw243_6), ((HB.out.cell (World.block_lt_of_cell? w _ hw243_7)).trans hw243_7), ((HB.out.cell (World.block_lt_of_cell? w _ hw243_8)).trans hw243_8)⟩ (fun hHeld => ?_); refine with_tabW laws_heldSlotS.tab13 laws_heldSlotS.bits13 (fun HT_ HW_ => ?_)
       generalize w9.drew = w14 at HB HR243_4 hx243_0 hx243_1 hx243_2 hx243_3 hx243_4 hx243_5 hx243_6 hx243_7 hx243_8 hHeld ⊢
       refine pureY (i := 0) (N := some 44) (v := ?_) (a' := ?_) #[true, false, false, false, false, false, false, false] rfl rfl (any_of HT_.out (by kernel_rfl)) ⟨by rfl, ?_⟩ ?_ ?_
       rotate_left
       · intro w'
         go_simp
         with_reducible rfl
       rotate_left
       · simp only [Act.put, sA_, i64_w, i32_w]
         rfl
       refine pureY (i := 1) (N := some 45) (v := ?_) (a' := ?_) #[true, true, false, false, false, false, false, false] rfl rfl (any_of HT_.out (by kernel_rfl)) ⟨by rfl, ?_⟩ ?_ ?_
       rotate_left
       · intro w'
         go_simp
         with_reducible rfl
       rotate_left
       · simp only [Act.put, sA_, i64_w, i32_w]
         rfl
       refine pureY (i := 2) (N := some 46) (v := ?_) (a' := ?_) #[true, true, true, false, false, false, false, false] rfl rfl (any_of HT_.out (by kernel_rfl)) ⟨by rfl, ?_⟩ ?_ ?_
       rotate_left
       · intro w'
         go_simp
         with_reducible rfl
       rotate_left
       · simp only [Act.put, sA_, i64_w, i32_w]
         rfl
       refine pureY (i := 3) (N := some 47) (v := ?_) (a' := ?_) #[true, true, true, true, false, false, false, false] rfl rfl (any_of HT_.out (by kernel_rfl)) ⟨by rfl, ?_⟩ ?_ ?_
       rotate_left
       · intro w'
         go_simp
         with_reducible rfl
       rotate_left
       · simp only [Act.put, sA_, i64_w, i32_w]
         rfl
       refine pureY (i := 5) (N := some 49) (v := ?_) (a' := ?_) #[true, true, true, true, false, true, false, false] rfl rfl (any_of HT_.out (by kernel_rfl)) ⟨by rfl, ?_⟩ ?_ ?_
       rotate_left
       · intro w'
         go_simp
         with_reducible rfl
       rotate_left
       · simp only [Act.put, sA_, i64_w, i32_w]
         rfl
       refine takeY (i := 4) (N := some 48) (v := ?_) (a' := ?_) #[true, true, true, true, true, true, false, false] rfl rfl (take_ofW HT_.out HW_.out (by kernel_rfl)) ⟨by rfl, ?_⟩ hHeld ?_ ?_
       rotate_left
       · rintro w' ⟨s0, s1, s2, s3, s4, s5, s6, s7, s8⟩
         go_simp
         with_reducible rfl
       rotate_left
       · simp only [Act.put, sA_, i64_w, i32_w]
         rfl
       refine one_ (i := 6) (N := some 50) #[true, true, true, true, true, true, true, false] rfl rfl (one_of HT_.out (by kernel_rfl)) (by decide) (fun K hK => ?_)
       refine goes_ Tryd.func90 (by kernel_rfl) rfl #[.int .i64 (wrap64 ((wrap64 ((wrap64 (x1_1 + 1)) + 1)) + 1))] (by rfl) rfl rfl (by (try simp only [List.map_toArray, List.map_cons, List.map_nil]); first | done | rfl | (simp only [List.length_drop, List.length_take]; rfl)) ?_
       with_reducible refine (laws_markText.calls k1 (wrap64 ((wrap64 ((wrap64 (x1_1 + 1)) + 1)) + 1)) t244 _ A12.out).mono ?_
       rintro e w15 ⟨rfl, hb⟩
       refine ⟨_, rfl, ?_⟩
       have hb1_ := fromQ HB.out hb
       have hb0_ := below_step hb1_ hb
       replace HB := kH HB hb0_
       clear hb1_ hb0_
       (try clear hb)
       (try clear hb2)
       (try clear hk)
       (try clear hi)
       refine hK.out _ _ ⟨((HB.out.cell (World.block_lt_of_cell? w _ hw243_0)).trans hw243_0), ((HB.out.cell (World.block_lt_of_cell? w _ hw243_1)).trans hw243_1), ((HB.out.cell (World.block_lt_of_cell? w _ hw243_2)).trans hw243_2), ((HB.out.cell (World.block_lt_of_cell? w _ hw243_3)).trans hw243_3), ((HB.out.cell (World.block_lt_of_cell? w _ hw243_4)).trans hw243_4), ((HB.out.cell (World.block_lt_of_cell? w _ hw243_5)).trans hw243_5), ((HB.out.cell (World.block_lt_of_cell? w _ hw243_6)).trans hw243_6), ((HB.out.cell (World.block_lt_of_cell? w _ hw243_7)).trans hw243_7), ((HB.out.cell (World.block_lt_of_cell? w _ hw243_8)).trans hw243_8)⟩ (fun hHeld => ?_)
       clear hK K
       refine norm_ (a' := ?_) ?_ ?_
       rotate_left
       · show Act.put _ (some 50) _ = _
         simp only [Act.put, sA_, i64_w, i32_w]
         rfl
       refine pureY (i := 7) (N := some 51) (v := ?_) (a' := ?_) #[true, true, true, true, true, true, true, true] rfl rfl (any_of HT_.out (by kernel_rfl)) ⟨by rfl, ?_⟩ ?_ ?_
       rotate_left
       · intro w'
         go_simp
         with_reducible rfl
       rotate_left
       · simp only [Act.put, sA_, i64_w, i32_w]
         rfl
       refine done_ (done_of HT_.out (by kernel_rfl)) ?_
       go_upto_if 51 with (fail)
       have H := HL13.out
       clear HL13
       by_cases c16 : ((rd_T32 l0 x5_1).f2).toList = t244.toList
       ·
        rw [if_pos c16] at H
        have c16b0 : (((rd_T32 l0 x5_1).f2).toList == t244.toList) = true := beq_iff_eq.mpr c16
        have c16b1 : (((rd_T32 l0 x5_1).f2).toList != t244.toList) = false := bne_eq_false_iff_eq.mpr c16
        clear c16
        (first | rw [c16b0] | (simp only [i64_w, i32_w]; rw [c16b0]) | simp only [c16b2, Bool.not_false, Bool.not_true] | skip)
        replace H := Option.bind_eq_some_iff.mp H
        obtain ⟨t246, A170, H⟩ := H
        replace H : (if t246 < 0 then (some (-1)) else (if ((rd_T32 l0 x5_1).f4) = t246 then (if ((rd_T32 l0 x5_1).f5) = (wrap64 (t246 + 1)) then (if ((rd_T32 l0 x5_1).f6) = (wrap64 ((wrap64 (t246 + 1)) + 1)) then (if ((rd_T32 l0 x5_1).f7) = (wrap64 ((wrap64 ((wrap64 (t246 + 1)) + 1)) + 1)) then (laws_heldSlotS.l0 k1 l0 (wrap64 ((wrap64 ((wrap64 ((wrap64 (t246 + 1)) + 1)) + 1)) + 1)) (wrap64 (x5_1 + 1))) else (some (-1))) else (some (-1))) else (some (-1))) else (some (-1)))) = some r := H
        have A17 := Aside0.mk A170
        clear A170
        have HL18 := Aside0.mk H
        clear H
        have p245 : 0 ≤ (x5_1 : Int) := of_decide_eq_true (by first | (with_reducible assumption) | assumption)
        have q245 : x5_1 < (l0.length : Int) := of_decide_eq_true (by first | (with_reducible assumption) | assumption)
        obtain ⟨ad245, A245_4, c245_4, e245, hx245_0, hx245_1, hx245_2, hx245_3, hx245_4, hx245_5, hx245_6, hx245_7, hx245_8, hl245_4, hi245_4⟩ := at_T32 HR0.out x5_1 p245 q245
        obtain rfl : ad239 = ad245 := (by injection e245)
        (try clear hHeld)
        replace hx245_0 := bcl HB hx245_0
        replace hx245_1 := bcl HB hx245_1
        replace hx245_2 := bcl HB hx245_2
        replace hx245_3 := bcl HB hx245_3
        replace hx245_4 := bcl HB hx245_4
        replace hx245_5 := bcl HB hx245_5
        replace hx245_6 := bcl HB hx245_6
        replace hx245_7 := bcl HB hx245_7
        replace hx245_8 := bcl HB hx245_8
        have HR245_4 := Aside0.mk hi245_4
        have HC245_4 := Aside0.mk hl245_4
        clear hi245_4 hl245_4
        replace p245 := eq_true p245
        replace q245 := eq_true q245
        go_upto_if 62 with (first | ((with_reducible refine gate_callee (f := 64) rfl ?_); refine goesL_ (some 60) rfl rfl Tryd.func64 (by kernel_rfl) rfl #[.slice A245_4 ((rd_T32 l0 x5_1).f3).length c245_4, .int .i64 (wrap64 ((wrap64 ((wrap64 ((wrap64 (x1_1 + 1)) + 1)) + 1)) + 1))] rfl (by (try simp only [List.map_toArray, List.map_cons, List.map_nil]); first | done | rfl | (simp only [List.length_drop, List.length_take]; rfl)) ?_; (with_reducible refine (laws_heldKeyS.calls k1 _ _ ((rd_T32 l0 x5_1).f3) (wrap64 ((wrap64 ((wrap64 ((wrap64 (x1_1 + 1)) + 1)) + 1)) + 1)) t246 _ ?side1 ?side2 A17.out).mono ?_); (case side1 => repeat (first | exact (Kd.C_below HR245_4.out HB.out) | (with_reducible refine Kd.C_alloc ?_ _) | (with_reducible refine Kd.C_drewN ?_ _) | (with_reducible refine Kd.C_drew ?_))); (case side2 => exact HC245_4.out); rintro e w19 ⟨rfl, hb⟩; refine ⟨_, rfl, ?_⟩; have hb1_ := fromQ HB.out hb; have hb0_ := below_step hb1_ hb; replace HB := kH HB hb0_; clear hb1_ hb0_; (try clear hb); (try clear hb2); (try clear hk); (try clear hi)))
        have H := HL18.out
        clear HL18
        by_cases c20 : t246 < 0
        · rw [if_pos c20] at H
          have c20b0 : decide (t246 < 0) = true := decide_eq_true c20
          clear c20
          (first | rw [c20b0] | (simp only [i64_w, i32_w]; rw [c20b0]) | simp only [c20b2, Bool.not_false, Bool.not_true] | skip)
          obtain rfl := Option.some.inj H
          go_wp2
          go_ret
          exact ⟨by first | rfl | (simp [errW_none, errW_some] <;> rfl) | (simp [*, errW_none, errW_some] <;> rfl), by repeat (first | (with_reducible first | exact HB.out | apply below_alloc | apply pw_below_drewN | apply below_drew1) | exact HB.out)⟩
        rw [if_neg c20] at H
        have c20b0 : decide (t246 < 0) = false := decide_eq_false c20
        clear c20
        (first | rw [c20b0] | (simp only [i64_w, i32_w]; rw [c20b0]) | simp only [c20b2, Bool.not_false, Bool.not_true] | skip)
        by_cases c21 : ((rd_T32 l0 x5_1).f4) = t246
        ·
         rw [if_pos c21] at H
         have c21b0 : (((rd_T32 l0 x5_1).f4) == t246) = true := beq_iff_eq.mpr c21
         have c21b1 : (((rd_T32 l0 x5_1).f4) != t246) = false := bne_eq_false_iff_eq.mpr c21
         clear c21
         by_cases c22 : ((rd_T32 l0 x5_1).f5) = (wrap64 (t246 + 1))
         ·
          rw [if_pos c22] at H
          have c22b0 : (((rd_T32 l0 x5_1).f5) == (wrap64 (t246 + 1))) = true := beq_iff_eq.mpr c22
          have c22b1 : (((rd_T32 l0 x5_1).f5) != (wrap64 (t246 + 1))) = false := bne_eq_false_iff_eq.mpr c22
          clear c22
          by_cases c23 : ((rd_T32 l0 x5_1).f6) = (wrap64 ((wrap64 (t246 + 1)) + 1))
          ·
           rw [if_pos c23] at H
           have c23b0 : (((rd_T32 l0 x5_1).f6) == (wrap64 ((wrap64 (t246 + 1)) + 1))) = true := beq_iff_eq.mpr c23
           have c23b1 : (((rd_T32 l0 x5_1).f6) != (wrap64 ((wrap64 (t246 + 1)) + 1))) = false := bne_eq_false_iff_eq.mpr c23
           clear c23
           by_cases c24 : ((rd_T32 l0 x5_1).f7) = (wrap64 ((wrap64 ((wrap64 (t246 + 1)) + 1)) + 1))
           ·
            rw [if_pos c24] at H
            have c24b0 : (((rd_T32 l0 x5_1).f7) == (wrap64 ((wrap64 ((wrap64 (t246 + 1)) + 1)) + 1))) = true := beq_iff_eq.mpr c24
            have c24b1 : (((rd_T32 l0 x5_1).f7) != (wrap64 ((wrap64 ((wrap64 (t246 + 1)) + 1)) + 1))) = false := bne_eq_false_iff_eq.mpr c24
            clear c24
            have H' := Aside0.mk H
            clear H
            have p247 : 0 ≤ (x5_1 : Int) := of_decide_eq_true (by first | (with_reducible assumption) | assumption)
            have q247 : x5_1 < (l0.length : Int) := of_decide_eq_true (by first | (with_reducible assumption) | assumption)
            obtain ⟨ad247, A247_4, c247_4, e247, hx247_0, hx247_1, hx247_2, hx247_3, hx247_4, hx247_5, hx247_6, hx247_7, hx247_8, hl247_4, hi247_4⟩ := at_T32 HR0.out x5_1 p247 q247
            obtain rfl : ad239 = ad247 := (by injection e247)
            (try clear hHeld)
            replace hx247_0 := bcl HB hx247_0
            replace hx247_1 := bcl HB hx247_1
            replace hx247_2 := bcl HB hx247_2
            replace hx247_3 := bcl HB hx247_3
            replace hx247_4 := bcl HB hx247_4
            replace hx247_5 := bcl HB hx247_5
            replace hx247_6 := bcl HB hx247_6
            replace hx247_7 := bcl HB hx247_7
            replace hx247_8 := bcl HB hx247_8
            have HR247_4 := Aside0.mk hi247_4
            have HC247_4 := Aside0.mk hl247_4
            clear hi247_4 hl247_4
            replace p247 := eq_true p247
            replace q247 := eq_true q247
            have p248 : 0 ≤ (x5_1 : Int) := of_decide_eq_true (by first | (with_reducible assumption) | assumption)
            have q248 : x5_1 < (l0.length : Int) := of_decide_eq_true (by first | (with_reducible assumption) | assumption)
            obtain ⟨ad248, A248_4, c248_4, e248, hx248_0, hx248_1, hx248_2, hx248_3, hx248_4, hx248_5, hx248_6, hx248_7, hx248_8, hl248_4, hi248_4⟩ := at_T32 HR0.out x5_1 p248 q248
            obtain rfl : ad239 = ad248 := (by injection e248)
            (try clear hHeld)
            replace hx248_0 := bcl HB hx248_0
            replace hx248_1 := bcl HB hx248_1
            replace hx248_2 := bcl HB hx248_2
            replace hx248_3 := bcl HB hx248_3
            replace hx248_4 := bcl HB hx248_4
            replace hx248_5 := bcl HB hx248_5
            replace hx248_6 := bcl HB hx248_6
            replace hx248_7 := bcl HB hx248_7
            replace hx248_8 := bcl HB hx248_8
            have HR248_4 := Aside0.mk hi248_4
            have HC248_4 := Aside0.mk hl248_4
            clear hi248_4 hl248_4
            replace p248 := eq_true p248
            replace q248 := eq_true q248
            have ea_ := Option.some.inj (hx247_4.symm.trans hx248_4)
            injection ea_ with ea_ en_ ec_
            subst ea_
            subst ec_
            clear en_
            have p249 : 0 ≤ (x5_1 : Int) := of_decide_eq_true (by first | (with_reducible assumption) | assumption)
            have q249 : x5_1 < (l0.length : Int) := of_decide_eq_true (by first | (with_reducible assumption) | assumption)
            obtain ⟨ad249, A249_4, c249_4, e249, hx249_0, hx249_1, hx249_2, hx249_3, hx249_4, hx249_5, hx249_6, hx249_7, hx249_8, hl249_4, hi249_4⟩ := at_T32 HR0.out x5_1 p249 q249
            obtain rfl : ad239 = ad249 := (by injection e249)
            (try clear hHeld)
            replace hx249_0 := bcl HB hx249_0
            replace hx249_1 := bcl HB hx249_1
            replace hx249_2 := bcl HB hx249_2
            replace hx249_3 := bcl HB hx249_3
            replace hx249_4 := bcl HB hx249_4
            replace hx249_5 := bcl HB hx249_5
            replace hx249_6 := bcl HB hx249_6
            replace hx249_7 := bcl HB hx249_7
            replace hx249_8 := bcl HB hx249_8
            have HR249_4 := Aside0.mk hi249_4
            have HC249_4 := Aside0.mk hl249_4
            clear hi249_4 hl249_4
            replace p249 := eq_true p249
            replace q249 := eq_true q249
            have ea_ := Option.some.inj (hx247_4.symm.trans hx249_4)
            injection ea_ with ea_ en_ ec_
            subst ea_
            subst ec_
            clear en_
            have p250 : 0 ≤ (x5_1 : Int) := of_decide_eq_true (by first | (with_reducible assumption) | assumption)
            have q250 : x5_1 < (l0.length : Int) := of_decide_eq_true (by first | (with_reducible assumption) | assumption)
            obtain ⟨ad250, A250_4, c250_4, e250, hx250_0, hx250_1, hx250_2, hx250_3, hx250_4, hx250_5, hx250_6, hx250_7, hx250_8, hl250_4, hi250_4⟩ := at_T32 HR0.out x5_1 p250 q250
            obtain rfl : ad239 = ad250 := (by injection e250)
            (try clear hHeld)
            replace hx250_0 := bcl HB hx250_0
            replace hx250_1 := bcl HB hx250_1
            replace hx250_2 := bcl HB hx250_2
            replace hx250_3 := bcl HB hx250_3
            replace hx250_4 := bcl HB hx250_4
            replace hx250_5 := bcl HB hx250_5
            replace hx250_6 := bcl HB hx250_6
            replace hx250_7 := bcl HB hx250_7
            replace hx250_8 := bcl HB hx250_8
            have HR250_4 := Aside0.mk hi250_4
            have HC250_4 := Aside0.mk hl250_4
            clear hi250_4 hl250_4
            replace p250 := eq_true p250
            replace q250 := eq_true q250
            have ea_ := Option.some.inj (hx247_4.symm.trans hx250_4)
            injection ea_ with ea_ en_ ec_
            subst ea_
            subst ec_
            clear en_
            go_wp2
            go_roundg k1
            case measure => have := HK1.out; omega
            case rel => exact ⟨(wrap64 ((wrap64 ((wrap64 ((wrap64 (t246 + 1)) + 1)) + 1)) + 1)), (wrap64 (x5_1 + 1)), (by first | rfl | (simp; done) | (simp [*]; done)), (by first | rfl | (simp; done) | (simp [*]; done)), H', ⟨by have := HK1.out; omega⟩, ⟨by repeat (first | (with_reducible first | exact HB.out | apply below_alloc | apply pw_below_drewN | apply below_drew1) | exact HB.out)⟩⟩
           rw [if_neg c24] at H
           have c24b0 : (((rd_T32 l0 x5_1).f7) == (wrap64 ((wrap64 ((wrap64 (t246 + 1)) + 1)) + 1))) = false := beq_eq_false_iff_ne.mpr c24
           have c24b1 : (((rd_T32 l0 x5_1).f7) != (wrap64 ((wrap64 ((wrap64 (t246 + 1)) + 1)) + 1))) = true := bne_iff_ne.mpr c24
           obtain rfl := Option.some.inj H
           have p247 : 0 ≤ (x5_1 : Int) := of_decide_eq_true (by first | (with_reducible assumption) | assumption)
           have q247 : x5_1 < (l0.length : Int) := of_decide_eq_true (by first | (with_reducible assumption) | assumption)
           obtain ⟨ad247, A247_4, c247_4, e247, hx247_0, hx247_1, hx247_2, hx247_3, hx247_4, hx247_5, hx247_6, hx247_7, hx247_8, hl247_4, hi247_4⟩ := at_T32 HR0.out x5_1 p247 q247
           obtain rfl : ad239 = ad247 := (by injection e247)
           (try clear hHeld)
           replace hx247_0 := bcl HB hx247_0
           replace hx247_1 := bcl HB hx247_1
           replace hx247_2 := bcl HB hx247_2
           replace hx247_3 := bcl HB hx247_3
           replace hx247_4 := bcl HB hx247_4
           replace hx247_5 := bcl HB hx247_5
           replace hx247_6 := bcl HB hx247_6
           replace hx247_7 := bcl HB hx247_7
           replace hx247_8 := bcl HB hx247_8
           have HR247_4 := Aside0.mk hi247_4
           have HC247_4 := Aside0.mk hl247_4
           clear hi247_4 hl247_4
           replace p247 := eq_true p247
           replace q247 := eq_true q247
           have p248 : 0 ≤ (x5_1 : Int) := of_decide_eq_true (by first | (with_reducible assumption) | assumption)
           have q248 : x5_1 < (l0.length : Int) := of_decide_eq_true (by first | (with_reducible assumption) | assumption)
           obtain ⟨ad248, A248_4, c248_4, e248, hx248_0, hx248_1, hx248_2, hx248_3, hx248_4, hx248_5, hx248_6, hx248_7, hx248_8, hl248_4, hi248_4⟩ := at_T32 HR0.out x5_1 p248 q248
           obtain rfl : ad239 = ad248 := (by injection e248)
           (try clear hHeld)
           replace hx248_0 := bcl HB hx248_0
           replace hx248_1 := bcl HB hx248_1
           replace hx248_2 := bcl HB hx248_2
           replace hx248_3 := bcl HB hx248_3
           replace hx248_4 := bcl HB hx248_4
           replace hx248_5 := bcl HB hx248_5
           replace hx248_6 := bcl HB hx248_6
           replace hx248_7 := bcl HB hx248_7
           replace hx248_8 := bcl HB hx248_8
           have HR248_4 := Aside0.mk hi248_4
           have HC248_4 := Aside0.mk hl248_4
           clear hi248_4 hl248_4
           replace p248 := eq_true p248
           replace q248 := eq_true q248
           have ea_ := Option.some.inj (hx247_4.symm.trans hx248_4)
           injection ea_ with ea_ en_ ec_
           subst ea_
           subst ec_
           clear en_
           have p249 : 0 ≤ (x5_1 : Int) := of_decide_eq_true (by first | (with_reducible assumption) | assumption)
           have q249 : x5_1 < (l0.length : Int) := of_decide_eq_true (by first | (with_reducible assumption) | assumption)
           obtain ⟨ad249, A249_4, c249_4, e249, hx249_0, hx249_1, hx249_2, hx249_3, hx249_4, hx249_5, hx249_6, hx249_7, hx249_8, hl249_4, hi249_4⟩ := at_T32 HR0.out x5_1 p249 q249
           obtain rfl : ad239 = ad249 := (by injection e249)
           (try clear hHeld)
           replace hx249_0 := bcl HB hx249_0
           replace hx249_1 := bcl HB hx249_1
           replace hx249_2 := bcl HB hx249_2
           replace hx249_3 := bcl HB hx249_3
           replace hx249_4 := bcl HB hx249_4
           replace hx249_5 := bcl HB hx249_5
           replace hx249_6 := bcl HB hx249_6
           replace hx249_7 := bcl HB hx249_7
           replace hx249_8 := bcl HB hx249_8
           have HR249_4 := Aside0.mk hi249_4
           have HC249_4 := Aside0.mk hl249_4
           clear hi249_4 hl249_4
           replace p249 := eq_true p249
           replace q249 := eq_true q249
           have ea_ := Option.some.inj (hx247_4.symm.trans hx249_4)
           injection ea_ with ea_ en_ ec_
           subst ea_
           subst ec_
           clear en_
           have p250 : 0 ≤ (x5_1 : Int) := of_decide_eq_true (by first | (with_reducible assumption) | assumption)
           have q250 : x5_1 < (l0.length : Int) := of_decide_eq_true (by first | (with_reducible assumption) | assumption)
           obtain ⟨ad250, A250_4, c250_4, e250, hx250_0, hx250_1, hx250_2, hx250_3, hx250_4, hx250_5, hx250_6, hx250_7, hx250_8, hl250_4, hi250_4⟩ := at_T32 HR0.out x5_1 p250 q250
           obtain rfl : ad239 = ad250 := (by injection e250)
           (try clear hHeld)
           replace hx250_0 := bcl HB hx250_0
           replace hx250_1 := bcl HB hx250_1
           replace hx250_2 := bcl HB hx250_2
           replace hx250_3 := bcl HB hx250_3
           replace hx250_4 := bcl HB hx250_4
           replace hx250_5 := bcl HB hx250_5
           replace hx250_6 := bcl HB hx250_6
           replace hx250_7 := bcl HB hx250_7
           replace hx250_8 := bcl HB hx250_8
           have HR250_4 := Aside0.mk hi250_4
           have HC250_4 := Aside0.mk hl250_4
           clear hi250_4 hl250_4
           replace p250 := eq_true p250
           replace q250 := eq_true q250
           have ea_ := Option.some.inj (hx247_4.symm.trans hx250_4)
           injection ea_ with ea_ en_ ec_
           subst ea_
           subst ec_
           clear en_
           go_wp2
           go_ret
           exact ⟨by first | rfl | (simp [errW_none, errW_some] <;> rfl) | (simp [*, errW_none, errW_some] <;> rfl), by repeat (first | (with_reducible first | exact HB.out | apply below_alloc | apply pw_below_drewN | apply below_drew1) | exact HB.out)⟩
          rw [if_neg c23] at H
          have c23b0 : (((rd_T32 l0 x5_1).f6) == (wrap64 ((wrap64 (t246 + 1)) + 1))) = false := beq_eq_false_iff_ne.mpr c23
          have c23b1 : (((rd_T32 l0 x5_1).f6) != (wrap64 ((wrap64 (t246 + 1)) + 1))) = true := bne_iff_ne.mpr c23
          obtain rfl := Option.some.inj H
          have p247 : 0 ≤ (x5_1 : Int) := of_decide_eq_true (by first | (with_reducible assumption) | assumption)
          have q247 : x5_1 < (l0.length : Int) := of_decide_eq_true (by first | (with_reducible assumption) | assumption)
          obtain ⟨ad247, A247_4, c247_4, e247, hx247_0, hx247_1, hx247_2, hx247_3, hx247_4, hx247_5, hx247_6, hx247_7, hx247_8, hl247_4, hi247_4⟩ := at_T32 HR0.out x5_1 p247 q247
          obtain rfl : ad239 = ad247 := (by injection e247)
          (try clear hHeld)
          replace hx247_0 := bcl HB hx247_0
          replace hx247_1 := bcl HB hx247_1
          replace hx247_2 := bcl HB hx247_2
          replace hx247_3 := bcl HB hx247_3
          replace hx247_4 := bcl HB hx247_4
          replace hx247_5 := bcl HB hx247_5
          replace hx247_6 := bcl HB hx247_6
          replace hx247_7 := bcl HB hx247_7
          replace hx247_8 := bcl HB hx247_8
          have HR247_4 := Aside0.mk hi247_4
          have HC247_4 := Aside0.mk hl247_4
          clear hi247_4 hl247_4
          replace p247 := eq_true p247
          replace q247 := eq_true q247
          have p248 : 0 ≤ (x5_1 : Int) := of_decide_eq_true (by first | (with_reducible assumption) | assumption)
          have q248 : x5_1 < (l0.length : Int) := of_decide_eq_true (by first | (with_reducible assumption) | assumption)
          obtain ⟨ad248, A248_4, c248_4, e248, hx248_0, hx248_1, hx248_2, hx248_3, hx248_4, hx248_5, hx248_6, hx248_7, hx248_8, hl248_4, hi248_4⟩ := at_T32 HR0.out x5_1 p248 q248
          obtain rfl : ad239 = ad248 := (by injection e248)
          (try clear hHeld)
          replace hx248_0 := bcl HB hx248_0
          replace hx248_1 := bcl HB hx248_1
          replace hx248_2 := bcl HB hx248_2
          replace hx248_3 := bcl HB hx248_3
          replace hx248_4 := bcl HB hx248_4
          replace hx248_5 := bcl HB hx248_5
          replace hx248_6 := bcl HB hx248_6
          replace hx248_7 := bcl HB hx248_7
          replace hx248_8 := bcl HB hx248_8
          have HR248_4 := Aside0.mk hi248_4
          have HC248_4 := Aside0.mk hl248_4
          clear hi248_4 hl248_4
          replace p248 := eq_true p248
          replace q248 := eq_true q248
          have ea_ := Option.some.inj (hx247_4.symm.trans hx248_4)
          injection ea_ with ea_ en_ ec_
          subst ea_
          subst ec_
          clear en_
          have p249 : 0 ≤ (x5_1 : Int) := of_decide_eq_true (by first | (with_reducible assumption) | assumption)
          have q249 : x5_1 < (l0.length : Int) := of_decide_eq_true (by first | (with_reducible assumption) | assumption)
          obtain ⟨ad249, A249_4, c249_4, e249, hx249_0, hx249_1, hx249_2, hx249_3, hx249_4, hx249_5, hx249_6, hx249_7, hx249_8, hl249_4, hi249_4⟩ := at_T32 HR0.out x5_1 p249 q249
          obtain rfl : ad239 = ad249 := (by injection e249)
          (try clear hHeld)
          replace hx249_0 := bcl HB hx249_0
          replace hx249_1 := bcl HB hx249_1
          replace hx249_2 := bcl HB hx249_2
          replace hx249_3 := bcl HB hx249_3
          replace hx249_4 := bcl HB hx249_4
          replace hx249_5 := bcl HB hx249_5
          replace hx249_6 := bcl HB hx249_6
          replace hx249_7 := bcl HB hx249_7
          replace hx249_8 := bcl HB hx249_8
          have HR249_4 := Aside0.mk hi249_4
          have HC249_4 := Aside0.mk hl249_4
          clear hi249_4 hl249_4
          replace p249 := eq_true p249
          replace q249 := eq_true q249
          have ea_ := Option.some.inj (hx247_4.symm.trans hx249_4)
          injection ea_ with ea_ en_ ec_
          subst ea_
          subst ec_
          clear en_
          go_wp2
          go_ret
          exact ⟨by first | rfl | (simp [errW_none, errW_some] <;> rfl) | (simp [*, errW_none, errW_some] <;> rfl), by repeat (first | (with_reducible first | exact HB.out | apply below_alloc | apply pw_below_drewN | apply below_drew1) | exact HB.out)⟩
         rw [if_neg c22] at H
         have c22b0 : (((rd_T32 l0 x5_1).f5) == (wrap64 (t246 + 1))) = false := beq_eq_false_iff_ne.mpr c22
         have c22b1 : (((rd_T32 l0 x5_1).f5) != (wrap64 (t246 + 1))) = true := bne_iff_ne.mpr c22
         obtain rfl := Option.some.inj H
         have p247 : 0 ≤ (x5_1 : Int) := of_decide_eq_true (by first | (with_reducible assumption) | assumption)
         have q247 : x5_1 < (l0.length : Int) := of_decide_eq_true (by first | (with_reducible assumption) | assumption)
         obtain ⟨ad247, A247_4, c247_4, e247, hx247_0, hx247_1, hx247_2, hx247_3, hx247_4, hx247_5, hx247_6, hx247_7, hx247_8, hl247_4, hi247_4⟩ := at_T32 HR0.out x5_1 p247 q247
         obtain rfl : ad239 = ad247 := (by injection e247)
         (try clear hHeld)
         replace hx247_0 := bcl HB hx247_0
         replace hx247_1 := bcl HB hx247_1
         replace hx247_2 := bcl HB hx247_2
         replace hx247_3 := bcl HB hx247_3
         replace hx247_4 := bcl HB hx247_4
         replace hx247_5 := bcl HB hx247_5
         replace hx247_6 := bcl HB hx247_6
         replace hx247_7 := bcl HB hx247_7
         replace hx247_8 := bcl HB hx247_8
         have HR247_4 := Aside0.mk hi247_4
         have HC247_4 := Aside0.mk hl247_4
         clear hi247_4 hl247_4
         replace p247 := eq_true p247
         replace q247 := eq_true q247
         have p248 : 0 ≤ (x5_1 : Int) := of_decide_eq_true (by first | (with_reducible assumption) | assumption)
         have q248 : x5_1 < (l0.length : Int) := of_decide_eq_true (by first | (with_reducible assumption) | assumption)
         obtain ⟨ad248, A248_4, c248_4, e248, hx248_0, hx248_1, hx248_2, hx248_3, hx248_4, hx248_5, hx248_6, hx248_7, hx248_8, hl248_4, hi248_4⟩ := at_T32 HR0.out x5_1 p248 q248
         obtain rfl : ad239 = ad248 := (by injection e248)
         (try clear hHeld)
         replace hx248_0 := bcl HB hx248_0
         replace hx248_1 := bcl HB hx248_1
         replace hx248_2 := bcl HB hx248_2
         replace hx248_3 := bcl HB hx248_3
         replace hx248_4 := bcl HB hx248_4
         replace hx248_5 := bcl HB hx248_5
         replace hx248_6 := bcl HB hx248_6
         replace hx248_7 := bcl HB hx248_7
         replace hx248_8 := bcl HB hx248_8
         have HR248_4 := Aside0.mk hi248_4
         have HC248_4 := Aside0.mk hl248_4
         clear hi248_4 hl248_4
         replace p248 := eq_true p248
         replace q248 := eq_true q248
         have ea_ := Option.some.inj (hx247_4.symm.trans hx248_4)
         injection ea_ with ea_ en_ ec_
         subst ea_
         subst ec_
         clear en_
         go_wp2
         go_ret
         exact ⟨by first | rfl | (simp [errW_none, errW_some] <;> rfl) | (simp [*, errW_none, errW_some] <;> rfl), by repeat (first | (with_reducible first | exact HB.out | apply below_alloc | apply pw_below_drewN | apply below_drew1) | exact HB.out)⟩
        rw [if_neg c21] at H
        have c21b0 : (((rd_T32 l0 x5_1).f4) == t246) = false := beq_eq_false_iff_ne.mpr c21
        have c21b1 : (((rd_T32 l0 x5_1).f4) != t246) = true := bne_iff_ne.mpr c21
        obtain rfl := Option.some.inj H
        have p247 : 0 ≤ (x5_1 : Int) := of_decide_eq_true (by first | (with_reducible assumption) | assumption)
        have q247 : x5_1 < (l0.length : Int) := of_decide_eq_true (by first | (with_reducible assumption) | assumption)
        obtain ⟨ad247, A247_4, c247_4, e247, hx247_0, hx247_1, hx247_2, hx247_3, hx247_4, hx247_5, hx247_6, hx247_7, hx247_8, hl247_4, hi247_4⟩ := at_T32 HR0.out x5_1 p247 q247
        obtain rfl : ad239 = ad247 := (by injection e247)
        (try clear hHeld)
        replace hx247_0 := bcl HB hx247_0
        replace hx247_1 := bcl HB hx247_1
        replace hx247_2 := bcl HB hx247_2
        replace hx247_3 := bcl HB hx247_3
        replace hx247_4 := bcl HB hx247_4
        replace hx247_5 := bcl HB hx247_5
        replace hx247_6 := bcl HB hx247_6
        replace hx247_7 := bcl HB hx247_7
        replace hx247_8 := bcl HB hx247_8
        have HR247_4 := Aside0.mk hi247_4
        have HC247_4 := Aside0.mk hl247_4
        clear hi247_4 hl247_4
        replace p247 := eq_true p247
        replace q247 := eq_true q247
        go_wp2
        go_ret
        exact ⟨by first | rfl | (simp [errW_none, errW_some] <;> rfl) | (simp [*, errW_none, errW_some] <;> rfl), by repeat (first | (with_reducible first | exact HB.out | apply below_alloc | apply pw_below_drewN | apply below_drew1) | exact HB.out)⟩
       rw [if_neg c16] at H
       have c16b0 : (((rd_T32 l0 x5_1).f2).toList == t244.toList) = false := beq_eq_false_iff_ne.mpr c16
       have c16b1 : (((rd_T32 l0 x5_1).f2).toList != t244.toList) = true := bne_iff_ne.mpr c16
       (first | rw [c16b0] | (simp only [i64_w, i32_w]; rw [c16b0]) | simp only [c16b2, Bool.not_false, Bool.not_true] | skip)
       obtain rfl := Option.some.inj H
       go_wp2
       go_ret
       exact ⟨by first | rfl | (simp [errW_none, errW_some] <;> rfl) | (simp [*, errW_none, errW_some] <;> rfl), by repeat (first | (with_reducible first | exact HB.out | apply below_alloc | apply pw_below_drewN | apply below_drew1) | exact HB.out)⟩
      rw [if_neg c10] at H
      have c10b0 : (((rd_T32 l0 x5_1).f0.f1).toList == t241.toList) = false := beq_eq_false_iff_ne.mpr c10
      have c10b1 : (((rd_T32 l0 x5_1).f0.f1).toList != t241.toList) = true := bne_iff_ne.mpr c10
      (first | rw [c10b0] | (simp only [i64_w, i32_w]; rw [c10b0]) | simp only [c10b2, Bool.not_false, Bool.not_true] | skip)
      obtain rfl := Option.some.inj H
      go_wp2
      go_ret
      exact ⟨by first | rfl | (simp [errW_none, errW_some] <;> rfl) | (simp [*, errW_none, errW_some] <;> rfl), by repeat (first | (with_reducible first | exact HB.out | apply below_alloc | apply pw_below_drewN | apply below_drew1) | exact HB.out)⟩
     rw [if_neg c5] at H
     have c5b0 : (((rd_T32 l0 x5_1).f0.f0) == x1_1) = false := beq_eq_false_iff_ne.mpr c5
     have c5b1 : (((rd_T32 l0 x5_1).f0.f0) != x1_1) = true := bne_iff_ne.mpr c5
     obtain rfl := Option.some.inj H
     have p239 : 0 ≤ (x5_1 : Int) := of_decide_eq_true (by first | (with_reducible assumption) | assumption)
     have q239 : x5_1 < (l0.length : Int) := of_decide_eq_true (by first | (with_reducible assumption) | assumption)
     obtain ⟨ad239, A239_4, c239_4, e239, hx239_0, hx239_1, hx239_2, hx239_3, hx239_4, hx239_5, hx239_6, hx239_7, hx239_8, hl239_4, hi239_4⟩ := at_T32 HR0.out x5_1 p239 q239
     cases e239
     replace hx239_0 := bcl HB hx239_0
     replace hx239_1 := bcl HB hx239_1
     replace hx239_2 := bcl HB hx239_2
     replace hx239_3 := bcl HB hx239_3
     replace hx239_4 := bcl HB hx239_4
     replace hx239_5 := bcl HB hx239_5
     replace hx239_6 := bcl HB hx239_6
     replace hx239_7 := bcl HB hx239_7
     replace hx239_8 := bcl HB hx239_8
     have HR239_4 := Aside0.mk hi239_4
     have HC239_4 := Aside0.mk hl239_4
     clear hi239_4 hl239_4
     replace p239 := eq_true p239
     replace q239 := eq_true q239
     go_wp2
     go_ret
     exact ⟨by first | rfl | (simp [errW_none, errW_some] <;> rfl) | (simp [*, errW_none, errW_some] <;> rfl), by repeat (first | (with_reducible first | exact HB.out | apply below_alloc | apply pw_below_drewN | apply below_drew1) | exact HB.out)⟩
    rw [if_neg c4] at H
    exact absurd H (by simp)
   rw [if_neg c3] at H
   have c3b0 : decide (x5_1 < (l0.length : Int)) = false := decide_eq_false c3
   clear c3
   obtain rfl := Option.some.inj H
   go_wp2
   go_ret
   exact ⟨by first | rfl | (simp [errW_none, errW_some] <;> rfl) | (simp [*, errW_none, errW_some] <;> rfl), by repeat (first | (with_reducible first | exact HB.out | apply below_alloc | apply pw_below_drewN | apply below_drew1) | exact HB.out)⟩
end Go.Proofs.YtnbohlcibgfjaaaDoor.Gp
end
