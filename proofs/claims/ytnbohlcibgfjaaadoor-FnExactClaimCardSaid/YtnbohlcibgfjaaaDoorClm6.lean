/- A part of the proof of RowFnExactClaim: each text's theorems that it needs, packed by shake.py, a program of this work; Lean checks them. -/
import Derived.Test.YtnbohlcibgfjaaaDoorClm3
import Derived.Test.YtnbohlcibgfjaaaDoorClm5
section
namespace Go.Proofs.YtnbohlcibgfjaaaDoor.Gp
open Go.RowKit Go.Proofs.YtnbohlcibgfjaaaDoorW.PrintWords Go.Proofs.YtnbohlcibgfjaaaDoorW.PrintLast Go.Proofs.YtnbohlcibgfjaaaDoorW.PrintMore
set_option linter.unusedVariables false
set_option linter.unusedSimpArgs false
def laws_eqSlotS.l0 : Nat → List (S32) → List (S32) → Int → Option (Bool)
 | 0, _, _, _ => none
 | k + 1, x0, x1, x5 => if x5 < (x0.length : Int) then (if 0 ≤ x5 then (if x5 < (x1.length : Int) then ((laws_eqSlot.f k ((rd_T32 x0 x5).f0.f0) ((rd_T32 x0 x5).f0.f1) ((rd_T32 x0 x5).f1) ((rd_T32 x0 x5).f2) ((rd_T32 x0 x5).f3) ((rd_T32 x0 x5).f4) ((rd_T32 x0 x5).f5) ((rd_T32 x0 x5).f6) ((rd_T32 x0 x5).f7) ((rd_T32 x1 x5).f0.f0) ((rd_T32 x1 x5).f0.f1) ((rd_T32 x1 x5).f1) ((rd_T32 x1 x5).f2) ((rd_T32 x1 x5).f3) ((rd_T32 x1 x5).f4) ((rd_T32 x1 x5).f5) ((rd_T32 x1 x5).f6) ((rd_T32 x1 x5).f7)).bind fun t162 => (if t162 = true then (laws_eqSlotS.l0 k x0 x1 (wrap64 (x5 + 1))) else (some false))) else (none)) else (none)) else (some true)
def laws_eqSlotS.f (k : Nat) (l0 : List (S32)) (l1 : List (S32)) : Option (Bool) := if (l0.length : Int) = (l1.length : Int) then (laws_eqSlotS.l0 k l0 l1 0) else (some false)
def laws_eqSlotS.T6 : Bool × List (List Nat × List Nat) := (true, [([], []), ([], []), ([0, 1], [0, 1]), ([2], [2]), ([], []), ([], []), ([4, 5], [4, 5]), ([6], [6]), ([3, 7], [3, 7]), ([8], [8])])
def laws_eqSlotS.B6 : List Nat := [0, 0, 3, 7, 0, 0, 48, 112, 255, 511]
theorem laws_eqSlotS.tab6 : rtab .any (opsOf Tryd.f62 6) = laws_eqSlotS.T6 := by kernel_rfl
theorem laws_eqSlotS.bits6 : waitsOk laws_eqSlotS.T6.2 laws_eqSlotS.B6 = true := by kernel_rfl
set_option maxHeartbeats 8000000 in
set_option maxRecDepth 100000 in
theorem laws_eqSlotS.calls (k : Nat) (A0 : Option Addr) (c0 : Nat) (l0 : List (S32)) (A1 : Option Addr) (c1 : Nat) (l1 : List (S32)) (r : Bool) (w : World) (hr0 : Kd.C k32 w A0 l0.length l0) (hc0 : l0.length ≤ c0) (hr1 : Kd.C k32 w A1 l1.length l1) (hc1 : l1.length ≤ c1) (h : laws_eqSlotS.f k l0 l1 = some r) :
 Calls Tryd.prog 62 #[.slice A0 l0.length c0, .slice A1 l1.length c1] w fun e w' => e = .returned (.bool r) ∧ Below w.heap.size w w' := by
 have hu32 := Tryd.underlying32
 have HR0 := Aside0.mk hr0
 have HC0 := Aside0.mk hc0
 clear hr0 hc0
 have HR1 := Aside0.mk hr1
 have HC1 := Aside0.mk hc1
 clear hr1 hc1
 have HB := Aside0.mk (Below.refl w.heap.size w)
 have H : (if (l0.length : Int) = (l1.length : Int) then (laws_eqSlotS.l0 k l0 l1 0) else (some false)) = some r := h
 clear h
 by_cases c3 : (l0.length : Int) = (l1.length : Int)
 ·
  rw [if_pos c3] at H
  have c3b0 : ((l0.length : Int) == (l1.length : Int)) = true := beq_iff_eq.mpr c3
  have c3b1 : ((l0.length : Int) != (l1.length : Int)) = false := bne_eq_false_iff_eq.mpr c3
  have c3b2 : (l0.length == l1.length) = true := by first | simpa using c3 | (simp at c3 ⊢; omega)
  clear c3
  have H' := Aside0.mk H
  clear H
  go_enter Tryd.func62, Tryd.ntmps62
  go_wp2
  go_loopg [5] k (fun kq v5 w' => ∃ (x5_1 : Int), v5 = .int .i64 x5_1 ∧ Aside0 (laws_eqSlotS.l0 kq l0 l1 x5_1 = some r) ∧ Aside0 (kq ≤ k) ∧ Aside0 (Below w.heap.size w w'))
  case atStart => exact ⟨(0), (by first | rfl | (simp; done) | (simp [*]; done)), H', ⟨Nat.le_refl _⟩, ⟨by repeat (first | (with_reducible first | exact HB.out | apply below_alloc | apply pw_below_drewN | apply below_drew1) | exact HB.out)⟩⟩
  case round =>
   clear H'
   try clear c1
   try clear p2
   try clear c3
   try clear c3b0
   try clear c3b1
   try clear c3b2
   obtain ⟨x5_1, rfl, HA, HK1, HB⟩ := hrel
   cases gk with
   | zero => exact absurd HA.out (by simp [laws_eqSlotS.l0])
   | succ k1 =>
    have H := HA.out
    clear HA
    simp only [laws_eqSlotS.l0] at H
    by_cases c4 : x5_1 < (l0.length : Int)
    ·
     rw [if_pos c4] at H
     have c4b0 : decide (x5_1 < (l0.length : Int)) = true := decide_eq_true c4
     clear c4
     by_cases c5 : 0 ≤ x5_1
     ·
      rw [if_pos c5] at H
      have c5b0 : decide (0 ≤ x5_1) = true := decide_eq_true c5
      clear c5
      by_cases c6 : x5_1 < (l1.length : Int)
      ·
       rw [if_pos c6] at H
       have c6b0 : decide (x5_1 < (l1.length : Int)) = true := decide_eq_true c6
       clear c6
       replace H := Option.bind_eq_some_iff.mp H
       obtain ⟨t162, A70, H⟩ := H
       replace H : (if t162 = true then (laws_eqSlotS.l0 k1 l0 l1 (wrap64 (x5_1 + 1))) else (some false)) = some r := H
       have A7 := Aside0.mk A70
       clear A70
       have HL8 := Aside0.mk H
       clear H
       try go_wp2
       have n0_ := Aside0.mk (below_drew1 HB.out)
       clear HB
       have HB := n0_
       clear n0_
       have p160 : 0 ≤ (x5_1 : Int) := of_decide_eq_true (by first | (with_reducible assumption) | assumption)
       have q160 : x5_1 < (l0.length : Int) := of_decide_eq_true (by first | (with_reducible assumption) | assumption)
       obtain ⟨ad160, A160_4, c160_4, e160, hx160_0, hx160_1, hx160_2, hx160_3, hx160_4, hx160_5, hx160_6, hx160_7, hx160_8, hl160_4, hi160_4⟩ := at_T32 HR0.out x5_1 p160 q160
       have hw160_8 := hx160_8
       have hw160_7 := hx160_7
       have hw160_6 := hx160_6
       have hw160_5 := hx160_5
       have hw160_4 := hx160_4
       have hw160_3 := hx160_3
       have hw160_2 := hx160_2
       have hw160_1 := hx160_1
       have hw160_0 := hx160_0
       cases e160
       replace hx160_0 := bcl HB hx160_0
       replace hx160_1 := bcl HB hx160_1
       replace hx160_2 := bcl HB hx160_2
       replace hx160_3 := bcl HB hx160_3
       replace hx160_4 := bcl HB hx160_4
       replace hx160_5 := bcl HB hx160_5
       replace hx160_6 := bcl HB hx160_6
       replace hx160_7 := bcl HB hx160_7
       replace hx160_8 := bcl HB hx160_8
       have HR160_4 := Aside0.mk hi160_4
       have HC160_4 := Aside0.mk hl160_4
       clear hi160_4 hl160_4
       replace p160 := eq_true p160
       replace q160 := eq_true q160
       have p161 : 0 ≤ (x5_1 : Int) := of_decide_eq_true (by first | (with_reducible assumption) | assumption)
       have q161 : x5_1 < (l1.length : Int) := of_decide_eq_true (by first | (with_reducible assumption) | assumption)
       obtain ⟨ad161, A161_4, c161_4, e161, hx161_0, hx161_1, hx161_2, hx161_3, hx161_4, hx161_5, hx161_6, hx161_7, hx161_8, hl161_4, hi161_4⟩ := at_T32 HR1.out x5_1 p161 q161
       have hw161_8 := hx161_8
       have hw161_7 := hx161_7
       have hw161_6 := hx161_6
       have hw161_5 := hx161_5
       have hw161_4 := hx161_4
       have hw161_3 := hx161_3
       have hw161_2 := hx161_2
       have hw161_1 := hx161_1
       have hw161_0 := hx161_0
       cases e161
       replace hx161_0 := bcl HB hx161_0
       replace hx161_1 := bcl HB hx161_1
       replace hx161_2 := bcl HB hx161_2
       replace hx161_3 := bcl HB hx161_3
       replace hx161_4 := bcl HB hx161_4
       replace hx161_5 := bcl HB hx161_5
       replace hx161_6 := bcl HB hx161_6
       replace hx161_7 := bcl HB hx161_7
       replace hx161_8 := bcl HB hx161_8
       have HR161_4 := Aside0.mk hi161_4
       have HC161_4 := Aside0.mk hl161_4
       clear hi161_4 hl161_4
       replace p161 := eq_true p161
       replace q161 := eq_true q161
       refine start_ (n := 10) (S := fun w' => w'.cell? (ad160.add ((x5_1).toNat * 9)) = some (.int .i64 ((rd_T32 l0 x5_1).f0.f0)) ∧ w'.cell? ⟨(ad160.add ((x5_1).toNat * 9)).block, (ad160.add ((x5_1).toNat * 9)).off + 1, none⟩ = some (.string ((rd_T32 l0 x5_1).f0.f1)) ∧ w'.cell? ⟨(ad160.add ((x5_1).toNat * 9)).block, (ad160.add ((x5_1).toNat * 9)).off + 2, none⟩ = some (.bool ((rd_T32 l0 x5_1).f1)) ∧ w'.cell? ⟨(ad160.add ((x5_1).toNat * 9)).block, (ad160.add ((x5_1).toNat * 9)).off + 3, none⟩ = some (.string ((rd_T32 l0 x5_1).f2)) ∧ w'.cell? ⟨(ad160.add ((x5_1).toNat * 9)).block, (ad160.add ((x5_1).toNat * 9)).off + 4, none⟩ = some (.slice A160_4 ((rd_T32 l0 x5_1).f3).length c160_4) ∧ w'.cell? ⟨(ad160.add ((x5_1).toNat * 9)).block, (ad160.add ((x5_1).toNat * 9)).off + 5, none⟩ = some (.int .i64 ((rd_T32 l0 x5_1).f4)) ∧ w'.cell? ⟨(ad160.add ((x5_1).toNat * 9)).block, (ad160.add ((x5_1).toNat * 9)).off + 6, none⟩ = some (.int .i64 ((rd_T32 l0 x5_1).f5)) ∧ w'.cell? ⟨(ad160.add ((x5_1).toNat * 9)).block, (ad160.add ((x5_1).toNat * 9)).off + 7, none⟩ = some (.int .i64 ((rd_T32 l0 x5_1).f6)) ∧ w'.cell? ⟨(ad160.add ((x5_1).toNat * 9)).block, (ad160.add ((x5_1).toNat * 9)).off + 8, none⟩ = some (.int .i64 ((rd_T32 l0 x5_1).f7)) ∧ w'.cell? (ad161.add ((x5_1).toNat * 9)) = some (.int .i64 ((rd_T32 l1 x5_1).f0.f0)) ∧ w'.cell? ⟨(ad161.add ((x5_1).toNat * 9)).block, (ad161.add ((x5_1).toNat * 9)).off + 1, none⟩ = some (.string ((rd_T32 l1 x5_1).f0.f1)) ∧ w'.cell? ⟨(ad161.add ((x5_1).toNat * 9)).block, (ad161.add ((x5_1).toNat * 9)).off + 2, none⟩ = some (.bool ((rd_T32 l1 x5_1).f1)) ∧ w'.cell? ⟨(ad161.add ((x5_1).toNat * 9)).block, (ad161.add ((x5_1).toNat * 9)).off + 3, none⟩ = some (.string ((rd_T32 l1 x5_1).f2)) ∧ w'.cell? ⟨(ad161.add ((x5_1).toNat * 9)).block, (ad161.add ((x5_1).toNat * 9)).off + 4, none⟩ = some (.slice A161_4 ((rd_T32 l1 x5_1).f3).length c161_4) ∧ w'.cell? ⟨(ad161.add ((x5_1).toNat * 9)).block, (ad161.add ((x5_1).toNat * 9)).off + 5, none⟩ = some (.int .i64 ((rd_T32 l1 x5_1).f4)) ∧ w'.cell? ⟨(ad161.add ((x5_1).toNat * 9)).block, (ad161.add ((x5_1).toNat * 9)).off + 6, none⟩ = some (.int .i64 ((rd_T32 l1 x5_1).f5)) ∧ w'.cell? ⟨(ad161.add ((x5_1).toNat * 9)).block, (ad161.add ((x5_1).toNat * 9)).off + 7, none⟩ = some (.int .i64 ((rd_T32 l1 x5_1).f6)) ∧ w'.cell? ⟨(ad161.add ((x5_1).toNat * 9)).block, (ad161.add ((x5_1).toNat * 9)).off + 8, none⟩ = some (.int .i64 ((rd_T32 l1 x5_1).f7))) (ds := []) #[false, false, false, false, false, false, false, false, false, false] (by kernel_rfl) rfl rfl ⟨((HB.out.cell (World.block_lt_of_cell? w _ hw160_0)).trans hw160_0), ((HB.out.cell (World.block_lt_of_cell? w _ hw160_1)).trans hw160_1), ((HB.out.cell (World.block_lt_of_cell? w _ hw160_2)).trans hw160_2), ((HB.out.cell (World.block_lt_of_cell? w _ hw160_3)).trans hw160_3), ((HB.out.cell (World.block_lt_of_cell? w _ hw160_4)).trans hw160_4), ((HB.out.cell (World.block_lt_of_cell? w _ hw160_5)).trans hw160_5), ((HB.out.cell (World.block_lt_of_cell? w _ hw160_6)).trans hw160_6), ((HB.out.cell (World.block_lt_of_cell? w _ hw160_7)).trans hw160_7), ((HB.out.cell (World.block_lt_of_cell? w _ hw160_8)).trans hw160_8), ((HB.out.cell (World.block_lt_of_cell? w _ hw161_0)).trans hw161_0), ((HB.out.cell (World.block_lt_of_cell? w _ hw161_1)).trans hw161_1), ((HB.out.cell (World.block_lt_of_cell? w _ hw161_2)).trans hw161_2), ((HB.out.cell (World.block_lt_of_cell? w _ hw161_3)).trans hw161_3), ((HB.out.cell (World.block_lt_of_cell? w _ hw161_4)).trans hw161_4), ((HB.out.cell (World.block_lt_of_cell? w _ hw161_5)).trans hw161_5), ((HB.out.cell (World.block_lt_of_cell? w _ hw161_6)).trans hw161_6), ((HB.out.cell (World.block_lt_of_cell? w _ hw161_7)).trans hw161_7), ((HB.out.cell (World.block_lt_of_cell? w _ hw161_8)).trans hw161_8)⟩ (fun hHeld => ?_); refine with_tabW laws_eqSlotS.tab6 laws_eqSlotS.bits6 (fun HT_ HW_ => ?_)
       generalize wr.drew = w9 at HB HR160_4 HR161_4 hx160_0 hx160_1 hx160_2 hx160_3 hx160_4 hx160_5 hx160_6 hx160_7 hx160_8 hx161_0 hx161_1 hx161_2 hx161_3 hx161_4 hx161_5 hx161_6 hx161_7 hx161_8 hHeld ⊢
       refine pureY (i := 0) (N := some 17) (v := ?_) (a' := ?_) #[true, false, false, false, false, false, false, false, false, false] rfl rfl (any_of HT_.out (by kernel_rfl)) ⟨by rfl, ?_⟩ ?_ ?_
       rotate_left
       · intro w'
         go_simp
         with_reducible rfl
       rotate_left
       · simp only [Act.put, sA_, i64_w, i32_w]
         rfl
       refine pureY (i := 1) (N := some 18) (v := ?_) (a' := ?_) #[true, true, false, false, false, false, false, false, false, false] rfl rfl (any_of HT_.out (by kernel_rfl)) ⟨by rfl, ?_⟩ ?_ ?_
       rotate_left
       · intro w'
         go_simp
         with_reducible rfl
       rotate_left
       · simp only [Act.put, sA_, i64_w, i32_w]
         rfl
       refine pureY (i := 2) (N := some 19) (v := ?_) (a' := ?_) #[true, true, true, false, false, false, false, false, false, false] rfl rfl (any_of HT_.out (by kernel_rfl)) ⟨by rfl, ?_⟩ ?_ ?_
       rotate_left
       · intro w'
         go_simp
         with_reducible rfl
       rotate_left
       · simp only [Act.put, sA_, i64_w, i32_w]
         rfl
       refine pureY (i := 4) (N := some 21) (v := ?_) (a' := ?_) #[true, true, true, false, true, false, false, false, false, false] rfl rfl (any_of HT_.out (by kernel_rfl)) ⟨by rfl, ?_⟩ ?_ ?_
       rotate_left
       · intro w'
         go_simp
         with_reducible rfl
       rotate_left
       · simp only [Act.put, sA_, i64_w, i32_w]
         rfl
       refine pureY (i := 5) (N := some 22) (v := ?_) (a' := ?_) #[true, true, true, false, true, true, false, false, false, false] rfl rfl (any_of HT_.out (by kernel_rfl)) ⟨by rfl, ?_⟩ ?_ ?_
       rotate_left
       · intro w'
         go_simp
         with_reducible rfl
       rotate_left
       · simp only [Act.put, sA_, i64_w, i32_w]
         rfl
       refine pureY (i := 6) (N := some 23) (v := ?_) (a' := ?_) #[true, true, true, false, true, true, true, false, false, false] rfl rfl (any_of HT_.out (by kernel_rfl)) ⟨by rfl, ?_⟩ ?_ ?_
       rotate_left
       · intro w'
         go_simp
         with_reducible rfl
       rotate_left
       · simp only [Act.put, sA_, i64_w, i32_w]
         rfl
       refine takeY (i := 3) (N := some 20) (v := ?_) (a' := ?_) #[true, true, true, true, true, true, true, false, false, false] rfl rfl (take_ofW HT_.out HW_.out (by kernel_rfl)) ⟨by rfl, ?_⟩ hHeld ?_ ?_
       rotate_left
       · rintro w' ⟨s0, s1, s2, s3, s4, s5, s6, s7, s8, s9, s10, s11, s12, s13, s14, s15, s16, s17⟩
         go_simp
         with_reducible rfl
       rotate_left
       · simp only [Act.put, sA_, i64_w, i32_w]
         rfl
       refine takeY (i := 7) (N := some 24) (v := ?_) (a' := ?_) #[true, true, true, true, true, true, true, true, false, false] rfl rfl (take_ofW HT_.out HW_.out (by kernel_rfl)) ⟨by rfl, ?_⟩ hHeld ?_ ?_
       rotate_left
       · rintro w' ⟨s0, s1, s2, s3, s4, s5, s6, s7, s8, s9, s10, s11, s12, s13, s14, s15, s16, s17⟩
         go_simp
         with_reducible rfl
       rotate_left
       · simp only [Act.put, sA_, i64_w, i32_w]
         rfl
       refine one_ (i := 8) (N := some 25) #[true, true, true, true, true, true, true, true, true, false] rfl rfl (one_of HT_.out (by kernel_rfl)) (by decide) (fun K hK => ?_)
       refine goes_ Tryd.func19 (by kernel_rfl) rfl #[.agg #[.int .i64 ((rd_T32 l0 x5_1).f0.f0), .string ((rd_T32 l0 x5_1).f0.f1), .bool ((rd_T32 l0 x5_1).f1), .string ((rd_T32 l0 x5_1).f2), .slice A160_4 ((rd_T32 l0 x5_1).f3).length c160_4, .int .i64 ((rd_T32 l0 x5_1).f4), .int .i64 ((rd_T32 l0 x5_1).f5), .int .i64 ((rd_T32 l0 x5_1).f6), .int .i64 ((rd_T32 l0 x5_1).f7)], .agg #[.int .i64 ((rd_T32 l1 x5_1).f0.f0), .string ((rd_T32 l1 x5_1).f0.f1), .bool ((rd_T32 l1 x5_1).f1), .string ((rd_T32 l1 x5_1).f2), .slice A161_4 ((rd_T32 l1 x5_1).f3).length c161_4, .int .i64 ((rd_T32 l1 x5_1).f4), .int .i64 ((rd_T32 l1 x5_1).f5), .int .i64 ((rd_T32 l1 x5_1).f6), .int .i64 ((rd_T32 l1 x5_1).f7)]] (by rfl) rfl rfl (by (try simp only [List.map_toArray, List.map_cons, List.map_nil]); first | done | rfl | (simp only [List.length_drop, List.length_take]; rfl)) ?_
       with_reducible refine (laws_eqSlot.calls k1 ((rd_T32 l0 x5_1).f0.f0) ((rd_T32 l0 x5_1).f0.f1) ((rd_T32 l0 x5_1).f1) ((rd_T32 l0 x5_1).f2) _ _ ((rd_T32 l0 x5_1).f3) ((rd_T32 l0 x5_1).f4) ((rd_T32 l0 x5_1).f5) ((rd_T32 l0 x5_1).f6) ((rd_T32 l0 x5_1).f7) ((rd_T32 l1 x5_1).f0.f0) ((rd_T32 l1 x5_1).f0.f1) ((rd_T32 l1 x5_1).f1) ((rd_T32 l1 x5_1).f2) _ _ ((rd_T32 l1 x5_1).f3) ((rd_T32 l1 x5_1).f4) ((rd_T32 l1 x5_1).f5) ((rd_T32 l1 x5_1).f6) ((rd_T32 l1 x5_1).f7) t162 _ ?side1 ?side2 ?side3 ?side4 A7.out).mono ?_
       (case side1 => repeat (first | exact (Kd.C_below HR160_4.out HB.out) | (with_reducible refine Kd.C_alloc ?_ _) | (with_reducible refine Kd.C_drewN ?_ _) | (with_reducible refine Kd.C_drew ?_)))
       (case side2 => exact HC160_4.out)
       (case side3 => repeat (first | exact (Kd.C_below HR161_4.out HB.out) | (with_reducible refine Kd.C_alloc ?_ _) | (with_reducible refine Kd.C_drewN ?_ _) | (with_reducible refine Kd.C_drew ?_)))
       (case side4 => exact HC161_4.out)
       rintro e w10 ⟨rfl, hb⟩
       refine ⟨_, rfl, ?_⟩
       have hb1_ := fromQ HB.out hb
       have hb0_ := below_step hb1_ hb
       replace HB := kH HB hb0_
       clear hb1_ hb0_
       (try clear hb)
       (try clear hb2)
       (try clear hk)
       (try clear hi)
       refine hK.out _ _ ⟨((HB.out.cell (World.block_lt_of_cell? w _ hw160_0)).trans hw160_0), ((HB.out.cell (World.block_lt_of_cell? w _ hw160_1)).trans hw160_1), ((HB.out.cell (World.block_lt_of_cell? w _ hw160_2)).trans hw160_2), ((HB.out.cell (World.block_lt_of_cell? w _ hw160_3)).trans hw160_3), ((HB.out.cell (World.block_lt_of_cell? w _ hw160_4)).trans hw160_4), ((HB.out.cell (World.block_lt_of_cell? w _ hw160_5)).trans hw160_5), ((HB.out.cell (World.block_lt_of_cell? w _ hw160_6)).trans hw160_6), ((HB.out.cell (World.block_lt_of_cell? w _ hw160_7)).trans hw160_7), ((HB.out.cell (World.block_lt_of_cell? w _ hw160_8)).trans hw160_8), ((HB.out.cell (World.block_lt_of_cell? w _ hw161_0)).trans hw161_0), ((HB.out.cell (World.block_lt_of_cell? w _ hw161_1)).trans hw161_1), ((HB.out.cell (World.block_lt_of_cell? w _ hw161_2)).trans hw161_2), ((HB.out.cell (World.block_lt_of_cell? w _ hw161_3)).trans hw161_3), ((HB.out.cell (World.block_lt_of_cell? w _ hw161_4)).trans hw161_4), ((HB.out.cell (World.block_lt_of_cell? w _ hw161_5)).trans hw161_5), ((HB.out.cell (World.block_lt_of_cell? w _ hw161_6)).trans hw161_6), ((HB.out.cell (World.block_lt_of_cell? w _ hw161_7)).trans hw161_7), ((HB.out.cell (World.block_lt_of_cell? w _ hw161_8)).trans hw161_8)⟩ (fun hHeld => ?_)
       clear hK K
       refine norm_ (a' := ?_) ?_ ?_
       rotate_left
       · show Act.put _ (some 25) _ = _
         simp only [Act.put, sA_, i64_w, i32_w]
         rfl
       refine pureY (i := 9) (N := some 26) (v := ?_) (a' := ?_) #[true, true, true, true, true, true, true, true, true, true] rfl rfl (any_of HT_.out (by kernel_rfl)) ⟨by rfl, ?_⟩ ?_ ?_
       rotate_left
       · intro w'
         go_simp
         with_reducible rfl
       rotate_left
       · simp only [Act.put, sA_, i64_w, i32_w]
         rfl
       refine done_ (done_of HT_.out (by kernel_rfl)) ?_
       go_upto_if 26 with (fail)
       have H := HL8.out
       clear HL8
       by_cases c11 : t162 = true
       ·
        subst c11
        have H1 : (laws_eqSlotS.l0 k1 l0 l1 (wrap64 (x5_1 + 1))) = some r := by rw [if_pos rfl] at H; exact H
        clear H
        have H := H1
        clear H1
        have H' := Aside0.mk H
        clear H
        go_wp2
        go_roundg k1
        case measure => have := HK1.out; omega
        case rel => exact ⟨(wrap64 (x5_1 + 1)), (by first | rfl | (simp; done) | (simp [*]; done)), H', ⟨by have := HK1.out; omega⟩, ⟨by repeat (first | (with_reducible first | exact HB.out | apply below_alloc | apply pw_below_drewN | apply below_drew1) | exact HB.out)⟩⟩
       replace c11 := Bool.eq_false_iff.mpr c11
       subst c11
       have H1 : (some false) = some r := by rw [if_neg (show ¬ (false = true) by decide)] at H; exact H
       clear H
       have H := H1
       clear H1
       obtain rfl := Option.some.inj H
       go_wp2
       go_ret
       exact ⟨by first | rfl | (simp [errW_none, errW_some] <;> rfl) | (simp [*, errW_none, errW_some] <;> rfl), by repeat (first | (with_reducible first | exact HB.out | apply below_alloc | apply pw_below_drewN | apply below_drew1) | exact HB.out)⟩
      rw [if_neg c6] at H
      exact absurd H (by simp)
     rw [if_neg c5] at H
     exact absurd H (by simp)
    rw [if_neg c4] at H
    have c4b0 : decide (x5_1 < (l0.length : Int)) = false := decide_eq_false c4
    clear c4
    obtain rfl := Option.some.inj H
    go_wp2
    go_ret
    exact ⟨by first | rfl | (simp [errW_none, errW_some] <;> rfl) | (simp [*, errW_none, errW_some] <;> rfl), by repeat (first | (with_reducible first | exact HB.out | apply below_alloc | apply pw_below_drewN | apply below_drew1) | exact HB.out)⟩
 rw [if_neg c3] at H
 have c3b0 : ((l0.length : Int) == (l1.length : Int)) = false := beq_eq_false_iff_ne.mpr c3
 have c3b1 : ((l0.length : Int) != (l1.length : Int)) = true := bne_iff_ne.mpr c3
 have c3b2 : (l0.length == l1.length) = false := by first | simpa using c3 | (simp at c3 ⊢; omega)
 obtain rfl := Option.some.inj H
 go_enter Tryd.func62, Tryd.ntmps62
 go_wp2
 go_ret
 exact ⟨by first | rfl | (simp [errW_none, errW_some] <;> rfl) | (simp [*, errW_none, errW_some] <;> rfl), by repeat (first | (with_reducible first | exact HB.out | apply below_alloc | apply pw_below_drewN | apply below_drew1) | exact HB.out)⟩
def laws_eqTable.f (k : Nat) (l0_0 : List (S32)) (l1_0 : List (S32)) : Option (Bool) := (laws_eqSlotS.f k l0_0 l1_0).bind fun t165 => (if t165 = true then (some true) else (some false))
set_option maxHeartbeats 8000000 in
set_option maxRecDepth 100000 in
theorem laws_eqTable.calls (k : Nat) (A0_0 : Option Addr) (c0_0 : Nat) (l0_0 : List (S32)) (A1_0 : Option Addr) (c1_0 : Nat) (l1_0 : List (S32)) (r : Bool) (w : World) (hr0_0 : Kd.C k32 w A0_0 l0_0.length l0_0) (hc0_0 : l0_0.length ≤ c0_0) (hr1_0 : Kd.C k32 w A1_0 l1_0.length l1_0) (hc1_0 : l1_0.length ≤ c1_0) (h : laws_eqTable.f k l0_0 l1_0 = some r) :
 Calls Tryd.prog 20 #[.agg #[.slice A0_0 l0_0.length c0_0], .agg #[.slice A1_0 l1_0.length c1_0]] w fun e w' => e = .returned (.bool r) ∧ Below w.heap.size w w' := by
 have hu36 := Tryd.underlying36
 have HR0_0 := Aside0.mk hr0_0
 have HC0_0 := Aside0.mk hc0_0
 clear hr0_0 hc0_0
 have HR1_0 := Aside0.mk hr1_0
 have HC1_0 := Aside0.mk hc1_0
 clear hr1_0 hc1_0
 have HB := Aside0.mk (Below.refl w.heap.size w)
 have H : ((laws_eqSlotS.f k l0_0 l1_0).bind fun t165 => (if t165 = true then (some true) else (some false))) = some r := h
 clear h
 replace H := Option.bind_eq_some_iff.mp H
 obtain ⟨t165, A30, H⟩ := H
 replace H : (if t165 = true then (some true) else (some false)) = some r := H
 have A3 := Aside0.mk A30
 clear A30
 have HL4 := Aside0.mk H
 clear H
 go_enter Tryd.func20, Tryd.ntmps20
 go_upto_if 10 with (first | ((with_reducible refine gate_dst (N := 2) rfl ?_); refine box_event ?hg (N := 2) ?hd (cs := #[.slice A0_0 l0_0.length c0_0]) (t := 36) ?hr ?_; (case hd => rfl); (case hg => rfl); (case hr => first | (go_simp; done) | (go_simp; rfl)); intro gb163 hg w5 hbox hb; have hb1_ := fromQ HB.out hb; have hb0_ := below_step hb1_ hb; have hW_ := below_step HB.out hb1_; have n1_ := Aside0.mk (hbox); have n2_ := szle hg hW_; have n3_ := szle hg hW_; replace HB := kH HB hb0_; have BK163 := n1_; have GW163 := n2_; have GE163 := n3_; clear hb1_ hb0_ hW_ n1_ n2_ n3_; clear hb hbox hg) | ((with_reducible refine gate_dst (N := 3) rfl ?_); refine box_event ?hg (N := 3) ?hd (cs := #[.slice A1_0 l1_0.length c1_0]) (t := 36) ?hr ?_; (case hd => rfl); (case hg => rfl); (case hr => first | (go_simp; done) | (go_simp; rfl)); intro gb164 hg w6 hbox hb; have hb1_ := fromQ HB.out hb; have hb0_ := below_step hb1_ hb; have hW_ := below_step HB.out hb1_; have n2_ := Aside0.mk (hbox); have n3_ := szle hg hW_; have n4_ := szle hg hW_; have n5_ := nelt hg BK163 hb1_; have n6_ := negt hg BK163 hb1_; replace BK163 := kB BK163 hb0_; replace HB := kH HB hb0_; have BK164 := n2_; have GW164 := n3_; have GE164 := n4_; have NB163_164 := n5_; have NB164_163 := n6_; clear hb1_ hb0_ hW_ n2_ n3_ n4_ n5_ n6_; clear hb hbox hg; have hnb7 := NB163_164.out; have hnc7 := NB164_163.out; obtain ⟨hcz8_0, hfz8_0⟩ := bkA1 BK163.out; obtain ⟨hcz9_0, hfz9_0⟩ := bkA1 BK164.out) | ((with_reducible refine gate_callee (f := 62) rfl ?_); refine goesL_ (some 9) rfl rfl Tryd.func62 (by kernel_rfl) rfl #[.slice A0_0 l0_0.length c0_0, .slice A1_0 l1_0.length c1_0] rfl (by (try simp only [List.map_toArray, List.map_cons, List.map_nil]); first | done | rfl | (simp only [List.length_drop, List.length_take]; rfl)) ?_; (with_reducible refine (laws_eqSlotS.calls k _ _ l0_0 _ _ l1_0 t165 _ ?side1 ?side2 ?side3 ?side4 A3.out).mono ?_); (case side1 => repeat (first | exact (Kd.C_below HR0_0.out HB.out) | (with_reducible refine Kd.C_alloc ?_ _) | (with_reducible refine Kd.C_drewN ?_ _) | (with_reducible refine Kd.C_drew ?_))); (case side2 => exact HC0_0.out); (case side3 => repeat (first | exact (Kd.C_below HR1_0.out HB.out) | (with_reducible refine Kd.C_alloc ?_ _) | (with_reducible refine Kd.C_drewN ?_ _) | (with_reducible refine Kd.C_drew ?_))); (case side4 => exact HC1_0.out); rintro e w10 ⟨rfl, hb⟩; refine ⟨_, rfl, ?_⟩; have hb1_ := fromQ HB.out hb; have hb0_ := below_step hb1_ hb; replace BK163 := kB BK163 hb0_; replace BK164 := kB BK164 hb0_; replace HB := kH HB hb0_; clear hb1_ hb0_; (try clear hb); (try clear hb2); (try clear hk); (try clear hi)))
 have H := HL4.out
 clear HL4
 by_cases c11 : t165 = true
 ·
  subst c11
  have H1 : (some true) = some r := by rw [if_pos rfl] at H; exact H
  clear H
  have H := H1
  clear H1
  obtain rfl := Option.some.inj H
  go_wp2
  go_ret
  exact ⟨by first | rfl | (simp [errW_none, errW_some] <;> rfl) | (simp [*, errW_none, errW_some] <;> rfl), by repeat (first | (with_reducible first | exact HB.out | apply below_alloc | apply pw_below_drewN | apply below_drew1 | refine below_set ?_ GE163.out | refine below_set ?_ GE164.out) | exact HB.out)⟩
 replace c11 := Bool.eq_false_iff.mpr c11
 subst c11
 have H1 : (some false) = some r := by rw [if_neg (show ¬ (false = true) by decide)] at H; exact H
 clear H
 have H := H1
 clear H1
 obtain rfl := Option.some.inj H
 go_wp2
 go_ret
 exact ⟨by first | rfl | (simp [errW_none, errW_some] <;> rfl) | (simp [*, errW_none, errW_some] <;> rfl), by repeat (first | (with_reducible first | exact HB.out | apply below_alloc | apply pw_below_drewN | apply below_drew1 | refine below_set ?_ GE163.out | refine below_set ?_ GE164.out) | exact HB.out)⟩
def laws_markText.l0 : Nat → Int → ByteArray → Option (ByteArray)
 | 0, _, _ => none
 | k + 1, x0, x3 => if x0 > 0 then ((some (([(wrap64 (48 + (Int.tmod x0 10))) % 256] : List Int) : List Int)).bind fun y166 => (if (strOfNums y166).size + x3.size ≤ 9223372036854775807 then (laws_markText.l0 k (wrap64 (Int.tdiv x0 10)) ((strOfNums y166) ++ x3)) else (none))) else (if 1 + x3.size ≤ 9223372036854775807 then (some ((⟨#[109]⟩ : ByteArray) ++ x3)) else (none))
def laws_markText.f (k : Nat) (a0 : Int) : Option (ByteArray) := if a0 ≤ 0 then (some (⟨#[109, 48]⟩ : ByteArray)) else (laws_markText.l0 k a0 (⟨#[]⟩ : ByteArray))
set_option maxHeartbeats 8000000 in
set_option maxRecDepth 100000 in
theorem laws_markText.calls (k : Nat) (a0 : Int) (r : ByteArray) (w : World) (h : laws_markText.f k a0 = some r) :
 Calls Tryd.prog 90 #[.int .i64 a0] w fun e w' => e = .returned (.string r) ∧ Below w.heap.size w w' := by
 have HB := Aside0.mk (Below.refl w.heap.size w)
 have H : (if a0 ≤ 0 then (some (⟨#[109, 48]⟩ : ByteArray)) else (laws_markText.l0 k a0 (⟨#[]⟩ : ByteArray))) = some r := h
 clear h
 by_cases c2 : a0 ≤ 0
 ·
  rw [if_pos c2] at H
  have c2b0 : decide (a0 ≤ 0) = true := decide_eq_true c2
  clear c2
  obtain rfl := Option.some.inj H
  go_enter Tryd.func90, Tryd.ntmps90
  go_wp2
  go_ret
  exact ⟨by first | rfl | (simp [errW_none, errW_some] <;> rfl) | (simp [*, errW_none, errW_some] <;> rfl), by repeat (first | (with_reducible first | exact HB.out | apply below_alloc | apply pw_below_drewN | apply below_drew1) | exact HB.out)⟩
 rw [if_neg c2] at H
 have c2b0 : decide (a0 ≤ 0) = false := decide_eq_false c2
 clear c2
 have H' := Aside0.mk H
 clear H
 go_enter Tryd.func90, Tryd.ntmps90
 go_wp2
 go_loopg [0, 3] k (fun kq v0 v3 w' => ∃ (x0_1 : Int) (x3_1 : ByteArray), v0 = .int .i64 x0_1 ∧ v3 = .string x3_1 ∧ Aside0 (laws_markText.l0 kq x0_1 x3_1 = some r) ∧ Aside0 (kq ≤ k) ∧ Aside0 (Below w.heap.size w w'))
 case atStart => exact ⟨(a0), ((⟨#[]⟩ : ByteArray)), (by first | rfl | (simp; done) | (simp [*]; done)), (by first | rfl | (simp; done) | (simp [*]; done)), H', ⟨Nat.le_refl _⟩, ⟨by repeat (first | (with_reducible first | exact HB.out | apply below_alloc | apply pw_below_drewN | apply below_drew1) | exact HB.out)⟩⟩
 case round =>
  clear H'
  try clear c2
  try clear c2b0
  try clear p2
  obtain ⟨x0_1, x3_1, rfl, rfl, HA, HK1, HB⟩ := hrel
  cases gk with
  | zero => exact absurd HA.out (by simp [laws_markText.l0])
  | succ k1 =>
   have H := HA.out
   clear HA
   simp only [laws_markText.l0] at H
   by_cases c3 : x0_1 > 0
   ·
    rw [if_pos c3] at H
    have c3b0 : decide (0 < x0_1) = true := decide_eq_true c3
    clear c3
    obtain ⟨y166, hy166⟩ : ∃ y_ : List Int, y_ = (([(wrap64 (48 + (Int.tmod x0_1 10))) % 256] : List Int)) := ⟨_, rfl⟩
    replace H : (if (strOfNums y166).size + x3_1.size ≤ 9223372036854775807 then (laws_markText.l0 k1 (wrap64 (Int.tdiv x0_1 10)) ((strOfNums y166) ++ x3_1)) else (none)) = some r := by first | (rw [hy166]; with_reducible exact H) | (have H2_ := (Option.bind_some _ _).symm.trans H; rw [hy166]; with_reducible exact H2_) | (have H2_ := (Option.bind_some _ _).symm.trans H; with_reducible exact H2_) | with_reducible exact H | (rw [hy166]; exact H) | exact H
    have Ny166 := Aside0.mk hy166
    clear hy166
    by_cases c4 : (strOfNums y166).size + x3_1.size ≤ 9223372036854775807
    ·
     rw [if_pos c4] at H
     have c4b0 := eq_true c4
     have c4b1 : decide ((strOfNums y166).size + x3_1.size ≤ 9223372036854775807) = true := decide_eq_true c4
     try have c4b2 : (9223372036854775807 < (strOfNums y166).size + x3_1.size) = False := eq_false (Nat.not_lt.2 c4)
     have H' := Aside0.mk H
     clear H
     go_wp2_with (first | ((with_reducible refine gate_dst (N := 12) rfl ?_); refine Kd.R_lit (Kd.int .u8) _ 5 ?hg (N := 12) ?hd (xs := ([(wrap64 (48 + (Int.tmod x0_1 10))) % 256] : List Int)) (inner := [.int .u8 ((wrap64 (48 + (Int.tmod x0_1 10))) % 256)]) (ok := fun _ => True) (okp := fun _ => True) ?hr ?hp (fun _ hk => hk) trivial (Below.refl _ _) (Nat.le_refl _) (by simp) ?_; (case hd => rfl); (case hg => rfl); (case hr => first | (go_simp; done) | (go_simp; rfl)); (case hp => exact (Reps.one (show Kd.M (Kd.int .u8) _ _ _ ((wrap64 (48 + (Int.tmod x0_1 10))) % 256) [.int .u8 ((wrap64 (48 + (Int.tmod x0_1 10))) % 256)] from rfl) (Reps.none _ _))); intro v167 w5 ho6 hb hg_ hnew_; clear hg_ hnew_; (first | rw [← Ny166.out] at ho6 | (simp only [Int.reduceToNat] at ho6; rw [← Ny166.out] at ho6)); have hb1_ := fromQ HB.out hb; have hb0_ := below_step hb1_ hb; have hW_ := below_step HB.out hb1_; have n0_ := Aside0.mk (Kd.R_lower ho6 (below_size hW_)); replace HB := kH HB hb0_; have HO168 := n0_; clear hb1_ hb0_ hW_ n0_; clear hb ho6; have hcv7 := own_string (P := Tryd.prog) Tryd.underlying65 Tryd.underlying5 Tryd.underlying9 (Kd.own_of_R HO168.out)))
     go_roundg k1
     case measure => have := HK1.out; omega
     case rel => exact ⟨(wrap64 (Int.tdiv x0_1 10)), ((strOfNums y166) ++ x3_1), (by first | rfl | (simp; done) | (simp [*]; done)), (by first | rfl | (simp; done) | (simp [*]; done)), H', ⟨by have := HK1.out; omega⟩, ⟨by repeat (first | (with_reducible first | exact HB.out | apply below_alloc | apply pw_below_drewN | apply below_drew1) | exact HB.out)⟩⟩
    rw [if_neg c4] at H
    exact absurd H (by simp)
   rw [if_neg c3] at H
   have c3b0 : decide (0 < x0_1) = false := decide_eq_false c3
   clear c3
   by_cases c8 : 1 + x3_1.size ≤ 9223372036854775807
   ·
    rw [if_pos c8] at H
    have c8b0 := eq_true c8
    have c8b1 : decide (1 + x3_1.size ≤ 9223372036854775807) = true := decide_eq_true c8
    try have c8b2 : (9223372036854775807 < 1 + x3_1.size) = False := eq_false (Nat.not_lt.2 c8)
    obtain rfl := Option.some.inj H
    go_wp2
    go_ret
    exact ⟨by first | rfl | (simp [errW_none, errW_some] <;> rfl) | (simp [*, errW_none, errW_some] <;> rfl), by repeat (first | (with_reducible first | exact HB.out | apply below_alloc | apply pw_below_drewN | apply below_drew1) | exact HB.out)⟩
   rw [if_neg c8] at H
   exact absurd H (by simp)
def laws_markKeyS.l0 : Nat → List (S29) → Int → Int → Option (Int × (List (S29)))
 | 0, _, _, _ => none
 | k + 1, x0, x1, x5 => if x5 < (x0.length : Int) then (if 0 ≤ x5 then ((some (x0.set (x5 : Int).toNat (⟨x1, (rd_T29 x0 x5).f1⟩ : S29) : List (S29))).bind fun y169 => ((laws_markText.f k (wrap64 (x1 + 1))).bind fun t170 => (laws_markKeyS.l0 k (y169.set (x5 : Int).toNat (⟨(rd_T29 y169 x5).f0, t170⟩ : S29)) (wrap64 ((wrap64 (x1 + 1)) + 1)) (wrap64 (x5 + 1))))) else (none)) else (some (x1, x0))
def laws_markKeyS.f (k : Nat) (l0 : List (S29)) (a1 : Int) : Option (Int × (List (S29))) := laws_markKeyS.l0 k l0 a1 0
set_option maxHeartbeats 8000000 in
set_option maxRecDepth 100000 in
theorem laws_markKeyS.calls (k : Nat) (P0_ : Nat → Prop) (u9000_ : Value) (l0 : List (S29)) (a1 : Int) (r1 : Int) (r2 : List (S29)) (w0 w : World) (hB : Below w0.heap.size w0 w) (ho0 : Kd.R k29 29 w w0.heap.size P0_ u9000_ l0) (h : laws_markKeyS.f k l0 a1 = some (r1, r2)) :
 Calls Tryd.prog 39 #[u9000_, .int .i64 a1] w fun e w' => e = .returned (.int .i64 r1) ∧ Kd.R k29 29 w' w0.heap.size (fun k_ => (P0_ k_ ∨ w.heap.size ≤ k_)) u9000_ r2 ∧ Below w0.heap.size w0 w' ∧ Kept w w' (fun k_ => P0_ k_) := by
 have HO0 := Aside0.mk (show Kd.R k29 29 w w0.heap.size (fun k_ => (P0_ k_ ∨ w.heap.size ≤ k_)) u9000_ l0 from Kd.R_mono ho0 (fun k_ hk => (.inl hk)))
 have HK := Aside0.mk (Kept.refl w (fun k_ => P0_ k_))
 have HW0 := Aside0.mk hB.size
 have HB := Aside0.mk hB
 clear hB
 have H : (laws_markKeyS.l0 k l0 a1 0) = some (r1, r2) := h
 clear h
 have H' := Aside0.mk H
 clear H
 go_enter Tryd.func39, Tryd.ntmps39
 go_wp2
 go_loopg [1, 5] k (fun kq v1 v5 w' => ∃ (x0_1 : List (S29)) (x1_1 : Int) (x5_1 : Int), v1 = .int .i64 x1_1 ∧ v5 = .int .i64 x5_1 ∧ Aside0 (laws_markKeyS.l0 kq x0_1 x1_1 x5_1 = some (r1, r2)) ∧ Aside0 (kq ≤ k) ∧ Aside0 (Kd.R k29 29 w' w0.heap.size (fun k_ => (P0_ k_ ∨ w.heap.size ≤ k_)) u9000_ x0_1) ∧ Aside0 (Kept w w' (fun k_ => P0_ k_)) ∧ Aside0 (Below w0.heap.size w0 w'))
 case atStart => exact ⟨(l0), (a1), (0), (by first | rfl | (simp; done) | (simp [*]; done)), (by first | rfl | (simp; done) | (simp [*]; done)), H', ⟨Nat.le_refl _⟩, ⟨by (with_reducible repeat (first | apply Kd.R_alloc | apply Kd.R_drewN | apply Kd.R_drew)); exact HO0.out⟩, ⟨by repeat (first | (with_reducible first | exact HK.out | apply Kept.alloc | apply Kept.drewN | apply Kept.drew) | exact HK.out)⟩, ⟨by repeat (first | (with_reducible first | exact HB.out | apply below_alloc | apply pw_below_drewN | apply below_drew1) | exact HB.out)⟩⟩
 case round =>
  clear H'
  try clear p2
  obtain ⟨x0_1, x1_1, x5_1, rfl, rfl, HA, HK1, HO_0, HK, HB⟩ := hrel
  cases gk with
  | zero => exact absurd HA.out (by simp [laws_markKeyS.l0])
  | succ k1 =>
   have H := HA.out
   clear HA
   simp only [laws_markKeyS.l0] at H
   have HL3 := Aside0.mk H
   clear H
   obtain ⟨Ao4, co4, eo4⟩ := Kd.R_slice HO_0.out
   subst eo4
   go_upto_if 9 with (fail)
   have H := HL3.out
   clear HL3
   by_cases c5 : x5_1 < (x0_1.length : Int)
   ·
    rw [if_pos c5] at H
    have c5b0 : decide (x5_1 < (x0_1.length : Int)) = true := decide_eq_true c5
    clear c5
    (first | rw [c5b0] | (simp only [i64_w, i32_w]; rw [c5b0]) | simp only [c5b2, Bool.not_false, Bool.not_true] | skip)
    by_cases c6 : 0 ≤ x5_1
    ·
     rw [if_pos c6] at H
     have c6b0 : decide (0 ≤ x5_1) = true := decide_eq_true c6
     clear c6
     obtain ⟨y169, hy169⟩ : ∃ y_ : List (S29), y_ = (x0_1.set (x5_1 : Int).toNat (⟨x1_1, (rd_T29 x0_1 x5_1).f1⟩ : S29)) := ⟨_, rfl⟩
     replace H : ((laws_markText.f k1 (wrap64 (x1_1 + 1))).bind fun t170 => (laws_markKeyS.l0 k1 (y169.set (x5_1 : Int).toNat (⟨(rd_T29 y169 x5_1).f0, t170⟩ : S29)) (wrap64 ((wrap64 (x1_1 + 1)) + 1)) (wrap64 (x5_1 + 1)))) = some (r1, r2) := by first | (rw [hy169]; with_reducible exact H) | (have H2_ := (Option.bind_some _ _).symm.trans H; rw [hy169]; with_reducible exact H2_) | (have H2_ := (Option.bind_some _ _).symm.trans H; with_reducible exact H2_) | with_reducible exact H | (rw [hy169]; exact H) | exact H
     have Ny169 := Aside0.mk hy169
     clear hy169
     replace H := Option.bind_eq_some_iff.mp H
     obtain ⟨t170, A80, H⟩ := H
     replace H : (laws_markKeyS.l0 k1 (y169.set (x5_1 : Int).toNat (⟨(rd_T29 y169 x5_1).f0, t170⟩ : S29)) (wrap64 ((wrap64 (x1_1 + 1)) + 1)) (wrap64 (x5_1 + 1))) = some (r1, r2) := H
     have A8 := Aside0.mk A80
     clear A80
     obtain ⟨y171, hy171⟩ : ∃ y_ : List (S29), y_ = (y169.set (x5_1 : Int).toNat (⟨(rd_T29 y169 x5_1).f0, t170⟩ : S29)) := ⟨_, rfl⟩
     replace H : (laws_markKeyS.l0 k1 y171 (wrap64 ((wrap64 (x1_1 + 1)) + 1)) (wrap64 (x5_1 + 1))) = some (r1, r2) := by first | (rw [hy171]; with_reducible exact H) | (have H2_ := (Option.bind_some _ _).symm.trans H; rw [hy171]; with_reducible exact H2_) | (have H2_ := (Option.bind_some _ _).symm.trans H; with_reducible exact H2_) | with_reducible exact H | (rw [hy171]; exact H) | exact H
     have Ny171 := Aside0.mk hy171
     clear hy171
     have H' := Aside0.mk H
     clear H
     have p7 : 0 ≤ (x5_1 : Int) := of_decide_eq_true (by first | (with_reducible assumption) | assumption)
     have q7 : (x5_1 : Int) < ((x0_1.length : Int) : Int) := of_decide_eq_true (by first | (with_reducible assumption) | assumption)
     obtain ⟨go7, co7, eo7, gb7, gl7, cl7, HG7⟩ := Kd.R_form HO_0.out (by omega)
     (first | cases eo7 | (injection eo7 with ea_ en_ ec_; (first | subst ea_ | (injection ea_ with ea_; subst ea_)); subst ec_; clear en_))
     have GB7 := Aside0.mk gb7
     have GG7 := Aside0.mk HG7
     clear gb7 gl7 HG7
     have HMgo7 := Aside0.mk (show (P0_ go7 ∨ w.heap.size ≤ go7) from (HO_0.out.1 _ rfl))
     obtain ⟨ce7, hcl7, hM7, hcc7, hfr7⟩ := Kd.R_elem HO_0.out z29 (x5_1 : Int) p7 q7
     obtain rfl := k29_openM hM7
     have hx7_0 : wr.cell? ⟨go7, (x5_1 : Int).toNat * 2, none⟩ = some (.int .i64 ((rd_T29 x0_1 x5_1).f0)) := hcc7 0 _ rfl
     have hx7_1 : wr.cell? ⟨go7, (x5_1 : Int).toNat * 2 + 1, none⟩ = some (.string ((rd_T29 x0_1 x5_1).f1)) := hcc7 1 _ rfl
     have hf7_0 : wr.frozen? ⟨go7, (x5_1 : Int).toNat * 2, none⟩ = false := hfr7 0
     have hf7_1 : wr.frozen? ⟨go7, (x5_1 : Int).toNat * 2 + 1, none⟩ = false := hfr7 1
     clear hcl7 hcc7 hfr7 hM7
     replace p7 := eq_true p7
     replace q7 := eq_true q7
     have HX10 := Aside0.mk (show Kd.R k29 29 wr w0.heap.size (fun k_ => (P0_ k_ ∨ w.heap.size ≤ k_)) (.slice (some ⟨go7, 0, none⟩) x0_1.length co4) x0_1 from (by (with_reducible repeat (first | apply Kd.R_alloc | apply Kd.R_drewN | apply Kd.R_drew)); exact HO_0.out))
     obtain ⟨ce10, hcl10, hM10, hcc10, hfr10⟩ := Kd.R_elem HX10.out z29 (x5_1 : Int) (of_decide_eq_true (by first | (with_reducible assumption) | assumption)) (by have h_ : (x5_1 : Int) < ((x0_1.length : Int) : Int) := of_decide_eq_true (by first | (with_reducible assumption) | assumption); first | exact h_ | (have e_ := (Kd.R_reads' HO_0.out).1; omega) | simpa using h_)
     obtain rfl := k29_openM hM10
     have HP10 := Kd.R_seg HX10.out (x5_1 : Int) (of_decide_eq_true (by first | (with_reducible assumption) | assumption)) (by have h_ : (x5_1 : Int) < ((x0_1.length : Int) : Int) := of_decide_eq_true (by first | (with_reducible assumption) | assumption); first | exact h_ | (have e_ := (Kd.R_reads' HO_0.out).1; omega) | simpa using h_) (seg := [.int .i64 x1_1]) (j := 0) hcl10 hcc10 (show 1 ≤ 2 from by decide) (x' := (⟨x1_1, (rd_T29 x0_1 x5_1).f1⟩ : S29)) (k29_mkM _ _ _ (⟨x1_1, (rd_T29 x0_1 x5_1).f1⟩ : S29) ) (fun _ hk => hk)
     have hx10_0 := hcc10 0 _ rfl
     (try simp only [show (k29).sz = 2 from rfl, Nat.mul_one, Nat.add_zero] at hx10_0)
     have hf10_0 := hfr10 0
     (try simp only [show (k29).sz = 2 from rfl, Nat.mul_one, Nat.add_zero] at hf10_0)
     clear hcl10 hcc10 hfr10 hM10
     go_wp2_with (first | ((with_reducible refine gate_store (t := 3) (p := 16) rfl ?_); refine store_event (t := 3) (p := 16) (v := ?vo_w11) (w1 := (wr.setCell ⟨go7, (x5_1 : Int).toNat * 2, none⟩ (.int .i64 x1_1))) ?hg ?ho ?hn ?hr ?_; (case ho => rfl); (case hg => rfl); (case hn => rfl); (case hr => first | (go_simp; done) | (go_simp; rfl)); intro w11 hw; have hg : wr.grownBy w11 (some go7) := (by rw [hw]; exact HP10.2); have hp_ : Kd.R k29 29 w11 w0.heap.size (fun k_ => (P0_ k_ ∨ w.heap.size ≤ k_)) (.slice (some ⟨go7, 0, none⟩) x0_1.length co4) y169 := (by rw [hw, Ny169.out]; exact HP10.1); clear HP10; have n0_ := Aside0.mk (hp_); have n1_ := Aside0.mk ((by rw [hw]; exact below_set (HB.out) GB7.out : Below w0.heap.size w0 w11)); have n2_ := Aside0.mk (Kept.of_grown (S := (fun k_ => P0_ k_)) hg (by repeat (first | (with_reducible first | exact HK.out | apply Kept.alloc | apply Kept.drewN | apply Kept.drew) | exact HK.out)) (fun k_ e_ => (HO_0.out.1 k_ e_))); clear HO_0; clear HB; clear HK; have HO_0 := n0_; have HB := n1_; have HK := n2_; clear n0_ n1_ n2_; clear hg hw hp_) | ((with_reducible refine gate_callee (f := 90) rfl ?_); refine goesL_ (some 22) rfl rfl Tryd.func90 (by kernel_rfl) rfl #[.int .i64 (wrap64 (x1_1 + 1))] rfl (by (try simp only [List.map_toArray, List.map_cons, List.map_nil]); first | done | rfl | (simp only [List.length_drop, List.length_take]; rfl)) ?_; (with_reducible refine (laws_markText.calls k1 (wrap64 (x1_1 + 1)) t170 _ A8.out).mono ?_); rintro e w12 ⟨rfl, hb⟩; refine ⟨_, rfl, ?_⟩; have hb1_ := fromQ HB.out hb; have hb0_ := below_step hb1_ hb; have n1_ := Aside0.mk (Kept.below (S := (fun k_ => P0_ k_)) (by repeat (first | (with_reducible first | exact HK.out | apply Kept.alloc | apply Kept.drewN | apply Kept.drew) | exact HK.out)) hb); replace HO_0 := kR HO_0 hb0_; replace HB := kH HB hb0_; clear HK; have HK := n1_; clear hb1_ hb0_ n1_; (try clear hb); (try clear hb2); (try clear hk); (try clear hi); have p9 : 0 ≤ (x5_1 : Int) := of_decide_eq_true (by first | (with_reducible assumption) | assumption); have q9 : (x5_1 : Int) < ((x0_1.length : Int) : Int) := of_decide_eq_true (by first | (with_reducible assumption) | assumption); obtain ⟨ce9, hcl9, hM9, hcc9, hfr9⟩ := Kd.R_elem HO_0.out z29 (x5_1 : Int) p9 q9; obtain rfl := k29_openM hM9; have hx9_0 : w12.cell? ⟨go7, (x5_1 : Int).toNat * 2, none⟩ = some (.int .i64 ((rd_T29 y169 x5_1).f0)) := hcc9 0 _ rfl; have hx9_1 : w12.cell? ⟨go7, (x5_1 : Int).toNat * 2 + 1, none⟩ = some (.string ((rd_T29 y169 x5_1).f1)) := hcc9 1 _ rfl; have hf9_0 : w12.frozen? ⟨go7, (x5_1 : Int).toNat * 2, none⟩ = false := hfr9 0; have hf9_1 : w12.frozen? ⟨go7, (x5_1 : Int).toNat * 2 + 1, none⟩ = false := hfr9 1; clear hcl9 hcc9 hfr9 hM9; replace p9 := eq_true p9; replace q9 := eq_true q9; have HX13 := Aside0.mk (show Kd.R k29 29 w12 w0.heap.size (fun k_ => (P0_ k_ ∨ w.heap.size ≤ k_)) (.slice (some ⟨go7, 0, none⟩) x0_1.length co4) y169 from (by (with_reducible repeat (first | apply Kd.R_alloc | apply Kd.R_drewN | apply Kd.R_drew)); exact HO_0.out)); obtain ⟨ce13, hcl13, hM13, hcc13, hfr13⟩ := Kd.R_elem HX13.out z29 (x5_1 : Int) (of_decide_eq_true (by first | (with_reducible assumption) | assumption)) (by have h_ : (x5_1 : Int) < ((x0_1.length : Int) : Int) := of_decide_eq_true (by first | (with_reducible assumption) | assumption); first | exact h_ | (have e_ := (Kd.R_reads' HO_0.out).1; omega) | simpa using h_); obtain rfl := k29_openM hM13; have HP13 := Kd.R_seg HX13.out (x5_1 : Int) (of_decide_eq_true (by first | (with_reducible assumption) | assumption)) (by have h_ : (x5_1 : Int) < ((x0_1.length : Int) : Int) := of_decide_eq_true (by first | (with_reducible assumption) | assumption); first | exact h_ | (have e_ := (Kd.R_reads' HO_0.out).1; omega) | simpa using h_) (seg := [.string t170]) (j := 1) hcl13 hcc13 (show 2 ≤ 2 from by decide) (x' := (⟨(rd_T29 y169 x5_1).f0, t170⟩ : S29)) (k29_mkM _ _ _ (⟨(rd_T29 y169 x5_1).f0, t170⟩ : S29) ) (fun _ hk => hk); have hx13_1 := hcc13 1 _ rfl; (try simp only [show (k29).sz = 2 from rfl, Nat.mul_one, Nat.add_zero] at hx13_1); have hf13_1 := hfr13 1; (try simp only [show (k29).sz = 2 from rfl, Nat.mul_one, Nat.add_zero] at hf13_1); clear hcl13 hcc13 hfr13 hM13) | ((with_reducible refine gate_store (t := 9) (p := 24) rfl ?_); refine store_event (t := 9) (p := 24) (v := ?vo_w14) (w1 := (w12.setCell ⟨go7, (x5_1 : Int).toNat * 2 + 1, none⟩ (.string t170))) ?hg ?ho ?hn ?hr ?_; (case ho => rfl); (case hg => rfl); (case hn => rfl); (case hr => first | (go_simp; done) | (go_simp; rfl)); intro w14 hw; have hg : w12.grownBy w14 (some go7) := (by rw [hw]; exact HP13.2); have hp_ : Kd.R k29 29 w14 w0.heap.size (fun k_ => (P0_ k_ ∨ w.heap.size ≤ k_)) (.slice (some ⟨go7, 0, none⟩) x0_1.length co4) y171 := (by rw [hw, Ny171.out]; exact HP13.1); clear HP13; have n0_ := Aside0.mk (hp_); have n1_ := Aside0.mk ((by rw [hw]; exact below_set (HB.out) GB7.out : Below w0.heap.size w0 w14)); have n2_ := Aside0.mk (Kept.of_grown (S := (fun k_ => P0_ k_)) hg (by repeat (first | (with_reducible first | exact HK.out | apply Kept.alloc | apply Kept.drewN | apply Kept.drew) | exact HK.out)) (fun k_ e_ => (HO_0.out.1 k_ e_))); clear HO_0; clear HB; clear HK; have HO_0 := n0_; have HB := n1_; have HK := n2_; clear n0_ n1_ n2_; clear hg hw hp_))
     go_roundg k1
     case measure => have := HK1.out; omega
     case rel => exact ⟨(y171), (wrap64 ((wrap64 (x1_1 + 1)) + 1)), (wrap64 (x5_1 + 1)), (by first | rfl | (simp; done) | (simp [*]; done)), (by first | rfl | (simp; done) | (simp [*]; done)), H', ⟨by have := HK1.out; omega⟩, ⟨by (with_reducible repeat (first | apply Kd.R_alloc | apply Kd.R_drewN | apply Kd.R_drew)); exact HO_0.out⟩, ⟨by repeat (first | (with_reducible first | exact HK.out | apply Kept.alloc | apply Kept.drewN | apply Kept.drew) | exact HK.out)⟩, ⟨by repeat (first | (with_reducible first | exact HB.out | apply below_alloc | apply pw_below_drewN | apply below_drew1) | exact HB.out)⟩⟩
    rw [if_neg c6] at H
    exact absurd H (by simp)
   rw [if_neg c5] at H
   have c5b0 : decide (x5_1 < (x0_1.length : Int)) = false := decide_eq_false c5
   clear c5
   (first | rw [c5b0] | (simp only [i64_w, i32_w]; rw [c5b0]) | simp only [c5b2, Bool.not_false, Bool.not_true] | skip)
   simp only [Option.some.injEq, Prod.mk.injEq] at H
   obtain ⟨rfl, rfl⟩ := H
   go_wp2
   go_ret
   exact ⟨by first | rfl | (simp [errW_none, errW_some] <;> rfl) | (simp [*, errW_none, errW_some] <;> rfl), by (with_reducible repeat (first | apply Kd.R_alloc | apply Kd.R_drewN | apply Kd.R_drew)); exact HO_0.out, by repeat (first | (with_reducible first | exact HB.out | apply below_alloc | apply pw_below_drewN | apply below_drew1) | exact HB.out), by repeat (first | (with_reducible first | exact HK.out | apply Kept.alloc | apply Kept.drewN | apply Kept.drew) | exact HK.out)⟩
abbrev SlU := S32
def mX (x : Int) : Int := wrap64 (x + 1)
def mkSl (k : Nat) (s : SlU) (x : Int) : Option (Int × SlU) := (laws_markText.f k (mX x)).bind fun t1 => (laws_markText.f k (mX (mX (mX x)))).bind fun t2 => (laws_markKeyS.f k s.f3 (mX (mX (mX (mX x))))).bind fun p =>
 some (mX (mX (mX (mX p.1))), ⟨⟨x, t1⟩, (Int.tmod (mX (mX x)) 3 == 0), t2, p.2, p.1, mX p.1, mX (mX p.1), mX (mX (mX p.1))⟩)
def laws_markSlotS.l0 : Nat → List SlU → Int → Nat → Option (Int × List SlU)
 | 0, _, _, _ => none
 | k + 1, l, x, i => if i < l.length then (mkSl k (rd_T32 l (i : Int)) x).bind fun p => laws_markSlotS.l0 k (l.set i p.2) p.1 (i + 1) else some (x, l)
def laws_markSlotS.f (k : Nat) (l : List SlU) (x : Int) : Option (Int × List SlU) := if l.length < 4611686018427387904 then laws_markSlotS.l0 k l x 0 else none
set_option maxHeartbeats 64000000 in
set_option maxRecDepth 100000 in
theorem laws_markSlotS.calls (k : Nat) (P : Nat → Prop) (v : Value) (l : List SlU) (a1 r1 : Int) (l' : List SlU) (w0 w : World) (hB : Below w0.heap.size w0 w) (hS : Kd.S k32 32 w w0.heap.size P v l) (h : laws_markSlotS.f k l a1 = some (r1, l')) :
 Calls Tryd.prog 63 #[v, .int .i64 a1] w fun e w' => e = .returned (.int .i64 r1) ∧ Kd.S k32 32 w' w0.heap.size P v l' ∧ Below w0.heap.size w0 w' ∧ Kept w w' P := by
 have hu1 := Tryd.underlying32
 have hu2 := Tryd.underlying29
 have hu3 := Tryd.underlying34
 unfold laws_markSlotS.f at h
 by_cases hl : l.length < 4611686018427387904
 case neg => rw [if_neg hl] at h; cases h
 rw [if_pos hl] at h
 obtain ⟨A, cp, rfl⟩ := Kd.S_slice hS
 have HS := Aside0.mk hS
 have HB := Aside0.mk hB
 have H := Aside0.mk h
 have HL := Aside0.mk hl
 clear hS hB h hl
 go_enter Tryd.func63, Tryd.ntmps63
 go_wp2
 go_loopg [1, 5] k (fun kq v1 v5 w' => ∃ (x : Int) (i : Nat) (lx : List SlU), v1 = .int .i64 x ∧ v5 = .int .i64 i ∧ Aside0 (lx.length = l.length) ∧ Aside0 (laws_markSlotS.l0 kq lx x i = some (r1, l')) ∧ Aside0 (Kd.S k32 32 w' w0.heap.size P (.slice A l.length cp) lx) ∧ Aside0 (Below w0.heap.size w0 w') ∧ Aside0 (Kept w w' P))
 case atStart => exact ⟨a1, 0, l, rfl, rfl, ⟨rfl⟩, H, HS, HB, ⟨Kept.refl _ _⟩⟩
 case round =>
  clear H HS HB
  obtain ⟨x, i, lx, rfl, rfl, HN, HA, HS, HB, HK⟩ := hrel
  cases gk with
  | zero => exact absurd HA.out (by simp [laws_markSlotS.l0])
  | succ k1 =>
   have h := HA.out
   clear HA
   simp only [laws_markSlotS.l0] at h
   by_cases hi : i < lx.length
   case neg =>
    rw [if_neg hi] at h
    simp only [Option.some.injEq, Prod.mk.injEq] at h
    obtain ⟨rfl, rfl⟩ := h
    have ql : decide (i < l.length) = false := decide_eq_false (by rw [← HN.out]; exact hi)
    clear hi
    go_wp2
    go_ret
    exact ⟨rfl, HS.out, HB.out, HK.out⟩
   rw [if_pos hi] at h
   have hil : i < l.length := by rw [← HN.out]; exact hi
   have HW := Aside0.mk (show wrap64 ((i : Int) + 1) = ((i + 1 : Nat) : Int) by have := HL.out; unfold wrap64; omega)
   have p0 : 0 ≤ (i : Int) := by omega
   have q0 : (i : Int) < (l.length : Int) := by omega
   have ql : decide (i < l.length) = true := decide_eq_true hil
   obtain ⟨⟨x', s'⟩, hm, h⟩ := Option.bind_eq_some_iff.mp h
   have H := Aside0.mk h
   clear h
   obtain ⟨g, cap, hv, _⟩ := Kd.S_form HS.out (by omega)
   injection hv with hA hn hcp
   clear hn
   subst hA hcp
   obtain ⟨oki, c, hM, hol⟩ := Hol.start (i := (i : Int)) (wi := w) HS.out z32 p0 q0 HK.out HB.out
   obtain ⟨v4, rfl, hR⟩ := k32_openM hM
   clear hM
   obtain ⟨s, hs⟩ : ∃ s, s = rd_T32 lx (i : Int) := ⟨_, rfl⟩
   rw [← hs] at hm
   change Hol _ _ _ _ _ _ _ _ _ _ _ _ [.int .i64 (rd_T32 lx (i : Int)).f0.f0, .string (rd_T32 lx (i : Int)).f0.f1, .bool (rd_T32 lx (i : Int)).f1, .string (rd_T32 lx (i : Int)).f2, v4, .int .i64 (rd_T32 lx (i : Int)).f4, .int .i64 (rd_T32 lx (i : Int)).f5, .int .i64 (rd_T32 lx (i : Int)).f6, .int .i64 (rd_T32 lx (i : Int)).f7] at hol
   change Kd.R _ _ _ _ _ _ (rd_T32 lx (i : Int)).f3 at hR
   rw [← hs] at hol hR
   clear hs
   obtain ⟨A4, c4, rfl⟩ := Kd.R_slice hR
   unfold mkSl at hm
   obtain ⟨t1, ht1, hm⟩ := Option.bind_eq_some_iff.mp hm
   obtain ⟨t2, ht2, hm⟩ := Option.bind_eq_some_iff.mp hm
   obtain ⟨⟨y, ds⟩, hmk, hm⟩ := Option.bind_eq_some_iff.mp hm
   simp only [Option.some.injEq, Prod.mk.injEq] at hm
   obtain ⟨rfl, rfl⟩ := hm
   have HT1 := Aside0.mk ht1
   have HT2 := Aside0.mk ht2
   have HMK := Aside0.mk hmk
   have H0 := Aside0.mk hol
   have R0 := Aside0.mk hR
   clear ht1 ht2 hmk hol hR HS HB HK
   have hc0 : wr.cell? ⟨g, i * 9, none⟩ = some (.int .i64 s.f0.f0) := H0.out.cell (j := 0) rfl
   have hf0 : wr.frozen? ⟨g, i * 9, none⟩ = false := H0.out.frozen _
   go_wp2_with (go_at_call 90; obtain ⟨W1, hW⟩ : ∃ W_ : World, W_ = wr.setCell ⟨g, i * 9, none⟩ (.int .i64 x) := ⟨_, rfl⟩; rw [← hW]; have H1 := Aside0.mk (show Hol k32 32 w0 w W1 P g l.length cp lx (i : Int) oki [.int .i64 x, .string s.f0.f1, .bool s.f1, .string s.f2, .slice A4 s.f3.length c4, .int .i64 s.f4, .int .i64 s.f5, .int .i64 s.f6, .int .i64 s.f7] by rw [hW]; exact H0.out.put 0 (.int .i64 x) (by decide) rfl rfl); have R1 := Aside0.mk (show Kd.R k29 29 W1 w0.heap.size oki (.slice A4 s.f3.length c4) s.f3 by rw [hW]; exact H0.out.innerSet R0.out _ _); clear hW H0 R0; clear hc0 hf0; refine (laws_markText.calls k1 (wrap64 (x + 1)) t1 _ HT1.out).mono ?_; rintro e W2 ⟨rfl, hb⟩; have H2 := Aside0.mk (H1.out.below hb); have R2 := Aside0.mk (Kd.R_below R1.out hb); clear hb H1 R1; have hc1 : W2.cell? ⟨g, i * 9 + 1, none⟩ = some (.string s.f0.f1) := H2.out.cell (j := 1) rfl; have hc2 : W2.cell? ⟨g, i * 9 + 2, none⟩ = some (.bool s.f1) := H2.out.cell (j := 2) rfl; have hf1 : W2.frozen? ⟨g, i * 9 + 1, none⟩ = false := H2.out.frozen _; have hf2 : W2.frozen? ⟨g, i * 9 + 2, none⟩ = false := H2.out.frozen _; refine Hid.out ?_)
   refine Lib.hid ?_
   go_wp2_with (go_at_call 90; obtain ⟨W3, hW⟩ : ∃ W_ : World, W_ = W2.setCell ⟨g, i * 9 + 1, none⟩ (.string t1) := ⟨_, rfl⟩; rw [← hW]; have H3 := Aside0.mk (show Hol k32 32 w0 w W3 P g l.length cp lx (i : Int) oki [.int .i64 x, .string t1, .bool s.f1, .string s.f2, .slice A4 s.f3.length c4, .int .i64 s.f4, .int .i64 s.f5, .int .i64 s.f6, .int .i64 s.f7] by rw [hW]; exact H2.out.put 1 (.string t1) (by decide) rfl rfl); have R3 := Aside0.mk (show Kd.R k29 29 W3 w0.heap.size oki (.slice A4 s.f3.length c4) s.f3 by rw [hW]; exact H2.out.innerSet R2.out _ _); clear hW H2 R2; obtain ⟨W4, hW⟩ : ∃ W_ : World, W_ = W3.setCell ⟨g, i * 9 + 2, none⟩ (.bool (Int.tmod (wrap64 (wrap64 (x + 1) + 1)) 3 == 0)) := ⟨_, rfl⟩; rw [← hW]; have H4 := Aside0.mk (show Hol k32 32 w0 w W4 P g l.length cp lx (i : Int) oki [.int .i64 x, .string t1, .bool (Int.tmod (wrap64 (wrap64 (x + 1) + 1)) 3 == 0), .string s.f2, .slice A4 s.f3.length c4, .int .i64 s.f4, .int .i64 s.f5, .int .i64 s.f6, .int .i64 s.f7] by rw [hW]; exact H3.out.put 2 (.bool (Int.tmod (wrap64 (wrap64 (x + 1) + 1)) 3 == 0)) (by decide) rfl rfl); have R4 := Aside0.mk (show Kd.R k29 29 W4 w0.heap.size oki (.slice A4 s.f3.length c4) s.f3 by rw [hW]; exact H3.out.innerSet R3.out _ _); clear hW H3 R3; clear hc1 hf1 hc2 hf2; refine (laws_markText.calls k1 (wrap64 (wrap64 (wrap64 (x + 1) + 1) + 1)) t2 _ HT2.out).mono ?_; rintro e W5 ⟨rfl, hb⟩; have H5 := Aside0.mk (H4.out.below hb); have R5 := Aside0.mk (Kd.R_below R4.out hb); clear hb H4 R4; have hc3 : W5.cell? ⟨g, i * 9 + 3, none⟩ = some (.string s.f2) := H5.out.cell (j := 3) rfl; have hc4 : W5.cell? ⟨g, i * 9 + 4, none⟩ = some (.slice A4 s.f3.length c4) := H5.out.cell (j := 4) rfl; have hf3 : W5.frozen? ⟨g, i * 9 + 3, none⟩ = false := H5.out.frozen _; have hf4 : W5.frozen? ⟨g, i * 9 + 4, none⟩ = false := H5.out.frozen _; refine Hid.out ?_)
   refine Lib.hid ?_
   go_wp2_with (go_at_call 39; obtain ⟨W6, hW⟩ : ∃ W_ : World, W_ = W5.setCell ⟨g, i * 9 + 3, none⟩ (.string t2) := ⟨_, rfl⟩; rw [← hW]; have H6 := Aside0.mk (show Hol k32 32 w0 w W6 P g l.length cp lx (i : Int) oki [.int .i64 x, .string t1, .bool (Int.tmod (wrap64 (wrap64 (x + 1) + 1)) 3 == 0), .string t2, .slice A4 s.f3.length c4, .int .i64 s.f4, .int .i64 s.f5, .int .i64 s.f6, .int .i64 s.f7] by rw [hW]; exact H5.out.put 3 (.string t2) (by decide) rfl rfl); have R6 := Aside0.mk (show Kd.R k29 29 W6 w0.heap.size oki (.slice A4 s.f3.length c4) s.f3 by rw [hW]; exact H5.out.innerSet R5.out _ _); clear hW H5 R5; clear hc3 hf3 hc4 hf4; refine (laws_markKeyS.calls k1 (fun k_ => some k_ = (Value.slice A4 s.f3.length c4).ownBlock ∧ oki k_) (.slice A4 s.f3.length c4) s.f3 (wrap64 (wrap64 (wrap64 (wrap64 (x + 1) + 1) + 1) + 1)) y ds w0 _ H6.out.bel (Kd.R_tight2 rfl R6.out) HMK.out).mono ?_; rintro e W7 ⟨rfl, hr, hb, hk⟩; have H7 := Aside0.mk (H6.out.inner hk (fun _ h => h.2) hb); have R7 := Aside0.mk (Kd.R_reok rfl hr (fun k_ e_ => R6.out.1 k_ e_)); clear hr hb hk H6 R6; have hc5 : W7.cell? ⟨g, i * 9 + 5, none⟩ = some (.int .i64 s.f4) := H7.out.cell (j := 5) rfl; have hc6 : W7.cell? ⟨g, i * 9 + 6, none⟩ = some (.int .i64 s.f5) := H7.out.cell (j := 6) rfl; have hc7 : W7.cell? ⟨g, i * 9 + 7, none⟩ = some (.int .i64 s.f6) := H7.out.cell (j := 7) rfl; have hc8 : W7.cell? ⟨g, i * 9 + 8, none⟩ = some (.int .i64 s.f7) := H7.out.cell (j := 8) rfl; have hf5 : W7.frozen? ⟨g, i * 9 + 5, none⟩ = false := H7.out.frozen _; have hf6 : W7.frozen? ⟨g, i * 9 + 6, none⟩ = false := H7.out.frozen _; have hf7 : W7.frozen? ⟨g, i * 9 + 7, none⟩ = false := H7.out.frozen _; have hf8 : W7.frozen? ⟨g, i * 9 + 8, none⟩ = false := H7.out.frozen _; refine Hid.out ?_)
   refine Lib.hid ?_
   go_wp2
   rw [HW.out]
   obtain ⟨W8, hW⟩ : ∃ W_ : World, W_ = W7.setCell ⟨g, i * 9 + 5, none⟩ (.int .i64 (y)) := ⟨_, rfl⟩
   rw [← hW]
   have H8 := Aside0.mk (show Hol k32 32 w0 w W8 P g l.length cp lx (i : Int) oki [.int .i64 x, .string t1, .bool (Int.tmod (wrap64 (wrap64 (x + 1) + 1)) 3 == 0), .string t2, .slice A4 s.f3.length c4, .int .i64 (y), .int .i64 s.f5, .int .i64 s.f6, .int .i64 s.f7] by rw [hW]; exact H7.out.put 5 (.int .i64 (y)) (by decide) rfl rfl)
   have R8 := Aside0.mk (show Kd.R k29 29 W8 w0.heap.size oki (.slice A4 s.f3.length c4) ds by rw [hW]; exact H7.out.innerSet R7.out _ _)
   clear hW H7 R7
   obtain ⟨W9, hW⟩ : ∃ W_ : World, W_ = W8.setCell ⟨g, i * 9 + 6, none⟩ (.int .i64 (wrap64 (y + 1))) := ⟨_, rfl⟩
   rw [← hW]
   have H9 := Aside0.mk (show Hol k32 32 w0 w W9 P g l.length cp lx (i : Int) oki [.int .i64 x, .string t1, .bool (Int.tmod (wrap64 (wrap64 (x + 1) + 1)) 3 == 0), .string t2, .slice A4 s.f3.length c4, .int .i64 (y), .int .i64 (wrap64 (y + 1)), .int .i64 s.f6, .int .i64 s.f7] by rw [hW]; exact H8.out.put 6 (.int .i64 (wrap64 (y + 1))) (by decide) rfl rfl)
   have R9 := Aside0.mk (show Kd.R k29 29 W9 w0.heap.size oki (.slice A4 s.f3.length c4) ds by rw [hW]; exact H8.out.innerSet R8.out _ _)
   clear hW H8 R8
   obtain ⟨W10, hW⟩ : ∃ W_ : World, W_ = W9.setCell ⟨g, i * 9 + 7, none⟩ (.int .i64 (wrap64 (wrap64 (y + 1) + 1))) := ⟨_, rfl⟩
   rw [← hW]
   have H10 := Aside0.mk (show Hol k32 32 w0 w W10 P g l.length cp lx (i : Int) oki [.int .i64 x, .string t1, .bool (Int.tmod (wrap64 (wrap64 (x + 1) + 1)) 3 == 0), .string t2, .slice A4 s.f3.length c4, .int .i64 (y), .int .i64 (wrap64 (y + 1)), .int .i64 (wrap64 (wrap64 (y + 1) + 1)), .int .i64 s.f7] by rw [hW]; exact H9.out.put 7 (.int .i64 (wrap64 (wrap64 (y + 1) + 1))) (by decide) rfl rfl)
   have R10 := Aside0.mk (show Kd.R k29 29 W10 w0.heap.size oki (.slice A4 s.f3.length c4) ds by rw [hW]; exact H9.out.innerSet R9.out _ _)
   clear hW H9 R9
   obtain ⟨W11, hW⟩ : ∃ W_ : World, W_ = W10.setCell ⟨g, i * 9 + 8, none⟩ (.int .i64 (wrap64 (wrap64 (wrap64 (y + 1) + 1) + 1))) := ⟨_, rfl⟩
   rw [← hW]
   have H11 := Aside0.mk (show Hol k32 32 w0 w W11 P g l.length cp lx (i : Int) oki [.int .i64 x, .string t1, .bool (Int.tmod (wrap64 (wrap64 (x + 1) + 1)) 3 == 0), .string t2, .slice A4 s.f3.length c4, .int .i64 (y), .int .i64 (wrap64 (y + 1)), .int .i64 (wrap64 (wrap64 (y + 1) + 1)), .int .i64 (wrap64 (wrap64 (wrap64 (y + 1) + 1) + 1))] by rw [hW]; exact H10.out.put 8 (.int .i64 (wrap64 (wrap64 (wrap64 (y + 1) + 1) + 1))) (by decide) rfl rfl)
   have R11 := Aside0.mk (show Kd.R k29 29 W11 w0.heap.size oki (.slice A4 s.f3.length c4) ds by rw [hW]; exact H10.out.innerSet R10.out _ _)
   clear hW H10 R10
   clear hc5 hf5 hc6 hf6 hc7 hf7 hc8 hf8
   have HS' := Aside0.mk (H11.out.back (k32_mkM W11 w0.heap.size oki (⟨⟨x, t1⟩, (Int.tmod (mX (mX x)) 3 == 0), t2, ds, y, mX y, mX (mX y), mX (mX (mX y))⟩ : SlU) R11.out) (fun _ h => h))
   have HB' := Aside0.mk H11.out.bel
   have HK' := Aside0.mk H11.out.kept
   clear H11 R11
   go_roundg k1
   case measure => omega
   case rel => exact ⟨mX (mX (mX (mX y))), i + 1, _, rfl, rfl, ⟨by rw [List.length_set]; exact HN.out⟩, H, HS', HB', HK'⟩
def laws_markTable.f (k : Nat) (l : List SlU) (x : Int) : Option (Int × List SlU) := laws_markSlotS.f k l x
set_option maxHeartbeats 8000000 in
set_option maxRecDepth 100000 in
theorem laws_markTable.calls (k : Nat) (P : Nat → Prop) (v : Value) (l : List SlU) (a1 r1 : Int) (l' : List SlU) (w0 w : World) (hB : Below w0.heap.size w0 w) (hS : Kd.S k32 32 w w0.heap.size P v l) (h : laws_markTable.f k l a1 = some (r1, l')) :
 Calls Tryd.prog 21 #[.agg #[v], .int .i64 a1] w fun e w' => e = .returned (.int .i64 r1) ∧ Kd.S k32 32 w' w0.heap.size P v l' ∧ Below w0.heap.size w0 w' ∧ Kept w w' P := by
 have hu := Tryd.underlying36
 obtain ⟨A, c, rfl⟩ := Kd.S_slice hS
 have HS := Aside0.mk hS
 have HB := Aside0.mk hB
 have H := Aside0.mk h
 clear hS hB h
 go_enter Tryd.func21, Tryd.ntmps21
 go_wp2_with (go_at_call 63; refine (laws_markSlotS.calls k P _ l a1 r1 l' w0 _ (HB.out.alloc (below_size HB.out) _) (Kd.S_alloc HS.out _) H.out).mono ?_; rintro e w2 ⟨rfl, hs, hb, hk⟩; have HS2 := Aside0.mk hs; have HB2 := Aside0.mk hb; have HK2 := Aside0.mk (Kept.then_ (Kept.of_below (below_alloc (Below.refl _ _) _) P) hk (fun _ h => .inl h)); clear hs hb hk)
 go_ret
 exact ⟨rfl, HS2.out, HB2.out, HK2.out⟩
end Go.Proofs.YtnbohlcibgfjaaaDoor.Gp
end
