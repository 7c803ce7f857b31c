/- A part of the proof of RowFnExactFind: each text's theorems that it needs, packed by shake.py, a program of this work; Lean checks them. -/
import Derived.Test.YtnbohlcibgfjaaaDoorFnd3
import Derived.Test.YtnbohlcibgfjaaaDoorFnd16
import Derived.Test.YtnbohlcibgfjaaaDoorFnd1
section
namespace Go.Proofs.YtnbohlcibgfjaaaDoor.Gp
open Go.RowKit Go.Proofs.YtnbohlcibgfjaaaDoorW.PrintWords Go.Proofs.YtnbohlcibgfjaaaDoorW.PrintLast Go.Proofs.YtnbohlcibgfjaaaDoorW.PrintMore
set_option linter.unusedVariables false
set_option linter.unusedSimpArgs false
def laws_eqSlotS.l0 : Nat → List (S32) → List (S32) → Int → Option (Bool)
  | 0, _, _, _ => none
  | k + 1, x0, x1, x5 => if x5 < (x0.length : Int) then (if 0 ≤ x5 then (if x5 < (x1.length : Int) then ((laws_eqSlot.f k ((rd_T32 x0 x5).f0.f0) ((rd_T32 x0 x5).f0.f1) ((rd_T32 x0 x5).f1) ((rd_T32 x0 x5).f2) ((rd_T32 x0 x5).f3) ((rd_T32 x0 x5).f4) ((rd_T32 x0 x5).f5) ((rd_T32 x0 x5).f6) ((rd_T32 x0 x5).f7) ((rd_T32 x1 x5).f0.f0) ((rd_T32 x1 x5).f0.f1) ((rd_T32 x1 x5).f1) ((rd_T32 x1 x5).f2) ((rd_T32 x1 x5).f3) ((rd_T32 x1 x5).f4) ((rd_T32 x1 x5).f5) ((rd_T32 x1 x5).f6) ((rd_T32 x1 x5).f7)).bind fun t260 => (if t260 = true then (laws_eqSlotS.l0 k x0 x1 (wrap64 (x5 + 1))) else (some false))) else (none)) else (none)) else (some true)
def laws_eqSlotS.f (k : Nat) (l0 : List (S32)) (l1 : List (S32)) : Option (Bool) := if (l0.length : Int) = (l1.length : Int) then (laws_eqSlotS.l0 k l0 l1 0) else (some false)
def laws_eqSlotS.T6 : Bool × List (List Nat × List Nat) := (true, [([], []), ([], []), ([0, 1], [0, 1]), ([2], [2]), ([], []), ([], []), ([4, 5], [4, 5]), ([6], [6]), ([3, 7], [3, 7]), ([8], [8])])
def laws_eqSlotS.B6 : List Nat := [0, 0, 3, 7, 0, 0, 48, 112, 255, 511]
theorem laws_eqSlotS.tab6 : rtab .any (opsOf Tryd.f62 6) = laws_eqSlotS.T6 := by kernel_rfl
theorem laws_eqSlotS.bits6 : waitsOk laws_eqSlotS.T6.2 laws_eqSlotS.B6 = true := by kernel_rfl
set_option maxHeartbeats 8000000 in
set_option maxRecDepth 100000 in
theorem laws_eqSlotS.calls (k : Nat) (A0 : Option Addr) (c0 : Nat) (l0 : List (S32)) (A1 : Option Addr) (c1 : Nat) (l1 : List (S32)) (r : Bool) (w : World) (hr0 : Kd.C k32 w A0 l0.length l0) (hc0 : l0.length ≤ c0) (hr1 : Kd.C k32 w A1 l1.length l1) (hc1 : l1.length ≤ c1) (h : laws_eqSlotS.f k l0 l1 = some r) :
    Calls Tryd.prog 62 #[.slice A0 l0.length c0, .slice A1 l1.length c1] w fun e w' => e = .returned (.bool r) ∧ Below w.heap.size w w' := by
  have hu32 := Tryd.underlying32
  have HR0 := Aside0.mk hr0
  have HC0 := Aside0.mk hc0
  clear hr0 hc0
  have HR1 := Aside0.mk hr1
  have HC1 := Aside0.mk hc1
  clear hr1 hc1
  have HB := Aside0.mk (Below.refl w.heap.size w)
  have H : (if (l0.length : Int) = (l1.length : Int) then (laws_eqSlotS.l0 k l0 l1 0) else (some false)) = some r := h
  clear h
  by_cases c3 : (l0.length : Int) = (l1.length : Int)
  · rw [if_pos c3] at H
    have c3b0 : ((l0.length : Int) == (l1.length : Int)) = true := beq_iff_eq.mpr c3
    have c3b1 : ((l0.length : Int) != (l1.length : Int)) = false := bne_eq_false_iff_eq.mpr c3
    have c3b2 : (l0.length == l1.length) = true := by first | simpa using c3 | (simp at c3 ⊢; omega)
    clear c3
    have H' := Aside0.mk H
    clear H
    go_enter Tryd.func62, Tryd.ntmps62
    go_wp2
    go_loopg [5] k (fun kq v5 w' => ∃ (x5_1 : Int), v5 = .int .i64 x5_1 ∧ Aside0 (laws_eqSlotS.l0 kq l0 l1 x5_1 = some r) ∧ Aside0 (kq ≤ k) ∧ Aside0 (Below w.heap.size w w'))
    case atStart => exact ⟨(0), (by first | rfl | (simp; done) | (simp [*]; done)), H', ⟨Nat.le_refl _⟩, ⟨by repeat (first | (with_reducible first | exact HB.out | apply below_alloc | apply pw_below_drewN | apply below_drew1) | exact HB.out)⟩⟩
    case round =>
      clear H'
      try clear c1
      try clear p2
      try clear c3
      try clear c3b0
      try clear c3b1
      try clear c3b2
      obtain ⟨x5_1, rfl, HA, HK1, HB⟩ := hrel
      cases gk with
      | zero => exact absurd HA.out (by simp [laws_eqSlotS.l0])
      | succ k1 =>
        have H := HA.out
        clear HA
        simp only [laws_eqSlotS.l0] at H
        by_cases c4 : x5_1 < (l0.length : Int)
        · rw [if_pos c4] at H
          have c4b0 : decide (x5_1 < (l0.length : Int)) = true := decide_eq_true c4
          clear c4
          by_cases c5 : 0 ≤ x5_1
          · rw [if_pos c5] at H
            have c5b0 : decide (0 ≤ x5_1) = true := decide_eq_true c5
            clear c5
            by_cases c6 : x5_1 < (l1.length : Int)
            · rw [if_pos c6] at H
              have c6b0 : decide (x5_1 < (l1.length : Int)) = true := decide_eq_true c6
              clear c6
              replace H := Option.bind_eq_some_iff.mp H
              obtain ⟨t260, A70, H⟩ := H
              replace H : (if t260 = true then (laws_eqSlotS.l0 k1 l0 l1 (wrap64 (x5_1 + 1))) else (some false)) = some r := H
              have A7 := Aside0.mk A70
              clear A70
              have HL8 := Aside0.mk H
              clear H
              try go_wp2
              have n0_ := Aside0.mk (below_drew1 HB.out)
              clear HB
              have HB := n0_
              clear n0_
              have p258 : 0 ≤ (x5_1 : Int) := of_decide_eq_true (by first | (with_reducible assumption) | assumption)
              have q258 : x5_1 < (l0.length : Int) := of_decide_eq_true (by first | (with_reducible assumption) | assumption)
              obtain ⟨ad258, A258_4, c258_4, e258, hx258_0, hx258_1, hx258_2, hx258_3, hx258_4, hx258_5, hx258_6, hx258_7, hx258_8, hl258_4, hi258_4⟩ := at_T32 HR0.out x5_1 p258 q258
              have hw258_8 := hx258_8
              have hw258_7 := hx258_7
              have hw258_6 := hx258_6
              have hw258_5 := hx258_5
              have hw258_4 := hx258_4
              have hw258_3 := hx258_3
              have hw258_2 := hx258_2
              have hw258_1 := hx258_1
              have hw258_0 := hx258_0
              cases e258
              replace hx258_0 := (HB.out.cell (World.block_lt_of_cell? w _ hx258_0)).trans hx258_0
              replace hx258_1 := (HB.out.cell (World.block_lt_of_cell? w _ hx258_1)).trans hx258_1
              replace hx258_2 := (HB.out.cell (World.block_lt_of_cell? w _ hx258_2)).trans hx258_2
              replace hx258_3 := (HB.out.cell (World.block_lt_of_cell? w _ hx258_3)).trans hx258_3
              replace hx258_4 := (HB.out.cell (World.block_lt_of_cell? w _ hx258_4)).trans hx258_4
              replace hx258_5 := (HB.out.cell (World.block_lt_of_cell? w _ hx258_5)).trans hx258_5
              replace hx258_6 := (HB.out.cell (World.block_lt_of_cell? w _ hx258_6)).trans hx258_6
              replace hx258_7 := (HB.out.cell (World.block_lt_of_cell? w _ hx258_7)).trans hx258_7
              replace hx258_8 := (HB.out.cell (World.block_lt_of_cell? w _ hx258_8)).trans hx258_8
              have HR258_4 := Aside0.mk hi258_4
              have HC258_4 := Aside0.mk hl258_4
              clear hi258_4 hl258_4
              replace p258 := eq_true p258
              replace q258 := eq_true q258
              have p259 : 0 ≤ (x5_1 : Int) := of_decide_eq_true (by first | (with_reducible assumption) | assumption)
              have q259 : x5_1 < (l1.length : Int) := of_decide_eq_true (by first | (with_reducible assumption) | assumption)
              obtain ⟨ad259, A259_4, c259_4, e259, hx259_0, hx259_1, hx259_2, hx259_3, hx259_4, hx259_5, hx259_6, hx259_7, hx259_8, hl259_4, hi259_4⟩ := at_T32 HR1.out x5_1 p259 q259
              have hw259_8 := hx259_8
              have hw259_7 := hx259_7
              have hw259_6 := hx259_6
              have hw259_5 := hx259_5
              have hw259_4 := hx259_4
              have hw259_3 := hx259_3
              have hw259_2 := hx259_2
              have hw259_1 := hx259_1
              have hw259_0 := hx259_0
              cases e259
              replace hx259_0 := (HB.out.cell (World.block_lt_of_cell? w _ hx259_0)).trans hx259_0
              replace hx259_1 := (HB.out.cell (World.block_lt_of_cell? w _ hx259_1)).trans hx259_1
              replace hx259_2 := (HB.out.cell (World.block_lt_of_cell? w _ hx259_2)).trans hx259_2
              replace hx259_3 := (HB.out.cell (World.block_lt_of_cell? w _ hx259_3)).trans hx259_3
              replace hx259_4 := (HB.out.cell (World.block_lt_of_cell? w _ hx259_4)).trans hx259_4
              replace hx259_5 := (HB.out.cell (World.block_lt_of_cell? w _ hx259_5)).trans hx259_5
              replace hx259_6 := (HB.out.cell (World.block_lt_of_cell? w _ hx259_6)).trans hx259_6
              replace hx259_7 := (HB.out.cell (World.block_lt_of_cell? w _ hx259_7)).trans hx259_7
              replace hx259_8 := (HB.out.cell (World.block_lt_of_cell? w _ hx259_8)).trans hx259_8
              have HR259_4 := Aside0.mk hi259_4
              have HC259_4 := Aside0.mk hl259_4
              clear hi259_4 hl259_4
              replace p259 := eq_true p259
              replace q259 := eq_true q259
              refine start_ (n := 10) (S := fun w' => w'.cell? (ad258.add ((x5_1).toNat * 9)) = some (.int .i64 ((rd_T32 l0 x5_1).f0.f0)) ∧ w'.cell? ⟨(ad258.add ((x5_1).toNat * 9)).block, (ad258.add ((x5_1).toNat * 9)).off + 1, none⟩ = some (.string ((rd_T32 l0 x5_1).f0.f1)) ∧ w'.cell? ⟨(ad258.add ((x5_1).toNat * 9)).block, (ad258.add ((x5_1).toNat * 9)).off + 2, none⟩ = some (.bool ((rd_T32 l0 x5_1).f1)) ∧ w'.cell? ⟨(ad258.add ((x5_1).toNat * 9)).block, (ad258.add ((x5_1).toNat * 9)).off + 3, none⟩ = some (.string ((rd_T32 l0 x5_1).f2)) ∧ w'.cell? ⟨(ad258.add ((x5_1).toNat * 9)).block, (ad258.add ((x5_1).toNat * 9)).off + 4, none⟩ = some (.slice A258_4 ((rd_T32 l0 x5_1).f3).length c258_4) ∧ w'.cell? ⟨(ad258.add ((x5_1).toNat * 9)).block, (ad258.add ((x5_1).toNat * 9)).off + 5, none⟩ = some (.int .i64 ((rd_T32 l0 x5_1).f4)) ∧ w'.cell? ⟨(ad258.add ((x5_1).toNat * 9)).block, (ad258.add ((x5_1).toNat * 9)).off + 6, none⟩ = some (.int .i64 ((rd_T32 l0 x5_1).f5)) ∧ w'.cell? ⟨(ad258.add ((x5_1).toNat * 9)).block, (ad258.add ((x5_1).toNat * 9)).off + 7, none⟩ = some (.int .i64 ((rd_T32 l0 x5_1).f6)) ∧ w'.cell? ⟨(ad258.add ((x5_1).toNat * 9)).block, (ad258.add ((x5_1).toNat * 9)).off + 8, none⟩ = some (.int .i64 ((rd_T32 l0 x5_1).f7)) ∧ w'.cell? (ad259.add ((x5_1).toNat * 9)) = some (.int .i64 ((rd_T32 l1 x5_1).f0.f0)) ∧ w'.cell? ⟨(ad259.add ((x5_1).toNat * 9)).block, (ad259.add ((x5_1).toNat * 9)).off + 1, none⟩ = some (.string ((rd_T32 l1 x5_1).f0.f1)) ∧ w'.cell? ⟨(ad259.add ((x5_1).toNat * 9)).block, (ad259.add ((x5_1).toNat * 9)).off + 2, none⟩ = some (.bool ((rd_T32 l1 x5_1).f1)) ∧ w'.cell? ⟨(ad259.add ((x5_1).toNat * 9)).block, (ad259.add ((x5_1).toNat * 9)).off + 3, none⟩ = some (.string ((rd_T32 l1 x5_1).f2)) ∧ w'.cell? ⟨(ad259.add ((x5_1).toNat * 9)).block, (ad259.add ((x5_1).toNat * 9)).off + 4, none⟩ = some (.slice A259_4 ((rd_T32 l1 x5_1).f3).length c259_4) ∧ w'.cell? ⟨(ad259.add ((x5_1).toNat * 9)).block, (ad259.add ((x5_1).toNat * 9)).off + 5, none⟩ = some (.int .i64 ((rd_T32 l1 x5_1).f4)) ∧ w'.cell? ⟨(ad259.add ((x5_1).toNat * 9)).block, (ad259.add ((x5_1).toNat * 9)).off + 6, none⟩ = some (.int .i64 ((rd_T32 l1 x5_1).f5)) ∧ w'.cell? ⟨(ad259.add ((x5_1).toNat * 9)).block, (ad259.add ((x5_1).toNat * 9)).off + 7, none⟩ = some (.int .i64 ((rd_T32 l1 x5_1).f6)) ∧ w'.cell? ⟨(ad259.add ((x5_1).toNat * 9)).block, (ad259.add ((x5_1).toNat * 9)).off + 8, none⟩ = some (.int .i64 ((rd_T32 l1 x5_1).f7))) (ds := []) #[false, false, false, false, false, false, false, false, false, false] (by kernel_rfl) rfl rfl ⟨((HB.out.cell (World.block_lt_of_cell? w _ hw258_0)).trans hw258_0), ((HB.out.cell (World.block_lt_of_cell? w _ hw258_1)).trans hw258_1), ((HB.out.cell (World.block_lt_of_cell? w _ hw258_2)).trans hw258_2), ((HB.out.cell (World.block_lt_of_cell? w _ hw258_3)).trans hw258_3), ((HB.out.cell (World.block_lt_of_cell? w _ hw258_4)).trans hw258_4), ((HB.out.cell (World.block_lt_of_cell? w _ hw258_5)).trans hw258_5), ((HB.out.cell (World.block_lt_of_cell? w _ hw258_6)).trans hw258_6), ((HB.out.cell (World.block_lt_of_cell? w _ hw258_7)).trans hw258_7), ((HB.out.cell (World.block_lt_of_cell? w _ hw258_8)).trans hw258_8), ((HB.out.cell (World.block_lt_of_cell? w _ hw259_0)).trans hw259_0), ((HB.out.cell (World.block_lt_of_cell? w _ hw259_1)).trans hw259_1), ((HB.out.cell (World.block_lt_of_cell? w _ hw259_2)).trans hw259_2), ((HB.out.cell (World.block_lt_of_cell? w _ hw259_3)).trans hw259_3), ((HB.out.cell (World.block_lt_of_cell? w _ hw259_4)).trans hw259_4), ((HB.out.cell (World.block_lt_of_cell? w _ hw259_5)).trans hw259_5), ((HB.out.cell (World.block_lt_of_cell? w _ hw259_6)).trans hw259_6), ((HB.out.cell (World.block_lt_of_cell? w _ hw259_7)).trans hw259_7), ((HB.out.cell (World.block_lt_of_cell? w _ hw259_8)).trans hw259_8)⟩ (fun hHeld => ?_); refine with_tabW laws_eqSlotS.tab6 laws_eqSlotS.bits6 (fun HT_ HW_ => ?_)
              generalize wr.drew = w9 at HB HR258_4 HR259_4 hx258_0 hx258_1 hx258_2 hx258_3 hx258_4 hx258_5 hx258_6 hx258_7 hx258_8 hx259_0 hx259_1 hx259_2 hx259_3 hx259_4 hx259_5 hx259_6 hx259_7 hx259_8 hHeld ⊢
              refine pure_ (i := 0) (N := some 17) (v := ?_) (a' := ?_) #[true, false, false, false, false, false, false, false, false, false] rfl rfl (any_of HT_.out (by kernel_rfl)) (fun _ _ _ h => h) (Or.inl ⟨by rfl, ?_⟩) ?_ ?_
              rotate_left
              · intro w'
                go_simp
                with_reducible rfl
              rotate_left
              · simp only [Act.put, sA_, i64_w, i32_w]
                rfl
              refine pure_ (i := 1) (N := some 18) (v := ?_) (a' := ?_) #[true, true, false, false, false, false, false, false, false, false] rfl rfl (any_of HT_.out (by kernel_rfl)) (fun _ _ _ h => h) (Or.inl ⟨by rfl, ?_⟩) ?_ ?_
              rotate_left
              · intro w'
                go_simp
                with_reducible rfl
              rotate_left
              · simp only [Act.put, sA_, i64_w, i32_w]
                rfl
              refine pure_ (i := 2) (N := some 19) (v := ?_) (a' := ?_) #[true, true, true, false, false, false, false, false, false, false] rfl rfl (any_of HT_.out (by kernel_rfl)) (fun _ _ _ h => h) (Or.inl ⟨by rfl, ?_⟩) ?_ ?_
              rotate_left
              · intro w'
                go_simp
                with_reducible rfl
              rotate_left
              · simp only [Act.put, sA_, i64_w, i32_w]
                rfl
              refine pure_ (i := 4) (N := some 21) (v := ?_) (a' := ?_) #[true, true, true, false, true, false, false, false, false, false] rfl rfl (any_of HT_.out (by kernel_rfl)) (fun _ _ _ h => h) (Or.inl ⟨by rfl, ?_⟩) ?_ ?_
              rotate_left
              · intro w'
                go_simp
                with_reducible rfl
              rotate_left
              · simp only [Act.put, sA_, i64_w, i32_w]
                rfl
              refine pure_ (i := 5) (N := some 22) (v := ?_) (a' := ?_) #[true, true, true, false, true, true, false, false, false, false] rfl rfl (any_of HT_.out (by kernel_rfl)) (fun _ _ _ h => h) (Or.inl ⟨by rfl, ?_⟩) ?_ ?_
              rotate_left
              · intro w'
                go_simp
                with_reducible rfl
              rotate_left
              · simp only [Act.put, sA_, i64_w, i32_w]
                rfl
              refine pure_ (i := 6) (N := some 23) (v := ?_) (a' := ?_) #[true, true, true, false, true, true, true, false, false, false] rfl rfl (any_of HT_.out (by kernel_rfl)) (fun _ _ _ h => h) (Or.inl ⟨by rfl, ?_⟩) ?_ ?_
              rotate_left
              · intro w'
                go_simp
                with_reducible rfl
              rotate_left
              · simp only [Act.put, sA_, i64_w, i32_w]
                rfl
              refine take_ (i := 3) (N := some 20) (v := ?_) (a' := ?_) #[true, true, true, true, true, true, true, false, false, false] rfl rfl (take_ofW HT_.out HW_.out (by kernel_rfl)) (fun _ _ _ h => h) (Or.inl ⟨by rfl, ?_⟩) hHeld ?_ ?_
              rotate_left
              · rintro w' ⟨s0, s1, s2, s3, s4, s5, s6, s7, s8, s9, s10, s11, s12, s13, s14, s15, s16, s17⟩
                go_simp
                with_reducible rfl
              rotate_left
              · simp only [Act.put, sA_, i64_w, i32_w]
                rfl
              refine take_ (i := 7) (N := some 24) (v := ?_) (a' := ?_) #[true, true, true, true, true, true, true, true, false, false] rfl rfl (take_ofW HT_.out HW_.out (by kernel_rfl)) (fun _ _ _ h => h) (Or.inl ⟨by rfl, ?_⟩) hHeld ?_ ?_
              rotate_left
              · rintro w' ⟨s0, s1, s2, s3, s4, s5, s6, s7, s8, s9, s10, s11, s12, s13, s14, s15, s16, s17⟩
                go_simp
                with_reducible rfl
              rotate_left
              · simp only [Act.put, sA_, i64_w, i32_w]
                rfl
              refine one_ (i := 8) (N := some 25) #[true, true, true, true, true, true, true, true, true, false] rfl rfl (one_of HT_.out (by kernel_rfl)) (by decide) (fun K hK => ?_)
              refine goes_ Tryd.func19 (by kernel_rfl) rfl #[.agg #[.int .i64 ((rd_T32 l0 x5_1).f0.f0), .string ((rd_T32 l0 x5_1).f0.f1), .bool ((rd_T32 l0 x5_1).f1), .string ((rd_T32 l0 x5_1).f2), .slice A258_4 ((rd_T32 l0 x5_1).f3).length c258_4, .int .i64 ((rd_T32 l0 x5_1).f4), .int .i64 ((rd_T32 l0 x5_1).f5), .int .i64 ((rd_T32 l0 x5_1).f6), .int .i64 ((rd_T32 l0 x5_1).f7)], .agg #[.int .i64 ((rd_T32 l1 x5_1).f0.f0), .string ((rd_T32 l1 x5_1).f0.f1), .bool ((rd_T32 l1 x5_1).f1), .string ((rd_T32 l1 x5_1).f2), .slice A259_4 ((rd_T32 l1 x5_1).f3).length c259_4, .int .i64 ((rd_T32 l1 x5_1).f4), .int .i64 ((rd_T32 l1 x5_1).f5), .int .i64 ((rd_T32 l1 x5_1).f6), .int .i64 ((rd_T32 l1 x5_1).f7)]] (by rfl) rfl rfl (by (try simp only [List.map_toArray, List.map_cons, List.map_nil]); first | done | rfl | (simp only [List.length_drop, List.length_take]; rfl)) ?_
              with_reducible refine (laws_eqSlot.calls k1 ((rd_T32 l0 x5_1).f0.f0) ((rd_T32 l0 x5_1).f0.f1) ((rd_T32 l0 x5_1).f1) ((rd_T32 l0 x5_1).f2) _ _ ((rd_T32 l0 x5_1).f3) ((rd_T32 l0 x5_1).f4) ((rd_T32 l0 x5_1).f5) ((rd_T32 l0 x5_1).f6) ((rd_T32 l0 x5_1).f7) ((rd_T32 l1 x5_1).f0.f0) ((rd_T32 l1 x5_1).f0.f1) ((rd_T32 l1 x5_1).f1) ((rd_T32 l1 x5_1).f2) _ _ ((rd_T32 l1 x5_1).f3) ((rd_T32 l1 x5_1).f4) ((rd_T32 l1 x5_1).f5) ((rd_T32 l1 x5_1).f6) ((rd_T32 l1 x5_1).f7) t260 _ ?side1 ?side2 ?side3 ?side4 A7.out).mono ?_
              (case side1 => repeat (first | exact (Kd.C_below HR258_4.out HB.out) | (with_reducible refine Kd.C_alloc ?_ _) | (with_reducible refine Kd.C_drewN ?_ _) | (with_reducible refine Kd.C_drew ?_)))
              (case side2 => exact HC258_4.out)
              (case side3 => repeat (first | exact (Kd.C_below HR259_4.out HB.out) | (with_reducible refine Kd.C_alloc ?_ _) | (with_reducible refine Kd.C_drewN ?_ _) | (with_reducible refine Kd.C_drew ?_)))
              (case side4 => exact HC259_4.out)
              rintro e w10 ⟨rfl, hb⟩
              refine ⟨_, rfl, ?_⟩
              have hb1_ := fromP HB.out hb (by repeat (first | (with_reducible exact Below.refl _ _) | apply below_alloc | apply pw_below_drewN | apply below_drew1))
              have hb0_ := below_step hb1_ hb
              replace HB := kH HB hb0_
              clear hb1_ hb0_
              (try clear hb)
              (try clear hb2)
              (try clear hk)
              (try clear hi)
              refine hK.out _ _ ⟨((HB.out.cell (World.block_lt_of_cell? w _ hw258_0)).trans hw258_0), ((HB.out.cell (World.block_lt_of_cell? w _ hw258_1)).trans hw258_1), ((HB.out.cell (World.block_lt_of_cell? w _ hw258_2)).trans hw258_2), ((HB.out.cell (World.block_lt_of_cell? w _ hw258_3)).trans hw258_3), ((HB.out.cell (World.block_lt_of_cell? w _ hw258_4)).trans hw258_4), ((HB.out.cell (World.block_lt_of_cell? w _ hw258_5)).trans hw258_5), ((HB.out.cell (World.block_lt_of_cell? w _ hw258_6)).trans hw258_6), ((HB.out.cell (World.block_lt_of_cell? w _ hw258_7)).trans hw258_7), ((HB.out.cell (World.block_lt_of_cell? w _ hw258_8)).trans hw258_8), ((HB.out.cell (World.block_lt_of_cell? w _ hw259_0)).trans hw259_0), ((HB.out.cell (World.block_lt_of_cell? w _ hw259_1)).trans hw259_1), ((HB.out.cell (World.block_lt_of_cell? w _ hw259_2)).trans hw259_2), ((HB.out.cell (World.block_lt_of_cell? w _ hw259_3)).trans hw259_3), ((HB.out.cell (World.block_lt_of_cell? w _ hw259_4)).trans hw259_4), ((HB.out.cell (World.block_lt_of_cell? w _ hw259_5)).trans hw259_5), ((HB.out.cell (World.block_lt_of_cell? w _ hw259_6)).trans hw259_6), ((HB.out.cell (World.block_lt_of_cell? w _ hw259_7)).trans hw259_7), ((HB.out.cell (World.block_lt_of_cell? w _ hw259_8)).trans hw259_8)⟩ (fun hHeld => ?_)
              clear hK K
              refine norm_ (a' := ?_) ?_ ?_
              rotate_left
              · show Act.put _ (some 25) _ = _
                simp only [Act.put, sA_, i64_w, i32_w]
                rfl
              refine pure_ (i := 9) (N := some 26) (v := ?_) (a' := ?_) #[true, true, true, true, true, true, true, true, true, true] rfl rfl (any_of HT_.out (by kernel_rfl)) (fun _ _ _ h => h) (Or.inl ⟨by rfl, ?_⟩) ?_ ?_
              rotate_left
              · intro w'
                go_simp
                with_reducible rfl
              rotate_left
              · simp only [Act.put, sA_, i64_w, i32_w]
                rfl
              refine done_ (done_of HT_.out (by kernel_rfl)) ?_
              go_upto_if 26 with (fail)
              have H := HL8.out
              clear HL8
              by_cases c11 : t260 = true
              · subst c11
                have H1 : (laws_eqSlotS.l0 k1 l0 l1 (wrap64 (x5_1 + 1))) = some r := by rw [if_pos rfl] at H; exact H
                clear H
                have H := H1
                clear H1
                have H' := Aside0.mk H
                clear H
                go_wp2
                go_roundg k1
                case measure => have := HK1.out; omega
                case rel => exact ⟨(wrap64 (x5_1 + 1)), (by first | rfl | (simp; done) | (simp [*]; done)), H', ⟨by have := HK1.out; omega⟩, ⟨by repeat (first | (with_reducible first | exact HB.out | apply below_alloc | apply pw_below_drewN | apply below_drew1) | exact HB.out)⟩⟩
              · replace c11 := Bool.eq_false_iff.mpr c11
                subst c11
                have H1 : (some false) = some r := by rw [if_neg (show ¬ (false = true) by decide)] at H; exact H
                clear H
                have H := H1
                clear H1
                obtain rfl := Option.some.inj H
                go_wp2
                go_ret
                exact ⟨by first | rfl | (simp [errW_none, errW_some] <;> rfl) | (simp [*, errW_none, errW_some] <;> rfl), by repeat (first | (with_reducible first | exact HB.out | apply below_alloc | apply pw_below_drewN | apply below_drew1) | exact HB.out)⟩
            · rw [if_neg c6] at H
              exact absurd H (by simp)
          · rw [if_neg c5] at H
            exact absurd H (by simp)
        · rw [if_neg c4] at H
          have c4b0 : decide (x5_1 < (l0.length : Int)) = false := decide_eq_false c4
          clear c4
          obtain rfl := Option.some.inj H
          go_wp2
          go_ret
          exact ⟨by first | rfl | (simp [errW_none, errW_some] <;> rfl) | (simp [*, errW_none, errW_some] <;> rfl), by repeat (first | (with_reducible first | exact HB.out | apply below_alloc | apply pw_below_drewN | apply below_drew1) | exact HB.out)⟩
  · rw [if_neg c3] at H
    have c3b0 : ((l0.length : Int) == (l1.length : Int)) = false := beq_eq_false_iff_ne.mpr c3
    have c3b1 : ((l0.length : Int) != (l1.length : Int)) = true := bne_iff_ne.mpr c3
    have c3b2 : (l0.length == l1.length) = false := by first | simpa using c3 | (simp at c3 ⊢; omega)
    obtain rfl := Option.some.inj H
    go_enter Tryd.func62, Tryd.ntmps62
    go_wp2
    go_ret
    exact ⟨by first | rfl | (simp [errW_none, errW_some] <;> rfl) | (simp [*, errW_none, errW_some] <;> rfl), by repeat (first | (with_reducible first | exact HB.out | apply below_alloc | apply pw_below_drewN | apply below_drew1) | exact HB.out)⟩
def laws_eqTable.f (k : Nat) (l0_0 : List (S32)) (l1_0 : List (S32)) : Option (Bool) := (laws_eqSlotS.f k l0_0 l1_0).bind fun t263 => (if t263 = true then (some true) else (some false))
set_option maxHeartbeats 8000000 in
set_option maxRecDepth 100000 in
theorem laws_eqTable.calls (k : Nat) (A0_0 : Option Addr) (c0_0 : Nat) (l0_0 : List (S32)) (A1_0 : Option Addr) (c1_0 : Nat) (l1_0 : List (S32)) (r : Bool) (w : World) (hr0_0 : Kd.C k32 w A0_0 l0_0.length l0_0) (hc0_0 : l0_0.length ≤ c0_0) (hr1_0 : Kd.C k32 w A1_0 l1_0.length l1_0) (hc1_0 : l1_0.length ≤ c1_0) (h : laws_eqTable.f k l0_0 l1_0 = some r) :
    Calls Tryd.prog 20 #[.agg #[.slice A0_0 l0_0.length c0_0], .agg #[.slice A1_0 l1_0.length c1_0]] w fun e w' => e = .returned (.bool r) ∧ Below w.heap.size w w' := by
  have hu36 := Tryd.underlying36
  have HR0_0 := Aside0.mk hr0_0
  have HC0_0 := Aside0.mk hc0_0
  clear hr0_0 hc0_0
  have HR1_0 := Aside0.mk hr1_0
  have HC1_0 := Aside0.mk hc1_0
  clear hr1_0 hc1_0
  have HB := Aside0.mk (Below.refl w.heap.size w)
  have H : ((laws_eqSlotS.f k l0_0 l1_0).bind fun t263 => (if t263 = true then (some true) else (some false))) = some r := h
  clear h
  replace H := Option.bind_eq_some_iff.mp H
  obtain ⟨t263, A30, H⟩ := H
  replace H : (if t263 = true then (some true) else (some false)) = some r := H
  have A3 := Aside0.mk A30
  clear A30
  have HL4 := Aside0.mk H
  clear H
  go_enter Tryd.func20, Tryd.ntmps20
  go_upto_if 10 with (first | ((with_reducible refine gate_dst (N := 2) rfl ?_); refine box_event ?hg (N := 2) ?hd (cs := #[.slice A0_0 l0_0.length c0_0]) (t := 36) ?hr ?_; (case hd => rfl); (case hg => rfl); (case hr => first | (go_simp; done) | (go_simp; rfl)); intro gb261 hg w5 hbox hb; have hb1_ := fromP HB.out hb (by repeat (first | (with_reducible exact Below.refl _ _) | apply below_alloc | apply pw_below_drewN | apply below_drew1)); have hb0_ := below_step hb1_ hb; have hW_ := below_step HB.out hb1_; have n1_ := Aside0.mk (hbox); have n2_ := Aside0.mk ((by rw [hg]; exact (below_size hW_) : w.heap.size ≤ gb261)); have n3_ := Aside0.mk ((by rw [hg]; exact (below_size hW_) : w.heap.size ≤ gb261)); replace HB := kH HB hb0_; have BK261 := n1_; have GW261 := n2_; have GE261 := n3_; clear hb1_ hb0_ hW_ n1_ n2_ n3_; clear hb hbox hg) | ((with_reducible refine gate_dst (N := 3) rfl ?_); refine box_event ?hg (N := 3) ?hd (cs := #[.slice A1_0 l1_0.length c1_0]) (t := 36) ?hr ?_; (case hd => rfl); (case hg => rfl); (case hr => first | (go_simp; done) | (go_simp; rfl)); intro gb262 hg w6 hbox hb; have hb1_ := fromP HB.out hb (by repeat (first | (with_reducible exact Below.refl _ _) | apply below_alloc | apply pw_below_drewN | apply below_drew1)); have hb0_ := below_step hb1_ hb; have hW_ := below_step HB.out hb1_; have n2_ := Aside0.mk (hbox); have n3_ := Aside0.mk ((by rw [hg]; exact (below_size hW_) : w.heap.size ≤ gb262)); have n4_ := Aside0.mk ((by rw [hg]; exact (below_size hW_) : w.heap.size ≤ gb262)); have n5_ := Aside0.mk ((by rw [hg]; exact Nat.ne_of_lt (blk_lt (blk_below BK261.out hb1_)) : gb261 ≠ gb262)); have n6_ := Aside0.mk ((by rw [hg]; exact Nat.ne_of_gt (blk_lt (blk_below BK261.out hb1_)) : gb262 ≠ gb261)); replace BK261 := kB BK261 hb0_; replace HB := kH HB hb0_; have BK262 := n2_; have GW262 := n3_; have GE262 := n4_; have NB261_262 := n5_; have NB262_261 := n6_; clear hb1_ hb0_ hW_ n2_ n3_ n4_ n5_ n6_; clear hb hbox hg; have hnb7 := NB261_262.out; have hnc7 := NB262_261.out; obtain ⟨hcz8_0, hfz8_0⟩ := bkA1 BK261.out; obtain ⟨hcz9_0, hfz9_0⟩ := bkA1 BK262.out) | ((with_reducible refine gate_callee (f := 62) rfl ?_); refine goesL_ (some 9) rfl rfl Tryd.func62 (by kernel_rfl) rfl #[.slice A0_0 l0_0.length c0_0, .slice A1_0 l1_0.length c1_0] rfl (by (try simp only [List.map_toArray, List.map_cons, List.map_nil]); first | done | rfl | (simp only [List.length_drop, List.length_take]; rfl)) ?_; (with_reducible refine (laws_eqSlotS.calls k _ _ l0_0 _ _ l1_0 t263 _ ?side1 ?side2 ?side3 ?side4 A3.out).mono ?_); (case side1 => repeat (first | exact (Kd.C_below HR0_0.out HB.out) | (with_reducible refine Kd.C_alloc ?_ _) | (with_reducible refine Kd.C_drewN ?_ _) | (with_reducible refine Kd.C_drew ?_))); (case side2 => exact HC0_0.out); (case side3 => repeat (first | exact (Kd.C_below HR1_0.out HB.out) | (with_reducible refine Kd.C_alloc ?_ _) | (with_reducible refine Kd.C_drewN ?_ _) | (with_reducible refine Kd.C_drew ?_))); (case side4 => exact HC1_0.out); rintro e w10 ⟨rfl, hb⟩; refine ⟨_, rfl, ?_⟩; have hb1_ := fromP HB.out hb (by repeat (first | (with_reducible exact Below.refl _ _) | apply below_alloc | apply pw_below_drewN | apply below_drew1)); have hb0_ := below_step hb1_ hb; replace BK261 := kB BK261 hb0_; replace BK262 := kB BK262 hb0_; replace HB := kH HB hb0_; clear hb1_ hb0_; (try clear hb); (try clear hb2); (try clear hk); (try clear hi)))
  have H := HL4.out
  clear HL4
  by_cases c11 : t263 = true
  · subst c11
    have H1 : (some true) = some r := by rw [if_pos rfl] at H; exact H
    clear H
    have H := H1
    clear H1
    obtain rfl := Option.some.inj H
    go_wp2
    go_ret
    exact ⟨by first | rfl | (simp [errW_none, errW_some] <;> rfl) | (simp [*, errW_none, errW_some] <;> rfl), by repeat (first | (with_reducible first | exact HB.out | apply below_alloc | apply pw_below_drewN | apply below_drew1 | refine below_set ?_ GE261.out | refine below_set ?_ GE262.out) | exact HB.out)⟩
  · replace c11 := Bool.eq_false_iff.mpr c11
    subst c11
    have H1 : (some false) = some r := by rw [if_neg (show ¬ (false = true) by decide)] at H; exact H
    clear H
    have H := H1
    clear H1
    obtain rfl := Option.some.inj H
    go_wp2
    go_ret
    exact ⟨by first | rfl | (simp [errW_none, errW_some] <;> rfl) | (simp [*, errW_none, errW_some] <;> rfl), by repeat (first | (with_reducible first | exact HB.out | apply below_alloc | apply pw_below_drewN | apply below_drew1 | refine below_set ?_ GE261.out | refine below_set ?_ GE262.out) | exact HB.out)⟩
def laws_markText.l0 : Nat → Int → ByteArray → Option (ByteArray)
  | 0, _, _ => none
  | k + 1, x0, x3 => if x0 > 0 then ((some (([(wrap64 (48 + (Int.tmod x0 10))) % 256] : List Int) : List Int)).bind fun y264 => (if (strOfNums y264).size + x3.size ≤ 9223372036854775807 then (laws_markText.l0 k (wrap64 (Int.tdiv x0 10)) ((strOfNums y264) ++ x3)) else (none))) else (if 1 + x3.size ≤ 9223372036854775807 then (some ((⟨#[109]⟩ : ByteArray) ++ x3)) else (none))
def laws_markText.f (k : Nat) (a0 : Int) : Option (ByteArray) := if a0 ≤ 0 then (some (⟨#[109, 48]⟩ : ByteArray)) else (laws_markText.l0 k a0 (⟨#[]⟩ : ByteArray))
set_option maxHeartbeats 8000000 in
set_option maxRecDepth 100000 in
theorem laws_markText.calls (k : Nat) (a0 : Int) (r : ByteArray) (w : World) (h : laws_markText.f k a0 = some r) :
    Calls Tryd.prog 90 #[.int .i64 a0] w fun e w' => e = .returned (.string r) ∧ Below w.heap.size w w' := by
  have HB := Aside0.mk (Below.refl w.heap.size w)
  have H : (if a0 ≤ 0 then (some (⟨#[109, 48]⟩ : ByteArray)) else (laws_markText.l0 k a0 (⟨#[]⟩ : ByteArray))) = some r := h
  clear h
  by_cases c2 : a0 ≤ 0
  · rw [if_pos c2] at H
    have c2b0 : decide (a0 ≤ 0) = true := decide_eq_true c2
    clear c2
    obtain rfl := Option.some.inj H
    go_enter Tryd.func90, Tryd.ntmps90
    go_wp2
    go_ret
    exact ⟨by first | rfl | (simp [errW_none, errW_some] <;> rfl) | (simp [*, errW_none, errW_some] <;> rfl), by repeat (first | (with_reducible first | exact HB.out | apply below_alloc | apply pw_below_drewN | apply below_drew1) | exact HB.out)⟩
  · rw [if_neg c2] at H
    have c2b0 : decide (a0 ≤ 0) = false := decide_eq_false c2
    clear c2
    have H' := Aside0.mk H
    clear H
    go_enter Tryd.func90, Tryd.ntmps90
    go_wp2
    go_loopg [0, 3] k (fun kq v0 v3 w' => ∃ (x0_1 : Int) (x3_1 : ByteArray), v0 = .int .i64 x0_1 ∧ v3 = .string x3_1 ∧ Aside0 (laws_markText.l0 kq x0_1 x3_1 = some r) ∧ Aside0 (kq ≤ k) ∧ Aside0 (Below w.heap.size w w'))
    case atStart => exact ⟨(a0), ((⟨#[]⟩ : ByteArray)), (by first | rfl | (simp; done) | (simp [*]; done)), (by first | rfl | (simp; done) | (simp [*]; done)), H', ⟨Nat.le_refl _⟩, ⟨by repeat (first | (with_reducible first | exact HB.out | apply below_alloc | apply pw_below_drewN | apply below_drew1) | exact HB.out)⟩⟩
    case round =>
      clear H'
      try clear c2
      try clear c2b0
      try clear p2
      obtain ⟨x0_1, x3_1, rfl, rfl, HA, HK1, HB⟩ := hrel
      cases gk with
      | zero => exact absurd HA.out (by simp [laws_markText.l0])
      | succ k1 =>
        have H := HA.out
        clear HA
        simp only [laws_markText.l0] at H
        by_cases c3 : x0_1 > 0
        · rw [if_pos c3] at H
          have c3b0 : decide (0 < x0_1) = true := decide_eq_true c3
          clear c3
          obtain ⟨y264, hy264⟩ : ∃ y_ : List Int, y_ = (([(wrap64 (48 + (Int.tmod x0_1 10))) % 256] : List Int)) := ⟨_, rfl⟩
          replace H : (if (strOfNums y264).size + x3_1.size ≤ 9223372036854775807 then (laws_markText.l0 k1 (wrap64 (Int.tdiv x0_1 10)) ((strOfNums y264) ++ x3_1)) else (none)) = some r := by first | (rw [hy264]; with_reducible exact H) | (have H2_ := (Option.bind_some _ _).symm.trans H; rw [hy264]; with_reducible exact H2_) | (have H2_ := (Option.bind_some _ _).symm.trans H; with_reducible exact H2_) | with_reducible exact H | (rw [hy264]; exact H) | exact H
          have Ny264 := Aside0.mk hy264
          clear hy264
          by_cases c4 : (strOfNums y264).size + x3_1.size ≤ 9223372036854775807
          · rw [if_pos c4] at H
            have c4b0 := eq_true c4
            have c4b1 : decide ((strOfNums y264).size + x3_1.size ≤ 9223372036854775807) = true := decide_eq_true c4
            try have c4b2 : (9223372036854775807 < (strOfNums y264).size + x3_1.size) = False := eq_false (Nat.not_lt.2 c4)
            have H' := Aside0.mk H
            clear H
            go_wp2_with (first | ((with_reducible refine gate_dst (N := 12) rfl ?_); refine Kd.R_lit (Kd.int .u8) _ 5 ?hg (N := 12) ?hd (xs := ([(wrap64 (48 + (Int.tmod x0_1 10))) % 256] : List Int)) (inner := [.int .u8 ((wrap64 (48 + (Int.tmod x0_1 10))) % 256)]) (ok := fun _ => True) (okp := fun _ => True) ?hr ?hp (fun _ hk => hk) trivial (Below.refl _ _) (Nat.le_refl _) (by simp) ?_; (case hd => rfl); (case hg => rfl); (case hr => first | (go_simp; done) | (go_simp; rfl)); (case hp => exact (Reps.one (show Kd.M (Kd.int .u8) _ _ _ ((wrap64 (48 + (Int.tmod x0_1 10))) % 256) [.int .u8 ((wrap64 (48 + (Int.tmod x0_1 10))) % 256)] from rfl) (Reps.none _ _))); intro v265 w5 ho6 hb hg_ hnew_; clear hg_ hnew_; (first | rw [← Ny264.out] at ho6 | (simp only [Int.reduceToNat] at ho6; rw [← Ny264.out] at ho6)); have hb1_ := fromP HB.out hb (by repeat (first | (with_reducible exact Below.refl _ _) | apply below_alloc | apply pw_below_drewN | apply below_drew1)); have hb0_ := below_step hb1_ hb; have hW_ := below_step HB.out hb1_; have n0_ := Aside0.mk (Kd.R_lower ho6 (below_size hW_)); replace HB := kH HB hb0_; have HO266 := n0_; clear hb1_ hb0_ hW_ n0_; clear hb ho6; have hcv7 := own_string (P := Tryd.prog) Tryd.underlying65 Tryd.underlying5 Tryd.underlying9 (Kd.own_of_R HO266.out)))
            go_roundg k1
            case measure => have := HK1.out; omega
            case rel => exact ⟨(wrap64 (Int.tdiv x0_1 10)), ((strOfNums y264) ++ x3_1), (by first | rfl | (simp; done) | (simp [*]; done)), (by first | rfl | (simp; done) | (simp [*]; done)), H', ⟨by have := HK1.out; omega⟩, ⟨by repeat (first | (with_reducible first | exact HB.out | apply below_alloc | apply pw_below_drewN | apply below_drew1) | exact HB.out)⟩⟩
          · rw [if_neg c4] at H
            exact absurd H (by simp)
        · rw [if_neg c3] at H
          have c3b0 : decide (0 < x0_1) = false := decide_eq_false c3
          clear c3
          by_cases c8 : 1 + x3_1.size ≤ 9223372036854775807
          · rw [if_pos c8] at H
            have c8b0 := eq_true c8
            have c8b1 : decide (1 + x3_1.size ≤ 9223372036854775807) = true := decide_eq_true c8
            try have c8b2 : (9223372036854775807 < 1 + x3_1.size) = False := eq_false (Nat.not_lt.2 c8)
            obtain rfl := Option.some.inj H
            go_wp2
            go_ret
            exact ⟨by first | rfl | (simp [errW_none, errW_some] <;> rfl) | (simp [*, errW_none, errW_some] <;> rfl), by repeat (first | (with_reducible first | exact HB.out | apply below_alloc | apply pw_below_drewN | apply below_drew1) | exact HB.out)⟩
          · rw [if_neg c8] at H
            exact absurd H (by simp)
def laws_markKeyS.l0 : Nat → List (S29) → Int → Int → Option (Int × (List (S29)))
  | 0, _, _, _ => none
  | k + 1, x0, x1, x5 => if x5 < (x0.length : Int) then (if 0 ≤ x5 then ((some (x0.set (x5 : Int).toNat (⟨x1, (rd_T29 x0 x5).f1⟩ : S29) : List (S29))).bind fun y267 => ((laws_markText.f k (wrap64 (x1 + 1))).bind fun t268 => (laws_markKeyS.l0 k (y267.set (x5 : Int).toNat (⟨(rd_T29 y267 x5).f0, t268⟩ : S29)) (wrap64 ((wrap64 (x1 + 1)) + 1)) (wrap64 (x5 + 1))))) else (none)) else (some (x1, x0))
def laws_markKeyS.f (k : Nat) (l0 : List (S29)) (a1 : Int) : Option (Int × (List (S29))) := laws_markKeyS.l0 k l0 a1 0
set_option maxHeartbeats 8000000 in
set_option maxRecDepth 100000 in
theorem laws_markKeyS.calls (k : Nat) (P0_ : Nat → Prop) (u9000_ : Value) (l0 : List (S29)) (a1 : Int) (r1 : Int) (r2 : List (S29)) (w0 w : World) (hB : Below w0.heap.size w0 w) (ho0 : Kd.R k29 29 w w0.heap.size P0_ u9000_ l0) (h : laws_markKeyS.f k l0 a1 = some (r1, r2)) :
    Calls Tryd.prog 39 #[u9000_, .int .i64 a1] w fun e w' => e = .returned (.int .i64 r1) ∧ Kd.R k29 29 w' w0.heap.size (fun k_ => (P0_ k_ ∨ w.heap.size ≤ k_)) u9000_ r2 ∧ Below w0.heap.size w0 w' ∧ Kept w w' (fun k_ => P0_ k_) := by
  have HO0 := Aside0.mk (show Kd.R k29 29 w w0.heap.size (fun k_ => (P0_ k_ ∨ w.heap.size ≤ k_)) u9000_ l0 from Kd.R_mono ho0 (fun k_ hk => (.inl hk)))
  have HK := Aside0.mk (Kept.refl w (fun k_ => P0_ k_))
  have HW0 := Aside0.mk hB.size
  have HB := Aside0.mk hB
  clear hB
  have H : (laws_markKeyS.l0 k l0 a1 0) = some (r1, r2) := h
  clear h
  have H' := Aside0.mk H
  clear H
  go_enter Tryd.func39, Tryd.ntmps39
  go_wp2
  go_loopg [1, 5] k (fun kq v1 v5 w' => ∃ (x0_1 : List (S29)) (x1_1 : Int) (x5_1 : Int), v1 = .int .i64 x1_1 ∧ v5 = .int .i64 x5_1 ∧ Aside0 (laws_markKeyS.l0 kq x0_1 x1_1 x5_1 = some (r1, r2)) ∧ Aside0 (kq ≤ k) ∧ Aside0 (Kd.R k29 29 w' w0.heap.size (fun k_ => (P0_ k_ ∨ w.heap.size ≤ k_)) u9000_ x0_1) ∧ Aside0 (Kept w w' (fun k_ => P0_ k_)) ∧ Aside0 (Below w0.heap.size w0 w'))
  case atStart => exact ⟨(l0), (a1), (0), (by first | rfl | (simp; done) | (simp [*]; done)), (by first | rfl | (simp; done) | (simp [*]; done)), H', ⟨Nat.le_refl _⟩, ⟨by (with_reducible repeat (first | apply Kd.R_alloc | apply Kd.R_drewN | apply Kd.R_drew)); exact HO0.out⟩, ⟨by repeat (first | (with_reducible first | exact HK.out | apply Kept.alloc | apply Kept.drewN | apply Kept.drew) | exact HK.out)⟩, ⟨by repeat (first | (with_reducible first | exact HB.out | apply below_alloc | apply pw_below_drewN | apply below_drew1) | exact HB.out)⟩⟩
  case round =>
    clear H'
    try clear p2
    obtain ⟨x0_1, x1_1, x5_1, rfl, rfl, HA, HK1, HO_0, HK, HB⟩ := hrel
    cases gk with
    | zero => exact absurd HA.out (by simp [laws_markKeyS.l0])
    | succ k1 =>
      have H := HA.out
      clear HA
      simp only [laws_markKeyS.l0] at H
      have HL3 := Aside0.mk H
      clear H
      obtain ⟨Ao4, co4, eo4⟩ := Kd.R_slice HO_0.out
      subst eo4
      go_upto_if 9 with (fail)
      have H := HL3.out
      clear HL3
      by_cases c5 : x5_1 < (x0_1.length : Int)
      · rw [if_pos c5] at H
        have c5b0 : decide (x5_1 < (x0_1.length : Int)) = true := decide_eq_true c5
        clear c5
        (first | rw [c5b0] | (simp only [i64_w, i32_w]; rw [c5b0]) | simp only [c5b2, Bool.not_false, Bool.not_true] | skip)
        by_cases c6 : 0 ≤ x5_1
        · rw [if_pos c6] at H
          have c6b0 : decide (0 ≤ x5_1) = true := decide_eq_true c6
          clear c6
          obtain ⟨y267, hy267⟩ : ∃ y_ : List (S29), y_ = (x0_1.set (x5_1 : Int).toNat (⟨x1_1, (rd_T29 x0_1 x5_1).f1⟩ : S29)) := ⟨_, rfl⟩
          replace H : ((laws_markText.f k1 (wrap64 (x1_1 + 1))).bind fun t268 => (laws_markKeyS.l0 k1 (y267.set (x5_1 : Int).toNat (⟨(rd_T29 y267 x5_1).f0, t268⟩ : S29)) (wrap64 ((wrap64 (x1_1 + 1)) + 1)) (wrap64 (x5_1 + 1)))) = some (r1, r2) := by first | (rw [hy267]; with_reducible exact H) | (have H2_ := (Option.bind_some _ _).symm.trans H; rw [hy267]; with_reducible exact H2_) | (have H2_ := (Option.bind_some _ _).symm.trans H; with_reducible exact H2_) | with_reducible exact H | (rw [hy267]; exact H) | exact H
          have Ny267 := Aside0.mk hy267
          clear hy267
          replace H := Option.bind_eq_some_iff.mp H
          obtain ⟨t268, A80, H⟩ := H
          replace H : (laws_markKeyS.l0 k1 (y267.set (x5_1 : Int).toNat (⟨(rd_T29 y267 x5_1).f0, t268⟩ : S29)) (wrap64 ((wrap64 (x1_1 + 1)) + 1)) (wrap64 (x5_1 + 1))) = some (r1, r2) := H
          have A8 := Aside0.mk A80
          clear A80
          obtain ⟨y269, hy269⟩ : ∃ y_ : List (S29), y_ = (y267.set (x5_1 : Int).toNat (⟨(rd_T29 y267 x5_1).f0, t268⟩ : S29)) := ⟨_, rfl⟩
          replace H : (laws_markKeyS.l0 k1 y269 (wrap64 ((wrap64 (x1_1 + 1)) + 1)) (wrap64 (x5_1 + 1))) = some (r1, r2) := by first | (rw [hy269]; with_reducible exact H) | (have H2_ := (Option.bind_some _ _).symm.trans H; rw [hy269]; with_reducible exact H2_) | (have H2_ := (Option.bind_some _ _).symm.trans H; with_reducible exact H2_) | with_reducible exact H | (rw [hy269]; exact H) | exact H
          have Ny269 := Aside0.mk hy269
          clear hy269
          have H' := Aside0.mk H
          clear H
          have p7 : 0 ≤ (x5_1 : Int) := of_decide_eq_true (by first | (with_reducible assumption) | assumption)
          have q7 : (x5_1 : Int) < ((x0_1.length : Int) : Int) := of_decide_eq_true (by first | (with_reducible assumption) | assumption)
          obtain ⟨go7, co7, eo7, gb7, gl7, cl7, HG7⟩ := Kd.R_form HO_0.out (by omega)
          (first | cases eo7 | (injection eo7 with ea_ en_ ec_; (first | subst ea_ | (injection ea_ with ea_; subst ea_)); subst ec_; clear en_))
          have GB7 := Aside0.mk gb7
          have GG7 := Aside0.mk HG7
          clear gb7 gl7 HG7
          have HMgo7 := Aside0.mk (show (P0_ go7 ∨ w.heap.size ≤ go7) from (HO_0.out.1 _ rfl))
          obtain ⟨ce7, hcl7, hM7, hcc7, hfr7⟩ := Kd.R_elem HO_0.out z29 (x5_1 : Int) p7 q7
          obtain rfl := k29_openM hM7
          have hx7_0 : wr.cell? ⟨go7, (x5_1 : Int).toNat * 2, none⟩ = some (.int .i64 ((rd_T29 x0_1 x5_1).f0)) := hcc7 0 _ rfl
          have hx7_1 : wr.cell? ⟨go7, (x5_1 : Int).toNat * 2 + 1, none⟩ = some (.string ((rd_T29 x0_1 x5_1).f1)) := hcc7 1 _ rfl
          have hf7_0 : wr.frozen? ⟨go7, (x5_1 : Int).toNat * 2, none⟩ = false := hfr7 0
          have hf7_1 : wr.frozen? ⟨go7, (x5_1 : Int).toNat * 2 + 1, none⟩ = false := hfr7 1
          clear hcl7 hcc7 hfr7 hM7
          replace p7 := eq_true p7
          replace q7 := eq_true q7
          have HX10 := Aside0.mk (show Kd.R k29 29 wr w0.heap.size (fun k_ => (P0_ k_ ∨ w.heap.size ≤ k_)) (.slice (some ⟨go7, 0, none⟩) x0_1.length co4) x0_1 from (by (with_reducible repeat (first | apply Kd.R_alloc | apply Kd.R_drewN | apply Kd.R_drew)); exact HO_0.out))
          obtain ⟨ce10, hcl10, hM10, hcc10, hfr10⟩ := Kd.R_elem HX10.out z29 (x5_1 : Int) (of_decide_eq_true (by first | (with_reducible assumption) | assumption)) (by have h_ : (x5_1 : Int) < ((x0_1.length : Int) : Int) := of_decide_eq_true (by first | (with_reducible assumption) | assumption); first | exact h_ | (have e_ := (Kd.R_reads' HO_0.out).1; omega) | simpa using h_)
          obtain rfl := k29_openM hM10
          have HP10 := Kd.R_seg HX10.out (x5_1 : Int) (of_decide_eq_true (by first | (with_reducible assumption) | assumption)) (by have h_ : (x5_1 : Int) < ((x0_1.length : Int) : Int) := of_decide_eq_true (by first | (with_reducible assumption) | assumption); first | exact h_ | (have e_ := (Kd.R_reads' HO_0.out).1; omega) | simpa using h_) (seg := [.int .i64 x1_1]) (j := 0) hcl10 hcc10 (show 1 ≤ 2 from by decide) (x' := (⟨x1_1, (rd_T29 x0_1 x5_1).f1⟩ : S29)) (k29_mkM _ _ _ (⟨x1_1, (rd_T29 x0_1 x5_1).f1⟩ : S29) ) (fun _ hk => hk)
          have hx10_0 := hcc10 0 _ rfl
          (try simp only [show (k29).sz = 2 from rfl, Nat.mul_one, Nat.add_zero] at hx10_0)
          have hf10_0 := hfr10 0
          (try simp only [show (k29).sz = 2 from rfl, Nat.mul_one, Nat.add_zero] at hf10_0)
          clear hcl10 hcc10 hfr10 hM10
          go_wp2_with (first | ((with_reducible refine gate_store (t := 3) (p := 16) rfl ?_); refine store_event (t := 3) (p := 16) (v := ?vo_w11) (w1 := (wr.setCell ⟨go7, (x5_1 : Int).toNat * 2, none⟩ (.int .i64 x1_1))) ?hg ?ho ?hn ?hr ?_; (case ho => rfl); (case hg => rfl); (case hn => rfl); (case hr => first | (go_simp; done) | (go_simp; rfl)); intro w11 hw; have hg : wr.grownBy w11 (some go7) := (by rw [hw]; exact HP10.2); have hp_ : Kd.R k29 29 w11 w0.heap.size (fun k_ => (P0_ k_ ∨ w.heap.size ≤ k_)) (.slice (some ⟨go7, 0, none⟩) x0_1.length co4) y267 := (by rw [hw, Ny267.out]; exact HP10.1); clear HP10; have n0_ := Aside0.mk (hp_); have n1_ := Aside0.mk ((by rw [hw]; exact below_set (HB.out) GB7.out : Below w0.heap.size w0 w11)); have n2_ := Aside0.mk (Kept.of_grown (S := (fun k_ => P0_ k_)) hg (by repeat (first | (with_reducible first | exact HK.out | apply Kept.alloc | apply Kept.drewN | apply Kept.drew) | exact HK.out)) (fun k_ e_ => (HO_0.out.1 k_ e_))); clear HO_0; clear HB; clear HK; have HO_0 := n0_; have HB := n1_; have HK := n2_; clear n0_ n1_ n2_; clear hg hw hp_) | ((with_reducible refine gate_callee (f := 90) rfl ?_); refine goesL_ (some 22) rfl rfl Tryd.func90 (by kernel_rfl) rfl #[.int .i64 (wrap64 (x1_1 + 1))] rfl (by (try simp only [List.map_toArray, List.map_cons, List.map_nil]); first | done | rfl | (simp only [List.length_drop, List.length_take]; rfl)) ?_; (with_reducible refine (laws_markText.calls k1 (wrap64 (x1_1 + 1)) t268 _ A8.out).mono ?_); rintro e w12 ⟨rfl, hb⟩; refine ⟨_, rfl, ?_⟩; have hb1_ := fromP HB.out hb (by repeat (first | (with_reducible exact Below.refl _ _) | apply below_alloc | apply pw_below_drewN | apply below_drew1)); have hb0_ := below_step hb1_ hb; have n1_ := Aside0.mk (Kept.below (S := (fun k_ => P0_ k_)) (by repeat (first | (with_reducible first | exact HK.out | apply Kept.alloc | apply Kept.drewN | apply Kept.drew) | exact HK.out)) hb); replace HO_0 := kR HO_0 hb0_; replace HB := kH HB hb0_; clear HK; have HK := n1_; clear hb1_ hb0_ n1_; (try clear hb); (try clear hb2); (try clear hk); (try clear hi); have p9 : 0 ≤ (x5_1 : Int) := of_decide_eq_true (by first | (with_reducible assumption) | assumption); have q9 : (x5_1 : Int) < ((x0_1.length : Int) : Int) := of_decide_eq_true (by first | (with_reducible assumption) | assumption); obtain ⟨ce9, hcl9, hM9, hcc9, hfr9⟩ := Kd.R_elem HO_0.out z29 (x5_1 : Int) p9 q9; obtain rfl := k29_openM hM9; have hx9_0 : w12.cell? ⟨go7, (x5_1 : Int).toNat * 2, none⟩ = some (.int .i64 ((rd_T29 y267 x5_1).f0)) := hcc9 0 _ rfl; have hx9_1 : w12.cell? ⟨go7, (x5_1 : Int).toNat * 2 + 1, none⟩ = some (.string ((rd_T29 y267 x5_1).f1)) := hcc9 1 _ rfl; have hf9_0 : w12.frozen? ⟨go7, (x5_1 : Int).toNat * 2, none⟩ = false := hfr9 0; have hf9_1 : w12.frozen? ⟨go7, (x5_1 : Int).toNat * 2 + 1, none⟩ = false := hfr9 1; clear hcl9 hcc9 hfr9 hM9; replace p9 := eq_true p9; replace q9 := eq_true q9; have HX13 := Aside0.mk (show Kd.R k29 29 w12 w0.heap.size (fun k_ => (P0_ k_ ∨ w.heap.size ≤ k_)) (.slice (some ⟨go7, 0, none⟩) x0_1.length co4) y267 from (by (with_reducible repeat (first | apply Kd.R_alloc | apply Kd.R_drewN | apply Kd.R_drew)); exact HO_0.out)); obtain ⟨ce13, hcl13, hM13, hcc13, hfr13⟩ := Kd.R_elem HX13.out z29 (x5_1 : Int) (of_decide_eq_true (by first | (with_reducible assumption) | assumption)) (by have h_ : (x5_1 : Int) < ((x0_1.length : Int) : Int) := of_decide_eq_true (by first | (with_reducible assumption) | assumption); first | exact h_ | (have e_ := (Kd.R_reads' HO_0.out).1; omega) | simpa using h_); obtain rfl := k29_openM hM13; have HP13 := Kd.R_seg HX13.out (x5_1 : Int) (of_decide_eq_true (by first | (with_reducible assumption) | assumption)) (by have h_ : (x5_1 : Int) < ((x0_1.length : Int) : Int) := of_decide_eq_true (by first | (with_reducible assumption) | assumption); first | exact h_ | (have e_ := (Kd.R_reads' HO_0.out).1; omega) | simpa using h_) (seg := [.string t268]) (j := 1) hcl13 hcc13 (show 2 ≤ 2 from by decide) (x' := (⟨(rd_T29 y267 x5_1).f0, t268⟩ : S29)) (k29_mkM _ _ _ (⟨(rd_T29 y267 x5_1).f0, t268⟩ : S29) ) (fun _ hk => hk); have hx13_1 := hcc13 1 _ rfl; (try simp only [show (k29).sz = 2 from rfl, Nat.mul_one, Nat.add_zero] at hx13_1); have hf13_1 := hfr13 1; (try simp only [show (k29).sz = 2 from rfl, Nat.mul_one, Nat.add_zero] at hf13_1); clear hcl13 hcc13 hfr13 hM13) | ((with_reducible refine gate_store (t := 9) (p := 24) rfl ?_); refine store_event (t := 9) (p := 24) (v := ?vo_w14) (w1 := (w12.setCell ⟨go7, (x5_1 : Int).toNat * 2 + 1, none⟩ (.string t268))) ?hg ?ho ?hn ?hr ?_; (case ho => rfl); (case hg => rfl); (case hn => rfl); (case hr => first | (go_simp; done) | (go_simp; rfl)); intro w14 hw; have hg : w12.grownBy w14 (some go7) := (by rw [hw]; exact HP13.2); have hp_ : Kd.R k29 29 w14 w0.heap.size (fun k_ => (P0_ k_ ∨ w.heap.size ≤ k_)) (.slice (some ⟨go7, 0, none⟩) x0_1.length co4) y269 := (by rw [hw, Ny269.out]; exact HP13.1); clear HP13; have n0_ := Aside0.mk (hp_); have n1_ := Aside0.mk ((by rw [hw]; exact below_set (HB.out) GB7.out : Below w0.heap.size w0 w14)); have n2_ := Aside0.mk (Kept.of_grown (S := (fun k_ => P0_ k_)) hg (by repeat (first | (with_reducible first | exact HK.out | apply Kept.alloc | apply Kept.drewN | apply Kept.drew) | exact HK.out)) (fun k_ e_ => (HO_0.out.1 k_ e_))); clear HO_0; clear HB; clear HK; have HO_0 := n0_; have HB := n1_; have HK := n2_; clear n0_ n1_ n2_; clear hg hw hp_))
          go_roundg k1
          case measure => have := HK1.out; omega
          case rel => exact ⟨(y269), (wrap64 ((wrap64 (x1_1 + 1)) + 1)), (wrap64 (x5_1 + 1)), (by first | rfl | (simp; done) | (simp [*]; done)), (by first | rfl | (simp; done) | (simp [*]; done)), H', ⟨by have := HK1.out; omega⟩, ⟨by (with_reducible repeat (first | apply Kd.R_alloc | apply Kd.R_drewN | apply Kd.R_drew)); exact HO_0.out⟩, ⟨by repeat (first | (with_reducible first | exact HK.out | apply Kept.alloc | apply Kept.drewN | apply Kept.drew) | exact HK.out)⟩, ⟨by repeat (first | (with_reducible first | exact HB.out | apply below_alloc | apply pw_below_drewN | apply below_drew1) | exact HB.out)⟩⟩
        · rw [if_neg c6] at H
          exact absurd H (by simp)
      · rw [if_neg c5] at H
        have c5b0 : decide (x5_1 < (x0_1.length : Int)) = false := decide_eq_false c5
        clear c5
        (first | rw [c5b0] | (simp only [i64_w, i32_w]; rw [c5b0]) | simp only [c5b2, Bool.not_false, Bool.not_true] | skip)
        simp only [Option.some.injEq, Prod.mk.injEq] at H
        obtain ⟨rfl, rfl⟩ := H
        go_wp2
        go_ret
        exact ⟨by first | rfl | (simp [errW_none, errW_some] <;> rfl) | (simp [*, errW_none, errW_some] <;> rfl), by (with_reducible repeat (first | apply Kd.R_alloc | apply Kd.R_drewN | apply Kd.R_drew)); exact HO_0.out, by repeat (first | (with_reducible first | exact HB.out | apply below_alloc | apply pw_below_drewN | apply below_drew1) | exact HB.out), by repeat (first | (with_reducible first | exact HK.out | apply Kept.alloc | apply Kept.drewN | apply Kept.drew) | exact HK.out)⟩
end Go.Proofs.YtnbohlcibgfjaaaDoor.Gp
end
section
namespace Go.Proofs.YtnbohlcibgfjaaaDoor.Gp
open Go.RowKit Go.Proofs.YtnbohlcibgfjaaaDoorW.PrintWords
set_option linter.unusedVariables false
section
variable {α : Type} {d : Kd α} {e : Nat} {w0 wi W W1 : World} {P : Nat → Prop} {g n cap : Nat} {xs : List α} {i : Int} {oki : Nat → Prop} {c : List Value}
structure Hol {α : Type} (d : Kd α) (e : Nat) (w0 wi W : World) (P : Nat → Prop) (g n cap : Nat) (xs : List α) (i : Int) (oki : Nat → Prop) (c : List Value) : Prop where
  H : Kd.H d e W w0.heap.size P (.slice (some ⟨g, 0, none⟩) n cap) xs i oki c
  i0 : 0 ≤ i
  i1 : i < n
  ne : ∀ k, oki k → P k ∧ k ≠ g
  kept : Kept wi W P
  bel : Below w0.heap.size w0 W
theorem Hol.start (h : Kd.S d e W w0.heap.size P (.slice (some ⟨g, 0, none⟩) n cap) xs) (z : α) (i0 : 0 ≤ i) (i1 : i < n) (kept : Kept wi W P) (bel : Below w0.heap.size w0 W) :
    ∃ (oki : Nat → Prop) (c : List Value), d.M W w0.heap.size oki (xs.getD i.toNat z) c ∧ Hol d e w0 wi W P g n cap xs i oki c := by
  obtain ⟨oki, c, _, hM, _, hoki, hH⟩ := Kd.S_lend h z i i0 i1
  exact ⟨oki, c, hM, hH, i0, i1, hoki, kept, bel⟩
theorem Hol.cell (h : Hol d e w0 wi W P g n cap xs i oki c) {j : Nat} {u : Value} (hj : c[j]? = some u) : W.cell? ⟨g, i.toNat * d.sz + j, none⟩ = some u := by
  obtain ⟨_, _, _, _, _, hcc, _⟩ := Kd.H_raw h.H h.i0 h.i1
  exact hcc j u hj
theorem Hol.own (h : Hol d e w0 wi W P g n cap xs i oki c) : P g ∧ w0.heap.size ≤ g ∧ g < W.heap.size ∧ ∃ cs, W.heap[g]? = some (.cells cs e (0, 0)) := by
  obtain ⟨_, f, hR⟩ := h.H
  have hg : (Value.slice (some ⟨g, 0, none⟩) n cap).ownBlock = some g := by simp [Value.ownBlock]
  exact ⟨(hR.1 g hg).1, Kd.R_base hR g hg, Kd.R_lt hR g hg, Kd.R_typed hR g hg⟩
theorem Hol.frozen (h : Hol d e w0 wi W P g n cap xs i oki c) (o : Nat) : W.frozen? ⟨g, o, none⟩ = false := by
  obtain ⟨_, _, _, cs, hc⟩ := h.own
  exact blk_frozen hc o
theorem Hol.put (h : Hol d e w0 wi W P g n cap xs i oki c) (j : Nat) (u : Value) (hj : j < d.sz) (hc : c.length = d.sz) (hu : u.oneCell' = true) : Hol d e w0 wi (W.setCell ⟨g, i.toNat * d.sz + j, none⟩ u) P g n cap xs i oki (c.set j u) := by
  obtain ⟨hPg, hbg, hlt, _⟩ := h.own
  obtain ⟨h2, h3⟩ := Kd.H_seg h.H h.i0 h.i1 (seg := [u]) (j := j) (by show j + 1 ≤ d.sz; omega) (by intro q hq; rw [List.mem_singleton.1 hq]; exact hu)
  have e : c.take j ++ [u] ++ c.drop (j + [u].length) = c.set j u := by
    rw [List.set_eq_take_append_cons_drop, if_pos (by omega)]
    simp
  rw [e] at h2
  exact ⟨h2, h.i0, h.i1, h.ne, Kept.of_grown h3 h.kept (fun k hk => by cases hk; exact .inl hPg), below_set h.bel hbg⟩
theorem Hol.below (h : Hol d e w0 wi W P g n cap xs i oki c) (hb : Below W.heap.size W W1) : Hol d e w0 wi W1 P g n cap xs i oki c :=
  ⟨Kd.H_below h.H hb, h.i0, h.i1, h.ne, Kept.then_ h.kept (Kept.of_below hb (fun _ => False)) (fun _ hk => hk.elim), below_step h.bel hb⟩
theorem Hol.inner (h : Hol d e w0 wi W P g n cap xs i oki c) {S : Nat → Prop} (hk : Kept W W1 S) (hS : ∀ k, S k → oki k) (hb : Below w0.heap.size w0 W1) : Hol d e w0 wi W1 P g n cap xs i oki c :=
  ⟨Kd.H_kept h.H hk (fun k _ hn hs => hn (hS k hs)), h.i0, h.i1, h.ne, Kept.then_ h.kept hk (fun k hs => .inl (h.ne k (hS k hs)).1), hb⟩
theorem Hol.back (h : Hol d e w0 wi W P g n cap xs i oki c) {x' : α} {okp : Nat → Prop} (hM : d.M W w0.heap.size okp x' c) (hok : ∀ k, okp k → oki k) : Kd.S d e W w0.heap.size P (.slice (some ⟨g, 0, none⟩) n cap) (xs.set i.toNat x') := Kd.H_back h.H hM hok
/-- A cell of the element is stored into. -/
theorem Hol.store {P' : Program} {ops : Array Oper} {rest : List Oper} {o : Oper} {a : Act} {Q : Exit → Act → World → Prop} (hN : o.dst = none) (hgd : o.guard = none) (t : TypeId) (p x : Operand) (ho : o.op = .store t p x) (h : Hol d e w0 wi W P g n cap xs i oki c) (j : Nat) (u : Value)
    {q : Addr} (haddr : a.eval p = .pointer (some q)) (hx : a.eval x = u) (hq : q = ⟨g, i.toNat * d.sz + j, none⟩) (hu : u.cells.toList = [u]) (ht : (P'.info? t).map (·.size) = some 1) (h1 : u.oneCell' = true) (hj : j < d.sz)
    (hK : ∀ W1, Hol d e w0 wi W1 P g n cap xs i oki (c.set j u) → W.grownBy W1 (some g) → wpList P' ops Q rest a W1) : wpList P' ops Q (o :: rest) a W := by
  subst hq
  obtain ⟨hPg, hbg, hlt, _⟩ := h.own
  obtain ⟨rows, _, hraw, hcl, hco, hcc, hback⟩ := Kd.H_raw h.H h.i0 h.i1
  have e1 : c.take j ++ [u] ++ c.drop (j + [u].length) = c.set j u := by
    rw [List.set_eq_take_append_cons_drop, if_pos (by omega)]
    simp
  refine Kd.R_store (Kd.raw d.sz) w0.heap.size hN hgd t p x ho e i j rows (c.take j ++ [u] ++ c.drop (j + [u].length)) u [u] c (fun _ => True) (fun _ => False) haddr rfl hx hu ht (fun q hq => by rw [List.mem_singleton.1 hq]; exact h1) hraw h.i0 h.i1 hcl hcc (by show j + 1 ≤ d.sz; omega)
    ⟨rfl, by rw [e1, List.length_set]; exact hcl, fun y hy => by
      rw [e1] at hy
      rcases List.mem_or_eq_of_mem_set hy with hy | rfl
      · exact hco y hy
      · exact h1⟩ (fun _ hk => hk.elim) h.bel ?_
  intro W1 hr hb hg
  have hh := hback W1 _ hg hr
  rw [e1] at hh
  exact hK W1 ⟨hh, h.i0, h.i1, h.ne, Kept.of_grown hg h.kept (fun k hk => by cases hk; exact .inl hPg), hb⟩ hg
theorem Hol.innerSet {β : Type} {db : Kd β} {eb : Nat} {v : Value} {ys : List β} (h : Hol d e w0 wi W P g n cap xs i oki c) (hR : db.R eb W w0.heap.size oki v ys) (o : Nat) (u : Value) : db.R eb (W.setCell ⟨g, o, none⟩ u) w0.heap.size oki v ys :=
  Kd.R_far hR (fun k hk => (h.ne k hk).2) u
end
theorem blk_stores9 {W : World} {g t : Nat} {x0 x1 x2 x3 x4 x5 x6 x7 x8 : Value} {y0 y1 y2 y3 y4 y5 y6 y7 y8 : Value} (h : W.heap[g]? = some (.cells #[x0, x1, x2, x3, x4, x5, x6, x7, x8] t (0, 0))) :
    (((((((((W.setCell ⟨g, 0, none⟩ y0).setCell ⟨g, 1, none⟩ y1).setCell ⟨g, 2, none⟩ y2).setCell ⟨g, 3, none⟩ y3).setCell ⟨g, 4, none⟩ y4).setCell ⟨g, 5, none⟩ y5).setCell ⟨g, 6, none⟩ y6).setCell ⟨g, 7, none⟩ y7).setCell ⟨g, 8, none⟩ y8).heap[g]? = some (.cells #[y0, y1, y2, y3, y4, y5, y6, y7, y8] t (0, 0)) := by
  refine blk_put (cs := #[y0, y1, y2, y3, y4, y5, y6, y7, x8]) ?_ 8 _ rfl
  refine blk_put (cs := #[y0, y1, y2, y3, y4, y5, y6, x7, x8]) ?_ 7 _ rfl
  refine blk_put (cs := #[y0, y1, y2, y3, y4, y5, x6, x7, x8]) ?_ 6 _ rfl
  refine blk_put (cs := #[y0, y1, y2, y3, y4, x5, x6, x7, x8]) ?_ 5 _ rfl
  refine blk_put (cs := #[y0, y1, y2, y3, x4, x5, x6, x7, x8]) ?_ 4 _ rfl
  refine blk_put (cs := #[y0, y1, y2, x3, x4, x5, x6, x7, x8]) ?_ 3 _ rfl
  refine blk_put (cs := #[y0, y1, x2, x3, x4, x5, x6, x7, x8]) ?_ 2 _ rfl
  refine blk_put (cs := #[y0, x1, x2, x3, x4, x5, x6, x7, x8]) ?_ 1 _ rfl
  exact blk_put h 0 _ rfl
theorem kept_set1 {W W1 : World} {g j : Nat} {y : Value} (h : Kept W W1 (fun k => k = g)) : Kept W (W1.setCell ⟨g, j, none⟩ y) (fun k => k = g) := Kept.setCell h (.inl rfl) _
theorem kept_stores9 {W : World} {g : Nat} {y0 y1 y2 y3 y4 y5 y6 y7 y8 : Value} :
    Kept W (((((((((W.setCell ⟨g, 0, none⟩ y0).setCell ⟨g, 1, none⟩ y1).setCell ⟨g, 2, none⟩ y2).setCell ⟨g, 3, none⟩ y3).setCell ⟨g, 4, none⟩ y4).setCell ⟨g, 5, none⟩ y5).setCell ⟨g, 6, none⟩ y6).setCell ⟨g, 7, none⟩ y7).setCell ⟨g, 8, none⟩ y8) (fun k => k = g) := by
  refine kept_set1 ?_
  refine kept_set1 ?_
  refine kept_set1 ?_
  refine kept_set1 ?_
  refine kept_set1 ?_
  refine kept_set1 ?_
  refine kept_set1 ?_
  refine kept_set1 ?_
  refine kept_set1 ?_
  exact Kept.refl _ _
theorem below_stores9 {w0 W : World} {g : Nat} {y0 y1 y2 y3 y4 y5 y6 y7 y8 : Value} (h : Below w0.heap.size w0 W) (hg : w0.heap.size ≤ g) :
    Below w0.heap.size w0 (((((((((W.setCell ⟨g, 0, none⟩ y0).setCell ⟨g, 1, none⟩ y1).setCell ⟨g, 2, none⟩ y2).setCell ⟨g, 3, none⟩ y3).setCell ⟨g, 4, none⟩ y4).setCell ⟨g, 5, none⟩ y5).setCell ⟨g, 6, none⟩ y6).setCell ⟨g, 7, none⟩ y7).setCell ⟨g, 8, none⟩ y8) := by
  refine below_set ?_ hg
  refine below_set ?_ hg
  refine below_set ?_ hg
  refine below_set ?_ hg
  refine below_set ?_ hg
  refine below_set ?_ hg
  refine below_set ?_ hg
  refine below_set ?_ hg
  refine below_set ?_ hg
  exact h
section
variable {α : Type} {d : Kd α} {e t lo hi g n c : Nat} {w0 W W1 : World} {cs : Array Value} {v : Value} {A : Option Addr} {l l' : List α} {S : Nat → Prop}
/-- A box of the law's own and the row that it leads to: their blocks lie from lo up to hi. -/
structure ResR {α : Type} (d : Kd α) (e t : Nat) (w0 W : World) (lo hi g : Nat) (cs : Array Value) (v : Value) (l : List α) : Prop where
  b : W.heap[g]? = some (.cells cs t (0, 0))
  ge : lo ≤ g
  lt : g < hi
  sz : hi ≤ W.heap.size
  r : d.R e W w0.heap.size (fun k => lo ≤ k ∧ k < hi ∧ k ≠ g) v l
structure ResS {α : Type} (d : Kd α) (e t : Nat) (w0 W : World) (lo hi g : Nat) (cs : Array Value) (v : Value) (l : List α) : Prop where
  b : W.heap[g]? = some (.cells cs t (0, 0))
  ge : lo ≤ g
  lt : g < hi
  sz : hi ≤ W.heap.size
  r : Kd.S d e W w0.heap.size (fun k => lo ≤ k ∧ k < hi ∧ k ≠ g) v l
theorem ResR.keep (h : ResR d e t w0 W lo hi g cs v l) (hb : Below W.heap.size W W1) : ResR d e t w0 W1 lo hi g cs v l :=
  ⟨blk_below h.b hb, h.ge, h.lt, Nat.le_trans h.sz hb.size, Kd.R_below h.r hb⟩
theorem ResS.keep (h : ResS d e t w0 W lo hi g cs v l) (hb : Below W.heap.size W W1) : ResS d e t w0 W1 lo hi g cs v l :=
  ⟨blk_below h.b hb, h.ge, h.lt, Nat.le_trans h.sz hb.size, Kd.S_below h.r hb⟩
theorem ResR.kept (h : ResR d e t w0 W lo hi g cs v l) (hk : Kept W W1 S) (hs : ∀ k, S k → k < lo ∨ hi ≤ k) : ResR d e t w0 W1 lo hi g cs v l :=
  ⟨blk_kept h.b hk (fun x => by have := hs _ x; have := h.ge; have := h.lt; omega), h.ge, h.lt, Nat.le_trans h.sz hk.1, Kd.R_kept h.r hk (fun k hx x => by have := hs _ x; omega)⟩
theorem ResS.kept (h : ResS d e t w0 W lo hi g cs v l) (hk : Kept W W1 S) (hs : ∀ k, S k → k < lo ∨ hi ≤ k) : ResS d e t w0 W1 lo hi g cs v l :=
  ⟨blk_kept h.b hk (fun x => by have := hs _ x; have := h.ge; have := h.lt; omega), h.ge, h.lt, Nat.le_trans h.sz hk.1, Kd.S_kept h.r hk (fun k hx x => by have := hs _ x; omega)⟩
/-- Marked: the row's blocks alone are written. -/
theorem ResS.mark (h : ResS d e t w0 W lo hi g cs v l) (hk : Kept W W1 (fun k => lo ≤ k ∧ k < hi ∧ k ≠ g)) (hr : Kd.S d e W1 w0.heap.size (fun k => lo ≤ k ∧ k < hi ∧ k ≠ g) v l') : ResS d e t w0 W1 lo hi g cs v l' :=
  ⟨blk_kept h.b hk (fun x => x.2.2 rfl), h.ge, h.lt, Nat.le_trans h.sz hk.1, hr⟩
theorem ResR.mark {P : Nat → Prop} (h : ResR d e t w0 W lo hi g cs v l) (hE : d.E = []) (hk : Kept W W1 (fun k => lo ≤ k ∧ k < hi ∧ k ≠ g)) (hr : d.R e W1 w0.heap.size P v l') : ResR d e t w0 W1 lo hi g cs v l' :=
  ⟨blk_kept h.b hk (fun x => x.2.2 rfl), h.ge, h.lt, Nat.le_trans h.sz hk.1, Kd.R_mono (Kd.R_tight hE hr) (fun k e_ => h.r.1 k e_.symm)⟩
theorem ResR.reads (h : ResR d e t w0 W lo hi g cs (.slice A n c) l) : n = l.length ∧ n ≤ c ∧ d.C W A l.length l := Kd.R_reads' h.r
theorem ResS.reads (h : ResS d e t w0 W lo hi g cs (.slice A n c) l) : n = l.length ∧ n ≤ c ∧ d.C W A l.length l := Kd.S_reads' h.r
theorem ResR.mk2 (b : W.heap[g]? = some (.cells cs t (0, 0))) (lo' : lo ≤ g) (hi' : g < hi) (sz : W.heap.size = hi) (h0 : w0.heap.size ≤ lo) (h : d.R e W lo (fun _ => True) v l) (ht : ∀ q, q ∈ e :: d.E → q ≠ t) : ResR d e t w0 W lo hi g cs v l :=
  ⟨b, lo', hi', Nat.le_of_eq sz.symm, Kd.R_lower (Kd.R_mono (Kd.R_bound (Kd.R_types h b ht)) (fun k hk => ⟨hk.2.1, sz ▸ hk.2.2.1, hk.1.2⟩)) h0⟩
theorem ResS.mk2 (b : W.heap[g]? = some (.cells cs t (0, 0))) (lo' : lo ≤ g) (hi' : g < hi) (sz : W.heap.size = hi) (h0 : w0.heap.size ≤ lo) (h : Kd.S d e W lo (fun _ => True) v l) (ht : ∀ q, q ∈ e :: d.E → q ≠ t) : ResS d e t w0 W lo hi g cs v l :=
  ⟨b, lo', hi', Nat.le_of_eq sz.symm, Kd.S_lower (Kd.S_mono (Kd.S_bound (Kd.S_types h b ht)) (fun k hk => ⟨hk.2.1, sz ▸ hk.2.2.1, hk.1.2⟩)) h0⟩
theorem ResR.stored9 {x0 x1 x2 x3 x4 x5 x6 x7 x8 y0 y1 y2 y3 y4 y5 y6 y7 y8 : Value} {W' : World} (hW : W' = (((((((((W.setCell ⟨g, 0, none⟩ y0).setCell ⟨g, 1, none⟩ y1).setCell ⟨g, 2, none⟩ y2).setCell ⟨g, 3, none⟩ y3).setCell ⟨g, 4, none⟩ y4).setCell ⟨g, 5, none⟩ y5).setCell ⟨g, 6, none⟩ y6).setCell ⟨g, 7, none⟩ y7).setCell ⟨g, 8, none⟩ y8)) (hg : W.heap[g]? = some (.cells #[x0, x1, x2, x3, x4, x5, x6, x7, x8] t (0, 0))) (ge : lo ≤ g) (h0 : w0.heap.size ≤ lo) (h : d.R e W lo (fun _ => True) v l) (ht : ∀ q, q ∈ e :: d.E → q ≠ t) :
    ResR d e t w0 W' lo W'.heap.size g #[y0, y1, y2, y3, y4, y5, y6, y7, y8] v l := by
  subst hW
  have hb := blk_stores9 (y0 := y0) (y1 := y1) (y2 := y2) (y3 := y3) (y4 := y4) (y5 := y5) (y6 := y6) (y7 := y7) (y8 := y8) hg
  exact ResR.mk2 hb ge (blk_lt hb) rfl h0 (Kd.R_mono (Kd.R_kept (Kd.R_types h hg ht) kept_stores9 (fun k hk => hk.2)) (fun _ _ => trivial)) ht
end
end Go.Proofs.YtnbohlcibgfjaaaDoor.Gp
end
