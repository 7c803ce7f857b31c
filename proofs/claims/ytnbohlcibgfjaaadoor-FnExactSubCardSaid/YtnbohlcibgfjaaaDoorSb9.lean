/- A part of the proof of RowFnExactSub: each text's theorems that it needs, packed by shake.py, a program of this work; Lean checks them. -/
import Derived.Test.YtnbohlcibgfjaaaDoorSb2
import Derived.Test.YtnbohlcibgfjaaaDoorSb8
section
namespace Go.Proofs.YtnbohlcibgfjaaaDoor.Gp
open Go.RowKit Go.Proofs.YtnbohlcibgfjaaaDoorW.PrintWords Go.Proofs.YtnbohlcibgfjaaaDoorW.PrintLast Go.Proofs.YtnbohlcibgfjaaaDoorW.PrintMore
set_option linter.unusedVariables false
set_option linter.unusedSimpArgs false
mutual
def spec_l1Demands.j0 : Nat → List (S186) → Bool → Int → List ByteArray → List Int → Int → List ByteArray → List Int → Option ((List (S186)) × Bool)
  | 0, _, _, _, _, _, _, _, _ => none
  | k + 1, x8, x31, x248000, x248001, x248002, x250000, x250001, x250002 => if x31 = true then (some (x8, true)) else (if x248000 = x250000 then (if x248000 = 4 then (if 0 < (x250002.length : Int) then (if 0 < (x248002.length : Int) then (if x8.length < 8796093022208 then ((some (x8 ++ [(⟨rd x250002 0, rd x248002 0⟩ : S186)] : List (S186))).bind fun y255 => (if 1 < (x248002.length : Int) then (if 1 < (x250002.length : Int) then (if y255.length < 8796093022208 then (some ((y255 ++ [(⟨rd x248002 1, rd x250002 1⟩ : S186)]), true)) else (none)) else (none)) else (none))) else (none)) else (none)) else (none)) else (spec_l1Demands.l0 k x8 0 x248000 x248001 x248002 x250000 x250001 x250002)) else (some (x8, false)))
def spec_l1Demands.l0 : Nat → List (S186) → Int → Int → List ByteArray → List Int → Int → List ByteArray → List Int → Option ((List (S186)) × Bool)
  | 0, _, _, _, _, _, _, _, _ => none
  | k + 1, x8, x9, x248000, x248001, x248002, x250000, x250001, x250002 => if x9 < (x250001.length : Int) then (if 0 ≤ x9 then ((spec_l1Kid.f k x248000 x248001 x248002 (rdOf ByteArray.empty x250001 x9)).bind fun t264 => (if t264 < 0 then (some ((([] : List (S186))), false)) else (if x9 < (x250002.length : Int) then (if x8.length < 8796093022208 then (spec_l1Demands.l0 k (x8 ++ [(⟨t264, rd x250002 x9⟩ : S186)]) (wrap64 (x9 + 1)) x248000 x248001 x248002 x250000 x250001 x250002) else (none)) else (none)))) else (none)) else (some (x8, true))
end
def spec_l1Demands.f (k : Nat) (l0_0 : List (S145)) (a1_0 : Int) (a1_1 : Int) : Option ((List (S186)) × Bool) := if 0 ≤ a1_0 then (if a1_0 < (l0_0.length : Int) then (if 0 ≤ a1_1 then (if a1_1 < (l0_0.length : Int) then ((some (([] : List (S186)) : List (S186))).bind fun y250 => (if ((rd_T145 l0_0 a1_0).f0) = 0 then (spec_l1Demands.j0 k y250 true ((rd_T145 l0_0 a1_0).f0) ((rd_T145 l0_0 a1_0).f1) ((rd_T145 l0_0 a1_0).f2) ((rd_T145 l0_0 a1_1).f0) ((rd_T145 l0_0 a1_1).f1) ((rd_T145 l0_0 a1_1).f2)) else (spec_l1Demands.j0 k y250 (((rd_T145 l0_0 a1_1).f0) == 0) ((rd_T145 l0_0 a1_0).f0) ((rd_T145 l0_0 a1_0).f1) ((rd_T145 l0_0 a1_0).f2) ((rd_T145 l0_0 a1_1).f0) ((rd_T145 l0_0 a1_1).f1) ((rd_T145 l0_0 a1_1).f2)))) else (none)) else (none)) else (none)) else (none)
def spec_l1Demands.T9 : Bool × List (List Nat × List Nat) := (true, [([], []), ([], []), ([1], [1]), ([2], [2]), ([3], [3]), ([], []), ([5], [5]), ([6], [6]), ([7], [7]), ([4, 8], [4, 8]), ([9], [9]), ([0, 10], [0, 10]), ([11, 11, 0, 1, 2, 3, 4, 5, 6, 7, 8, 9, 10, 11], [0, 11])])
def spec_l1Demands.B9 : List Nat := [0, 0, 2, 6, 14, 0, 32, 96, 224, 510, 1022, 2047, 4095]
theorem spec_l1Demands.tab9 : rtab .any (opsOf Tryd.f143 9) = spec_l1Demands.T9 := by kernel_rfl
theorem spec_l1Demands.bits9 : waitsOk spec_l1Demands.T9.2 spec_l1Demands.B9 = true := by kernel_rfl
def spec_l1Demands.T10 : Bool × List (List Nat × List Nat) := (true, [([], []), ([], []), ([1], [1]), ([2], [2]), ([3], [3]), ([], []), ([5], [5]), ([6], [6]), ([7], [7]), ([4, 8], [4, 8]), ([9], [9]), ([0, 10], [0, 10]), ([11, 11, 0, 1, 2, 3, 4, 5, 6, 7, 8, 9, 10, 11], [0, 11])])
def spec_l1Demands.B10 : List Nat := [0, 0, 2, 6, 14, 0, 32, 96, 224, 510, 1022, 2047, 4095]
theorem spec_l1Demands.tab10 : rtab .any (opsOf Tryd.f143 10) = spec_l1Demands.T10 := by kernel_rfl
theorem spec_l1Demands.bits10 : waitsOk spec_l1Demands.T10.2 spec_l1Demands.B10 = true := by kernel_rfl
def spec_l1Demands.T15 : Bool × List (List Nat × List Nat) := (true, [([], []), ([], []), ([1], [1]), ([], []), ([2, 3], [2, 3]), ([4], [4]), ([0, 5], [0, 5]), ([6, 6, 0, 1, 2, 3, 4, 5, 6], [6])])
def spec_l1Demands.B15 : List Nat := [0, 0, 2, 0, 14, 30, 63, 127]
theorem spec_l1Demands.tab15 : rtab .any (opsOf Tryd.f143 15) = spec_l1Demands.T15 := by kernel_rfl
theorem spec_l1Demands.bits15 : waitsOk spec_l1Demands.T15.2 spec_l1Demands.B15 = true := by kernel_rfl
set_option maxHeartbeats 8000000 in
set_option maxRecDepth 100000 in
theorem spec_l1Demands.calls (k : Nat) (A0_0 : Option Addr) (c0_0 : Nat) (l0_0 : List (S145)) (a1_0 : Int) (a1_1 : Int) (r1 : List (S186)) (r2 : Bool) (w : World) (hr0_0 : Kd.C k145 w A0_0 l0_0.length l0_0) (hc0_0 : l0_0.length ≤ c0_0) (h : spec_l1Demands.f k l0_0 a1_0 a1_1 = some (r1, r2)) :
    Calls Tryd.prog 143 #[.agg #[.slice A0_0 l0_0.length c0_0], .agg #[.int .i64 a1_0, .int .i64 a1_1]] w fun e w' => ∃ v0_ : Value, e = .returned (.tuple #[v0_, .bool r2]) ∧ Kd.R k186 186 w' w.heap.size (fun _ => True) v0_ r1 ∧ Below w.heap.size w w' := by
  have hu76 := Tryd.underlying76
  have hu186 := Tryd.underlying186
  have hu145 := Tryd.underlying145
  have HR0_0 := Aside0.mk hr0_0
  have HC0_0 := Aside0.mk hc0_0
  clear hr0_0 hc0_0
  have HB := Aside0.mk (Below.refl w.heap.size w)
  have H : (if 0 ≤ a1_0 then (if a1_0 < (l0_0.length : Int) then (if 0 ≤ a1_1 then (if a1_1 < (l0_0.length : Int) then ((some (([] : List (S186)) : List (S186))).bind fun y250 => (if ((rd_T145 l0_0 a1_0).f0) = 0 then (spec_l1Demands.j0 k y250 true ((rd_T145 l0_0 a1_0).f0) ((rd_T145 l0_0 a1_0).f1) ((rd_T145 l0_0 a1_0).f2) ((rd_T145 l0_0 a1_1).f0) ((rd_T145 l0_0 a1_1).f1) ((rd_T145 l0_0 a1_1).f2)) else (spec_l1Demands.j0 k y250 (((rd_T145 l0_0 a1_1).f0) == 0) ((rd_T145 l0_0 a1_0).f0) ((rd_T145 l0_0 a1_0).f1) ((rd_T145 l0_0 a1_0).f2) ((rd_T145 l0_0 a1_1).f0) ((rd_T145 l0_0 a1_1).f1) ((rd_T145 l0_0 a1_1).f2)))) else (none)) else (none)) else (none)) else (none)) = some (r1, r2) := h
  clear h
  by_cases c3 : 0 ≤ a1_0
  · rw [if_pos c3] at H
    have c3b0 : decide (0 ≤ a1_0) = true := decide_eq_true c3
    clear c3
    by_cases c4 : a1_0 < (l0_0.length : Int)
    · rw [if_pos c4] at H
      have c4b0 : decide (a1_0 < (l0_0.length : Int)) = true := decide_eq_true c4
      clear c4
      by_cases c5 : 0 ≤ a1_1
      · rw [if_pos c5] at H
        have c5b0 : decide (0 ≤ a1_1) = true := decide_eq_true c5
        clear c5
        by_cases c6 : a1_1 < (l0_0.length : Int)
        · rw [if_pos c6] at H
          have c6b0 : decide (a1_1 < (l0_0.length : Int)) = true := decide_eq_true c6
          clear c6
          obtain ⟨y250, hy250⟩ : ∃ y_ : List (S186), y_ = (([] : List (S186))) := ⟨_, rfl⟩
          replace H : (if ((rd_T145 l0_0 a1_0).f0) = 0 then (spec_l1Demands.j0 k y250 true ((rd_T145 l0_0 a1_0).f0) ((rd_T145 l0_0 a1_0).f1) ((rd_T145 l0_0 a1_0).f2) ((rd_T145 l0_0 a1_1).f0) ((rd_T145 l0_0 a1_1).f1) ((rd_T145 l0_0 a1_1).f2)) else (spec_l1Demands.j0 k y250 (((rd_T145 l0_0 a1_1).f0) == 0) ((rd_T145 l0_0 a1_0).f0) ((rd_T145 l0_0 a1_0).f1) ((rd_T145 l0_0 a1_0).f2) ((rd_T145 l0_0 a1_1).f0) ((rd_T145 l0_0 a1_1).f1) ((rd_T145 l0_0 a1_1).f2))) = some (r1, r2) := by first | (rw [hy250]; with_reducible exact H) | (have H2_ := (Option.bind_some _ _).symm.trans H; rw [hy250]; with_reducible exact H2_) | (have H2_ := (Option.bind_some _ _).symm.trans H; with_reducible exact H2_) | with_reducible exact H | (rw [hy250]; exact H) | exact H
          have Ny250 := Aside0.mk hy250
          clear hy250
          have HC7 := Aside0.mk H
          clear H
          go_enter Tryd.func143, Tryd.ntmps143
          go_upto_region 4 with (first | ((with_reducible refine gate_dst (N := 2) rfl ?_); refine box_event ?hg (N := 2) ?hd (cs := #[.slice A0_0 l0_0.length c0_0]) (t := 76) ?hr ?_; (case hd => rfl); (case hg => rfl); (case hr => first | (go_simp; done) | (go_simp; rfl)); intro gb244 hg w8 hbox hb; have n0_ := Aside0.mk (below_step (by repeat (first | (with_reducible first | exact HB.out | apply below_alloc | apply pw_below_drewN | apply below_drew1) | exact HB.out)) hb); have n1_ := Aside0.mk (hbox); have n2_ := Aside0.mk ((by rw [hg]; exact (below_size (by repeat (first | (with_reducible first | exact HB.out | apply below_alloc | apply pw_below_drewN | apply below_drew1) | exact HB.out))) : w.heap.size ≤ gb244)); have n3_ := Aside0.mk ((by rw [hg]; exact (below_size (by repeat (first | (with_reducible first | exact HB.out | apply below_alloc | apply pw_below_drewN | apply below_drew1) | exact HB.out))) : w.heap.size ≤ gb244)); clear HB; have HB := n0_; have BK244 := n1_; have GW244 := n2_; have GE244 := n3_; clear n0_ n1_ n2_ n3_; clear hb hbox hg) | ((with_reducible refine gate_dst (N := 3) rfl ?_); refine box_event ?hg (N := 3) ?hd (cs := #[.int .i64 a1_0, .int .i64 a1_1]) (t := 186) ?hr ?_; (case hd => rfl); (case hg => rfl); (case hr => first | (go_simp; done) | (go_simp; rfl)); intro gb245 hg w9 hbox hb; have n0_ := Aside0.mk (blk_below (g := gb244) (o := .cells #[.slice A0_0 l0_0.length c0_0] 76 (0, 0)) (by (with_reducible repeat (first | refine blk_drewN ?_ _ | refine blk_drew ?_ | refine blk_alloc ?_ _)); exact BK244.out) hb); have n1_ := Aside0.mk (below_step (by repeat (first | (with_reducible first | exact HB.out | apply below_alloc | apply pw_below_drewN | apply below_drew1 | refine below_set ?_ GE244.out) | exact HB.out)) hb); have n2_ := Aside0.mk (hbox); have n3_ := Aside0.mk ((by rw [hg]; exact (below_size (by repeat (first | (with_reducible first | exact HB.out | apply below_alloc | apply pw_below_drewN | apply below_drew1 | refine below_set ?_ GE244.out) | exact HB.out))) : w.heap.size ≤ gb245)); have n4_ := Aside0.mk ((by rw [hg]; exact (below_size (by repeat (first | (with_reducible first | exact HB.out | apply below_alloc | apply pw_below_drewN | apply below_drew1 | refine below_set ?_ GE244.out) | exact HB.out))) : w.heap.size ≤ gb245)); have n5_ := Aside0.mk ((by rw [hg]; exact Nat.ne_of_lt (blk_lt (g := gb244) (o := .cells #[.slice A0_0 l0_0.length c0_0] 76 (0, 0)) (by (with_reducible repeat (first | refine blk_drewN ?_ _ | refine blk_drew ?_ | refine blk_alloc ?_ _)); exact BK244.out)) : gb244 ≠ gb245)); have n6_ := Aside0.mk ((by rw [hg]; exact Nat.ne_of_gt (blk_lt (g := gb244) (o := .cells #[.slice A0_0 l0_0.length c0_0] 76 (0, 0)) (by (with_reducible repeat (first | refine blk_drewN ?_ _ | refine blk_drew ?_ | refine blk_alloc ?_ _)); exact BK244.out)) : gb245 ≠ gb244)); clear BK244; clear HB; have BK244 := n0_; have HB := n1_; have BK245 := n2_; have GW245 := n3_; have GE245 := n4_; have NB244_245 := n5_; have NB245_244 := n6_; clear n0_ n1_ n2_ n3_ n4_ n5_ n6_; clear hb hbox hg; have hnb10 := NB244_245.out; have hnc10 := NB245_244.out; have hcz11_0 : w9.cell? ⟨gb244, 0, none⟩ = some (.slice A0_0 l0_0.length c0_0) := (blk_cell BK244.out 0).trans rfl; have hfz11_0 := blk_frozen BK244.out 0; have hcz12_0 : w9.cell? ⟨gb245, 0, none⟩ = some (.int .i64 a1_0) := (blk_cell BK245.out 0).trans rfl; have hcz12_1 : w9.cell? ⟨gb245, 1, none⟩ = some (.int .i64 a1_1) := (blk_cell BK245.out 1).trans rfl; have hfz12_0 := blk_frozen BK245.out 0; have hfz12_1 := blk_frozen BK245.out 1; have p246 : 0 ≤ (a1_0 : Int) := of_decide_eq_true (by first | (with_reducible assumption) | assumption); have q246 : a1_0 < (l0_0.length : Int) := of_decide_eq_true (by first | (with_reducible assumption) | assumption); obtain ⟨ad246, A246_1, c246_1, A246_2, c246_2, e246, hx246_0, hx246_1, hx246_2, hl246_1, hi246_1, hl246_2, hi246_2⟩ := at_T145 HR0_0.out a1_0 p246 q246; cases e246; replace hx246_0 := (HB.out.cell (World.block_lt_of_cell? w _ hx246_0)).trans hx246_0; replace hx246_1 := (HB.out.cell (World.block_lt_of_cell? w _ hx246_1)).trans hx246_1; replace hx246_2 := (HB.out.cell (World.block_lt_of_cell? w _ hx246_2)).trans hx246_2; have HR246_1 := Aside0.mk hi246_1; have HC246_1 := Aside0.mk hl246_1; clear hi246_1 hl246_1; have HR246_2 := Aside0.mk hi246_2; have HC246_2 := Aside0.mk hl246_2; clear hi246_2 hl246_2; replace p246 := eq_true p246; replace q246 := eq_true q246) | ((with_reducible refine gate_dst (N := 6) rfl ?_); refine box_event ?hg (N := 6) ?hd (cs := #[.int .i64 0, .slice none 0 0, .slice none 0 0]) (t := 145) ?hr ?_; (case hd => rfl); (case hg => rfl); (case hr => first | (go_simp; done) | (go_simp; rfl)); intro gb247 hg w13 hbox hb; have n0_ := Aside0.mk (blk_below (g := gb244) (o := .cells #[.slice (some ad246) l0_0.length c0_0] 76 (0, 0)) (by (with_reducible repeat (first | refine blk_drewN ?_ _ | refine blk_drew ?_ | refine blk_alloc ?_ _)); exact BK244.out) hb); have n1_ := Aside0.mk (blk_below (g := gb245) (o := .cells #[.int .i64 a1_0, .int .i64 a1_1] 186 (0, 0)) (by (with_reducible repeat (first | refine blk_drewN ?_ _ | refine blk_drew ?_ | refine blk_alloc ?_ _)); exact BK245.out) hb); have n2_ := Aside0.mk (below_step (by repeat (first | (with_reducible first | exact HB.out | apply below_alloc | apply pw_below_drewN | apply below_drew1 | refine below_set ?_ GE244.out | refine below_set ?_ GE245.out) | exact HB.out)) hb); have n3_ := Aside0.mk (hbox); have n4_ := Aside0.mk ((by rw [hg]; exact (below_size (by repeat (first | (with_reducible first | exact HB.out | apply below_alloc | apply pw_below_drewN | apply below_drew1 | refine below_set ?_ GE244.out | refine below_set ?_ GE245.out) | exact HB.out))) : w.heap.size ≤ gb247)); have n5_ := Aside0.mk ((by rw [hg]; exact (below_size (by repeat (first | (with_reducible first | exact HB.out | apply below_alloc | apply pw_below_drewN | apply below_drew1 | refine below_set ?_ GE244.out | refine below_set ?_ GE245.out) | exact HB.out))) : w.heap.size ≤ gb247)); have n6_ := Aside0.mk ((by rw [hg]; exact Nat.ne_of_lt (blk_lt (g := gb244) (o := .cells #[.slice (some ad246) l0_0.length c0_0] 76 (0, 0)) (by (with_reducible repeat (first | refine blk_drewN ?_ _ | refine blk_drew ?_ | refine blk_alloc ?_ _)); exact BK244.out)) : gb244 ≠ gb247)); have n7_ := Aside0.mk ((by rw [hg]; exact Nat.ne_of_gt (blk_lt (g := gb244) (o := .cells #[.slice (some ad246) l0_0.length c0_0] 76 (0, 0)) (by (with_reducible repeat (first | refine blk_drewN ?_ _ | refine blk_drew ?_ | refine blk_alloc ?_ _)); exact BK244.out)) : gb247 ≠ gb244)); have n8_ := Aside0.mk ((by rw [hg]; exact Nat.ne_of_lt (blk_lt (g := gb245) (o := .cells #[.int .i64 a1_0, .int .i64 a1_1] 186 (0, 0)) (by (with_reducible repeat (first | refine blk_drewN ?_ _ | refine blk_drew ?_ | refine blk_alloc ?_ _)); exact BK245.out)) : gb245 ≠ gb247)); have n9_ := Aside0.mk ((by rw [hg]; exact Nat.ne_of_gt (blk_lt (g := gb245) (o := .cells #[.int .i64 a1_0, .int .i64 a1_1] 186 (0, 0)) (by (with_reducible repeat (first | refine blk_drewN ?_ _ | refine blk_drew ?_ | refine blk_alloc ?_ _)); exact BK245.out)) : gb247 ≠ gb245)); clear BK244; clear BK245; clear HB; have BK244 := n0_; have BK245 := n1_; have HB := n2_; have BK247 := n3_; have GW247 := n4_; have GE247 := n5_; have NB244_247 := n6_; have NB247_244 := n7_; have NB245_247 := n8_; have NB247_245 := n9_; clear n0_ n1_ n2_ n3_ n4_ n5_ n6_ n7_ n8_ n9_; clear hb hbox hg; have hnb14 := NB247_244.out; have hnc14 := NB244_247.out; have hnb15 := NB247_245.out; have hnc15 := NB245_247.out; have hcz16_0 : w13.cell? ⟨gb247, 0, none⟩ = some (.int .i64 0) := (blk_cell BK247.out 0).trans rfl; have hcz16_1 : w13.cell? ⟨gb247, 1, none⟩ = some (.slice none 0 0) := (blk_cell BK247.out 1).trans rfl; have hcz16_2 : w13.cell? ⟨gb247, 2, none⟩ = some (.slice none 0 0) := (blk_cell BK247.out 2).trans rfl; have hfz16_0 := blk_frozen BK247.out 0; have hfz16_1 := blk_frozen BK247.out 1; have hfz16_2 := blk_frozen BK247.out 2; have hcz17_0 : w13.cell? ⟨gb244, 0, none⟩ = some (.slice (some ad246) l0_0.length c0_0) := (blk_cell BK244.out 0).trans rfl; have hfz17_0 := blk_frozen BK244.out 0; have hcz18_0 : w13.cell? ⟨gb245, 0, none⟩ = some (.int .i64 a1_0) := (blk_cell BK245.out 0).trans rfl; have hcz18_1 : w13.cell? ⟨gb245, 1, none⟩ = some (.int .i64 a1_1) := (blk_cell BK245.out 1).trans rfl; have hfz18_0 := blk_frozen BK245.out 0; have hfz18_1 := blk_frozen BK245.out 1; have p248 : 0 ≤ (a1_1 : Int) := of_decide_eq_true (by first | (with_reducible assumption) | assumption); have q248 : a1_1 < (l0_0.length : Int) := of_decide_eq_true (by first | (with_reducible assumption) | assumption); obtain ⟨ad248, A248_1, c248_1, A248_2, c248_2, e248, hx248_0, hx248_1, hx248_2, hl248_1, hi248_1, hl248_2, hi248_2⟩ := at_T145 HR0_0.out a1_1 p248 q248; obtain rfl : ad246 = ad248 := (by injection e248); have hn248_0 : ad246.block ≠ gb247 := Nat.ne_of_lt (Nat.lt_of_lt_of_le (by have := World.block_lt_of_cell? _ _ hx248_0; first | rwa [add_block] at this | exact this) GW247.out); have hn248_1 : ad246.block ≠ gb247 := Nat.ne_of_lt (Nat.lt_of_lt_of_le (by have := World.block_lt_of_cell? _ _ hx248_0; first | rwa [add_block] at this | exact this) GW247.out); have hn248_2 : ad246.block ≠ gb247 := Nat.ne_of_lt (Nat.lt_of_lt_of_le (by have := World.block_lt_of_cell? _ _ hx248_0; first | rwa [add_block] at this | exact this) GW247.out); replace hx248_0 := (HB.out.cell (World.block_lt_of_cell? w _ hx248_0)).trans hx248_0; replace hx248_1 := (HB.out.cell (World.block_lt_of_cell? w _ hx248_1)).trans hx248_1; replace hx248_2 := (HB.out.cell (World.block_lt_of_cell? w _ hx248_2)).trans hx248_2; have HR248_1 := Aside0.mk hi248_1; have HC248_1 := Aside0.mk hl248_1; clear hi248_1 hl248_1; have HR248_2 := Aside0.mk hi248_2; have HC248_2 := Aside0.mk hl248_2; clear hi248_2 hl248_2; replace hx248_0 := (cell_far (p := ⟨gb247, 0, none⟩) (by first | (rw [add_block]; exact hn248_0) | (show (Addr.add _ _).block ≠ _; rw [add_block]; exact hn248_0) | exact hn248_0) (.int .i64 ((rd_T145 l0_0 a1_0).f0))).trans hx248_0; replace hx248_1 := (cell_far (p := ⟨gb247, 0, none⟩) (by first | (rw [add_block]; exact hn248_0) | (show (Addr.add _ _).block ≠ _; rw [add_block]; exact hn248_0) | exact hn248_0) (.int .i64 ((rd_T145 l0_0 a1_0).f0))).trans hx248_1; replace hx248_2 := (cell_far (p := ⟨gb247, 0, none⟩) (by first | (rw [add_block]; exact hn248_0) | (show (Addr.add _ _).block ≠ _; rw [add_block]; exact hn248_0) | exact hn248_0) (.int .i64 ((rd_T145 l0_0 a1_0).f0))).trans hx248_2; replace hx248_0 := (cell_far (p := ⟨gb247, 1, none⟩) (by first | (rw [add_block]; exact hn248_1) | (show (Addr.add _ _).block ≠ _; rw [add_block]; exact hn248_1) | exact hn248_1) (.slice A246_1 ((rd_T145 l0_0 a1_0).f1).length c246_1)).trans hx248_0; replace hx248_1 := (cell_far (p := ⟨gb247, 1, none⟩) (by first | (rw [add_block]; exact hn248_1) | (show (Addr.add _ _).block ≠ _; rw [add_block]; exact hn248_1) | exact hn248_1) (.slice A246_1 ((rd_T145 l0_0 a1_0).f1).length c246_1)).trans hx248_1; replace hx248_2 := (cell_far (p := ⟨gb247, 1, none⟩) (by first | (rw [add_block]; exact hn248_1) | (show (Addr.add _ _).block ≠ _; rw [add_block]; exact hn248_1) | exact hn248_1) (.slice A246_1 ((rd_T145 l0_0 a1_0).f1).length c246_1)).trans hx248_2; replace hx248_0 := (cell_far (p := ⟨gb247, 2, none⟩) (by first | (rw [add_block]; exact hn248_2) | (show (Addr.add _ _).block ≠ _; rw [add_block]; exact hn248_2) | exact hn248_2) (.slice A246_2 ((rd_T145 l0_0 a1_0).f2).length c246_2)).trans hx248_0; replace hx248_1 := (cell_far (p := ⟨gb247, 2, none⟩) (by first | (rw [add_block]; exact hn248_2) | (show (Addr.add _ _).block ≠ _; rw [add_block]; exact hn248_2) | exact hn248_2) (.slice A246_2 ((rd_T145 l0_0 a1_0).f2).length c246_2)).trans hx248_1; replace hx248_2 := (cell_far (p := ⟨gb247, 2, none⟩) (by first | (rw [add_block]; exact hn248_2) | (show (Addr.add _ _).block ≠ _; rw [add_block]; exact hn248_2) | exact hn248_2) (.slice A246_2 ((rd_T145 l0_0 a1_0).f2).length c246_2)).trans hx248_2; clear hn248_0; clear hn248_1; clear hn248_2; replace p248 := eq_true p248; replace q248 := eq_true q248) | ((with_reducible refine gate_dst (N := 7) rfl ?_); refine box_event ?hg (N := 7) ?hd (cs := #[.int .i64 0, .slice none 0 0, .slice none 0 0]) (t := 145) ?hr ?_; (case hd => rfl); (case hg => rfl); (case hr => first | (go_simp; done) | (go_simp; rfl)); intro gb249 hg w19 hbox hb; have n0_ := Aside0.mk (blk_below (g := gb244) (o := .cells #[.slice (some ad246) l0_0.length c0_0] 76 (0, 0)) (by (with_reducible repeat (first | refine blk_drewN ?_ _ | refine blk_drew ?_ | refine blk_alloc ?_ _)); refine blk_far ?_ NB244_247.out _; (with_reducible repeat (first | refine blk_drewN ?_ _ | refine blk_drew ?_ | refine blk_alloc ?_ _)); refine blk_far ?_ NB244_247.out _; (with_reducible repeat (first | refine blk_drewN ?_ _ | refine blk_drew ?_ | refine blk_alloc ?_ _)); refine blk_far ?_ NB244_247.out _; (with_reducible repeat (first | refine blk_drewN ?_ _ | refine blk_drew ?_ | refine blk_alloc ?_ _)); exact BK244.out) hb); have n1_ := Aside0.mk (blk_below (g := gb245) (o := .cells #[.int .i64 a1_0, .int .i64 a1_1] 186 (0, 0)) (by (with_reducible repeat (first | refine blk_drewN ?_ _ | refine blk_drew ?_ | refine blk_alloc ?_ _)); refine blk_far ?_ NB245_247.out _; (with_reducible repeat (first | refine blk_drewN ?_ _ | refine blk_drew ?_ | refine blk_alloc ?_ _)); refine blk_far ?_ NB245_247.out _; (with_reducible repeat (first | refine blk_drewN ?_ _ | refine blk_drew ?_ | refine blk_alloc ?_ _)); refine blk_far ?_ NB245_247.out _; (with_reducible repeat (first | refine blk_drewN ?_ _ | refine blk_drew ?_ | refine blk_alloc ?_ _)); exact BK245.out) hb); have n2_ := Aside0.mk (blk_below (g := gb247) (o := .cells #[.int .i64 ((rd_T145 l0_0 a1_0).f0), .slice A246_1 ((rd_T145 l0_0 a1_0).f1).length c246_1, .slice A246_2 ((rd_T145 l0_0 a1_0).f2).length c246_2] 145 (0, 0)) (by (with_reducible repeat (first | refine blk_drewN ?_ _ | refine blk_drew ?_ | refine blk_alloc ?_ _)); refine blk_put (cs := #[.int .i64 ((rd_T145 l0_0 a1_0).f0), .slice A246_1 ((rd_T145 l0_0 a1_0).f1).length c246_1, .slice none 0 0]) ?_ 2 _ rfl; (with_reducible repeat (first | refine blk_drewN ?_ _ | refine blk_drew ?_ | refine blk_alloc ?_ _)); refine blk_put (cs := #[.int .i64 ((rd_T145 l0_0 a1_0).f0), .slice none 0 0, .slice none 0 0]) ?_ 1 _ rfl; (with_reducible repeat (first | refine blk_drewN ?_ _ | refine blk_drew ?_ | refine blk_alloc ?_ _)); refine blk_put (cs := #[.int .i64 0, .slice none 0 0, .slice none 0 0]) ?_ 0 _ rfl; (with_reducible repeat (first | refine blk_drewN ?_ _ | refine blk_drew ?_ | refine blk_alloc ?_ _)); exact BK247.out) hb); have n3_ := Aside0.mk (below_step (by repeat (first | (with_reducible first | exact HB.out | apply below_alloc | apply pw_below_drewN | apply below_drew1 | refine below_set ?_ GE244.out | refine below_set ?_ GE245.out | refine below_set ?_ GE247.out) | exact HB.out)) hb); have n4_ := Aside0.mk (hbox); have n5_ := Aside0.mk ((by rw [hg]; exact (below_size (by repeat (first | (with_reducible first | exact HB.out | apply below_alloc | apply pw_below_drewN | apply below_drew1 | refine below_set ?_ GE244.out | refine below_set ?_ GE245.out | refine below_set ?_ GE247.out) | exact HB.out))) : w.heap.size ≤ gb249)); have n6_ := Aside0.mk ((by rw [hg]; exact (below_size (by repeat (first | (with_reducible first | exact HB.out | apply below_alloc | apply pw_below_drewN | apply below_drew1 | refine below_set ?_ GE244.out | refine below_set ?_ GE245.out | refine below_set ?_ GE247.out) | exact HB.out))) : w.heap.size ≤ gb249)); have n7_ := Aside0.mk ((by rw [hg]; exact Nat.ne_of_lt (blk_lt (g := gb244) (o := .cells #[.slice (some ad246) l0_0.length c0_0] 76 (0, 0)) (by (with_reducible repeat (first | refine blk_drewN ?_ _ | refine blk_drew ?_ | refine blk_alloc ?_ _)); refine blk_far ?_ NB244_247.out _; (with_reducible repeat (first | refine blk_drewN ?_ _ | refine blk_drew ?_ | refine blk_alloc ?_ _)); refine blk_far ?_ NB244_247.out _; (with_reducible repeat (first | refine blk_drewN ?_ _ | refine blk_drew ?_ | refine blk_alloc ?_ _)); refine blk_far ?_ NB244_247.out _; (with_reducible repeat (first | refine blk_drewN ?_ _ | refine blk_drew ?_ | refine blk_alloc ?_ _)); exact BK244.out)) : gb244 ≠ gb249)); have n8_ := Aside0.mk ((by rw [hg]; exact Nat.ne_of_gt (blk_lt (g := gb244) (o := .cells #[.slice (some ad246) l0_0.length c0_0] 76 (0, 0)) (by (with_reducible repeat (first | refine blk_drewN ?_ _ | refine blk_drew ?_ | refine blk_alloc ?_ _)); refine blk_far ?_ NB244_247.out _; (with_reducible repeat (first | refine blk_drewN ?_ _ | refine blk_drew ?_ | refine blk_alloc ?_ _)); refine blk_far ?_ NB244_247.out _; (with_reducible repeat (first | refine blk_drewN ?_ _ | refine blk_drew ?_ | refine blk_alloc ?_ _)); refine blk_far ?_ NB244_247.out _; (with_reducible repeat (first | refine blk_drewN ?_ _ | refine blk_drew ?_ | refine blk_alloc ?_ _)); exact BK244.out)) : gb249 ≠ gb244)); have n9_ := Aside0.mk ((by rw [hg]; exact Nat.ne_of_lt (blk_lt (g := gb245) (o := .cells #[.int .i64 a1_0, .int .i64 a1_1] 186 (0, 0)) (by (with_reducible repeat (first | refine blk_drewN ?_ _ | refine blk_drew ?_ | refine blk_alloc ?_ _)); refine blk_far ?_ NB245_247.out _; (with_reducible repeat (first | refine blk_drewN ?_ _ | refine blk_drew ?_ | refine blk_alloc ?_ _)); refine blk_far ?_ NB245_247.out _; (with_reducible repeat (first | refine blk_drewN ?_ _ | refine blk_drew ?_ | refine blk_alloc ?_ _)); refine blk_far ?_ NB245_247.out _; (with_reducible repeat (first | refine blk_drewN ?_ _ | refine blk_drew ?_ | refine blk_alloc ?_ _)); exact BK245.out)) : gb245 ≠ gb249)); have n10_ := Aside0.mk ((by rw [hg]; exact Nat.ne_of_gt (blk_lt (g := gb245) (o := .cells #[.int .i64 a1_0, .int .i64 a1_1] 186 (0, 0)) (by (with_reducible repeat (first | refine blk_drewN ?_ _ | refine blk_drew ?_ | refine blk_alloc ?_ _)); refine blk_far ?_ NB245_247.out _; (with_reducible repeat (first | refine blk_drewN ?_ _ | refine blk_drew ?_ | refine blk_alloc ?_ _)); refine blk_far ?_ NB245_247.out _; (with_reducible repeat (first | refine blk_drewN ?_ _ | refine blk_drew ?_ | refine blk_alloc ?_ _)); refine blk_far ?_ NB245_247.out _; (with_reducible repeat (first | refine blk_drewN ?_ _ | refine blk_drew ?_ | refine blk_alloc ?_ _)); exact BK245.out)) : gb249 ≠ gb245)); have n11_ := Aside0.mk ((by rw [hg]; exact Nat.ne_of_lt (blk_lt (g := gb247) (o := .cells #[.int .i64 ((rd_T145 l0_0 a1_0).f0), .slice A246_1 ((rd_T145 l0_0 a1_0).f1).length c246_1, .slice A246_2 ((rd_T145 l0_0 a1_0).f2).length c246_2] 145 (0, 0)) (by (with_reducible repeat (first | refine blk_drewN ?_ _ | refine blk_drew ?_ | refine blk_alloc ?_ _)); refine blk_put (cs := #[.int .i64 ((rd_T145 l0_0 a1_0).f0), .slice A246_1 ((rd_T145 l0_0 a1_0).f1).length c246_1, .slice none 0 0]) ?_ 2 _ rfl; (with_reducible repeat (first | refine blk_drewN ?_ _ | refine blk_drew ?_ | refine blk_alloc ?_ _)); refine blk_put (cs := #[.int .i64 ((rd_T145 l0_0 a1_0).f0), .slice none 0 0, .slice none 0 0]) ?_ 1 _ rfl; (with_reducible repeat (first | refine blk_drewN ?_ _ | refine blk_drew ?_ | refine blk_alloc ?_ _)); refine blk_put (cs := #[.int .i64 0, .slice none 0 0, .slice none 0 0]) ?_ 0 _ rfl; (with_reducible repeat (first | refine blk_drewN ?_ _ | refine blk_drew ?_ | refine blk_alloc ?_ _)); exact BK247.out)) : gb247 ≠ gb249)); have n12_ := Aside0.mk ((by rw [hg]; exact Nat.ne_of_gt (blk_lt (g := gb247) (o := .cells #[.int .i64 ((rd_T145 l0_0 a1_0).f0), .slice A246_1 ((rd_T145 l0_0 a1_0).f1).length c246_1, .slice A246_2 ((rd_T145 l0_0 a1_0).f2).length c246_2] 145 (0, 0)) (by (with_reducible repeat (first | refine blk_drewN ?_ _ | refine blk_drew ?_ | refine blk_alloc ?_ _)); refine blk_put (cs := #[.int .i64 ((rd_T145 l0_0 a1_0).f0), .slice A246_1 ((rd_T145 l0_0 a1_0).f1).length c246_1, .slice none 0 0]) ?_ 2 _ rfl; (with_reducible repeat (first | refine blk_drewN ?_ _ | refine blk_drew ?_ | refine blk_alloc ?_ _)); refine blk_put (cs := #[.int .i64 ((rd_T145 l0_0 a1_0).f0), .slice none 0 0, .slice none 0 0]) ?_ 1 _ rfl; (with_reducible repeat (first | refine blk_drewN ?_ _ | refine blk_drew ?_ | refine blk_alloc ?_ _)); refine blk_put (cs := #[.int .i64 0, .slice none 0 0, .slice none 0 0]) ?_ 0 _ rfl; (with_reducible repeat (first | refine blk_drewN ?_ _ | refine blk_drew ?_ | refine blk_alloc ?_ _)); exact BK247.out)) : gb249 ≠ gb247)); clear BK244; clear BK245; clear BK247; clear HB; have BK244 := n0_; have BK245 := n1_; have BK247 := n2_; have HB := n3_; have BK249 := n4_; have GW249 := n5_; have GE249 := n6_; have NB244_249 := n7_; have NB249_244 := n8_; have NB245_249 := n9_; have NB249_245 := n10_; have NB247_249 := n11_; have NB249_247 := n12_; clear n0_ n1_ n2_ n3_ n4_ n5_ n6_ n7_ n8_ n9_ n10_ n11_ n12_; clear hb hbox hg; have hnb20 := NB249_244.out; have hnc20 := NB244_249.out; have hnb21 := NB249_245.out; have hnc21 := NB245_249.out; have hnb22 := NB249_247.out; have hnc22 := NB247_249.out; have hcz23_0 : w19.cell? ⟨gb249, 0, none⟩ = some (.int .i64 0) := (blk_cell BK249.out 0).trans rfl; have hcz23_1 : w19.cell? ⟨gb249, 1, none⟩ = some (.slice none 0 0) := (blk_cell BK249.out 1).trans rfl; have hcz23_2 : w19.cell? ⟨gb249, 2, none⟩ = some (.slice none 0 0) := (blk_cell BK249.out 2).trans rfl; have hfz23_0 := blk_frozen BK249.out 0; have hfz23_1 := blk_frozen BK249.out 1; have hfz23_2 := blk_frozen BK249.out 2) | ((with_reducible refine gate_dst (N := 23) rfl ?_); refine Kd.R_lit k186 _ 186 ?hg (N := 23) ?hd (xs := ([] : List (S186))) (inner := []) (ok := fun _ => True) (okp := fun _ => True) ?hr ?hp (fun _ hk => hk) trivial (Below.refl _ _) (Nat.le_refl _) (by simp) ?_; (case hd => rfl); (case hg => rfl); (case hr => first | (go_simp; done) | (go_simp; rfl)); (case hp => exact (Reps.none _ _)); intro v251 w24 ho25 hb hg_ hnew_; clear hg_ hnew_; (first | rw [← Ny250.out] at ho25 | (simp only [Int.reduceToNat] at ho25; rw [← Ny250.out] at ho25)); have n0_ := Aside0.mk (Kd.R_lower (Kd.R_newB ho25 (g := gb245) (o := .cells #[.int .i64 a1_0, .int .i64 a1_1] 186 (0, 0)) (by (with_reducible repeat (first | refine blk_drewN ?_ _ | refine blk_drew ?_ | refine blk_alloc ?_ _)); refine blk_far ?_ NB245_249.out _; (with_reducible repeat (first | refine blk_drewN ?_ _ | refine blk_drew ?_ | refine blk_alloc ?_ _)); refine blk_far ?_ NB245_249.out _; (with_reducible repeat (first | refine blk_drewN ?_ _ | refine blk_drew ?_ | refine blk_alloc ?_ _)); refine blk_far ?_ NB245_249.out _; (with_reducible repeat (first | refine blk_drewN ?_ _ | refine blk_drew ?_ | refine blk_alloc ?_ _)); exact BK245.out)) (below_size (by repeat (first | (with_reducible first | exact HB.out | apply below_alloc | apply pw_below_drewN | apply below_drew1 | refine below_set ?_ GE244.out | refine below_set ?_ GE245.out | refine below_set ?_ GE247.out | refine below_set ?_ GE249.out) | exact HB.out)))); have n1_ := Aside0.mk (blk_below (g := gb244) (o := .cells #[.slice (some ad246) l0_0.length c0_0] 76 (0, 0)) (by (with_reducible repeat (first | refine blk_drewN ?_ _ | refine blk_drew ?_ | refine blk_alloc ?_ _)); refine blk_far ?_ NB244_249.out _; (with_reducible repeat (first | refine blk_drewN ?_ _ | refine blk_drew ?_ | refine blk_alloc ?_ _)); refine blk_far ?_ NB244_249.out _; (with_reducible repeat (first | refine blk_drewN ?_ _ | refine blk_drew ?_ | refine blk_alloc ?_ _)); refine blk_far ?_ NB244_249.out _; (with_reducible repeat (first | refine blk_drewN ?_ _ | refine blk_drew ?_ | refine blk_alloc ?_ _)); exact BK244.out) hb); have n2_ := Aside0.mk (blk_below (g := gb245) (o := .cells #[.int .i64 a1_0, .int .i64 a1_1] 186 (0, 0)) (by (with_reducible repeat (first | refine blk_drewN ?_ _ | refine blk_drew ?_ | refine blk_alloc ?_ _)); refine blk_far ?_ NB245_249.out _; (with_reducible repeat (first | refine blk_drewN ?_ _ | refine blk_drew ?_ | refine blk_alloc ?_ _)); refine blk_far ?_ NB245_249.out _; (with_reducible repeat (first | refine blk_drewN ?_ _ | refine blk_drew ?_ | refine blk_alloc ?_ _)); refine blk_far ?_ NB245_249.out _; (with_reducible repeat (first | refine blk_drewN ?_ _ | refine blk_drew ?_ | refine blk_alloc ?_ _)); exact BK245.out) hb); have n3_ := Aside0.mk (blk_below (g := gb247) (o := .cells #[.int .i64 ((rd_T145 l0_0 a1_0).f0), .slice A246_1 ((rd_T145 l0_0 a1_0).f1).length c246_1, .slice A246_2 ((rd_T145 l0_0 a1_0).f2).length c246_2] 145 (0, 0)) (by (with_reducible repeat (first | refine blk_drewN ?_ _ | refine blk_drew ?_ | refine blk_alloc ?_ _)); refine blk_far ?_ NB247_249.out _; (with_reducible repeat (first | refine blk_drewN ?_ _ | refine blk_drew ?_ | refine blk_alloc ?_ _)); refine blk_far ?_ NB247_249.out _; (with_reducible repeat (first | refine blk_drewN ?_ _ | refine blk_drew ?_ | refine blk_alloc ?_ _)); refine blk_far ?_ NB247_249.out _; (with_reducible repeat (first | refine blk_drewN ?_ _ | refine blk_drew ?_ | refine blk_alloc ?_ _)); exact BK247.out) hb); have n4_ := Aside0.mk (blk_below (g := gb249) (o := .cells #[.int .i64 ((rd_T145 l0_0 a1_1).f0), .slice A248_1 ((rd_T145 l0_0 a1_1).f1).length c248_1, .slice A248_2 ((rd_T145 l0_0 a1_1).f2).length c248_2] 145 (0, 0)) (by (with_reducible repeat (first | refine blk_drewN ?_ _ | refine blk_drew ?_ | refine blk_alloc ?_ _)); refine blk_put (cs := #[.int .i64 ((rd_T145 l0_0 a1_1).f0), .slice A248_1 ((rd_T145 l0_0 a1_1).f1).length c248_1, .slice none 0 0]) ?_ 2 _ rfl; (with_reducible repeat (first | refine blk_drewN ?_ _ | refine blk_drew ?_ | refine blk_alloc ?_ _)); refine blk_put (cs := #[.int .i64 ((rd_T145 l0_0 a1_1).f0), .slice none 0 0, .slice none 0 0]) ?_ 1 _ rfl; (with_reducible repeat (first | refine blk_drewN ?_ _ | refine blk_drew ?_ | refine blk_alloc ?_ _)); refine blk_put (cs := #[.int .i64 0, .slice none 0 0, .slice none 0 0]) ?_ 0 _ rfl; (with_reducible repeat (first | refine blk_drewN ?_ _ | refine blk_drew ?_ | refine blk_alloc ?_ _)); exact BK249.out) hb); have n5_ := Aside0.mk (below_step (by repeat (first | (with_reducible first | exact HB.out | apply below_alloc | apply pw_below_drewN | apply below_drew1 | refine below_set ?_ GE244.out | refine below_set ?_ GE245.out | refine below_set ?_ GE247.out | refine below_set ?_ GE249.out) | exact HB.out)) hb); clear BK244; clear BK245; clear BK247; clear BK249; clear HB; have HO252 := n0_; have BK244 := n1_; have BK245 := n2_; have BK247 := n3_; have BK249 := n4_; have HB := n5_; clear n0_ n1_ n2_ n3_ n4_ n5_; clear hb ho25))
          (try simp only [Act.put, List.setIfInBounds_toArray, List.set_cons_zero, List.set_cons_succ])
          go_cut [31] (fun v31 wc => ∃ (kq : Nat) (x31_6 : Bool), v31 = .bool x31_6 ∧ Aside0 (spec_l1Demands.j0 kq y250 x31_6 ((rd_T145 l0_0 a1_0).f0) ((rd_T145 l0_0 a1_0).f1) ((rd_T145 l0_0 a1_0).f2) ((rd_T145 l0_0 a1_1).f0) ((rd_T145 l0_0 a1_1).f1) ((rd_T145 l0_0 a1_1).f2) = some (r1, r2)) ∧ Aside0 (kq ≤ k) ∧ Aside0 (Kd.R k186 186 wc w.heap.size (fun k_ => k_ ≠ gb245) v251 y250) ∧ Aside0 (wc.heap[gb244]? = some (.cells #[(.slice (some ad246) l0_0.length c0_0)] 76 (0, 0))) ∧ Aside0 (wc.heap[gb245]? = some (.cells #[.int .i64 a1_0, .int .i64 a1_1] 186 (0, 0))) ∧ Aside0 (wc.heap[gb247]? = some (.cells #[.int .i64 ((rd_T145 l0_0 a1_0).f0), (.slice A246_1 ((rd_T145 l0_0 a1_0).f1).length c246_1), (.slice A246_2 ((rd_T145 l0_0 a1_0).f2).length c246_2)] 145 (0, 0))) ∧ Aside0 (wc.heap[gb249]? = some (.cells #[.int .i64 ((rd_T145 l0_0 a1_1).f0), (.slice A248_1 ((rd_T145 l0_0 a1_1).f1).length c248_1), (.slice A248_2 ((rd_T145 l0_0 a1_1).f2).length c248_2)] 145 (0, 0))) ∧ Aside0 (Below w.heap.size w wc))
          case first =>
            have H := HC7.out
            clear HC7
            by_cases c26 : ((rd_T145 l0_0 a1_0).f0) = 0
            · rw [if_pos c26] at H
              have c26b0 : (((rd_T145 l0_0 a1_0).f0) == 0) = true := beq_iff_eq.mpr c26
              have c26b1 : (((rd_T145 l0_0 a1_0).f0) != 0) = false := bne_eq_false_iff_eq.mpr c26
              clear c26
              (first | rw [c26b0] | (simp only [i64_w, i32_w]; rw [c26b0]) | simp only [c26b2, Bool.not_false, Bool.not_true] | skip)
              have H' := Aside0.mk H
              clear H
              have hnb27 := NB247_244.out
              have hnc27 := NB244_247.out
              have hnb28 := NB247_245.out
              have hnc28 := NB245_247.out
              have hnb29 := NB247_249.out
              have hnc29 := NB249_247.out
              obtain ⟨hcz30_0, hcz30_1, hcz30_2, hfz30_0, hfz30_1, hfz30_2⟩ := bkA3 BK247.out
              go_wp2
              go_meet
              case rel => exact ⟨_, (true), (by first | rfl | (simp; done) | (simp [*]; done)), H', ⟨by first | omega | exact Nat.le_refl _⟩, ⟨by (with_reducible repeat (first | apply Kd.R_alloc | apply Kd.R_drewN | apply Kd.R_drew)); exact Kd.R_mono HO252.out (fun _ hk => hk.2)⟩, ⟨by (with_reducible repeat (first | refine blk_drewN ?_ _ | refine blk_drew ?_ | refine blk_alloc ?_ _)); exact BK244.out⟩, ⟨by (with_reducible repeat (first | refine blk_drewN ?_ _ | refine blk_drew ?_ | refine blk_alloc ?_ _)); exact BK245.out⟩, ⟨by (with_reducible repeat (first | refine blk_drewN ?_ _ | refine blk_drew ?_ | refine blk_alloc ?_ _)); exact BK247.out⟩, ⟨by (with_reducible repeat (first | refine blk_drewN ?_ _ | refine blk_drew ?_ | refine blk_alloc ?_ _)); exact BK249.out⟩, ⟨by repeat (first | (with_reducible first | exact HB.out | apply below_alloc | apply pw_below_drewN | apply below_drew1 | refine below_set ?_ GE244.out | refine below_set ?_ GE245.out | refine below_set ?_ GE247.out | refine below_set ?_ GE249.out) | exact HB.out)⟩⟩
            · rw [if_neg c26] at H
              have c26b0 : (((rd_T145 l0_0 a1_0).f0) == 0) = false := beq_eq_false_iff_ne.mpr c26
              have c26b1 : (((rd_T145 l0_0 a1_0).f0) != 0) = true := bne_iff_ne.mpr c26
              (first | rw [c26b0] | (simp only [i64_w, i32_w]; rw [c26b0]) | simp only [c26b2, Bool.not_false, Bool.not_true] | skip)
              have H' := Aside0.mk H
              clear H
              have hnb31 := NB247_244.out
              have hnc31 := NB244_247.out
              have hnb32 := NB247_245.out
              have hnc32 := NB245_247.out
              have hnb33 := NB247_249.out
              have hnc33 := NB249_247.out
              obtain ⟨hcz34_0, hcz34_1, hcz34_2, hfz34_0, hfz34_1, hfz34_2⟩ := bkA3 BK247.out
              have hnb35 := NB249_244.out
              have hnc35 := NB244_249.out
              have hnb36 := NB249_245.out
              have hnc36 := NB245_249.out
              obtain ⟨hcz37_0, hcz37_1, hcz37_2, hfz37_0, hfz37_1, hfz37_2⟩ := bkA3 BK249.out
              go_wp2
              go_meet
              case rel => exact ⟨_, ((((rd_T145 l0_0 a1_1).f0) == 0)), (by first | rfl | (simp; done) | (simp [*]; done)), H', ⟨by first | omega | exact Nat.le_refl _⟩, ⟨by (with_reducible repeat (first | apply Kd.R_alloc | apply Kd.R_drewN | apply Kd.R_drew)); exact Kd.R_mono HO252.out (fun _ hk => hk.2)⟩, ⟨by (with_reducible repeat (first | refine blk_drewN ?_ _ | refine blk_drew ?_ | refine blk_alloc ?_ _)); exact BK244.out⟩, ⟨by (with_reducible repeat (first | refine blk_drewN ?_ _ | refine blk_drew ?_ | refine blk_alloc ?_ _)); exact BK245.out⟩, ⟨by (with_reducible repeat (first | refine blk_drewN ?_ _ | refine blk_drew ?_ | refine blk_alloc ?_ _)); exact BK247.out⟩, ⟨by (with_reducible repeat (first | refine blk_drewN ?_ _ | refine blk_drew ?_ | refine blk_alloc ?_ _)); exact BK249.out⟩, ⟨by repeat (first | (with_reducible first | exact HB.out | apply below_alloc | apply pw_below_drewN | apply below_drew1 | refine below_set ?_ GE244.out | refine below_set ?_ GE245.out | refine below_set ?_ GE247.out | refine below_set ?_ GE249.out) | exact HB.out)⟩⟩
          case rest =>
            clear HC7
            try clear c1
            try clear c2
            try clear p2
            try clear q2
            try clear hx2
            try clear c3
            try clear c3b0
            try clear c4
            try clear c4b0
            try clear c5
            try clear c5b0
            try clear c6
            try clear c6b0
            try clear c10
            try clear c14
            try clear c15
            try clear c20
            try clear c21
            try clear c22
            try clear c24
            try clear p24
            try clear q24
            try clear hx24
            try clear c26
            try clear c26b0
            try clear c26b1
            try clear c26b2
            try clear c27
            try clear c28
            try clear c29
            try clear c31
            try clear c32
            try clear c33
            try clear c35
            try clear c36
            try clear hcz11_0
            try clear hcz12_0
            try clear hcz12_1
            try clear hcz16_0
            try clear hcz16_1
            try clear hcz16_2
            try clear hcz17_0
            try clear hcz18_0
            try clear hcz18_1
            try clear hcz23_0
            try clear hcz23_1
            try clear hcz23_2
            try clear hcz30_0
            try clear hcz30_1
            try clear hcz30_2
            try clear hcz34_0
            try clear hcz34_1
            try clear hcz34_2
            try clear hcz37_0
            try clear hcz37_1
            try clear hcz37_2
            try clear hfz11_0
            try clear hfz12_0
            try clear hfz12_1
            try clear hfz16_0
            try clear hfz16_1
            try clear hfz16_2
            try clear hfz17_0
            try clear hfz18_0
            try clear hfz18_1
            try clear hfz23_0
            try clear hfz23_1
            try clear hfz23_2
            try clear hfz30_0
            try clear hfz30_1
            try clear hfz30_2
            try clear hfz34_0
            try clear hfz34_1
            try clear hfz34_2
            try clear hfz37_0
            try clear hfz37_1
            try clear hfz37_2
            try clear hx246_0
            try clear hx246_1
            try clear hx246_2
            try clear hx248_0
            try clear hx248_1
            try clear hx248_2
            try clear p246
            try clear p248
            try clear q246
            try clear q248
            obtain ⟨kq, x31_6, rfl, HA, HJ6, HO_8, BK244, BK245, BK247, BK249, HB⟩ := hcut
            cases kq with
            | zero => exact absurd HA.out (by simp [spec_l1Demands.j0])
            | succ kj6 =>
              have H := HA.out
              clear HA
              simp only [spec_l1Demands.j0] at H
              by_cases c38 : x31_6 = true
              · subst c38
                have H1 : (some (y250, true)) = some (r1, r2) := by rw [if_pos rfl] at H; exact H
                clear H
                have H := H1
                clear H1
                simp only [Option.some.injEq, Prod.mk.injEq] at H
                obtain ⟨rfl, rfl⟩ := H
                go_wp2
                go_ret2
                exact ⟨_, by first | rfl | (simp [errW_none, errW_some] <;> rfl) | (simp [*, errW_none, errW_some] <;> rfl), by (with_reducible repeat (first | apply Kd.R_alloc | apply Kd.R_drewN | apply Kd.R_drew)); exact Kd.R_mono HO_8.out (fun _ hk => trivial), by repeat (first | (with_reducible first | exact HB.out | apply below_alloc | apply pw_below_drewN | apply below_drew1 | refine below_set ?_ GE244.out | refine below_set ?_ GE245.out | refine below_set ?_ GE247.out | refine below_set ?_ GE249.out) | exact HB.out)⟩
              · replace c38 := Bool.eq_false_iff.mpr c38
                subst c38
                have H1 : (if ((rd_T145 l0_0 a1_0).f0) = ((rd_T145 l0_0 a1_1).f0) then (if ((rd_T145 l0_0 a1_0).f0) = 4 then (if 0 < (((rd_T145 l0_0 a1_1).f2).length : Int) then (if 0 < (((rd_T145 l0_0 a1_0).f2).length : Int) then (if y250.length < 8796093022208 then ((some (y250 ++ [(⟨rd ((rd_T145 l0_0 a1_1).f2) 0, rd ((rd_T145 l0_0 a1_0).f2) 0⟩ : S186)] : List (S186))).bind fun y255 => (if 1 < (((rd_T145 l0_0 a1_0).f2).length : Int) then (if 1 < (((rd_T145 l0_0 a1_1).f2).length : Int) then (if y255.length < 8796093022208 then (some ((y255 ++ [(⟨rd ((rd_T145 l0_0 a1_0).f2) 1, rd ((rd_T145 l0_0 a1_1).f2) 1⟩ : S186)]), true)) else (none)) else (none)) else (none))) else (none)) else (none)) else (none)) else (spec_l1Demands.l0 kj6 y250 0 ((rd_T145 l0_0 a1_0).f0) ((rd_T145 l0_0 a1_0).f1) ((rd_T145 l0_0 a1_0).f2) ((rd_T145 l0_0 a1_1).f0) ((rd_T145 l0_0 a1_1).f1) ((rd_T145 l0_0 a1_1).f2))) else (some (y250, false))) = some (r1, r2) := by rw [if_neg (show ¬ (false = true) by decide)] at H; exact H
                clear H
                have H := H1
                clear H1
                by_cases c39 : ((rd_T145 l0_0 a1_0).f0) = ((rd_T145 l0_0 a1_1).f0)
                · rw [if_pos c39] at H
                  have c39b0 : (((rd_T145 l0_0 a1_0).f0) == ((rd_T145 l0_0 a1_1).f0)) = true := beq_iff_eq.mpr c39
                  have c39b1 : (((rd_T145 l0_0 a1_0).f0) != ((rd_T145 l0_0 a1_1).f0)) = false := bne_eq_false_iff_eq.mpr c39
                  clear c39
                  by_cases c40 : ((rd_T145 l0_0 a1_0).f0) = 4
                  · rw [if_pos c40] at H
                    have c40b0 : (((rd_T145 l0_0 a1_0).f0) == 4) = true := beq_iff_eq.mpr c40
                    have c40b1 : (((rd_T145 l0_0 a1_0).f0) != 4) = false := bne_eq_false_iff_eq.mpr c40
                    clear c40
                    by_cases c41 : 0 < (((rd_T145 l0_0 a1_1).f2).length : Int)
                    · rw [if_pos c41] at H
                      have c41b0 : decide (0 < (((rd_T145 l0_0 a1_1).f2).length : Int)) = true := decide_eq_true c41
                      have c41b1 : decide (0 < ((rd_T145 l0_0 a1_1).f2).length) = true := decide_eq_true (by omega)
                      clear c41
                      by_cases c42 : 0 < (((rd_T145 l0_0 a1_0).f2).length : Int)
                      · rw [if_pos c42] at H
                        have c42b0 : decide (0 < (((rd_T145 l0_0 a1_0).f2).length : Int)) = true := decide_eq_true c42
                        have c42b1 : decide (0 < ((rd_T145 l0_0 a1_0).f2).length) = true := decide_eq_true (by omega)
                        clear c42
                        by_cases c43 : y250.length < 8796093022208
                        · rw [if_pos c43] at H
                          have LMc43 := Aside0.mk c43
                          clear c43
                          obtain ⟨y255, hy255⟩ : ∃ y_ : List (S186), y_ = (y250 ++ [(⟨rd ((rd_T145 l0_0 a1_1).f2) 0, rd ((rd_T145 l0_0 a1_0).f2) 0⟩ : S186)]) := ⟨_, rfl⟩
                          replace H : (if 1 < (((rd_T145 l0_0 a1_0).f2).length : Int) then (if 1 < (((rd_T145 l0_0 a1_1).f2).length : Int) then (if y255.length < 8796093022208 then (some ((y255 ++ [(⟨rd ((rd_T145 l0_0 a1_0).f2) 1, rd ((rd_T145 l0_0 a1_1).f2) 1⟩ : S186)]), true)) else (none)) else (none)) else (none)) = some (r1, r2) := by first | (rw [hy255]; with_reducible exact H) | (have H2_ := (Option.bind_some _ _).symm.trans H; rw [hy255]; with_reducible exact H2_) | (have H2_ := (Option.bind_some _ _).symm.trans H; with_reducible exact H2_) | with_reducible exact H | (rw [hy255]; exact H) | exact H
                          have Ny255 := Aside0.mk hy255
                          clear hy255
                          by_cases c44 : 1 < (((rd_T145 l0_0 a1_0).f2).length : Int)
                          · rw [if_pos c44] at H
                            have c44b0 : decide (1 < (((rd_T145 l0_0 a1_0).f2).length : Int)) = true := decide_eq_true c44
                            have c44b1 : decide (1 < ((rd_T145 l0_0 a1_0).f2).length) = true := decide_eq_true (by omega)
                            clear c44
                            by_cases c45 : 1 < (((rd_T145 l0_0 a1_1).f2).length : Int)
                            · rw [if_pos c45] at H
                              have c45b0 : decide (1 < (((rd_T145 l0_0 a1_1).f2).length : Int)) = true := decide_eq_true c45
                              have c45b1 : decide (1 < ((rd_T145 l0_0 a1_1).f2).length) = true := decide_eq_true (by omega)
                              clear c45
                              by_cases c46 : y255.length < 8796093022208
                              · rw [if_pos c46] at H
                                have LMc46 := Aside0.mk c46
                                clear c46
                                obtain ⟨y260, hy260⟩ : ∃ y_ : List (S186), y_ = (y255 ++ [(⟨rd ((rd_T145 l0_0 a1_0).f2) 1, rd ((rd_T145 l0_0 a1_1).f2) 1⟩ : S186)]) := ⟨_, rfl⟩
                                replace H : (some (y260, true)) = some (r1, r2) := by first | (rw [hy260]; with_reducible exact H) | (have H2_ := (Option.bind_some _ _).symm.trans H; rw [hy260]; with_reducible exact H2_) | (have H2_ := (Option.bind_some _ _).symm.trans H; with_reducible exact H2_) | with_reducible exact H | (rw [hy260]; exact H) | exact H
                                have Ny260 := Aside0.mk hy260
                                clear hy260
                                simp only [Option.some.injEq, Prod.mk.injEq] at H
                                obtain ⟨rfl, rfl⟩ := H
                                have hnb47 := NB247_244.out
                                have hnc47 := NB244_247.out
                                have hnb48 := NB247_245.out
                                have hnc48 := NB245_247.out
                                have hnb49 := NB247_249.out
                                have hnc49 := NB249_247.out
                                obtain ⟨hcz50_0, hcz50_1, hcz50_2, hfz50_0, hfz50_1, hfz50_2⟩ := bkA3 BK247.out
                                have hnb51 := NB249_244.out
                                have hnc51 := NB244_249.out
                                have hnb52 := NB249_245.out
                                have hnc52 := NB245_249.out
                                obtain ⟨hcz53_0, hcz53_1, hcz53_2, hfz53_0, hfz53_1, hfz53_2⟩ := bkA3 BK249.out
                                try go_wp2
                                have n0_ := Aside0.mk (Kd.R_drew HO_8.out)
                                have n1_ := Aside0.mk (blk_drew BK244.out)
                                have n2_ := Aside0.mk (blk_drew BK245.out)
                                have n3_ := Aside0.mk (blk_drew BK247.out)
                                have n4_ := Aside0.mk (blk_drew BK249.out)
                                have n5_ := Aside0.mk (below_drew1 HB.out)
                                clear HO_8
                                clear BK244
                                clear BK245
                                clear BK247
                                clear BK249
                                clear HB
                                have HO_8 := n0_
                                have BK244 := n1_
                                have BK245 := n2_
                                have BK247 := n3_
                                have BK249 := n4_
                                have HB := n5_
                                clear n0_ n1_ n2_ n3_ n4_ n5_
                                have p253 : 0 ≤ (0 : Int) := (by omega)
                                have q253 : 0 < (((rd_T145 l0_0 a1_1).f2).length : Int) := of_decide_eq_true (by first | (with_reducible assumption) | assumption)
                                obtain ⟨ad253, e253, hx253_0⟩ := Kd.at_int HR248_2.out 0 p253 q253
                                have hw253_0 := hx253_0
                                (try rw [show ((0 : Int)).toNat = 0 from rfl] at hw253_0)
                                (try rw [show 0 * 1 = 0 from rfl] at hw253_0)
                                (try rw [Addr.add_zero'] at hw253_0)
                                cases e253
                                have qi253 : (0 < ((rd_T145 l0_0 a1_1).f2).length) = True := eq_true (by omega)
                                (try rw [show ((0 : Int)).toNat = 0 from rfl] at hx253_0)
                                (try rw [Addr.add_zero'] at hx253_0)
                                replace hx253_0 := (HB.out.cell (World.block_lt_of_cell? w _ hx253_0)).trans hx253_0
                                replace p253 := eq_true p253
                                replace q253 := eq_true q253
                                have p254 : 0 ≤ (0 : Int) := (by omega)
                                have q254 : 0 < (((rd_T145 l0_0 a1_0).f2).length : Int) := of_decide_eq_true (by first | (with_reducible assumption) | assumption)
                                obtain ⟨ad254, e254, hx254_0⟩ := Kd.at_int HR246_2.out 0 p254 q254
                                have hw254_0 := hx254_0
                                (try rw [show ((0 : Int)).toNat = 0 from rfl] at hw254_0)
                                (try rw [show 0 * 1 = 0 from rfl] at hw254_0)
                                (try rw [Addr.add_zero'] at hw254_0)
                                cases e254
                                have qi254 : (0 < ((rd_T145 l0_0 a1_0).f2).length) = True := eq_true (by omega)
                                (try rw [show ((0 : Int)).toNat = 0 from rfl] at hx254_0)
                                (try rw [Addr.add_zero'] at hx254_0)
                                replace hx254_0 := (HB.out.cell (World.block_lt_of_cell? w _ hx254_0)).trans hx254_0
                                replace p254 := eq_true p254
                                replace q254 := eq_true q254
                                refine start_ (n := 13) (S := fun w' => w'.cell? ⟨gb249, 0, none⟩ = some (.int .i64 ((rd_T145 l0_0 a1_1).f0)) ∧ w'.cell? ⟨gb249, 1, none⟩ = some (.slice A248_1 ((rd_T145 l0_0 a1_1).f1).length c248_1) ∧ w'.cell? ⟨gb249, 2, none⟩ = some (.slice (some ad253) ((rd_T145 l0_0 a1_1).f2).length c248_2) ∧ w'.cell? ⟨gb247, 0, none⟩ = some (.int .i64 ((rd_T145 l0_0 a1_0).f0)) ∧ w'.cell? ⟨gb247, 1, none⟩ = some (.slice A246_1 ((rd_T145 l0_0 a1_0).f1).length c246_1) ∧ w'.cell? ⟨gb247, 2, none⟩ = some (.slice (some ad254) ((rd_T145 l0_0 a1_0).f2).length c246_2) ∧ w'.cell? ad253 = some (.int .i64 (rd ((rd_T145 l0_0 a1_1).f2) 0)) ∧ w'.cell? ad254 = some (.int .i64 (rd ((rd_T145 l0_0 a1_0).f2) 0))) (ds := []) #[false, false, false, false, false, false, false, false, false, false, false, false, false] (by kernel_rfl) rfl rfl ⟨(blk_cell BK249.out 0).trans rfl, (blk_cell BK249.out 1).trans rfl, (blk_cell BK249.out 2).trans rfl, (blk_cell BK247.out 0).trans rfl, (blk_cell BK247.out 1).trans rfl, (blk_cell BK247.out 2).trans rfl, ((HB.out.cell (World.block_lt_of_cell? w _ hw253_0)).trans hw253_0), ((HB.out.cell (World.block_lt_of_cell? w _ hw254_0)).trans hw254_0)⟩ (fun hHeld => ?_); refine with_tabW spec_l1Demands.tab9 spec_l1Demands.bits9 (fun HT_ HW_ => ?_)
                                generalize wc.drew = w54 at HO_8 BK244 BK245 BK247 BK249 HB hx253_0 hx254_0 hHeld ⊢
                                refine pure_ (i := 0) (N := some 42) (v := ?_) (a' := ?_) #[true, false, false, false, false, false, false, false, false, false, false, false, false] rfl rfl (any_of HT_.out (by kernel_rfl)) (fun _ _ _ h => h) (Or.inl ⟨by rfl, ?_⟩) ?_ ?_
                                rotate_left
                                · intro w'
                                  go_simp
                                  with_reducible rfl
                                rotate_left
                                · simp only [Act.put, sA_, i64_w, i32_w]
                                  rfl
                                refine pure_ (i := 1) (N := some 43) (v := ?_) (a' := ?_) #[true, true, false, false, false, false, false, false, false, false, false, false, false] rfl rfl (any_of HT_.out (by kernel_rfl)) (fun _ _ _ h => h) (Or.inl ⟨by rfl, ?_⟩) ?_ ?_
                                rotate_left
                                · intro w'
                                  go_simp
                                  with_reducible rfl
                                rotate_left
                                · simp only [Act.put, sA_, i64_w, i32_w]
                                  rfl
                                refine pure_ (i := 5) (N := some 47) (v := ?_) (a' := ?_) #[true, true, false, false, false, true, false, false, false, false, false, false, false] rfl rfl (any_of HT_.out (by kernel_rfl)) (fun _ _ _ h => h) (Or.inl ⟨by rfl, ?_⟩) ?_ ?_
                                rotate_left
                                · intro w'
                                  go_simp
                                  with_reducible rfl
                                rotate_left
                                · simp only [Act.put, sA_, i64_w, i32_w]
                                  rfl
                                refine take_ (i := 2) (N := some 44) (v := ?_) (a' := ?_) #[true, true, true, false, false, true, false, false, false, false, false, false, false] rfl rfl (take_ofW HT_.out HW_.out (by kernel_rfl)) (fun _ _ _ h => h) (Or.inl ⟨by rfl, ?_⟩) hHeld ?_ ?_
                                rotate_left
                                · rintro w' ⟨s0, s1, s2, s3, s4, s5, s6, s7⟩
                                  go_simp
                                  with_reducible rfl
                                rotate_left
                                · simp only [Act.put, sA_, i64_w, i32_w]
                                  rfl
                                refine pure_ (i := 3) (N := some 45) (v := ?_) (a' := ?_) #[true, true, true, true, false, true, false, false, false, false, false, false, false] rfl rfl (any_of HT_.out (by kernel_rfl)) (fun _ _ _ h => h) (Or.inl ⟨by rfl, ?_⟩) ?_ ?_
                                rotate_left
                                · intro w'
                                  go_simp
                                  with_reducible rfl
                                rotate_left
                                · simp only [Act.put, sA_, i64_w, i32_w]
                                  rfl
                                refine take_ (i := 4) (N := some 46) (v := ?_) (a' := ?_) #[true, true, true, true, true, true, false, false, false, false, false, false, false] rfl rfl (take_ofW HT_.out HW_.out (by kernel_rfl)) (fun _ _ _ h => h) (Or.inl ⟨by rfl, ?_⟩) hHeld ?_ ?_
                                rotate_left
                                · rintro w' ⟨s0, s1, s2, s3, s4, s5, s6, s7⟩
                                  go_simp
                                  with_reducible rfl
                                rotate_left
                                · simp only [Act.put, sA_, i64_w, i32_w]
                                  rfl
                                refine take_ (i := 6) (N := some 48) (v := ?_) (a' := ?_) #[true, true, true, true, true, true, true, false, false, false, false, false, false] rfl rfl (take_ofW HT_.out HW_.out (by kernel_rfl)) (fun _ _ _ h => h) (Or.inl ⟨by rfl, ?_⟩) hHeld ?_ ?_
                                rotate_left
                                · rintro w' ⟨s0, s1, s2, s3, s4, s5, s6, s7⟩
                                  go_simp
                                  with_reducible rfl
                                rotate_left
                                · simp only [Act.put, sA_, i64_w, i32_w]
                                  rfl
                                refine pure_ (i := 7) (N := some 49) (v := ?_) (a' := ?_) #[true, true, true, true, true, true, true, true, false, false, false, false, false] rfl rfl (any_of HT_.out (by kernel_rfl)) (fun _ _ _ h => h) (Or.inl ⟨by rfl, ?_⟩) ?_ ?_
                                rotate_left
                                · intro w'
                                  go_simp
                                  with_reducible rfl
                                rotate_left
                                · simp only [Act.put, sA_, i64_w, i32_w]
                                  rfl
                                refine take_ (i := 8) (N := some 50) (v := ?_) (a' := ?_) #[true, true, true, true, true, true, true, true, true, false, false, false, false] rfl rfl (take_ofW HT_.out HW_.out (by kernel_rfl)) (fun _ _ _ h => h) (Or.inl ⟨by rfl, ?_⟩) hHeld ?_ ?_
                                rotate_left
                                · rintro w' ⟨s0, s1, s2, s3, s4, s5, s6, s7⟩
                                  go_simp
                                  with_reducible rfl
                                rotate_left
                                · simp only [Act.put, sA_, i64_w, i32_w]
                                  rfl
                                refine pure_ (i := 9) (N := some 51) (v := ?_) (a' := ?_) #[true, true, true, true, true, true, true, true, true, true, false, false, false] rfl rfl (any_of HT_.out (by kernel_rfl)) (fun _ _ _ h => h) (Or.inl ⟨by rfl, ?_⟩) ?_ ?_
                                rotate_left
                                · intro w'
                                  go_simp
                                  with_reducible rfl
                                rotate_left
                                · simp only [Act.put, sA_, i64_w, i32_w]
                                  rfl
                                refine one_ (i := 10) (N := some 52) #[true, true, true, true, true, true, true, true, true, true, true, false, false] rfl rfl (one_of HT_.out (by kernel_rfl)) (by decide) (fun K hK => ?_)
                                refine value_ (w1 := ?_) (v := ?_) (by rfl) rfl ?_ ?_
                                rotate_left 2
                                · go_simp
                                  constructor
                                  · rfl
                                  · rfl
                                refine hK.out _ _ ⟨(blk_cell (blk_alloc BK249.out _) 0).trans rfl, (blk_cell (blk_alloc BK249.out _) 1).trans rfl, (blk_cell (blk_alloc BK249.out _) 2).trans rfl, (blk_cell (blk_alloc BK247.out _) 0).trans rfl, (blk_cell (blk_alloc BK247.out _) 1).trans rfl, (blk_cell (blk_alloc BK247.out _) 2).trans rfl, (World.cell?_alloc_lt _ _ _ (World.block_lt_of_cell? _ _ (((HB.out.cell (World.block_lt_of_cell? w _ hw253_0)).trans hw253_0)))).trans (((HB.out.cell (World.block_lt_of_cell? w _ hw253_0)).trans hw253_0)), (World.cell?_alloc_lt _ _ _ (World.block_lt_of_cell? _ _ (((HB.out.cell (World.block_lt_of_cell? w _ hw254_0)).trans hw254_0)))).trans (((HB.out.cell (World.block_lt_of_cell? w _ hw254_0)).trans hw254_0))⟩ (fun hHeld => ?_)
                                clear hK K
                                refine norm_ (a' := ?_) ?_ ?_
                                rotate_left
                                · show Act.put _ (some 52) _ = _
                                  simp only [Act.put, sA_, i64_w, i32_w]
                                  rfl
                                refine one_ (i := 11) (N := some 53) #[true, true, true, true, true, true, true, true, true, true, true, true, false] rfl rfl (one_of HT_.out (by kernel_rfl)) (by decide) (fun K hK => ?_)
                                refine Kd.R_append_step k186 (w0 := w) w.heap.size (by rfl) (.tmp 42) (.tmp 52) 187 186 (.agg #[(.int .i64 0), (.int .i64 0)]) 16 rfl Tryd.underlying187 info186 rfl (by decide) (by omega) v251 y250 (⟨rd ((rd_T145 l0_0 a1_1).f2) 0, rd ((rd_T145 l0_0 a1_0).f2) 0⟩ : S186) [.int .i64 (rd ((rd_T145 l0_0 a1_1).f2) 0), .int .i64 (rd ((rd_T145 l0_0 a1_0).f2) 0)] (fun k_ => k_ ≠ gb245) (fun _ => False) rfl rfl ?aP (fun _ hk => hk.elim) ?aF ?aO ?aB ?aS ?aL ?_
                                (case aP => exact k186_mkM _ _ _ (⟨rd ((rd_T145 l0_0 a1_1).f2) 0, rd ((rd_T145 l0_0 a1_0).f2) 0⟩ : S186))
                                (case aB => exact (by repeat (first | (with_reducible first | exact HB.out | apply below_alloc | apply pw_below_drewN | apply below_drew1 | refine below_set ?_ GE244.out | refine below_set ?_ GE245.out | refine below_set ?_ GE247.out | refine below_set ?_ GE249.out) | exact HB.out)))
                                (case aF => exact (fun k_ hk => Kd.freshB (g := gb245) (o := .cells #[.int .i64 a1_0, .int .i64 a1_1] 186 (0, 0)) (by (with_reducible repeat (first | refine blk_drewN ?_ _ | refine blk_drew ?_ | refine blk_alloc ?_ _)); exact BK245.out) k_ hk))
                                (case aO => exact (by (with_reducible repeat (first | apply Kd.R_alloc | apply Kd.R_drewN | apply Kd.R_drew)); exact HO_8.out))
                                (case aS => exact (below_size (by repeat (first | (with_reducible first | exact HB.out | apply below_alloc | apply pw_below_drewN | apply below_drew1 | refine below_set ?_ GE244.out | refine below_set ?_ GE245.out | refine below_set ?_ GE247.out | refine below_set ?_ GE249.out) | exact HB.out))))
                                (case aL => have := LMc43.out; omega)
                                intro v256 w55 ho hb hg hat
                                rw [← Ny255.out] at ho
                                have n0_ := Aside0.mk (blk_grown (g := gb244) (o := .cells #[.slice (some ad246) l0_0.length c0_0] 76 (0, 0)) (by (with_reducible repeat (first | refine blk_drewN ?_ _ | refine blk_drew ?_ | refine blk_alloc ?_ _)); exact BK244.out) hg (Kd.R_ne HO_8.out BK244.out (by decide)))
                                have n1_ := Aside0.mk (blk_grown (g := gb245) (o := .cells #[.int .i64 a1_0, .int .i64 a1_1] 186 (0, 0)) (by (with_reducible repeat (first | refine blk_drewN ?_ _ | refine blk_drew ?_ | refine blk_alloc ?_ _)); exact BK245.out) hg (Kd.R_away HO_8.out (fun _ hk => hk)))
                                have n2_ := Aside0.mk (blk_grown (g := gb247) (o := .cells #[.int .i64 ((rd_T145 l0_0 a1_0).f0), .slice A246_1 ((rd_T145 l0_0 a1_0).f1).length c246_1, .slice (some ad254) ((rd_T145 l0_0 a1_0).f2).length c246_2] 145 (0, 0)) (by (with_reducible repeat (first | refine blk_drewN ?_ _ | refine blk_drew ?_ | refine blk_alloc ?_ _)); exact BK247.out) hg (Kd.R_ne HO_8.out BK247.out (by decide)))
                                have n3_ := Aside0.mk (blk_grown (g := gb249) (o := .cells #[.int .i64 ((rd_T145 l0_0 a1_1).f0), .slice A248_1 ((rd_T145 l0_0 a1_1).f1).length c248_1, .slice (some ad253) ((rd_T145 l0_0 a1_1).f2).length c248_2] 145 (0, 0)) (by (with_reducible repeat (first | refine blk_drewN ?_ _ | refine blk_drew ?_ | refine blk_alloc ?_ _)); exact BK249.out) hg (Kd.R_ne HO_8.out BK249.out (by decide)))
                                have n4_ := Aside0.mk (hb)
                                have n5_ := Aside0.mk (ho)
                                clear BK244
                                clear BK245
                                clear BK247
                                clear BK249
                                clear HB
                                clear HO_8
                                have BK244 := n0_
                                have BK245 := n1_
                                have BK247 := n2_
                                have BK249 := n3_
                                have HB := n4_
                                have HO257 := n5_
                                clear n0_ n1_ n2_ n3_ n4_ n5_
                                clear ho hb hg hat
                                refine hK.out _ _ ⟨(blk_cell BK249.out 0).trans rfl, (blk_cell BK249.out 1).trans rfl, (blk_cell BK249.out 2).trans rfl, (blk_cell BK247.out 0).trans rfl, (blk_cell BK247.out 1).trans rfl, (blk_cell BK247.out 2).trans rfl, ((HB.out.cell (World.block_lt_of_cell? w _ hw253_0)).trans hw253_0), ((HB.out.cell (World.block_lt_of_cell? w _ hw254_0)).trans hw254_0)⟩ (fun hHeld => ?_)
                                clear hK K
                                refine norm_ (a' := ?_) ?_ ?_
                                rotate_left
                                · show Act.put _ (some 53) _ = _
                                  simp only [Act.put, sA_, i64_w, i32_w]
                                  rfl
                                refine pure_ (i := 12) (N := some 8) (v := ?_) (a' := ?_) #[true, true, true, true, true, true, true, true, true, true, true, true, true] rfl rfl (any_of HT_.out (by kernel_rfl)) (fun _ _ _ h => h) (Or.inl ⟨by rfl, ?_⟩) ?_ ?_
                                rotate_left
                                · intro w'
                                  go_simp
                                  with_reducible rfl
                                rotate_left
                                · simp only [Act.put, sA_, i64_w, i32_w]
                                  rfl
                                refine done_ (done_of HT_.out (by kernel_rfl)) ?_
                                try go_wp2
                                have n0_ := Aside0.mk (Kd.R_drew HO257.out)
                                have n1_ := Aside0.mk (blk_drew BK244.out)
                                have n2_ := Aside0.mk (blk_drew BK245.out)
                                have n3_ := Aside0.mk (blk_drew BK247.out)
                                have n4_ := Aside0.mk (blk_drew BK249.out)
                                have n5_ := Aside0.mk (below_drew1 HB.out)
                                clear HO257
                                clear BK244
                                clear BK245
                                clear BK247
                                clear BK249
                                clear HB
                                have HO257 := n0_
                                have BK244 := n1_
                                have BK245 := n2_
                                have BK247 := n3_
                                have BK249 := n4_
                                have HB := n5_
                                clear n0_ n1_ n2_ n3_ n4_ n5_
                                have p258 : 0 ≤ (1 : Int) := (by omega)
                                have q258 : 1 < (((rd_T145 l0_0 a1_0).f2).length : Int) := of_decide_eq_true (by first | (with_reducible assumption) | assumption)
                                obtain ⟨ad258, e258, hx258_0⟩ := Kd.at_int HR246_2.out 1 p258 q258
                                have hw258_0 := hx258_0
                                (try rw [show ((1 : Int)).toNat = 1 from rfl] at hw258_0)
                                (try rw [show 1 * 1 = 1 from rfl] at hw258_0)
                                (try simp only [Nat.reduceMul, Nat.reduceEqDiff, Go.Addr.add, ↓reduceIte] at hw258_0)
                                obtain rfl : ad254 = ad258 := (by injection e258)
                                (try simp only [show (1 : Int).toNat = 1 from rfl, Nat.reduceMul, Nat.reduceEqDiff, Go.Addr.add, ↓reduceIte] at hx258_0)
                                have qi258 : (1 < ((rd_T145 l0_0 a1_0).f2).length) = True := eq_true (by omega)
                                (try rw [show ((1 : Int)).toNat = 1 from rfl] at hx258_0)
                                replace hx258_0 := (HB.out.cell (World.block_lt_of_cell? w _ hx258_0)).trans hx258_0
                                replace p258 := eq_true p258
                                replace q258 := eq_true q258
                                have p259 : 0 ≤ (1 : Int) := (by omega)
                                have q259 : 1 < (((rd_T145 l0_0 a1_1).f2).length : Int) := of_decide_eq_true (by first | (with_reducible assumption) | assumption)
                                obtain ⟨ad259, e259, hx259_0⟩ := Kd.at_int HR248_2.out 1 p259 q259
                                have hw259_0 := hx259_0
                                (try rw [show ((1 : Int)).toNat = 1 from rfl] at hw259_0)
                                (try rw [show 1 * 1 = 1 from rfl] at hw259_0)
                                (try simp only [Nat.reduceMul, Nat.reduceEqDiff, Go.Addr.add, ↓reduceIte] at hw259_0)
                                obtain rfl : ad253 = ad259 := (by injection e259)
                                (try simp only [show (1 : Int).toNat = 1 from rfl, Nat.reduceMul, Nat.reduceEqDiff, Go.Addr.add, ↓reduceIte] at hx259_0)
                                have qi259 : (1 < ((rd_T145 l0_0 a1_1).f2).length) = True := eq_true (by omega)
                                (try rw [show ((1 : Int)).toNat = 1 from rfl] at hx259_0)
                                replace hx259_0 := (HB.out.cell (World.block_lt_of_cell? w _ hx259_0)).trans hx259_0
                                replace p259 := eq_true p259
                                replace q259 := eq_true q259
                                refine start_ (n := 13) (S := fun w' => w'.cell? ⟨gb247, 0, none⟩ = some (.int .i64 ((rd_T145 l0_0 a1_0).f0)) ∧ w'.cell? ⟨gb247, 1, none⟩ = some (.slice A246_1 ((rd_T145 l0_0 a1_0).f1).length c246_1) ∧ w'.cell? ⟨gb247, 2, none⟩ = some (.slice (some ad254) ((rd_T145 l0_0 a1_0).f2).length c246_2) ∧ w'.cell? ⟨gb249, 0, none⟩ = some (.int .i64 ((rd_T145 l0_0 a1_1).f0)) ∧ w'.cell? ⟨gb249, 1, none⟩ = some (.slice A248_1 ((rd_T145 l0_0 a1_1).f1).length c248_1) ∧ w'.cell? ⟨gb249, 2, none⟩ = some (.slice (some ad253) ((rd_T145 l0_0 a1_1).f2).length c248_2) ∧ w'.cell? ⟨ad254.block, ad254.off + 1, none⟩ = some (.int .i64 (rd ((rd_T145 l0_0 a1_0).f2) 1)) ∧ w'.cell? ⟨ad253.block, ad253.off + 1, none⟩ = some (.int .i64 (rd ((rd_T145 l0_0 a1_1).f2) 1))) (ds := []) #[false, false, false, false, false, false, false, false, false, false, false, false, false] (by kernel_rfl) rfl rfl ⟨(blk_cell BK247.out 0).trans rfl, (blk_cell BK247.out 1).trans rfl, (blk_cell BK247.out 2).trans rfl, (blk_cell BK249.out 0).trans rfl, (blk_cell BK249.out 1).trans rfl, (blk_cell BK249.out 2).trans rfl, ((HB.out.cell (World.block_lt_of_cell? w _ hw258_0)).trans hw258_0), ((HB.out.cell (World.block_lt_of_cell? w _ hw259_0)).trans hw259_0)⟩ (fun hHeld => ?_); refine with_tabW spec_l1Demands.tab10 spec_l1Demands.bits10 (fun HT_ HW_ => ?_)
                                generalize w55.drew = w56 at HO257 BK244 BK245 BK247 BK249 HB hx258_0 hx259_0 hHeld ⊢
                                refine pure_ (i := 0) (N := some 54) (v := ?_) (a' := ?_) #[true, false, false, false, false, false, false, false, false, false, false, false, false] rfl rfl (any_of HT_.out (by kernel_rfl)) (fun _ _ _ h => h) (Or.inl ⟨by rfl, ?_⟩) ?_ ?_
                                rotate_left
                                · intro w'
                                  go_simp
                                  with_reducible rfl
                                rotate_left
                                · simp only [Act.put, sA_, i64_w, i32_w]
                                  rfl
                                refine pure_ (i := 1) (N := some 55) (v := ?_) (a' := ?_) #[true, true, false, false, false, false, false, false, false, false, false, false, false] rfl rfl (any_of HT_.out (by kernel_rfl)) (fun _ _ _ h => h) (Or.inl ⟨by rfl, ?_⟩) ?_ ?_
                                rotate_left
                                · intro w'
                                  go_simp
                                  with_reducible rfl
                                rotate_left
                                · simp only [Act.put, sA_, i64_w, i32_w]
                                  rfl
                                refine pure_ (i := 5) (N := some 59) (v := ?_) (a' := ?_) #[true, true, false, false, false, true, false, false, false, false, false, false, false] rfl rfl (any_of HT_.out (by kernel_rfl)) (fun _ _ _ h => h) (Or.inl ⟨by rfl, ?_⟩) ?_ ?_
                                rotate_left
                                · intro w'
                                  go_simp
                                  with_reducible rfl
                                rotate_left
                                · simp only [Act.put, sA_, i64_w, i32_w]
                                  rfl
                                refine take_ (i := 2) (N := some 56) (v := ?_) (a' := ?_) #[true, true, true, false, false, true, false, false, false, false, false, false, false] rfl rfl (take_ofW HT_.out HW_.out (by kernel_rfl)) (fun _ _ _ h => h) (Or.inl ⟨by rfl, ?_⟩) hHeld ?_ ?_
                                rotate_left
                                · rintro w' ⟨s0, s1, s2, s3, s4, s5, s6, s7⟩
                                  go_simp
                                  with_reducible rfl
                                rotate_left
                                · simp only [Act.put, sA_, i64_w, i32_w]
                                  rfl
                                refine pure_ (i := 3) (N := some 57) (v := ?_) (a' := ?_) #[true, true, true, true, false, true, false, false, false, false, false, false, false] rfl rfl (any_of HT_.out (by kernel_rfl)) (fun _ _ _ h => h) (Or.inl ⟨by rfl, ?_⟩) ?_ ?_
                                rotate_left
                                · intro w'
                                  go_simp
                                  with_reducible rfl
                                rotate_left
                                · simp only [Act.put, sA_, i64_w, i32_w]
                                  rfl
                                refine take_ (i := 4) (N := some 58) (v := ?_) (a' := ?_) #[true, true, true, true, true, true, false, false, false, false, false, false, false] rfl rfl (take_ofW HT_.out HW_.out (by kernel_rfl)) (fun _ _ _ h => h) (Or.inl ⟨by rfl, ?_⟩) hHeld ?_ ?_
                                rotate_left
                                · rintro w' ⟨s0, s1, s2, s3, s4, s5, s6, s7⟩
                                  go_simp
                                  with_reducible rfl
                                rotate_left
                                · simp only [Act.put, sA_, i64_w, i32_w]
                                  rfl
                                refine take_ (i := 6) (N := some 60) (v := ?_) (a' := ?_) #[true, true, true, true, true, true, true, false, false, false, false, false, false] rfl rfl (take_ofW HT_.out HW_.out (by kernel_rfl)) (fun _ _ _ h => h) (Or.inl ⟨by rfl, ?_⟩) hHeld ?_ ?_
                                rotate_left
                                · rintro w' ⟨s0, s1, s2, s3, s4, s5, s6, s7⟩
                                  go_simp
                                  with_reducible rfl
                                rotate_left
                                · simp only [Act.put, sA_, i64_w, i32_w]
                                  rfl
                                refine pure_ (i := 7) (N := some 61) (v := ?_) (a' := ?_) #[true, true, true, true, true, true, true, true, false, false, false, false, false] rfl rfl (any_of HT_.out (by kernel_rfl)) (fun _ _ _ h => h) (Or.inl ⟨by rfl, ?_⟩) ?_ ?_
                                rotate_left
                                · intro w'
                                  go_simp
                                  with_reducible rfl
                                rotate_left
                                · simp only [Act.put, sA_, i64_w, i32_w]
                                  rfl
                                refine take_ (i := 8) (N := some 62) (v := ?_) (a' := ?_) #[true, true, true, true, true, true, true, true, true, false, false, false, false] rfl rfl (take_ofW HT_.out HW_.out (by kernel_rfl)) (fun _ _ _ h => h) (Or.inl ⟨by rfl, ?_⟩) hHeld ?_ ?_
                                rotate_left
                                · rintro w' ⟨s0, s1, s2, s3, s4, s5, s6, s7⟩
                                  go_simp
                                  with_reducible rfl
                                rotate_left
                                · simp only [Act.put, sA_, i64_w, i32_w]
                                  rfl
                                refine pure_ (i := 9) (N := some 63) (v := ?_) (a' := ?_) #[true, true, true, true, true, true, true, true, true, true, false, false, false] rfl rfl (any_of HT_.out (by kernel_rfl)) (fun _ _ _ h => h) (Or.inl ⟨by rfl, ?_⟩) ?_ ?_
                                rotate_left
                                · intro w'
                                  go_simp
                                  with_reducible rfl
                                rotate_left
                                · simp only [Act.put, sA_, i64_w, i32_w]
                                  rfl
                                refine one_ (i := 10) (N := some 64) #[true, true, true, true, true, true, true, true, true, true, true, false, false] rfl rfl (one_of HT_.out (by kernel_rfl)) (by decide) (fun K hK => ?_)
                                refine value_ (w1 := ?_) (v := ?_) (by rfl) rfl ?_ ?_
                                rotate_left 2
                                · go_simp
                                  constructor
                                  · rfl
                                  · rfl
                                refine hK.out _ _ ⟨(blk_cell (blk_alloc BK247.out _) 0).trans rfl, (blk_cell (blk_alloc BK247.out _) 1).trans rfl, (blk_cell (blk_alloc BK247.out _) 2).trans rfl, (blk_cell (blk_alloc BK249.out _) 0).trans rfl, (blk_cell (blk_alloc BK249.out _) 1).trans rfl, (blk_cell (blk_alloc BK249.out _) 2).trans rfl, (World.cell?_alloc_lt _ _ _ (World.block_lt_of_cell? _ _ (((HB.out.cell (World.block_lt_of_cell? w _ hw258_0)).trans hw258_0)))).trans (((HB.out.cell (World.block_lt_of_cell? w _ hw258_0)).trans hw258_0)), (World.cell?_alloc_lt _ _ _ (World.block_lt_of_cell? _ _ (((HB.out.cell (World.block_lt_of_cell? w _ hw259_0)).trans hw259_0)))).trans (((HB.out.cell (World.block_lt_of_cell? w _ hw259_0)).trans hw259_0))⟩ (fun hHeld => ?_)
                                clear hK K
                                refine norm_ (a' := ?_) ?_ ?_
                                rotate_left
                                · show Act.put _ (some 64) _ = _
                                  simp only [Act.put, sA_, i64_w, i32_w]
                                  rfl
                                refine one_ (i := 11) (N := some 65) #[true, true, true, true, true, true, true, true, true, true, true, true, false] rfl rfl (one_of HT_.out (by kernel_rfl)) (by decide) (fun K hK => ?_)
                                refine Kd.R_append_step k186 (w0 := w) w.heap.size (by rfl) (.tmp 54) (.tmp 64) 187 186 (.agg #[(.int .i64 0), (.int .i64 0)]) 16 rfl Tryd.underlying187 info186 rfl (by decide) (by omega) v256 y255 (⟨rd ((rd_T145 l0_0 a1_0).f2) 1, rd ((rd_T145 l0_0 a1_1).f2) 1⟩ : S186) [.int .i64 (rd ((rd_T145 l0_0 a1_0).f2) 1), .int .i64 (rd ((rd_T145 l0_0 a1_1).f2) 1)] (fun k_ => k_ ≠ gb245) (fun _ => False) rfl rfl ?aP (fun _ hk => hk.elim) ?aF ?aO ?aB ?aS ?aL ?_
                                (case aP => exact k186_mkM _ _ _ (⟨rd ((rd_T145 l0_0 a1_0).f2) 1, rd ((rd_T145 l0_0 a1_1).f2) 1⟩ : S186))
                                (case aB => exact (by repeat (first | (with_reducible first | exact HB.out | apply below_alloc | apply pw_below_drewN | apply below_drew1 | refine below_set ?_ GE244.out | refine below_set ?_ GE245.out | refine below_set ?_ GE247.out | refine below_set ?_ GE249.out) | exact HB.out)))
                                (case aF => exact (fun k_ hk => Kd.freshB (g := gb245) (o := .cells #[.int .i64 a1_0, .int .i64 a1_1] 186 (0, 0)) (by (with_reducible repeat (first | refine blk_drewN ?_ _ | refine blk_drew ?_ | refine blk_alloc ?_ _)); exact BK245.out) k_ hk))
                                (case aO => exact (by (with_reducible repeat (first | apply Kd.R_alloc | apply Kd.R_drewN | apply Kd.R_drew)); exact HO257.out))
                                (case aS => exact (below_size (by repeat (first | (with_reducible first | exact HB.out | apply below_alloc | apply pw_below_drewN | apply below_drew1 | refine below_set ?_ GE244.out | refine below_set ?_ GE245.out | refine below_set ?_ GE247.out | refine below_set ?_ GE249.out) | exact HB.out))))
                                (case aL => have := LMc46.out; omega)
                                intro v261 w57 ho hb hg hat
                                rw [← Ny260.out] at ho
                                have n0_ := Aside0.mk (blk_grown (g := gb244) (o := .cells #[.slice (some ad246) l0_0.length c0_0] 76 (0, 0)) (by (with_reducible repeat (first | refine blk_drewN ?_ _ | refine blk_drew ?_ | refine blk_alloc ?_ _)); exact BK244.out) hg (Kd.R_ne HO257.out BK244.out (by decide)))
                                have n1_ := Aside0.mk (blk_grown (g := gb245) (o := .cells #[.int .i64 a1_0, .int .i64 a1_1] 186 (0, 0)) (by (with_reducible repeat (first | refine blk_drewN ?_ _ | refine blk_drew ?_ | refine blk_alloc ?_ _)); exact BK245.out) hg (Kd.R_away HO257.out (fun _ hk => hk)))
                                have n2_ := Aside0.mk (blk_grown (g := gb247) (o := .cells #[.int .i64 ((rd_T145 l0_0 a1_0).f0), .slice A246_1 ((rd_T145 l0_0 a1_0).f1).length c246_1, .slice (some ad254) ((rd_T145 l0_0 a1_0).f2).length c246_2] 145 (0, 0)) (by (with_reducible repeat (first | refine blk_drewN ?_ _ | refine blk_drew ?_ | refine blk_alloc ?_ _)); exact BK247.out) hg (Kd.R_ne HO257.out BK247.out (by decide)))
                                have n3_ := Aside0.mk (blk_grown (g := gb249) (o := .cells #[.int .i64 ((rd_T145 l0_0 a1_1).f0), .slice A248_1 ((rd_T145 l0_0 a1_1).f1).length c248_1, .slice (some ad253) ((rd_T145 l0_0 a1_1).f2).length c248_2] 145 (0, 0)) (by (with_reducible repeat (first | refine blk_drewN ?_ _ | refine blk_drew ?_ | refine blk_alloc ?_ _)); exact BK249.out) hg (Kd.R_ne HO257.out BK249.out (by decide)))
                                have n4_ := Aside0.mk (hb)
                                have n5_ := Aside0.mk (ho)
                                clear BK244
                                clear BK245
                                clear BK247
                                clear BK249
                                clear HB
                                clear HO257
                                have BK244 := n0_
                                have BK245 := n1_
                                have BK247 := n2_
                                have BK249 := n3_
                                have HB := n4_
                                have HO262 := n5_
                                clear n0_ n1_ n2_ n3_ n4_ n5_
                                clear ho hb hg hat
                                refine hK.out _ _ ⟨(blk_cell BK247.out 0).trans rfl, (blk_cell BK247.out 1).trans rfl, (blk_cell BK247.out 2).trans rfl, (blk_cell BK249.out 0).trans rfl, (blk_cell BK249.out 1).trans rfl, (blk_cell BK249.out 2).trans rfl, ((HB.out.cell (World.block_lt_of_cell? w _ hw258_0)).trans hw258_0), ((HB.out.cell (World.block_lt_of_cell? w _ hw259_0)).trans hw259_0)⟩ (fun hHeld => ?_)
                                clear hK K
                                refine norm_ (a' := ?_) ?_ ?_
                                rotate_left
                                · show Act.put _ (some 65) _ = _
                                  simp only [Act.put, sA_, i64_w, i32_w]
                                  rfl
                                refine pure_ (i := 12) (N := some 8) (v := ?_) (a' := ?_) #[true, true, true, true, true, true, true, true, true, true, true, true, true] rfl rfl (any_of HT_.out (by kernel_rfl)) (fun _ _ _ h => h) (Or.inl ⟨by rfl, ?_⟩) ?_ ?_
                                rotate_left
                                · intro w'
                                  go_simp
                                  with_reducible rfl
                                rotate_left
                                · simp only [Act.put, sA_, i64_w, i32_w]
                                  rfl
                                refine done_ (done_of HT_.out (by kernel_rfl)) ?_
                                try go_wp2
                                go_ret2
                                exact ⟨_, by first | rfl | (simp [errW_none, errW_some] <;> rfl) | (simp [*, errW_none, errW_some] <;> rfl), by (with_reducible repeat (first | apply Kd.R_alloc | apply Kd.R_drewN | apply Kd.R_drew)); exact Kd.R_mono HO262.out (fun _ hk => trivial), by repeat (first | (with_reducible first | exact HB.out | apply below_alloc | apply pw_below_drewN | apply below_drew1 | refine below_set ?_ GE244.out | refine below_set ?_ GE245.out | refine below_set ?_ GE247.out | refine below_set ?_ GE249.out) | exact HB.out)⟩
                              · rw [if_neg c46] at H
                                exact absurd H (by simp)
                            · rw [if_neg c45] at H
                              exact absurd H (by simp)
                          · rw [if_neg c44] at H
                            exact absurd H (by simp)
                        · rw [if_neg c43] at H
                          exact absurd H (by simp)
                      · rw [if_neg c42] at H
                        exact absurd H (by simp)
                    · rw [if_neg c41] at H
                      exact absurd H (by simp)
                  · rw [if_neg c40] at H
                    have c40b0 : (((rd_T145 l0_0 a1_0).f0) == 4) = false := beq_eq_false_iff_ne.mpr c40
                    have c40b1 : (((rd_T145 l0_0 a1_0).f0) != 4) = true := bne_iff_ne.mpr c40
                    have H' := Aside0.mk H
                    clear H
                    have hnb58 := NB247_244.out
                    have hnc58 := NB244_247.out
                    have hnb59 := NB247_245.out
                    have hnc59 := NB245_247.out
                    have hnb60 := NB247_249.out
                    have hnc60 := NB249_247.out
                    obtain ⟨hcz61_0, hcz61_1, hcz61_2, hfz61_0, hfz61_1, hfz61_2⟩ := bkA3 BK247.out
                    have hnb62 := NB249_244.out
                    have hnc62 := NB244_249.out
                    have hnb63 := NB249_245.out
                    have hnc63 := NB245_249.out
                    obtain ⟨hcz64_0, hcz64_1, hcz64_2, hfz64_0, hfz64_1, hfz64_2⟩ := bkA3 BK249.out
                    go_wp2
                    go_loopg [8, 9] kj6 (fun kq v8 v9 w' => ∃ (x8_2 : List (S186)) (x9_2 : Int), v9 = .int .i64 x9_2 ∧ Aside0 (spec_l1Demands.l0 kq x8_2 x9_2 ((rd_T145 l0_0 a1_0).f0) ((rd_T145 l0_0 a1_0).f1) ((rd_T145 l0_0 a1_0).f2) ((rd_T145 l0_0 a1_1).f0) ((rd_T145 l0_0 a1_1).f1) ((rd_T145 l0_0 a1_1).f2) = some (r1, r2)) ∧ Aside0 (kq ≤ kj6) ∧ Aside0 (Kd.R k186 186 w' w.heap.size (fun k_ => k_ ≠ gb245) v8 x8_2) ∧ Aside0 (w'.heap[gb244]? = some (.cells #[(.slice (some ad246) l0_0.length c0_0)] 76 (0, 0))) ∧ Aside0 (w'.heap[gb245]? = some (.cells #[.int .i64 a1_0, .int .i64 a1_1] 186 (0, 0))) ∧ Aside0 (w'.heap[gb247]? = some (.cells #[.int .i64 ((rd_T145 l0_0 a1_0).f0), (.slice A246_1 ((rd_T145 l0_0 a1_0).f1).length c246_1), (.slice A246_2 ((rd_T145 l0_0 a1_0).f2).length c246_2)] 145 (0, 0))) ∧ Aside0 (w'.heap[gb249]? = some (.cells #[.int .i64 ((rd_T145 l0_0 a1_1).f0), (.slice A248_1 ((rd_T145 l0_0 a1_1).f1).length c248_1), (.slice A248_2 ((rd_T145 l0_0 a1_1).f2).length c248_2)] 145 (0, 0))) ∧ Aside0 (Below w.heap.size w w'))
                    case atStart => exact ⟨(y250), (0), (by first | rfl | (simp; done) | (simp [*]; done)), H', ⟨Nat.le_refl _⟩, ⟨by (with_reducible repeat (first | apply Kd.R_alloc | apply Kd.R_drewN | apply Kd.R_drew)); exact HO_8.out⟩, ⟨by (with_reducible repeat (first | refine blk_drewN ?_ _ | refine blk_drew ?_ | refine blk_alloc ?_ _)); exact BK244.out⟩, ⟨by (with_reducible repeat (first | refine blk_drewN ?_ _ | refine blk_drew ?_ | refine blk_alloc ?_ _)); exact BK245.out⟩, ⟨by (with_reducible repeat (first | refine blk_drewN ?_ _ | refine blk_drew ?_ | refine blk_alloc ?_ _)); exact BK247.out⟩, ⟨by (with_reducible repeat (first | refine blk_drewN ?_ _ | refine blk_drew ?_ | refine blk_alloc ?_ _)); exact BK249.out⟩, ⟨by repeat (first | (with_reducible first | exact HB.out | apply below_alloc | apply pw_below_drewN | apply below_drew1 | refine below_set ?_ GE244.out | refine below_set ?_ GE245.out | refine below_set ?_ GE247.out | refine below_set ?_ GE249.out) | exact HB.out)⟩⟩
                    case round =>
                      clear H'
                      try clear c1
                      try clear c2
                      try clear p2
                      try clear q2
                      try clear hx2
                      try clear qi2
                      try clear c3
                      try clear c4
                      try clear c4b0
                      try clear c5
                      try clear c5b0
                      try clear c6
                      try clear c6b0
                      try clear c10
                      try clear c14
                      try clear c15
                      try clear c20
                      try clear c21
                      try clear c22
                      try clear c24
                      try clear p24
                      try clear q24
                      try clear hx24
                      try clear p25
                      try clear q25
                      try clear hx25
                      try clear qi25
                      try clear c26
                      try clear c26b0
                      try clear c26b1
                      try clear c26b2
                      try clear c27
                      try clear c28
                      try clear c29
                      try clear c31
                      try clear c32
                      try clear c33
                      try clear c35
                      try clear c36
                      try clear c38
                      try clear c39
                      try clear c39b0
                      try clear c39b1
                      try clear c40
                      try clear c40b0
                      try clear c40b1
                      try clear c41
                      try clear c41b0
                      try clear c41b1
                      try clear c42
                      try clear c42b0
                      try clear c42b1
                      try clear c43
                      try clear c44
                      try clear c44b0
                      try clear c44b1
                      try clear c45
                      try clear c45b0
                      try clear c45b1
                      try clear c46
                      try clear c47
                      try clear c48
                      try clear c49
                      try clear c51
                      try clear c52
                      try clear c58
                      try clear c59
                      try clear c60
                      try clear c62
                      try clear c63
                      try clear hcz11_0
                      try clear hcz12_0
                      try clear hcz12_1
                      try clear hcz16_0
                      try clear hcz16_1
                      try clear hcz16_2
                      try clear hcz17_0
                      try clear hcz18_0
                      try clear hcz18_1
                      try clear hcz23_0
                      try clear hcz23_1
                      try clear hcz23_2
                      try clear hcz30_0
                      try clear hcz30_1
                      try clear hcz30_2
                      try clear hcz34_0
                      try clear hcz34_1
                      try clear hcz34_2
                      try clear hcz37_0
                      try clear hcz37_1
                      try clear hcz37_2
                      try clear hcz50_0
                      try clear hcz50_1
                      try clear hcz50_2
                      try clear hcz53_0
                      try clear hcz53_1
                      try clear hcz53_2
                      try clear hcz61_0
                      try clear hcz61_1
                      try clear hcz61_2
                      try clear hcz64_0
                      try clear hcz64_1
                      try clear hcz64_2
                      try clear hfz11_0
                      try clear hfz12_0
                      try clear hfz12_1
                      try clear hfz16_0
                      try clear hfz16_1
                      try clear hfz16_2
                      try clear hfz17_0
                      try clear hfz18_0
                      try clear hfz18_1
                      try clear hfz23_0
                      try clear hfz23_1
                      try clear hfz23_2
                      try clear hfz30_0
                      try clear hfz30_1
                      try clear hfz30_2
                      try clear hfz34_0
                      try clear hfz34_1
                      try clear hfz34_2
                      try clear hfz37_0
                      try clear hfz37_1
                      try clear hfz37_2
                      try clear hfz50_0
                      try clear hfz50_1
                      try clear hfz50_2
                      try clear hfz53_0
                      try clear hfz53_1
                      try clear hfz53_2
                      try clear hfz61_0
                      try clear hfz61_1
                      try clear hfz61_2
                      try clear hfz64_0
                      try clear hfz64_1
                      try clear hfz64_2
                      try clear hx246_0
                      try clear hx246_1
                      try clear hx246_2
                      try clear hx248_0
                      try clear hx248_1
                      try clear hx248_2
                      try clear hx253_0
                      try clear hx254_0
                      try clear hx258_0
                      try clear hx259_0
                      try clear p24
                      try clear p246
                      try clear p248
                      try clear p253
                      try clear p254
                      try clear p258
                      try clear p259
                      try clear q24
                      try clear q246
                      try clear q248
                      try clear q253
                      try clear q254
                      try clear q258
                      try clear q259
                      obtain ⟨x8_2, x9_2, rfl, HA, HK2, HO_8, BK244, BK245, BK247, BK249, HB⟩ := hrel
                      cases gk with
                      | zero => exact absurd HA.out (by simp [spec_l1Demands.l0])
                      | succ k2 =>
                        have H := HA.out
                        clear HA
                        simp only [spec_l1Demands.l0] at H
                        by_cases c65 : x9_2 < (((rd_T145 l0_0 a1_1).f1).length : Int)
                        · rw [if_pos c65] at H
                          have c65b0 : decide (x9_2 < (((rd_T145 l0_0 a1_1).f1).length : Int)) = true := decide_eq_true c65
                          clear c65
                          by_cases c66 : 0 ≤ x9_2
                          · rw [if_pos c66] at H
                            have c66b0 : decide (0 ≤ x9_2) = true := decide_eq_true c66
                            clear c66
                            replace H := Option.bind_eq_some_iff.mp H
                            obtain ⟨t264, A670, H⟩ := H
                            replace H : (if t264 < 0 then (some ((([] : List (S186))), false)) else (if x9_2 < (((rd_T145 l0_0 a1_1).f2).length : Int) then (if x8_2.length < 8796093022208 then (spec_l1Demands.l0 k2 (x8_2 ++ [(⟨t264, rd ((rd_T145 l0_0 a1_1).f2) x9_2⟩ : S186)]) (wrap64 (x9_2 + 1)) ((rd_T145 l0_0 a1_0).f0) ((rd_T145 l0_0 a1_0).f1) ((rd_T145 l0_0 a1_0).f2) ((rd_T145 l0_0 a1_1).f0) ((rd_T145 l0_0 a1_1).f1) ((rd_T145 l0_0 a1_1).f2)) else (none)) else (none))) = some (r1, r2) := H
                            have A67 := Aside0.mk A670
                            clear A670
                            have HL68 := Aside0.mk H
                            clear H
                            have hnb69 := NB249_244.out
                            have hnc69 := NB244_249.out
                            have hnb70 := NB249_245.out
                            have hnc70 := NB245_249.out
                            have hnb71 := NB249_247.out
                            have hnc71 := NB247_249.out
                            obtain ⟨hcz72_0, hcz72_1, hcz72_2, hfz72_0, hfz72_1, hfz72_2⟩ := bkA3 BK249.out
                            try go_wp2
                            have n0_ := Aside0.mk (Kd.R_drew HO_8.out)
                            have n1_ := Aside0.mk (blk_drew BK244.out)
                            have n2_ := Aside0.mk (blk_drew BK245.out)
                            have n3_ := Aside0.mk (blk_drew BK247.out)
                            have n4_ := Aside0.mk (blk_drew BK249.out)
                            have n5_ := Aside0.mk (below_drew1 HB.out)
                            clear HO_8
                            clear BK244
                            clear BK245
                            clear BK247
                            clear BK249
                            clear HB
                            have HO_8 := n0_
                            have BK244 := n1_
                            have BK245 := n2_
                            have BK247 := n3_
                            have BK249 := n4_
                            have HB := n5_
                            clear n0_ n1_ n2_ n3_ n4_ n5_
                            have p263 : 0 ≤ (x9_2 : Int) := of_decide_eq_true (by first | (with_reducible assumption) | assumption)
                            have q263 : x9_2 < (((rd_T145 l0_0 a1_1).f1).length : Int) := of_decide_eq_true (by first | (with_reducible assumption) | assumption)
                            obtain ⟨ad263, e263, hx263_0⟩ := Kd.at_string HR248_1.out x9_2 p263 q263
                            have hw263_0 := hx263_0
                            cases e263
                            replace hx263_0 := (HB.out.cell (World.block_lt_of_cell? w _ hx263_0)).trans hx263_0
                            replace p263 := eq_true p263
                            replace q263 := eq_true q263
                            refine start_ (n := 8) (S := fun w' => w'.cell? ⟨gb247, 0, none⟩ = some (.int .i64 ((rd_T145 l0_0 a1_0).f0)) ∧ w'.cell? ⟨gb247, 1, none⟩ = some (.slice A246_1 ((rd_T145 l0_0 a1_0).f1).length c246_1) ∧ w'.cell? ⟨gb247, 2, none⟩ = some (.slice A246_2 ((rd_T145 l0_0 a1_0).f2).length c246_2) ∧ w'.cell? ⟨gb249, 0, none⟩ = some (.int .i64 ((rd_T145 l0_0 a1_1).f0)) ∧ w'.cell? ⟨gb249, 1, none⟩ = some (.slice (some ad263) ((rd_T145 l0_0 a1_1).f1).length c248_1) ∧ w'.cell? ⟨gb249, 2, none⟩ = some (.slice A248_2 ((rd_T145 l0_0 a1_1).f2).length c248_2) ∧ w'.cell? (ad263.add (x9_2).toNat) = some (.string (rdOf ByteArray.empty ((rd_T145 l0_0 a1_1).f1) x9_2))) (ds := []) #[false, false, false, false, false, false, false, false] (by kernel_rfl) rfl rfl ⟨(blk_cell BK247.out 0).trans rfl, (blk_cell BK247.out 1).trans rfl, (blk_cell BK247.out 2).trans rfl, (blk_cell BK249.out 0).trans rfl, (blk_cell BK249.out 1).trans rfl, (blk_cell BK249.out 2).trans rfl, ((HB.out.cell (World.block_lt_of_cell? w _ hw263_0)).trans hw263_0)⟩ (fun hHeld => ?_); refine with_tabW spec_l1Demands.tab15 spec_l1Demands.bits15 (fun HT_ HW_ => ?_)
                            generalize wr.drew = w73 at HO_8 BK244 BK245 BK247 BK249 HB hx263_0 hHeld ⊢
                            refine pure_ (i := 1) (N := some 75) (v := ?_) (a' := ?_) #[false, true, false, false, false, false, false, false] rfl rfl (any_of HT_.out (by kernel_rfl)) (fun _ _ _ h => h) (Or.inl ⟨by rfl, ?_⟩) ?_ ?_
                            rotate_left
                            · intro w'
                              go_simp
                              with_reducible rfl
                            rotate_left
                            · simp only [Act.put, sA_, i64_w, i32_w]
                              rfl
                            refine pure_ (i := 3) (N := some 77) (v := ?_) (a' := ?_) #[false, true, false, true, false, false, false, false] rfl rfl (any_of HT_.out (by kernel_rfl)) (fun _ _ _ h => h) (Or.inl ⟨by rfl, ?_⟩) ?_ ?_
                            rotate_left
                            · intro w'
                              go_simp
                              with_reducible rfl
                            rotate_left
                            · simp only [Act.put, sA_, i64_w, i32_w]
                              rfl
                            refine take_ (i := 0) (N := some 74) (v := ?_) (a' := ?_) #[true, true, false, true, false, false, false, false] rfl rfl (take_ofW HT_.out HW_.out (by kernel_rfl)) (fun _ _ _ h => h) (Or.inl ⟨by rfl, ?_⟩) hHeld ?_ ?_
                            rotate_left
                            · rintro w' ⟨s0, s1, s2, s3, s4, s5, s6⟩
                              go_simp
                              with_reducible rfl
                            rotate_left
                            · simp only [Act.put, sA_, i64_w, i32_w]
                              rfl
                            refine take_ (i := 2) (N := some 76) (v := ?_) (a' := ?_) #[true, true, true, true, false, false, false, false] rfl rfl (take_ofW HT_.out HW_.out (by kernel_rfl)) (fun _ _ _ h => h) (Or.inl ⟨by rfl, ?_⟩) hHeld ?_ ?_
                            rotate_left
                            · rintro w' ⟨s0, s1, s2, s3, s4, s5, s6⟩
                              go_simp
                              with_reducible rfl
                            rotate_left
                            · simp only [Act.put, sA_, i64_w, i32_w]
                              rfl
                            refine pure_ (i := 4) (N := some 78) (v := ?_) (a' := ?_) #[true, true, true, true, true, false, false, false] rfl rfl (any_of HT_.out (by kernel_rfl)) (fun _ _ _ h => h) (Or.inl ⟨by rfl, ?_⟩) ?_ ?_
                            rotate_left
                            · intro w'
                              go_simp
                              with_reducible rfl
                            rotate_left
                            · simp only [Act.put, sA_, i64_w, i32_w]
                              rfl
                            refine take_ (i := 5) (N := some 79) (v := ?_) (a' := ?_) #[true, true, true, true, true, true, false, false] rfl rfl (take_ofW HT_.out HW_.out (by kernel_rfl)) (fun _ _ _ h => h) (Or.inl ⟨by rfl, ?_⟩) hHeld ?_ ?_
                            rotate_left
                            · rintro w' ⟨s0, s1, s2, s3, s4, s5, s6⟩
                              go_simp
                              with_reducible rfl
                            rotate_left
                            · simp only [Act.put, sA_, i64_w, i32_w]
                              rfl
                            refine one_ (i := 6) (N := some 80) #[true, true, true, true, true, true, true, false] rfl rfl (one_of HT_.out (by kernel_rfl)) (by decide) (fun K hK => ?_)
                            refine goes_ Tryd.func166 (by kernel_rfl) rfl #[.agg #[.int .i64 ((rd_T145 l0_0 a1_0).f0), .slice A246_1 ((rd_T145 l0_0 a1_0).f1).length c246_1, .slice A246_2 ((rd_T145 l0_0 a1_0).f2).length c246_2], .string (rdOf ByteArray.empty ((rd_T145 l0_0 a1_1).f1) x9_2)] (by rfl) rfl rfl (by (try simp only [List.map_toArray, List.map_cons, List.map_nil]); first | done | rfl | (simp only [List.length_drop, List.length_take]; rfl)) ?_
                            with_reducible refine (spec_l1Kid.calls k2 ((rd_T145 l0_0 a1_0).f0) _ _ ((rd_T145 l0_0 a1_0).f1) _ _ ((rd_T145 l0_0 a1_0).f2) (rdOf ByteArray.empty ((rd_T145 l0_0 a1_1).f1) x9_2) t264 _ ?side1 ?side2 ?side3 ?side4 A67.out).mono ?_
                            (case side1 => repeat (first | exact (Kd.C_below HR246_1.out HB.out) | (with_reducible refine Kd.C_alloc ?_ _) | (with_reducible refine Kd.C_drewN ?_ _) | (with_reducible refine Kd.C_drew ?_)))
                            (case side2 => exact HC246_1.out)
                            (case side3 => repeat (first | exact (Kd.C_below HR246_2.out HB.out) | (with_reducible refine Kd.C_alloc ?_ _) | (with_reducible refine Kd.C_drewN ?_ _) | (with_reducible refine Kd.C_drew ?_)))
                            (case side4 => exact HC246_2.out)
                            rintro e w74 ⟨rfl, hb⟩
                            refine ⟨_, rfl, ?_⟩
                            have hb1_ := fromP HB.out hb (by repeat (first | (with_reducible exact Below.refl _ _) | apply below_alloc | apply pw_below_drewN | apply below_drew1))
                            have hb0_ := below_step hb1_ hb
                            replace HO_8 := kR HO_8 hb0_
                            replace BK244 := kB BK244 hb0_
                            replace BK245 := kB BK245 hb0_
                            replace BK247 := kB BK247 hb0_
                            replace BK249 := kB BK249 hb0_
                            replace HB := kH HB hb0_
                            clear hb1_ hb0_
                            (try clear hb)
                            (try clear hb2)
                            (try clear hk)
                            (try clear hi)
                            refine hK.out _ _ ⟨(blk_cell BK247.out 0).trans rfl, (blk_cell BK247.out 1).trans rfl, (blk_cell BK247.out 2).trans rfl, (blk_cell BK249.out 0).trans rfl, (blk_cell BK249.out 1).trans rfl, (blk_cell BK249.out 2).trans rfl, ((HB.out.cell (World.block_lt_of_cell? w _ hw263_0)).trans hw263_0)⟩ (fun hHeld => ?_)
                            clear hK K
                            refine norm_ (a' := ?_) ?_ ?_
                            rotate_left
                            · show Act.put _ (some 80) _ = _
                              simp only [Act.put, sA_, i64_w, i32_w]
                              rfl
                            refine pure_ (i := 7) (N := some 10) (v := ?_) (a' := ?_) #[true, true, true, true, true, true, true, true] rfl rfl (any_of HT_.out (by kernel_rfl)) (fun _ _ _ h => h) (Or.inl ⟨by rfl, ?_⟩) ?_ ?_
                            rotate_left
                            · intro w'
                              go_simp
                              with_reducible rfl
                            rotate_left
                            · simp only [Act.put, sA_, i64_w, i32_w]
                              rfl
                            refine done_ (done_of HT_.out (by kernel_rfl)) ?_
                            go_upto_if 82 with (fail)
                            have H := HL68.out
                            clear HL68
                            by_cases c75 : t264 < 0
                            · rw [if_pos c75] at H
                              have c75b0 : decide (t264 < 0) = true := decide_eq_true c75
                              clear c75
                              (first | rw [c75b0] | (simp only [i64_w, i32_w]; rw [c75b0]) | simp only [c75b2, Bool.not_false, Bool.not_true] | skip)
                              obtain ⟨y265, hy265⟩ : ∃ y_ : List (S186), y_ = (([] : List (S186))) := ⟨_, rfl⟩
                              replace H : (some (y265, false)) = some (r1, r2) := by first | (rw [hy265]; with_reducible exact H) | (have H2_ := (Option.bind_some _ _).symm.trans H; rw [hy265]; with_reducible exact H2_) | (have H2_ := (Option.bind_some _ _).symm.trans H; with_reducible exact H2_) | with_reducible exact H | (rw [hy265]; exact H) | exact H
                              have Ny265 := Aside0.mk hy265
                              clear hy265
                              simp only [Option.some.injEq, Prod.mk.injEq] at H
                              obtain ⟨rfl, rfl⟩ := H
                              go_wp2_with (first | ((with_reducible refine gate_dst (N := 83) rfl ?_); refine Kd.R_lit k186 _ 186 ?hg (N := 83) ?hd (xs := ([] : List (S186))) (inner := []) (ok := fun _ => True) (okp := fun _ => True) ?hr ?hp (fun _ hk => hk) trivial (Below.refl _ _) (Nat.le_refl _) (by simp) ?_; (case hd => rfl); (case hg => rfl); (case hr => first | (go_simp; done) | (go_simp; rfl)); (case hp => exact (Reps.none _ _)); intro v266 w76 ho77 hb hg_ hnew_; clear hg_ hnew_; (first | rw [← Ny265.out] at ho77 | (simp only [Int.reduceToNat] at ho77; rw [← Ny265.out] at ho77)); have hb1_ := fromP HB.out hb (by repeat (first | (with_reducible exact Below.refl _ _) | apply below_alloc | apply pw_below_drewN | apply below_drew1)); have hb0_ := below_step hb1_ hb; have hW_ := below_step HB.out hb1_; have n0_ := Aside0.mk (Kd.R_elder' (Kd.R_below HO_8.out hb1_) (Kd.R_base ho77) hb); have n1_ := Aside0.mk (Kd.R_lower (Kd.R_newB (Kd.R_new' ho77 (Kd.R_lt (Kd.R_below HO_8.out hb1_))) (g := gb245) (o := .cells #[.int .i64 a1_0, .int .i64 a1_1] 186 (0, 0)) (blk_below BK245.out hb1_)) (below_size hW_)); replace BK244 := kB BK244 hb0_; replace BK245 := kB BK245 hb0_; replace BK247 := kB BK247 hb0_; replace BK249 := kB BK249 hb0_; replace HB := kH HB hb0_; clear HO_8; have HO_8 := n0_; have HO267 := n1_; clear hb1_ hb0_ hW_ n0_ n1_; clear hb ho77))
                              go_ret2
                              exact ⟨_, by first | rfl | (simp [errW_none, errW_some] <;> rfl) | (simp [*, errW_none, errW_some] <;> rfl), by (with_reducible repeat (first | apply Kd.R_alloc | apply Kd.R_drewN | apply Kd.R_drew)); exact Kd.R_mono HO267.out (fun _ hk => trivial), by repeat (first | (with_reducible first | exact HB.out | apply below_alloc | apply pw_below_drewN | apply below_drew1 | refine below_set ?_ GE244.out | refine below_set ?_ GE245.out | refine below_set ?_ GE247.out | refine below_set ?_ GE249.out) | exact HB.out)⟩
                            · rw [if_neg c75] at H
                              have c75b0 : decide (t264 < 0) = false := decide_eq_false c75
                              clear c75
                              (first | rw [c75b0] | (simp only [i64_w, i32_w]; rw [c75b0]) | simp only [c75b2, Bool.not_false, Bool.not_true] | skip)
                              by_cases c78 : x9_2 < (((rd_T145 l0_0 a1_1).f2).length : Int)
                              · rw [if_pos c78] at H
                                have c78b0 : decide (x9_2 < (((rd_T145 l0_0 a1_1).f2).length : Int)) = true := decide_eq_true c78
                                clear c78
                                by_cases c79 : x8_2.length < 8796093022208
                                · rw [if_pos c79] at H
                                  have LMc79 := Aside0.mk c79
                                  clear c79
                                  obtain ⟨y269, hy269⟩ : ∃ y_ : List (S186), y_ = (x8_2 ++ [(⟨t264, rd ((rd_T145 l0_0 a1_1).f2) x9_2⟩ : S186)]) := ⟨_, rfl⟩
                                  replace H : (spec_l1Demands.l0 k2 y269 (wrap64 (x9_2 + 1)) ((rd_T145 l0_0 a1_0).f0) ((rd_T145 l0_0 a1_0).f1) ((rd_T145 l0_0 a1_0).f2) ((rd_T145 l0_0 a1_1).f0) ((rd_T145 l0_0 a1_1).f1) ((rd_T145 l0_0 a1_1).f2)) = some (r1, r2) := by first | (rw [hy269]; with_reducible exact H) | (have H2_ := (Option.bind_some _ _).symm.trans H; rw [hy269]; with_reducible exact H2_) | (have H2_ := (Option.bind_some _ _).symm.trans H; with_reducible exact H2_) | with_reducible exact H | (rw [hy269]; exact H) | exact H
                                  have Ny269 := Aside0.mk hy269
                                  clear hy269
                                  have H' := Aside0.mk H
                                  clear H
                                  have hnb80 := NB249_244.out
                                  have hnc80 := NB244_249.out
                                  have hnb81 := NB249_245.out
                                  have hnc81 := NB245_249.out
                                  have hnb82 := NB249_247.out
                                  have hnc82 := NB247_249.out
                                  obtain ⟨hcz83_0, hcz83_1, hcz83_2, hfz83_0, hfz83_1, hfz83_2⟩ := bkA3 BK249.out
                                  have p268 : 0 ≤ (x9_2 : Int) := of_decide_eq_true (by first | (with_reducible assumption) | assumption)
                                  have q268 : x9_2 < (((rd_T145 l0_0 a1_1).f2).length : Int) := of_decide_eq_true (by first | (with_reducible assumption) | assumption)
                                  obtain ⟨ad268, e268, hx268_0⟩ := Kd.at_int HR248_2.out x9_2 p268 q268
                                  cases e268
                                  replace hx268_0 := (HB.out.cell (World.block_lt_of_cell? w _ hx268_0)).trans hx268_0
                                  replace p268 := eq_true p268
                                  replace q268 := eq_true q268
                                  go_wp2_with (first | ((with_reducible refine gate_builtin (b := .append) (xs := #[.tmp 84, .tmp 92]) rfl ?_); at_builtin; refine Kd.R_append k186 (w0 := w) w.heap.size rfl (.tmp 84) (.tmp 92) 187 186 (.agg #[(.int .i64 0), (.int .i64 0)]) 16 rfl Tryd.underlying187 info186 rfl (by decide) (by omega) u8 x8_2 (⟨t264, rd ((rd_T145 l0_0 a1_1).f2) x9_2⟩ : S186) [.int .i64 t264, .int .i64 (rd ((rd_T145 l0_0 a1_1).f2) x9_2)] (fun k_ => k_ ≠ gb245) (fun _ => False) rfl rfl ?aP (fun _ hk => hk.elim) ?aF ?aO ?aB ?aS ?aL ?_; (case aP => exact k186_mkM _ _ _ (⟨t264, rd ((rd_T145 l0_0 a1_1).f2) x9_2⟩ : S186)); (case aB => exact (by repeat (first | (with_reducible first | exact HB.out | apply below_alloc | apply pw_below_drewN | apply below_drew1 | refine below_set ?_ GE244.out | refine below_set ?_ GE245.out | refine below_set ?_ GE247.out | refine below_set ?_ GE249.out) | exact HB.out))); (case aF => exact (fun k_ hk => Kd.freshB (g := gb245) (o := .cells #[.int .i64 a1_0, .int .i64 a1_1] 186 (0, 0)) (by (with_reducible repeat (first | refine blk_drewN ?_ _ | refine blk_drew ?_ | refine blk_alloc ?_ _)); exact BK245.out) k_ hk)); (case aO => exact (by (with_reducible repeat (first | apply Kd.R_alloc | apply Kd.R_drewN | apply Kd.R_drew)); exact HO_8.out)); (case aS => exact (below_size (by repeat (first | (with_reducible first | exact HB.out | apply below_alloc | apply pw_below_drewN | apply below_drew1 | refine below_set ?_ GE244.out | refine below_set ?_ GE245.out | refine below_set ?_ GE247.out | refine below_set ?_ GE249.out) | exact HB.out)))); (case aL => have := LMc79.out; omega); intro v270 w84 ho hb hg hat; rw [← Ny269.out] at ho; have n0_ := Aside0.mk (blk_grown (g := gb244) (o := .cells #[.slice (some ad246) l0_0.length c0_0] 76 (0, 0)) (by (with_reducible repeat (first | refine blk_drewN ?_ _ | refine blk_drew ?_ | refine blk_alloc ?_ _)); exact BK244.out) hg (Kd.R_ne HO_8.out BK244.out (by decide))); have n1_ := Aside0.mk (blk_grown (g := gb245) (o := .cells #[.int .i64 a1_0, .int .i64 a1_1] 186 (0, 0)) (by (with_reducible repeat (first | refine blk_drewN ?_ _ | refine blk_drew ?_ | refine blk_alloc ?_ _)); exact BK245.out) hg (Kd.R_away HO_8.out (fun _ hk => hk))); have n2_ := Aside0.mk (blk_grown (g := gb247) (o := .cells #[.int .i64 ((rd_T145 l0_0 a1_0).f0), .slice A246_1 ((rd_T145 l0_0 a1_0).f1).length c246_1, .slice A246_2 ((rd_T145 l0_0 a1_0).f2).length c246_2] 145 (0, 0)) (by (with_reducible repeat (first | refine blk_drewN ?_ _ | refine blk_drew ?_ | refine blk_alloc ?_ _)); exact BK247.out) hg (Kd.R_ne HO_8.out BK247.out (by decide))); have n3_ := Aside0.mk (blk_grown (g := gb249) (o := .cells #[.int .i64 ((rd_T145 l0_0 a1_1).f0), .slice (some ad263) ((rd_T145 l0_0 a1_1).f1).length c248_1, .slice (some ad268) ((rd_T145 l0_0 a1_1).f2).length c248_2] 145 (0, 0)) (by (with_reducible repeat (first | refine blk_drewN ?_ _ | refine blk_drew ?_ | refine blk_alloc ?_ _)); exact BK249.out) hg (Kd.R_ne HO_8.out BK249.out (by decide))); have n4_ := Aside0.mk (hb); have n5_ := Aside0.mk (ho); clear BK244; clear BK245; clear BK247; clear BK249; clear HB; clear HO_8; have BK244 := n0_; have BK245 := n1_; have BK247 := n2_; have BK249 := n3_; have HB := n4_; have HO271 := n5_; clear n0_ n1_ n2_ n3_ n4_ n5_; clear ho hb hg hat))
                                  go_roundg k2
                                  case measure => have := HJ6.out; have := HK2.out; omega
                                  case rel => exact ⟨(y269), (wrap64 (x9_2 + 1)), (by first | rfl | (simp; done) | (simp [*]; done)), H', ⟨by have := HJ6.out; have := HK2.out; omega⟩, ⟨by (with_reducible repeat (first | apply Kd.R_alloc | apply Kd.R_drewN | apply Kd.R_drew)); exact HO271.out⟩, ⟨by (with_reducible repeat (first | refine blk_drewN ?_ _ | refine blk_drew ?_ | refine blk_alloc ?_ _)); exact BK244.out⟩, ⟨by (with_reducible repeat (first | refine blk_drewN ?_ _ | refine blk_drew ?_ | refine blk_alloc ?_ _)); exact BK245.out⟩, ⟨by (with_reducible repeat (first | refine blk_drewN ?_ _ | refine blk_drew ?_ | refine blk_alloc ?_ _)); exact BK247.out⟩, ⟨by (with_reducible repeat (first | refine blk_drewN ?_ _ | refine blk_drew ?_ | refine blk_alloc ?_ _)); exact BK249.out⟩, ⟨by repeat (first | (with_reducible first | exact HB.out | apply below_alloc | apply pw_below_drewN | apply below_drew1 | refine below_set ?_ GE244.out | refine below_set ?_ GE245.out | refine below_set ?_ GE247.out | refine below_set ?_ GE249.out) | exact HB.out)⟩⟩
                                · rw [if_neg c79] at H
                                  exact absurd H (by simp)
                              · rw [if_neg c78] at H
                                exact absurd H (by simp)
                          · rw [if_neg c66] at H
                            exact absurd H (by simp)
                        · rw [if_neg c65] at H
                          have c65b0 : decide (x9_2 < (((rd_T145 l0_0 a1_1).f1).length : Int)) = false := decide_eq_false c65
                          clear c65
                          simp only [Option.some.injEq, Prod.mk.injEq] at H
                          obtain ⟨rfl, rfl⟩ := H
                          have hnb85 := NB249_244.out
                          have hnc85 := NB244_249.out
                          have hnb86 := NB249_245.out
                          have hnc86 := NB245_249.out
                          have hnb87 := NB249_247.out
                          have hnc87 := NB247_249.out
                          obtain ⟨hcz88_0, hcz88_1, hcz88_2, hfz88_0, hfz88_1, hfz88_2⟩ := bkA3 BK249.out
                          go_wp2
                          go_ret2
                          exact ⟨_, by first | rfl | (simp [errW_none, errW_some] <;> rfl) | (simp [*, errW_none, errW_some] <;> rfl), by (with_reducible repeat (first | apply Kd.R_alloc | apply Kd.R_drewN | apply Kd.R_drew)); exact Kd.R_mono HO_8.out (fun _ hk => trivial), by repeat (first | (with_reducible first | exact HB.out | apply below_alloc | apply pw_below_drewN | apply below_drew1 | refine below_set ?_ GE244.out | refine below_set ?_ GE245.out | refine below_set ?_ GE247.out | refine below_set ?_ GE249.out) | exact HB.out)⟩
                · rw [if_neg c39] at H
                  have c39b0 : (((rd_T145 l0_0 a1_0).f0) == ((rd_T145 l0_0 a1_1).f0)) = false := beq_eq_false_iff_ne.mpr c39
                  have c39b1 : (((rd_T145 l0_0 a1_0).f0) != ((rd_T145 l0_0 a1_1).f0)) = true := bne_iff_ne.mpr c39
                  simp only [Option.some.injEq, Prod.mk.injEq] at H
                  obtain ⟨rfl, rfl⟩ := H
                  have hnb89 := NB247_244.out
                  have hnc89 := NB244_247.out
                  have hnb90 := NB247_245.out
                  have hnc90 := NB245_247.out
                  have hnb91 := NB247_249.out
                  have hnc91 := NB249_247.out
                  obtain ⟨hcz92_0, hcz92_1, hcz92_2, hfz92_0, hfz92_1, hfz92_2⟩ := bkA3 BK247.out
                  have hnb93 := NB249_244.out
                  have hnc93 := NB244_249.out
                  have hnb94 := NB249_245.out
                  have hnc94 := NB245_249.out
                  obtain ⟨hcz95_0, hcz95_1, hcz95_2, hfz95_0, hfz95_1, hfz95_2⟩ := bkA3 BK249.out
                  go_wp2
                  go_ret2
                  exact ⟨_, by first | rfl | (simp [errW_none, errW_some] <;> rfl) | (simp [*, errW_none, errW_some] <;> rfl), by (with_reducible repeat (first | apply Kd.R_alloc | apply Kd.R_drewN | apply Kd.R_drew)); exact Kd.R_mono HO_8.out (fun _ hk => trivial), by repeat (first | (with_reducible first | exact HB.out | apply below_alloc | apply pw_below_drewN | apply below_drew1 | refine below_set ?_ GE244.out | refine below_set ?_ GE245.out | refine below_set ?_ GE247.out | refine below_set ?_ GE249.out) | exact HB.out)⟩
        · rw [if_neg c6] at H
          exact absurd H (by simp)
      · rw [if_neg c5] at H
        exact absurd H (by simp)
    · rw [if_neg c4] at H
      exact absurd H (by simp)
  · rw [if_neg c3] at H
    exact absurd H (by simp)
end Go.Proofs.YtnbohlcibgfjaaaDoor.Gp
end
