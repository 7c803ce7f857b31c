/- A part of the proof of RowFnExactValidTable: each text's theorems that it needs, packed by shake.py, a program of this work; Lean checks them. -/
import Derived.Test.YtiicaoiijhodkaaDoorVt2
import Derived.Test.YtiicaoiijhodkaaDoorVt9
import Derived.Test.YtiicaoiijhodkaaDoorVt12
section
namespace Go.Proofs.YtiicaoiijhodkaaDoor.Gp
open Go.RowKit Go.Proofs.YtiicaoiijhodkaaDoorW.PrintWords Go.Proofs.YtiicaoiijhodkaaDoorW.PrintLast Go.Proofs.YtiicaoiijhodkaaDoorW.PrintMore
set_option linter.unusedVariables false
set_option linter.unusedSimpArgs false
def impl_ValidTable.l0 : Nat → List (S87) → Int → Int → List (S87) → Option (Bool)
  | 0, _, _, _, _ => none
  | k + 1, x10, x11, x12, x371000 => if x12 < x11 then (if 0 ≤ x12 then (if x12 < (x10.length : Int) then ((impl_Slot_valid.f k ((rd_T87 x10 x12).f0.f0) ((rd_T87 x10 x12).f0.f1) ((rd_T87 x10 x12).f1) ((rd_T87 x10 x12).f2) ((rd_T87 x10 x12).f3) ((rd_T87 x10 x12).f4) ((rd_T87 x10 x12).f5) ((rd_T87 x10 x12).f6) ((rd_T87 x10 x12).f7)).bind fun t373 => (if t373 = true then (if x12 > 0 then (if 0 ≤ (wrap64 (x12 - 1)) then (if (wrap64 (x12 - 1)) < (x371000.length : Int) then ((impl_compareKeys.f k ((rd_T87 x371000 (wrap64 (x12 - 1))).f0.f0) ((rd_T87 x371000 (wrap64 (x12 - 1))).f0.f1) ((rd_T87 x10 x12).f0.f0) ((rd_T87 x10 x12).f0.f1)).bind fun t375 => (if t375 ≥ 0 then (some false) else (impl_ValidTable.l0 k x10 x11 (wrap64 (x12 + 1)) x371000))) else (none)) else (none)) else (impl_ValidTable.l0 k x10 x11 (wrap64 (x12 + 1)) x371000)) else (some false))) else (none)) else (none)) else (some true)
def impl_ValidTable.f (k : Nat) (l0_0 : List (S87)) : Option (Bool) := if (l0_0.length : Int) > 4096 then (some false) else (impl_ValidTable.l0 k l0_0 (l0_0.length : Int) 0 l0_0)
def impl_ValidTable.T6 : Bool × List (List Nat × List Nat) := (true, [([], []), ([0], [0]), ([1], [1]), ([2, 1], [2]), ([3], [3]), ([4, 3], [3, 4]), ([5, 3, 3], [3, 5]), ([6], [6]), ([7, 6], [6, 7]), ([6], [6]), ([9, 6], [6, 9]), ([8, 10, 6], [6, 8, 10]), ([11, 6], [6, 11]), ([12, 6], [6, 12]), ([6], [6]), ([14, 6], [6, 14]), ([13, 15, 6, 6], [6, 13, 15]), ([16, 6], [6, 16]), ([6, 17, 3], [3, 6, 17]), ([3, 18], [3, 18])])
def impl_ValidTable.B6 : List Nat := [0, 1, 3, 7, 15, 31, 63, 127, 255, 127, 639, 2047, 4095, 8191, 127, 16511, 65535, 131071, 262143, 524287]
theorem impl_ValidTable.tab6 : rtab .any (opsOf Tryd.f25 6) = impl_ValidTable.T6 := by kernel_rfl
theorem impl_ValidTable.bits6 : waitsOk impl_ValidTable.T6.2 impl_ValidTable.B6 = true := by kernel_rfl
set_option maxHeartbeats 8000000 in
set_option maxRecDepth 100000 in
theorem impl_ValidTable.calls (k : Nat) (A0_0 : Option Addr) (c0_0 : Nat) (l0_0 : List (S87)) (r : Bool) (w : World) (hG : GRes w) (hr0_0 : Kd.C k87 w A0_0 l0_0.length l0_0) (hc0_0 : l0_0.length ≤ c0_0) (h : impl_ValidTable.f k l0_0 = some r) :
    Calls Tryd.prog 25 #[.agg #[.slice A0_0 l0_0.length c0_0]] w fun e w' => e = .returned (.bool r) ∧ Below w.heap.size w w' := by
  have hu52 := Tryd.underlying52
  have hu87 := Tryd.underlying87
  have hu84 := Tryd.underlying84
  have HG := Aside0.mk hG
  clear hG
  have HR0_0 := Aside0.mk hr0_0
  have HC0_0 := Aside0.mk hc0_0
  clear hr0_0 hc0_0
  have HB := Aside0.mk (Below.refl w.heap.size w)
  have H : (if (l0_0.length : Int) > 4096 then (some false) else (impl_ValidTable.l0 k l0_0 (l0_0.length : Int) 0 l0_0)) = some r := h
  clear h
  by_cases c2 : (l0_0.length : Int) > 4096
  · rw [if_pos c2] at H
    have c2b0 : decide (4096 < (l0_0.length : Int)) = true := decide_eq_true c2
    have c2b1 : decide (4096 < l0_0.length) = true := decide_eq_true (by omega)
    clear c2
    obtain rfl := Option.some.inj H
    go_enter Tryd.func25, Tryd.ntmps25
    go_wp2_with (first | ((with_reducible refine gate_dst (N := 1) rfl ?_); refine box_event ?hg (N := 1) ?hd (cs := #[.slice A0_0 l0_0.length c0_0]) (t := 52) ?hr ?_; (case hd => rfl); (case hg => rfl); (case hr => first | (go_simp; done) | (go_simp; rfl)); intro gb370 hg w3 hbox hb; have n0_ := Aside0.mk (below_step (by repeat (first | (with_reducible first | exact HB.out | apply below_alloc | apply pw_below_drewN | apply below_drew1) | exact HB.out)) hb); have n1_ := Aside0.mk (hbox); have n2_ := Aside0.mk ((by rw [hg]; exact (below_size (by repeat (first | (with_reducible first | exact HB.out | apply below_alloc | apply pw_below_drewN | apply below_drew1) | exact HB.out))) : w.heap.size ≤ gb370)); have n3_ := Aside0.mk ((by rw [hg]; exact (below_size (by repeat (first | (with_reducible first | exact HB.out | apply below_alloc | apply pw_below_drewN | apply below_drew1) | exact HB.out))) : w.heap.size ≤ gb370)); clear HB; have HB := n0_; have BK370 := n1_; have GW370 := n2_; have GE370 := n3_; clear n0_ n1_ n2_ n3_; clear hb hbox hg; have hcz4_0 : w3.cell? ⟨gb370, 0, none⟩ = some (.slice A0_0 l0_0.length c0_0) := (blk_cell BK370.out 0).trans rfl; have hfz4_0 := blk_frozen BK370.out 0))
    go_ret
    exact ⟨by first | rfl | (simp [errW_none, errW_some] <;> rfl) | (simp [*, errW_none, errW_some] <;> rfl), by repeat (first | (with_reducible first | exact HB.out | apply below_alloc | apply pw_below_drewN | apply below_drew1 | refine below_set ?_ GE370.out) | exact HB.out)⟩
  · rw [if_neg c2] at H
    have c2b0 : decide (4096 < (l0_0.length : Int)) = false := decide_eq_false c2
    have c2b1 : decide (4096 < l0_0.length) = false := decide_eq_false (by omega)
    clear c2
    have H' := Aside0.mk H
    clear H
    go_enter Tryd.func25, Tryd.ntmps25
    go_wp2_with (first | ((with_reducible refine gate_dst (N := 1) rfl ?_); refine box_event ?hg (N := 1) ?hd (cs := #[.slice A0_0 l0_0.length c0_0]) (t := 52) ?hr ?_; (case hd => rfl); (case hg => rfl); (case hr => first | (go_simp; done) | (go_simp; rfl)); intro gb370 hg w5 hbox hb; have n0_ := Aside0.mk (below_step (by repeat (first | (with_reducible first | exact HB.out | apply below_alloc | apply pw_below_drewN | apply below_drew1) | exact HB.out)) hb); have n1_ := Aside0.mk (hbox); have n2_ := Aside0.mk ((by rw [hg]; exact (below_size (by repeat (first | (with_reducible first | exact HB.out | apply below_alloc | apply pw_below_drewN | apply below_drew1) | exact HB.out))) : w.heap.size ≤ gb370)); have n3_ := Aside0.mk ((by rw [hg]; exact (below_size (by repeat (first | (with_reducible first | exact HB.out | apply below_alloc | apply pw_below_drewN | apply below_drew1) | exact HB.out))) : w.heap.size ≤ gb370)); clear HB; have HB := n0_; have BK370 := n1_; have GW370 := n2_; have GE370 := n3_; clear n0_ n1_ n2_ n3_; clear hb hbox hg; have hcz6_0 : w5.cell? ⟨gb370, 0, none⟩ = some (.slice A0_0 l0_0.length c0_0) := (blk_cell BK370.out 0).trans rfl; have hfz6_0 := blk_frozen BK370.out 0))
    go_loopg [12] k (fun kq v12 w' => ∃ (x12_1 : Int), v12 = .int .i64 x12_1 ∧ Aside0 (impl_ValidTable.l0 kq l0_0 (l0_0.length : Int) x12_1 l0_0 = some r) ∧ Aside0 (kq ≤ k) ∧ Aside0 (w'.heap[gb370]? = some (.cells #[(.slice A0_0 l0_0.length c0_0)] 52 (0, 0))) ∧ Aside0 (Below w.heap.size w w'))
    case atStart => exact ⟨(0), (by first | rfl | (simp; done) | (simp [*]; done)), H', ⟨Nat.le_refl _⟩, ⟨by (with_reducible repeat (first | refine blk_drewN ?_ _ | refine blk_drew ?_ | refine blk_alloc ?_ _)); exact BK370.out⟩, ⟨by repeat (first | (with_reducible first | exact HB.out | apply below_alloc | apply pw_below_drewN | apply below_drew1 | refine below_set ?_ GE370.out) | exact HB.out)⟩⟩
    case round =>
      clear H'
      try clear c2
      try clear c2b0
      try clear c2b1
      try clear p2
      try clear hcz4_0
      try clear hcz6_0
      try clear hfz4_0
      try clear hfz6_0
      obtain ⟨x12_1, rfl, HA, HK1, BK370, HB⟩ := hrel
      cases gk with
      | zero => exact absurd HA.out (by simp [impl_ValidTable.l0])
      | succ k1 =>
        have H := HA.out
        clear HA
        simp only [impl_ValidTable.l0] at H
        by_cases c7 : x12_1 < (l0_0.length : Int)
        · rw [if_pos c7] at H
          have c7b0 : decide (x12_1 < (l0_0.length : Int)) = true := decide_eq_true c7
          clear c7
          by_cases c8 : 0 ≤ x12_1
          · rw [if_pos c8] at H
            have c8b0 : decide (0 ≤ x12_1) = true := decide_eq_true c8
            clear c8
            by_cases c9 : x12_1 < (l0_0.length : Int)
            · rw [if_pos c9] at H
              have c9b0 : decide (x12_1 < (l0_0.length : Int)) = true := decide_eq_true c9
              clear c9
              replace H := Option.bind_eq_some_iff.mp H
              obtain ⟨t373, A100, H⟩ := H
              replace H : (if t373 = true then (if x12_1 > 0 then (if 0 ≤ (wrap64 (x12_1 - 1)) then (if (wrap64 (x12_1 - 1)) < (l0_0.length : Int) then ((impl_compareKeys.f k1 ((rd_T87 l0_0 (wrap64 (x12_1 - 1))).f0.f0) ((rd_T87 l0_0 (wrap64 (x12_1 - 1))).f0.f1) ((rd_T87 l0_0 x12_1).f0.f0) ((rd_T87 l0_0 x12_1).f0.f1)).bind fun t375 => (if t375 ≥ 0 then (some false) else (impl_ValidTable.l0 k1 l0_0 (l0_0.length : Int) (wrap64 (x12_1 + 1)) l0_0))) else (none)) else (none)) else (impl_ValidTable.l0 k1 l0_0 (l0_0.length : Int) (wrap64 (x12_1 + 1)) l0_0)) else (some false)) = some r := H
              have A10 := Aside0.mk A100
              clear A100
              by_cases c11 : t373 = true
              · subst c11
                have H1 : (if x12_1 > 0 then (if 0 ≤ (wrap64 (x12_1 - 1)) then (if (wrap64 (x12_1 - 1)) < (l0_0.length : Int) then ((impl_compareKeys.f k1 ((rd_T87 l0_0 (wrap64 (x12_1 - 1))).f0.f0) ((rd_T87 l0_0 (wrap64 (x12_1 - 1))).f0.f1) ((rd_T87 l0_0 x12_1).f0.f0) ((rd_T87 l0_0 x12_1).f0.f1)).bind fun t375 => (if t375 ≥ 0 then (some false) else (impl_ValidTable.l0 k1 l0_0 (l0_0.length : Int) (wrap64 (x12_1 + 1)) l0_0))) else (none)) else (none)) else (impl_ValidTable.l0 k1 l0_0 (l0_0.length : Int) (wrap64 (x12_1 + 1)) l0_0)) = some r := by rw [if_pos rfl] at H; exact H
                clear H
                have H := H1
                clear H1
                by_cases c12 : x12_1 > 0
                · rw [if_pos c12] at H
                  have c12b0 : decide (0 < x12_1) = true := decide_eq_true c12
                  clear c12
                  obtain ⟨ji13, hji13⟩ : ∃ j_ : Int, (wrap64 (x12_1 - 1)) = j_ := ⟨_, rfl⟩
                  replace H : (if 0 ≤ (ji13) then (if (ji13) < (l0_0.length : Int) then ((impl_compareKeys.f k1 ((rd_T87 l0_0 (ji13)).f0.f0) ((rd_T87 l0_0 (ji13)).f0.f1) ((rd_T87 l0_0 x12_1).f0.f0) ((rd_T87 l0_0 x12_1).f0.f1)).bind fun t375 => (if t375 ≥ 0 then (some false) else (impl_ValidTable.l0 k1 l0_0 (l0_0.length : Int) (wrap64 (x12_1 + 1)) l0_0))) else (none)) else (none)) = some r := by first | (rw [hji13] at H; exact H) | (simp only [hji13] at H ⊢; exact H)
                  (try rw [hji13] at A10)
                  have hji13w : (IntKind.i64.wrap (x12_1 - 1)) = ji13 := (i64_w _).trans hji13
                  by_cases c14 : 0 ≤ (ji13)
                  · rw [if_pos c14] at H
                    have c14b0 : decide (0 ≤ (ji13)) = true := decide_eq_true c14
                    clear c14
                    by_cases c15 : (ji13) < (l0_0.length : Int)
                    · rw [if_pos c15] at H
                      have c15b0 : decide ((ji13) < (l0_0.length : Int)) = true := decide_eq_true c15
                      clear c15
                      replace H := Option.bind_eq_some_iff.mp H
                      obtain ⟨t375, A160, H⟩ := H
                      replace H : (if t375 ≥ 0 then (some false) else (impl_ValidTable.l0 k1 l0_0 (l0_0.length : Int) (wrap64 (x12_1 + 1)) l0_0)) = some r := H
                      have A16 := Aside0.mk A160
                      clear A160
                      by_cases c17 : t375 ≥ 0
                      · rw [if_pos c17] at H
                        have c17b0 : decide (0 ≤ t375) = true := decide_eq_true c17
                        clear c17
                        obtain rfl := Option.some.inj H
                        have p371 : 0 ≤ (x12_1 : Int) := of_decide_eq_true (by first | (with_reducible assumption) | assumption)
                        have q371 : x12_1 < (l0_0.length : Int) := of_decide_eq_true (by first | (with_reducible assumption) | assumption)
                        obtain ⟨ad371, A371_4, c371_4, e371, hx371_0, hx371_1, hx371_2, hx371_3, hx371_4, hx371_5, hx371_6, hx371_7, hx371_8, hl371_4, hi371_4⟩ := at_T87 HR0_0.out x12_1 p371 q371
                        cases e371
                        replace hx371_0 := (HB.out.cell (World.block_lt_of_cell? w _ hx371_0)).trans hx371_0
                        replace hx371_1 := (HB.out.cell (World.block_lt_of_cell? w _ hx371_1)).trans hx371_1
                        replace hx371_2 := (HB.out.cell (World.block_lt_of_cell? w _ hx371_2)).trans hx371_2
                        replace hx371_3 := (HB.out.cell (World.block_lt_of_cell? w _ hx371_3)).trans hx371_3
                        replace hx371_4 := (HB.out.cell (World.block_lt_of_cell? w _ hx371_4)).trans hx371_4
                        replace hx371_5 := (HB.out.cell (World.block_lt_of_cell? w _ hx371_5)).trans hx371_5
                        replace hx371_6 := (HB.out.cell (World.block_lt_of_cell? w _ hx371_6)).trans hx371_6
                        replace hx371_7 := (HB.out.cell (World.block_lt_of_cell? w _ hx371_7)).trans hx371_7
                        replace hx371_8 := (HB.out.cell (World.block_lt_of_cell? w _ hx371_8)).trans hx371_8
                        have HR371_4 := Aside0.mk hi371_4
                        have HC371_4 := Aside0.mk hl371_4
                        clear hi371_4 hl371_4
                        replace p371 := eq_true p371
                        replace q371 := eq_true q371
                        try go_wp2_with (first | ((with_reducible refine gate_dst (N := 4) rfl ?_); refine box_event ?hg (N := 4) ?hd (cs := #[.int .i64 0, .string (⟨#[]⟩ : ByteArray), .bool false, .string (⟨#[]⟩ : ByteArray), .slice none 0 0, .int .i64 0, .int .i64 0, .int .i64 0, .int .i64 0]) (t := 87) ?hr ?_; (case hd => rfl); (case hg => rfl); (case hr => first | (go_simp; done) | (go_simp; rfl)); intro gb372 hg w18 hbox hb; have n0_ := Aside0.mk (blk_below (g := gb370) (o := .cells #[.slice (some ad371) l0_0.length c0_0] 52 (0, 0)) (by (with_reducible repeat (first | refine blk_drewN ?_ _ | refine blk_drew ?_ | refine blk_alloc ?_ _)); exact BK370.out) hb); have n1_ := Aside0.mk (below_step (by repeat (first | (with_reducible first | exact HB.out | apply below_alloc | apply pw_below_drewN | apply below_drew1 | refine below_set ?_ GE370.out) | exact HB.out)) hb); have n2_ := Aside0.mk (hbox); have n3_ := Aside0.mk ((by rw [hg]; exact (below_size (by repeat (first | (with_reducible first | exact HB.out | apply below_alloc | apply pw_below_drewN | apply below_drew1 | refine below_set ?_ GE370.out) | exact HB.out))) : w.heap.size ≤ gb372)); have n4_ := Aside0.mk ((by rw [hg]; exact (below_size (by repeat (first | (with_reducible first | exact HB.out | apply below_alloc | apply pw_below_drewN | apply below_drew1 | refine below_set ?_ GE370.out) | exact HB.out))) : w.heap.size ≤ gb372)); have n5_ := Aside0.mk ((by rw [hg]; exact Nat.ne_of_lt (blk_lt (g := gb370) (o := .cells #[.slice (some ad371) l0_0.length c0_0] 52 (0, 0)) (by (with_reducible repeat (first | refine blk_drewN ?_ _ | refine blk_drew ?_ | refine blk_alloc ?_ _)); exact BK370.out)) : gb370 ≠ gb372)); have n6_ := Aside0.mk ((by rw [hg]; exact Nat.ne_of_gt (blk_lt (g := gb370) (o := .cells #[.slice (some ad371) l0_0.length c0_0] 52 (0, 0)) (by (with_reducible repeat (first | refine blk_drewN ?_ _ | refine blk_drew ?_ | refine blk_alloc ?_ _)); exact BK370.out)) : gb372 ≠ gb370)); clear BK370; clear HB; have BK370 := n0_; have HB := n1_; have BK372 := n2_; have GW372 := n3_; have GE372 := n4_; have NB370_372 := n5_; have NB372_370 := n6_; clear n0_ n1_ n2_ n3_ n4_ n5_ n6_; clear hb hbox hg; have hnb19 := NB372_370.out; have hnc19 := NB370_372.out; have hcz20_0 : w18.cell? ⟨gb372, 0, none⟩ = some (.int .i64 0) := (blk_cell BK372.out 0).trans rfl; have hcz20_1 : w18.cell? ⟨gb372, 1, none⟩ = some (.string (⟨#[]⟩ : ByteArray)) := (blk_cell BK372.out 1).trans rfl; have hcz20_2 : w18.cell? ⟨gb372, 2, none⟩ = some (.bool false) := (blk_cell BK372.out 2).trans rfl; have hcz20_3 : w18.cell? ⟨gb372, 3, none⟩ = some (.string (⟨#[]⟩ : ByteArray)) := (blk_cell BK372.out 3).trans rfl; have hcz20_4 : w18.cell? ⟨gb372, 4, none⟩ = some (.slice none 0 0) := (blk_cell BK372.out 4).trans rfl; have hcz20_5 : w18.cell? ⟨gb372, 5, none⟩ = some (.int .i64 0) := (blk_cell BK372.out 5).trans rfl; have hcz20_6 : w18.cell? ⟨gb372, 6, none⟩ = some (.int .i64 0) := (blk_cell BK372.out 6).trans rfl; have hcz20_7 : w18.cell? ⟨gb372, 7, none⟩ = some (.int .i64 0) := (blk_cell BK372.out 7).trans rfl; have hcz20_8 : w18.cell? ⟨gb372, 8, none⟩ = some (.int .i64 0) := (blk_cell BK372.out 8).trans rfl; have hfz20_0 := blk_frozen BK372.out 0; have hfz20_1 := blk_frozen BK372.out 1; have hfz20_2 := blk_frozen BK372.out 2; have hfz20_3 := blk_frozen BK372.out 3; have hfz20_4 := blk_frozen BK372.out 4; have hfz20_5 := blk_frozen BK372.out 5; have hfz20_6 := blk_frozen BK372.out 6; have hfz20_7 := blk_frozen BK372.out 7; have hfz20_8 := blk_frozen BK372.out 8))
                        have n0_ : Aside0 ((((((((((w18.setCell ⟨gb372, 0, none⟩ (.int .i64 ((rd_T87 l0_0 x12_1).f0.f0))).setCell ⟨gb372, 1, none⟩ (.string ((rd_T87 l0_0 x12_1).f0.f1))).setCell ⟨gb372, 2, none⟩ (.bool ((rd_T87 l0_0 x12_1).f1))).setCell ⟨gb372, 3, none⟩ (.string ((rd_T87 l0_0 x12_1).f2))).setCell ⟨gb372, 4, none⟩ (.slice A371_4 ((rd_T87 l0_0 x12_1).f3).length c371_4)).setCell ⟨gb372, 5, none⟩ (.int .i64 ((rd_T87 l0_0 x12_1).f4))).setCell ⟨gb372, 6, none⟩ (.int .i64 ((rd_T87 l0_0 x12_1).f5))).setCell ⟨gb372, 7, none⟩ (.int .i64 ((rd_T87 l0_0 x12_1).f6))).setCell ⟨gb372, 8, none⟩ (.int .i64 ((rd_T87 l0_0 x12_1).f7))).heap[gb370]? = some (.cells #[.slice (some ad371) l0_0.length c0_0] 52 (0, 0))) := ⟨by (with_reducible repeat (first | refine blk_drewN ?_ _ | refine blk_drew ?_ | refine blk_alloc ?_ _)); refine blk_far ?_ NB370_372.out _; (with_reducible repeat (first | refine blk_drewN ?_ _ | refine blk_drew ?_ | refine blk_alloc ?_ _)); refine blk_far ?_ NB370_372.out _; (with_reducible repeat (first | refine blk_drewN ?_ _ | refine blk_drew ?_ | refine blk_alloc ?_ _)); refine blk_far ?_ NB370_372.out _; (with_reducible repeat (first | refine blk_drewN ?_ _ | refine blk_drew ?_ | refine blk_alloc ?_ _)); refine blk_far ?_ NB370_372.out _; (with_reducible repeat (first | refine blk_drewN ?_ _ | refine blk_drew ?_ | refine blk_alloc ?_ _)); refine blk_far ?_ NB370_372.out _; (with_reducible repeat (first | refine blk_drewN ?_ _ | refine blk_drew ?_ | refine blk_alloc ?_ _)); refine blk_far ?_ NB370_372.out _; (with_reducible repeat (first | refine blk_drewN ?_ _ | refine blk_drew ?_ | refine blk_alloc ?_ _)); refine blk_far ?_ NB370_372.out _; (with_reducible repeat (first | refine blk_drewN ?_ _ | refine blk_drew ?_ | refine blk_alloc ?_ _)); refine blk_far ?_ NB370_372.out _; (with_reducible repeat (first | refine blk_drewN ?_ _ | refine blk_drew ?_ | refine blk_alloc ?_ _)); refine blk_far ?_ NB370_372.out _; (with_reducible repeat (first | refine blk_drewN ?_ _ | refine blk_drew ?_ | refine blk_alloc ?_ _)); exact BK370.out⟩
                        have n1_ : Aside0 ((((((((((w18.setCell ⟨gb372, 0, none⟩ (.int .i64 ((rd_T87 l0_0 x12_1).f0.f0))).setCell ⟨gb372, 1, none⟩ (.string ((rd_T87 l0_0 x12_1).f0.f1))).setCell ⟨gb372, 2, none⟩ (.bool ((rd_T87 l0_0 x12_1).f1))).setCell ⟨gb372, 3, none⟩ (.string ((rd_T87 l0_0 x12_1).f2))).setCell ⟨gb372, 4, none⟩ (.slice A371_4 ((rd_T87 l0_0 x12_1).f3).length c371_4)).setCell ⟨gb372, 5, none⟩ (.int .i64 ((rd_T87 l0_0 x12_1).f4))).setCell ⟨gb372, 6, none⟩ (.int .i64 ((rd_T87 l0_0 x12_1).f5))).setCell ⟨gb372, 7, none⟩ (.int .i64 ((rd_T87 l0_0 x12_1).f6))).setCell ⟨gb372, 8, none⟩ (.int .i64 ((rd_T87 l0_0 x12_1).f7))).heap[gb372]? = some (.cells #[.int .i64 ((rd_T87 l0_0 x12_1).f0.f0), .string ((rd_T87 l0_0 x12_1).f0.f1), .bool ((rd_T87 l0_0 x12_1).f1), .string ((rd_T87 l0_0 x12_1).f2), .slice A371_4 ((rd_T87 l0_0 x12_1).f3).length c371_4, .int .i64 ((rd_T87 l0_0 x12_1).f4), .int .i64 ((rd_T87 l0_0 x12_1).f5), .int .i64 ((rd_T87 l0_0 x12_1).f6), .int .i64 ((rd_T87 l0_0 x12_1).f7)] 87 (0, 0))) := ⟨by (with_reducible repeat (first | refine blk_drewN ?_ _ | refine blk_drew ?_ | refine blk_alloc ?_ _)); refine blk_put (cs := #[.int .i64 ((rd_T87 l0_0 x12_1).f0.f0), .string ((rd_T87 l0_0 x12_1).f0.f1), .bool ((rd_T87 l0_0 x12_1).f1), .string ((rd_T87 l0_0 x12_1).f2), .slice A371_4 ((rd_T87 l0_0 x12_1).f3).length c371_4, .int .i64 ((rd_T87 l0_0 x12_1).f4), .int .i64 ((rd_T87 l0_0 x12_1).f5), .int .i64 ((rd_T87 l0_0 x12_1).f6), .int .i64 0]) ?_ 8 _ rfl; (with_reducible repeat (first | refine blk_drewN ?_ _ | refine blk_drew ?_ | refine blk_alloc ?_ _)); refine blk_put (cs := #[.int .i64 ((rd_T87 l0_0 x12_1).f0.f0), .string ((rd_T87 l0_0 x12_1).f0.f1), .bool ((rd_T87 l0_0 x12_1).f1), .string ((rd_T87 l0_0 x12_1).f2), .slice A371_4 ((rd_T87 l0_0 x12_1).f3).length c371_4, .int .i64 ((rd_T87 l0_0 x12_1).f4), .int .i64 ((rd_T87 l0_0 x12_1).f5), .int .i64 0, .int .i64 0]) ?_ 7 _ rfl; (with_reducible repeat (first | refine blk_drewN ?_ _ | refine blk_drew ?_ | refine blk_alloc ?_ _)); refine blk_put (cs := #[.int .i64 ((rd_T87 l0_0 x12_1).f0.f0), .string ((rd_T87 l0_0 x12_1).f0.f1), .bool ((rd_T87 l0_0 x12_1).f1), .string ((rd_T87 l0_0 x12_1).f2), .slice A371_4 ((rd_T87 l0_0 x12_1).f3).length c371_4, .int .i64 ((rd_T87 l0_0 x12_1).f4), .int .i64 0, .int .i64 0, .int .i64 0]) ?_ 6 _ rfl; (with_reducible repeat (first | refine blk_drewN ?_ _ | refine blk_drew ?_ | refine blk_alloc ?_ _)); refine blk_put (cs := #[.int .i64 ((rd_T87 l0_0 x12_1).f0.f0), .string ((rd_T87 l0_0 x12_1).f0.f1), .bool ((rd_T87 l0_0 x12_1).f1), .string ((rd_T87 l0_0 x12_1).f2), .slice A371_4 ((rd_T87 l0_0 x12_1).f3).length c371_4, .int .i64 0, .int .i64 0, .int .i64 0, .int .i64 0]) ?_ 5 _ rfl; (with_reducible repeat (first | refine blk_drewN ?_ _ | refine blk_drew ?_ | refine blk_alloc ?_ _)); refine blk_put (cs := #[.int .i64 ((rd_T87 l0_0 x12_1).f0.f0), .string ((rd_T87 l0_0 x12_1).f0.f1), .bool ((rd_T87 l0_0 x12_1).f1), .string ((rd_T87 l0_0 x12_1).f2), .slice none 0 0, .int .i64 0, .int .i64 0, .int .i64 0, .int .i64 0]) ?_ 4 _ rfl; (with_reducible repeat (first | refine blk_drewN ?_ _ | refine blk_drew ?_ | refine blk_alloc ?_ _)); refine blk_put (cs := #[.int .i64 ((rd_T87 l0_0 x12_1).f0.f0), .string ((rd_T87 l0_0 x12_1).f0.f1), .bool ((rd_T87 l0_0 x12_1).f1), .string (⟨#[]⟩ : ByteArray), .slice none 0 0, .int .i64 0, .int .i64 0, .int .i64 0, .int .i64 0]) ?_ 3 _ rfl; (with_reducible repeat (first | refine blk_drewN ?_ _ | refine blk_drew ?_ | refine blk_alloc ?_ _)); refine blk_put (cs := #[.int .i64 ((rd_T87 l0_0 x12_1).f0.f0), .string ((rd_T87 l0_0 x12_1).f0.f1), .bool false, .string (⟨#[]⟩ : ByteArray), .slice none 0 0, .int .i64 0, .int .i64 0, .int .i64 0, .int .i64 0]) ?_ 2 _ rfl; (with_reducible repeat (first | refine blk_drewN ?_ _ | refine blk_drew ?_ | refine blk_alloc ?_ _)); refine blk_put (cs := #[.int .i64 ((rd_T87 l0_0 x12_1).f0.f0), .string (⟨#[]⟩ : ByteArray), .bool false, .string (⟨#[]⟩ : ByteArray), .slice none 0 0, .int .i64 0, .int .i64 0, .int .i64 0, .int .i64 0]) ?_ 1 _ rfl; (with_reducible repeat (first | refine blk_drewN ?_ _ | refine blk_drew ?_ | refine blk_alloc ?_ _)); refine blk_put (cs := #[.int .i64 0, .string (⟨#[]⟩ : ByteArray), .bool false, .string (⟨#[]⟩ : ByteArray), .slice none 0 0, .int .i64 0, .int .i64 0, .int .i64 0, .int .i64 0]) ?_ 0 _ rfl; (with_reducible repeat (first | refine blk_drewN ?_ _ | refine blk_drew ?_ | refine blk_alloc ?_ _)); exact BK372.out⟩
                        have n2_ : Aside0 (Below w.heap.size w (((((((((w18.setCell ⟨gb372, 0, none⟩ (.int .i64 ((rd_T87 l0_0 x12_1).f0.f0))).setCell ⟨gb372, 1, none⟩ (.string ((rd_T87 l0_0 x12_1).f0.f1))).setCell ⟨gb372, 2, none⟩ (.bool ((rd_T87 l0_0 x12_1).f1))).setCell ⟨gb372, 3, none⟩ (.string ((rd_T87 l0_0 x12_1).f2))).setCell ⟨gb372, 4, none⟩ (.slice A371_4 ((rd_T87 l0_0 x12_1).f3).length c371_4)).setCell ⟨gb372, 5, none⟩ (.int .i64 ((rd_T87 l0_0 x12_1).f4))).setCell ⟨gb372, 6, none⟩ (.int .i64 ((rd_T87 l0_0 x12_1).f5))).setCell ⟨gb372, 7, none⟩ (.int .i64 ((rd_T87 l0_0 x12_1).f6))).setCell ⟨gb372, 8, none⟩ (.int .i64 ((rd_T87 l0_0 x12_1).f7)))) := ⟨by repeat (first | (with_reducible first | exact HB.out | apply below_alloc | apply pw_below_drewN | apply below_drew1 | refine below_set ?_ GE370.out | refine below_set ?_ GE372.out) | exact HB.out)⟩
                        (try clear BK370)
                        (try clear BK372)
                        (try clear HB)
                        generalize (((((((((w18.setCell ⟨gb372, 0, none⟩ (.int .i64 ((rd_T87 l0_0 x12_1).f0.f0))).setCell ⟨gb372, 1, none⟩ (.string ((rd_T87 l0_0 x12_1).f0.f1))).setCell ⟨gb372, 2, none⟩ (.bool ((rd_T87 l0_0 x12_1).f1))).setCell ⟨gb372, 3, none⟩ (.string ((rd_T87 l0_0 x12_1).f2))).setCell ⟨gb372, 4, none⟩ (.slice A371_4 ((rd_T87 l0_0 x12_1).f3).length c371_4)).setCell ⟨gb372, 5, none⟩ (.int .i64 ((rd_T87 l0_0 x12_1).f4))).setCell ⟨gb372, 6, none⟩ (.int .i64 ((rd_T87 l0_0 x12_1).f5))).setCell ⟨gb372, 7, none⟩ (.int .i64 ((rd_T87 l0_0 x12_1).f6))).setCell ⟨gb372, 8, none⟩ (.int .i64 ((rd_T87 l0_0 x12_1).f7))) = w21 at n0_ n1_ n2_ ⊢
                        have BK370 := n0_
                        have BK372 := n1_
                        have HB := n2_
                        clear n0_ n1_ n2_
                        have n0_ := Aside0.mk (blk_drew BK370.out)
                        have n1_ := Aside0.mk (blk_drew BK372.out)
                        have n2_ := Aside0.mk (below_drew1 HB.out)
                        clear BK370
                        clear BK372
                        clear HB
                        have BK370 := n0_
                        have BK372 := n1_
                        have HB := n2_
                        clear n0_ n1_ n2_
                        have p374 : 0 ≤ ((ji13) : Int) := of_decide_eq_true (by first | (with_reducible assumption) | assumption)
                        have q374 : (ji13) < (l0_0.length : Int) := of_decide_eq_true (by first | (with_reducible assumption) | assumption)
                        obtain ⟨ad374, A374_4, c374_4, e374, hx374_0, hx374_1, hx374_2, hx374_3, hx374_4, hx374_5, hx374_6, hx374_7, hx374_8, hl374_4, hi374_4⟩ := at_T87 HR0_0.out (ji13) p374 q374
                        have hw374_8 := hx374_8
                        have hw374_7 := hx374_7
                        have hw374_6 := hx374_6
                        have hw374_5 := hx374_5
                        have hw374_4 := hx374_4
                        have hw374_3 := hx374_3
                        have hw374_2 := hx374_2
                        have hw374_1 := hx374_1
                        have hw374_0 := hx374_0
                        obtain rfl : ad371 = ad374 := (by injection e374)
                        replace hx374_0 := (HB.out.cell (World.block_lt_of_cell? w _ hx374_0)).trans hx374_0
                        replace hx374_1 := (HB.out.cell (World.block_lt_of_cell? w _ hx374_1)).trans hx374_1
                        replace hx374_2 := (HB.out.cell (World.block_lt_of_cell? w _ hx374_2)).trans hx374_2
                        replace hx374_3 := (HB.out.cell (World.block_lt_of_cell? w _ hx374_3)).trans hx374_3
                        replace hx374_4 := (HB.out.cell (World.block_lt_of_cell? w _ hx374_4)).trans hx374_4
                        replace hx374_5 := (HB.out.cell (World.block_lt_of_cell? w _ hx374_5)).trans hx374_5
                        replace hx374_6 := (HB.out.cell (World.block_lt_of_cell? w _ hx374_6)).trans hx374_6
                        replace hx374_7 := (HB.out.cell (World.block_lt_of_cell? w _ hx374_7)).trans hx374_7
                        replace hx374_8 := (HB.out.cell (World.block_lt_of_cell? w _ hx374_8)).trans hx374_8
                        have HR374_4 := Aside0.mk hi374_4
                        have HC374_4 := Aside0.mk hl374_4
                        clear hi374_4 hl374_4
                        replace p374 := eq_true p374
                        replace q374 := eq_true q374
                        refine start_ (n := 20) (S := fun w' => w'.cell? ⟨gb372, 0, none⟩ = some (.int .i64 ((rd_T87 l0_0 x12_1).f0.f0)) ∧ w'.cell? ⟨gb372, 1, none⟩ = some (.string ((rd_T87 l0_0 x12_1).f0.f1)) ∧ w'.cell? ⟨gb372, 2, none⟩ = some (.bool ((rd_T87 l0_0 x12_1).f1)) ∧ w'.cell? ⟨gb372, 3, none⟩ = some (.string ((rd_T87 l0_0 x12_1).f2)) ∧ w'.cell? ⟨gb372, 4, none⟩ = some (.slice A371_4 ((rd_T87 l0_0 x12_1).f3).length c371_4) ∧ w'.cell? ⟨gb372, 5, none⟩ = some (.int .i64 ((rd_T87 l0_0 x12_1).f4)) ∧ w'.cell? ⟨gb372, 6, none⟩ = some (.int .i64 ((rd_T87 l0_0 x12_1).f5)) ∧ w'.cell? ⟨gb372, 7, none⟩ = some (.int .i64 ((rd_T87 l0_0 x12_1).f6)) ∧ w'.cell? ⟨gb372, 8, none⟩ = some (.int .i64 ((rd_T87 l0_0 x12_1).f7)) ∧ w'.cell? ⟨gb370, 0, none⟩ = some (.slice (some ad371) l0_0.length c0_0) ∧ w'.cell? (ad371.add (((ji13)).toNat * 9)) = some (.int .i64 ((rd_T87 l0_0 (ji13)).f0.f0)) ∧ w'.cell? ⟨(ad371.add (((ji13)).toNat * 9)).block, (ad371.add (((ji13)).toNat * 9)).off + 1, none⟩ = some (.string ((rd_T87 l0_0 (ji13)).f0.f1)) ∧ w'.cell? ⟨(ad371.add (((ji13)).toNat * 9)).block, (ad371.add (((ji13)).toNat * 9)).off + 2, none⟩ = some (.bool ((rd_T87 l0_0 (ji13)).f1)) ∧ w'.cell? ⟨(ad371.add (((ji13)).toNat * 9)).block, (ad371.add (((ji13)).toNat * 9)).off + 3, none⟩ = some (.string ((rd_T87 l0_0 (ji13)).f2)) ∧ w'.cell? ⟨(ad371.add (((ji13)).toNat * 9)).block, (ad371.add (((ji13)).toNat * 9)).off + 4, none⟩ = some (.slice A374_4 ((rd_T87 l0_0 (ji13)).f3).length c374_4) ∧ w'.cell? ⟨(ad371.add (((ji13)).toNat * 9)).block, (ad371.add (((ji13)).toNat * 9)).off + 5, none⟩ = some (.int .i64 ((rd_T87 l0_0 (ji13)).f4)) ∧ w'.cell? ⟨(ad371.add (((ji13)).toNat * 9)).block, (ad371.add (((ji13)).toNat * 9)).off + 6, none⟩ = some (.int .i64 ((rd_T87 l0_0 (ji13)).f5)) ∧ w'.cell? ⟨(ad371.add (((ji13)).toNat * 9)).block, (ad371.add (((ji13)).toNat * 9)).off + 7, none⟩ = some (.int .i64 ((rd_T87 l0_0 (ji13)).f6)) ∧ w'.cell? ⟨(ad371.add (((ji13)).toNat * 9)).block, (ad371.add (((ji13)).toNat * 9)).off + 8, none⟩ = some (.int .i64 ((rd_T87 l0_0 (ji13)).f7))) (ds := []) #[false, false, false, false, false, false, false, false, false, false, false, false, false, false, false, false, false, false, false, false] (by kernel_rfl) rfl rfl ⟨(blk_cell BK372.out 0).trans rfl, (blk_cell BK372.out 1).trans rfl, (blk_cell BK372.out 2).trans rfl, (blk_cell BK372.out 3).trans rfl, (blk_cell BK372.out 4).trans rfl, (blk_cell BK372.out 5).trans rfl, (blk_cell BK372.out 6).trans rfl, (blk_cell BK372.out 7).trans rfl, (blk_cell BK372.out 8).trans rfl, (blk_cell BK370.out 0).trans rfl, ((HB.out.cell (World.block_lt_of_cell? w _ hw374_0)).trans hw374_0), ((HB.out.cell (World.block_lt_of_cell? w _ hw374_1)).trans hw374_1), ((HB.out.cell (World.block_lt_of_cell? w _ hw374_2)).trans hw374_2), ((HB.out.cell (World.block_lt_of_cell? w _ hw374_3)).trans hw374_3), ((HB.out.cell (World.block_lt_of_cell? w _ hw374_4)).trans hw374_4), ((HB.out.cell (World.block_lt_of_cell? w _ hw374_5)).trans hw374_5), ((HB.out.cell (World.block_lt_of_cell? w _ hw374_6)).trans hw374_6), ((HB.out.cell (World.block_lt_of_cell? w _ hw374_7)).trans hw374_7), ((HB.out.cell (World.block_lt_of_cell? w _ hw374_8)).trans hw374_8)⟩ (fun hHeld => ?_); refine with_tabW impl_ValidTable.tab6 impl_ValidTable.bits6 (fun HT_ HW_ => ?_)
                        generalize w21.drew = w22 at BK370 BK372 HB HR374_4 hx374_0 hx374_1 hx374_2 hx374_3 hx374_4 hx374_5 hx374_6 hx374_7 hx374_8 hHeld ⊢
                        refine take_ (i := 0) (N := some 17) (v := ?_) (a' := ?_) #[true, false, false, false, false, false, false, false, false, false, false, false, false, false, false, false, false, false, false, false] rfl rfl (take_ofW HT_.out HW_.out (by kernel_rfl)) (fun _ _ _ h => h) (Or.inl ⟨by rfl, ?_⟩) hHeld ?_ ?_
                        rotate_left
                        · rintro w' ⟨s0, s1, s2, s3, s4, s5, s6, s7, s8, s9, s10, s11, s12, s13, s14, s15, s16, s17, s18⟩
                          go_simp
                          with_reducible rfl
                        rotate_left
                        · simp only [Act.put, List.setIfInBounds_toArray, List.set_cons_zero, List.set_cons_succ, i64_w, i32_w]
                          rfl
                        refine one_ (i := 1) (N := some 18) #[true, true, false, false, false, false, false, false, false, false, false, false, false, false, false, false, false, false, false, false] rfl rfl (one_of HT_.out (by kernel_rfl)) (by decide) (fun K hK => ?_)
                        refine goes_ Tryd.func49 (by kernel_rfl) rfl #[.agg #[.int .i64 ((rd_T87 l0_0 x12_1).f0.f0), .string ((rd_T87 l0_0 x12_1).f0.f1), .bool ((rd_T87 l0_0 x12_1).f1), .string ((rd_T87 l0_0 x12_1).f2), .slice A371_4 ((rd_T87 l0_0 x12_1).f3).length c371_4, .int .i64 ((rd_T87 l0_0 x12_1).f4), .int .i64 ((rd_T87 l0_0 x12_1).f5), .int .i64 ((rd_T87 l0_0 x12_1).f6), .int .i64 ((rd_T87 l0_0 x12_1).f7)]] (by rfl) rfl rfl (by (try simp only [List.map_toArray, List.map_cons, List.map_nil]); first | done | rfl | (simp only [List.length_drop, List.length_take]; rfl)) ?_
                        with_reducible refine (impl_Slot_valid.calls k1 ((rd_T87 l0_0 x12_1).f0.f0) ((rd_T87 l0_0 x12_1).f0.f1) ((rd_T87 l0_0 x12_1).f1) ((rd_T87 l0_0 x12_1).f2) _ _ ((rd_T87 l0_0 x12_1).f3) ((rd_T87 l0_0 x12_1).f4) ((rd_T87 l0_0 x12_1).f5) ((rd_T87 l0_0 x12_1).f6) ((rd_T87 l0_0 x12_1).f7) true _ ?side1 ?side2 ?side3 A10.out).mono ?_
                        (case side1 => (first | exact HG.out | exact GRes.below HG.out (by repeat (first | (with_reducible first | exact HB.out | apply below_alloc | apply pw_below_drewN | apply below_drew1 | refine below_set ?_ GE370.out | refine below_set ?_ GE372.out) | exact HB.out)) | (repeat (first | exact HG.out | apply GRes.drewN | apply GRes.drew | apply GRes.alloc))))
                        (case side2 => repeat (first | exact (Kd.C_below HR371_4.out HB.out) | (with_reducible refine Kd.C_alloc ?_ _) | (with_reducible refine Kd.C_drewN ?_ _) | (with_reducible refine Kd.C_drew ?_)))
                        (case side3 => exact HC371_4.out)
                        rintro e w23 ⟨rfl, hb⟩
                        refine ⟨_, rfl, ?_⟩
                        have n0_ := Aside0.mk (blk_below (g := gb370) (o := .cells #[.slice (some ad371) l0_0.length c0_0] 52 (0, 0)) (by (with_reducible repeat (first | refine blk_drewN ?_ _ | refine blk_drew ?_ | refine blk_alloc ?_ _)); exact BK370.out) hb)
                        have n1_ := Aside0.mk (blk_below (g := gb372) (o := .cells #[.int .i64 ((rd_T87 l0_0 x12_1).f0.f0), .string ((rd_T87 l0_0 x12_1).f0.f1), .bool ((rd_T87 l0_0 x12_1).f1), .string ((rd_T87 l0_0 x12_1).f2), .slice A371_4 ((rd_T87 l0_0 x12_1).f3).length c371_4, .int .i64 ((rd_T87 l0_0 x12_1).f4), .int .i64 ((rd_T87 l0_0 x12_1).f5), .int .i64 ((rd_T87 l0_0 x12_1).f6), .int .i64 ((rd_T87 l0_0 x12_1).f7)] 87 (0, 0)) (by (with_reducible repeat (first | refine blk_drewN ?_ _ | refine blk_drew ?_ | refine blk_alloc ?_ _)); exact BK372.out) hb)
                        have n2_ := Aside0.mk (below_step (by repeat (first | (with_reducible first | exact HB.out | apply below_alloc | apply pw_below_drewN | apply below_drew1 | refine below_set ?_ GE370.out | refine below_set ?_ GE372.out) | exact HB.out)) hb)
                        clear BK370
                        clear BK372
                        clear HB
                        have BK370 := n0_
                        have BK372 := n1_
                        have HB := n2_
                        clear n0_ n1_ n2_
                        (try clear hb)
                        (try clear hb2)
                        (try clear hk)
                        (try clear hi)
                        refine hK.out _ _ ⟨(blk_cell BK372.out 0).trans rfl, (blk_cell BK372.out 1).trans rfl, (blk_cell BK372.out 2).trans rfl, (blk_cell BK372.out 3).trans rfl, (blk_cell BK372.out 4).trans rfl, (blk_cell BK372.out 5).trans rfl, (blk_cell BK372.out 6).trans rfl, (blk_cell BK372.out 7).trans rfl, (blk_cell BK372.out 8).trans rfl, (blk_cell BK370.out 0).trans rfl, ((HB.out.cell (World.block_lt_of_cell? w _ hw374_0)).trans hw374_0), ((HB.out.cell (World.block_lt_of_cell? w _ hw374_1)).trans hw374_1), ((HB.out.cell (World.block_lt_of_cell? w _ hw374_2)).trans hw374_2), ((HB.out.cell (World.block_lt_of_cell? w _ hw374_3)).trans hw374_3), ((HB.out.cell (World.block_lt_of_cell? w _ hw374_4)).trans hw374_4), ((HB.out.cell (World.block_lt_of_cell? w _ hw374_5)).trans hw374_5), ((HB.out.cell (World.block_lt_of_cell? w _ hw374_6)).trans hw374_6), ((HB.out.cell (World.block_lt_of_cell? w _ hw374_7)).trans hw374_7), ((HB.out.cell (World.block_lt_of_cell? w _ hw374_8)).trans hw374_8)⟩ (fun hHeld => ?_)
                        clear hK K
                        refine norm_ (a' := ?_) ?_ ?_
                        rotate_left
                        · show Act.put _ (some 18) _ = _
                          simp only [Act.put, List.setIfInBounds_toArray, List.set_cons_zero, List.set_cons_succ, i64_w, i32_w]
                          rfl
                        refine pure_ (i := 2) (N := some 19) (v := ?_) (a' := ?_) #[true, true, true, false, false, false, false, false, false, false, false, false, false, false, false, false, false, false, false, false] rfl rfl (any_of HT_.out (by kernel_rfl)) (fun _ _ _ h => h) (Or.inl ⟨by rfl, ?_⟩) ?_ ?_
                        rotate_left
                        · intro w'
                          go_simp
                          with_reducible rfl
                        rotate_left
                        · simp only [Act.put, List.setIfInBounds_toArray, List.set_cons_zero, List.set_cons_succ, i64_w, i32_w]
                          rfl
                        refine pure_ (i := 3) (N := some 20) (v := ?_) (a' := ?_) #[true, true, true, true, false, false, false, false, false, false, false, false, false, false, false, false, false, false, false, false] rfl rfl (any_of HT_.out (by kernel_rfl)) (fun _ _ _ h => h) (Or.inl ⟨by rfl, ?_⟩) ?_ ?_
                        rotate_left
                        · intro w'
                          go_simp
                          with_reducible rfl
                        rotate_left
                        · simp only [Act.put, List.setIfInBounds_toArray, List.set_cons_zero, List.set_cons_succ, i64_w, i32_w]
                          rfl
                        refine pure_ (i := 4) (N := some 21) (v := ?_) (a' := ?_) #[true, true, true, true, true, false, false, false, false, false, false, false, false, false, false, false, false, false, false, false] rfl rfl (any_of HT_.out (by kernel_rfl)) (fun _ _ _ h => h) (Or.inl ⟨by rfl, ?_⟩) ?_ ?_
                        rotate_left
                        · intro w'
                          go_simp
                          with_reducible rfl
                        rotate_left
                        · simp only [Act.put, List.setIfInBounds_toArray, List.set_cons_zero, List.set_cons_succ, i64_w, i32_w]
                          rfl
                        refine pure_ (i := 5) (N := some 22) (v := ?_) (a' := ?_) #[true, true, true, true, true, true, false, false, false, false, false, false, false, false, false, false, false, false, false, false] rfl rfl (any_of HT_.out (by kernel_rfl)) (fun _ _ _ h => h) (Or.inl ⟨by rfl, ?_⟩) ?_ ?_
                        rotate_left
                        · intro w'
                          go_simp
                          with_reducible rfl
                        rotate_left
                        · simp only [Act.put, List.setIfInBounds_toArray, List.set_cons_zero, List.set_cons_succ, i64_w, i32_w]
                          rfl
                        refine pure_ (i := 6) (N := some 23) (v := ?_) (a' := ?_) #[true, true, true, true, true, true, true, false, false, false, false, false, false, false, false, false, false, false, false, false] rfl rfl (any_of HT_.out (by kernel_rfl)) (fun _ _ _ h => h) (Or.inl ⟨by rfl, ?_⟩) ?_ ?_
                        rotate_left
                        · intro w'
                          go_simp
                          with_reducible rfl
                        rotate_left
                        · simp only [Act.put, List.setIfInBounds_toArray, List.set_cons_zero, List.set_cons_succ, i64_w, i32_w]
                          rfl
                        refine pure_ (i := 7) (N := some 24) (v := ?_) (a' := ?_) #[true, true, true, true, true, true, true, true, false, false, false, false, false, false, false, false, false, false, false, false] rfl rfl (any_of HT_.out (by kernel_rfl)) (fun _ _ _ h => h) (Or.inl ⟨by rfl, ?_⟩) ?_ ?_
                        rotate_left
                        · intro w'
                          go_simp
                          with_reducible rfl
                        rotate_left
                        · simp only [Act.put, List.setIfInBounds_toArray, List.set_cons_zero, List.set_cons_succ, i64_w, i32_w]
                          rfl
                        refine pure_ (i := 9) (N := some 26) (v := ?_) (a' := ?_) #[true, true, true, true, true, true, true, true, false, true, false, false, false, false, false, false, false, false, false, false] rfl rfl (any_of HT_.out (by kernel_rfl)) (fun _ _ _ h => h) (Or.inl ⟨by rfl, ?_⟩) ?_ ?_
                        rotate_left
                        · intro w'
                          go_simp
                          with_reducible rfl
                        rotate_left
                        · simp only [Act.put, List.setIfInBounds_toArray, List.set_cons_zero, List.set_cons_succ, i64_w, i32_w]
                          rfl
                        refine pure_ (i := 10) (N := some 27) (v := ?_) (a' := ?_) #[true, true, true, true, true, true, true, true, false, true, true, false, false, false, false, false, false, false, false, false] rfl rfl (any_of HT_.out (by kernel_rfl)) (fun _ _ _ h => h) (Or.inl ⟨by rfl, ?_⟩) ?_ ?_
                        rotate_left
                        · intro w'
                          go_simp
                          with_reducible rfl
                        rotate_left
                        · simp only [Act.put, List.setIfInBounds_toArray, List.set_cons_zero, List.set_cons_succ, i64_w, i32_w]
                          rfl
                        refine pure_ (i := 14) (N := some 31) (v := ?_) (a' := ?_) #[true, true, true, true, true, true, true, true, false, true, true, false, false, false, true, false, false, false, false, false] rfl rfl (any_of HT_.out (by kernel_rfl)) (fun _ _ _ h => h) (Or.inl ⟨by rfl, ?_⟩) ?_ ?_
                        rotate_left
                        · intro w'
                          go_simp
                          with_reducible rfl
                        rotate_left
                        · simp only [Act.put, List.setIfInBounds_toArray, List.set_cons_zero, List.set_cons_succ, i64_w, i32_w]
                          rfl
                        refine take_ (i := 8) (N := some 25) (v := ?_) (a' := ?_) #[true, true, true, true, true, true, true, true, true, true, true, false, false, false, true, false, false, false, false, false] rfl rfl (take_ofW HT_.out HW_.out (by kernel_rfl)) (fun _ _ _ h => h) (Or.inl ⟨by rfl, ?_⟩) hHeld ?_ ?_
                        rotate_left
                        · rintro w' ⟨s0, s1, s2, s3, s4, s5, s6, s7, s8, s9, s10, s11, s12, s13, s14, s15, s16, s17, s18⟩
                          go_simp
                          with_reducible rfl
                        rotate_left
                        · simp only [Act.put, List.setIfInBounds_toArray, List.set_cons_zero, List.set_cons_succ, i64_w, i32_w]
                          rfl
                        refine pure_ (i := 11) (N := some 28) (v := ?_) (a' := ?_) #[true, true, true, true, true, true, true, true, true, true, true, true, false, false, true, false, false, false, false, false] rfl rfl (any_of HT_.out (by kernel_rfl)) (fun _ _ _ h => h) (Or.inl ⟨by rfl, ?_⟩) ?_ ?_
                        rotate_left
                        · intro w'
                          go_simp
                          with_reducible rfl
                        rotate_left
                        · simp only [Act.put, List.setIfInBounds_toArray, List.set_cons_zero, List.set_cons_succ, i64_w, i32_w]
                          rfl
                        refine pure_ (i := 12) (N := some 29) (v := ?_) (a' := ?_) #[true, true, true, true, true, true, true, true, true, true, true, true, true, false, true, false, false, false, false, false] rfl rfl (any_of HT_.out (by kernel_rfl)) (fun _ _ _ h => h) (Or.inl ⟨by rfl, ?_⟩) ?_ ?_
                        rotate_left
                        · intro w'
                          go_simp
                          with_reducible rfl
                        rotate_left
                        · simp only [Act.put, List.setIfInBounds_toArray, List.set_cons_zero, List.set_cons_succ, i64_w, i32_w]
                          rfl
                        refine take_ (i := 13) (N := some 30) (v := ?_) (a' := ?_) #[true, true, true, true, true, true, true, true, true, true, true, true, true, true, true, false, false, false, false, false] rfl rfl (take_ofW HT_.out HW_.out (by kernel_rfl)) (fun _ _ _ h => h) (Or.inl ⟨by rfl, ?_⟩) hHeld ?_ ?_
                        rotate_left
                        · rintro w' ⟨s0, s1, s2, s3, s4, s5, s6, s7, s8, s9, s10, s11, s12, s13, s14, s15, s16, s17, s18⟩
                          go_simp
                          with_reducible rfl
                        rotate_left
                        · simp only [Act.put, List.setIfInBounds_toArray, List.set_cons_zero, List.set_cons_succ, i64_w, i32_w]
                          rfl
                        refine take_ (i := 15) (N := some 32) (v := ?_) (a' := ?_) #[true, true, true, true, true, true, true, true, true, true, true, true, true, true, true, true, false, false, false, false] rfl rfl (take_ofW HT_.out HW_.out (by kernel_rfl)) (fun _ _ _ h => h) (Or.inl ⟨by rfl, ?_⟩) hHeld ?_ ?_
                        rotate_left
                        · rintro w' ⟨s0, s1, s2, s3, s4, s5, s6, s7, s8, s9, s10, s11, s12, s13, s14, s15, s16, s17, s18⟩
                          go_simp
                          with_reducible rfl
                        rotate_left
                        · simp only [Act.put, List.setIfInBounds_toArray, List.set_cons_zero, List.set_cons_succ, i64_w, i32_w]
                          rfl
                        refine one_ (i := 16) (N := some 33) #[true, true, true, true, true, true, true, true, true, true, true, true, true, true, true, true, true, false, false, false] rfl rfl (one_of HT_.out (by kernel_rfl)) (by decide) (fun K hK => ?_)
                        refine goes_ Tryd.func50 (by kernel_rfl) rfl #[.agg #[.int .i64 ((rd_T87 l0_0 (ji13)).f0.f0), .string ((rd_T87 l0_0 (ji13)).f0.f1)], .agg #[.int .i64 ((rd_T87 l0_0 x12_1).f0.f0), .string ((rd_T87 l0_0 x12_1).f0.f1)]] (by rfl) rfl rfl (by (try simp only [List.map_toArray, List.map_cons, List.map_nil]); first | done | (simp only [hji13]; rfl) | rfl | (simp only [List.length_drop, List.length_take]; rfl)) ?_
                        with_reducible refine (impl_compareKeys.calls k1 ((rd_T87 l0_0 (ji13)).f0.f0) ((rd_T87 l0_0 (ji13)).f0.f1) ((rd_T87 l0_0 x12_1).f0.f0) ((rd_T87 l0_0 x12_1).f0.f1) t375 _ A16.out).mono ?_
                        rintro e w24 ⟨rfl, hb⟩
                        refine ⟨_, rfl, ?_⟩
                        have n0_ := Aside0.mk (blk_below (g := gb370) (o := .cells #[.slice (some ad371) l0_0.length c0_0] 52 (0, 0)) (by (with_reducible repeat (first | refine blk_drewN ?_ _ | refine blk_drew ?_ | refine blk_alloc ?_ _)); exact BK370.out) hb)
                        have n1_ := Aside0.mk (blk_below (g := gb372) (o := .cells #[.int .i64 ((rd_T87 l0_0 x12_1).f0.f0), .string ((rd_T87 l0_0 x12_1).f0.f1), .bool ((rd_T87 l0_0 x12_1).f1), .string ((rd_T87 l0_0 x12_1).f2), .slice A371_4 ((rd_T87 l0_0 x12_1).f3).length c371_4, .int .i64 ((rd_T87 l0_0 x12_1).f4), .int .i64 ((rd_T87 l0_0 x12_1).f5), .int .i64 ((rd_T87 l0_0 x12_1).f6), .int .i64 ((rd_T87 l0_0 x12_1).f7)] 87 (0, 0)) (by (with_reducible repeat (first | refine blk_drewN ?_ _ | refine blk_drew ?_ | refine blk_alloc ?_ _)); exact BK372.out) hb)
                        have n2_ := Aside0.mk (below_step (by repeat (first | (with_reducible first | exact HB.out | apply below_alloc | apply pw_below_drewN | apply below_drew1 | refine below_set ?_ GE370.out | refine below_set ?_ GE372.out) | exact HB.out)) hb)
                        clear BK370
                        clear BK372
                        clear HB
                        have BK370 := n0_
                        have BK372 := n1_
                        have HB := n2_
                        clear n0_ n1_ n2_
                        (try clear hb)
                        (try clear hb2)
                        (try clear hk)
                        (try clear hi)
                        refine hK.out _ _ ⟨(blk_cell BK372.out 0).trans rfl, (blk_cell BK372.out 1).trans rfl, (blk_cell BK372.out 2).trans rfl, (blk_cell BK372.out 3).trans rfl, (blk_cell BK372.out 4).trans rfl, (blk_cell BK372.out 5).trans rfl, (blk_cell BK372.out 6).trans rfl, (blk_cell BK372.out 7).trans rfl, (blk_cell BK372.out 8).trans rfl, (blk_cell BK370.out 0).trans rfl, ((HB.out.cell (World.block_lt_of_cell? w _ hw374_0)).trans hw374_0), ((HB.out.cell (World.block_lt_of_cell? w _ hw374_1)).trans hw374_1), ((HB.out.cell (World.block_lt_of_cell? w _ hw374_2)).trans hw374_2), ((HB.out.cell (World.block_lt_of_cell? w _ hw374_3)).trans hw374_3), ((HB.out.cell (World.block_lt_of_cell? w _ hw374_4)).trans hw374_4), ((HB.out.cell (World.block_lt_of_cell? w _ hw374_5)).trans hw374_5), ((HB.out.cell (World.block_lt_of_cell? w _ hw374_6)).trans hw374_6), ((HB.out.cell (World.block_lt_of_cell? w _ hw374_7)).trans hw374_7), ((HB.out.cell (World.block_lt_of_cell? w _ hw374_8)).trans hw374_8)⟩ (fun hHeld => ?_)
                        clear hK K
                        refine norm_ (a' := ?_) ?_ ?_
                        rotate_left
                        · show Act.put _ (some 33) _ = _
                          simp only [Act.put, List.setIfInBounds_toArray, List.set_cons_zero, List.set_cons_succ, i64_w, i32_w]
                          rfl
                        refine pure_ (i := 17) (N := some 34) (v := ?_) (a' := ?_) #[true, true, true, true, true, true, true, true, true, true, true, true, true, true, true, true, true, true, false, false] rfl rfl (any_of HT_.out (by kernel_rfl)) (fun _ _ _ h => h) (Or.inl ⟨by rfl, ?_⟩) ?_ ?_
                        rotate_left
                        · intro w'
                          go_simp
                          with_reducible rfl
                        rotate_left
                        · simp only [Act.put, List.setIfInBounds_toArray, List.set_cons_zero, List.set_cons_succ, i64_w, i32_w]
                          rfl
                        refine pure_ (i := 18) (N := some 35) (v := ?_) (a' := ?_) #[true, true, true, true, true, true, true, true, true, true, true, true, true, true, true, true, true, true, true, false] rfl rfl (any_of HT_.out (by kernel_rfl)) (fun _ _ _ h => h) (Or.inl ⟨by rfl, ?_⟩) ?_ ?_
                        rotate_left
                        · intro w'
                          go_simp
                          with_reducible rfl
                        rotate_left
                        · simp only [Act.put, List.setIfInBounds_toArray, List.set_cons_zero, List.set_cons_succ, i64_w, i32_w]
                          rfl
                        refine pure_ (i := 19) (N := some 36) (v := ?_) (a' := ?_) #[true, true, true, true, true, true, true, true, true, true, true, true, true, true, true, true, true, true, true, true] rfl rfl (any_of HT_.out (by kernel_rfl)) (fun _ _ _ h => h) (Or.inl ⟨by rfl, ?_⟩) ?_ ?_
                        rotate_left
                        · intro w'
                          go_simp
                          with_reducible rfl
                        rotate_left
                        · simp only [Act.put, List.setIfInBounds_toArray, List.set_cons_zero, List.set_cons_succ, i64_w, i32_w]
                          rfl
                        refine done_ (done_of HT_.out (by kernel_rfl)) ?_
                        try go_wp2
                        go_ret
                        exact ⟨by first | rfl | (simp [errW_none, errW_some] <;> rfl) | (simp only [← hji13]; first | rfl | (simp [errW_none, errW_some] <;> rfl)) | (simp [*, errW_none, errW_some] <;> rfl), by repeat (first | (with_reducible first | exact HB.out | apply below_alloc | apply pw_below_drewN | apply below_drew1 | refine below_set ?_ GE370.out | refine below_set ?_ GE372.out) | exact HB.out)⟩
                      · rw [if_neg c17] at H
                        have c17b0 : decide (0 ≤ t375) = false := decide_eq_false c17
                        clear c17
                        have H' := Aside0.mk H
                        clear H
                        have p371 : 0 ≤ (x12_1 : Int) := of_decide_eq_true (by first | (with_reducible assumption) | assumption)
                        have q371 : x12_1 < (l0_0.length : Int) := of_decide_eq_true (by first | (with_reducible assumption) | assumption)
                        obtain ⟨ad371, A371_4, c371_4, e371, hx371_0, hx371_1, hx371_2, hx371_3, hx371_4, hx371_5, hx371_6, hx371_7, hx371_8, hl371_4, hi371_4⟩ := at_T87 HR0_0.out x12_1 p371 q371
                        cases e371
                        replace hx371_0 := (HB.out.cell (World.block_lt_of_cell? w _ hx371_0)).trans hx371_0
                        replace hx371_1 := (HB.out.cell (World.block_lt_of_cell? w _ hx371_1)).trans hx371_1
                        replace hx371_2 := (HB.out.cell (World.block_lt_of_cell? w _ hx371_2)).trans hx371_2
                        replace hx371_3 := (HB.out.cell (World.block_lt_of_cell? w _ hx371_3)).trans hx371_3
                        replace hx371_4 := (HB.out.cell (World.block_lt_of_cell? w _ hx371_4)).trans hx371_4
                        replace hx371_5 := (HB.out.cell (World.block_lt_of_cell? w _ hx371_5)).trans hx371_5
                        replace hx371_6 := (HB.out.cell (World.block_lt_of_cell? w _ hx371_6)).trans hx371_6
                        replace hx371_7 := (HB.out.cell (World.block_lt_of_cell? w _ hx371_7)).trans hx371_7
                        replace hx371_8 := (HB.out.cell (World.block_lt_of_cell? w _ hx371_8)).trans hx371_8
                        have HR371_4 := Aside0.mk hi371_4
                        have HC371_4 := Aside0.mk hl371_4
                        clear hi371_4 hl371_4
                        replace p371 := eq_true p371
                        replace q371 := eq_true q371
                        try go_wp2_with (first | ((with_reducible refine gate_dst (N := 4) rfl ?_); refine box_event ?hg (N := 4) ?hd (cs := #[.int .i64 0, .string (⟨#[]⟩ : ByteArray), .bool false, .string (⟨#[]⟩ : ByteArray), .slice none 0 0, .int .i64 0, .int .i64 0, .int .i64 0, .int .i64 0]) (t := 87) ?hr ?_; (case hd => rfl); (case hg => rfl); (case hr => first | (go_simp; done) | (go_simp; rfl)); intro gb372 hg w25 hbox hb; have n0_ := Aside0.mk (blk_below (g := gb370) (o := .cells #[.slice (some ad371) l0_0.length c0_0] 52 (0, 0)) (by (with_reducible repeat (first | refine blk_drewN ?_ _ | refine blk_drew ?_ | refine blk_alloc ?_ _)); exact BK370.out) hb); have n1_ := Aside0.mk (below_step (by repeat (first | (with_reducible first | exact HB.out | apply below_alloc | apply pw_below_drewN | apply below_drew1 | refine below_set ?_ GE370.out) | exact HB.out)) hb); have n2_ := Aside0.mk (hbox); have n3_ := Aside0.mk ((by rw [hg]; exact (below_size (by repeat (first | (with_reducible first | exact HB.out | apply below_alloc | apply pw_below_drewN | apply below_drew1 | refine below_set ?_ GE370.out) | exact HB.out))) : w.heap.size ≤ gb372)); have n4_ := Aside0.mk ((by rw [hg]; exact (below_size (by repeat (first | (with_reducible first | exact HB.out | apply below_alloc | apply pw_below_drewN | apply below_drew1 | refine below_set ?_ GE370.out) | exact HB.out))) : w.heap.size ≤ gb372)); have n5_ := Aside0.mk ((by rw [hg]; exact Nat.ne_of_lt (blk_lt (g := gb370) (o := .cells #[.slice (some ad371) l0_0.length c0_0] 52 (0, 0)) (by (with_reducible repeat (first | refine blk_drewN ?_ _ | refine blk_drew ?_ | refine blk_alloc ?_ _)); exact BK370.out)) : gb370 ≠ gb372)); have n6_ := Aside0.mk ((by rw [hg]; exact Nat.ne_of_gt (blk_lt (g := gb370) (o := .cells #[.slice (some ad371) l0_0.length c0_0] 52 (0, 0)) (by (with_reducible repeat (first | refine blk_drewN ?_ _ | refine blk_drew ?_ | refine blk_alloc ?_ _)); exact BK370.out)) : gb372 ≠ gb370)); clear BK370; clear HB; have BK370 := n0_; have HB := n1_; have BK372 := n2_; have GW372 := n3_; have GE372 := n4_; have NB370_372 := n5_; have NB372_370 := n6_; clear n0_ n1_ n2_ n3_ n4_ n5_ n6_; clear hb hbox hg; have hnb26 := NB372_370.out; have hnc26 := NB370_372.out; have hcz27_0 : w25.cell? ⟨gb372, 0, none⟩ = some (.int .i64 0) := (blk_cell BK372.out 0).trans rfl; have hcz27_1 : w25.cell? ⟨gb372, 1, none⟩ = some (.string (⟨#[]⟩ : ByteArray)) := (blk_cell BK372.out 1).trans rfl; have hcz27_2 : w25.cell? ⟨gb372, 2, none⟩ = some (.bool false) := (blk_cell BK372.out 2).trans rfl; have hcz27_3 : w25.cell? ⟨gb372, 3, none⟩ = some (.string (⟨#[]⟩ : ByteArray)) := (blk_cell BK372.out 3).trans rfl; have hcz27_4 : w25.cell? ⟨gb372, 4, none⟩ = some (.slice none 0 0) := (blk_cell BK372.out 4).trans rfl; have hcz27_5 : w25.cell? ⟨gb372, 5, none⟩ = some (.int .i64 0) := (blk_cell BK372.out 5).trans rfl; have hcz27_6 : w25.cell? ⟨gb372, 6, none⟩ = some (.int .i64 0) := (blk_cell BK372.out 6).trans rfl; have hcz27_7 : w25.cell? ⟨gb372, 7, none⟩ = some (.int .i64 0) := (blk_cell BK372.out 7).trans rfl; have hcz27_8 : w25.cell? ⟨gb372, 8, none⟩ = some (.int .i64 0) := (blk_cell BK372.out 8).trans rfl; have hfz27_0 := blk_frozen BK372.out 0; have hfz27_1 := blk_frozen BK372.out 1; have hfz27_2 := blk_frozen BK372.out 2; have hfz27_3 := blk_frozen BK372.out 3; have hfz27_4 := blk_frozen BK372.out 4; have hfz27_5 := blk_frozen BK372.out 5; have hfz27_6 := blk_frozen BK372.out 6; have hfz27_7 := blk_frozen BK372.out 7; have hfz27_8 := blk_frozen BK372.out 8))
                        have n0_ : Aside0 ((((((((((w25.setCell ⟨gb372, 0, none⟩ (.int .i64 ((rd_T87 l0_0 x12_1).f0.f0))).setCell ⟨gb372, 1, none⟩ (.string ((rd_T87 l0_0 x12_1).f0.f1))).setCell ⟨gb372, 2, none⟩ (.bool ((rd_T87 l0_0 x12_1).f1))).setCell ⟨gb372, 3, none⟩ (.string ((rd_T87 l0_0 x12_1).f2))).setCell ⟨gb372, 4, none⟩ (.slice A371_4 ((rd_T87 l0_0 x12_1).f3).length c371_4)).setCell ⟨gb372, 5, none⟩ (.int .i64 ((rd_T87 l0_0 x12_1).f4))).setCell ⟨gb372, 6, none⟩ (.int .i64 ((rd_T87 l0_0 x12_1).f5))).setCell ⟨gb372, 7, none⟩ (.int .i64 ((rd_T87 l0_0 x12_1).f6))).setCell ⟨gb372, 8, none⟩ (.int .i64 ((rd_T87 l0_0 x12_1).f7))).heap[gb370]? = some (.cells #[.slice (some ad371) l0_0.length c0_0] 52 (0, 0))) := ⟨by (with_reducible repeat (first | refine blk_drewN ?_ _ | refine blk_drew ?_ | refine blk_alloc ?_ _)); refine blk_far ?_ NB370_372.out _; (with_reducible repeat (first | refine blk_drewN ?_ _ | refine blk_drew ?_ | refine blk_alloc ?_ _)); refine blk_far ?_ NB370_372.out _; (with_reducible repeat (first | refine blk_drewN ?_ _ | refine blk_drew ?_ | refine blk_alloc ?_ _)); refine blk_far ?_ NB370_372.out _; (with_reducible repeat (first | refine blk_drewN ?_ _ | refine blk_drew ?_ | refine blk_alloc ?_ _)); refine blk_far ?_ NB370_372.out _; (with_reducible repeat (first | refine blk_drewN ?_ _ | refine blk_drew ?_ | refine blk_alloc ?_ _)); refine blk_far ?_ NB370_372.out _; (with_reducible repeat (first | refine blk_drewN ?_ _ | refine blk_drew ?_ | refine blk_alloc ?_ _)); refine blk_far ?_ NB370_372.out _; (with_reducible repeat (first | refine blk_drewN ?_ _ | refine blk_drew ?_ | refine blk_alloc ?_ _)); refine blk_far ?_ NB370_372.out _; (with_reducible repeat (first | refine blk_drewN ?_ _ | refine blk_drew ?_ | refine blk_alloc ?_ _)); refine blk_far ?_ NB370_372.out _; (with_reducible repeat (first | refine blk_drewN ?_ _ | refine blk_drew ?_ | refine blk_alloc ?_ _)); refine blk_far ?_ NB370_372.out _; (with_reducible repeat (first | refine blk_drewN ?_ _ | refine blk_drew ?_ | refine blk_alloc ?_ _)); exact BK370.out⟩
                        have n1_ : Aside0 ((((((((((w25.setCell ⟨gb372, 0, none⟩ (.int .i64 ((rd_T87 l0_0 x12_1).f0.f0))).setCell ⟨gb372, 1, none⟩ (.string ((rd_T87 l0_0 x12_1).f0.f1))).setCell ⟨gb372, 2, none⟩ (.bool ((rd_T87 l0_0 x12_1).f1))).setCell ⟨gb372, 3, none⟩ (.string ((rd_T87 l0_0 x12_1).f2))).setCell ⟨gb372, 4, none⟩ (.slice A371_4 ((rd_T87 l0_0 x12_1).f3).length c371_4)).setCell ⟨gb372, 5, none⟩ (.int .i64 ((rd_T87 l0_0 x12_1).f4))).setCell ⟨gb372, 6, none⟩ (.int .i64 ((rd_T87 l0_0 x12_1).f5))).setCell ⟨gb372, 7, none⟩ (.int .i64 ((rd_T87 l0_0 x12_1).f6))).setCell ⟨gb372, 8, none⟩ (.int .i64 ((rd_T87 l0_0 x12_1).f7))).heap[gb372]? = some (.cells #[.int .i64 ((rd_T87 l0_0 x12_1).f0.f0), .string ((rd_T87 l0_0 x12_1).f0.f1), .bool ((rd_T87 l0_0 x12_1).f1), .string ((rd_T87 l0_0 x12_1).f2), .slice A371_4 ((rd_T87 l0_0 x12_1).f3).length c371_4, .int .i64 ((rd_T87 l0_0 x12_1).f4), .int .i64 ((rd_T87 l0_0 x12_1).f5), .int .i64 ((rd_T87 l0_0 x12_1).f6), .int .i64 ((rd_T87 l0_0 x12_1).f7)] 87 (0, 0))) := ⟨by (with_reducible repeat (first | refine blk_drewN ?_ _ | refine blk_drew ?_ | refine blk_alloc ?_ _)); refine blk_put (cs := #[.int .i64 ((rd_T87 l0_0 x12_1).f0.f0), .string ((rd_T87 l0_0 x12_1).f0.f1), .bool ((rd_T87 l0_0 x12_1).f1), .string ((rd_T87 l0_0 x12_1).f2), .slice A371_4 ((rd_T87 l0_0 x12_1).f3).length c371_4, .int .i64 ((rd_T87 l0_0 x12_1).f4), .int .i64 ((rd_T87 l0_0 x12_1).f5), .int .i64 ((rd_T87 l0_0 x12_1).f6), .int .i64 0]) ?_ 8 _ rfl; (with_reducible repeat (first | refine blk_drewN ?_ _ | refine blk_drew ?_ | refine blk_alloc ?_ _)); refine blk_put (cs := #[.int .i64 ((rd_T87 l0_0 x12_1).f0.f0), .string ((rd_T87 l0_0 x12_1).f0.f1), .bool ((rd_T87 l0_0 x12_1).f1), .string ((rd_T87 l0_0 x12_1).f2), .slice A371_4 ((rd_T87 l0_0 x12_1).f3).length c371_4, .int .i64 ((rd_T87 l0_0 x12_1).f4), .int .i64 ((rd_T87 l0_0 x12_1).f5), .int .i64 0, .int .i64 0]) ?_ 7 _ rfl; (with_reducible repeat (first | refine blk_drewN ?_ _ | refine blk_drew ?_ | refine blk_alloc ?_ _)); refine blk_put (cs := #[.int .i64 ((rd_T87 l0_0 x12_1).f0.f0), .string ((rd_T87 l0_0 x12_1).f0.f1), .bool ((rd_T87 l0_0 x12_1).f1), .string ((rd_T87 l0_0 x12_1).f2), .slice A371_4 ((rd_T87 l0_0 x12_1).f3).length c371_4, .int .i64 ((rd_T87 l0_0 x12_1).f4), .int .i64 0, .int .i64 0, .int .i64 0]) ?_ 6 _ rfl; (with_reducible repeat (first | refine blk_drewN ?_ _ | refine blk_drew ?_ | refine blk_alloc ?_ _)); refine blk_put (cs := #[.int .i64 ((rd_T87 l0_0 x12_1).f0.f0), .string ((rd_T87 l0_0 x12_1).f0.f1), .bool ((rd_T87 l0_0 x12_1).f1), .string ((rd_T87 l0_0 x12_1).f2), .slice A371_4 ((rd_T87 l0_0 x12_1).f3).length c371_4, .int .i64 0, .int .i64 0, .int .i64 0, .int .i64 0]) ?_ 5 _ rfl; (with_reducible repeat (first | refine blk_drewN ?_ _ | refine blk_drew ?_ | refine blk_alloc ?_ _)); refine blk_put (cs := #[.int .i64 ((rd_T87 l0_0 x12_1).f0.f0), .string ((rd_T87 l0_0 x12_1).f0.f1), .bool ((rd_T87 l0_0 x12_1).f1), .string ((rd_T87 l0_0 x12_1).f2), .slice none 0 0, .int .i64 0, .int .i64 0, .int .i64 0, .int .i64 0]) ?_ 4 _ rfl; (with_reducible repeat (first | refine blk_drewN ?_ _ | refine blk_drew ?_ | refine blk_alloc ?_ _)); refine blk_put (cs := #[.int .i64 ((rd_T87 l0_0 x12_1).f0.f0), .string ((rd_T87 l0_0 x12_1).f0.f1), .bool ((rd_T87 l0_0 x12_1).f1), .string (⟨#[]⟩ : ByteArray), .slice none 0 0, .int .i64 0, .int .i64 0, .int .i64 0, .int .i64 0]) ?_ 3 _ rfl; (with_reducible repeat (first | refine blk_drewN ?_ _ | refine blk_drew ?_ | refine blk_alloc ?_ _)); refine blk_put (cs := #[.int .i64 ((rd_T87 l0_0 x12_1).f0.f0), .string ((rd_T87 l0_0 x12_1).f0.f1), .bool false, .string (⟨#[]⟩ : ByteArray), .slice none 0 0, .int .i64 0, .int .i64 0, .int .i64 0, .int .i64 0]) ?_ 2 _ rfl; (with_reducible repeat (first | refine blk_drewN ?_ _ | refine blk_drew ?_ | refine blk_alloc ?_ _)); refine blk_put (cs := #[.int .i64 ((rd_T87 l0_0 x12_1).f0.f0), .string (⟨#[]⟩ : ByteArray), .bool false, .string (⟨#[]⟩ : ByteArray), .slice none 0 0, .int .i64 0, .int .i64 0, .int .i64 0, .int .i64 0]) ?_ 1 _ rfl; (with_reducible repeat (first | refine blk_drewN ?_ _ | refine blk_drew ?_ | refine blk_alloc ?_ _)); refine blk_put (cs := #[.int .i64 0, .string (⟨#[]⟩ : ByteArray), .bool false, .string (⟨#[]⟩ : ByteArray), .slice none 0 0, .int .i64 0, .int .i64 0, .int .i64 0, .int .i64 0]) ?_ 0 _ rfl; (with_reducible repeat (first | refine blk_drewN ?_ _ | refine blk_drew ?_ | refine blk_alloc ?_ _)); exact BK372.out⟩
                        have n2_ : Aside0 (Below w.heap.size w (((((((((w25.setCell ⟨gb372, 0, none⟩ (.int .i64 ((rd_T87 l0_0 x12_1).f0.f0))).setCell ⟨gb372, 1, none⟩ (.string ((rd_T87 l0_0 x12_1).f0.f1))).setCell ⟨gb372, 2, none⟩ (.bool ((rd_T87 l0_0 x12_1).f1))).setCell ⟨gb372, 3, none⟩ (.string ((rd_T87 l0_0 x12_1).f2))).setCell ⟨gb372, 4, none⟩ (.slice A371_4 ((rd_T87 l0_0 x12_1).f3).length c371_4)).setCell ⟨gb372, 5, none⟩ (.int .i64 ((rd_T87 l0_0 x12_1).f4))).setCell ⟨gb372, 6, none⟩ (.int .i64 ((rd_T87 l0_0 x12_1).f5))).setCell ⟨gb372, 7, none⟩ (.int .i64 ((rd_T87 l0_0 x12_1).f6))).setCell ⟨gb372, 8, none⟩ (.int .i64 ((rd_T87 l0_0 x12_1).f7)))) := ⟨by repeat (first | (with_reducible first | exact HB.out | apply below_alloc | apply pw_below_drewN | apply below_drew1 | refine below_set ?_ GE370.out | refine below_set ?_ GE372.out) | exact HB.out)⟩
                        (try clear BK370)
                        (try clear BK372)
                        (try clear HB)
                        generalize (((((((((w25.setCell ⟨gb372, 0, none⟩ (.int .i64 ((rd_T87 l0_0 x12_1).f0.f0))).setCell ⟨gb372, 1, none⟩ (.string ((rd_T87 l0_0 x12_1).f0.f1))).setCell ⟨gb372, 2, none⟩ (.bool ((rd_T87 l0_0 x12_1).f1))).setCell ⟨gb372, 3, none⟩ (.string ((rd_T87 l0_0 x12_1).f2))).setCell ⟨gb372, 4, none⟩ (.slice A371_4 ((rd_T87 l0_0 x12_1).f3).length c371_4)).setCell ⟨gb372, 5, none⟩ (.int .i64 ((rd_T87 l0_0 x12_1).f4))).setCell ⟨gb372, 6, none⟩ (.int .i64 ((rd_T87 l0_0 x12_1).f5))).setCell ⟨gb372, 7, none⟩ (.int .i64 ((rd_T87 l0_0 x12_1).f6))).setCell ⟨gb372, 8, none⟩ (.int .i64 ((rd_T87 l0_0 x12_1).f7))) = w28 at n0_ n1_ n2_ ⊢
                        have BK370 := n0_
                        have BK372 := n1_
                        have HB := n2_
                        clear n0_ n1_ n2_
                        have n0_ := Aside0.mk (blk_drew BK370.out)
                        have n1_ := Aside0.mk (blk_drew BK372.out)
                        have n2_ := Aside0.mk (below_drew1 HB.out)
                        clear BK370
                        clear BK372
                        clear HB
                        have BK370 := n0_
                        have BK372 := n1_
                        have HB := n2_
                        clear n0_ n1_ n2_
                        have p374 : 0 ≤ ((ji13) : Int) := of_decide_eq_true (by first | (with_reducible assumption) | assumption)
                        have q374 : (ji13) < (l0_0.length : Int) := of_decide_eq_true (by first | (with_reducible assumption) | assumption)
                        obtain ⟨ad374, A374_4, c374_4, e374, hx374_0, hx374_1, hx374_2, hx374_3, hx374_4, hx374_5, hx374_6, hx374_7, hx374_8, hl374_4, hi374_4⟩ := at_T87 HR0_0.out (ji13) p374 q374
                        have hw374_8 := hx374_8
                        have hw374_7 := hx374_7
                        have hw374_6 := hx374_6
                        have hw374_5 := hx374_5
                        have hw374_4 := hx374_4
                        have hw374_3 := hx374_3
                        have hw374_2 := hx374_2
                        have hw374_1 := hx374_1
                        have hw374_0 := hx374_0
                        obtain rfl : ad371 = ad374 := (by injection e374)
                        replace hx374_0 := (HB.out.cell (World.block_lt_of_cell? w _ hx374_0)).trans hx374_0
                        replace hx374_1 := (HB.out.cell (World.block_lt_of_cell? w _ hx374_1)).trans hx374_1
                        replace hx374_2 := (HB.out.cell (World.block_lt_of_cell? w _ hx374_2)).trans hx374_2
                        replace hx374_3 := (HB.out.cell (World.block_lt_of_cell? w _ hx374_3)).trans hx374_3
                        replace hx374_4 := (HB.out.cell (World.block_lt_of_cell? w _ hx374_4)).trans hx374_4
                        replace hx374_5 := (HB.out.cell (World.block_lt_of_cell? w _ hx374_5)).trans hx374_5
                        replace hx374_6 := (HB.out.cell (World.block_lt_of_cell? w _ hx374_6)).trans hx374_6
                        replace hx374_7 := (HB.out.cell (World.block_lt_of_cell? w _ hx374_7)).trans hx374_7
                        replace hx374_8 := (HB.out.cell (World.block_lt_of_cell? w _ hx374_8)).trans hx374_8
                        have HR374_4 := Aside0.mk hi374_4
                        have HC374_4 := Aside0.mk hl374_4
                        clear hi374_4 hl374_4
                        replace p374 := eq_true p374
                        replace q374 := eq_true q374
                        refine start_ (n := 20) (S := fun w' => w'.cell? ⟨gb372, 0, none⟩ = some (.int .i64 ((rd_T87 l0_0 x12_1).f0.f0)) ∧ w'.cell? ⟨gb372, 1, none⟩ = some (.string ((rd_T87 l0_0 x12_1).f0.f1)) ∧ w'.cell? ⟨gb372, 2, none⟩ = some (.bool ((rd_T87 l0_0 x12_1).f1)) ∧ w'.cell? ⟨gb372, 3, none⟩ = some (.string ((rd_T87 l0_0 x12_1).f2)) ∧ w'.cell? ⟨gb372, 4, none⟩ = some (.slice A371_4 ((rd_T87 l0_0 x12_1).f3).length c371_4) ∧ w'.cell? ⟨gb372, 5, none⟩ = some (.int .i64 ((rd_T87 l0_0 x12_1).f4)) ∧ w'.cell? ⟨gb372, 6, none⟩ = some (.int .i64 ((rd_T87 l0_0 x12_1).f5)) ∧ w'.cell? ⟨gb372, 7, none⟩ = some (.int .i64 ((rd_T87 l0_0 x12_1).f6)) ∧ w'.cell? ⟨gb372, 8, none⟩ = some (.int .i64 ((rd_T87 l0_0 x12_1).f7)) ∧ w'.cell? ⟨gb370, 0, none⟩ = some (.slice (some ad371) l0_0.length c0_0) ∧ w'.cell? (ad371.add (((ji13)).toNat * 9)) = some (.int .i64 ((rd_T87 l0_0 (ji13)).f0.f0)) ∧ w'.cell? ⟨(ad371.add (((ji13)).toNat * 9)).block, (ad371.add (((ji13)).toNat * 9)).off + 1, none⟩ = some (.string ((rd_T87 l0_0 (ji13)).f0.f1)) ∧ w'.cell? ⟨(ad371.add (((ji13)).toNat * 9)).block, (ad371.add (((ji13)).toNat * 9)).off + 2, none⟩ = some (.bool ((rd_T87 l0_0 (ji13)).f1)) ∧ w'.cell? ⟨(ad371.add (((ji13)).toNat * 9)).block, (ad371.add (((ji13)).toNat * 9)).off + 3, none⟩ = some (.string ((rd_T87 l0_0 (ji13)).f2)) ∧ w'.cell? ⟨(ad371.add (((ji13)).toNat * 9)).block, (ad371.add (((ji13)).toNat * 9)).off + 4, none⟩ = some (.slice A374_4 ((rd_T87 l0_0 (ji13)).f3).length c374_4) ∧ w'.cell? ⟨(ad371.add (((ji13)).toNat * 9)).block, (ad371.add (((ji13)).toNat * 9)).off + 5, none⟩ = some (.int .i64 ((rd_T87 l0_0 (ji13)).f4)) ∧ w'.cell? ⟨(ad371.add (((ji13)).toNat * 9)).block, (ad371.add (((ji13)).toNat * 9)).off + 6, none⟩ = some (.int .i64 ((rd_T87 l0_0 (ji13)).f5)) ∧ w'.cell? ⟨(ad371.add (((ji13)).toNat * 9)).block, (ad371.add (((ji13)).toNat * 9)).off + 7, none⟩ = some (.int .i64 ((rd_T87 l0_0 (ji13)).f6)) ∧ w'.cell? ⟨(ad371.add (((ji13)).toNat * 9)).block, (ad371.add (((ji13)).toNat * 9)).off + 8, none⟩ = some (.int .i64 ((rd_T87 l0_0 (ji13)).f7))) (ds := []) #[false, false, false, false, false, false, false, false, false, false, false, false, false, false, false, false, false, false, false, false] (by kernel_rfl) rfl rfl ⟨(blk_cell BK372.out 0).trans rfl, (blk_cell BK372.out 1).trans rfl, (blk_cell BK372.out 2).trans rfl, (blk_cell BK372.out 3).trans rfl, (blk_cell BK372.out 4).trans rfl, (blk_cell BK372.out 5).trans rfl, (blk_cell BK372.out 6).trans rfl, (blk_cell BK372.out 7).trans rfl, (blk_cell BK372.out 8).trans rfl, (blk_cell BK370.out 0).trans rfl, ((HB.out.cell (World.block_lt_of_cell? w _ hw374_0)).trans hw374_0), ((HB.out.cell (World.block_lt_of_cell? w _ hw374_1)).trans hw374_1), ((HB.out.cell (World.block_lt_of_cell? w _ hw374_2)).trans hw374_2), ((HB.out.cell (World.block_lt_of_cell? w _ hw374_3)).trans hw374_3), ((HB.out.cell (World.block_lt_of_cell? w _ hw374_4)).trans hw374_4), ((HB.out.cell (World.block_lt_of_cell? w _ hw374_5)).trans hw374_5), ((HB.out.cell (World.block_lt_of_cell? w _ hw374_6)).trans hw374_6), ((HB.out.cell (World.block_lt_of_cell? w _ hw374_7)).trans hw374_7), ((HB.out.cell (World.block_lt_of_cell? w _ hw374_8)).trans hw374_8)⟩ (fun hHeld => ?_); refine with_tabW impl_ValidTable.tab6 impl_ValidTable.bits6 (fun HT_ HW_ => ?_)
                        generalize w28.drew = w29 at BK370 BK372 HB HR374_4 hx374_0 hx374_1 hx374_2 hx374_3 hx374_4 hx374_5 hx374_6 hx374_7 hx374_8 hHeld ⊢
                        refine take_ (i := 0) (N := some 17) (v := ?_) (a' := ?_) #[true, false, false, false, false, false, false, false, false, false, false, false, false, false, false, false, false, false, false, false] rfl rfl (take_ofW HT_.out HW_.out (by kernel_rfl)) (fun _ _ _ h => h) (Or.inl ⟨by rfl, ?_⟩) hHeld ?_ ?_
                        rotate_left
                        · rintro w' ⟨s0, s1, s2, s3, s4, s5, s6, s7, s8, s9, s10, s11, s12, s13, s14, s15, s16, s17, s18⟩
                          go_simp
                          with_reducible rfl
                        rotate_left
                        · simp only [Act.put, List.setIfInBounds_toArray, List.set_cons_zero, List.set_cons_succ, i64_w, i32_w]
                          rfl
                        refine one_ (i := 1) (N := some 18) #[true, true, false, false, false, false, false, false, false, false, false, false, false, false, false, false, false, false, false, false] rfl rfl (one_of HT_.out (by kernel_rfl)) (by decide) (fun K hK => ?_)
                        refine goes_ Tryd.func49 (by kernel_rfl) rfl #[.agg #[.int .i64 ((rd_T87 l0_0 x12_1).f0.f0), .string ((rd_T87 l0_0 x12_1).f0.f1), .bool ((rd_T87 l0_0 x12_1).f1), .string ((rd_T87 l0_0 x12_1).f2), .slice A371_4 ((rd_T87 l0_0 x12_1).f3).length c371_4, .int .i64 ((rd_T87 l0_0 x12_1).f4), .int .i64 ((rd_T87 l0_0 x12_1).f5), .int .i64 ((rd_T87 l0_0 x12_1).f6), .int .i64 ((rd_T87 l0_0 x12_1).f7)]] (by rfl) rfl rfl (by (try simp only [List.map_toArray, List.map_cons, List.map_nil]); first | done | rfl | (simp only [List.length_drop, List.length_take]; rfl)) ?_
                        with_reducible refine (impl_Slot_valid.calls k1 ((rd_T87 l0_0 x12_1).f0.f0) ((rd_T87 l0_0 x12_1).f0.f1) ((rd_T87 l0_0 x12_1).f1) ((rd_T87 l0_0 x12_1).f2) _ _ ((rd_T87 l0_0 x12_1).f3) ((rd_T87 l0_0 x12_1).f4) ((rd_T87 l0_0 x12_1).f5) ((rd_T87 l0_0 x12_1).f6) ((rd_T87 l0_0 x12_1).f7) true _ ?side1 ?side2 ?side3 A10.out).mono ?_
                        (case side1 => (first | exact HG.out | exact GRes.below HG.out (by repeat (first | (with_reducible first | exact HB.out | apply below_alloc | apply pw_below_drewN | apply below_drew1 | refine below_set ?_ GE370.out | refine below_set ?_ GE372.out) | exact HB.out)) | (repeat (first | exact HG.out | apply GRes.drewN | apply GRes.drew | apply GRes.alloc))))
                        (case side2 => repeat (first | exact (Kd.C_below HR371_4.out HB.out) | (with_reducible refine Kd.C_alloc ?_ _) | (with_reducible refine Kd.C_drewN ?_ _) | (with_reducible refine Kd.C_drew ?_)))
                        (case side3 => exact HC371_4.out)
                        rintro e w30 ⟨rfl, hb⟩
                        refine ⟨_, rfl, ?_⟩
                        have n0_ := Aside0.mk (blk_below (g := gb370) (o := .cells #[.slice (some ad371) l0_0.length c0_0] 52 (0, 0)) (by (with_reducible repeat (first | refine blk_drewN ?_ _ | refine blk_drew ?_ | refine blk_alloc ?_ _)); exact BK370.out) hb)
                        have n1_ := Aside0.mk (blk_below (g := gb372) (o := .cells #[.int .i64 ((rd_T87 l0_0 x12_1).f0.f0), .string ((rd_T87 l0_0 x12_1).f0.f1), .bool ((rd_T87 l0_0 x12_1).f1), .string ((rd_T87 l0_0 x12_1).f2), .slice A371_4 ((rd_T87 l0_0 x12_1).f3).length c371_4, .int .i64 ((rd_T87 l0_0 x12_1).f4), .int .i64 ((rd_T87 l0_0 x12_1).f5), .int .i64 ((rd_T87 l0_0 x12_1).f6), .int .i64 ((rd_T87 l0_0 x12_1).f7)] 87 (0, 0)) (by (with_reducible repeat (first | refine blk_drewN ?_ _ | refine blk_drew ?_ | refine blk_alloc ?_ _)); exact BK372.out) hb)
                        have n2_ := Aside0.mk (below_step (by repeat (first | (with_reducible first | exact HB.out | apply below_alloc | apply pw_below_drewN | apply below_drew1 | refine below_set ?_ GE370.out | refine below_set ?_ GE372.out) | exact HB.out)) hb)
                        clear BK370
                        clear BK372
                        clear HB
                        have BK370 := n0_
                        have BK372 := n1_
                        have HB := n2_
                        clear n0_ n1_ n2_
                        (try clear hb)
                        (try clear hb2)
                        (try clear hk)
                        (try clear hi)
                        refine hK.out _ _ ⟨(blk_cell BK372.out 0).trans rfl, (blk_cell BK372.out 1).trans rfl, (blk_cell BK372.out 2).trans rfl, (blk_cell BK372.out 3).trans rfl, (blk_cell BK372.out 4).trans rfl, (blk_cell BK372.out 5).trans rfl, (blk_cell BK372.out 6).trans rfl, (blk_cell BK372.out 7).trans rfl, (blk_cell BK372.out 8).trans rfl, (blk_cell BK370.out 0).trans rfl, ((HB.out.cell (World.block_lt_of_cell? w _ hw374_0)).trans hw374_0), ((HB.out.cell (World.block_lt_of_cell? w _ hw374_1)).trans hw374_1), ((HB.out.cell (World.block_lt_of_cell? w _ hw374_2)).trans hw374_2), ((HB.out.cell (World.block_lt_of_cell? w _ hw374_3)).trans hw374_3), ((HB.out.cell (World.block_lt_of_cell? w _ hw374_4)).trans hw374_4), ((HB.out.cell (World.block_lt_of_cell? w _ hw374_5)).trans hw374_5), ((HB.out.cell (World.block_lt_of_cell? w _ hw374_6)).trans hw374_6), ((HB.out.cell (World.block_lt_of_cell? w _ hw374_7)).trans hw374_7), ((HB.out.cell (World.block_lt_of_cell? w _ hw374_8)).trans hw374_8)⟩ (fun hHeld => ?_)
                        clear hK K
                        refine norm_ (a' := ?_) ?_ ?_
                        rotate_left
                        · show Act.put _ (some 18) _ = _
                          simp only [Act.put, List.setIfInBounds_toArray, List.set_cons_zero, List.set_cons_succ, i64_w, i32_w]
                          rfl
                        refine pure_ (i := 2) (N := some 19) (v := ?_) (a' := ?_) #[true, true, true, false, false, false, false, false, false, false, false, false, false, false, false, false, false, false, false, false] rfl rfl (any_of HT_.out (by kernel_rfl)) (fun _ _ _ h => h) (Or.inl ⟨by rfl, ?_⟩) ?_ ?_
                        rotate_left
                        · intro w'
                          go_simp
                          with_reducible rfl
                        rotate_left
                        · simp only [Act.put, List.setIfInBounds_toArray, List.set_cons_zero, List.set_cons_succ, i64_w, i32_w]
                          rfl
                        refine pure_ (i := 3) (N := some 20) (v := ?_) (a' := ?_) #[true, true, true, true, false, false, false, false, false, false, false, false, false, false, false, false, false, false, false, false] rfl rfl (any_of HT_.out (by kernel_rfl)) (fun _ _ _ h => h) (Or.inl ⟨by rfl, ?_⟩) ?_ ?_
                        rotate_left
                        · intro w'
                          go_simp
                          with_reducible rfl
                        rotate_left
                        · simp only [Act.put, List.setIfInBounds_toArray, List.set_cons_zero, List.set_cons_succ, i64_w, i32_w]
                          rfl
                        refine pure_ (i := 4) (N := some 21) (v := ?_) (a' := ?_) #[true, true, true, true, true, false, false, false, false, false, false, false, false, false, false, false, false, false, false, false] rfl rfl (any_of HT_.out (by kernel_rfl)) (fun _ _ _ h => h) (Or.inl ⟨by rfl, ?_⟩) ?_ ?_
                        rotate_left
                        · intro w'
                          go_simp
                          with_reducible rfl
                        rotate_left
                        · simp only [Act.put, List.setIfInBounds_toArray, List.set_cons_zero, List.set_cons_succ, i64_w, i32_w]
                          rfl
                        refine pure_ (i := 5) (N := some 22) (v := ?_) (a' := ?_) #[true, true, true, true, true, true, false, false, false, false, false, false, false, false, false, false, false, false, false, false] rfl rfl (any_of HT_.out (by kernel_rfl)) (fun _ _ _ h => h) (Or.inl ⟨by rfl, ?_⟩) ?_ ?_
                        rotate_left
                        · intro w'
                          go_simp
                          with_reducible rfl
                        rotate_left
                        · simp only [Act.put, List.setIfInBounds_toArray, List.set_cons_zero, List.set_cons_succ, i64_w, i32_w]
                          rfl
                        refine pure_ (i := 6) (N := some 23) (v := ?_) (a' := ?_) #[true, true, true, true, true, true, true, false, false, false, false, false, false, false, false, false, false, false, false, false] rfl rfl (any_of HT_.out (by kernel_rfl)) (fun _ _ _ h => h) (Or.inl ⟨by rfl, ?_⟩) ?_ ?_
                        rotate_left
                        · intro w'
                          go_simp
                          with_reducible rfl
                        rotate_left
                        · simp only [Act.put, List.setIfInBounds_toArray, List.set_cons_zero, List.set_cons_succ, i64_w, i32_w]
                          rfl
                        refine pure_ (i := 7) (N := some 24) (v := ?_) (a' := ?_) #[true, true, true, true, true, true, true, true, false, false, false, false, false, false, false, false, false, false, false, false] rfl rfl (any_of HT_.out (by kernel_rfl)) (fun _ _ _ h => h) (Or.inl ⟨by rfl, ?_⟩) ?_ ?_
                        rotate_left
                        · intro w'
                          go_simp
                          with_reducible rfl
                        rotate_left
                        · simp only [Act.put, List.setIfInBounds_toArray, List.set_cons_zero, List.set_cons_succ, i64_w, i32_w]
                          rfl
                        refine pure_ (i := 9) (N := some 26) (v := ?_) (a' := ?_) #[true, true, true, true, true, true, true, true, false, true, false, false, false, false, false, false, false, false, false, false] rfl rfl (any_of HT_.out (by kernel_rfl)) (fun _ _ _ h => h) (Or.inl ⟨by rfl, ?_⟩) ?_ ?_
                        rotate_left
                        · intro w'
                          go_simp
                          with_reducible rfl
                        rotate_left
                        · simp only [Act.put, List.setIfInBounds_toArray, List.set_cons_zero, List.set_cons_succ, i64_w, i32_w]
                          rfl
                        refine pure_ (i := 10) (N := some 27) (v := ?_) (a' := ?_) #[true, true, true, true, true, true, true, true, false, true, true, false, false, false, false, false, false, false, false, false] rfl rfl (any_of HT_.out (by kernel_rfl)) (fun _ _ _ h => h) (Or.inl ⟨by rfl, ?_⟩) ?_ ?_
                        rotate_left
                        · intro w'
                          go_simp
                          with_reducible rfl
                        rotate_left
                        · simp only [Act.put, List.setIfInBounds_toArray, List.set_cons_zero, List.set_cons_succ, i64_w, i32_w]
                          rfl
                        refine pure_ (i := 14) (N := some 31) (v := ?_) (a' := ?_) #[true, true, true, true, true, true, true, true, false, true, true, false, false, false, true, false, false, false, false, false] rfl rfl (any_of HT_.out (by kernel_rfl)) (fun _ _ _ h => h) (Or.inl ⟨by rfl, ?_⟩) ?_ ?_
                        rotate_left
                        · intro w'
                          go_simp
                          with_reducible rfl
                        rotate_left
                        · simp only [Act.put, List.setIfInBounds_toArray, List.set_cons_zero, List.set_cons_succ, i64_w, i32_w]
                          rfl
                        refine take_ (i := 8) (N := some 25) (v := ?_) (a' := ?_) #[true, true, true, true, true, true, true, true, true, true, true, false, false, false, true, false, false, false, false, false] rfl rfl (take_ofW HT_.out HW_.out (by kernel_rfl)) (fun _ _ _ h => h) (Or.inl ⟨by rfl, ?_⟩) hHeld ?_ ?_
                        rotate_left
                        · rintro w' ⟨s0, s1, s2, s3, s4, s5, s6, s7, s8, s9, s10, s11, s12, s13, s14, s15, s16, s17, s18⟩
                          go_simp
                          with_reducible rfl
                        rotate_left
                        · simp only [Act.put, List.setIfInBounds_toArray, List.set_cons_zero, List.set_cons_succ, i64_w, i32_w]
                          rfl
                        refine pure_ (i := 11) (N := some 28) (v := ?_) (a' := ?_) #[true, true, true, true, true, true, true, true, true, true, true, true, false, false, true, false, false, false, false, false] rfl rfl (any_of HT_.out (by kernel_rfl)) (fun _ _ _ h => h) (Or.inl ⟨by rfl, ?_⟩) ?_ ?_
                        rotate_left
                        · intro w'
                          go_simp
                          with_reducible rfl
                        rotate_left
                        · simp only [Act.put, List.setIfInBounds_toArray, List.set_cons_zero, List.set_cons_succ, i64_w, i32_w]
                          rfl
                        refine pure_ (i := 12) (N := some 29) (v := ?_) (a' := ?_) #[true, true, true, true, true, true, true, true, true, true, true, true, true, false, true, false, false, false, false, false] rfl rfl (any_of HT_.out (by kernel_rfl)) (fun _ _ _ h => h) (Or.inl ⟨by rfl, ?_⟩) ?_ ?_
                        rotate_left
                        · intro w'
                          go_simp
                          with_reducible rfl
                        rotate_left
                        · simp only [Act.put, List.setIfInBounds_toArray, List.set_cons_zero, List.set_cons_succ, i64_w, i32_w]
                          rfl
                        refine take_ (i := 13) (N := some 30) (v := ?_) (a' := ?_) #[true, true, true, true, true, true, true, true, true, true, true, true, true, true, true, false, false, false, false, false] rfl rfl (take_ofW HT_.out HW_.out (by kernel_rfl)) (fun _ _ _ h => h) (Or.inl ⟨by rfl, ?_⟩) hHeld ?_ ?_
                        rotate_left
                        · rintro w' ⟨s0, s1, s2, s3, s4, s5, s6, s7, s8, s9, s10, s11, s12, s13, s14, s15, s16, s17, s18⟩
                          go_simp
                          with_reducible rfl
                        rotate_left
                        · simp only [Act.put, List.setIfInBounds_toArray, List.set_cons_zero, List.set_cons_succ, i64_w, i32_w]
                          rfl
                        refine take_ (i := 15) (N := some 32) (v := ?_) (a' := ?_) #[true, true, true, true, true, true, true, true, true, true, true, true, true, true, true, true, false, false, false, false] rfl rfl (take_ofW HT_.out HW_.out (by kernel_rfl)) (fun _ _ _ h => h) (Or.inl ⟨by rfl, ?_⟩) hHeld ?_ ?_
                        rotate_left
                        · rintro w' ⟨s0, s1, s2, s3, s4, s5, s6, s7, s8, s9, s10, s11, s12, s13, s14, s15, s16, s17, s18⟩
                          go_simp
                          with_reducible rfl
                        rotate_left
                        · simp only [Act.put, List.setIfInBounds_toArray, List.set_cons_zero, List.set_cons_succ, i64_w, i32_w]
                          rfl
                        refine one_ (i := 16) (N := some 33) #[true, true, true, true, true, true, true, true, true, true, true, true, true, true, true, true, true, false, false, false] rfl rfl (one_of HT_.out (by kernel_rfl)) (by decide) (fun K hK => ?_)
                        refine goes_ Tryd.func50 (by kernel_rfl) rfl #[.agg #[.int .i64 ((rd_T87 l0_0 (ji13)).f0.f0), .string ((rd_T87 l0_0 (ji13)).f0.f1)], .agg #[.int .i64 ((rd_T87 l0_0 x12_1).f0.f0), .string ((rd_T87 l0_0 x12_1).f0.f1)]] (by rfl) rfl rfl (by (try simp only [List.map_toArray, List.map_cons, List.map_nil]); first | done | (simp only [hji13]; rfl) | rfl | (simp only [List.length_drop, List.length_take]; rfl)) ?_
                        with_reducible refine (impl_compareKeys.calls k1 ((rd_T87 l0_0 (ji13)).f0.f0) ((rd_T87 l0_0 (ji13)).f0.f1) ((rd_T87 l0_0 x12_1).f0.f0) ((rd_T87 l0_0 x12_1).f0.f1) t375 _ A16.out).mono ?_
                        rintro e w31 ⟨rfl, hb⟩
                        refine ⟨_, rfl, ?_⟩
                        have n0_ := Aside0.mk (blk_below (g := gb370) (o := .cells #[.slice (some ad371) l0_0.length c0_0] 52 (0, 0)) (by (with_reducible repeat (first | refine blk_drewN ?_ _ | refine blk_drew ?_ | refine blk_alloc ?_ _)); exact BK370.out) hb)
                        have n1_ := Aside0.mk (blk_below (g := gb372) (o := .cells #[.int .i64 ((rd_T87 l0_0 x12_1).f0.f0), .string ((rd_T87 l0_0 x12_1).f0.f1), .bool ((rd_T87 l0_0 x12_1).f1), .string ((rd_T87 l0_0 x12_1).f2), .slice A371_4 ((rd_T87 l0_0 x12_1).f3).length c371_4, .int .i64 ((rd_T87 l0_0 x12_1).f4), .int .i64 ((rd_T87 l0_0 x12_1).f5), .int .i64 ((rd_T87 l0_0 x12_1).f6), .int .i64 ((rd_T87 l0_0 x12_1).f7)] 87 (0, 0)) (by (with_reducible repeat (first | refine blk_drewN ?_ _ | refine blk_drew ?_ | refine blk_alloc ?_ _)); exact BK372.out) hb)
                        have n2_ := Aside0.mk (below_step (by repeat (first | (with_reducible first | exact HB.out | apply below_alloc | apply pw_below_drewN | apply below_drew1 | refine below_set ?_ GE370.out | refine below_set ?_ GE372.out) | exact HB.out)) hb)
                        clear BK370
                        clear BK372
                        clear HB
                        have BK370 := n0_
                        have BK372 := n1_
                        have HB := n2_
                        clear n0_ n1_ n2_
                        (try clear hb)
                        (try clear hb2)
                        (try clear hk)
                        (try clear hi)
                        refine hK.out _ _ ⟨(blk_cell BK372.out 0).trans rfl, (blk_cell BK372.out 1).trans rfl, (blk_cell BK372.out 2).trans rfl, (blk_cell BK372.out 3).trans rfl, (blk_cell BK372.out 4).trans rfl, (blk_cell BK372.out 5).trans rfl, (blk_cell BK372.out 6).trans rfl, (blk_cell BK372.out 7).trans rfl, (blk_cell BK372.out 8).trans rfl, (blk_cell BK370.out 0).trans rfl, ((HB.out.cell (World.block_lt_of_cell? w _ hw374_0)).trans hw374_0), ((HB.out.cell (World.block_lt_of_cell? w _ hw374_1)).trans hw374_1), ((HB.out.cell (World.block_lt_of_cell? w _ hw374_2)).trans hw374_2), ((HB.out.cell (World.block_lt_of_cell? w _ hw374_3)).trans hw374_3), ((HB.out.cell (World.block_lt_of_cell? w _ hw374_4)).trans hw374_4), ((HB.out.cell (World.block_lt_of_cell? w _ hw374_5)).trans hw374_5), ((HB.out.cell (World.block_lt_of_cell? w _ hw374_6)).trans hw374_6), ((HB.out.cell (World.block_lt_of_cell? w _ hw374_7)).trans hw374_7), ((HB.out.cell (World.block_lt_of_cell? w _ hw374_8)).trans hw374_8)⟩ (fun hHeld => ?_)
                        clear hK K
                        refine norm_ (a' := ?_) ?_ ?_
                        rotate_left
                        · show Act.put _ (some 33) _ = _
                          simp only [Act.put, List.setIfInBounds_toArray, List.set_cons_zero, List.set_cons_succ, i64_w, i32_w]
                          rfl
                        refine pure_ (i := 17) (N := some 34) (v := ?_) (a' := ?_) #[true, true, true, true, true, true, true, true, true, true, true, true, true, true, true, true, true, true, false, false] rfl rfl (any_of HT_.out (by kernel_rfl)) (fun _ _ _ h => h) (Or.inl ⟨by rfl, ?_⟩) ?_ ?_
                        rotate_left
                        · intro w'
                          go_simp
                          with_reducible rfl
                        rotate_left
                        · simp only [Act.put, List.setIfInBounds_toArray, List.set_cons_zero, List.set_cons_succ, i64_w, i32_w]
                          rfl
                        refine pure_ (i := 18) (N := some 35) (v := ?_) (a' := ?_) #[true, true, true, true, true, true, true, true, true, true, true, true, true, true, true, true, true, true, true, false] rfl rfl (any_of HT_.out (by kernel_rfl)) (fun _ _ _ h => h) (Or.inl ⟨by rfl, ?_⟩) ?_ ?_
                        rotate_left
                        · intro w'
                          go_simp
                          with_reducible rfl
                        rotate_left
                        · simp only [Act.put, List.setIfInBounds_toArray, List.set_cons_zero, List.set_cons_succ, i64_w, i32_w]
                          rfl
                        refine pure_ (i := 19) (N := some 36) (v := ?_) (a' := ?_) #[true, true, true, true, true, true, true, true, true, true, true, true, true, true, true, true, true, true, true, true] rfl rfl (any_of HT_.out (by kernel_rfl)) (fun _ _ _ h => h) (Or.inl ⟨by rfl, ?_⟩) ?_ ?_
                        rotate_left
                        · intro w'
                          go_simp
                          with_reducible rfl
                        rotate_left
                        · simp only [Act.put, List.setIfInBounds_toArray, List.set_cons_zero, List.set_cons_succ, i64_w, i32_w]
                          rfl
                        refine done_ (done_of HT_.out (by kernel_rfl)) ?_
                        try go_wp2
                        go_roundg k1
                        case measure => have := HK1.out; omega
                        case rel => exact ⟨(wrap64 (x12_1 + 1)), (by first | rfl | (simp; done) | (simp [*]; done)), H', ⟨by have := HK1.out; omega⟩, ⟨by (with_reducible repeat (first | refine blk_drewN ?_ _ | refine blk_drew ?_ | refine blk_alloc ?_ _)); exact BK370.out⟩, ⟨by repeat (first | (with_reducible first | exact HB.out | apply below_alloc | apply pw_below_drewN | apply below_drew1 | refine below_set ?_ GE370.out | refine below_set ?_ GE372.out) | exact HB.out)⟩⟩
                    · rw [if_neg c15] at H
                      exact absurd H (by simp)
                  · rw [if_neg c14] at H
                    exact absurd H (by simp)
                · rw [if_neg c12] at H
                  have c12b0 : decide (0 < x12_1) = false := decide_eq_false c12
                  clear c12
                  have H' := Aside0.mk H
                  clear H
                  have p371 : 0 ≤ (x12_1 : Int) := of_decide_eq_true (by first | (with_reducible assumption) | assumption)
                  have q371 : x12_1 < (l0_0.length : Int) := of_decide_eq_true (by first | (with_reducible assumption) | assumption)
                  obtain ⟨ad371, A371_4, c371_4, e371, hx371_0, hx371_1, hx371_2, hx371_3, hx371_4, hx371_5, hx371_6, hx371_7, hx371_8, hl371_4, hi371_4⟩ := at_T87 HR0_0.out x12_1 p371 q371
                  cases e371
                  replace hx371_0 := (HB.out.cell (World.block_lt_of_cell? w _ hx371_0)).trans hx371_0
                  replace hx371_1 := (HB.out.cell (World.block_lt_of_cell? w _ hx371_1)).trans hx371_1
                  replace hx371_2 := (HB.out.cell (World.block_lt_of_cell? w _ hx371_2)).trans hx371_2
                  replace hx371_3 := (HB.out.cell (World.block_lt_of_cell? w _ hx371_3)).trans hx371_3
                  replace hx371_4 := (HB.out.cell (World.block_lt_of_cell? w _ hx371_4)).trans hx371_4
                  replace hx371_5 := (HB.out.cell (World.block_lt_of_cell? w _ hx371_5)).trans hx371_5
                  replace hx371_6 := (HB.out.cell (World.block_lt_of_cell? w _ hx371_6)).trans hx371_6
                  replace hx371_7 := (HB.out.cell (World.block_lt_of_cell? w _ hx371_7)).trans hx371_7
                  replace hx371_8 := (HB.out.cell (World.block_lt_of_cell? w _ hx371_8)).trans hx371_8
                  have HR371_4 := Aside0.mk hi371_4
                  have HC371_4 := Aside0.mk hl371_4
                  clear hi371_4 hl371_4
                  replace p371 := eq_true p371
                  replace q371 := eq_true q371
                  try go_wp2_with (first | ((with_reducible refine gate_dst (N := 4) rfl ?_); refine box_event ?hg (N := 4) ?hd (cs := #[.int .i64 0, .string (⟨#[]⟩ : ByteArray), .bool false, .string (⟨#[]⟩ : ByteArray), .slice none 0 0, .int .i64 0, .int .i64 0, .int .i64 0, .int .i64 0]) (t := 87) ?hr ?_; (case hd => rfl); (case hg => rfl); (case hr => first | (go_simp; done) | (go_simp; rfl)); intro gb372 hg w32 hbox hb; have n0_ := Aside0.mk (blk_below (g := gb370) (o := .cells #[.slice (some ad371) l0_0.length c0_0] 52 (0, 0)) (by (with_reducible repeat (first | refine blk_drewN ?_ _ | refine blk_drew ?_ | refine blk_alloc ?_ _)); exact BK370.out) hb); have n1_ := Aside0.mk (below_step (by repeat (first | (with_reducible first | exact HB.out | apply below_alloc | apply pw_below_drewN | apply below_drew1 | refine below_set ?_ GE370.out) | exact HB.out)) hb); have n2_ := Aside0.mk (hbox); have n3_ := Aside0.mk ((by rw [hg]; exact (below_size (by repeat (first | (with_reducible first | exact HB.out | apply below_alloc | apply pw_below_drewN | apply below_drew1 | refine below_set ?_ GE370.out) | exact HB.out))) : w.heap.size ≤ gb372)); have n4_ := Aside0.mk ((by rw [hg]; exact (below_size (by repeat (first | (with_reducible first | exact HB.out | apply below_alloc | apply pw_below_drewN | apply below_drew1 | refine below_set ?_ GE370.out) | exact HB.out))) : w.heap.size ≤ gb372)); have n5_ := Aside0.mk ((by rw [hg]; exact Nat.ne_of_lt (blk_lt (g := gb370) (o := .cells #[.slice (some ad371) l0_0.length c0_0] 52 (0, 0)) (by (with_reducible repeat (first | refine blk_drewN ?_ _ | refine blk_drew ?_ | refine blk_alloc ?_ _)); exact BK370.out)) : gb370 ≠ gb372)); have n6_ := Aside0.mk ((by rw [hg]; exact Nat.ne_of_gt (blk_lt (g := gb370) (o := .cells #[.slice (some ad371) l0_0.length c0_0] 52 (0, 0)) (by (with_reducible repeat (first | refine blk_drewN ?_ _ | refine blk_drew ?_ | refine blk_alloc ?_ _)); exact BK370.out)) : gb372 ≠ gb370)); clear BK370; clear HB; have BK370 := n0_; have HB := n1_; have BK372 := n2_; have GW372 := n3_; have GE372 := n4_; have NB370_372 := n5_; have NB372_370 := n6_; clear n0_ n1_ n2_ n3_ n4_ n5_ n6_; clear hb hbox hg; have hnb33 := NB372_370.out; have hnc33 := NB370_372.out; have hcz34_0 : w32.cell? ⟨gb372, 0, none⟩ = some (.int .i64 0) := (blk_cell BK372.out 0).trans rfl; have hcz34_1 : w32.cell? ⟨gb372, 1, none⟩ = some (.string (⟨#[]⟩ : ByteArray)) := (blk_cell BK372.out 1).trans rfl; have hcz34_2 : w32.cell? ⟨gb372, 2, none⟩ = some (.bool false) := (blk_cell BK372.out 2).trans rfl; have hcz34_3 : w32.cell? ⟨gb372, 3, none⟩ = some (.string (⟨#[]⟩ : ByteArray)) := (blk_cell BK372.out 3).trans rfl; have hcz34_4 : w32.cell? ⟨gb372, 4, none⟩ = some (.slice none 0 0) := (blk_cell BK372.out 4).trans rfl; have hcz34_5 : w32.cell? ⟨gb372, 5, none⟩ = some (.int .i64 0) := (blk_cell BK372.out 5).trans rfl; have hcz34_6 : w32.cell? ⟨gb372, 6, none⟩ = some (.int .i64 0) := (blk_cell BK372.out 6).trans rfl; have hcz34_7 : w32.cell? ⟨gb372, 7, none⟩ = some (.int .i64 0) := (blk_cell BK372.out 7).trans rfl; have hcz34_8 : w32.cell? ⟨gb372, 8, none⟩ = some (.int .i64 0) := (blk_cell BK372.out 8).trans rfl; have hfz34_0 := blk_frozen BK372.out 0; have hfz34_1 := blk_frozen BK372.out 1; have hfz34_2 := blk_frozen BK372.out 2; have hfz34_3 := blk_frozen BK372.out 3; have hfz34_4 := blk_frozen BK372.out 4; have hfz34_5 := blk_frozen BK372.out 5; have hfz34_6 := blk_frozen BK372.out 6; have hfz34_7 := blk_frozen BK372.out 7; have hfz34_8 := blk_frozen BK372.out 8))
                  have n0_ : Aside0 ((((((((((w32.setCell ⟨gb372, 0, none⟩ (.int .i64 ((rd_T87 l0_0 x12_1).f0.f0))).setCell ⟨gb372, 1, none⟩ (.string ((rd_T87 l0_0 x12_1).f0.f1))).setCell ⟨gb372, 2, none⟩ (.bool ((rd_T87 l0_0 x12_1).f1))).setCell ⟨gb372, 3, none⟩ (.string ((rd_T87 l0_0 x12_1).f2))).setCell ⟨gb372, 4, none⟩ (.slice A371_4 ((rd_T87 l0_0 x12_1).f3).length c371_4)).setCell ⟨gb372, 5, none⟩ (.int .i64 ((rd_T87 l0_0 x12_1).f4))).setCell ⟨gb372, 6, none⟩ (.int .i64 ((rd_T87 l0_0 x12_1).f5))).setCell ⟨gb372, 7, none⟩ (.int .i64 ((rd_T87 l0_0 x12_1).f6))).setCell ⟨gb372, 8, none⟩ (.int .i64 ((rd_T87 l0_0 x12_1).f7))).heap[gb370]? = some (.cells #[.slice (some ad371) l0_0.length c0_0] 52 (0, 0))) := ⟨by (with_reducible repeat (first | refine blk_drewN ?_ _ | refine blk_drew ?_ | refine blk_alloc ?_ _)); refine blk_far ?_ NB370_372.out _; (with_reducible repeat (first | refine blk_drewN ?_ _ | refine blk_drew ?_ | refine blk_alloc ?_ _)); refine blk_far ?_ NB370_372.out _; (with_reducible repeat (first | refine blk_drewN ?_ _ | refine blk_drew ?_ | refine blk_alloc ?_ _)); refine blk_far ?_ NB370_372.out _; (with_reducible repeat (first | refine blk_drewN ?_ _ | refine blk_drew ?_ | refine blk_alloc ?_ _)); refine blk_far ?_ NB370_372.out _; (with_reducible repeat (first | refine blk_drewN ?_ _ | refine blk_drew ?_ | refine blk_alloc ?_ _)); refine blk_far ?_ NB370_372.out _; (with_reducible repeat (first | refine blk_drewN ?_ _ | refine blk_drew ?_ | refine blk_alloc ?_ _)); refine blk_far ?_ NB370_372.out _; (with_reducible repeat (first | refine blk_drewN ?_ _ | refine blk_drew ?_ | refine blk_alloc ?_ _)); refine blk_far ?_ NB370_372.out _; (with_reducible repeat (first | refine blk_drewN ?_ _ | refine blk_drew ?_ | refine blk_alloc ?_ _)); refine blk_far ?_ NB370_372.out _; (with_reducible repeat (first | refine blk_drewN ?_ _ | refine blk_drew ?_ | refine blk_alloc ?_ _)); refine blk_far ?_ NB370_372.out _; (with_reducible repeat (first | refine blk_drewN ?_ _ | refine blk_drew ?_ | refine blk_alloc ?_ _)); exact BK370.out⟩
                  have n1_ : Aside0 ((((((((((w32.setCell ⟨gb372, 0, none⟩ (.int .i64 ((rd_T87 l0_0 x12_1).f0.f0))).setCell ⟨gb372, 1, none⟩ (.string ((rd_T87 l0_0 x12_1).f0.f1))).setCell ⟨gb372, 2, none⟩ (.bool ((rd_T87 l0_0 x12_1).f1))).setCell ⟨gb372, 3, none⟩ (.string ((rd_T87 l0_0 x12_1).f2))).setCell ⟨gb372, 4, none⟩ (.slice A371_4 ((rd_T87 l0_0 x12_1).f3).length c371_4)).setCell ⟨gb372, 5, none⟩ (.int .i64 ((rd_T87 l0_0 x12_1).f4))).setCell ⟨gb372, 6, none⟩ (.int .i64 ((rd_T87 l0_0 x12_1).f5))).setCell ⟨gb372, 7, none⟩ (.int .i64 ((rd_T87 l0_0 x12_1).f6))).setCell ⟨gb372, 8, none⟩ (.int .i64 ((rd_T87 l0_0 x12_1).f7))).heap[gb372]? = some (.cells #[.int .i64 ((rd_T87 l0_0 x12_1).f0.f0), .string ((rd_T87 l0_0 x12_1).f0.f1), .bool ((rd_T87 l0_0 x12_1).f1), .string ((rd_T87 l0_0 x12_1).f2), .slice A371_4 ((rd_T87 l0_0 x12_1).f3).length c371_4, .int .i64 ((rd_T87 l0_0 x12_1).f4), .int .i64 ((rd_T87 l0_0 x12_1).f5), .int .i64 ((rd_T87 l0_0 x12_1).f6), .int .i64 ((rd_T87 l0_0 x12_1).f7)] 87 (0, 0))) := ⟨by (with_reducible repeat (first | refine blk_drewN ?_ _ | refine blk_drew ?_ | refine blk_alloc ?_ _)); refine blk_put (cs := #[.int .i64 ((rd_T87 l0_0 x12_1).f0.f0), .string ((rd_T87 l0_0 x12_1).f0.f1), .bool ((rd_T87 l0_0 x12_1).f1), .string ((rd_T87 l0_0 x12_1).f2), .slice A371_4 ((rd_T87 l0_0 x12_1).f3).length c371_4, .int .i64 ((rd_T87 l0_0 x12_1).f4), .int .i64 ((rd_T87 l0_0 x12_1).f5), .int .i64 ((rd_T87 l0_0 x12_1).f6), .int .i64 0]) ?_ 8 _ rfl; (with_reducible repeat (first | refine blk_drewN ?_ _ | refine blk_drew ?_ | refine blk_alloc ?_ _)); refine blk_put (cs := #[.int .i64 ((rd_T87 l0_0 x12_1).f0.f0), .string ((rd_T87 l0_0 x12_1).f0.f1), .bool ((rd_T87 l0_0 x12_1).f1), .string ((rd_T87 l0_0 x12_1).f2), .slice A371_4 ((rd_T87 l0_0 x12_1).f3).length c371_4, .int .i64 ((rd_T87 l0_0 x12_1).f4), .int .i64 ((rd_T87 l0_0 x12_1).f5), .int .i64 0, .int .i64 0]) ?_ 7 _ rfl; (with_reducible repeat (first | refine blk_drewN ?_ _ | refine blk_drew ?_ | refine blk_alloc ?_ _)); refine blk_put (cs := #[.int .i64 ((rd_T87 l0_0 x12_1).f0.f0), .string ((rd_T87 l0_0 x12_1).f0.f1), .bool ((rd_T87 l0_0 x12_1).f1), .string ((rd_T87 l0_0 x12_1).f2), .slice A371_4 ((rd_T87 l0_0 x12_1).f3).length c371_4, .int .i64 ((rd_T87 l0_0 x12_1).f4), .int .i64 0, .int .i64 0, .int .i64 0]) ?_ 6 _ rfl; (with_reducible repeat (first | refine blk_drewN ?_ _ | refine blk_drew ?_ | refine blk_alloc ?_ _)); refine blk_put (cs := #[.int .i64 ((rd_T87 l0_0 x12_1).f0.f0), .string ((rd_T87 l0_0 x12_1).f0.f1), .bool ((rd_T87 l0_0 x12_1).f1), .string ((rd_T87 l0_0 x12_1).f2), .slice A371_4 ((rd_T87 l0_0 x12_1).f3).length c371_4, .int .i64 0, .int .i64 0, .int .i64 0, .int .i64 0]) ?_ 5 _ rfl; (with_reducible repeat (first | refine blk_drewN ?_ _ | refine blk_drew ?_ | refine blk_alloc ?_ _)); refine blk_put (cs := #[.int .i64 ((rd_T87 l0_0 x12_1).f0.f0), .string ((rd_T87 l0_0 x12_1).f0.f1), .bool ((rd_T87 l0_0 x12_1).f1), .string ((rd_T87 l0_0 x12_1).f2), .slice none 0 0, .int .i64 0, .int .i64 0, .int .i64 0, .int .i64 0]) ?_ 4 _ rfl; (with_reducible repeat (first | refine blk_drewN ?_ _ | refine blk_drew ?_ | refine blk_alloc ?_ _)); refine blk_put (cs := #[.int .i64 ((rd_T87 l0_0 x12_1).f0.f0), .string ((rd_T87 l0_0 x12_1).f0.f1), .bool ((rd_T87 l0_0 x12_1).f1), .string (⟨#[]⟩ : ByteArray), .slice none 0 0, .int .i64 0, .int .i64 0, .int .i64 0, .int .i64 0]) ?_ 3 _ rfl; (with_reducible repeat (first | refine blk_drewN ?_ _ | refine blk_drew ?_ | refine blk_alloc ?_ _)); refine blk_put (cs := #[.int .i64 ((rd_T87 l0_0 x12_1).f0.f0), .string ((rd_T87 l0_0 x12_1).f0.f1), .bool false, .string (⟨#[]⟩ : ByteArray), .slice none 0 0, .int .i64 0, .int .i64 0, .int .i64 0, .int .i64 0]) ?_ 2 _ rfl; (with_reducible repeat (first | refine blk_drewN ?_ _ | refine blk_drew ?_ | refine blk_alloc ?_ _)); refine blk_put (cs := #[.int .i64 ((rd_T87 l0_0 x12_1).f0.f0), .string (⟨#[]⟩ : ByteArray), .bool false, .string (⟨#[]⟩ : ByteArray), .slice none 0 0, .int .i64 0, .int .i64 0, .int .i64 0, .int .i64 0]) ?_ 1 _ rfl; (with_reducible repeat (first | refine blk_drewN ?_ _ | refine blk_drew ?_ | refine blk_alloc ?_ _)); refine blk_put (cs := #[.int .i64 0, .string (⟨#[]⟩ : ByteArray), .bool false, .string (⟨#[]⟩ : ByteArray), .slice none 0 0, .int .i64 0, .int .i64 0, .int .i64 0, .int .i64 0]) ?_ 0 _ rfl; (with_reducible repeat (first | refine blk_drewN ?_ _ | refine blk_drew ?_ | refine blk_alloc ?_ _)); exact BK372.out⟩
                  have n2_ : Aside0 (Below w.heap.size w (((((((((w32.setCell ⟨gb372, 0, none⟩ (.int .i64 ((rd_T87 l0_0 x12_1).f0.f0))).setCell ⟨gb372, 1, none⟩ (.string ((rd_T87 l0_0 x12_1).f0.f1))).setCell ⟨gb372, 2, none⟩ (.bool ((rd_T87 l0_0 x12_1).f1))).setCell ⟨gb372, 3, none⟩ (.string ((rd_T87 l0_0 x12_1).f2))).setCell ⟨gb372, 4, none⟩ (.slice A371_4 ((rd_T87 l0_0 x12_1).f3).length c371_4)).setCell ⟨gb372, 5, none⟩ (.int .i64 ((rd_T87 l0_0 x12_1).f4))).setCell ⟨gb372, 6, none⟩ (.int .i64 ((rd_T87 l0_0 x12_1).f5))).setCell ⟨gb372, 7, none⟩ (.int .i64 ((rd_T87 l0_0 x12_1).f6))).setCell ⟨gb372, 8, none⟩ (.int .i64 ((rd_T87 l0_0 x12_1).f7)))) := ⟨by repeat (first | (with_reducible first | exact HB.out | apply below_alloc | apply pw_below_drewN | apply below_drew1 | refine below_set ?_ GE370.out | refine below_set ?_ GE372.out) | exact HB.out)⟩
                  (try clear BK370)
                  (try clear BK372)
                  (try clear HB)
                  generalize (((((((((w32.setCell ⟨gb372, 0, none⟩ (.int .i64 ((rd_T87 l0_0 x12_1).f0.f0))).setCell ⟨gb372, 1, none⟩ (.string ((rd_T87 l0_0 x12_1).f0.f1))).setCell ⟨gb372, 2, none⟩ (.bool ((rd_T87 l0_0 x12_1).f1))).setCell ⟨gb372, 3, none⟩ (.string ((rd_T87 l0_0 x12_1).f2))).setCell ⟨gb372, 4, none⟩ (.slice A371_4 ((rd_T87 l0_0 x12_1).f3).length c371_4)).setCell ⟨gb372, 5, none⟩ (.int .i64 ((rd_T87 l0_0 x12_1).f4))).setCell ⟨gb372, 6, none⟩ (.int .i64 ((rd_T87 l0_0 x12_1).f5))).setCell ⟨gb372, 7, none⟩ (.int .i64 ((rd_T87 l0_0 x12_1).f6))).setCell ⟨gb372, 8, none⟩ (.int .i64 ((rd_T87 l0_0 x12_1).f7))) = w35 at n0_ n1_ n2_ ⊢
                  have BK370 := n0_
                  have BK372 := n1_
                  have HB := n2_
                  clear n0_ n1_ n2_
                  have n0_ := Aside0.mk (blk_drew BK370.out)
                  have n1_ := Aside0.mk (blk_drew BK372.out)
                  have n2_ := Aside0.mk (below_drew1 HB.out)
                  clear BK370
                  clear BK372
                  clear HB
                  have BK370 := n0_
                  have BK372 := n1_
                  have HB := n2_
                  clear n0_ n1_ n2_
                  refine start_ (n := 20) (S := fun w' => w'.cell? ⟨gb372, 0, none⟩ = some (.int .i64 ((rd_T87 l0_0 x12_1).f0.f0)) ∧ w'.cell? ⟨gb372, 1, none⟩ = some (.string ((rd_T87 l0_0 x12_1).f0.f1)) ∧ w'.cell? ⟨gb372, 2, none⟩ = some (.bool ((rd_T87 l0_0 x12_1).f1)) ∧ w'.cell? ⟨gb372, 3, none⟩ = some (.string ((rd_T87 l0_0 x12_1).f2)) ∧ w'.cell? ⟨gb372, 4, none⟩ = some (.slice A371_4 ((rd_T87 l0_0 x12_1).f3).length c371_4) ∧ w'.cell? ⟨gb372, 5, none⟩ = some (.int .i64 ((rd_T87 l0_0 x12_1).f4)) ∧ w'.cell? ⟨gb372, 6, none⟩ = some (.int .i64 ((rd_T87 l0_0 x12_1).f5)) ∧ w'.cell? ⟨gb372, 7, none⟩ = some (.int .i64 ((rd_T87 l0_0 x12_1).f6)) ∧ w'.cell? ⟨gb372, 8, none⟩ = some (.int .i64 ((rd_T87 l0_0 x12_1).f7))) (ds := []) #[false, false, false, false, false, false, false, false, false, false, false, false, false, false, false, false, false, false, false, false] (by kernel_rfl) rfl rfl ⟨(blk_cell BK372.out 0).trans rfl, (blk_cell BK372.out 1).trans rfl, (blk_cell BK372.out 2).trans rfl, (blk_cell BK372.out 3).trans rfl, (blk_cell BK372.out 4).trans rfl, (blk_cell BK372.out 5).trans rfl, (blk_cell BK372.out 6).trans rfl, (blk_cell BK372.out 7).trans rfl, (blk_cell BK372.out 8).trans rfl⟩ (fun hHeld => ?_); refine with_tabW impl_ValidTable.tab6 impl_ValidTable.bits6 (fun HT_ HW_ => ?_)
                  generalize w35.drew = w36 at BK370 BK372 HB hHeld ⊢
                  refine take_ (i := 0) (N := some 17) (v := ?_) (a' := ?_) #[true, false, false, false, false, false, false, false, false, false, false, false, false, false, false, false, false, false, false, false] rfl rfl (take_ofW HT_.out HW_.out (by kernel_rfl)) (fun _ _ _ h => h) (Or.inl ⟨by rfl, ?_⟩) hHeld ?_ ?_
                  rotate_left
                  · rintro w' ⟨s0, s1, s2, s3, s4, s5, s6, s7, s8⟩
                    go_simp
                    with_reducible rfl
                  rotate_left
                  · simp only [Act.put, List.setIfInBounds_toArray, List.set_cons_zero, List.set_cons_succ, i64_w, i32_w]
                    rfl
                  refine one_ (i := 1) (N := some 18) #[true, true, false, false, false, false, false, false, false, false, false, false, false, false, false, false, false, false, false, false] rfl rfl (one_of HT_.out (by kernel_rfl)) (by decide) (fun K hK => ?_)
                  refine goes_ Tryd.func49 (by kernel_rfl) rfl #[.agg #[.int .i64 ((rd_T87 l0_0 x12_1).f0.f0), .string ((rd_T87 l0_0 x12_1).f0.f1), .bool ((rd_T87 l0_0 x12_1).f1), .string ((rd_T87 l0_0 x12_1).f2), .slice A371_4 ((rd_T87 l0_0 x12_1).f3).length c371_4, .int .i64 ((rd_T87 l0_0 x12_1).f4), .int .i64 ((rd_T87 l0_0 x12_1).f5), .int .i64 ((rd_T87 l0_0 x12_1).f6), .int .i64 ((rd_T87 l0_0 x12_1).f7)]] (by rfl) rfl rfl (by (try simp only [List.map_toArray, List.map_cons, List.map_nil]); first | done | rfl | (simp only [List.length_drop, List.length_take]; rfl)) ?_
                  with_reducible refine (impl_Slot_valid.calls k1 ((rd_T87 l0_0 x12_1).f0.f0) ((rd_T87 l0_0 x12_1).f0.f1) ((rd_T87 l0_0 x12_1).f1) ((rd_T87 l0_0 x12_1).f2) _ _ ((rd_T87 l0_0 x12_1).f3) ((rd_T87 l0_0 x12_1).f4) ((rd_T87 l0_0 x12_1).f5) ((rd_T87 l0_0 x12_1).f6) ((rd_T87 l0_0 x12_1).f7) true _ ?side1 ?side2 ?side3 A10.out).mono ?_
                  (case side1 => (first | exact HG.out | exact GRes.below HG.out (by repeat (first | (with_reducible first | exact HB.out | apply below_alloc | apply pw_below_drewN | apply below_drew1 | refine below_set ?_ GE370.out | refine below_set ?_ GE372.out) | exact HB.out)) | (repeat (first | exact HG.out | apply GRes.drewN | apply GRes.drew | apply GRes.alloc))))
                  (case side2 => repeat (first | exact (Kd.C_below HR371_4.out HB.out) | (with_reducible refine Kd.C_alloc ?_ _) | (with_reducible refine Kd.C_drewN ?_ _) | (with_reducible refine Kd.C_drew ?_)))
                  (case side3 => exact HC371_4.out)
                  rintro e w37 ⟨rfl, hb⟩
                  refine ⟨_, rfl, ?_⟩
                  have n0_ := Aside0.mk (blk_below (g := gb370) (o := .cells #[.slice (some ad371) l0_0.length c0_0] 52 (0, 0)) (by (with_reducible repeat (first | refine blk_drewN ?_ _ | refine blk_drew ?_ | refine blk_alloc ?_ _)); exact BK370.out) hb)
                  have n1_ := Aside0.mk (blk_below (g := gb372) (o := .cells #[.int .i64 ((rd_T87 l0_0 x12_1).f0.f0), .string ((rd_T87 l0_0 x12_1).f0.f1), .bool ((rd_T87 l0_0 x12_1).f1), .string ((rd_T87 l0_0 x12_1).f2), .slice A371_4 ((rd_T87 l0_0 x12_1).f3).length c371_4, .int .i64 ((rd_T87 l0_0 x12_1).f4), .int .i64 ((rd_T87 l0_0 x12_1).f5), .int .i64 ((rd_T87 l0_0 x12_1).f6), .int .i64 ((rd_T87 l0_0 x12_1).f7)] 87 (0, 0)) (by (with_reducible repeat (first | refine blk_drewN ?_ _ | refine blk_drew ?_ | refine blk_alloc ?_ _)); exact BK372.out) hb)
                  have n2_ := Aside0.mk (below_step (by repeat (first | (with_reducible first | exact HB.out | apply below_alloc | apply pw_below_drewN | apply below_drew1 | refine below_set ?_ GE370.out | refine below_set ?_ GE372.out) | exact HB.out)) hb)
                  clear BK370
                  clear BK372
                  clear HB
                  have BK370 := n0_
                  have BK372 := n1_
                  have HB := n2_
                  clear n0_ n1_ n2_
                  (try clear hb)
                  (try clear hb2)
                  (try clear hk)
                  (try clear hi)
                  refine hK.out _ _ ⟨(blk_cell BK372.out 0).trans rfl, (blk_cell BK372.out 1).trans rfl, (blk_cell BK372.out 2).trans rfl, (blk_cell BK372.out 3).trans rfl, (blk_cell BK372.out 4).trans rfl, (blk_cell BK372.out 5).trans rfl, (blk_cell BK372.out 6).trans rfl, (blk_cell BK372.out 7).trans rfl, (blk_cell BK372.out 8).trans rfl⟩ (fun hHeld => ?_)
                  clear hK K
                  refine norm_ (a' := ?_) ?_ ?_
                  rotate_left
                  · show Act.put _ (some 18) _ = _
                    simp only [Act.put, List.setIfInBounds_toArray, List.set_cons_zero, List.set_cons_succ, i64_w, i32_w]
                    rfl
                  refine pure_ (i := 2) (N := some 19) (v := ?_) (a' := ?_) #[true, true, true, false, false, false, false, false, false, false, false, false, false, false, false, false, false, false, false, false] rfl rfl (any_of HT_.out (by kernel_rfl)) (fun _ _ _ h => h) (Or.inl ⟨by rfl, ?_⟩) ?_ ?_
                  rotate_left
                  · intro w'
                    go_simp
                    with_reducible rfl
                  rotate_left
                  · simp only [Act.put, List.setIfInBounds_toArray, List.set_cons_zero, List.set_cons_succ, i64_w, i32_w]
                    rfl
                  refine pure_ (i := 3) (N := some 20) (v := ?_) (a' := ?_) #[true, true, true, true, false, false, false, false, false, false, false, false, false, false, false, false, false, false, false, false] rfl rfl (any_of HT_.out (by kernel_rfl)) (fun _ _ _ h => h) (Or.inl ⟨by rfl, ?_⟩) ?_ ?_
                  rotate_left
                  · intro w'
                    go_simp
                    with_reducible rfl
                  rotate_left
                  · simp only [Act.put, List.setIfInBounds_toArray, List.set_cons_zero, List.set_cons_succ, i64_w, i32_w]
                    rfl
                  refine pure_ (i := 4) (N := some 21) (v := ?_) (a' := ?_) #[true, true, true, true, true, false, false, false, false, false, false, false, false, false, false, false, false, false, false, false] rfl rfl (any_of HT_.out (by kernel_rfl)) (fun _ _ _ h => h) (Or.inl ⟨by rfl, ?_⟩) ?_ ?_
                  rotate_left
                  · intro w'
                    go_simp
                    with_reducible rfl
                  rotate_left
                  · simp only [Act.put, List.setIfInBounds_toArray, List.set_cons_zero, List.set_cons_succ, i64_w, i32_w]
                    rfl
                  refine pure_ (i := 5) (N := some 22) (v := ?_) (a' := ?_) #[true, true, true, true, true, true, false, false, false, false, false, false, false, false, false, false, false, false, false, false] rfl rfl (any_of HT_.out (by kernel_rfl)) (fun _ _ _ h => h) (Or.inl ⟨by rfl, ?_⟩) ?_ ?_
                  rotate_left
                  · intro w'
                    go_simp
                    with_reducible rfl
                  rotate_left
                  · simp only [Act.put, List.setIfInBounds_toArray, List.set_cons_zero, List.set_cons_succ, i64_w, i32_w]
                    rfl
                  refine pure_ (i := 6) (N := some 23) (v := ?_) (a' := ?_) #[true, true, true, true, true, true, true, false, false, false, false, false, false, false, false, false, false, false, false, false] rfl rfl (any_of HT_.out (by kernel_rfl)) (fun _ _ _ h => h) (Or.inl ⟨by rfl, ?_⟩) ?_ ?_
                  rotate_left
                  · intro w'
                    go_simp
                    with_reducible rfl
                  rotate_left
                  · simp only [Act.put, List.setIfInBounds_toArray, List.set_cons_zero, List.set_cons_succ, i64_w, i32_w]
                    rfl
                  refine pure_ (i := 7) (N := some 24) (v := undef) (a' := ?_) #[true, true, true, true, true, true, true, true, false, false, false, false, false, false, false, false, false, false, false, false] rfl rfl (any_of HT_.out (by kernel_rfl)) (fun _ _ _ h => h) (Or.inr ⟨by rfl, rfl⟩) ?_ ?_
                  rotate_left
                  · simp only [Act.put, List.setIfInBounds_toArray, List.set_cons_zero, List.set_cons_succ, i64_w, i32_w]
                    rfl
                  refine pure_ (i := 8) (N := some 25) (v := undef) (a' := ?_) #[true, true, true, true, true, true, true, true, true, false, false, false, false, false, false, false, false, false, false, false] rfl rfl (any_of HT_.out (by kernel_rfl)) (fun _ _ _ h => h) (Or.inr ⟨by rfl, rfl⟩) ?_ ?_
                  rotate_left
                  · simp only [Act.put, List.setIfInBounds_toArray, List.set_cons_zero, List.set_cons_succ, i64_w, i32_w]
                    rfl
                  refine pure_ (i := 9) (N := some 26) (v := undef) (a' := ?_) #[true, true, true, true, true, true, true, true, true, true, false, false, false, false, false, false, false, false, false, false] rfl rfl (any_of HT_.out (by kernel_rfl)) (fun _ _ _ h => h) (Or.inr ⟨by rfl, rfl⟩) ?_ ?_
                  rotate_left
                  · simp only [Act.put, List.setIfInBounds_toArray, List.set_cons_zero, List.set_cons_succ, i64_w, i32_w]
                    rfl
                  refine pure_ (i := 10) (N := some 27) (v := undef) (a' := ?_) #[true, true, true, true, true, true, true, true, true, true, true, false, false, false, false, false, false, false, false, false] rfl rfl (any_of HT_.out (by kernel_rfl)) (fun _ _ _ h => h) (Or.inr ⟨by rfl, rfl⟩) ?_ ?_
                  rotate_left
                  · simp only [Act.put, List.setIfInBounds_toArray, List.set_cons_zero, List.set_cons_succ, i64_w, i32_w]
                    rfl
                  refine pure_ (i := 11) (N := some 28) (v := undef) (a' := ?_) #[true, true, true, true, true, true, true, true, true, true, true, true, false, false, false, false, false, false, false, false] rfl rfl (any_of HT_.out (by kernel_rfl)) (fun _ _ _ h => h) (Or.inr ⟨by rfl, rfl⟩) ?_ ?_
                  rotate_left
                  · simp only [Act.put, List.setIfInBounds_toArray, List.set_cons_zero, List.set_cons_succ, i64_w, i32_w]
                    rfl
                  refine pure_ (i := 12) (N := some 29) (v := undef) (a' := ?_) #[true, true, true, true, true, true, true, true, true, true, true, true, true, false, false, false, false, false, false, false] rfl rfl (any_of HT_.out (by kernel_rfl)) (fun _ _ _ h => h) (Or.inr ⟨by rfl, rfl⟩) ?_ ?_
                  rotate_left
                  · simp only [Act.put, List.setIfInBounds_toArray, List.set_cons_zero, List.set_cons_succ, i64_w, i32_w]
                    rfl
                  refine pure_ (i := 13) (N := some 30) (v := undef) (a' := ?_) #[true, true, true, true, true, true, true, true, true, true, true, true, true, true, false, false, false, false, false, false] rfl rfl (any_of HT_.out (by kernel_rfl)) (fun _ _ _ h => h) (Or.inr ⟨by rfl, rfl⟩) ?_ ?_
                  rotate_left
                  · simp only [Act.put, List.setIfInBounds_toArray, List.set_cons_zero, List.set_cons_succ, i64_w, i32_w]
                    rfl
                  refine pure_ (i := 14) (N := some 31) (v := undef) (a' := ?_) #[true, true, true, true, true, true, true, true, true, true, true, true, true, true, true, false, false, false, false, false] rfl rfl (any_of HT_.out (by kernel_rfl)) (fun _ _ _ h => h) (Or.inr ⟨by rfl, rfl⟩) ?_ ?_
                  rotate_left
                  · simp only [Act.put, List.setIfInBounds_toArray, List.set_cons_zero, List.set_cons_succ, i64_w, i32_w]
                    rfl
                  refine pure_ (i := 15) (N := some 32) (v := undef) (a' := ?_) #[true, true, true, true, true, true, true, true, true, true, true, true, true, true, true, true, false, false, false, false] rfl rfl (any_of HT_.out (by kernel_rfl)) (fun _ _ _ h => h) (Or.inr ⟨by rfl, rfl⟩) ?_ ?_
                  rotate_left
                  · simp only [Act.put, List.setIfInBounds_toArray, List.set_cons_zero, List.set_cons_succ, i64_w, i32_w]
                    rfl
                  refine pure_ (i := 16) (N := some 33) (v := undef) (a' := ?_) #[true, true, true, true, true, true, true, true, true, true, true, true, true, true, true, true, true, false, false, false] rfl rfl (any_of HT_.out (by kernel_rfl)) (fun _ _ _ h => h) (Or.inr ⟨by rfl, rfl⟩) ?_ ?_
                  rotate_left
                  · simp only [Act.put, List.setIfInBounds_toArray, List.set_cons_zero, List.set_cons_succ, i64_w, i32_w]
                    rfl
                  refine pure_ (i := 17) (N := some 34) (v := undef) (a' := ?_) #[true, true, true, true, true, true, true, true, true, true, true, true, true, true, true, true, true, true, false, false] rfl rfl (any_of HT_.out (by kernel_rfl)) (fun _ _ _ h => h) (Or.inr ⟨by rfl, rfl⟩) ?_ ?_
                  rotate_left
                  · simp only [Act.put, List.setIfInBounds_toArray, List.set_cons_zero, List.set_cons_succ, i64_w, i32_w]
                    rfl
                  refine pure_ (i := 18) (N := some 35) (v := ?_) (a' := ?_) #[true, true, true, true, true, true, true, true, true, true, true, true, true, true, true, true, true, true, true, false] rfl rfl (any_of HT_.out (by kernel_rfl)) (fun _ _ _ h => h) (Or.inl ⟨by rfl, ?_⟩) ?_ ?_
                  rotate_left
                  · intro w'
                    go_simp
                    with_reducible rfl
                  rotate_left
                  · simp only [Act.put, List.setIfInBounds_toArray, List.set_cons_zero, List.set_cons_succ, i64_w, i32_w]
                    rfl
                  refine pure_ (i := 19) (N := some 36) (v := ?_) (a' := ?_) #[true, true, true, true, true, true, true, true, true, true, true, true, true, true, true, true, true, true, true, true] rfl rfl (any_of HT_.out (by kernel_rfl)) (fun _ _ _ h => h) (Or.inl ⟨by rfl, ?_⟩) ?_ ?_
                  rotate_left
                  · intro w'
                    go_simp
                    with_reducible rfl
                  rotate_left
                  · simp only [Act.put, List.setIfInBounds_toArray, List.set_cons_zero, List.set_cons_succ, i64_w, i32_w]
                    rfl
                  refine done_ (done_of HT_.out (by kernel_rfl)) ?_
                  try go_wp2
                  go_roundg k1
                  case measure => have := HK1.out; omega
                  case rel => exact ⟨(wrap64 (x12_1 + 1)), (by first | rfl | (simp; done) | (simp [*]; done)), H', ⟨by have := HK1.out; omega⟩, ⟨by (with_reducible repeat (first | refine blk_drewN ?_ _ | refine blk_drew ?_ | refine blk_alloc ?_ _)); exact BK370.out⟩, ⟨by repeat (first | (with_reducible first | exact HB.out | apply below_alloc | apply pw_below_drewN | apply below_drew1 | refine below_set ?_ GE370.out | refine below_set ?_ GE372.out) | exact HB.out)⟩⟩
              · replace c11 := Bool.eq_false_iff.mpr c11
                subst c11
                have H1 : (some false) = some r := by rw [if_neg (show ¬ (false = true) by decide)] at H; exact H
                clear H
                have H := H1
                clear H1
                obtain rfl := Option.some.inj H
                have p371 : 0 ≤ (x12_1 : Int) := of_decide_eq_true (by first | (with_reducible assumption) | assumption)
                have q371 : x12_1 < (l0_0.length : Int) := of_decide_eq_true (by first | (with_reducible assumption) | assumption)
                obtain ⟨ad371, A371_4, c371_4, e371, hx371_0, hx371_1, hx371_2, hx371_3, hx371_4, hx371_5, hx371_6, hx371_7, hx371_8, hl371_4, hi371_4⟩ := at_T87 HR0_0.out x12_1 p371 q371
                cases e371
                replace hx371_0 := (HB.out.cell (World.block_lt_of_cell? w _ hx371_0)).trans hx371_0
                replace hx371_1 := (HB.out.cell (World.block_lt_of_cell? w _ hx371_1)).trans hx371_1
                replace hx371_2 := (HB.out.cell (World.block_lt_of_cell? w _ hx371_2)).trans hx371_2
                replace hx371_3 := (HB.out.cell (World.block_lt_of_cell? w _ hx371_3)).trans hx371_3
                replace hx371_4 := (HB.out.cell (World.block_lt_of_cell? w _ hx371_4)).trans hx371_4
                replace hx371_5 := (HB.out.cell (World.block_lt_of_cell? w _ hx371_5)).trans hx371_5
                replace hx371_6 := (HB.out.cell (World.block_lt_of_cell? w _ hx371_6)).trans hx371_6
                replace hx371_7 := (HB.out.cell (World.block_lt_of_cell? w _ hx371_7)).trans hx371_7
                replace hx371_8 := (HB.out.cell (World.block_lt_of_cell? w _ hx371_8)).trans hx371_8
                have HR371_4 := Aside0.mk hi371_4
                have HC371_4 := Aside0.mk hl371_4
                clear hi371_4 hl371_4
                replace p371 := eq_true p371
                replace q371 := eq_true q371
                try go_wp2_with (first | ((with_reducible refine gate_dst (N := 4) rfl ?_); refine box_event ?hg (N := 4) ?hd (cs := #[.int .i64 0, .string (⟨#[]⟩ : ByteArray), .bool false, .string (⟨#[]⟩ : ByteArray), .slice none 0 0, .int .i64 0, .int .i64 0, .int .i64 0, .int .i64 0]) (t := 87) ?hr ?_; (case hd => rfl); (case hg => rfl); (case hr => first | (go_simp; done) | (go_simp; rfl)); intro gb372 hg w38 hbox hb; have n0_ := Aside0.mk (blk_below (g := gb370) (o := .cells #[.slice (some ad371) l0_0.length c0_0] 52 (0, 0)) (by (with_reducible repeat (first | refine blk_drewN ?_ _ | refine blk_drew ?_ | refine blk_alloc ?_ _)); exact BK370.out) hb); have n1_ := Aside0.mk (below_step (by repeat (first | (with_reducible first | exact HB.out | apply below_alloc | apply pw_below_drewN | apply below_drew1 | refine below_set ?_ GE370.out) | exact HB.out)) hb); have n2_ := Aside0.mk (hbox); have n3_ := Aside0.mk ((by rw [hg]; exact (below_size (by repeat (first | (with_reducible first | exact HB.out | apply below_alloc | apply pw_below_drewN | apply below_drew1 | refine below_set ?_ GE370.out) | exact HB.out))) : w.heap.size ≤ gb372)); have n4_ := Aside0.mk ((by rw [hg]; exact (below_size (by repeat (first | (with_reducible first | exact HB.out | apply below_alloc | apply pw_below_drewN | apply below_drew1 | refine below_set ?_ GE370.out) | exact HB.out))) : w.heap.size ≤ gb372)); have n5_ := Aside0.mk ((by rw [hg]; exact Nat.ne_of_lt (blk_lt (g := gb370) (o := .cells #[.slice (some ad371) l0_0.length c0_0] 52 (0, 0)) (by (with_reducible repeat (first | refine blk_drewN ?_ _ | refine blk_drew ?_ | refine blk_alloc ?_ _)); exact BK370.out)) : gb370 ≠ gb372)); have n6_ := Aside0.mk ((by rw [hg]; exact Nat.ne_of_gt (blk_lt (g := gb370) (o := .cells #[.slice (some ad371) l0_0.length c0_0] 52 (0, 0)) (by (with_reducible repeat (first | refine blk_drewN ?_ _ | refine blk_drew ?_ | refine blk_alloc ?_ _)); exact BK370.out)) : gb372 ≠ gb370)); clear BK370; clear HB; have BK370 := n0_; have HB := n1_; have BK372 := n2_; have GW372 := n3_; have GE372 := n4_; have NB370_372 := n5_; have NB372_370 := n6_; clear n0_ n1_ n2_ n3_ n4_ n5_ n6_; clear hb hbox hg; have hnb39 := NB372_370.out; have hnc39 := NB370_372.out; have hcz40_0 : w38.cell? ⟨gb372, 0, none⟩ = some (.int .i64 0) := (blk_cell BK372.out 0).trans rfl; have hcz40_1 : w38.cell? ⟨gb372, 1, none⟩ = some (.string (⟨#[]⟩ : ByteArray)) := (blk_cell BK372.out 1).trans rfl; have hcz40_2 : w38.cell? ⟨gb372, 2, none⟩ = some (.bool false) := (blk_cell BK372.out 2).trans rfl; have hcz40_3 : w38.cell? ⟨gb372, 3, none⟩ = some (.string (⟨#[]⟩ : ByteArray)) := (blk_cell BK372.out 3).trans rfl; have hcz40_4 : w38.cell? ⟨gb372, 4, none⟩ = some (.slice none 0 0) := (blk_cell BK372.out 4).trans rfl; have hcz40_5 : w38.cell? ⟨gb372, 5, none⟩ = some (.int .i64 0) := (blk_cell BK372.out 5).trans rfl; have hcz40_6 : w38.cell? ⟨gb372, 6, none⟩ = some (.int .i64 0) := (blk_cell BK372.out 6).trans rfl; have hcz40_7 : w38.cell? ⟨gb372, 7, none⟩ = some (.int .i64 0) := (blk_cell BK372.out 7).trans rfl; have hcz40_8 : w38.cell? ⟨gb372, 8, none⟩ = some (.int .i64 0) := (blk_cell BK372.out 8).trans rfl; have hfz40_0 := blk_frozen BK372.out 0; have hfz40_1 := blk_frozen BK372.out 1; have hfz40_2 := blk_frozen BK372.out 2; have hfz40_3 := blk_frozen BK372.out 3; have hfz40_4 := blk_frozen BK372.out 4; have hfz40_5 := blk_frozen BK372.out 5; have hfz40_6 := blk_frozen BK372.out 6; have hfz40_7 := blk_frozen BK372.out 7; have hfz40_8 := blk_frozen BK372.out 8))
                have n0_ : Aside0 ((((((((((w38.setCell ⟨gb372, 0, none⟩ (.int .i64 ((rd_T87 l0_0 x12_1).f0.f0))).setCell ⟨gb372, 1, none⟩ (.string ((rd_T87 l0_0 x12_1).f0.f1))).setCell ⟨gb372, 2, none⟩ (.bool ((rd_T87 l0_0 x12_1).f1))).setCell ⟨gb372, 3, none⟩ (.string ((rd_T87 l0_0 x12_1).f2))).setCell ⟨gb372, 4, none⟩ (.slice A371_4 ((rd_T87 l0_0 x12_1).f3).length c371_4)).setCell ⟨gb372, 5, none⟩ (.int .i64 ((rd_T87 l0_0 x12_1).f4))).setCell ⟨gb372, 6, none⟩ (.int .i64 ((rd_T87 l0_0 x12_1).f5))).setCell ⟨gb372, 7, none⟩ (.int .i64 ((rd_T87 l0_0 x12_1).f6))).setCell ⟨gb372, 8, none⟩ (.int .i64 ((rd_T87 l0_0 x12_1).f7))).heap[gb370]? = some (.cells #[.slice (some ad371) l0_0.length c0_0] 52 (0, 0))) := ⟨by (with_reducible repeat (first | refine blk_drewN ?_ _ | refine blk_drew ?_ | refine blk_alloc ?_ _)); refine blk_far ?_ NB370_372.out _; (with_reducible repeat (first | refine blk_drewN ?_ _ | refine blk_drew ?_ | refine blk_alloc ?_ _)); refine blk_far ?_ NB370_372.out _; (with_reducible repeat (first | refine blk_drewN ?_ _ | refine blk_drew ?_ | refine blk_alloc ?_ _)); refine blk_far ?_ NB370_372.out _; (with_reducible repeat (first | refine blk_drewN ?_ _ | refine blk_drew ?_ | refine blk_alloc ?_ _)); refine blk_far ?_ NB370_372.out _; (with_reducible repeat (first | refine blk_drewN ?_ _ | refine blk_drew ?_ | refine blk_alloc ?_ _)); refine blk_far ?_ NB370_372.out _; (with_reducible repeat (first | refine blk_drewN ?_ _ | refine blk_drew ?_ | refine blk_alloc ?_ _)); refine blk_far ?_ NB370_372.out _; (with_reducible repeat (first | refine blk_drewN ?_ _ | refine blk_drew ?_ | refine blk_alloc ?_ _)); refine blk_far ?_ NB370_372.out _; (with_reducible repeat (first | refine blk_drewN ?_ _ | refine blk_drew ?_ | refine blk_alloc ?_ _)); refine blk_far ?_ NB370_372.out _; (with_reducible repeat (first | refine blk_drewN ?_ _ | refine blk_drew ?_ | refine blk_alloc ?_ _)); refine blk_far ?_ NB370_372.out _; (with_reducible repeat (first | refine blk_drewN ?_ _ | refine blk_drew ?_ | refine blk_alloc ?_ _)); exact BK370.out⟩
                have n1_ : Aside0 ((((((((((w38.setCell ⟨gb372, 0, none⟩ (.int .i64 ((rd_T87 l0_0 x12_1).f0.f0))).setCell ⟨gb372, 1, none⟩ (.string ((rd_T87 l0_0 x12_1).f0.f1))).setCell ⟨gb372, 2, none⟩ (.bool ((rd_T87 l0_0 x12_1).f1))).setCell ⟨gb372, 3, none⟩ (.string ((rd_T87 l0_0 x12_1).f2))).setCell ⟨gb372, 4, none⟩ (.slice A371_4 ((rd_T87 l0_0 x12_1).f3).length c371_4)).setCell ⟨gb372, 5, none⟩ (.int .i64 ((rd_T87 l0_0 x12_1).f4))).setCell ⟨gb372, 6, none⟩ (.int .i64 ((rd_T87 l0_0 x12_1).f5))).setCell ⟨gb372, 7, none⟩ (.int .i64 ((rd_T87 l0_0 x12_1).f6))).setCell ⟨gb372, 8, none⟩ (.int .i64 ((rd_T87 l0_0 x12_1).f7))).heap[gb372]? = some (.cells #[.int .i64 ((rd_T87 l0_0 x12_1).f0.f0), .string ((rd_T87 l0_0 x12_1).f0.f1), .bool ((rd_T87 l0_0 x12_1).f1), .string ((rd_T87 l0_0 x12_1).f2), .slice A371_4 ((rd_T87 l0_0 x12_1).f3).length c371_4, .int .i64 ((rd_T87 l0_0 x12_1).f4), .int .i64 ((rd_T87 l0_0 x12_1).f5), .int .i64 ((rd_T87 l0_0 x12_1).f6), .int .i64 ((rd_T87 l0_0 x12_1).f7)] 87 (0, 0))) := ⟨by (with_reducible repeat (first | refine blk_drewN ?_ _ | refine blk_drew ?_ | refine blk_alloc ?_ _)); refine blk_put (cs := #[.int .i64 ((rd_T87 l0_0 x12_1).f0.f0), .string ((rd_T87 l0_0 x12_1).f0.f1), .bool ((rd_T87 l0_0 x12_1).f1), .string ((rd_T87 l0_0 x12_1).f2), .slice A371_4 ((rd_T87 l0_0 x12_1).f3).length c371_4, .int .i64 ((rd_T87 l0_0 x12_1).f4), .int .i64 ((rd_T87 l0_0 x12_1).f5), .int .i64 ((rd_T87 l0_0 x12_1).f6), .int .i64 0]) ?_ 8 _ rfl; (with_reducible repeat (first | refine blk_drewN ?_ _ | refine blk_drew ?_ | refine blk_alloc ?_ _)); refine blk_put (cs := #[.int .i64 ((rd_T87 l0_0 x12_1).f0.f0), .string ((rd_T87 l0_0 x12_1).f0.f1), .bool ((rd_T87 l0_0 x12_1).f1), .string ((rd_T87 l0_0 x12_1).f2), .slice A371_4 ((rd_T87 l0_0 x12_1).f3).length c371_4, .int .i64 ((rd_T87 l0_0 x12_1).f4), .int .i64 ((rd_T87 l0_0 x12_1).f5), .int .i64 0, .int .i64 0]) ?_ 7 _ rfl; (with_reducible repeat (first | refine blk_drewN ?_ _ | refine blk_drew ?_ | refine blk_alloc ?_ _)); refine blk_put (cs := #[.int .i64 ((rd_T87 l0_0 x12_1).f0.f0), .string ((rd_T87 l0_0 x12_1).f0.f1), .bool ((rd_T87 l0_0 x12_1).f1), .string ((rd_T87 l0_0 x12_1).f2), .slice A371_4 ((rd_T87 l0_0 x12_1).f3).length c371_4, .int .i64 ((rd_T87 l0_0 x12_1).f4), .int .i64 0, .int .i64 0, .int .i64 0]) ?_ 6 _ rfl; (with_reducible repeat (first | refine blk_drewN ?_ _ | refine blk_drew ?_ | refine blk_alloc ?_ _)); refine blk_put (cs := #[.int .i64 ((rd_T87 l0_0 x12_1).f0.f0), .string ((rd_T87 l0_0 x12_1).f0.f1), .bool ((rd_T87 l0_0 x12_1).f1), .string ((rd_T87 l0_0 x12_1).f2), .slice A371_4 ((rd_T87 l0_0 x12_1).f3).length c371_4, .int .i64 0, .int .i64 0, .int .i64 0, .int .i64 0]) ?_ 5 _ rfl; (with_reducible repeat (first | refine blk_drewN ?_ _ | refine blk_drew ?_ | refine blk_alloc ?_ _)); refine blk_put (cs := #[.int .i64 ((rd_T87 l0_0 x12_1).f0.f0), .string ((rd_T87 l0_0 x12_1).f0.f1), .bool ((rd_T87 l0_0 x12_1).f1), .string ((rd_T87 l0_0 x12_1).f2), .slice none 0 0, .int .i64 0, .int .i64 0, .int .i64 0, .int .i64 0]) ?_ 4 _ rfl; (with_reducible repeat (first | refine blk_drewN ?_ _ | refine blk_drew ?_ | refine blk_alloc ?_ _)); refine blk_put (cs := #[.int .i64 ((rd_T87 l0_0 x12_1).f0.f0), .string ((rd_T87 l0_0 x12_1).f0.f1), .bool ((rd_T87 l0_0 x12_1).f1), .string (⟨#[]⟩ : ByteArray), .slice none 0 0, .int .i64 0, .int .i64 0, .int .i64 0, .int .i64 0]) ?_ 3 _ rfl; (with_reducible repeat (first | refine blk_drewN ?_ _ | refine blk_drew ?_ | refine blk_alloc ?_ _)); refine blk_put (cs := #[.int .i64 ((rd_T87 l0_0 x12_1).f0.f0), .string ((rd_T87 l0_0 x12_1).f0.f1), .bool false, .string (⟨#[]⟩ : ByteArray), .slice none 0 0, .int .i64 0, .int .i64 0, .int .i64 0, .int .i64 0]) ?_ 2 _ rfl; (with_reducible repeat (first | refine blk_drewN ?_ _ | refine blk_drew ?_ | refine blk_alloc ?_ _)); refine blk_put (cs := #[.int .i64 ((rd_T87 l0_0 x12_1).f0.f0), .string (⟨#[]⟩ : ByteArray), .bool false, .string (⟨#[]⟩ : ByteArray), .slice none 0 0, .int .i64 0, .int .i64 0, .int .i64 0, .int .i64 0]) ?_ 1 _ rfl; (with_reducible repeat (first | refine blk_drewN ?_ _ | refine blk_drew ?_ | refine blk_alloc ?_ _)); refine blk_put (cs := #[.int .i64 0, .string (⟨#[]⟩ : ByteArray), .bool false, .string (⟨#[]⟩ : ByteArray), .slice none 0 0, .int .i64 0, .int .i64 0, .int .i64 0, .int .i64 0]) ?_ 0 _ rfl; (with_reducible repeat (first | refine blk_drewN ?_ _ | refine blk_drew ?_ | refine blk_alloc ?_ _)); exact BK372.out⟩
                have n2_ : Aside0 (Below w.heap.size w (((((((((w38.setCell ⟨gb372, 0, none⟩ (.int .i64 ((rd_T87 l0_0 x12_1).f0.f0))).setCell ⟨gb372, 1, none⟩ (.string ((rd_T87 l0_0 x12_1).f0.f1))).setCell ⟨gb372, 2, none⟩ (.bool ((rd_T87 l0_0 x12_1).f1))).setCell ⟨gb372, 3, none⟩ (.string ((rd_T87 l0_0 x12_1).f2))).setCell ⟨gb372, 4, none⟩ (.slice A371_4 ((rd_T87 l0_0 x12_1).f3).length c371_4)).setCell ⟨gb372, 5, none⟩ (.int .i64 ((rd_T87 l0_0 x12_1).f4))).setCell ⟨gb372, 6, none⟩ (.int .i64 ((rd_T87 l0_0 x12_1).f5))).setCell ⟨gb372, 7, none⟩ (.int .i64 ((rd_T87 l0_0 x12_1).f6))).setCell ⟨gb372, 8, none⟩ (.int .i64 ((rd_T87 l0_0 x12_1).f7)))) := ⟨by repeat (first | (with_reducible first | exact HB.out | apply below_alloc | apply pw_below_drewN | apply below_drew1 | refine below_set ?_ GE370.out | refine below_set ?_ GE372.out) | exact HB.out)⟩
                (try clear BK370)
                (try clear BK372)
                (try clear HB)
                generalize (((((((((w38.setCell ⟨gb372, 0, none⟩ (.int .i64 ((rd_T87 l0_0 x12_1).f0.f0))).setCell ⟨gb372, 1, none⟩ (.string ((rd_T87 l0_0 x12_1).f0.f1))).setCell ⟨gb372, 2, none⟩ (.bool ((rd_T87 l0_0 x12_1).f1))).setCell ⟨gb372, 3, none⟩ (.string ((rd_T87 l0_0 x12_1).f2))).setCell ⟨gb372, 4, none⟩ (.slice A371_4 ((rd_T87 l0_0 x12_1).f3).length c371_4)).setCell ⟨gb372, 5, none⟩ (.int .i64 ((rd_T87 l0_0 x12_1).f4))).setCell ⟨gb372, 6, none⟩ (.int .i64 ((rd_T87 l0_0 x12_1).f5))).setCell ⟨gb372, 7, none⟩ (.int .i64 ((rd_T87 l0_0 x12_1).f6))).setCell ⟨gb372, 8, none⟩ (.int .i64 ((rd_T87 l0_0 x12_1).f7))) = w41 at n0_ n1_ n2_ ⊢
                have BK370 := n0_
                have BK372 := n1_
                have HB := n2_
                clear n0_ n1_ n2_
                have n0_ := Aside0.mk (blk_drew BK370.out)
                have n1_ := Aside0.mk (blk_drew BK372.out)
                have n2_ := Aside0.mk (below_drew1 HB.out)
                clear BK370
                clear BK372
                clear HB
                have BK370 := n0_
                have BK372 := n1_
                have HB := n2_
                clear n0_ n1_ n2_
                refine start_ (n := 20) (S := fun w' => w'.cell? ⟨gb372, 0, none⟩ = some (.int .i64 ((rd_T87 l0_0 x12_1).f0.f0)) ∧ w'.cell? ⟨gb372, 1, none⟩ = some (.string ((rd_T87 l0_0 x12_1).f0.f1)) ∧ w'.cell? ⟨gb372, 2, none⟩ = some (.bool ((rd_T87 l0_0 x12_1).f1)) ∧ w'.cell? ⟨gb372, 3, none⟩ = some (.string ((rd_T87 l0_0 x12_1).f2)) ∧ w'.cell? ⟨gb372, 4, none⟩ = some (.slice A371_4 ((rd_T87 l0_0 x12_1).f3).length c371_4) ∧ w'.cell? ⟨gb372, 5, none⟩ = some (.int .i64 ((rd_T87 l0_0 x12_1).f4)) ∧ w'.cell? ⟨gb372, 6, none⟩ = some (.int .i64 ((rd_T87 l0_0 x12_1).f5)) ∧ w'.cell? ⟨gb372, 7, none⟩ = some (.int .i64 ((rd_T87 l0_0 x12_1).f6)) ∧ w'.cell? ⟨gb372, 8, none⟩ = some (.int .i64 ((rd_T87 l0_0 x12_1).f7))) (ds := []) #[false, false, false, false, false, false, false, false, false, false, false, false, false, false, false, false, false, false, false, false] (by kernel_rfl) rfl rfl ⟨(blk_cell BK372.out 0).trans rfl, (blk_cell BK372.out 1).trans rfl, (blk_cell BK372.out 2).trans rfl, (blk_cell BK372.out 3).trans rfl, (blk_cell BK372.out 4).trans rfl, (blk_cell BK372.out 5).trans rfl, (blk_cell BK372.out 6).trans rfl, (blk_cell BK372.out 7).trans rfl, (blk_cell BK372.out 8).trans rfl⟩ (fun hHeld => ?_); refine with_tabW impl_ValidTable.tab6 impl_ValidTable.bits6 (fun HT_ HW_ => ?_)
                generalize w41.drew = w42 at BK370 BK372 HB hHeld ⊢
                refine take_ (i := 0) (N := some 17) (v := ?_) (a' := ?_) #[true, false, false, false, false, false, false, false, false, false, false, false, false, false, false, false, false, false, false, false] rfl rfl (take_ofW HT_.out HW_.out (by kernel_rfl)) (fun _ _ _ h => h) (Or.inl ⟨by rfl, ?_⟩) hHeld ?_ ?_
                rotate_left
                · rintro w' ⟨s0, s1, s2, s3, s4, s5, s6, s7, s8⟩
                  go_simp
                  with_reducible rfl
                rotate_left
                · simp only [Act.put, List.setIfInBounds_toArray, List.set_cons_zero, List.set_cons_succ, i64_w, i32_w]
                  rfl
                refine one_ (i := 1) (N := some 18) #[true, true, false, false, false, false, false, false, false, false, false, false, false, false, false, false, false, false, false, false] rfl rfl (one_of HT_.out (by kernel_rfl)) (by decide) (fun K hK => ?_)
                refine goes_ Tryd.func49 (by kernel_rfl) rfl #[.agg #[.int .i64 ((rd_T87 l0_0 x12_1).f0.f0), .string ((rd_T87 l0_0 x12_1).f0.f1), .bool ((rd_T87 l0_0 x12_1).f1), .string ((rd_T87 l0_0 x12_1).f2), .slice A371_4 ((rd_T87 l0_0 x12_1).f3).length c371_4, .int .i64 ((rd_T87 l0_0 x12_1).f4), .int .i64 ((rd_T87 l0_0 x12_1).f5), .int .i64 ((rd_T87 l0_0 x12_1).f6), .int .i64 ((rd_T87 l0_0 x12_1).f7)]] (by rfl) rfl rfl (by (try simp only [List.map_toArray, List.map_cons, List.map_nil]); first | done | rfl | (simp only [List.length_drop, List.length_take]; rfl)) ?_
                with_reducible refine (impl_Slot_valid.calls k1 ((rd_T87 l0_0 x12_1).f0.f0) ((rd_T87 l0_0 x12_1).f0.f1) ((rd_T87 l0_0 x12_1).f1) ((rd_T87 l0_0 x12_1).f2) _ _ ((rd_T87 l0_0 x12_1).f3) ((rd_T87 l0_0 x12_1).f4) ((rd_T87 l0_0 x12_1).f5) ((rd_T87 l0_0 x12_1).f6) ((rd_T87 l0_0 x12_1).f7) false _ ?side1 ?side2 ?side3 A10.out).mono ?_
                (case side1 => (first | exact HG.out | exact GRes.below HG.out (by repeat (first | (with_reducible first | exact HB.out | apply below_alloc | apply pw_below_drewN | apply below_drew1 | refine below_set ?_ GE370.out | refine below_set ?_ GE372.out) | exact HB.out)) | (repeat (first | exact HG.out | apply GRes.drewN | apply GRes.drew | apply GRes.alloc))))
                (case side2 => repeat (first | exact (Kd.C_below HR371_4.out HB.out) | (with_reducible refine Kd.C_alloc ?_ _) | (with_reducible refine Kd.C_drewN ?_ _) | (with_reducible refine Kd.C_drew ?_)))
                (case side3 => exact HC371_4.out)
                rintro e w43 ⟨rfl, hb⟩
                refine ⟨_, rfl, ?_⟩
                have n0_ := Aside0.mk (blk_below (g := gb370) (o := .cells #[.slice (some ad371) l0_0.length c0_0] 52 (0, 0)) (by (with_reducible repeat (first | refine blk_drewN ?_ _ | refine blk_drew ?_ | refine blk_alloc ?_ _)); exact BK370.out) hb)
                have n1_ := Aside0.mk (blk_below (g := gb372) (o := .cells #[.int .i64 ((rd_T87 l0_0 x12_1).f0.f0), .string ((rd_T87 l0_0 x12_1).f0.f1), .bool ((rd_T87 l0_0 x12_1).f1), .string ((rd_T87 l0_0 x12_1).f2), .slice A371_4 ((rd_T87 l0_0 x12_1).f3).length c371_4, .int .i64 ((rd_T87 l0_0 x12_1).f4), .int .i64 ((rd_T87 l0_0 x12_1).f5), .int .i64 ((rd_T87 l0_0 x12_1).f6), .int .i64 ((rd_T87 l0_0 x12_1).f7)] 87 (0, 0)) (by (with_reducible repeat (first | refine blk_drewN ?_ _ | refine blk_drew ?_ | refine blk_alloc ?_ _)); exact BK372.out) hb)
                have n2_ := Aside0.mk (below_step (by repeat (first | (with_reducible first | exact HB.out | apply below_alloc | apply pw_below_drewN | apply below_drew1 | refine below_set ?_ GE370.out | refine below_set ?_ GE372.out) | exact HB.out)) hb)
                clear BK370
                clear BK372
                clear HB
                have BK370 := n0_
                have BK372 := n1_
                have HB := n2_
                clear n0_ n1_ n2_
                (try clear hb)
                (try clear hb2)
                (try clear hk)
                (try clear hi)
                refine hK.out _ _ ⟨(blk_cell BK372.out 0).trans rfl, (blk_cell BK372.out 1).trans rfl, (blk_cell BK372.out 2).trans rfl, (blk_cell BK372.out 3).trans rfl, (blk_cell BK372.out 4).trans rfl, (blk_cell BK372.out 5).trans rfl, (blk_cell BK372.out 6).trans rfl, (blk_cell BK372.out 7).trans rfl, (blk_cell BK372.out 8).trans rfl⟩ (fun hHeld => ?_)
                clear hK K
                refine norm_ (a' := ?_) ?_ ?_
                rotate_left
                · show Act.put _ (some 18) _ = _
                  simp only [Act.put, List.setIfInBounds_toArray, List.set_cons_zero, List.set_cons_succ, i64_w, i32_w]
                  rfl
                refine pure_ (i := 2) (N := some 19) (v := ?_) (a' := ?_) #[true, true, true, false, false, false, false, false, false, false, false, false, false, false, false, false, false, false, false, false] rfl rfl (any_of HT_.out (by kernel_rfl)) (fun _ _ _ h => h) (Or.inl ⟨by rfl, ?_⟩) ?_ ?_
                rotate_left
                · intro w'
                  go_simp
                  with_reducible rfl
                rotate_left
                · simp only [Act.put, List.setIfInBounds_toArray, List.set_cons_zero, List.set_cons_succ, i64_w, i32_w]
                  rfl
                refine pure_ (i := 3) (N := some 20) (v := ?_) (a' := ?_) #[true, true, true, true, false, false, false, false, false, false, false, false, false, false, false, false, false, false, false, false] rfl rfl (any_of HT_.out (by kernel_rfl)) (fun _ _ _ h => h) (Or.inl ⟨by rfl, ?_⟩) ?_ ?_
                rotate_left
                · intro w'
                  go_simp
                  with_reducible rfl
                rotate_left
                · simp only [Act.put, List.setIfInBounds_toArray, List.set_cons_zero, List.set_cons_succ, i64_w, i32_w]
                  rfl
                refine pure_ (i := 4) (N := some 21) (v := undef) (a' := ?_) #[true, true, true, true, true, false, false, false, false, false, false, false, false, false, false, false, false, false, false, false] rfl rfl (any_of HT_.out (by kernel_rfl)) (fun _ _ _ h => h) (Or.inr ⟨by rfl, rfl⟩) ?_ ?_
                rotate_left
                · simp only [Act.put, List.setIfInBounds_toArray, List.set_cons_zero, List.set_cons_succ, i64_w, i32_w]
                  rfl
                refine pure_ (i := 5) (N := some 22) (v := undef) (a' := ?_) #[true, true, true, true, true, true, false, false, false, false, false, false, false, false, false, false, false, false, false, false] rfl rfl (any_of HT_.out (by kernel_rfl)) (fun _ _ _ h => h) (Or.inr ⟨by rfl, rfl⟩) ?_ ?_
                rotate_left
                · simp only [Act.put, List.setIfInBounds_toArray, List.set_cons_zero, List.set_cons_succ, i64_w, i32_w]
                  rfl
                refine pure_ (i := 6) (N := some 23) (v := undef) (a' := ?_) #[true, true, true, true, true, true, true, false, false, false, false, false, false, false, false, false, false, false, false, false] rfl rfl (any_of HT_.out (by kernel_rfl)) (fun _ _ _ h => h) (Or.inr ⟨by rfl, rfl⟩) ?_ ?_
                rotate_left
                · simp only [Act.put, List.setIfInBounds_toArray, List.set_cons_zero, List.set_cons_succ, i64_w, i32_w]
                  rfl
                refine pure_ (i := 7) (N := some 24) (v := undef) (a' := ?_) #[true, true, true, true, true, true, true, true, false, false, false, false, false, false, false, false, false, false, false, false] rfl rfl (any_of HT_.out (by kernel_rfl)) (fun _ _ _ h => h) (Or.inr ⟨by rfl, rfl⟩) ?_ ?_
                rotate_left
                · simp only [Act.put, List.setIfInBounds_toArray, List.set_cons_zero, List.set_cons_succ, i64_w, i32_w]
                  rfl
                refine pure_ (i := 8) (N := some 25) (v := undef) (a' := ?_) #[true, true, true, true, true, true, true, true, true, false, false, false, false, false, false, false, false, false, false, false] rfl rfl (any_of HT_.out (by kernel_rfl)) (fun _ _ _ h => h) (Or.inr ⟨by rfl, rfl⟩) ?_ ?_
                rotate_left
                · simp only [Act.put, List.setIfInBounds_toArray, List.set_cons_zero, List.set_cons_succ, i64_w, i32_w]
                  rfl
                refine pure_ (i := 9) (N := some 26) (v := undef) (a' := ?_) #[true, true, true, true, true, true, true, true, true, true, false, false, false, false, false, false, false, false, false, false] rfl rfl (any_of HT_.out (by kernel_rfl)) (fun _ _ _ h => h) (Or.inr ⟨by rfl, rfl⟩) ?_ ?_
                rotate_left
                · simp only [Act.put, List.setIfInBounds_toArray, List.set_cons_zero, List.set_cons_succ, i64_w, i32_w]
                  rfl
                refine pure_ (i := 10) (N := some 27) (v := undef) (a' := ?_) #[true, true, true, true, true, true, true, true, true, true, true, false, false, false, false, false, false, false, false, false] rfl rfl (any_of HT_.out (by kernel_rfl)) (fun _ _ _ h => h) (Or.inr ⟨by rfl, rfl⟩) ?_ ?_
                rotate_left
                · simp only [Act.put, List.setIfInBounds_toArray, List.set_cons_zero, List.set_cons_succ, i64_w, i32_w]
                  rfl
                refine pure_ (i := 11) (N := some 28) (v := undef) (a' := ?_) #[true, true, true, true, true, true, true, true, true, true, true, true, false, false, false, false, false, false, false, false] rfl rfl (any_of HT_.out (by kernel_rfl)) (fun _ _ _ h => h) (Or.inr ⟨by rfl, rfl⟩) ?_ ?_
                rotate_left
                · simp only [Act.put, List.setIfInBounds_toArray, List.set_cons_zero, List.set_cons_succ, i64_w, i32_w]
                  rfl
                refine pure_ (i := 12) (N := some 29) (v := undef) (a' := ?_) #[true, true, true, true, true, true, true, true, true, true, true, true, true, false, false, false, false, false, false, false] rfl rfl (any_of HT_.out (by kernel_rfl)) (fun _ _ _ h => h) (Or.inr ⟨by rfl, rfl⟩) ?_ ?_
                rotate_left
                · simp only [Act.put, List.setIfInBounds_toArray, List.set_cons_zero, List.set_cons_succ, i64_w, i32_w]
                  rfl
                refine pure_ (i := 13) (N := some 30) (v := undef) (a' := ?_) #[true, true, true, true, true, true, true, true, true, true, true, true, true, true, false, false, false, false, false, false] rfl rfl (any_of HT_.out (by kernel_rfl)) (fun _ _ _ h => h) (Or.inr ⟨by rfl, rfl⟩) ?_ ?_
                rotate_left
                · simp only [Act.put, List.setIfInBounds_toArray, List.set_cons_zero, List.set_cons_succ, i64_w, i32_w]
                  rfl
                refine pure_ (i := 14) (N := some 31) (v := undef) (a' := ?_) #[true, true, true, true, true, true, true, true, true, true, true, true, true, true, true, false, false, false, false, false] rfl rfl (any_of HT_.out (by kernel_rfl)) (fun _ _ _ h => h) (Or.inr ⟨by rfl, rfl⟩) ?_ ?_
                rotate_left
                · simp only [Act.put, List.setIfInBounds_toArray, List.set_cons_zero, List.set_cons_succ, i64_w, i32_w]
                  rfl
                refine pure_ (i := 15) (N := some 32) (v := undef) (a' := ?_) #[true, true, true, true, true, true, true, true, true, true, true, true, true, true, true, true, false, false, false, false] rfl rfl (any_of HT_.out (by kernel_rfl)) (fun _ _ _ h => h) (Or.inr ⟨by rfl, rfl⟩) ?_ ?_
                rotate_left
                · simp only [Act.put, List.setIfInBounds_toArray, List.set_cons_zero, List.set_cons_succ, i64_w, i32_w]
                  rfl
                refine pure_ (i := 16) (N := some 33) (v := undef) (a' := ?_) #[true, true, true, true, true, true, true, true, true, true, true, true, true, true, true, true, true, false, false, false] rfl rfl (any_of HT_.out (by kernel_rfl)) (fun _ _ _ h => h) (Or.inr ⟨by rfl, rfl⟩) ?_ ?_
                rotate_left
                · simp only [Act.put, List.setIfInBounds_toArray, List.set_cons_zero, List.set_cons_succ, i64_w, i32_w]
                  rfl
                refine pure_ (i := 17) (N := some 34) (v := undef) (a' := ?_) #[true, true, true, true, true, true, true, true, true, true, true, true, true, true, true, true, true, true, false, false] rfl rfl (any_of HT_.out (by kernel_rfl)) (fun _ _ _ h => h) (Or.inr ⟨by rfl, rfl⟩) ?_ ?_
                rotate_left
                · simp only [Act.put, List.setIfInBounds_toArray, List.set_cons_zero, List.set_cons_succ, i64_w, i32_w]
                  rfl
                refine pure_ (i := 18) (N := some 35) (v := undef) (a' := ?_) #[true, true, true, true, true, true, true, true, true, true, true, true, true, true, true, true, true, true, true, false] rfl rfl (any_of HT_.out (by kernel_rfl)) (fun _ _ _ h => h) (Or.inr ⟨by rfl, rfl⟩) ?_ ?_
                rotate_left
                · simp only [Act.put, List.setIfInBounds_toArray, List.set_cons_zero, List.set_cons_succ, i64_w, i32_w]
                  rfl
                refine pure_ (i := 19) (N := some 36) (v := ?_) (a' := ?_) #[true, true, true, true, true, true, true, true, true, true, true, true, true, true, true, true, true, true, true, true] rfl rfl (any_of HT_.out (by kernel_rfl)) (fun _ _ _ h => h) (Or.inl ⟨by rfl, ?_⟩) ?_ ?_
                rotate_left
                · intro w'
                  go_simp
                  with_reducible rfl
                rotate_left
                · simp only [Act.put, List.setIfInBounds_toArray, List.set_cons_zero, List.set_cons_succ, i64_w, i32_w]
                  rfl
                refine done_ (done_of HT_.out (by kernel_rfl)) ?_
                try go_wp2
                go_ret
                exact ⟨by first | rfl | (simp [errW_none, errW_some] <;> rfl) | (simp [*, errW_none, errW_some] <;> rfl), by repeat (first | (with_reducible first | exact HB.out | apply below_alloc | apply pw_below_drewN | apply below_drew1 | refine below_set ?_ GE370.out | refine below_set ?_ GE372.out) | exact HB.out)⟩
            · rw [if_neg c9] at H
              exact absurd H (by simp)
          · rw [if_neg c8] at H
            exact absurd H (by simp)
        · rw [if_neg c7] at H
          have c7b0 : decide (x12_1 < (l0_0.length : Int)) = false := decide_eq_false c7
          clear c7
          obtain rfl := Option.some.inj H
          go_wp2
          go_ret
          exact ⟨by first | rfl | (simp [errW_none, errW_some] <;> rfl) | (simp [*, errW_none, errW_some] <;> rfl), by repeat (first | (with_reducible first | exact HB.out | apply below_alloc | apply pw_below_drewN | apply below_drew1 | refine below_set ?_ GE370.out) | exact HB.out)⟩
end Go.Proofs.YtiicaoiijhodkaaDoor.Gp
end
