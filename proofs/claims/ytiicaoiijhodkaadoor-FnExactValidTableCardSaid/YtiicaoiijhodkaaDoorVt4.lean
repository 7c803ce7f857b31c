/- A part of the proof of RowFnExactValidTable: each text's theorems that it needs, packed by shake.py, a program of this work; Lean checks them. -/
import Derived.Test.YtiicaoiijhodkaaDoorVt2
import Derived.Test.YtiicaoiijhodkaaDoorVt3
section
namespace Go.Proofs.YtiicaoiijhodkaaDoor.Gp
open Go.RowKit Go.Proofs.YtiicaoiijhodkaaDoorW.PrintWords Go.Proofs.YtiicaoiijhodkaaDoorW.PrintLast Go.Proofs.YtiicaoiijhodkaaDoorW.PrintMore
set_option linter.unusedVariables false
set_option linter.unusedSimpArgs false
mutual
def spec_l4SlotOk.j0 : Nat → Bool → Int → ByteArray → Bool → ByteArray → List (S84) → Int → Int → Int → Int → Option (Bool)
  | 0, _, _, _, _, _, _, _, _, _, _ => none
  | k + 1, x3, x303000, x303001, x303002, x303003, x303004, x303005, x303006, x303007, x303008 => if x303007 = 0 then (spec_l4SlotOk.j1 k x3 (x303008 == 0) x303000 x303001 x303002 x303003 x303004 x303005 x303006 x303007 x303008) else (spec_l4SlotOk.j1 k x3 false x303000 x303001 x303002 x303003 x303004 x303005 x303006 x303007 x303008)
def spec_l4SlotOk.j1 : Nat → Bool → Bool → Int → ByteArray → Bool → ByteArray → List (S84) → Int → Int → Int → Int → Option (Bool)
  | 0, _, _, _, _, _, _, _, _, _, _, _ => none
  | k + 1, x3, x4, x303000, x303001, x303002, x303003, x303004, x303005, x303006, x303007, x303008 => if x3 = true then (spec_l4SlotOk.j2 k x3 false x303000 x303001 x303002 x303003 x303004 x303005 x303006 x303007 x303008) else (spec_l4SlotOk.j2 k x3 (!x4) x303000 x303001 x303002 x303003 x303004 x303005 x303006 x303007 x303008)
def spec_l4SlotOk.j2 : Nat → Bool → Bool → Int → ByteArray → Bool → ByteArray → List (S84) → Int → Int → Int → Int → Option (Bool)
  | 0, _, _, _, _, _, _, _, _, _, _, _ => none
  | k + 1, x3, x35, x303000, x303001, x303002, x303003, x303004, x303005, x303006, x303007, x303008 => if x35 = true then (some false) else (if x303002 = true then (if x303006 ≥ 1 then (if x303006 ≤ x303005 then ((spec_l4DepsOk.f k x303004).bind fun t304 => (some t304)) else (some false)) else (some false)) else (if x3 = true then (if (x303003.size : Int) = 0 then (if (x303004.length : Int) = 0 then (if x303005 = 0 then (some (x303006 == 0)) else (some false)) else (some false)) else (some false)) else (some false)))
end
def spec_l4SlotOk.f (k : Nat) (a0_0 : Int) (a0_1 : ByteArray) (a0_2 : Bool) (a0_3 : ByteArray) (l0_4 : List (S84)) (a0_5 : Int) (a0_6 : Int) (a0_7 : Int) (a0_8 : Int) : Option (Bool) := (spec_l4KeyOk.f k a0_0 a0_1).bind fun t303 => (if t303 = true then (if a0_7 ≥ 1 then (if a0_7 ≤ 16 then (spec_l4SlotOk.j0 k (decide (a0_8 ≥ 1)) a0_0 a0_1 a0_2 a0_3 l0_4 a0_5 a0_6 a0_7 a0_8) else (spec_l4SlotOk.j0 k false a0_0 a0_1 a0_2 a0_3 l0_4 a0_5 a0_6 a0_7 a0_8)) else (spec_l4SlotOk.j0 k false a0_0 a0_1 a0_2 a0_3 l0_4 a0_5 a0_6 a0_7 a0_8)) else (some false))
set_option maxHeartbeats 8000000 in
set_option maxRecDepth 100000 in
theorem spec_l4SlotOk.calls (k : Nat) (a0_0 : Int) (a0_1 : ByteArray) (a0_2 : Bool) (a0_3 : ByteArray) (A0_4 : Option Addr) (c0_4 : Nat) (l0_4 : List (S84)) (a0_5 : Int) (a0_6 : Int) (a0_7 : Int) (a0_8 : Int) (r : Bool) (w : World) (hr0_4 : Kd.C k84 w A0_4 l0_4.length l0_4) (hc0_4 : l0_4.length ≤ c0_4) (h : spec_l4SlotOk.f k a0_0 a0_1 a0_2 a0_3 l0_4 a0_5 a0_6 a0_7 a0_8 = some r) :
    Calls Tryd.prog 46 #[.agg #[.int .i64 a0_0, .string a0_1, .bool a0_2, .string a0_3, .slice A0_4 l0_4.length c0_4, .int .i64 a0_5, .int .i64 a0_6, .int .i64 a0_7, .int .i64 a0_8]] w fun e w' => e = .returned (.bool r) ∧ Below w.heap.size w w' := by
  have hu87 := Tryd.underlying87
  have hu84 := Tryd.underlying84
  have HR0_4 := Aside0.mk hr0_4
  have HC0_4 := Aside0.mk hc0_4
  clear hr0_4 hc0_4
  have HB := Aside0.mk (Below.refl w.heap.size w)
  have H : ((spec_l4KeyOk.f k a0_0 a0_1).bind fun t303 => (if t303 = true then (if a0_7 ≥ 1 then (if a0_7 ≤ 16 then (spec_l4SlotOk.j0 k (decide (a0_8 ≥ 1)) a0_0 a0_1 a0_2 a0_3 l0_4 a0_5 a0_6 a0_7 a0_8) else (spec_l4SlotOk.j0 k false a0_0 a0_1 a0_2 a0_3 l0_4 a0_5 a0_6 a0_7 a0_8)) else (spec_l4SlotOk.j0 k false a0_0 a0_1 a0_2 a0_3 l0_4 a0_5 a0_6 a0_7 a0_8)) else (some false))) = some r := h
  clear h
  replace H := Option.bind_eq_some_iff.mp H
  obtain ⟨t303, A20, H⟩ := H
  replace H : (if t303 = true then (if a0_7 ≥ 1 then (if a0_7 ≤ 16 then (spec_l4SlotOk.j0 k (decide (a0_8 ≥ 1)) a0_0 a0_1 a0_2 a0_3 l0_4 a0_5 a0_6 a0_7 a0_8) else (spec_l4SlotOk.j0 k false a0_0 a0_1 a0_2 a0_3 l0_4 a0_5 a0_6 a0_7 a0_8)) else (spec_l4SlotOk.j0 k false a0_0 a0_1 a0_2 a0_3 l0_4 a0_5 a0_6 a0_7 a0_8)) else (some false)) = some r := H
  have A2 := Aside0.mk A20
  clear A20
  by_cases c3 : t303 = true
  · subst c3
    have H1 : (if a0_7 ≥ 1 then (if a0_7 ≤ 16 then (spec_l4SlotOk.j0 k (decide (a0_8 ≥ 1)) a0_0 a0_1 a0_2 a0_3 l0_4 a0_5 a0_6 a0_7 a0_8) else (spec_l4SlotOk.j0 k false a0_0 a0_1 a0_2 a0_3 l0_4 a0_5 a0_6 a0_7 a0_8)) else (spec_l4SlotOk.j0 k false a0_0 a0_1 a0_2 a0_3 l0_4 a0_5 a0_6 a0_7 a0_8)) = some r := by rw [if_pos rfl] at H; exact H
    clear H
    have H := H1
    clear H1
    have HC4 := Aside0.mk H
    clear H
    go_enter Tryd.func46, Tryd.ntmps46
    go_upto_region 3 with (first | ((with_reducible refine gate_dst (N := 1) rfl ?_); (try (refine gate_guard (by rfl) ?_; dsimp only)); refine box_event ?hg (N := 1) ?hd (cs := #[.int .i64 a0_0, .string a0_1, .bool a0_2, .string a0_3, .slice A0_4 l0_4.length c0_4, .int .i64 a0_5, .int .i64 a0_6, .int .i64 a0_7, .int .i64 a0_8]) (t := 87) ?hr ?_; (case hd => rfl); (case hg => rfl); (case hr => first | (go_simp; done) | (go_simp; rfl)); intro gb302 hg w5 hbox hb; have n0_ := Aside0.mk (below_step (by repeat (first | (with_reducible first | exact HB.out | apply below_alloc | apply pw_below_drewN | apply below_drew1) | exact HB.out)) hb); have n1_ := Aside0.mk (hbox); have n2_ := Aside0.mk ((by rw [hg]; exact (below_size (by repeat (first | (with_reducible first | exact HB.out | apply below_alloc | apply pw_below_drewN | apply below_drew1) | exact HB.out))) : w.heap.size ≤ gb302)); have n3_ := Aside0.mk ((by rw [hg]; exact (below_size (by repeat (first | (with_reducible first | exact HB.out | apply below_alloc | apply pw_below_drewN | apply below_drew1) | exact HB.out))) : w.heap.size ≤ gb302)); clear HB; have HB := n0_; have BK302 := n1_; have GW302 := n2_; have GE302 := n3_; clear n0_ n1_ n2_ n3_; clear hb hbox hg; have hcz6_0 : w5.cell? ⟨gb302, 0, none⟩ = some (.int .i64 a0_0) := (blk_cell BK302.out 0).trans rfl; have hcz6_1 : w5.cell? ⟨gb302, 1, none⟩ = some (.string a0_1) := (blk_cell BK302.out 1).trans rfl; have hcz6_2 : w5.cell? ⟨gb302, 2, none⟩ = some (.bool a0_2) := (blk_cell BK302.out 2).trans rfl; have hcz6_3 : w5.cell? ⟨gb302, 3, none⟩ = some (.string a0_3) := (blk_cell BK302.out 3).trans rfl; have hcz6_4 : w5.cell? ⟨gb302, 4, none⟩ = some (.slice A0_4 l0_4.length c0_4) := (blk_cell BK302.out 4).trans rfl; have hcz6_5 : w5.cell? ⟨gb302, 5, none⟩ = some (.int .i64 a0_5) := (blk_cell BK302.out 5).trans rfl; have hcz6_6 : w5.cell? ⟨gb302, 6, none⟩ = some (.int .i64 a0_6) := (blk_cell BK302.out 6).trans rfl; have hcz6_7 : w5.cell? ⟨gb302, 7, none⟩ = some (.int .i64 a0_7) := (blk_cell BK302.out 7).trans rfl; have hcz6_8 : w5.cell? ⟨gb302, 8, none⟩ = some (.int .i64 a0_8) := (blk_cell BK302.out 8).trans rfl; have hfz6_0 := blk_frozen BK302.out 0; have hfz6_1 := blk_frozen BK302.out 1; have hfz6_2 := blk_frozen BK302.out 2; have hfz6_3 := blk_frozen BK302.out 3; have hfz6_4 := blk_frozen BK302.out 4; have hfz6_5 := blk_frozen BK302.out 5; have hfz6_6 := blk_frozen BK302.out 6; have hfz6_7 := blk_frozen BK302.out 7; have hfz6_8 := blk_frozen BK302.out 8) | ((with_reducible refine gate_callee (f := 61) rfl ?_); refine goesL_ (some 7) rfl rfl Tryd.func61 (by kernel_rfl) rfl #[.agg #[.int .i64 a0_0, .string a0_1]] rfl (by (try simp only [List.map_toArray, List.map_cons, List.map_nil]); first | done | rfl | (simp only [List.length_drop, List.length_take]; rfl)) ?_; (with_reducible refine (spec_l4KeyOk.calls k a0_0 a0_1 true _ A2.out).mono ?_); rintro e w7 ⟨rfl, hb⟩; refine ⟨_, rfl, ?_⟩; have n0_ := Aside0.mk (blk_below (g := gb302) (o := .cells #[.int .i64 a0_0, .string a0_1, .bool a0_2, .string a0_3, .slice A0_4 l0_4.length c0_4, .int .i64 a0_5, .int .i64 a0_6, .int .i64 a0_7, .int .i64 a0_8] 87 (0, 0)) (by (with_reducible repeat (first | refine blk_drewN ?_ _ | refine blk_drew ?_ | refine blk_alloc ?_ _)); exact BK302.out) hb); have n1_ := Aside0.mk (below_step (by repeat (first | (with_reducible first | exact HB.out | apply below_alloc | apply pw_below_drewN | apply below_drew1 | refine below_set ?_ GE302.out) | exact HB.out)) hb); clear BK302; clear HB; have BK302 := n0_; have HB := n1_; clear n0_ n1_; (try clear hb); (try clear hb2); (try clear hk); (try clear hi)))
    (try simp only [Act.put, List.setIfInBounds_toArray, List.set_cons_zero, List.set_cons_succ])
    go_cut [3] (fun v3 wc => ∃ (kq : Nat) (x3_3 : Bool), v3 = .bool x3_3 ∧ Aside0 (spec_l4SlotOk.j0 kq x3_3 a0_0 a0_1 a0_2 a0_3 l0_4 a0_5 a0_6 a0_7 a0_8 = some r) ∧ Aside0 (kq ≤ k) ∧ Aside0 (wc.heap[gb302]? = some (.cells #[.int .i64 a0_0, .string a0_1, .bool a0_2, .string a0_3, (.slice A0_4 l0_4.length c0_4), .int .i64 a0_5, .int .i64 a0_6, .int .i64 a0_7, .int .i64 a0_8] 87 (0, 0))) ∧ Aside0 (Below w.heap.size w wc))
    case first =>
      have H := HC4.out
      clear HC4
      by_cases c8 : a0_7 ≥ 1
      · rw [if_pos c8] at H
        have c8b0 : decide (1 ≤ a0_7) = true := decide_eq_true c8
        clear c8
        (first | rw [c8b0] | (simp only [i64_w, i32_w]; rw [c8b0]) | skip)
        by_cases c9 : a0_7 ≤ 16
        · rw [if_pos c9] at H
          have c9b0 : decide (a0_7 ≤ 16) = true := decide_eq_true c9
          clear c9
          have H' := Aside0.mk H
          clear H
          have hcz10_0 : w7.cell? ⟨gb302, 0, none⟩ = some (.int .i64 a0_0) := (blk_cell BK302.out 0).trans rfl
          have hcz10_1 : w7.cell? ⟨gb302, 1, none⟩ = some (.string a0_1) := (blk_cell BK302.out 1).trans rfl
          have hcz10_2 : w7.cell? ⟨gb302, 2, none⟩ = some (.bool a0_2) := (blk_cell BK302.out 2).trans rfl
          have hcz10_3 : w7.cell? ⟨gb302, 3, none⟩ = some (.string a0_3) := (blk_cell BK302.out 3).trans rfl
          have hcz10_4 : w7.cell? ⟨gb302, 4, none⟩ = some (.slice A0_4 l0_4.length c0_4) := (blk_cell BK302.out 4).trans rfl
          have hcz10_5 : w7.cell? ⟨gb302, 5, none⟩ = some (.int .i64 a0_5) := (blk_cell BK302.out 5).trans rfl
          have hcz10_6 : w7.cell? ⟨gb302, 6, none⟩ = some (.int .i64 a0_6) := (blk_cell BK302.out 6).trans rfl
          have hcz10_7 : w7.cell? ⟨gb302, 7, none⟩ = some (.int .i64 a0_7) := (blk_cell BK302.out 7).trans rfl
          have hcz10_8 : w7.cell? ⟨gb302, 8, none⟩ = some (.int .i64 a0_8) := (blk_cell BK302.out 8).trans rfl
          have hfz10_0 := blk_frozen BK302.out 0
          have hfz10_1 := blk_frozen BK302.out 1
          have hfz10_2 := blk_frozen BK302.out 2
          have hfz10_3 := blk_frozen BK302.out 3
          have hfz10_4 := blk_frozen BK302.out 4
          have hfz10_5 := blk_frozen BK302.out 5
          have hfz10_6 := blk_frozen BK302.out 6
          have hfz10_7 := blk_frozen BK302.out 7
          have hfz10_8 := blk_frozen BK302.out 8
          go_wp2
          go_meet
          case rel => exact ⟨_, (decide (a0_8 ≥ 1)), (by first | rfl | (simp; done) | (simp [*]; done)), H', ⟨by first | omega | exact Nat.le_refl _⟩, ⟨by (with_reducible repeat (first | refine blk_drewN ?_ _ | refine blk_drew ?_ | refine blk_alloc ?_ _)); exact BK302.out⟩, ⟨by repeat (first | (with_reducible first | exact HB.out | apply below_alloc | apply pw_below_drewN | apply below_drew1 | refine below_set ?_ GE302.out) | exact HB.out)⟩⟩
        · rw [if_neg c9] at H
          have c9b0 : decide (a0_7 ≤ 16) = false := decide_eq_false c9
          clear c9
          have H' := Aside0.mk H
          clear H
          have hcz11_0 : w7.cell? ⟨gb302, 0, none⟩ = some (.int .i64 a0_0) := (blk_cell BK302.out 0).trans rfl
          have hcz11_1 : w7.cell? ⟨gb302, 1, none⟩ = some (.string a0_1) := (blk_cell BK302.out 1).trans rfl
          have hcz11_2 : w7.cell? ⟨gb302, 2, none⟩ = some (.bool a0_2) := (blk_cell BK302.out 2).trans rfl
          have hcz11_3 : w7.cell? ⟨gb302, 3, none⟩ = some (.string a0_3) := (blk_cell BK302.out 3).trans rfl
          have hcz11_4 : w7.cell? ⟨gb302, 4, none⟩ = some (.slice A0_4 l0_4.length c0_4) := (blk_cell BK302.out 4).trans rfl
          have hcz11_5 : w7.cell? ⟨gb302, 5, none⟩ = some (.int .i64 a0_5) := (blk_cell BK302.out 5).trans rfl
          have hcz11_6 : w7.cell? ⟨gb302, 6, none⟩ = some (.int .i64 a0_6) := (blk_cell BK302.out 6).trans rfl
          have hcz11_7 : w7.cell? ⟨gb302, 7, none⟩ = some (.int .i64 a0_7) := (blk_cell BK302.out 7).trans rfl
          have hcz11_8 : w7.cell? ⟨gb302, 8, none⟩ = some (.int .i64 a0_8) := (blk_cell BK302.out 8).trans rfl
          have hfz11_0 := blk_frozen BK302.out 0
          have hfz11_1 := blk_frozen BK302.out 1
          have hfz11_2 := blk_frozen BK302.out 2
          have hfz11_3 := blk_frozen BK302.out 3
          have hfz11_4 := blk_frozen BK302.out 4
          have hfz11_5 := blk_frozen BK302.out 5
          have hfz11_6 := blk_frozen BK302.out 6
          have hfz11_7 := blk_frozen BK302.out 7
          have hfz11_8 := blk_frozen BK302.out 8
          go_wp2
          go_meet
          case rel => exact ⟨_, (false), (by first | rfl | (simp; done) | (simp [*]; done)), H', ⟨by first | omega | exact Nat.le_refl _⟩, ⟨by (with_reducible repeat (first | refine blk_drewN ?_ _ | refine blk_drew ?_ | refine blk_alloc ?_ _)); exact BK302.out⟩, ⟨by repeat (first | (with_reducible first | exact HB.out | apply below_alloc | apply pw_below_drewN | apply below_drew1 | refine below_set ?_ GE302.out) | exact HB.out)⟩⟩
      · rw [if_neg c8] at H
        have c8b0 : decide (1 ≤ a0_7) = false := decide_eq_false c8
        clear c8
        (first | rw [c8b0] | (simp only [i64_w, i32_w]; rw [c8b0]) | skip)
        have H' := Aside0.mk H
        clear H
        have hcz12_0 : w7.cell? ⟨gb302, 0, none⟩ = some (.int .i64 a0_0) := (blk_cell BK302.out 0).trans rfl
        have hcz12_1 : w7.cell? ⟨gb302, 1, none⟩ = some (.string a0_1) := (blk_cell BK302.out 1).trans rfl
        have hcz12_2 : w7.cell? ⟨gb302, 2, none⟩ = some (.bool a0_2) := (blk_cell BK302.out 2).trans rfl
        have hcz12_3 : w7.cell? ⟨gb302, 3, none⟩ = some (.string a0_3) := (blk_cell BK302.out 3).trans rfl
        have hcz12_4 : w7.cell? ⟨gb302, 4, none⟩ = some (.slice A0_4 l0_4.length c0_4) := (blk_cell BK302.out 4).trans rfl
        have hcz12_5 : w7.cell? ⟨gb302, 5, none⟩ = some (.int .i64 a0_5) := (blk_cell BK302.out 5).trans rfl
        have hcz12_6 : w7.cell? ⟨gb302, 6, none⟩ = some (.int .i64 a0_6) := (blk_cell BK302.out 6).trans rfl
        have hcz12_7 : w7.cell? ⟨gb302, 7, none⟩ = some (.int .i64 a0_7) := (blk_cell BK302.out 7).trans rfl
        have hcz12_8 : w7.cell? ⟨gb302, 8, none⟩ = some (.int .i64 a0_8) := (blk_cell BK302.out 8).trans rfl
        have hfz12_0 := blk_frozen BK302.out 0
        have hfz12_1 := blk_frozen BK302.out 1
        have hfz12_2 := blk_frozen BK302.out 2
        have hfz12_3 := blk_frozen BK302.out 3
        have hfz12_4 := blk_frozen BK302.out 4
        have hfz12_5 := blk_frozen BK302.out 5
        have hfz12_6 := blk_frozen BK302.out 6
        have hfz12_7 := blk_frozen BK302.out 7
        have hfz12_8 := blk_frozen BK302.out 8
        go_wp2
        go_meet
        case rel => exact ⟨_, (false), (by first | rfl | (simp; done) | (simp [*]; done)), H', ⟨by first | omega | exact Nat.le_refl _⟩, ⟨by (with_reducible repeat (first | refine blk_drewN ?_ _ | refine blk_drew ?_ | refine blk_alloc ?_ _)); exact BK302.out⟩, ⟨by repeat (first | (with_reducible first | exact HB.out | apply below_alloc | apply pw_below_drewN | apply below_drew1 | refine below_set ?_ GE302.out) | exact HB.out)⟩⟩
    case rest =>
      clear HC4
      try clear p2
      try clear c3
      try clear c4
      try clear c6
      try clear c8
      try clear c8b0
      try clear c9
      try clear c9b0
      try clear hcz10_0
      try clear hcz10_1
      try clear hcz10_2
      try clear hcz10_3
      try clear hcz10_4
      try clear hcz10_5
      try clear hcz10_6
      try clear hcz10_7
      try clear hcz10_8
      try clear hcz11_0
      try clear hcz11_1
      try clear hcz11_2
      try clear hcz11_3
      try clear hcz11_4
      try clear hcz11_5
      try clear hcz11_6
      try clear hcz11_7
      try clear hcz11_8
      try clear hcz12_0
      try clear hcz12_1
      try clear hcz12_2
      try clear hcz12_3
      try clear hcz12_4
      try clear hcz12_5
      try clear hcz12_6
      try clear hcz12_7
      try clear hcz12_8
      try clear hcz6_0
      try clear hcz6_1
      try clear hcz6_2
      try clear hcz6_3
      try clear hcz6_4
      try clear hcz6_5
      try clear hcz6_6
      try clear hcz6_7
      try clear hcz6_8
      try clear hfz10_0
      try clear hfz10_1
      try clear hfz10_2
      try clear hfz10_3
      try clear hfz10_4
      try clear hfz10_5
      try clear hfz10_6
      try clear hfz10_7
      try clear hfz10_8
      try clear hfz11_0
      try clear hfz11_1
      try clear hfz11_2
      try clear hfz11_3
      try clear hfz11_4
      try clear hfz11_5
      try clear hfz11_6
      try clear hfz11_7
      try clear hfz11_8
      try clear hfz12_0
      try clear hfz12_1
      try clear hfz12_2
      try clear hfz12_3
      try clear hfz12_4
      try clear hfz12_5
      try clear hfz12_6
      try clear hfz12_7
      try clear hfz12_8
      try clear hfz6_0
      try clear hfz6_1
      try clear hfz6_2
      try clear hfz6_3
      try clear hfz6_4
      try clear hfz6_5
      try clear hfz6_6
      try clear hfz6_7
      try clear hfz6_8
      obtain ⟨kq, x3_3, rfl, HA, HJ3, BK302, HB⟩ := hcut
      cases kq with
      | zero => exact absurd HA.out (by simp [spec_l4SlotOk.j0])
      | succ kj3 =>
        have H := HA.out
        clear HA
        simp only [spec_l4SlotOk.j0] at H
        have HC13 := Aside0.mk H
        clear H
        go_upto_region 4 with (fail)
        go_cut [4] (fun v4 wc => ∃ (kq : Nat) (x4_12 : Bool), v4 = .bool x4_12 ∧ Aside0 (spec_l4SlotOk.j1 kq x3_3 x4_12 a0_0 a0_1 a0_2 a0_3 l0_4 a0_5 a0_6 a0_7 a0_8 = some r) ∧ Aside0 (kq ≤ kj3) ∧ Aside0 (wc.heap[gb302]? = some (.cells #[.int .i64 a0_0, .string a0_1, .bool a0_2, .string a0_3, (.slice A0_4 l0_4.length c0_4), .int .i64 a0_5, .int .i64 a0_6, .int .i64 a0_7, .int .i64 a0_8] 87 (0, 0))) ∧ Aside0 (Below w.heap.size w wc))
        case first =>
          have H := HC13.out
          clear HC13
          by_cases c14 : a0_7 = 0
          · rw [if_pos c14] at H
            have c14b0 : (a0_7 == 0) = true := beq_iff_eq.mpr c14
            have c14b1 : (a0_7 != 0) = false := bne_eq_false_iff_eq.mpr c14
            clear c14
            (first | rw [c14b0] | (simp only [i64_w, i32_w]; rw [c14b0]) | skip)
            have H' := Aside0.mk H
            clear H
            have hcz15_0 : wc.cell? ⟨gb302, 0, none⟩ = some (.int .i64 a0_0) := (blk_cell BK302.out 0).trans rfl
            have hcz15_1 : wc.cell? ⟨gb302, 1, none⟩ = some (.string a0_1) := (blk_cell BK302.out 1).trans rfl
            have hcz15_2 : wc.cell? ⟨gb302, 2, none⟩ = some (.bool a0_2) := (blk_cell BK302.out 2).trans rfl
            have hcz15_3 : wc.cell? ⟨gb302, 3, none⟩ = some (.string a0_3) := (blk_cell BK302.out 3).trans rfl
            have hcz15_4 : wc.cell? ⟨gb302, 4, none⟩ = some (.slice A0_4 l0_4.length c0_4) := (blk_cell BK302.out 4).trans rfl
            have hcz15_5 : wc.cell? ⟨gb302, 5, none⟩ = some (.int .i64 a0_5) := (blk_cell BK302.out 5).trans rfl
            have hcz15_6 : wc.cell? ⟨gb302, 6, none⟩ = some (.int .i64 a0_6) := (blk_cell BK302.out 6).trans rfl
            have hcz15_7 : wc.cell? ⟨gb302, 7, none⟩ = some (.int .i64 a0_7) := (blk_cell BK302.out 7).trans rfl
            have hcz15_8 : wc.cell? ⟨gb302, 8, none⟩ = some (.int .i64 a0_8) := (blk_cell BK302.out 8).trans rfl
            have hfz15_0 := blk_frozen BK302.out 0
            have hfz15_1 := blk_frozen BK302.out 1
            have hfz15_2 := blk_frozen BK302.out 2
            have hfz15_3 := blk_frozen BK302.out 3
            have hfz15_4 := blk_frozen BK302.out 4
            have hfz15_5 := blk_frozen BK302.out 5
            have hfz15_6 := blk_frozen BK302.out 6
            have hfz15_7 := blk_frozen BK302.out 7
            have hfz15_8 := blk_frozen BK302.out 8
            go_wp2
            go_meet
            case rel => exact ⟨_, ((a0_8 == 0)), (by first | rfl | (simp; done) | (simp [*]; done)), H', ⟨by have := HJ3.out; first | omega | exact Nat.le_refl _⟩, ⟨by (with_reducible repeat (first | refine blk_drewN ?_ _ | refine blk_drew ?_ | refine blk_alloc ?_ _)); exact BK302.out⟩, ⟨by repeat (first | (with_reducible first | exact HB.out | apply below_alloc | apply pw_below_drewN | apply below_drew1 | refine below_set ?_ GE302.out) | exact HB.out)⟩⟩
          · rw [if_neg c14] at H
            have c14b0 : (a0_7 == 0) = false := beq_eq_false_iff_ne.mpr c14
            have c14b1 : (a0_7 != 0) = true := bne_iff_ne.mpr c14
            (first | rw [c14b0] | (simp only [i64_w, i32_w]; rw [c14b0]) | skip)
            have H' := Aside0.mk H
            clear H
            have hcz16_0 : wc.cell? ⟨gb302, 0, none⟩ = some (.int .i64 a0_0) := (blk_cell BK302.out 0).trans rfl
            have hcz16_1 : wc.cell? ⟨gb302, 1, none⟩ = some (.string a0_1) := (blk_cell BK302.out 1).trans rfl
            have hcz16_2 : wc.cell? ⟨gb302, 2, none⟩ = some (.bool a0_2) := (blk_cell BK302.out 2).trans rfl
            have hcz16_3 : wc.cell? ⟨gb302, 3, none⟩ = some (.string a0_3) := (blk_cell BK302.out 3).trans rfl
            have hcz16_4 : wc.cell? ⟨gb302, 4, none⟩ = some (.slice A0_4 l0_4.length c0_4) := (blk_cell BK302.out 4).trans rfl
            have hcz16_5 : wc.cell? ⟨gb302, 5, none⟩ = some (.int .i64 a0_5) := (blk_cell BK302.out 5).trans rfl
            have hcz16_6 : wc.cell? ⟨gb302, 6, none⟩ = some (.int .i64 a0_6) := (blk_cell BK302.out 6).trans rfl
            have hcz16_7 : wc.cell? ⟨gb302, 7, none⟩ = some (.int .i64 a0_7) := (blk_cell BK302.out 7).trans rfl
            have hcz16_8 : wc.cell? ⟨gb302, 8, none⟩ = some (.int .i64 a0_8) := (blk_cell BK302.out 8).trans rfl
            have hfz16_0 := blk_frozen BK302.out 0
            have hfz16_1 := blk_frozen BK302.out 1
            have hfz16_2 := blk_frozen BK302.out 2
            have hfz16_3 := blk_frozen BK302.out 3
            have hfz16_4 := blk_frozen BK302.out 4
            have hfz16_5 := blk_frozen BK302.out 5
            have hfz16_6 := blk_frozen BK302.out 6
            have hfz16_7 := blk_frozen BK302.out 7
            have hfz16_8 := blk_frozen BK302.out 8
            go_wp2
            go_meet
            case rel => exact ⟨_, (false), (by first | rfl | (simp; done) | (simp [*]; done)), H', ⟨by have := HJ3.out; first | omega | exact Nat.le_refl _⟩, ⟨by (with_reducible repeat (first | refine blk_drewN ?_ _ | refine blk_drew ?_ | refine blk_alloc ?_ _)); exact BK302.out⟩, ⟨by repeat (first | (with_reducible first | exact HB.out | apply below_alloc | apply pw_below_drewN | apply below_drew1 | refine below_set ?_ GE302.out) | exact HB.out)⟩⟩
        case rest =>
          clear HC13
          try clear c1
          try clear p2
          try clear c3
          try clear c4
          try clear c6
          try clear c8
          try clear c8b0
          try clear c9
          try clear c9b0
          try clear c14
          try clear c14b0
          try clear c14b1
          try clear hcz10_0
          try clear hcz10_1
          try clear hcz10_2
          try clear hcz10_3
          try clear hcz10_4
          try clear hcz10_5
          try clear hcz10_6
          try clear hcz10_7
          try clear hcz10_8
          try clear hcz11_0
          try clear hcz11_1
          try clear hcz11_2
          try clear hcz11_3
          try clear hcz11_4
          try clear hcz11_5
          try clear hcz11_6
          try clear hcz11_7
          try clear hcz11_8
          try clear hcz12_0
          try clear hcz12_1
          try clear hcz12_2
          try clear hcz12_3
          try clear hcz12_4
          try clear hcz12_5
          try clear hcz12_6
          try clear hcz12_7
          try clear hcz12_8
          try clear hcz15_0
          try clear hcz15_1
          try clear hcz15_2
          try clear hcz15_3
          try clear hcz15_4
          try clear hcz15_5
          try clear hcz15_6
          try clear hcz15_7
          try clear hcz15_8
          try clear hcz16_0
          try clear hcz16_1
          try clear hcz16_2
          try clear hcz16_3
          try clear hcz16_4
          try clear hcz16_5
          try clear hcz16_6
          try clear hcz16_7
          try clear hcz16_8
          try clear hcz6_0
          try clear hcz6_1
          try clear hcz6_2
          try clear hcz6_3
          try clear hcz6_4
          try clear hcz6_5
          try clear hcz6_6
          try clear hcz6_7
          try clear hcz6_8
          try clear hfz10_0
          try clear hfz10_1
          try clear hfz10_2
          try clear hfz10_3
          try clear hfz10_4
          try clear hfz10_5
          try clear hfz10_6
          try clear hfz10_7
          try clear hfz10_8
          try clear hfz11_0
          try clear hfz11_1
          try clear hfz11_2
          try clear hfz11_3
          try clear hfz11_4
          try clear hfz11_5
          try clear hfz11_6
          try clear hfz11_7
          try clear hfz11_8
          try clear hfz12_0
          try clear hfz12_1
          try clear hfz12_2
          try clear hfz12_3
          try clear hfz12_4
          try clear hfz12_5
          try clear hfz12_6
          try clear hfz12_7
          try clear hfz12_8
          try clear hfz15_0
          try clear hfz15_1
          try clear hfz15_2
          try clear hfz15_3
          try clear hfz15_4
          try clear hfz15_5
          try clear hfz15_6
          try clear hfz15_7
          try clear hfz15_8
          try clear hfz16_0
          try clear hfz16_1
          try clear hfz16_2
          try clear hfz16_3
          try clear hfz16_4
          try clear hfz16_5
          try clear hfz16_6
          try clear hfz16_7
          try clear hfz16_8
          try clear hfz6_0
          try clear hfz6_1
          try clear hfz6_2
          try clear hfz6_3
          try clear hfz6_4
          try clear hfz6_5
          try clear hfz6_6
          try clear hfz6_7
          try clear hfz6_8
          try clear p2
          obtain ⟨kq, x4_12, rfl, HA, HJ12, BK302, HB⟩ := hcut
          cases kq with
          | zero => exact absurd HA.out (by simp [spec_l4SlotOk.j1])
          | succ kj12 =>
            have H := HA.out
            clear HA
            simp only [spec_l4SlotOk.j1] at H
            have HC17 := Aside0.mk H
            clear H
            go_upto_region 5 with (fail)
            go_cut [35] (fun v35 wc => ∃ (kq : Nat) (x35_16 : Bool), v35 = .bool x35_16 ∧ Aside0 (spec_l4SlotOk.j2 kq x3_3 x35_16 a0_0 a0_1 a0_2 a0_3 l0_4 a0_5 a0_6 a0_7 a0_8 = some r) ∧ Aside0 (kq ≤ kj12) ∧ Aside0 (wc.heap[gb302]? = some (.cells #[.int .i64 a0_0, .string a0_1, .bool a0_2, .string a0_3, (.slice A0_4 l0_4.length c0_4), .int .i64 a0_5, .int .i64 a0_6, .int .i64 a0_7, .int .i64 a0_8] 87 (0, 0))) ∧ Aside0 (Below w.heap.size w wc))
            case first =>
              have H := HC17.out
              clear HC17
              by_cases c18 : x3_3 = true
              · subst c18
                have H1 : (spec_l4SlotOk.j2 kj12 true false a0_0 a0_1 a0_2 a0_3 l0_4 a0_5 a0_6 a0_7 a0_8) = some r := by rw [if_pos rfl] at H; exact H
                clear H
                have H := H1
                clear H1
                have H' := Aside0.mk H
                clear H
                go_wp2
                go_meet
                case rel => exact ⟨_, (false), (by first | rfl | (simp; done) | (simp [*]; done)), H', ⟨by have := HJ3.out; have := HJ12.out; first | omega | exact Nat.le_refl _⟩, ⟨by (with_reducible repeat (first | refine blk_drewN ?_ _ | refine blk_drew ?_ | refine blk_alloc ?_ _)); exact BK302.out⟩, ⟨by repeat (first | (with_reducible first | exact HB.out | apply below_alloc | apply pw_below_drewN | apply below_drew1 | refine below_set ?_ GE302.out) | exact HB.out)⟩⟩
              · replace c18 := Bool.eq_false_iff.mpr c18
                subst c18
                have H1 : (spec_l4SlotOk.j2 kj12 false (!x4_12) a0_0 a0_1 a0_2 a0_3 l0_4 a0_5 a0_6 a0_7 a0_8) = some r := by rw [if_neg (show ¬ (false = true) by decide)] at H; exact H
                clear H
                have H := H1
                clear H1
                have H' := Aside0.mk H
                clear H
                go_wp2
                go_meet
                case rel => exact ⟨_, (!x4_12), (by first | rfl | (simp; done) | (simp [*]; done)), H', ⟨by have := HJ3.out; have := HJ12.out; first | omega | exact Nat.le_refl _⟩, ⟨by (with_reducible repeat (first | refine blk_drewN ?_ _ | refine blk_drew ?_ | refine blk_alloc ?_ _)); exact BK302.out⟩, ⟨by repeat (first | (with_reducible first | exact HB.out | apply below_alloc | apply pw_below_drewN | apply below_drew1 | refine below_set ?_ GE302.out) | exact HB.out)⟩⟩
            case rest =>
              clear HC17
              try clear c1
              try clear p2
              try clear c3
              try clear c4
              try clear c6
              try clear c8
              try clear c8b0
              try clear c9
              try clear c9b0
              try clear c14
              try clear c14b0
              try clear c14b1
              try clear c18
              try clear hcz10_0
              try clear hcz10_1
              try clear hcz10_2
              try clear hcz10_3
              try clear hcz10_4
              try clear hcz10_5
              try clear hcz10_6
              try clear hcz10_7
              try clear hcz10_8
              try clear hcz11_0
              try clear hcz11_1
              try clear hcz11_2
              try clear hcz11_3
              try clear hcz11_4
              try clear hcz11_5
              try clear hcz11_6
              try clear hcz11_7
              try clear hcz11_8
              try clear hcz12_0
              try clear hcz12_1
              try clear hcz12_2
              try clear hcz12_3
              try clear hcz12_4
              try clear hcz12_5
              try clear hcz12_6
              try clear hcz12_7
              try clear hcz12_8
              try clear hcz15_0
              try clear hcz15_1
              try clear hcz15_2
              try clear hcz15_3
              try clear hcz15_4
              try clear hcz15_5
              try clear hcz15_6
              try clear hcz15_7
              try clear hcz15_8
              try clear hcz16_0
              try clear hcz16_1
              try clear hcz16_2
              try clear hcz16_3
              try clear hcz16_4
              try clear hcz16_5
              try clear hcz16_6
              try clear hcz16_7
              try clear hcz16_8
              try clear hcz6_0
              try clear hcz6_1
              try clear hcz6_2
              try clear hcz6_3
              try clear hcz6_4
              try clear hcz6_5
              try clear hcz6_6
              try clear hcz6_7
              try clear hcz6_8
              try clear hfz10_0
              try clear hfz10_1
              try clear hfz10_2
              try clear hfz10_3
              try clear hfz10_4
              try clear hfz10_5
              try clear hfz10_6
              try clear hfz10_7
              try clear hfz10_8
              try clear hfz11_0
              try clear hfz11_1
              try clear hfz11_2
              try clear hfz11_3
              try clear hfz11_4
              try clear hfz11_5
              try clear hfz11_6
              try clear hfz11_7
              try clear hfz11_8
              try clear hfz12_0
              try clear hfz12_1
              try clear hfz12_2
              try clear hfz12_3
              try clear hfz12_4
              try clear hfz12_5
              try clear hfz12_6
              try clear hfz12_7
              try clear hfz12_8
              try clear hfz15_0
              try clear hfz15_1
              try clear hfz15_2
              try clear hfz15_3
              try clear hfz15_4
              try clear hfz15_5
              try clear hfz15_6
              try clear hfz15_7
              try clear hfz15_8
              try clear hfz16_0
              try clear hfz16_1
              try clear hfz16_2
              try clear hfz16_3
              try clear hfz16_4
              try clear hfz16_5
              try clear hfz16_6
              try clear hfz16_7
              try clear hfz16_8
              try clear hfz6_0
              try clear hfz6_1
              try clear hfz6_2
              try clear hfz6_3
              try clear hfz6_4
              try clear hfz6_5
              try clear hfz6_6
              try clear hfz6_7
              try clear hfz6_8
              try clear p2
              obtain ⟨kq, x35_16, rfl, HA, HJ16, BK302, HB⟩ := hcut
              cases kq with
              | zero => exact absurd HA.out (by simp [spec_l4SlotOk.j2])
              | succ kj16 =>
                have H := HA.out
                clear HA
                simp only [spec_l4SlotOk.j2] at H
                by_cases c19 : x35_16 = true
                · subst c19
                  have H1 : (some false) = some r := by rw [if_pos rfl] at H; exact H
                  clear H
                  have H := H1
                  clear H1
                  obtain rfl := Option.some.inj H
                  go_wp2
                  go_ret
                  exact ⟨by first | rfl | (simp [errW_none, errW_some] <;> rfl) | (simp [*, errW_none, errW_some] <;> rfl), by repeat (first | (with_reducible first | exact HB.out | apply below_alloc | apply pw_below_drewN | apply below_drew1 | refine below_set ?_ GE302.out) | exact HB.out)⟩
                · replace c19 := Bool.eq_false_iff.mpr c19
                  subst c19
                  have H1 : (if a0_2 = true then (if a0_6 ≥ 1 then (if a0_6 ≤ a0_5 then ((spec_l4DepsOk.f kj16 l0_4).bind fun t304 => (some t304)) else (some false)) else (some false)) else (if x3_3 = true then (if (a0_3.size : Int) = 0 then (if (l0_4.length : Int) = 0 then (if a0_5 = 0 then (some (a0_6 == 0)) else (some false)) else (some false)) else (some false)) else (some false))) = some r := by rw [if_neg (show ¬ (false = true) by decide)] at H; exact H
                  clear H
                  have H := H1
                  clear H1
                  by_cases c20 : a0_2 = true
                  · subst c20
                    have H1 : (if a0_6 ≥ 1 then (if a0_6 ≤ a0_5 then ((spec_l4DepsOk.f kj16 l0_4).bind fun t304 => (some t304)) else (some false)) else (some false)) = some r := by rw [if_pos rfl] at H; exact H
                    clear H
                    have H := H1
                    clear H1
                    by_cases c21 : a0_6 ≥ 1
                    · rw [if_pos c21] at H
                      have c21b0 : decide (1 ≤ a0_6) = true := decide_eq_true c21
                      clear c21
                      by_cases c22 : a0_6 ≤ a0_5
                      · rw [if_pos c22] at H
                        have c22b0 : decide (a0_6 ≤ a0_5) = true := decide_eq_true c22
                        clear c22
                        replace H := Option.bind_eq_some_iff.mp H
                        obtain ⟨t304, A230, H⟩ := H
                        replace H : (some t304) = some r := H
                        have A23 := Aside0.mk A230
                        clear A230
                        obtain rfl := Option.some.inj H
                        have hcz24_0 : wc.cell? ⟨gb302, 0, none⟩ = some (.int .i64 a0_0) := (blk_cell BK302.out 0).trans rfl
                        have hcz24_1 : wc.cell? ⟨gb302, 1, none⟩ = some (.string a0_1) := (blk_cell BK302.out 1).trans rfl
                        have hcz24_2 : wc.cell? ⟨gb302, 2, none⟩ = some (.bool true) := (blk_cell BK302.out 2).trans rfl
                        have hcz24_3 : wc.cell? ⟨gb302, 3, none⟩ = some (.string a0_3) := (blk_cell BK302.out 3).trans rfl
                        have hcz24_4 : wc.cell? ⟨gb302, 4, none⟩ = some (.slice A0_4 l0_4.length c0_4) := (blk_cell BK302.out 4).trans rfl
                        have hcz24_5 : wc.cell? ⟨gb302, 5, none⟩ = some (.int .i64 a0_5) := (blk_cell BK302.out 5).trans rfl
                        have hcz24_6 : wc.cell? ⟨gb302, 6, none⟩ = some (.int .i64 a0_6) := (blk_cell BK302.out 6).trans rfl
                        have hcz24_7 : wc.cell? ⟨gb302, 7, none⟩ = some (.int .i64 a0_7) := (blk_cell BK302.out 7).trans rfl
                        have hcz24_8 : wc.cell? ⟨gb302, 8, none⟩ = some (.int .i64 a0_8) := (blk_cell BK302.out 8).trans rfl
                        have hfz24_0 := blk_frozen BK302.out 0
                        have hfz24_1 := blk_frozen BK302.out 1
                        have hfz24_2 := blk_frozen BK302.out 2
                        have hfz24_3 := blk_frozen BK302.out 3
                        have hfz24_4 := blk_frozen BK302.out 4
                        have hfz24_5 := blk_frozen BK302.out 5
                        have hfz24_6 := blk_frozen BK302.out 6
                        have hfz24_7 := blk_frozen BK302.out 7
                        have hfz24_8 := blk_frozen BK302.out 8
                        go_wp2_with (first | (go_at_call 62; (with_reducible refine (spec_l4DepsOk.calls kj16 _ _ l0_4 t304 _ ?side1 ?side2 A23.out).mono ?_); (case side1 => repeat (first | exact (Kd.C_below HR0_4.out HB.out) | (with_reducible refine Kd.C_alloc ?_ _) | (with_reducible refine Kd.C_drewN ?_ _) | (with_reducible refine Kd.C_drew ?_))); (case side2 => exact HC0_4.out); rintro e w25 ⟨rfl, hb⟩; have n0_ := Aside0.mk (blk_below (g := gb302) (o := .cells #[.int .i64 a0_0, .string a0_1, .bool true, .string a0_3, .slice A0_4 l0_4.length c0_4, .int .i64 a0_5, .int .i64 a0_6, .int .i64 a0_7, .int .i64 a0_8] 87 (0, 0)) (by (with_reducible repeat (first | refine blk_drewN ?_ _ | refine blk_drew ?_ | refine blk_alloc ?_ _)); exact BK302.out) hb); have n1_ := Aside0.mk (below_step (by repeat (first | (with_reducible first | exact HB.out | apply below_alloc | apply pw_below_drewN | apply below_drew1 | refine below_set ?_ GE302.out) | exact HB.out)) hb); clear BK302; clear HB; have BK302 := n0_; have HB := n1_; clear n0_ n1_; (try clear hb); (try clear hb2); (try clear hk); (try clear hi)))
                        go_ret
                        exact ⟨by first | rfl | (simp [errW_none, errW_some] <;> rfl) | (simp [*, errW_none, errW_some] <;> rfl), by repeat (first | (with_reducible first | exact HB.out | apply below_alloc | apply pw_below_drewN | apply below_drew1 | refine below_set ?_ GE302.out) | exact HB.out)⟩
                      · rw [if_neg c22] at H
                        have c22b0 : decide (a0_6 ≤ a0_5) = false := decide_eq_false c22
                        clear c22
                        obtain rfl := Option.some.inj H
                        have hcz26_0 : wc.cell? ⟨gb302, 0, none⟩ = some (.int .i64 a0_0) := (blk_cell BK302.out 0).trans rfl
                        have hcz26_1 : wc.cell? ⟨gb302, 1, none⟩ = some (.string a0_1) := (blk_cell BK302.out 1).trans rfl
                        have hcz26_2 : wc.cell? ⟨gb302, 2, none⟩ = some (.bool true) := (blk_cell BK302.out 2).trans rfl
                        have hcz26_3 : wc.cell? ⟨gb302, 3, none⟩ = some (.string a0_3) := (blk_cell BK302.out 3).trans rfl
                        have hcz26_4 : wc.cell? ⟨gb302, 4, none⟩ = some (.slice A0_4 l0_4.length c0_4) := (blk_cell BK302.out 4).trans rfl
                        have hcz26_5 : wc.cell? ⟨gb302, 5, none⟩ = some (.int .i64 a0_5) := (blk_cell BK302.out 5).trans rfl
                        have hcz26_6 : wc.cell? ⟨gb302, 6, none⟩ = some (.int .i64 a0_6) := (blk_cell BK302.out 6).trans rfl
                        have hcz26_7 : wc.cell? ⟨gb302, 7, none⟩ = some (.int .i64 a0_7) := (blk_cell BK302.out 7).trans rfl
                        have hcz26_8 : wc.cell? ⟨gb302, 8, none⟩ = some (.int .i64 a0_8) := (blk_cell BK302.out 8).trans rfl
                        have hfz26_0 := blk_frozen BK302.out 0
                        have hfz26_1 := blk_frozen BK302.out 1
                        have hfz26_2 := blk_frozen BK302.out 2
                        have hfz26_3 := blk_frozen BK302.out 3
                        have hfz26_4 := blk_frozen BK302.out 4
                        have hfz26_5 := blk_frozen BK302.out 5
                        have hfz26_6 := blk_frozen BK302.out 6
                        have hfz26_7 := blk_frozen BK302.out 7
                        have hfz26_8 := blk_frozen BK302.out 8
                        go_wp2
                        go_ret
                        exact ⟨by first | rfl | (simp [errW_none, errW_some] <;> rfl) | (simp [*, errW_none, errW_some] <;> rfl), by repeat (first | (with_reducible first | exact HB.out | apply below_alloc | apply pw_below_drewN | apply below_drew1 | refine below_set ?_ GE302.out) | exact HB.out)⟩
                    · rw [if_neg c21] at H
                      have c21b0 : decide (1 ≤ a0_6) = false := decide_eq_false c21
                      clear c21
                      obtain rfl := Option.some.inj H
                      have hcz27_0 : wc.cell? ⟨gb302, 0, none⟩ = some (.int .i64 a0_0) := (blk_cell BK302.out 0).trans rfl
                      have hcz27_1 : wc.cell? ⟨gb302, 1, none⟩ = some (.string a0_1) := (blk_cell BK302.out 1).trans rfl
                      have hcz27_2 : wc.cell? ⟨gb302, 2, none⟩ = some (.bool true) := (blk_cell BK302.out 2).trans rfl
                      have hcz27_3 : wc.cell? ⟨gb302, 3, none⟩ = some (.string a0_3) := (blk_cell BK302.out 3).trans rfl
                      have hcz27_4 : wc.cell? ⟨gb302, 4, none⟩ = some (.slice A0_4 l0_4.length c0_4) := (blk_cell BK302.out 4).trans rfl
                      have hcz27_5 : wc.cell? ⟨gb302, 5, none⟩ = some (.int .i64 a0_5) := (blk_cell BK302.out 5).trans rfl
                      have hcz27_6 : wc.cell? ⟨gb302, 6, none⟩ = some (.int .i64 a0_6) := (blk_cell BK302.out 6).trans rfl
                      have hcz27_7 : wc.cell? ⟨gb302, 7, none⟩ = some (.int .i64 a0_7) := (blk_cell BK302.out 7).trans rfl
                      have hcz27_8 : wc.cell? ⟨gb302, 8, none⟩ = some (.int .i64 a0_8) := (blk_cell BK302.out 8).trans rfl
                      have hfz27_0 := blk_frozen BK302.out 0
                      have hfz27_1 := blk_frozen BK302.out 1
                      have hfz27_2 := blk_frozen BK302.out 2
                      have hfz27_3 := blk_frozen BK302.out 3
                      have hfz27_4 := blk_frozen BK302.out 4
                      have hfz27_5 := blk_frozen BK302.out 5
                      have hfz27_6 := blk_frozen BK302.out 6
                      have hfz27_7 := blk_frozen BK302.out 7
                      have hfz27_8 := blk_frozen BK302.out 8
                      go_wp2
                      go_ret
                      exact ⟨by first | rfl | (simp [errW_none, errW_some] <;> rfl) | (simp [*, errW_none, errW_some] <;> rfl), by repeat (first | (with_reducible first | exact HB.out | apply below_alloc | apply pw_below_drewN | apply below_drew1 | refine below_set ?_ GE302.out) | exact HB.out)⟩
                  · replace c20 := Bool.eq_false_iff.mpr c20
                    subst c20
                    have H1 : (if x3_3 = true then (if (a0_3.size : Int) = 0 then (if (l0_4.length : Int) = 0 then (if a0_5 = 0 then (some (a0_6 == 0)) else (some false)) else (some false)) else (some false)) else (some false)) = some r := by rw [if_neg (show ¬ (false = true) by decide)] at H; exact H
                    clear H
                    have H := H1
                    clear H1
                    by_cases c28 : x3_3 = true
                    · subst c28
                      have H1 : (if (a0_3.size : Int) = 0 then (if (l0_4.length : Int) = 0 then (if a0_5 = 0 then (some (a0_6 == 0)) else (some false)) else (some false)) else (some false)) = some r := by rw [if_pos rfl] at H; exact H
                      clear H
                      have H := H1
                      clear H1
                      by_cases c29 : (a0_3.size : Int) = 0
                      · rw [if_pos c29] at H
                        have c29b0 : ((a0_3.size : Int) == 0) = true := beq_iff_eq.mpr c29
                        have c29b1 : ((a0_3.size : Int) != 0) = false := bne_eq_false_iff_eq.mpr c29
                        clear c29
                        by_cases c30 : (l0_4.length : Int) = 0
                        · rw [if_pos c30] at H
                          have c30b0 : ((l0_4.length : Int) == 0) = true := beq_iff_eq.mpr c30
                          have c30b1 : ((l0_4.length : Int) != 0) = false := bne_eq_false_iff_eq.mpr c30
                          clear c30
                          by_cases c31 : a0_5 = 0
                          · rw [if_pos c31] at H
                            have c31b0 : (a0_5 == 0) = true := beq_iff_eq.mpr c31
                            have c31b1 : (a0_5 != 0) = false := bne_eq_false_iff_eq.mpr c31
                            clear c31
                            obtain rfl := Option.some.inj H
                            have hcz32_0 : wc.cell? ⟨gb302, 0, none⟩ = some (.int .i64 a0_0) := (blk_cell BK302.out 0).trans rfl
                            have hcz32_1 : wc.cell? ⟨gb302, 1, none⟩ = some (.string a0_1) := (blk_cell BK302.out 1).trans rfl
                            have hcz32_2 : wc.cell? ⟨gb302, 2, none⟩ = some (.bool false) := (blk_cell BK302.out 2).trans rfl
                            have hcz32_3 : wc.cell? ⟨gb302, 3, none⟩ = some (.string a0_3) := (blk_cell BK302.out 3).trans rfl
                            have hcz32_4 : wc.cell? ⟨gb302, 4, none⟩ = some (.slice A0_4 l0_4.length c0_4) := (blk_cell BK302.out 4).trans rfl
                            have hcz32_5 : wc.cell? ⟨gb302, 5, none⟩ = some (.int .i64 a0_5) := (blk_cell BK302.out 5).trans rfl
                            have hcz32_6 : wc.cell? ⟨gb302, 6, none⟩ = some (.int .i64 a0_6) := (blk_cell BK302.out 6).trans rfl
                            have hcz32_7 : wc.cell? ⟨gb302, 7, none⟩ = some (.int .i64 a0_7) := (blk_cell BK302.out 7).trans rfl
                            have hcz32_8 : wc.cell? ⟨gb302, 8, none⟩ = some (.int .i64 a0_8) := (blk_cell BK302.out 8).trans rfl
                            have hfz32_0 := blk_frozen BK302.out 0
                            have hfz32_1 := blk_frozen BK302.out 1
                            have hfz32_2 := blk_frozen BK302.out 2
                            have hfz32_3 := blk_frozen BK302.out 3
                            have hfz32_4 := blk_frozen BK302.out 4
                            have hfz32_5 := blk_frozen BK302.out 5
                            have hfz32_6 := blk_frozen BK302.out 6
                            have hfz32_7 := blk_frozen BK302.out 7
                            have hfz32_8 := blk_frozen BK302.out 8
                            go_wp2
                            go_ret
                            exact ⟨by first | rfl | (simp [errW_none, errW_some] <;> rfl) | (simp [*, errW_none, errW_some] <;> rfl), by repeat (first | (with_reducible first | exact HB.out | apply below_alloc | apply pw_below_drewN | apply below_drew1 | refine below_set ?_ GE302.out) | exact HB.out)⟩
                          · rw [if_neg c31] at H
                            have c31b0 : (a0_5 == 0) = false := beq_eq_false_iff_ne.mpr c31
                            have c31b1 : (a0_5 != 0) = true := bne_iff_ne.mpr c31
                            obtain rfl := Option.some.inj H
                            have hcz33_0 : wc.cell? ⟨gb302, 0, none⟩ = some (.int .i64 a0_0) := (blk_cell BK302.out 0).trans rfl
                            have hcz33_1 : wc.cell? ⟨gb302, 1, none⟩ = some (.string a0_1) := (blk_cell BK302.out 1).trans rfl
                            have hcz33_2 : wc.cell? ⟨gb302, 2, none⟩ = some (.bool false) := (blk_cell BK302.out 2).trans rfl
                            have hcz33_3 : wc.cell? ⟨gb302, 3, none⟩ = some (.string a0_3) := (blk_cell BK302.out 3).trans rfl
                            have hcz33_4 : wc.cell? ⟨gb302, 4, none⟩ = some (.slice A0_4 l0_4.length c0_4) := (blk_cell BK302.out 4).trans rfl
                            have hcz33_5 : wc.cell? ⟨gb302, 5, none⟩ = some (.int .i64 a0_5) := (blk_cell BK302.out 5).trans rfl
                            have hcz33_6 : wc.cell? ⟨gb302, 6, none⟩ = some (.int .i64 a0_6) := (blk_cell BK302.out 6).trans rfl
                            have hcz33_7 : wc.cell? ⟨gb302, 7, none⟩ = some (.int .i64 a0_7) := (blk_cell BK302.out 7).trans rfl
                            have hcz33_8 : wc.cell? ⟨gb302, 8, none⟩ = some (.int .i64 a0_8) := (blk_cell BK302.out 8).trans rfl
                            have hfz33_0 := blk_frozen BK302.out 0
                            have hfz33_1 := blk_frozen BK302.out 1
                            have hfz33_2 := blk_frozen BK302.out 2
                            have hfz33_3 := blk_frozen BK302.out 3
                            have hfz33_4 := blk_frozen BK302.out 4
                            have hfz33_5 := blk_frozen BK302.out 5
                            have hfz33_6 := blk_frozen BK302.out 6
                            have hfz33_7 := blk_frozen BK302.out 7
                            have hfz33_8 := blk_frozen BK302.out 8
                            go_wp2
                            go_ret
                            exact ⟨by first | rfl | (simp [errW_none, errW_some] <;> rfl) | (simp [*, errW_none, errW_some] <;> rfl), by repeat (first | (with_reducible first | exact HB.out | apply below_alloc | apply pw_below_drewN | apply below_drew1 | refine below_set ?_ GE302.out) | exact HB.out)⟩
                        · rw [if_neg c30] at H
                          have c30b0 : ((l0_4.length : Int) == 0) = false := beq_eq_false_iff_ne.mpr c30
                          have c30b1 : ((l0_4.length : Int) != 0) = true := bne_iff_ne.mpr c30
                          have c30b2 : ¬ (l0_4 = []) := fun h_ => c30 (by rw [h_]; rfl)
                          obtain rfl := Option.some.inj H
                          have hcz34_0 : wc.cell? ⟨gb302, 0, none⟩ = some (.int .i64 a0_0) := (blk_cell BK302.out 0).trans rfl
                          have hcz34_1 : wc.cell? ⟨gb302, 1, none⟩ = some (.string a0_1) := (blk_cell BK302.out 1).trans rfl
                          have hcz34_2 : wc.cell? ⟨gb302, 2, none⟩ = some (.bool false) := (blk_cell BK302.out 2).trans rfl
                          have hcz34_3 : wc.cell? ⟨gb302, 3, none⟩ = some (.string a0_3) := (blk_cell BK302.out 3).trans rfl
                          have hcz34_4 : wc.cell? ⟨gb302, 4, none⟩ = some (.slice A0_4 l0_4.length c0_4) := (blk_cell BK302.out 4).trans rfl
                          have hcz34_5 : wc.cell? ⟨gb302, 5, none⟩ = some (.int .i64 a0_5) := (blk_cell BK302.out 5).trans rfl
                          have hcz34_6 : wc.cell? ⟨gb302, 6, none⟩ = some (.int .i64 a0_6) := (blk_cell BK302.out 6).trans rfl
                          have hcz34_7 : wc.cell? ⟨gb302, 7, none⟩ = some (.int .i64 a0_7) := (blk_cell BK302.out 7).trans rfl
                          have hcz34_8 : wc.cell? ⟨gb302, 8, none⟩ = some (.int .i64 a0_8) := (blk_cell BK302.out 8).trans rfl
                          have hfz34_0 := blk_frozen BK302.out 0
                          have hfz34_1 := blk_frozen BK302.out 1
                          have hfz34_2 := blk_frozen BK302.out 2
                          have hfz34_3 := blk_frozen BK302.out 3
                          have hfz34_4 := blk_frozen BK302.out 4
                          have hfz34_5 := blk_frozen BK302.out 5
                          have hfz34_6 := blk_frozen BK302.out 6
                          have hfz34_7 := blk_frozen BK302.out 7
                          have hfz34_8 := blk_frozen BK302.out 8
                          go_wp2
                          go_ret
                          exact ⟨by first | rfl | (simp [errW_none, errW_some] <;> rfl) | (simp [*, errW_none, errW_some] <;> rfl), by repeat (first | (with_reducible first | exact HB.out | apply below_alloc | apply pw_below_drewN | apply below_drew1 | refine below_set ?_ GE302.out) | exact HB.out)⟩
                      · rw [if_neg c29] at H
                        have c29b0 : ((a0_3.size : Int) == 0) = false := beq_eq_false_iff_ne.mpr c29
                        have c29b1 : ((a0_3.size : Int) != 0) = true := bne_iff_ne.mpr c29
                        obtain rfl := Option.some.inj H
                        have hcz35_0 : wc.cell? ⟨gb302, 0, none⟩ = some (.int .i64 a0_0) := (blk_cell BK302.out 0).trans rfl
                        have hcz35_1 : wc.cell? ⟨gb302, 1, none⟩ = some (.string a0_1) := (blk_cell BK302.out 1).trans rfl
                        have hcz35_2 : wc.cell? ⟨gb302, 2, none⟩ = some (.bool false) := (blk_cell BK302.out 2).trans rfl
                        have hcz35_3 : wc.cell? ⟨gb302, 3, none⟩ = some (.string a0_3) := (blk_cell BK302.out 3).trans rfl
                        have hcz35_4 : wc.cell? ⟨gb302, 4, none⟩ = some (.slice A0_4 l0_4.length c0_4) := (blk_cell BK302.out 4).trans rfl
                        have hcz35_5 : wc.cell? ⟨gb302, 5, none⟩ = some (.int .i64 a0_5) := (blk_cell BK302.out 5).trans rfl
                        have hcz35_6 : wc.cell? ⟨gb302, 6, none⟩ = some (.int .i64 a0_6) := (blk_cell BK302.out 6).trans rfl
                        have hcz35_7 : wc.cell? ⟨gb302, 7, none⟩ = some (.int .i64 a0_7) := (blk_cell BK302.out 7).trans rfl
                        have hcz35_8 : wc.cell? ⟨gb302, 8, none⟩ = some (.int .i64 a0_8) := (blk_cell BK302.out 8).trans rfl
                        have hfz35_0 := blk_frozen BK302.out 0
                        have hfz35_1 := blk_frozen BK302.out 1
                        have hfz35_2 := blk_frozen BK302.out 2
                        have hfz35_3 := blk_frozen BK302.out 3
                        have hfz35_4 := blk_frozen BK302.out 4
                        have hfz35_5 := blk_frozen BK302.out 5
                        have hfz35_6 := blk_frozen BK302.out 6
                        have hfz35_7 := blk_frozen BK302.out 7
                        have hfz35_8 := blk_frozen BK302.out 8
                        go_wp2
                        go_ret
                        exact ⟨by first | rfl | (simp [errW_none, errW_some] <;> rfl) | (simp [*, errW_none, errW_some] <;> rfl), by repeat (first | (with_reducible first | exact HB.out | apply below_alloc | apply pw_below_drewN | apply below_drew1 | refine below_set ?_ GE302.out) | exact HB.out)⟩
                    · replace c28 := Bool.eq_false_iff.mpr c28
                      subst c28
                      have H1 : (some false) = some r := by rw [if_neg (show ¬ (false = true) by decide)] at H; exact H
                      clear H
                      have H := H1
                      clear H1
                      obtain rfl := Option.some.inj H
                      have hcz36_0 : wc.cell? ⟨gb302, 0, none⟩ = some (.int .i64 a0_0) := (blk_cell BK302.out 0).trans rfl
                      have hcz36_1 : wc.cell? ⟨gb302, 1, none⟩ = some (.string a0_1) := (blk_cell BK302.out 1).trans rfl
                      have hcz36_2 : wc.cell? ⟨gb302, 2, none⟩ = some (.bool false) := (blk_cell BK302.out 2).trans rfl
                      have hcz36_3 : wc.cell? ⟨gb302, 3, none⟩ = some (.string a0_3) := (blk_cell BK302.out 3).trans rfl
                      have hcz36_4 : wc.cell? ⟨gb302, 4, none⟩ = some (.slice A0_4 l0_4.length c0_4) := (blk_cell BK302.out 4).trans rfl
                      have hcz36_5 : wc.cell? ⟨gb302, 5, none⟩ = some (.int .i64 a0_5) := (blk_cell BK302.out 5).trans rfl
                      have hcz36_6 : wc.cell? ⟨gb302, 6, none⟩ = some (.int .i64 a0_6) := (blk_cell BK302.out 6).trans rfl
                      have hcz36_7 : wc.cell? ⟨gb302, 7, none⟩ = some (.int .i64 a0_7) := (blk_cell BK302.out 7).trans rfl
                      have hcz36_8 : wc.cell? ⟨gb302, 8, none⟩ = some (.int .i64 a0_8) := (blk_cell BK302.out 8).trans rfl
                      have hfz36_0 := blk_frozen BK302.out 0
                      have hfz36_1 := blk_frozen BK302.out 1
                      have hfz36_2 := blk_frozen BK302.out 2
                      have hfz36_3 := blk_frozen BK302.out 3
                      have hfz36_4 := blk_frozen BK302.out 4
                      have hfz36_5 := blk_frozen BK302.out 5
                      have hfz36_6 := blk_frozen BK302.out 6
                      have hfz36_7 := blk_frozen BK302.out 7
                      have hfz36_8 := blk_frozen BK302.out 8
                      go_wp2
                      go_ret
                      exact ⟨by first | rfl | (simp [errW_none, errW_some] <;> rfl) | (simp [*, errW_none, errW_some] <;> rfl), by repeat (first | (with_reducible first | exact HB.out | apply below_alloc | apply pw_below_drewN | apply below_drew1 | refine below_set ?_ GE302.out) | exact HB.out)⟩
  · replace c3 := Bool.eq_false_iff.mpr c3
    subst c3
    have H1 : (some false) = some r := by rw [if_neg (show ¬ (false = true) by decide)] at H; exact H
    clear H
    have H := H1
    clear H1
    obtain rfl := Option.some.inj H
    go_enter Tryd.func46, Tryd.ntmps46
    go_wp2_with (first | ((with_reducible refine gate_dst (N := 1) rfl ?_); (try (refine gate_guard (by rfl) ?_; dsimp only)); refine box_event ?hg (N := 1) ?hd (cs := #[.int .i64 a0_0, .string a0_1, .bool a0_2, .string a0_3, .slice A0_4 l0_4.length c0_4, .int .i64 a0_5, .int .i64 a0_6, .int .i64 a0_7, .int .i64 a0_8]) (t := 87) ?hr ?_; (case hd => rfl); (case hg => rfl); (case hr => first | (go_simp; done) | (go_simp; rfl)); intro gb302 hg w37 hbox hb; have n0_ := Aside0.mk (below_step (by repeat (first | (with_reducible first | exact HB.out | apply below_alloc | apply pw_below_drewN | apply below_drew1) | exact HB.out)) hb); have n1_ := Aside0.mk (hbox); have n2_ := Aside0.mk ((by rw [hg]; exact (below_size (by repeat (first | (with_reducible first | exact HB.out | apply below_alloc | apply pw_below_drewN | apply below_drew1) | exact HB.out))) : w.heap.size ≤ gb302)); have n3_ := Aside0.mk ((by rw [hg]; exact (below_size (by repeat (first | (with_reducible first | exact HB.out | apply below_alloc | apply pw_below_drewN | apply below_drew1) | exact HB.out))) : w.heap.size ≤ gb302)); clear HB; have HB := n0_; have BK302 := n1_; have GW302 := n2_; have GE302 := n3_; clear n0_ n1_ n2_ n3_; clear hb hbox hg; have hcz38_0 : w37.cell? ⟨gb302, 0, none⟩ = some (.int .i64 a0_0) := (blk_cell BK302.out 0).trans rfl; have hcz38_1 : w37.cell? ⟨gb302, 1, none⟩ = some (.string a0_1) := (blk_cell BK302.out 1).trans rfl; have hcz38_2 : w37.cell? ⟨gb302, 2, none⟩ = some (.bool a0_2) := (blk_cell BK302.out 2).trans rfl; have hcz38_3 : w37.cell? ⟨gb302, 3, none⟩ = some (.string a0_3) := (blk_cell BK302.out 3).trans rfl; have hcz38_4 : w37.cell? ⟨gb302, 4, none⟩ = some (.slice A0_4 l0_4.length c0_4) := (blk_cell BK302.out 4).trans rfl; have hcz38_5 : w37.cell? ⟨gb302, 5, none⟩ = some (.int .i64 a0_5) := (blk_cell BK302.out 5).trans rfl; have hcz38_6 : w37.cell? ⟨gb302, 6, none⟩ = some (.int .i64 a0_6) := (blk_cell BK302.out 6).trans rfl; have hcz38_7 : w37.cell? ⟨gb302, 7, none⟩ = some (.int .i64 a0_7) := (blk_cell BK302.out 7).trans rfl; have hcz38_8 : w37.cell? ⟨gb302, 8, none⟩ = some (.int .i64 a0_8) := (blk_cell BK302.out 8).trans rfl; have hfz38_0 := blk_frozen BK302.out 0; have hfz38_1 := blk_frozen BK302.out 1; have hfz38_2 := blk_frozen BK302.out 2; have hfz38_3 := blk_frozen BK302.out 3; have hfz38_4 := blk_frozen BK302.out 4; have hfz38_5 := blk_frozen BK302.out 5; have hfz38_6 := blk_frozen BK302.out 6; have hfz38_7 := blk_frozen BK302.out 7; have hfz38_8 := blk_frozen BK302.out 8) | ((with_reducible refine gate_callee (f := 61) rfl ?_); refine goesL_ (some 7) rfl rfl Tryd.func61 (by kernel_rfl) rfl #[.agg #[.int .i64 a0_0, .string a0_1]] rfl (by (try simp only [List.map_toArray, List.map_cons, List.map_nil]); first | done | rfl | (simp only [List.length_drop, List.length_take]; rfl)) ?_; (with_reducible refine (spec_l4KeyOk.calls k a0_0 a0_1 false _ A2.out).mono ?_); rintro e w39 ⟨rfl, hb⟩; refine ⟨_, rfl, ?_⟩; have n0_ := Aside0.mk (blk_below (g := gb302) (o := .cells #[.int .i64 a0_0, .string a0_1, .bool a0_2, .string a0_3, .slice A0_4 l0_4.length c0_4, .int .i64 a0_5, .int .i64 a0_6, .int .i64 a0_7, .int .i64 a0_8] 87 (0, 0)) (by (with_reducible repeat (first | refine blk_drewN ?_ _ | refine blk_drew ?_ | refine blk_alloc ?_ _)); exact BK302.out) hb); have n1_ := Aside0.mk (below_step (by repeat (first | (with_reducible first | exact HB.out | apply below_alloc | apply pw_below_drewN | apply below_drew1 | refine below_set ?_ GE302.out) | exact HB.out)) hb); clear BK302; clear HB; have BK302 := n0_; have HB := n1_; clear n0_ n1_; (try clear hb); (try clear hb2); (try clear hk); (try clear hi)))
    go_ret
    exact ⟨by first | rfl | (simp [errW_none, errW_some] <;> rfl) | (simp [*, errW_none, errW_some] <;> rfl), by repeat (first | (with_reducible first | exact HB.out | apply below_alloc | apply pw_below_drewN | apply below_drew1 | refine below_set ?_ GE302.out) | exact HB.out)⟩
end Go.Proofs.YtiicaoiijhodkaaDoor.Gp
end
section
namespace Go.Proofs.YtiicaoiijhodkaaDoor.Gp
open Go.RowKit Go.Proofs.YtiicaoiijhodkaaDoorW.PrintWords Go.Proofs.YtiicaoiijhodkaaDoorW.PrintLast Go.Proofs.YtiicaoiijhodkaaDoorW.PrintMore
set_option linter.unusedVariables false
set_option linter.unusedSimpArgs false
def impl_wordByte.f (a0 : Int) : Option (Bool) := if a0 ≥ 97 then (if a0 ≤ 122 then (some true) else (if a0 ≥ 48 then (if a0 ≤ 57 then (some true) else (some (a0 == 95))) else (some (a0 == 95)))) else (if a0 ≥ 48 then (if a0 ≤ 57 then (some true) else (some (a0 == 95))) else (some (a0 == 95)))
set_option maxHeartbeats 8000000 in
set_option maxRecDepth 100000 in
theorem impl_wordByte.calls (a0 : Int) (r : Bool) (w : World) (h : impl_wordByte.f a0 = some r) :
    Calls Tryd.prog 42 #[.int .u8 a0] w fun e w' => e = .returned (.bool r) ∧ Drawn0 w w' := by
  have H : (if a0 ≥ 97 then (if a0 ≤ 122 then (some true) else (if a0 ≥ 48 then (if a0 ≤ 57 then (some true) else (some (a0 == 95))) else (some (a0 == 95)))) else (if a0 ≥ 48 then (if a0 ≤ 57 then (some true) else (some (a0 == 95))) else (some (a0 == 95)))) = some r := h
  clear h
  by_cases c2 : a0 ≥ 97
  · rw [if_pos c2] at H
    have c2b0 : decide (97 ≤ a0) = true := decide_eq_true c2
    clear c2
    by_cases c3 : a0 ≤ 122
    · rw [if_pos c3] at H
      have c3b0 : decide (a0 ≤ 122) = true := decide_eq_true c3
      clear c3
      obtain rfl := Option.some.inj H
      go_enter Tryd.func42, Tryd.ntmps42
      go_wp2
      go_ret
      exact ⟨by first | rfl | (simp; done) | (simp [*]; done), by repeat (first | exact Drawn0.refl _ | apply Drawn0.step)⟩
    · rw [if_neg c3] at H
      have c3b0 : decide (a0 ≤ 122) = false := decide_eq_false c3
      clear c3
      by_cases c4 : a0 ≥ 48
      · rw [if_pos c4] at H
        have c4b0 : decide (48 ≤ a0) = true := decide_eq_true c4
        clear c4
        by_cases c5 : a0 ≤ 57
        · rw [if_pos c5] at H
          have c5b0 : decide (a0 ≤ 57) = true := decide_eq_true c5
          clear c5
          obtain rfl := Option.some.inj H
          go_enter Tryd.func42, Tryd.ntmps42
          go_wp2
          go_ret
          exact ⟨by first | rfl | (simp; done) | (simp [*]; done), by repeat (first | exact Drawn0.refl _ | apply Drawn0.step)⟩
        · rw [if_neg c5] at H
          have c5b0 : decide (a0 ≤ 57) = false := decide_eq_false c5
          clear c5
          obtain rfl := Option.some.inj H
          go_enter Tryd.func42, Tryd.ntmps42
          go_wp2
          go_ret
          exact ⟨by first | rfl | (simp; done) | (simp [*]; done), by repeat (first | exact Drawn0.refl _ | apply Drawn0.step)⟩
      · rw [if_neg c4] at H
        have c4b0 : decide (48 ≤ a0) = false := decide_eq_false c4
        clear c4
        obtain rfl := Option.some.inj H
        go_enter Tryd.func42, Tryd.ntmps42
        go_wp2
        go_ret
        exact ⟨by first | rfl | (simp; done) | (simp [*]; done), by repeat (first | exact Drawn0.refl _ | apply Drawn0.step)⟩
  · rw [if_neg c2] at H
    have c2b0 : decide (97 ≤ a0) = false := decide_eq_false c2
    clear c2
    by_cases c6 : a0 ≥ 48
    · rw [if_pos c6] at H
      have c6b0 : decide (48 ≤ a0) = true := decide_eq_true c6
      clear c6
      by_cases c7 : a0 ≤ 57
      · rw [if_pos c7] at H
        have c7b0 : decide (a0 ≤ 57) = true := decide_eq_true c7
        clear c7
        obtain rfl := Option.some.inj H
        go_enter Tryd.func42, Tryd.ntmps42
        go_wp2
        go_ret
        exact ⟨by first | rfl | (simp; done) | (simp [*]; done), by repeat (first | exact Drawn0.refl _ | apply Drawn0.step)⟩
      · rw [if_neg c7] at H
        have c7b0 : decide (a0 ≤ 57) = false := decide_eq_false c7
        clear c7
        obtain rfl := Option.some.inj H
        go_enter Tryd.func42, Tryd.ntmps42
        go_wp2
        go_ret
        exact ⟨by first | rfl | (simp; done) | (simp [*]; done), by repeat (first | exact Drawn0.refl _ | apply Drawn0.step)⟩
    · rw [if_neg c6] at H
      have c6b0 : decide (48 ≤ a0) = false := decide_eq_false c6
      clear c6
      obtain rfl := Option.some.inj H
      go_enter Tryd.func42, Tryd.ntmps42
      go_wp2
      go_ret
      exact ⟨by first | rfl | (simp; done) | (simp [*]; done), by repeat (first | exact Drawn0.refl _ | apply Drawn0.step)⟩
end Go.Proofs.YtiicaoiijhodkaaDoor.Gp
end
