/- A part of the proof of RowFnExactCircle: each text's theorems that it needs, packed by shake.py, a program of this work; Lean checks them. -/
import Derived.Test.YtnbohlcibgfjaaaDoorCc3
import Derived.Test.YtnbohlcibgfjaaaDoorCc5
section
namespace Go.Proofs.YtnbohlcibgfjaaaDoor.Gp
open Go.RowKit Go.Proofs.YtnbohlcibgfjaaaDoorW.PrintWords Go.Proofs.YtnbohlcibgfjaaaDoorW.PrintLast Go.Proofs.YtnbohlcibgfjaaaDoorW.PrintMore
set_option linter.unusedVariables false
set_option linter.unusedSimpArgs false
def laws_eqSlot.f (k : Nat) (a0_0 : Int) (a0_1 : ByteArray) (a0_2 : Bool) (a0_3 : ByteArray) (l0_4 : List (S29)) (a0_5 : Int) (a0_6 : Int) (a0_7 : Int) (a0_8 : Int) (a1_0 : Int) (a1_1 : ByteArray) (a1_2 : Bool) (a1_3 : ByteArray) (l1_4 : List (S29)) (a1_5 : Int) (a1_6 : Int) (a1_7 : Int) (a1_8 : Int) : Option (Bool) := (laws_eqKey.f a0_0 a0_1 a1_0 a1_1).bind fun t158 => (if t158 = true then (if (a0_2 != a1_2) = true then (some false) else (if a0_3.toList = a1_3.toList then ((laws_eqKeyS.f k l0_4 l1_4).bind fun t159 => (if t159 = true then (if a0_5 = a1_5 then (if a0_6 = a1_6 then (if a0_7 = a1_7 then (if a0_8 = a1_8 then (some true) else (some false)) else (some false)) else (some false)) else (some false)) else (some false))) else (some false))) else (some false))
set_option maxHeartbeats 8000000 in
set_option maxRecDepth 100000 in
theorem laws_eqSlot.calls (k : Nat) (a0_0 : Int) (a0_1 : ByteArray) (a0_2 : Bool) (a0_3 : ByteArray) (A0_4 : Option Addr) (c0_4 : Nat) (l0_4 : List (S29)) (a0_5 : Int) (a0_6 : Int) (a0_7 : Int) (a0_8 : Int) (a1_0 : Int) (a1_1 : ByteArray) (a1_2 : Bool) (a1_3 : ByteArray) (A1_4 : Option Addr) (c1_4 : Nat) (l1_4 : List (S29)) (a1_5 : Int) (a1_6 : Int) (a1_7 : Int) (a1_8 : Int) (r : Bool) (w : World) (hr0_4 : Kd.C k29 w A0_4 l0_4.length l0_4) (hc0_4 : l0_4.length ≤ c0_4) (hr1_4 : Kd.C k29 w A1_4 l1_4.length l1_4) (hc1_4 : l1_4.length ≤ c1_4) (h : laws_eqSlot.f k a0_0 a0_1 a0_2 a0_3 l0_4 a0_5 a0_6 a0_7 a0_8 a1_0 a1_1 a1_2 a1_3 l1_4 a1_5 a1_6 a1_7 a1_8 = some r) :
    Calls Tryd.prog 19 #[.agg #[.int .i64 a0_0, .string a0_1, .bool a0_2, .string a0_3, .slice A0_4 l0_4.length c0_4, .int .i64 a0_5, .int .i64 a0_6, .int .i64 a0_7, .int .i64 a0_8], .agg #[.int .i64 a1_0, .string a1_1, .bool a1_2, .string a1_3, .slice A1_4 l1_4.length c1_4, .int .i64 a1_5, .int .i64 a1_6, .int .i64 a1_7, .int .i64 a1_8]] w fun e w' => e = .returned (.bool r) ∧ Below w.heap.size w w' := by
  have hu32 := Tryd.underlying32
  have hu29 := Tryd.underlying29
  have HR0_4 := Aside0.mk hr0_4
  have HC0_4 := Aside0.mk hc0_4
  clear hr0_4 hc0_4
  have HR1_4 := Aside0.mk hr1_4
  have HC1_4 := Aside0.mk hc1_4
  clear hr1_4 hc1_4
  have HB := Aside0.mk (Below.refl w.heap.size w)
  have H : ((laws_eqKey.f a0_0 a0_1 a1_0 a1_1).bind fun t158 => (if t158 = true then (if (a0_2 != a1_2) = true then (some false) else (if a0_3.toList = a1_3.toList then ((laws_eqKeyS.f k l0_4 l1_4).bind fun t159 => (if t159 = true then (if a0_5 = a1_5 then (if a0_6 = a1_6 then (if a0_7 = a1_7 then (if a0_8 = a1_8 then (some true) else (some false)) else (some false)) else (some false)) else (some false)) else (some false))) else (some false))) else (some false))) = some r := h
  clear h
  replace H := Option.bind_eq_some_iff.mp H
  obtain ⟨t158, A30, H⟩ := H
  replace H : (if t158 = true then (if (a0_2 != a1_2) = true then (some false) else (if a0_3.toList = a1_3.toList then ((laws_eqKeyS.f k l0_4 l1_4).bind fun t159 => (if t159 = true then (if a0_5 = a1_5 then (if a0_6 = a1_6 then (if a0_7 = a1_7 then (if a0_8 = a1_8 then (some true) else (some false)) else (some false)) else (some false)) else (some false)) else (some false))) else (some false))) else (some false)) = some r := H
  have A3 := Aside0.mk A30
  clear A30
  have HL4 := Aside0.mk H
  clear H
  go_enter Tryd.func19, Tryd.ntmps19
  go_upto_if 10 with (first | ((with_reducible refine gate_dst (N := 2) rfl ?_); refine box_event ?hg (N := 2) ?hd (cs := #[.int .i64 a0_0, .string a0_1, .bool a0_2, .string a0_3, .slice A0_4 l0_4.length c0_4, .int .i64 a0_5, .int .i64 a0_6, .int .i64 a0_7, .int .i64 a0_8]) (t := 32) ?hr ?_; (case hd => rfl); (case hg => rfl); (case hr => first | (go_simp; done) | (go_simp; rfl)); intro gb156 hg w5 hbox hb; have n0_ := Aside0.mk (below_step (by repeat (first | (with_reducible first | exact HB.out | apply below_alloc | apply pw_below_drewN | apply below_drew1) | exact HB.out)) hb); have n1_ := Aside0.mk (hbox); have n2_ := Aside0.mk ((by rw [hg]; exact (below_size (by repeat (first | (with_reducible first | exact HB.out | apply below_alloc | apply pw_below_drewN | apply below_drew1) | exact HB.out))) : w.heap.size ≤ gb156)); have n3_ := Aside0.mk ((by rw [hg]; exact (below_size (by repeat (first | (with_reducible first | exact HB.out | apply below_alloc | apply pw_below_drewN | apply below_drew1) | exact HB.out))) : w.heap.size ≤ gb156)); clear HB; have HB := n0_; have BK156 := n1_; have GW156 := n2_; have GE156 := n3_; clear n0_ n1_ n2_ n3_; clear hb hbox hg) | ((with_reducible refine gate_dst (N := 3) rfl ?_); refine box_event ?hg (N := 3) ?hd (cs := #[.int .i64 a1_0, .string a1_1, .bool a1_2, .string a1_3, .slice A1_4 l1_4.length c1_4, .int .i64 a1_5, .int .i64 a1_6, .int .i64 a1_7, .int .i64 a1_8]) (t := 32) ?hr ?_; (case hd => rfl); (case hg => rfl); (case hr => first | (go_simp; done) | (go_simp; rfl)); intro gb157 hg w6 hbox hb; have n0_ := Aside0.mk (blk_below (g := gb156) (o := .cells #[.int .i64 a0_0, .string a0_1, .bool a0_2, .string a0_3, .slice A0_4 l0_4.length c0_4, .int .i64 a0_5, .int .i64 a0_6, .int .i64 a0_7, .int .i64 a0_8] 32 (0, 0)) (by (with_reducible repeat (first | refine blk_drewN ?_ _ | refine blk_drew ?_ | refine blk_alloc ?_ _)); exact BK156.out) hb); have n1_ := Aside0.mk (below_step (by repeat (first | (with_reducible first | exact HB.out | apply below_alloc | apply pw_below_drewN | apply below_drew1 | refine below_set ?_ GE156.out) | exact HB.out)) hb); have n2_ := Aside0.mk (hbox); have n3_ := Aside0.mk ((by rw [hg]; exact (below_size (by repeat (first | (with_reducible first | exact HB.out | apply below_alloc | apply pw_below_drewN | apply below_drew1 | refine below_set ?_ GE156.out) | exact HB.out))) : w.heap.size ≤ gb157)); have n4_ := Aside0.mk ((by rw [hg]; exact (below_size (by repeat (first | (with_reducible first | exact HB.out | apply below_alloc | apply pw_below_drewN | apply below_drew1 | refine below_set ?_ GE156.out) | exact HB.out))) : w.heap.size ≤ gb157)); have n5_ := Aside0.mk ((by rw [hg]; exact Nat.ne_of_lt (blk_lt (g := gb156) (o := .cells #[.int .i64 a0_0, .string a0_1, .bool a0_2, .string a0_3, .slice A0_4 l0_4.length c0_4, .int .i64 a0_5, .int .i64 a0_6, .int .i64 a0_7, .int .i64 a0_8] 32 (0, 0)) (by (with_reducible repeat (first | refine blk_drewN ?_ _ | refine blk_drew ?_ | refine blk_alloc ?_ _)); exact BK156.out)) : gb156 ≠ gb157)); have n6_ := Aside0.mk ((by rw [hg]; exact Nat.ne_of_gt (blk_lt (g := gb156) (o := .cells #[.int .i64 a0_0, .string a0_1, .bool a0_2, .string a0_3, .slice A0_4 l0_4.length c0_4, .int .i64 a0_5, .int .i64 a0_6, .int .i64 a0_7, .int .i64 a0_8] 32 (0, 0)) (by (with_reducible repeat (first | refine blk_drewN ?_ _ | refine blk_drew ?_ | refine blk_alloc ?_ _)); exact BK156.out)) : gb157 ≠ gb156)); clear BK156; clear HB; have BK156 := n0_; have HB := n1_; have BK157 := n2_; have GW157 := n3_; have GE157 := n4_; have NB156_157 := n5_; have NB157_156 := n6_; clear n0_ n1_ n2_ n3_ n4_ n5_ n6_; clear hb hbox hg; have hnb7 := NB156_157.out; have hnc7 := NB157_156.out; have hcz8_0 : w6.cell? ⟨gb156, 0, none⟩ = some (.int .i64 a0_0) := (blk_cell BK156.out 0).trans rfl; have hcz8_1 : w6.cell? ⟨gb156, 1, none⟩ = some (.string a0_1) := (blk_cell BK156.out 1).trans rfl; have hcz8_2 : w6.cell? ⟨gb156, 2, none⟩ = some (.bool a0_2) := (blk_cell BK156.out 2).trans rfl; have hcz8_3 : w6.cell? ⟨gb156, 3, none⟩ = some (.string a0_3) := (blk_cell BK156.out 3).trans rfl; have hcz8_4 : w6.cell? ⟨gb156, 4, none⟩ = some (.slice A0_4 l0_4.length c0_4) := (blk_cell BK156.out 4).trans rfl; have hcz8_5 : w6.cell? ⟨gb156, 5, none⟩ = some (.int .i64 a0_5) := (blk_cell BK156.out 5).trans rfl; have hcz8_6 : w6.cell? ⟨gb156, 6, none⟩ = some (.int .i64 a0_6) := (blk_cell BK156.out 6).trans rfl; have hcz8_7 : w6.cell? ⟨gb156, 7, none⟩ = some (.int .i64 a0_7) := (blk_cell BK156.out 7).trans rfl; have hcz8_8 : w6.cell? ⟨gb156, 8, none⟩ = some (.int .i64 a0_8) := (blk_cell BK156.out 8).trans rfl; have hfz8_0 := blk_frozen BK156.out 0; have hfz8_1 := blk_frozen BK156.out 1; have hfz8_2 := blk_frozen BK156.out 2; have hfz8_3 := blk_frozen BK156.out 3; have hfz8_4 := blk_frozen BK156.out 4; have hfz8_5 := blk_frozen BK156.out 5; have hfz8_6 := blk_frozen BK156.out 6; have hfz8_7 := blk_frozen BK156.out 7; have hfz8_8 := blk_frozen BK156.out 8; have hcz9_0 : w6.cell? ⟨gb157, 0, none⟩ = some (.int .i64 a1_0) := (blk_cell BK157.out 0).trans rfl; have hcz9_1 : w6.cell? ⟨gb157, 1, none⟩ = some (.string a1_1) := (blk_cell BK157.out 1).trans rfl; have hcz9_2 : w6.cell? ⟨gb157, 2, none⟩ = some (.bool a1_2) := (blk_cell BK157.out 2).trans rfl; have hcz9_3 : w6.cell? ⟨gb157, 3, none⟩ = some (.string a1_3) := (blk_cell BK157.out 3).trans rfl; have hcz9_4 : w6.cell? ⟨gb157, 4, none⟩ = some (.slice A1_4 l1_4.length c1_4) := (blk_cell BK157.out 4).trans rfl; have hcz9_5 : w6.cell? ⟨gb157, 5, none⟩ = some (.int .i64 a1_5) := (blk_cell BK157.out 5).trans rfl; have hcz9_6 : w6.cell? ⟨gb157, 6, none⟩ = some (.int .i64 a1_6) := (blk_cell BK157.out 6).trans rfl; have hcz9_7 : w6.cell? ⟨gb157, 7, none⟩ = some (.int .i64 a1_7) := (blk_cell BK157.out 7).trans rfl; have hcz9_8 : w6.cell? ⟨gb157, 8, none⟩ = some (.int .i64 a1_8) := (blk_cell BK157.out 8).trans rfl; have hfz9_0 := blk_frozen BK157.out 0; have hfz9_1 := blk_frozen BK157.out 1; have hfz9_2 := blk_frozen BK157.out 2; have hfz9_3 := blk_frozen BK157.out 3; have hfz9_4 := blk_frozen BK157.out 4; have hfz9_5 := blk_frozen BK157.out 5; have hfz9_6 := blk_frozen BK157.out 6; have hfz9_7 := blk_frozen BK157.out 7; have hfz9_8 := blk_frozen BK157.out 8) | ((with_reducible refine gate_callee (f := 61) rfl ?_); refine goesL_ (some 9) rfl rfl Tryd.func61 (by kernel_rfl) rfl #[.agg #[.int .i64 a0_0, .string a0_1], .agg #[.int .i64 a1_0, .string a1_1]] rfl (by (try simp only [List.map_toArray, List.map_cons, List.map_nil]); first | done | rfl | (simp only [List.length_drop, List.length_take]; rfl)) ?_; (with_reducible refine (laws_eqKey.calls a0_0 a0_1 a1_0 a1_1 t158 _ A3.out).mono ?_); rintro e w10 ⟨rfl, hb⟩; refine ⟨_, rfl, ?_⟩; have n0_ := Aside0.mk (blk_below (g := gb156) (o := .cells #[.int .i64 a0_0, .string a0_1, .bool a0_2, .string a0_3, .slice A0_4 l0_4.length c0_4, .int .i64 a0_5, .int .i64 a0_6, .int .i64 a0_7, .int .i64 a0_8] 32 (0, 0)) (by (with_reducible repeat (first | refine blk_drewN ?_ _ | refine blk_drew ?_ | refine blk_alloc ?_ _)); exact BK156.out) hb); have n1_ := Aside0.mk (blk_below (g := gb157) (o := .cells #[.int .i64 a1_0, .string a1_1, .bool a1_2, .string a1_3, .slice A1_4 l1_4.length c1_4, .int .i64 a1_5, .int .i64 a1_6, .int .i64 a1_7, .int .i64 a1_8] 32 (0, 0)) (by (with_reducible repeat (first | refine blk_drewN ?_ _ | refine blk_drew ?_ | refine blk_alloc ?_ _)); exact BK157.out) hb); have n2_ := Aside0.mk (below_step (by repeat (first | (with_reducible first | exact HB.out | apply below_alloc | apply pw_below_drewN | apply below_drew1 | refine below_set ?_ GE156.out | refine below_set ?_ GE157.out) | exact HB.out)) hb); clear BK156; clear BK157; clear HB; have BK156 := n0_; have BK157 := n1_; have HB := n2_; clear n0_ n1_ n2_; (try clear hb); (try clear hb2); (try clear hk); (try clear hi)))
  have H := HL4.out
  clear HL4
  by_cases c11 : t158 = true
  · subst c11
    have H1 : (if (a0_2 != a1_2) = true then (some false) else (if a0_3.toList = a1_3.toList then ((laws_eqKeyS.f k l0_4 l1_4).bind fun t159 => (if t159 = true then (if a0_5 = a1_5 then (if a0_6 = a1_6 then (if a0_7 = a1_7 then (if a0_8 = a1_8 then (some true) else (some false)) else (some false)) else (some false)) else (some false)) else (some false))) else (some false))) = some r := by rw [if_pos rfl] at H; exact H
    clear H
    have H := H1
    clear H1
    by_cases c12 : (a0_2 != a1_2) = true
    · rw [if_pos c12] at H
      have c12b0 : (a0_2 != a1_2) = true := c12
      (try (have c12b1 : decide (a0_2 = a1_2) = false := by simpa using c12))
      (try (have c12b2 : (a0_2 == a1_2) = false := by simpa using c12))
      (try (have c12b3 : ¬ (a0_2 = a1_2) := by simpa using c12))
      clear c12
      obtain rfl := Option.some.inj H
      have hnb13 := NB156_157.out
      have hnc13 := NB157_156.out
      have hcz14_0 : w10.cell? ⟨gb156, 0, none⟩ = some (.int .i64 a0_0) := (blk_cell BK156.out 0).trans rfl
      have hcz14_1 : w10.cell? ⟨gb156, 1, none⟩ = some (.string a0_1) := (blk_cell BK156.out 1).trans rfl
      have hcz14_2 : w10.cell? ⟨gb156, 2, none⟩ = some (.bool a0_2) := (blk_cell BK156.out 2).trans rfl
      have hcz14_3 : w10.cell? ⟨gb156, 3, none⟩ = some (.string a0_3) := (blk_cell BK156.out 3).trans rfl
      have hcz14_4 : w10.cell? ⟨gb156, 4, none⟩ = some (.slice A0_4 l0_4.length c0_4) := (blk_cell BK156.out 4).trans rfl
      have hcz14_5 : w10.cell? ⟨gb156, 5, none⟩ = some (.int .i64 a0_5) := (blk_cell BK156.out 5).trans rfl
      have hcz14_6 : w10.cell? ⟨gb156, 6, none⟩ = some (.int .i64 a0_6) := (blk_cell BK156.out 6).trans rfl
      have hcz14_7 : w10.cell? ⟨gb156, 7, none⟩ = some (.int .i64 a0_7) := (blk_cell BK156.out 7).trans rfl
      have hcz14_8 : w10.cell? ⟨gb156, 8, none⟩ = some (.int .i64 a0_8) := (blk_cell BK156.out 8).trans rfl
      have hfz14_0 := blk_frozen BK156.out 0
      have hfz14_1 := blk_frozen BK156.out 1
      have hfz14_2 := blk_frozen BK156.out 2
      have hfz14_3 := blk_frozen BK156.out 3
      have hfz14_4 := blk_frozen BK156.out 4
      have hfz14_5 := blk_frozen BK156.out 5
      have hfz14_6 := blk_frozen BK156.out 6
      have hfz14_7 := blk_frozen BK156.out 7
      have hfz14_8 := blk_frozen BK156.out 8
      have hcz15_0 : w10.cell? ⟨gb157, 0, none⟩ = some (.int .i64 a1_0) := (blk_cell BK157.out 0).trans rfl
      have hcz15_1 : w10.cell? ⟨gb157, 1, none⟩ = some (.string a1_1) := (blk_cell BK157.out 1).trans rfl
      have hcz15_2 : w10.cell? ⟨gb157, 2, none⟩ = some (.bool a1_2) := (blk_cell BK157.out 2).trans rfl
      have hcz15_3 : w10.cell? ⟨gb157, 3, none⟩ = some (.string a1_3) := (blk_cell BK157.out 3).trans rfl
      have hcz15_4 : w10.cell? ⟨gb157, 4, none⟩ = some (.slice A1_4 l1_4.length c1_4) := (blk_cell BK157.out 4).trans rfl
      have hcz15_5 : w10.cell? ⟨gb157, 5, none⟩ = some (.int .i64 a1_5) := (blk_cell BK157.out 5).trans rfl
      have hcz15_6 : w10.cell? ⟨gb157, 6, none⟩ = some (.int .i64 a1_6) := (blk_cell BK157.out 6).trans rfl
      have hcz15_7 : w10.cell? ⟨gb157, 7, none⟩ = some (.int .i64 a1_7) := (blk_cell BK157.out 7).trans rfl
      have hcz15_8 : w10.cell? ⟨gb157, 8, none⟩ = some (.int .i64 a1_8) := (blk_cell BK157.out 8).trans rfl
      have hfz15_0 := blk_frozen BK157.out 0
      have hfz15_1 := blk_frozen BK157.out 1
      have hfz15_2 := blk_frozen BK157.out 2
      have hfz15_3 := blk_frozen BK157.out 3
      have hfz15_4 := blk_frozen BK157.out 4
      have hfz15_5 := blk_frozen BK157.out 5
      have hfz15_6 := blk_frozen BK157.out 6
      have hfz15_7 := blk_frozen BK157.out 7
      have hfz15_8 := blk_frozen BK157.out 8
      go_wp2
      go_ret
      exact ⟨by first | rfl | (simp [errW_none, errW_some] <;> rfl) | (simp [*, errW_none, errW_some] <;> rfl), by repeat (first | (with_reducible first | exact HB.out | apply below_alloc | apply pw_below_drewN | apply below_drew1 | refine below_set ?_ GE156.out | refine below_set ?_ GE157.out) | exact HB.out)⟩
    · rw [if_neg c12] at H
      have c12b0 : (a0_2 != a1_2) = false := by simpa using c12
      (try (have c12b1 : decide (a0_2 = a1_2) = true := by simpa using c12))
      (try (have c12b2 : (a0_2 == a1_2) = true := by simpa using c12))
      clear c12
      by_cases c16 : a0_3.toList = a1_3.toList
      · rw [if_pos c16] at H
        have c16b0 : (a0_3.toList == a1_3.toList) = true := beq_iff_eq.mpr c16
        have c16b1 : (a0_3.toList != a1_3.toList) = false := bne_eq_false_iff_eq.mpr c16
        clear c16
        replace H := Option.bind_eq_some_iff.mp H
        obtain ⟨t159, A170, H⟩ := H
        replace H : (if t159 = true then (if a0_5 = a1_5 then (if a0_6 = a1_6 then (if a0_7 = a1_7 then (if a0_8 = a1_8 then (some true) else (some false)) else (some false)) else (some false)) else (some false)) else (some false)) = some r := H
        have A17 := Aside0.mk A170
        clear A170
        have HL18 := Aside0.mk H
        clear H
        have hnb19 := NB156_157.out
        have hnc19 := NB157_156.out
        have hcz20_0 : w10.cell? ⟨gb156, 0, none⟩ = some (.int .i64 a0_0) := (blk_cell BK156.out 0).trans rfl
        have hcz20_1 : w10.cell? ⟨gb156, 1, none⟩ = some (.string a0_1) := (blk_cell BK156.out 1).trans rfl
        have hcz20_2 : w10.cell? ⟨gb156, 2, none⟩ = some (.bool a0_2) := (blk_cell BK156.out 2).trans rfl
        have hcz20_3 : w10.cell? ⟨gb156, 3, none⟩ = some (.string a0_3) := (blk_cell BK156.out 3).trans rfl
        have hcz20_4 : w10.cell? ⟨gb156, 4, none⟩ = some (.slice A0_4 l0_4.length c0_4) := (blk_cell BK156.out 4).trans rfl
        have hcz20_5 : w10.cell? ⟨gb156, 5, none⟩ = some (.int .i64 a0_5) := (blk_cell BK156.out 5).trans rfl
        have hcz20_6 : w10.cell? ⟨gb156, 6, none⟩ = some (.int .i64 a0_6) := (blk_cell BK156.out 6).trans rfl
        have hcz20_7 : w10.cell? ⟨gb156, 7, none⟩ = some (.int .i64 a0_7) := (blk_cell BK156.out 7).trans rfl
        have hcz20_8 : w10.cell? ⟨gb156, 8, none⟩ = some (.int .i64 a0_8) := (blk_cell BK156.out 8).trans rfl
        have hfz20_0 := blk_frozen BK156.out 0
        have hfz20_1 := blk_frozen BK156.out 1
        have hfz20_2 := blk_frozen BK156.out 2
        have hfz20_3 := blk_frozen BK156.out 3
        have hfz20_4 := blk_frozen BK156.out 4
        have hfz20_5 := blk_frozen BK156.out 5
        have hfz20_6 := blk_frozen BK156.out 6
        have hfz20_7 := blk_frozen BK156.out 7
        have hfz20_8 := blk_frozen BK156.out 8
        have hcz21_0 : w10.cell? ⟨gb157, 0, none⟩ = some (.int .i64 a1_0) := (blk_cell BK157.out 0).trans rfl
        have hcz21_1 : w10.cell? ⟨gb157, 1, none⟩ = some (.string a1_1) := (blk_cell BK157.out 1).trans rfl
        have hcz21_2 : w10.cell? ⟨gb157, 2, none⟩ = some (.bool a1_2) := (blk_cell BK157.out 2).trans rfl
        have hcz21_3 : w10.cell? ⟨gb157, 3, none⟩ = some (.string a1_3) := (blk_cell BK157.out 3).trans rfl
        have hcz21_4 : w10.cell? ⟨gb157, 4, none⟩ = some (.slice A1_4 l1_4.length c1_4) := (blk_cell BK157.out 4).trans rfl
        have hcz21_5 : w10.cell? ⟨gb157, 5, none⟩ = some (.int .i64 a1_5) := (blk_cell BK157.out 5).trans rfl
        have hcz21_6 : w10.cell? ⟨gb157, 6, none⟩ = some (.int .i64 a1_6) := (blk_cell BK157.out 6).trans rfl
        have hcz21_7 : w10.cell? ⟨gb157, 7, none⟩ = some (.int .i64 a1_7) := (blk_cell BK157.out 7).trans rfl
        have hcz21_8 : w10.cell? ⟨gb157, 8, none⟩ = some (.int .i64 a1_8) := (blk_cell BK157.out 8).trans rfl
        have hfz21_0 := blk_frozen BK157.out 0
        have hfz21_1 := blk_frozen BK157.out 1
        have hfz21_2 := blk_frozen BK157.out 2
        have hfz21_3 := blk_frozen BK157.out 3
        have hfz21_4 := blk_frozen BK157.out 4
        have hfz21_5 := blk_frozen BK157.out 5
        have hfz21_6 := blk_frozen BK157.out 6
        have hfz21_7 := blk_frozen BK157.out 7
        have hfz21_8 := blk_frozen BK157.out 8
        go_upto_if 26 with (first | ((with_reducible refine gate_callee (f := 38) rfl ?_); refine goesL_ (some 25) rfl rfl Tryd.func38 (by kernel_rfl) rfl #[.slice A0_4 l0_4.length c0_4, .slice A1_4 l1_4.length c1_4] rfl (by (try simp only [List.map_toArray, List.map_cons, List.map_nil]); first | done | rfl | (simp only [List.length_drop, List.length_take]; rfl)) ?_; (with_reducible refine (laws_eqKeyS.calls k _ _ l0_4 _ _ l1_4 t159 _ ?side1 ?side2 ?side3 ?side4 A17.out).mono ?_); (case side1 => repeat (first | exact (Kd.C_below HR0_4.out HB.out) | (with_reducible refine Kd.C_alloc ?_ _) | (with_reducible refine Kd.C_drewN ?_ _) | (with_reducible refine Kd.C_drew ?_))); (case side2 => exact HC0_4.out); (case side3 => repeat (first | exact (Kd.C_below HR1_4.out HB.out) | (with_reducible refine Kd.C_alloc ?_ _) | (with_reducible refine Kd.C_drewN ?_ _) | (with_reducible refine Kd.C_drew ?_))); (case side4 => exact HC1_4.out); rintro e w22 ⟨rfl, hb⟩; refine ⟨_, rfl, ?_⟩; have n0_ := Aside0.mk (blk_below (g := gb156) (o := .cells #[.int .i64 a0_0, .string a0_1, .bool a0_2, .string a0_3, .slice A0_4 l0_4.length c0_4, .int .i64 a0_5, .int .i64 a0_6, .int .i64 a0_7, .int .i64 a0_8] 32 (0, 0)) (by (with_reducible repeat (first | refine blk_drewN ?_ _ | refine blk_drew ?_ | refine blk_alloc ?_ _)); exact BK156.out) hb); have n1_ := Aside0.mk (blk_below (g := gb157) (o := .cells #[.int .i64 a1_0, .string a1_1, .bool a1_2, .string a1_3, .slice A1_4 l1_4.length c1_4, .int .i64 a1_5, .int .i64 a1_6, .int .i64 a1_7, .int .i64 a1_8] 32 (0, 0)) (by (with_reducible repeat (first | refine blk_drewN ?_ _ | refine blk_drew ?_ | refine blk_alloc ?_ _)); exact BK157.out) hb); have n2_ := Aside0.mk (below_step (by repeat (first | (with_reducible first | exact HB.out | apply below_alloc | apply pw_below_drewN | apply below_drew1 | refine below_set ?_ GE156.out | refine below_set ?_ GE157.out) | exact HB.out)) hb); clear BK156; clear BK157; clear HB; have BK156 := n0_; have BK157 := n1_; have HB := n2_; clear n0_ n1_ n2_; (try clear hb); (try clear hb2); (try clear hk); (try clear hi)))
        have H := HL18.out
        clear HL18
        by_cases c23 : t159 = true
        · subst c23
          have H1 : (if a0_5 = a1_5 then (if a0_6 = a1_6 then (if a0_7 = a1_7 then (if a0_8 = a1_8 then (some true) else (some false)) else (some false)) else (some false)) else (some false)) = some r := by rw [if_pos rfl] at H; exact H
          clear H
          have H := H1
          clear H1
          by_cases c24 : a0_5 = a1_5
          · rw [if_pos c24] at H
            have c24b0 : (a0_5 == a1_5) = true := beq_iff_eq.mpr c24
            have c24b1 : (a0_5 != a1_5) = false := bne_eq_false_iff_eq.mpr c24
            clear c24
            by_cases c25 : a0_6 = a1_6
            · rw [if_pos c25] at H
              have c25b0 : (a0_6 == a1_6) = true := beq_iff_eq.mpr c25
              have c25b1 : (a0_6 != a1_6) = false := bne_eq_false_iff_eq.mpr c25
              clear c25
              by_cases c26 : a0_7 = a1_7
              · rw [if_pos c26] at H
                have c26b0 : (a0_7 == a1_7) = true := beq_iff_eq.mpr c26
                have c26b1 : (a0_7 != a1_7) = false := bne_eq_false_iff_eq.mpr c26
                clear c26
                by_cases c27 : a0_8 = a1_8
                · rw [if_pos c27] at H
                  have c27b0 : (a0_8 == a1_8) = true := beq_iff_eq.mpr c27
                  have c27b1 : (a0_8 != a1_8) = false := bne_eq_false_iff_eq.mpr c27
                  clear c27
                  obtain rfl := Option.some.inj H
                  have hnb28 := NB156_157.out
                  have hnc28 := NB157_156.out
                  have hcz29_0 : w22.cell? ⟨gb156, 0, none⟩ = some (.int .i64 a0_0) := (blk_cell BK156.out 0).trans rfl
                  have hcz29_1 : w22.cell? ⟨gb156, 1, none⟩ = some (.string a0_1) := (blk_cell BK156.out 1).trans rfl
                  have hcz29_2 : w22.cell? ⟨gb156, 2, none⟩ = some (.bool a0_2) := (blk_cell BK156.out 2).trans rfl
                  have hcz29_3 : w22.cell? ⟨gb156, 3, none⟩ = some (.string a0_3) := (blk_cell BK156.out 3).trans rfl
                  have hcz29_4 : w22.cell? ⟨gb156, 4, none⟩ = some (.slice A0_4 l0_4.length c0_4) := (blk_cell BK156.out 4).trans rfl
                  have hcz29_5 : w22.cell? ⟨gb156, 5, none⟩ = some (.int .i64 a0_5) := (blk_cell BK156.out 5).trans rfl
                  have hcz29_6 : w22.cell? ⟨gb156, 6, none⟩ = some (.int .i64 a0_6) := (blk_cell BK156.out 6).trans rfl
                  have hcz29_7 : w22.cell? ⟨gb156, 7, none⟩ = some (.int .i64 a0_7) := (blk_cell BK156.out 7).trans rfl
                  have hcz29_8 : w22.cell? ⟨gb156, 8, none⟩ = some (.int .i64 a0_8) := (blk_cell BK156.out 8).trans rfl
                  have hfz29_0 := blk_frozen BK156.out 0
                  have hfz29_1 := blk_frozen BK156.out 1
                  have hfz29_2 := blk_frozen BK156.out 2
                  have hfz29_3 := blk_frozen BK156.out 3
                  have hfz29_4 := blk_frozen BK156.out 4
                  have hfz29_5 := blk_frozen BK156.out 5
                  have hfz29_6 := blk_frozen BK156.out 6
                  have hfz29_7 := blk_frozen BK156.out 7
                  have hfz29_8 := blk_frozen BK156.out 8
                  have hcz30_0 : w22.cell? ⟨gb157, 0, none⟩ = some (.int .i64 a1_0) := (blk_cell BK157.out 0).trans rfl
                  have hcz30_1 : w22.cell? ⟨gb157, 1, none⟩ = some (.string a1_1) := (blk_cell BK157.out 1).trans rfl
                  have hcz30_2 : w22.cell? ⟨gb157, 2, none⟩ = some (.bool a1_2) := (blk_cell BK157.out 2).trans rfl
                  have hcz30_3 : w22.cell? ⟨gb157, 3, none⟩ = some (.string a1_3) := (blk_cell BK157.out 3).trans rfl
                  have hcz30_4 : w22.cell? ⟨gb157, 4, none⟩ = some (.slice A1_4 l1_4.length c1_4) := (blk_cell BK157.out 4).trans rfl
                  have hcz30_5 : w22.cell? ⟨gb157, 5, none⟩ = some (.int .i64 a1_5) := (blk_cell BK157.out 5).trans rfl
                  have hcz30_6 : w22.cell? ⟨gb157, 6, none⟩ = some (.int .i64 a1_6) := (blk_cell BK157.out 6).trans rfl
                  have hcz30_7 : w22.cell? ⟨gb157, 7, none⟩ = some (.int .i64 a1_7) := (blk_cell BK157.out 7).trans rfl
                  have hcz30_8 : w22.cell? ⟨gb157, 8, none⟩ = some (.int .i64 a1_8) := (blk_cell BK157.out 8).trans rfl
                  have hfz30_0 := blk_frozen BK157.out 0
                  have hfz30_1 := blk_frozen BK157.out 1
                  have hfz30_2 := blk_frozen BK157.out 2
                  have hfz30_3 := blk_frozen BK157.out 3
                  have hfz30_4 := blk_frozen BK157.out 4
                  have hfz30_5 := blk_frozen BK157.out 5
                  have hfz30_6 := blk_frozen BK157.out 6
                  have hfz30_7 := blk_frozen BK157.out 7
                  have hfz30_8 := blk_frozen BK157.out 8
                  go_wp2
                  go_ret
                  exact ⟨by first | rfl | (simp [errW_none, errW_some] <;> rfl) | (simp [*, errW_none, errW_some] <;> rfl), by repeat (first | (with_reducible first | exact HB.out | apply below_alloc | apply pw_below_drewN | apply below_drew1 | refine below_set ?_ GE156.out | refine below_set ?_ GE157.out) | exact HB.out)⟩
                · rw [if_neg c27] at H
                  have c27b0 : (a0_8 == a1_8) = false := beq_eq_false_iff_ne.mpr c27
                  have c27b1 : (a0_8 != a1_8) = true := bne_iff_ne.mpr c27
                  obtain rfl := Option.some.inj H
                  have hnb31 := NB156_157.out
                  have hnc31 := NB157_156.out
                  have hcz32_0 : w22.cell? ⟨gb156, 0, none⟩ = some (.int .i64 a0_0) := (blk_cell BK156.out 0).trans rfl
                  have hcz32_1 : w22.cell? ⟨gb156, 1, none⟩ = some (.string a0_1) := (blk_cell BK156.out 1).trans rfl
                  have hcz32_2 : w22.cell? ⟨gb156, 2, none⟩ = some (.bool a0_2) := (blk_cell BK156.out 2).trans rfl
                  have hcz32_3 : w22.cell? ⟨gb156, 3, none⟩ = some (.string a0_3) := (blk_cell BK156.out 3).trans rfl
                  have hcz32_4 : w22.cell? ⟨gb156, 4, none⟩ = some (.slice A0_4 l0_4.length c0_4) := (blk_cell BK156.out 4).trans rfl
                  have hcz32_5 : w22.cell? ⟨gb156, 5, none⟩ = some (.int .i64 a0_5) := (blk_cell BK156.out 5).trans rfl
                  have hcz32_6 : w22.cell? ⟨gb156, 6, none⟩ = some (.int .i64 a0_6) := (blk_cell BK156.out 6).trans rfl
                  have hcz32_7 : w22.cell? ⟨gb156, 7, none⟩ = some (.int .i64 a0_7) := (blk_cell BK156.out 7).trans rfl
                  have hcz32_8 : w22.cell? ⟨gb156, 8, none⟩ = some (.int .i64 a0_8) := (blk_cell BK156.out 8).trans rfl
                  have hfz32_0 := blk_frozen BK156.out 0
                  have hfz32_1 := blk_frozen BK156.out 1
                  have hfz32_2 := blk_frozen BK156.out 2
                  have hfz32_3 := blk_frozen BK156.out 3
                  have hfz32_4 := blk_frozen BK156.out 4
                  have hfz32_5 := blk_frozen BK156.out 5
                  have hfz32_6 := blk_frozen BK156.out 6
                  have hfz32_7 := blk_frozen BK156.out 7
                  have hfz32_8 := blk_frozen BK156.out 8
                  have hcz33_0 : w22.cell? ⟨gb157, 0, none⟩ = some (.int .i64 a1_0) := (blk_cell BK157.out 0).trans rfl
                  have hcz33_1 : w22.cell? ⟨gb157, 1, none⟩ = some (.string a1_1) := (blk_cell BK157.out 1).trans rfl
                  have hcz33_2 : w22.cell? ⟨gb157, 2, none⟩ = some (.bool a1_2) := (blk_cell BK157.out 2).trans rfl
                  have hcz33_3 : w22.cell? ⟨gb157, 3, none⟩ = some (.string a1_3) := (blk_cell BK157.out 3).trans rfl
                  have hcz33_4 : w22.cell? ⟨gb157, 4, none⟩ = some (.slice A1_4 l1_4.length c1_4) := (blk_cell BK157.out 4).trans rfl
                  have hcz33_5 : w22.cell? ⟨gb157, 5, none⟩ = some (.int .i64 a1_5) := (blk_cell BK157.out 5).trans rfl
                  have hcz33_6 : w22.cell? ⟨gb157, 6, none⟩ = some (.int .i64 a1_6) := (blk_cell BK157.out 6).trans rfl
                  have hcz33_7 : w22.cell? ⟨gb157, 7, none⟩ = some (.int .i64 a1_7) := (blk_cell BK157.out 7).trans rfl
                  have hcz33_8 : w22.cell? ⟨gb157, 8, none⟩ = some (.int .i64 a1_8) := (blk_cell BK157.out 8).trans rfl
                  have hfz33_0 := blk_frozen BK157.out 0
                  have hfz33_1 := blk_frozen BK157.out 1
                  have hfz33_2 := blk_frozen BK157.out 2
                  have hfz33_3 := blk_frozen BK157.out 3
                  have hfz33_4 := blk_frozen BK157.out 4
                  have hfz33_5 := blk_frozen BK157.out 5
                  have hfz33_6 := blk_frozen BK157.out 6
                  have hfz33_7 := blk_frozen BK157.out 7
                  have hfz33_8 := blk_frozen BK157.out 8
                  go_wp2
                  go_ret
                  exact ⟨by first | rfl | (simp [errW_none, errW_some] <;> rfl) | (simp [*, errW_none, errW_some] <;> rfl), by repeat (first | (with_reducible first | exact HB.out | apply below_alloc | apply pw_below_drewN | apply below_drew1 | refine below_set ?_ GE156.out | refine below_set ?_ GE157.out) | exact HB.out)⟩
              · rw [if_neg c26] at H
                have c26b0 : (a0_7 == a1_7) = false := beq_eq_false_iff_ne.mpr c26
                have c26b1 : (a0_7 != a1_7) = true := bne_iff_ne.mpr c26
                obtain rfl := Option.some.inj H
                have hnb34 := NB156_157.out
                have hnc34 := NB157_156.out
                have hcz35_0 : w22.cell? ⟨gb156, 0, none⟩ = some (.int .i64 a0_0) := (blk_cell BK156.out 0).trans rfl
                have hcz35_1 : w22.cell? ⟨gb156, 1, none⟩ = some (.string a0_1) := (blk_cell BK156.out 1).trans rfl
                have hcz35_2 : w22.cell? ⟨gb156, 2, none⟩ = some (.bool a0_2) := (blk_cell BK156.out 2).trans rfl
                have hcz35_3 : w22.cell? ⟨gb156, 3, none⟩ = some (.string a0_3) := (blk_cell BK156.out 3).trans rfl
                have hcz35_4 : w22.cell? ⟨gb156, 4, none⟩ = some (.slice A0_4 l0_4.length c0_4) := (blk_cell BK156.out 4).trans rfl
                have hcz35_5 : w22.cell? ⟨gb156, 5, none⟩ = some (.int .i64 a0_5) := (blk_cell BK156.out 5).trans rfl
                have hcz35_6 : w22.cell? ⟨gb156, 6, none⟩ = some (.int .i64 a0_6) := (blk_cell BK156.out 6).trans rfl
                have hcz35_7 : w22.cell? ⟨gb156, 7, none⟩ = some (.int .i64 a0_7) := (blk_cell BK156.out 7).trans rfl
                have hcz35_8 : w22.cell? ⟨gb156, 8, none⟩ = some (.int .i64 a0_8) := (blk_cell BK156.out 8).trans rfl
                have hfz35_0 := blk_frozen BK156.out 0
                have hfz35_1 := blk_frozen BK156.out 1
                have hfz35_2 := blk_frozen BK156.out 2
                have hfz35_3 := blk_frozen BK156.out 3
                have hfz35_4 := blk_frozen BK156.out 4
                have hfz35_5 := blk_frozen BK156.out 5
                have hfz35_6 := blk_frozen BK156.out 6
                have hfz35_7 := blk_frozen BK156.out 7
                have hfz35_8 := blk_frozen BK156.out 8
                have hcz36_0 : w22.cell? ⟨gb157, 0, none⟩ = some (.int .i64 a1_0) := (blk_cell BK157.out 0).trans rfl
                have hcz36_1 : w22.cell? ⟨gb157, 1, none⟩ = some (.string a1_1) := (blk_cell BK157.out 1).trans rfl
                have hcz36_2 : w22.cell? ⟨gb157, 2, none⟩ = some (.bool a1_2) := (blk_cell BK157.out 2).trans rfl
                have hcz36_3 : w22.cell? ⟨gb157, 3, none⟩ = some (.string a1_3) := (blk_cell BK157.out 3).trans rfl
                have hcz36_4 : w22.cell? ⟨gb157, 4, none⟩ = some (.slice A1_4 l1_4.length c1_4) := (blk_cell BK157.out 4).trans rfl
                have hcz36_5 : w22.cell? ⟨gb157, 5, none⟩ = some (.int .i64 a1_5) := (blk_cell BK157.out 5).trans rfl
                have hcz36_6 : w22.cell? ⟨gb157, 6, none⟩ = some (.int .i64 a1_6) := (blk_cell BK157.out 6).trans rfl
                have hcz36_7 : w22.cell? ⟨gb157, 7, none⟩ = some (.int .i64 a1_7) := (blk_cell BK157.out 7).trans rfl
                have hcz36_8 : w22.cell? ⟨gb157, 8, none⟩ = some (.int .i64 a1_8) := (blk_cell BK157.out 8).trans rfl
                have hfz36_0 := blk_frozen BK157.out 0
                have hfz36_1 := blk_frozen BK157.out 1
                have hfz36_2 := blk_frozen BK157.out 2
                have hfz36_3 := blk_frozen BK157.out 3
                have hfz36_4 := blk_frozen BK157.out 4
                have hfz36_5 := blk_frozen BK157.out 5
                have hfz36_6 := blk_frozen BK157.out 6
                have hfz36_7 := blk_frozen BK157.out 7
                have hfz36_8 := blk_frozen BK157.out 8
                go_wp2
                go_ret
                exact ⟨by first | rfl | (simp [errW_none, errW_some] <;> rfl) | (simp [*, errW_none, errW_some] <;> rfl), by repeat (first | (with_reducible first | exact HB.out | apply below_alloc | apply pw_below_drewN | apply below_drew1 | refine below_set ?_ GE156.out | refine below_set ?_ GE157.out) | exact HB.out)⟩
            · rw [if_neg c25] at H
              have c25b0 : (a0_6 == a1_6) = false := beq_eq_false_iff_ne.mpr c25
              have c25b1 : (a0_6 != a1_6) = true := bne_iff_ne.mpr c25
              obtain rfl := Option.some.inj H
              have hnb37 := NB156_157.out
              have hnc37 := NB157_156.out
              have hcz38_0 : w22.cell? ⟨gb156, 0, none⟩ = some (.int .i64 a0_0) := (blk_cell BK156.out 0).trans rfl
              have hcz38_1 : w22.cell? ⟨gb156, 1, none⟩ = some (.string a0_1) := (blk_cell BK156.out 1).trans rfl
              have hcz38_2 : w22.cell? ⟨gb156, 2, none⟩ = some (.bool a0_2) := (blk_cell BK156.out 2).trans rfl
              have hcz38_3 : w22.cell? ⟨gb156, 3, none⟩ = some (.string a0_3) := (blk_cell BK156.out 3).trans rfl
              have hcz38_4 : w22.cell? ⟨gb156, 4, none⟩ = some (.slice A0_4 l0_4.length c0_4) := (blk_cell BK156.out 4).trans rfl
              have hcz38_5 : w22.cell? ⟨gb156, 5, none⟩ = some (.int .i64 a0_5) := (blk_cell BK156.out 5).trans rfl
              have hcz38_6 : w22.cell? ⟨gb156, 6, none⟩ = some (.int .i64 a0_6) := (blk_cell BK156.out 6).trans rfl
              have hcz38_7 : w22.cell? ⟨gb156, 7, none⟩ = some (.int .i64 a0_7) := (blk_cell BK156.out 7).trans rfl
              have hcz38_8 : w22.cell? ⟨gb156, 8, none⟩ = some (.int .i64 a0_8) := (blk_cell BK156.out 8).trans rfl
              have hfz38_0 := blk_frozen BK156.out 0
              have hfz38_1 := blk_frozen BK156.out 1
              have hfz38_2 := blk_frozen BK156.out 2
              have hfz38_3 := blk_frozen BK156.out 3
              have hfz38_4 := blk_frozen BK156.out 4
              have hfz38_5 := blk_frozen BK156.out 5
              have hfz38_6 := blk_frozen BK156.out 6
              have hfz38_7 := blk_frozen BK156.out 7
              have hfz38_8 := blk_frozen BK156.out 8
              have hcz39_0 : w22.cell? ⟨gb157, 0, none⟩ = some (.int .i64 a1_0) := (blk_cell BK157.out 0).trans rfl
              have hcz39_1 : w22.cell? ⟨gb157, 1, none⟩ = some (.string a1_1) := (blk_cell BK157.out 1).trans rfl
              have hcz39_2 : w22.cell? ⟨gb157, 2, none⟩ = some (.bool a1_2) := (blk_cell BK157.out 2).trans rfl
              have hcz39_3 : w22.cell? ⟨gb157, 3, none⟩ = some (.string a1_3) := (blk_cell BK157.out 3).trans rfl
              have hcz39_4 : w22.cell? ⟨gb157, 4, none⟩ = some (.slice A1_4 l1_4.length c1_4) := (blk_cell BK157.out 4).trans rfl
              have hcz39_5 : w22.cell? ⟨gb157, 5, none⟩ = some (.int .i64 a1_5) := (blk_cell BK157.out 5).trans rfl
              have hcz39_6 : w22.cell? ⟨gb157, 6, none⟩ = some (.int .i64 a1_6) := (blk_cell BK157.out 6).trans rfl
              have hcz39_7 : w22.cell? ⟨gb157, 7, none⟩ = some (.int .i64 a1_7) := (blk_cell BK157.out 7).trans rfl
              have hcz39_8 : w22.cell? ⟨gb157, 8, none⟩ = some (.int .i64 a1_8) := (blk_cell BK157.out 8).trans rfl
              have hfz39_0 := blk_frozen BK157.out 0
              have hfz39_1 := blk_frozen BK157.out 1
              have hfz39_2 := blk_frozen BK157.out 2
              have hfz39_3 := blk_frozen BK157.out 3
              have hfz39_4 := blk_frozen BK157.out 4
              have hfz39_5 := blk_frozen BK157.out 5
              have hfz39_6 := blk_frozen BK157.out 6
              have hfz39_7 := blk_frozen BK157.out 7
              have hfz39_8 := blk_frozen BK157.out 8
              go_wp2
              go_ret
              exact ⟨by first | rfl | (simp [errW_none, errW_some] <;> rfl) | (simp [*, errW_none, errW_some] <;> rfl), by repeat (first | (with_reducible first | exact HB.out | apply below_alloc | apply pw_below_drewN | apply below_drew1 | refine below_set ?_ GE156.out | refine below_set ?_ GE157.out) | exact HB.out)⟩
          · rw [if_neg c24] at H
            have c24b0 : (a0_5 == a1_5) = false := beq_eq_false_iff_ne.mpr c24
            have c24b1 : (a0_5 != a1_5) = true := bne_iff_ne.mpr c24
            obtain rfl := Option.some.inj H
            have hnb40 := NB156_157.out
            have hnc40 := NB157_156.out
            have hcz41_0 : w22.cell? ⟨gb156, 0, none⟩ = some (.int .i64 a0_0) := (blk_cell BK156.out 0).trans rfl
            have hcz41_1 : w22.cell? ⟨gb156, 1, none⟩ = some (.string a0_1) := (blk_cell BK156.out 1).trans rfl
            have hcz41_2 : w22.cell? ⟨gb156, 2, none⟩ = some (.bool a0_2) := (blk_cell BK156.out 2).trans rfl
            have hcz41_3 : w22.cell? ⟨gb156, 3, none⟩ = some (.string a0_3) := (blk_cell BK156.out 3).trans rfl
            have hcz41_4 : w22.cell? ⟨gb156, 4, none⟩ = some (.slice A0_4 l0_4.length c0_4) := (blk_cell BK156.out 4).trans rfl
            have hcz41_5 : w22.cell? ⟨gb156, 5, none⟩ = some (.int .i64 a0_5) := (blk_cell BK156.out 5).trans rfl
            have hcz41_6 : w22.cell? ⟨gb156, 6, none⟩ = some (.int .i64 a0_6) := (blk_cell BK156.out 6).trans rfl
            have hcz41_7 : w22.cell? ⟨gb156, 7, none⟩ = some (.int .i64 a0_7) := (blk_cell BK156.out 7).trans rfl
            have hcz41_8 : w22.cell? ⟨gb156, 8, none⟩ = some (.int .i64 a0_8) := (blk_cell BK156.out 8).trans rfl
            have hfz41_0 := blk_frozen BK156.out 0
            have hfz41_1 := blk_frozen BK156.out 1
            have hfz41_2 := blk_frozen BK156.out 2
            have hfz41_3 := blk_frozen BK156.out 3
            have hfz41_4 := blk_frozen BK156.out 4
            have hfz41_5 := blk_frozen BK156.out 5
            have hfz41_6 := blk_frozen BK156.out 6
            have hfz41_7 := blk_frozen BK156.out 7
            have hfz41_8 := blk_frozen BK156.out 8
            have hcz42_0 : w22.cell? ⟨gb157, 0, none⟩ = some (.int .i64 a1_0) := (blk_cell BK157.out 0).trans rfl
            have hcz42_1 : w22.cell? ⟨gb157, 1, none⟩ = some (.string a1_1) := (blk_cell BK157.out 1).trans rfl
            have hcz42_2 : w22.cell? ⟨gb157, 2, none⟩ = some (.bool a1_2) := (blk_cell BK157.out 2).trans rfl
            have hcz42_3 : w22.cell? ⟨gb157, 3, none⟩ = some (.string a1_3) := (blk_cell BK157.out 3).trans rfl
            have hcz42_4 : w22.cell? ⟨gb157, 4, none⟩ = some (.slice A1_4 l1_4.length c1_4) := (blk_cell BK157.out 4).trans rfl
            have hcz42_5 : w22.cell? ⟨gb157, 5, none⟩ = some (.int .i64 a1_5) := (blk_cell BK157.out 5).trans rfl
            have hcz42_6 : w22.cell? ⟨gb157, 6, none⟩ = some (.int .i64 a1_6) := (blk_cell BK157.out 6).trans rfl
            have hcz42_7 : w22.cell? ⟨gb157, 7, none⟩ = some (.int .i64 a1_7) := (blk_cell BK157.out 7).trans rfl
            have hcz42_8 : w22.cell? ⟨gb157, 8, none⟩ = some (.int .i64 a1_8) := (blk_cell BK157.out 8).trans rfl
            have hfz42_0 := blk_frozen BK157.out 0
            have hfz42_1 := blk_frozen BK157.out 1
            have hfz42_2 := blk_frozen BK157.out 2
            have hfz42_3 := blk_frozen BK157.out 3
            have hfz42_4 := blk_frozen BK157.out 4
            have hfz42_5 := blk_frozen BK157.out 5
            have hfz42_6 := blk_frozen BK157.out 6
            have hfz42_7 := blk_frozen BK157.out 7
            have hfz42_8 := blk_frozen BK157.out 8
            go_wp2
            go_ret
            exact ⟨by first | rfl | (simp [errW_none, errW_some] <;> rfl) | (simp [*, errW_none, errW_some] <;> rfl), by repeat (first | (with_reducible first | exact HB.out | apply below_alloc | apply pw_below_drewN | apply below_drew1 | refine below_set ?_ GE156.out | refine below_set ?_ GE157.out) | exact HB.out)⟩
        · replace c23 := Bool.eq_false_iff.mpr c23
          subst c23
          have H1 : (some false) = some r := by rw [if_neg (show ¬ (false = true) by decide)] at H; exact H
          clear H
          have H := H1
          clear H1
          obtain rfl := Option.some.inj H
          go_wp2
          go_ret
          exact ⟨by first | rfl | (simp [errW_none, errW_some] <;> rfl) | (simp [*, errW_none, errW_some] <;> rfl), by repeat (first | (with_reducible first | exact HB.out | apply below_alloc | apply pw_below_drewN | apply below_drew1 | refine below_set ?_ GE156.out | refine below_set ?_ GE157.out) | exact HB.out)⟩
      · rw [if_neg c16] at H
        have c16b0 : (a0_3.toList == a1_3.toList) = false := beq_eq_false_iff_ne.mpr c16
        have c16b1 : (a0_3.toList != a1_3.toList) = true := bne_iff_ne.mpr c16
        obtain rfl := Option.some.inj H
        have hnb43 := NB156_157.out
        have hnc43 := NB157_156.out
        have hcz44_0 : w10.cell? ⟨gb156, 0, none⟩ = some (.int .i64 a0_0) := (blk_cell BK156.out 0).trans rfl
        have hcz44_1 : w10.cell? ⟨gb156, 1, none⟩ = some (.string a0_1) := (blk_cell BK156.out 1).trans rfl
        have hcz44_2 : w10.cell? ⟨gb156, 2, none⟩ = some (.bool a0_2) := (blk_cell BK156.out 2).trans rfl
        have hcz44_3 : w10.cell? ⟨gb156, 3, none⟩ = some (.string a0_3) := (blk_cell BK156.out 3).trans rfl
        have hcz44_4 : w10.cell? ⟨gb156, 4, none⟩ = some (.slice A0_4 l0_4.length c0_4) := (blk_cell BK156.out 4).trans rfl
        have hcz44_5 : w10.cell? ⟨gb156, 5, none⟩ = some (.int .i64 a0_5) := (blk_cell BK156.out 5).trans rfl
        have hcz44_6 : w10.cell? ⟨gb156, 6, none⟩ = some (.int .i64 a0_6) := (blk_cell BK156.out 6).trans rfl
        have hcz44_7 : w10.cell? ⟨gb156, 7, none⟩ = some (.int .i64 a0_7) := (blk_cell BK156.out 7).trans rfl
        have hcz44_8 : w10.cell? ⟨gb156, 8, none⟩ = some (.int .i64 a0_8) := (blk_cell BK156.out 8).trans rfl
        have hfz44_0 := blk_frozen BK156.out 0
        have hfz44_1 := blk_frozen BK156.out 1
        have hfz44_2 := blk_frozen BK156.out 2
        have hfz44_3 := blk_frozen BK156.out 3
        have hfz44_4 := blk_frozen BK156.out 4
        have hfz44_5 := blk_frozen BK156.out 5
        have hfz44_6 := blk_frozen BK156.out 6
        have hfz44_7 := blk_frozen BK156.out 7
        have hfz44_8 := blk_frozen BK156.out 8
        have hcz45_0 : w10.cell? ⟨gb157, 0, none⟩ = some (.int .i64 a1_0) := (blk_cell BK157.out 0).trans rfl
        have hcz45_1 : w10.cell? ⟨gb157, 1, none⟩ = some (.string a1_1) := (blk_cell BK157.out 1).trans rfl
        have hcz45_2 : w10.cell? ⟨gb157, 2, none⟩ = some (.bool a1_2) := (blk_cell BK157.out 2).trans rfl
        have hcz45_3 : w10.cell? ⟨gb157, 3, none⟩ = some (.string a1_3) := (blk_cell BK157.out 3).trans rfl
        have hcz45_4 : w10.cell? ⟨gb157, 4, none⟩ = some (.slice A1_4 l1_4.length c1_4) := (blk_cell BK157.out 4).trans rfl
        have hcz45_5 : w10.cell? ⟨gb157, 5, none⟩ = some (.int .i64 a1_5) := (blk_cell BK157.out 5).trans rfl
        have hcz45_6 : w10.cell? ⟨gb157, 6, none⟩ = some (.int .i64 a1_6) := (blk_cell BK157.out 6).trans rfl
        have hcz45_7 : w10.cell? ⟨gb157, 7, none⟩ = some (.int .i64 a1_7) := (blk_cell BK157.out 7).trans rfl
        have hcz45_8 : w10.cell? ⟨gb157, 8, none⟩ = some (.int .i64 a1_8) := (blk_cell BK157.out 8).trans rfl
        have hfz45_0 := blk_frozen BK157.out 0
        have hfz45_1 := blk_frozen BK157.out 1
        have hfz45_2 := blk_frozen BK157.out 2
        have hfz45_3 := blk_frozen BK157.out 3
        have hfz45_4 := blk_frozen BK157.out 4
        have hfz45_5 := blk_frozen BK157.out 5
        have hfz45_6 := blk_frozen BK157.out 6
        have hfz45_7 := blk_frozen BK157.out 7
        have hfz45_8 := blk_frozen BK157.out 8
        go_wp2
        go_ret
        exact ⟨by first | rfl | (simp [errW_none, errW_some] <;> rfl) | (simp [*, errW_none, errW_some] <;> rfl), by repeat (first | (with_reducible first | exact HB.out | apply below_alloc | apply pw_below_drewN | apply below_drew1 | refine below_set ?_ GE156.out | refine below_set ?_ GE157.out) | exact HB.out)⟩
  · replace c11 := Bool.eq_false_iff.mpr c11
    subst c11
    have H1 : (some false) = some r := by rw [if_neg (show ¬ (false = true) by decide)] at H; exact H
    clear H
    have H := H1
    clear H1
    obtain rfl := Option.some.inj H
    go_wp2
    go_ret
    exact ⟨by first | rfl | (simp [errW_none, errW_some] <;> rfl) | (simp [*, errW_none, errW_some] <;> rfl), by repeat (first | (with_reducible first | exact HB.out | apply below_alloc | apply pw_below_drewN | apply below_drew1 | refine below_set ?_ GE156.out | refine below_set ?_ GE157.out) | exact HB.out)⟩
end Go.Proofs.YtnbohlcibgfjaaaDoor.Gp
end
