/- A part of the proof of RowFnExactSub: each text's theorems that it needs, packed by shake.py, a program of this work; Lean checks them. -/
import Derived.Test.YtnbohlcibgfjaaaDoorSb2
import Derived.Test.YtnbohlcibgfjaaaDoorSb5
section
namespace Go.Proofs.YtnbohlcibgfjaaaDoor.Gp
open Go.RowKit Go.Proofs.YtnbohlcibgfjaaaDoorW.PrintWords Go.Proofs.YtnbohlcibgfjaaaDoorW.PrintLast Go.Proofs.YtnbohlcibgfjaaaDoorW.PrintMore
set_option linter.unusedVariables false
set_option linter.unusedSimpArgs false
mutual
def impl_ValidGraph.l0 : Nat → List (S145) → Int → Int → List (S145) → Option (Bool)
  | 0, _, _, _, _ => none
  | k + 1, x14, x15, x16, x201000 => if x16 < x15 then (if 0 ≤ x16 then (if x16 < (x14.length : Int) then (impl_ValidGraph.l1 k x14 x15 x16 ((rd_T145 x14 x16).f2) (((rd_T145 x14 x16).f2).length : Int) 0 x201000 ((rd_T145 x14 x16).f0) ((rd_T145 x14 x16).f1) ((rd_T145 x14 x16).f2)) else (none)) else (none)) else (some true)
def impl_ValidGraph.l1 : Nat → List (S145) → Int → Int → List Int → Int → Int → List (S145) → Int → List ByteArray → List Int → Option (Bool)
  | 0, _, _, _, _, _, _, _, _, _, _ => none
  | k + 1, x14, x15, x16, x21, x22, x23, x201000, x203000, x203001, x203002 => if x23 < x22 then (if 0 ≤ x23 then (if x23 < (x21.length : Int) then (if (rd x21 x23) < 0 then (some false) else (if (rd x21 x23) ≥ (x201000.length : Int) then (some false) else (impl_ValidGraph.l1 k x14 x15 x16 x21 x22 (wrap64 (x23 + 1)) x201000 x203000 x203001 x203002))) else (none)) else (none)) else (if x203000 = 0 then (impl_ValidGraph.j2 k x14 x15 x16 x203000 (x203000 == 0) x201000 x203000 x203001 x203002) else (if x203000 = 1 then (impl_ValidGraph.j2 k x14 x15 x16 x203000 (x203000 == 1) x201000 x203000 x203001 x203002) else (impl_ValidGraph.j2 k x14 x15 x16 x203000 (x203000 == 2) x201000 x203000 x203001 x203002)))
def impl_ValidGraph.j2 : Nat → List (S145) → Int → Int → Int → Bool → List (S145) → Int → List ByteArray → List Int → Option (Bool)
  | 0, _, _, _, _, _, _, _, _, _ => none
  | k + 1, x14, x15, x16, x38, x39, x201000, x203000, x203001, x203002 => if x39 = true then (if (wrap64 ((x203001.length : Int) + (x203002.length : Int))) > 0 then (some false) else (impl_ValidGraph.l0 k x14 x15 (wrap64 (x16 + 1)) x201000)) else (if x38 = 3 then (if (x203001.length : Int) = (x203002.length : Int) then (impl_ValidGraph.l2 k x14 x15 x16 x203001 (x203001.length : Int) 0 x201000 x203000 x203001 x203002) else (some false)) else (if x38 = 4 then (if (x203001.length : Int) > 0 then (some false) else (if (x203002.length : Int) = 2 then (impl_ValidGraph.l0 k x14 x15 (wrap64 (x16 + 1)) x201000) else (some false))) else (some false)))
def impl_ValidGraph.l2 : Nat → List (S145) → Int → Int → List ByteArray → Int → Int → List (S145) → Int → List ByteArray → List Int → Option (Bool)
  | 0, _, _, _, _, _, _, _, _, _, _ => none
  | k + 1, x14, x15, x16, x61, x62, x63, x201000, x203000, x203001, x203002 => if x63 < x62 then (if 0 ≤ x63 then (if x63 < (x61.length : Int) then ((impl_goodName.f (rdOf ByteArray.empty x61 x63)).bind fun t205 => (if t205 = true then (if x63 > 0 then (if 0 ≤ (wrap64 (x63 - 1)) then (if (wrap64 (x63 - 1)) < (x203001.length : Int) then (if ((Op.bytesLess ((rdOf ByteArray.empty x203001 (wrap64 (x63 - 1))).toList) ((rdOf ByteArray.empty x61 x63).toList)) = true) then (impl_ValidGraph.l2 k x14 x15 x16 x61 x62 (wrap64 (x63 + 1)) x201000 x203000 x203001 x203002) else (some false)) else (none)) else (none)) else (impl_ValidGraph.l2 k x14 x15 x16 x61 x62 (wrap64 (x63 + 1)) x201000 x203000 x203001 x203002)) else (some false))) else (none)) else (none)) else (impl_ValidGraph.l0 k x14 x15 (wrap64 (x16 + 1)) x201000)
end
def impl_ValidGraph.f (k : Nat) (l0_0 : List (S145)) : Option (Bool) := if (l0_0.length : Int) > 4000 then (some false) else (impl_ValidGraph.l0 k l0_0 (l0_0.length : Int) 0 l0_0)
set_option maxHeartbeats 8000000 in
set_option maxRecDepth 100000 in
theorem impl_ValidGraph.calls (k : Nat) (A0_0 : Option Addr) (c0_0 : Nat) (l0_0 : List (S145)) (r : Bool) (w : World) (hG : GRes w) (hr0_0 : Kd.C k145 w A0_0 l0_0.length l0_0) (hc0_0 : l0_0.length ≤ c0_0) (h : impl_ValidGraph.f k l0_0 = some r) :
    Calls Tryd.prog 137 #[.agg #[.slice A0_0 l0_0.length c0_0]] w fun e w' => e = .returned (.bool r) ∧ Below w.heap.size w w' := by
  have hu76 := Tryd.underlying76
  have hu145 := Tryd.underlying145
  have HG := Aside0.mk hG
  clear hG
  have HR0_0 := Aside0.mk hr0_0
  have HC0_0 := Aside0.mk hc0_0
  clear hr0_0 hc0_0
  have HB := Aside0.mk (Below.refl w.heap.size w)
  have H : (if (l0_0.length : Int) > 4000 then (some false) else (impl_ValidGraph.l0 k l0_0 (l0_0.length : Int) 0 l0_0)) = some r := h
  clear h
  have HL2 := Aside0.mk H
  clear H
  go_enter Tryd.func137, Tryd.ntmps137
  go_upto_if 12 with (first | ((with_reducible refine gate_dst (N := 1) rfl ?_); (try (refine gate_guard (by rfl) ?_; dsimp only)); refine box_event ?hg (N := 1) ?hd (cs := #[.slice A0_0 l0_0.length c0_0]) (t := 76) ?hr ?_; (case hd => rfl); (case hg => rfl); (case hr => first | (go_simp; done) | (go_simp; rfl)); intro gb200 hg w3 hbox hb; have hb1_ := fromP HB.out hb (by repeat (first | (with_reducible exact Below.refl _ _) | apply below_alloc | apply pw_below_drewN | apply below_drew1)); have hb0_ := below_step hb1_ hb; have hW_ := below_step HB.out hb1_; have n1_ := Aside0.mk (hbox); have n2_ := Aside0.mk ((by rw [hg]; exact (below_size hW_) : w.heap.size ≤ gb200)); have n3_ := Aside0.mk ((by rw [hg]; exact (below_size hW_) : w.heap.size ≤ gb200)); replace HB := kH HB hb0_; have BK200 := n1_; have GW200 := n2_; have GE200 := n3_; clear hb1_ hb0_ hW_ n1_ n2_ n3_; clear hb hbox hg; obtain ⟨hcz4_0, hfz4_0⟩ := bkA1 BK200.out))
  have H := HL2.out
  clear HL2
  by_cases c5 : (l0_0.length : Int) > 4000
  · rw [if_pos c5] at H
    have c5b0 : decide (4000 < (l0_0.length : Int)) = true := decide_eq_true c5
    have c5b1 : decide (4000 < l0_0.length) = true := decide_eq_true (by omega)
    clear c5
    (first | rw [c5b0] | (simp only [i64_w, i32_w]; rw [c5b0]) | simp only [c5b2, Bool.not_false, Bool.not_true] | skip)
    obtain rfl := Option.some.inj H
    go_wp2
    go_ret
    exact ⟨by first | rfl | (simp [errW_none, errW_some] <;> rfl) | (simp [*, errW_none, errW_some] <;> rfl), by repeat (first | (with_reducible first | exact HB.out | apply below_alloc | apply pw_below_drewN | apply below_drew1 | refine below_set ?_ GE200.out) | exact HB.out)⟩
  · rw [if_neg c5] at H
    have c5b0 : decide (4000 < (l0_0.length : Int)) = false := decide_eq_false c5
    have c5b1 : decide (4000 < l0_0.length) = false := decide_eq_false (by omega)
    clear c5
    (first | rw [c5b0] | (simp only [i64_w, i32_w]; rw [c5b0]) | simp only [c5b2, Bool.not_false, Bool.not_true] | skip)
    have H' := Aside0.mk H
    clear H
    obtain ⟨hcz6_0, hfz6_0⟩ := bkA1 BK200.out
    go_wp2
    go_loopg [16] k (fun kq v16 w' => ∃ (x16_1 : Int), v16 = .int .i64 x16_1 ∧ Aside0 (impl_ValidGraph.l0 kq l0_0 (l0_0.length : Int) x16_1 l0_0 = some r) ∧ Aside0 (kq ≤ k) ∧ Aside0 (w'.heap[gb200]? = some (.cells #[(.slice A0_0 l0_0.length c0_0)] 76 (0, 0))) ∧ Aside0 (Below w.heap.size w w'))
    case atStart => exact ⟨(0), (by first | rfl | (simp; done) | (simp [*]; done)), H', ⟨Nat.le_refl _⟩, ⟨by (with_reducible repeat (first | refine blk_drewN ?_ _ | refine blk_drew ?_ | refine blk_alloc ?_ _)); exact BK200.out⟩, ⟨by repeat (first | (with_reducible first | exact HB.out | apply below_alloc | apply pw_below_drewN | apply below_drew1 | refine below_set ?_ GE200.out) | exact HB.out)⟩⟩
    case round =>
      clear H'
      try clear c1
      try clear p2
      try clear c5
      try clear c5b0
      try clear c5b1
      try clear c5b2
      try clear hcz4_0
      try clear hcz6_0
      try clear hfz4_0
      try clear hfz6_0
      obtain ⟨x16_1, rfl, HA, HK1, BK200, HB⟩ := hrel
      cases gk with
      | zero => exact absurd HA.out (by simp [impl_ValidGraph.l0])
      | succ k1 =>
        have H := HA.out
        clear HA
        simp only [impl_ValidGraph.l0] at H
        by_cases c7 : x16_1 < (l0_0.length : Int)
        · rw [if_pos c7] at H
          have c7b0 : decide (x16_1 < (l0_0.length : Int)) = true := decide_eq_true c7
          clear c7
          by_cases c8 : 0 ≤ x16_1
          · rw [if_pos c8] at H
            have c8b0 : decide (0 ≤ x16_1) = true := decide_eq_true c8
            clear c8
            by_cases c9 : x16_1 < (l0_0.length : Int)
            · rw [if_pos c9] at H
              have c9b0 : decide (x16_1 < (l0_0.length : Int)) = true := decide_eq_true c9
              clear c9
              have H' := Aside0.mk H
              clear H
              have p201 : 0 ≤ (x16_1 : Int) := of_decide_eq_true (by first | (with_reducible assumption) | assumption)
              have q201 : x16_1 < (l0_0.length : Int) := of_decide_eq_true (by first | (with_reducible assumption) | assumption)
              obtain ⟨ad201, A201_1, c201_1, A201_2, c201_2, e201, hx201_0, hx201_1, hx201_2, hl201_1, hi201_1, hl201_2, hi201_2⟩ := at_T145 HR0_0.out x16_1 p201 q201
              cases e201
              replace hx201_0 := (HB.out.cell (World.block_lt_of_cell? w _ hx201_0)).trans hx201_0
              replace hx201_1 := (HB.out.cell (World.block_lt_of_cell? w _ hx201_1)).trans hx201_1
              replace hx201_2 := (HB.out.cell (World.block_lt_of_cell? w _ hx201_2)).trans hx201_2
              have HR201_1 := Aside0.mk hi201_1
              have HC201_1 := Aside0.mk hl201_1
              clear hi201_1 hl201_1
              have HR201_2 := Aside0.mk hi201_2
              have HC201_2 := Aside0.mk hl201_2
              clear hi201_2 hl201_2
              replace p201 := eq_true p201
              replace q201 := eq_true q201
              go_wp2_with (first | ((with_reducible refine gate_dst (N := 4) rfl ?_); (try (refine gate_guard (by rfl) ?_; dsimp only)); refine box_event ?hg (N := 4) ?hd (cs := #[.int .i64 0, .slice none 0 0, .slice none 0 0]) (t := 145) ?hr ?_; (case hd => rfl); (case hg => rfl); (case hr => first | (go_simp; done) | (go_simp; rfl)); intro gb202 hg w10 hbox hb; have hb1_ := fromP HB.out hb (by repeat (first | (with_reducible exact Below.refl _ _) | apply below_alloc | apply pw_below_drewN | apply below_drew1)); have hb0_ := below_step hb1_ hb; have hW_ := below_step HB.out hb1_; have n2_ := Aside0.mk (hbox); have n3_ := Aside0.mk ((by rw [hg]; exact (below_size hW_) : w.heap.size ≤ gb202)); have n4_ := Aside0.mk ((by rw [hg]; exact (below_size hW_) : w.heap.size ≤ gb202)); have n5_ := Aside0.mk ((by rw [hg]; exact Nat.ne_of_lt (blk_lt (blk_below BK200.out hb1_)) : gb200 ≠ gb202)); have n6_ := Aside0.mk ((by rw [hg]; exact Nat.ne_of_gt (blk_lt (blk_below BK200.out hb1_)) : gb202 ≠ gb200)); replace BK200 := kB BK200 hb0_; replace HB := kH HB hb0_; have BK202 := n2_; have GW202 := n3_; have GE202 := n4_; have NB200_202 := n5_; have NB202_200 := n6_; clear hb1_ hb0_ hW_ n2_ n3_ n4_ n5_ n6_; clear hb hbox hg; have hnb11 := NB202_200.out; have hnc11 := NB200_202.out; obtain ⟨hcz12_0, hcz12_1, hcz12_2, hfz12_0, hfz12_1, hfz12_2⟩ := bkA3 BK202.out))
              go_loopg [23] k1 (fun kq v23 w' => ∃ (x23_2 : Int), v23 = .int .i64 x23_2 ∧ Aside0 (impl_ValidGraph.l1 kq l0_0 (l0_0.length : Int) x16_1 ((rd_T145 l0_0 x16_1).f2) (((rd_T145 l0_0 x16_1).f2).length : Int) x23_2 l0_0 ((rd_T145 l0_0 x16_1).f0) ((rd_T145 l0_0 x16_1).f1) ((rd_T145 l0_0 x16_1).f2) = some r) ∧ Aside0 (kq ≤ k1) ∧ Aside0 (w'.heap[gb200]? = some (.cells #[(.slice (some ad201) l0_0.length c0_0)] 76 (0, 0))) ∧ Aside0 (w'.heap[gb202]? = some (.cells #[.int .i64 ((rd_T145 l0_0 x16_1).f0), (.slice A201_1 ((rd_T145 l0_0 x16_1).f1).length c201_1), (.slice A201_2 ((rd_T145 l0_0 x16_1).f2).length c201_2)] 145 (0, 0))) ∧ Aside0 (Below w.heap.size w w'))
              case atStart => exact ⟨(0), (by first | rfl | (simp; done) | (simp [*]; done)), H', ⟨Nat.le_refl _⟩, ⟨by (with_reducible repeat (first | refine blk_drewN ?_ _ | refine blk_drew ?_ | refine blk_alloc ?_ _)); refine blk_far ?_ NB200_202.out _; (with_reducible repeat (first | refine blk_drewN ?_ _ | refine blk_drew ?_ | refine blk_alloc ?_ _)); refine blk_far ?_ NB200_202.out _; (with_reducible repeat (first | refine blk_drewN ?_ _ | refine blk_drew ?_ | refine blk_alloc ?_ _)); refine blk_far ?_ NB200_202.out _; (with_reducible repeat (first | refine blk_drewN ?_ _ | refine blk_drew ?_ | refine blk_alloc ?_ _)); exact BK200.out⟩, ⟨by (with_reducible repeat (first | refine blk_drewN ?_ _ | refine blk_drew ?_ | refine blk_alloc ?_ _)); refine blk_put (cs := #[.int .i64 ((rd_T145 l0_0 x16_1).f0), .slice A201_1 ((rd_T145 l0_0 x16_1).f1).length c201_1, .slice none 0 0]) ?_ 2 _ rfl; (with_reducible repeat (first | refine blk_drewN ?_ _ | refine blk_drew ?_ | refine blk_alloc ?_ _)); refine blk_put (cs := #[.int .i64 ((rd_T145 l0_0 x16_1).f0), .slice none 0 0, .slice none 0 0]) ?_ 1 _ rfl; (with_reducible repeat (first | refine blk_drewN ?_ _ | refine blk_drew ?_ | refine blk_alloc ?_ _)); refine blk_put (cs := #[.int .i64 0, .slice none 0 0, .slice none 0 0]) ?_ 0 _ rfl; (with_reducible repeat (first | refine blk_drewN ?_ _ | refine blk_drew ?_ | refine blk_alloc ?_ _)); exact BK202.out⟩, ⟨by repeat (first | (with_reducible first | exact HB.out | apply below_alloc | apply pw_below_drewN | apply below_drew1 | refine below_set ?_ GE200.out | refine below_set ?_ GE202.out) | exact HB.out)⟩⟩
              case round =>
                clear H'
                try clear c1
                try clear c2
                try clear p2
                try clear q2
                try clear hx2
                try clear c5
                try clear c5b0
                try clear c5b1
                try clear c5b2
                try clear c7
                try clear c7b0
                try clear c8
                try clear c8b0
                try clear c9
                try clear c9b0
                try clear c11
                try clear hcz12_0
                try clear hcz12_1
                try clear hcz12_2
                try clear hcz4_0
                try clear hcz6_0
                try clear hfz12_0
                try clear hfz12_1
                try clear hfz12_2
                try clear hfz4_0
                try clear hfz6_0
                try clear hx201_0
                try clear hx201_1
                try clear hx201_2
                try clear p2
                try clear p201
                try clear q201
                obtain ⟨x23_2, rfl, HA, HK2, BK200, BK202, HB⟩ := hrel
                cases gk with
                | zero => exact absurd HA.out (by simp [impl_ValidGraph.l1])
                | succ k2 =>
                  have H := HA.out
                  clear HA
                  simp only [impl_ValidGraph.l1] at H
                  by_cases c13 : x23_2 < (((rd_T145 l0_0 x16_1).f2).length : Int)
                  · rw [if_pos c13] at H
                    have c13b0 : decide (x23_2 < (((rd_T145 l0_0 x16_1).f2).length : Int)) = true := decide_eq_true c13
                    clear c13
                    by_cases c14 : 0 ≤ x23_2
                    · rw [if_pos c14] at H
                      have c14b0 : decide (0 ≤ x23_2) = true := decide_eq_true c14
                      clear c14
                      by_cases c15 : x23_2 < (((rd_T145 l0_0 x16_1).f2).length : Int)
                      · rw [if_pos c15] at H
                        have c15b0 : decide (x23_2 < (((rd_T145 l0_0 x16_1).f2).length : Int)) = true := decide_eq_true c15
                        clear c15
                        by_cases c16 : (rd ((rd_T145 l0_0 x16_1).f2) x23_2) < 0
                        · rw [if_pos c16] at H
                          have c16b0 : decide ((rd ((rd_T145 l0_0 x16_1).f2) x23_2) < 0) = true := decide_eq_true c16
                          clear c16
                          obtain rfl := Option.some.inj H
                          have p203 : 0 ≤ (x23_2 : Int) := of_decide_eq_true (by first | (with_reducible assumption) | assumption)
                          have q203 : x23_2 < (((rd_T145 l0_0 x16_1).f2).length : Int) := of_decide_eq_true (by first | (with_reducible assumption) | assumption)
                          obtain ⟨ad203, e203, hx203_0⟩ := Kd.at_int HR201_2.out x23_2 p203 q203
                          cases e203
                          replace hx203_0 := (HB.out.cell (World.block_lt_of_cell? w _ hx203_0)).trans hx203_0
                          replace p203 := eq_true p203
                          replace q203 := eq_true q203
                          go_wp2
                          go_ret
                          exact ⟨by first | rfl | (simp [errW_none, errW_some] <;> rfl) | (simp [*, errW_none, errW_some] <;> rfl), by repeat (first | (with_reducible first | exact HB.out | apply below_alloc | apply pw_below_drewN | apply below_drew1 | refine below_set ?_ GE200.out | refine below_set ?_ GE202.out) | exact HB.out)⟩
                        · rw [if_neg c16] at H
                          have c16b0 : decide ((rd ((rd_T145 l0_0 x16_1).f2) x23_2) < 0) = false := decide_eq_false c16
                          clear c16
                          by_cases c17 : (rd ((rd_T145 l0_0 x16_1).f2) x23_2) ≥ (l0_0.length : Int)
                          · rw [if_pos c17] at H
                            have c17b0 : decide ((l0_0.length : Int) ≤ (rd ((rd_T145 l0_0 x16_1).f2) x23_2)) = true := decide_eq_true c17
                            clear c17
                            obtain rfl := Option.some.inj H
                            have p203 : 0 ≤ (x23_2 : Int) := of_decide_eq_true (by first | (with_reducible assumption) | assumption)
                            have q203 : x23_2 < (((rd_T145 l0_0 x16_1).f2).length : Int) := of_decide_eq_true (by first | (with_reducible assumption) | assumption)
                            obtain ⟨ad203, e203, hx203_0⟩ := Kd.at_int HR201_2.out x23_2 p203 q203
                            cases e203
                            replace hx203_0 := (HB.out.cell (World.block_lt_of_cell? w _ hx203_0)).trans hx203_0
                            replace p203 := eq_true p203
                            replace q203 := eq_true q203
                            have hnb18 := NB200_202.out
                            have hnc18 := NB202_200.out
                            obtain ⟨hcz19_0, hfz19_0⟩ := bkA1 BK200.out
                            go_wp2
                            go_ret
                            exact ⟨by first | rfl | (simp [errW_none, errW_some] <;> rfl) | (simp [*, errW_none, errW_some] <;> rfl), by repeat (first | (with_reducible first | exact HB.out | apply below_alloc | apply pw_below_drewN | apply below_drew1 | refine below_set ?_ GE200.out | refine below_set ?_ GE202.out) | exact HB.out)⟩
                          · rw [if_neg c17] at H
                            have c17b0 : decide ((l0_0.length : Int) ≤ (rd ((rd_T145 l0_0 x16_1).f2) x23_2)) = false := decide_eq_false c17
                            clear c17
                            have H' := Aside0.mk H
                            clear H
                            have p203 : 0 ≤ (x23_2 : Int) := of_decide_eq_true (by first | (with_reducible assumption) | assumption)
                            have q203 : x23_2 < (((rd_T145 l0_0 x16_1).f2).length : Int) := of_decide_eq_true (by first | (with_reducible assumption) | assumption)
                            obtain ⟨ad203, e203, hx203_0⟩ := Kd.at_int HR201_2.out x23_2 p203 q203
                            cases e203
                            replace hx203_0 := (HB.out.cell (World.block_lt_of_cell? w _ hx203_0)).trans hx203_0
                            replace p203 := eq_true p203
                            replace q203 := eq_true q203
                            have hnb20 := NB200_202.out
                            have hnc20 := NB202_200.out
                            obtain ⟨hcz21_0, hfz21_0⟩ := bkA1 BK200.out
                            go_wp2
                            go_roundg k2
                            case measure => have := HK1.out; have := HK2.out; omega
                            case rel => exact ⟨(wrap64 (x23_2 + 1)), (by first | rfl | (simp; done) | (simp [*]; done)), H', ⟨by have := HK1.out; have := HK2.out; omega⟩, ⟨by (with_reducible repeat (first | refine blk_drewN ?_ _ | refine blk_drew ?_ | refine blk_alloc ?_ _)); exact BK200.out⟩, ⟨by (with_reducible repeat (first | refine blk_drewN ?_ _ | refine blk_drew ?_ | refine blk_alloc ?_ _)); exact BK202.out⟩, ⟨by repeat (first | (with_reducible first | exact HB.out | apply below_alloc | apply pw_below_drewN | apply below_drew1 | refine below_set ?_ GE200.out | refine below_set ?_ GE202.out) | exact HB.out)⟩⟩
                      · rw [if_neg c15] at H
                        exact absurd H (by simp)
                    · rw [if_neg c14] at H
                      exact absurd H (by simp)
                  · rw [if_neg c13] at H
                    have c13b0 : decide (x23_2 < (((rd_T145 l0_0 x16_1).f2).length : Int)) = false := decide_eq_false c13
                    clear c13
                    have HC22 := Aside0.mk H
                    clear H
                    have hnb23 := NB202_200.out
                    have hnc23 := NB200_202.out
                    obtain ⟨hcz24_0, hcz24_1, hcz24_2, hfz24_0, hfz24_1, hfz24_2⟩ := bkA3 BK202.out
                    go_upto_if 39 with (fail)
                    go_cut [39] (fun v39 wc => ∃ (kq : Nat) (x39_21 : Bool), v39 = .bool x39_21 ∧ Aside0 (impl_ValidGraph.j2 kq l0_0 (l0_0.length : Int) x16_1 ((rd_T145 l0_0 x16_1).f0) x39_21 l0_0 ((rd_T145 l0_0 x16_1).f0) ((rd_T145 l0_0 x16_1).f1) ((rd_T145 l0_0 x16_1).f2) = some r) ∧ Aside0 (kq ≤ k2) ∧ Aside0 (wc.heap[gb200]? = some (.cells #[(.slice (some ad201) l0_0.length c0_0)] 76 (0, 0))) ∧ Aside0 (wc.heap[gb202]? = some (.cells #[.int .i64 ((rd_T145 l0_0 x16_1).f0), (.slice A201_1 ((rd_T145 l0_0 x16_1).f1).length c201_1), (.slice A201_2 ((rd_T145 l0_0 x16_1).f2).length c201_2)] 145 (0, 0))) ∧ Aside0 (Below w.heap.size w wc))
                    case first =>
                      have H := HC22.out
                      clear HC22
                      by_cases c25 : ((rd_T145 l0_0 x16_1).f0) = 0
                      · rw [if_pos c25] at H
                        have c25b0 : (((rd_T145 l0_0 x16_1).f0) == 0) = true := beq_iff_eq.mpr c25
                        have c25b1 : (((rd_T145 l0_0 x16_1).f0) != 0) = false := bne_eq_false_iff_eq.mpr c25
                        clear c25
                        (first | rw [c25b0] | (simp only [i64_w, i32_w]; rw [c25b0]) | simp only [c25b2, Bool.not_false, Bool.not_true] | skip)
                        have H' := Aside0.mk H
                        clear H
                        go_wp2
                        go_meet
                        case rel => exact ⟨_, ((((rd_T145 l0_0 x16_1).f0) == 0)), (by first | rfl | (simp; done) | (simp [*]; done)), H', ⟨by have := HK1.out; have := HK2.out; first | omega | exact Nat.le_refl _⟩, ⟨by (with_reducible repeat (first | refine blk_drewN ?_ _ | refine blk_drew ?_ | refine blk_alloc ?_ _)); exact BK200.out⟩, ⟨by (with_reducible repeat (first | refine blk_drewN ?_ _ | refine blk_drew ?_ | refine blk_alloc ?_ _)); exact BK202.out⟩, ⟨by repeat (first | (with_reducible first | exact HB.out | apply below_alloc | apply pw_below_drewN | apply below_drew1 | refine below_set ?_ GE200.out | refine below_set ?_ GE202.out) | exact HB.out)⟩⟩
                      · rw [if_neg c25] at H
                        have c25b0 : (((rd_T145 l0_0 x16_1).f0) == 0) = false := beq_eq_false_iff_ne.mpr c25
                        have c25b1 : (((rd_T145 l0_0 x16_1).f0) != 0) = true := bne_iff_ne.mpr c25
                        (first | rw [c25b0] | (simp only [i64_w, i32_w]; rw [c25b0]) | simp only [c25b2, Bool.not_false, Bool.not_true] | skip)
                        by_cases c26 : ((rd_T145 l0_0 x16_1).f0) = 1
                        · rw [if_pos c26] at H
                          have c26b0 : (((rd_T145 l0_0 x16_1).f0) == 1) = true := beq_iff_eq.mpr c26
                          have c26b1 : (((rd_T145 l0_0 x16_1).f0) != 1) = false := bne_eq_false_iff_eq.mpr c26
                          clear c26
                          have H' := Aside0.mk H
                          clear H
                          go_wp2
                          go_meet
                          case rel => exact ⟨_, ((((rd_T145 l0_0 x16_1).f0) == 1)), (by first | rfl | (simp; done) | (simp [*]; done)), H', ⟨by have := HK1.out; have := HK2.out; first | omega | exact Nat.le_refl _⟩, ⟨by (with_reducible repeat (first | refine blk_drewN ?_ _ | refine blk_drew ?_ | refine blk_alloc ?_ _)); exact BK200.out⟩, ⟨by (with_reducible repeat (first | refine blk_drewN ?_ _ | refine blk_drew ?_ | refine blk_alloc ?_ _)); exact BK202.out⟩, ⟨by repeat (first | (with_reducible first | exact HB.out | apply below_alloc | apply pw_below_drewN | apply below_drew1 | refine below_set ?_ GE200.out | refine below_set ?_ GE202.out) | exact HB.out)⟩⟩
                        · rw [if_neg c26] at H
                          have c26b0 : (((rd_T145 l0_0 x16_1).f0) == 1) = false := beq_eq_false_iff_ne.mpr c26
                          have c26b1 : (((rd_T145 l0_0 x16_1).f0) != 1) = true := bne_iff_ne.mpr c26
                          have H' := Aside0.mk H
                          clear H
                          go_wp2
                          go_meet
                          case rel => exact ⟨_, ((((rd_T145 l0_0 x16_1).f0) == 2)), (by first | rfl | (simp; done) | (simp [*]; done)), H', ⟨by have := HK1.out; have := HK2.out; first | omega | exact Nat.le_refl _⟩, ⟨by (with_reducible repeat (first | refine blk_drewN ?_ _ | refine blk_drew ?_ | refine blk_alloc ?_ _)); exact BK200.out⟩, ⟨by (with_reducible repeat (first | refine blk_drewN ?_ _ | refine blk_drew ?_ | refine blk_alloc ?_ _)); exact BK202.out⟩, ⟨by repeat (first | (with_reducible first | exact HB.out | apply below_alloc | apply pw_below_drewN | apply below_drew1 | refine below_set ?_ GE200.out | refine below_set ?_ GE202.out) | exact HB.out)⟩⟩
                    case rest =>
                      clear HC22
                      try clear c1
                      try clear c2
                      try clear p2
                      try clear q2
                      try clear hx2
                      try clear c5
                      try clear c5b0
                      try clear c5b1
                      try clear c5b2
                      try clear p6
                      try clear c7
                      try clear c7b0
                      try clear c8
                      try clear c8b0
                      try clear c9
                      try clear c9b0
                      try clear c11
                      try clear c13
                      try clear c13b0
                      try clear c14
                      try clear c14b0
                      try clear c15
                      try clear c15b0
                      try clear c16
                      try clear c16b0
                      try clear c17
                      try clear c17b0
                      try clear c18
                      try clear c20
                      try clear p20
                      try clear q20
                      try clear hx20
                      try clear c23
                      try clear c25
                      try clear c25b0
                      try clear c25b1
                      try clear c25b2
                      try clear c26
                      try clear c26b0
                      try clear c26b1
                      try clear hcz12_0
                      try clear hcz12_1
                      try clear hcz12_2
                      try clear hcz19_0
                      try clear hcz21_0
                      try clear hcz24_0
                      try clear hcz24_1
                      try clear hcz24_2
                      try clear hcz4_0
                      try clear hcz6_0
                      try clear hfz12_0
                      try clear hfz12_1
                      try clear hfz12_2
                      try clear hfz19_0
                      try clear hfz21_0
                      try clear hfz24_0
                      try clear hfz24_1
                      try clear hfz24_2
                      try clear hfz4_0
                      try clear hfz6_0
                      try clear hx201_0
                      try clear hx201_1
                      try clear hx201_2
                      try clear hx203_0
                      try clear p2
                      try clear p201
                      try clear p203
                      try clear q2
                      try clear q201
                      try clear q203
                      obtain ⟨kq, x39_21, rfl, HA, HJ21, BK200, BK202, HB⟩ := hcut
                      cases kq with
                      | zero => exact absurd HA.out (by simp [impl_ValidGraph.j2])
                      | succ kj21 =>
                        have H := HA.out
                        clear HA
                        simp only [impl_ValidGraph.j2] at H
                        by_cases c27 : x39_21 = true
                        · subst c27
                          have H1 : (if (wrap64 ((((rd_T145 l0_0 x16_1).f1).length : Int) + (((rd_T145 l0_0 x16_1).f2).length : Int))) > 0 then (some false) else (impl_ValidGraph.l0 kj21 l0_0 (l0_0.length : Int) (wrap64 (x16_1 + 1)) l0_0)) = some r := by rw [if_pos rfl] at H; exact H
                          clear H
                          have H := H1
                          clear H1
                          by_cases c28 : (wrap64 ((((rd_T145 l0_0 x16_1).f1).length : Int) + (((rd_T145 l0_0 x16_1).f2).length : Int))) > 0
                          · rw [if_pos c28] at H
                            have c28b0 : decide (0 < (wrap64 ((((rd_T145 l0_0 x16_1).f1).length : Int) + (((rd_T145 l0_0 x16_1).f2).length : Int)))) = true := decide_eq_true c28
                            clear c28
                            obtain rfl := Option.some.inj H
                            have hnb29 := NB202_200.out
                            have hnc29 := NB200_202.out
                            obtain ⟨hcz30_0, hcz30_1, hcz30_2, hfz30_0, hfz30_1, hfz30_2⟩ := bkA3 BK202.out
                            go_wp2
                            go_ret
                            exact ⟨by first | rfl | (simp [errW_none, errW_some] <;> rfl) | (simp [*, errW_none, errW_some] <;> rfl), by repeat (first | (with_reducible first | exact HB.out | apply below_alloc | apply pw_below_drewN | apply below_drew1 | refine below_set ?_ GE200.out | refine below_set ?_ GE202.out) | exact HB.out)⟩
                          · rw [if_neg c28] at H
                            have c28b0 : decide (0 < (wrap64 ((((rd_T145 l0_0 x16_1).f1).length : Int) + (((rd_T145 l0_0 x16_1).f2).length : Int)))) = false := decide_eq_false c28
                            clear c28
                            have H' := Aside0.mk H
                            clear H
                            have hnb31 := NB202_200.out
                            have hnc31 := NB200_202.out
                            obtain ⟨hcz32_0, hcz32_1, hcz32_2, hfz32_0, hfz32_1, hfz32_2⟩ := bkA3 BK202.out
                            go_wp2
                            go_roundg kj21
                            case measure => have := HK1.out; have := HK2.out; have := HJ21.out; omega
                            case rel => exact ⟨(wrap64 (x16_1 + 1)), (by first | rfl | (simp; done) | (simp [*]; done)), H', ⟨by have := HK1.out; have := HK2.out; have := HJ21.out; omega⟩, ⟨by (with_reducible repeat (first | refine blk_drewN ?_ _ | refine blk_drew ?_ | refine blk_alloc ?_ _)); exact BK200.out⟩, ⟨by repeat (first | (with_reducible first | exact HB.out | apply below_alloc | apply pw_below_drewN | apply below_drew1 | refine below_set ?_ GE200.out | refine below_set ?_ GE202.out) | exact HB.out)⟩⟩
                        · replace c27 := Bool.eq_false_iff.mpr c27
                          subst c27
                          have H1 : (if ((rd_T145 l0_0 x16_1).f0) = 3 then (if (((rd_T145 l0_0 x16_1).f1).length : Int) = (((rd_T145 l0_0 x16_1).f2).length : Int) then (impl_ValidGraph.l2 kj21 l0_0 (l0_0.length : Int) x16_1 ((rd_T145 l0_0 x16_1).f1) (((rd_T145 l0_0 x16_1).f1).length : Int) 0 l0_0 ((rd_T145 l0_0 x16_1).f0) ((rd_T145 l0_0 x16_1).f1) ((rd_T145 l0_0 x16_1).f2)) else (some false)) else (if ((rd_T145 l0_0 x16_1).f0) = 4 then (if (((rd_T145 l0_0 x16_1).f1).length : Int) > 0 then (some false) else (if (((rd_T145 l0_0 x16_1).f2).length : Int) = 2 then (impl_ValidGraph.l0 kj21 l0_0 (l0_0.length : Int) (wrap64 (x16_1 + 1)) l0_0) else (some false))) else (some false))) = some r := by rw [if_neg (show ¬ (false = true) by decide)] at H; exact H
                          clear H
                          have H := H1
                          clear H1
                          by_cases c33 : ((rd_T145 l0_0 x16_1).f0) = 3
                          · rw [if_pos c33] at H
                            have c33b0 : (((rd_T145 l0_0 x16_1).f0) == 3) = true := beq_iff_eq.mpr c33
                            have c33b1 : (((rd_T145 l0_0 x16_1).f0) != 3) = false := bne_eq_false_iff_eq.mpr c33
                            clear c33
                            by_cases c34 : (((rd_T145 l0_0 x16_1).f1).length : Int) = (((rd_T145 l0_0 x16_1).f2).length : Int)
                            · rw [if_pos c34] at H
                              have c34b0 : ((((rd_T145 l0_0 x16_1).f1).length : Int) == (((rd_T145 l0_0 x16_1).f2).length : Int)) = true := beq_iff_eq.mpr c34
                              have c34b1 : ((((rd_T145 l0_0 x16_1).f1).length : Int) != (((rd_T145 l0_0 x16_1).f2).length : Int)) = false := bne_eq_false_iff_eq.mpr c34
                              have c34b2 : (((rd_T145 l0_0 x16_1).f1).length == ((rd_T145 l0_0 x16_1).f2).length) = true := by first | simpa using c34 | (simp at c34 ⊢; omega)
                              clear c34
                              have H' := Aside0.mk H
                              clear H
                              have hnb35 := NB202_200.out
                              have hnc35 := NB200_202.out
                              obtain ⟨hcz36_0, hcz36_1, hcz36_2, hfz36_0, hfz36_1, hfz36_2⟩ := bkA3 BK202.out
                              go_wp2
                              go_loopg [63] kj21 (fun kq v63 w' => ∃ (x63_4 : Int), v63 = .int .i64 x63_4 ∧ Aside0 (impl_ValidGraph.l2 kq l0_0 (l0_0.length : Int) x16_1 ((rd_T145 l0_0 x16_1).f1) (((rd_T145 l0_0 x16_1).f1).length : Int) x63_4 l0_0 ((rd_T145 l0_0 x16_1).f0) ((rd_T145 l0_0 x16_1).f1) ((rd_T145 l0_0 x16_1).f2) = some r) ∧ Aside0 (kq ≤ kj21) ∧ Aside0 (w'.heap[gb200]? = some (.cells #[(.slice (some ad201) l0_0.length c0_0)] 76 (0, 0))) ∧ Aside0 (w'.heap[gb202]? = some (.cells #[.int .i64 ((rd_T145 l0_0 x16_1).f0), (.slice A201_1 ((rd_T145 l0_0 x16_1).f1).length c201_1), (.slice A201_2 ((rd_T145 l0_0 x16_1).f2).length c201_2)] 145 (0, 0))) ∧ Aside0 (Below w.heap.size w w'))
                              case atStart => exact ⟨(0), (by first | rfl | (simp; done) | (simp [*]; done)), H', ⟨Nat.le_refl _⟩, ⟨by (with_reducible repeat (first | refine blk_drewN ?_ _ | refine blk_drew ?_ | refine blk_alloc ?_ _)); exact BK200.out⟩, ⟨by (with_reducible repeat (first | refine blk_drewN ?_ _ | refine blk_drew ?_ | refine blk_alloc ?_ _)); exact BK202.out⟩, ⟨by repeat (first | (with_reducible first | exact HB.out | apply below_alloc | apply pw_below_drewN | apply below_drew1 | refine below_set ?_ GE200.out | refine below_set ?_ GE202.out) | exact HB.out)⟩⟩
                              case round =>
                                clear H'
                                try clear c1
                                try clear c2
                                try clear p2
                                try clear q2
                                try clear hx2
                                try clear c3
                                try clear c5
                                try clear c5b0
                                try clear c5b1
                                try clear c5b2
                                try clear p6
                                try clear c7
                                try clear c7b0
                                try clear c8
                                try clear c8b0
                                try clear c9
                                try clear c9b0
                                try clear c11
                                try clear c13
                                try clear c13b0
                                try clear c14
                                try clear c14b0
                                try clear c15
                                try clear c15b0
                                try clear c16
                                try clear c16b0
                                try clear c17
                                try clear c17b0
                                try clear c18
                                try clear c20
                                try clear p20
                                try clear q20
                                try clear hx20
                                try clear c23
                                try clear c25
                                try clear c25b0
                                try clear c25b1
                                try clear c25b2
                                try clear c26
                                try clear c26b0
                                try clear c26b1
                                try clear c27
                                try clear c28
                                try clear c28b0
                                try clear c29
                                try clear c31
                                try clear c33
                                try clear c33b0
                                try clear c33b1
                                try clear c34
                                try clear c34b0
                                try clear c34b1
                                try clear c34b2
                                try clear c35
                                try clear hcz12_0
                                try clear hcz12_1
                                try clear hcz12_2
                                try clear hcz19_0
                                try clear hcz21_0
                                try clear hcz24_0
                                try clear hcz24_1
                                try clear hcz24_2
                                try clear hcz30_0
                                try clear hcz30_1
                                try clear hcz30_2
                                try clear hcz32_0
                                try clear hcz32_1
                                try clear hcz32_2
                                try clear hcz36_0
                                try clear hcz36_1
                                try clear hcz36_2
                                try clear hcz4_0
                                try clear hcz6_0
                                try clear hfz12_0
                                try clear hfz12_1
                                try clear hfz12_2
                                try clear hfz19_0
                                try clear hfz21_0
                                try clear hfz24_0
                                try clear hfz24_1
                                try clear hfz24_2
                                try clear hfz30_0
                                try clear hfz30_1
                                try clear hfz30_2
                                try clear hfz32_0
                                try clear hfz32_1
                                try clear hfz32_2
                                try clear hfz36_0
                                try clear hfz36_1
                                try clear hfz36_2
                                try clear hfz4_0
                                try clear hfz6_0
                                try clear hx201_0
                                try clear hx201_1
                                try clear hx201_2
                                try clear hx203_0
                                try clear p2
                                try clear p20
                                try clear p201
                                try clear p203
                                try clear p6
                                try clear q2
                                try clear q20
                                try clear q201
                                try clear q203
                                obtain ⟨x63_4, rfl, HA, HK4, BK200, BK202, HB⟩ := hrel
                                cases gk with
                                | zero => exact absurd HA.out (by simp [impl_ValidGraph.l2])
                                | succ k4 =>
                                  have H := HA.out
                                  clear HA
                                  simp only [impl_ValidGraph.l2] at H
                                  by_cases c37 : x63_4 < (((rd_T145 l0_0 x16_1).f1).length : Int)
                                  · rw [if_pos c37] at H
                                    have c37b0 : decide (x63_4 < (((rd_T145 l0_0 x16_1).f1).length : Int)) = true := decide_eq_true c37
                                    clear c37
                                    by_cases c38 : 0 ≤ x63_4
                                    · rw [if_pos c38] at H
                                      have c38b0 : decide (0 ≤ x63_4) = true := decide_eq_true c38
                                      clear c38
                                      by_cases c39 : x63_4 < (((rd_T145 l0_0 x16_1).f1).length : Int)
                                      · rw [if_pos c39] at H
                                        have c39b0 : decide (x63_4 < (((rd_T145 l0_0 x16_1).f1).length : Int)) = true := decide_eq_true c39
                                        clear c39
                                        replace H := Option.bind_eq_some_iff.mp H
                                        obtain ⟨t205, A400, H⟩ := H
                                        replace H : (if t205 = true then (if x63_4 > 0 then (if 0 ≤ (wrap64 (x63_4 - 1)) then (if (wrap64 (x63_4 - 1)) < (((rd_T145 l0_0 x16_1).f1).length : Int) then (if ((Op.bytesLess ((rdOf ByteArray.empty ((rd_T145 l0_0 x16_1).f1) (wrap64 (x63_4 - 1))).toList) ((rdOf ByteArray.empty ((rd_T145 l0_0 x16_1).f1) x63_4).toList)) = true) then (impl_ValidGraph.l2 k4 l0_0 (l0_0.length : Int) x16_1 ((rd_T145 l0_0 x16_1).f1) (((rd_T145 l0_0 x16_1).f1).length : Int) (wrap64 (x63_4 + 1)) l0_0 ((rd_T145 l0_0 x16_1).f0) ((rd_T145 l0_0 x16_1).f1) ((rd_T145 l0_0 x16_1).f2)) else (some false)) else (none)) else (none)) else (impl_ValidGraph.l2 k4 l0_0 (l0_0.length : Int) x16_1 ((rd_T145 l0_0 x16_1).f1) (((rd_T145 l0_0 x16_1).f1).length : Int) (wrap64 (x63_4 + 1)) l0_0 ((rd_T145 l0_0 x16_1).f0) ((rd_T145 l0_0 x16_1).f1) ((rd_T145 l0_0 x16_1).f2))) else (some false)) = some r := H
                                        have A40 := Aside0.mk A400
                                        clear A400
                                        by_cases c41 : t205 = true
                                        · subst c41
                                          have H1 : (if x63_4 > 0 then (if 0 ≤ (wrap64 (x63_4 - 1)) then (if (wrap64 (x63_4 - 1)) < (((rd_T145 l0_0 x16_1).f1).length : Int) then (if ((Op.bytesLess ((rdOf ByteArray.empty ((rd_T145 l0_0 x16_1).f1) (wrap64 (x63_4 - 1))).toList) ((rdOf ByteArray.empty ((rd_T145 l0_0 x16_1).f1) x63_4).toList)) = true) then (impl_ValidGraph.l2 k4 l0_0 (l0_0.length : Int) x16_1 ((rd_T145 l0_0 x16_1).f1) (((rd_T145 l0_0 x16_1).f1).length : Int) (wrap64 (x63_4 + 1)) l0_0 ((rd_T145 l0_0 x16_1).f0) ((rd_T145 l0_0 x16_1).f1) ((rd_T145 l0_0 x16_1).f2)) else (some false)) else (none)) else (none)) else (impl_ValidGraph.l2 k4 l0_0 (l0_0.length : Int) x16_1 ((rd_T145 l0_0 x16_1).f1) (((rd_T145 l0_0 x16_1).f1).length : Int) (wrap64 (x63_4 + 1)) l0_0 ((rd_T145 l0_0 x16_1).f0) ((rd_T145 l0_0 x16_1).f1) ((rd_T145 l0_0 x16_1).f2))) = some r := by rw [if_pos rfl] at H; exact H
                                          clear H
                                          have H := H1
                                          clear H1
                                          by_cases c42 : x63_4 > 0
                                          · rw [if_pos c42] at H
                                            have c42b0 : decide (0 < x63_4) = true := decide_eq_true c42
                                            clear c42
                                            obtain ⟨ji43, hji43⟩ : ∃ j_ : Int, (wrap64 (x63_4 - 1)) = j_ := ⟨_, rfl⟩
                                            replace H : (if 0 ≤ (ji43) then (if (ji43) < (((rd_T145 l0_0 x16_1).f1).length : Int) then (if ((Op.bytesLess ((rdOf ByteArray.empty ((rd_T145 l0_0 x16_1).f1) (ji43)).toList) ((rdOf ByteArray.empty ((rd_T145 l0_0 x16_1).f1) x63_4).toList)) = true) then (impl_ValidGraph.l2 k4 l0_0 (l0_0.length : Int) x16_1 ((rd_T145 l0_0 x16_1).f1) (((rd_T145 l0_0 x16_1).f1).length : Int) (wrap64 (x63_4 + 1)) l0_0 ((rd_T145 l0_0 x16_1).f0) ((rd_T145 l0_0 x16_1).f1) ((rd_T145 l0_0 x16_1).f2)) else (some false)) else (none)) else (none)) = some r := by first | (rw [hji43] at H; exact H) | (simp only [hji43] at H ⊢; exact H)
                                            (try rw [hji43] at A40)
                                            have hji43w : (IntKind.i64.wrap (x63_4 - 1)) = ji43 := (i64_w _).trans hji43
                                            by_cases c44 : 0 ≤ (ji43)
                                            · rw [if_pos c44] at H
                                              have c44b0 : decide (0 ≤ (ji43)) = true := decide_eq_true c44
                                              clear c44
                                              by_cases c45 : (ji43) < (((rd_T145 l0_0 x16_1).f1).length : Int)
                                              · rw [if_pos c45] at H
                                                have c45b0 : decide ((ji43) < (((rd_T145 l0_0 x16_1).f1).length : Int)) = true := decide_eq_true c45
                                                clear c45
                                                have HL46 := Aside0.mk H
                                                clear H
                                                have p204 : 0 ≤ (x63_4 : Int) := of_decide_eq_true (by first | (with_reducible assumption) | assumption)
                                                have q204 : x63_4 < (((rd_T145 l0_0 x16_1).f1).length : Int) := of_decide_eq_true (by first | (with_reducible assumption) | assumption)
                                                obtain ⟨ad204, e204, hx204_0⟩ := Kd.at_string HR201_1.out x63_4 p204 q204
                                                cases e204
                                                replace hx204_0 := (HB.out.cell (World.block_lt_of_cell? w _ hx204_0)).trans hx204_0
                                                replace p204 := eq_true p204
                                                replace q204 := eq_true q204
                                                go_upto_if 84 with (first | ((with_reducible refine gate_callee (f := 120) rfl ?_); refine goesL_ (some 69) rfl rfl Tryd.func120 (by kernel_rfl) rfl #[.string (rdOf ByteArray.empty ((rd_T145 l0_0 x16_1).f1) x63_4)] rfl (by (try simp only [List.map_toArray, List.map_cons, List.map_nil]); first | done | rfl | (simp only [List.length_drop, List.length_take]; rfl)) ?_; (with_reducible refine (impl_goodName.calls (rdOf ByteArray.empty ((rd_T145 l0_0 x16_1).f1) x63_4) true _ ?side1 A40.out).mono ?_); (case side1 => (first | exact HG.out | exact GRes.below HG.out (by repeat (first | (with_reducible first | exact HB.out | apply below_alloc | apply pw_below_drewN | apply below_drew1 | refine below_set ?_ GE200.out | refine below_set ?_ GE202.out) | exact HB.out)) | (repeat (first | exact HG.out | apply GRes.drewN | apply GRes.drew | apply GRes.alloc)))); rintro e w' ⟨rfl, ⟨nd, rfl⟩⟩; refine ⟨_, rfl, ?_⟩; have hnb47 := NB202_200.out; have hnc47 := NB200_202.out; obtain ⟨hcz48_0, hcz48_1, hcz48_2, hfz48_0, hfz48_1, hfz48_2⟩ := bkA3 BK202.out; have p206 : 0 ≤ ((ji43) : Int) := of_decide_eq_true (by first | (with_reducible assumption) | assumption); have q206 : (ji43) < (((rd_T145 l0_0 x16_1).f1).length : Int) := of_decide_eq_true (by first | (with_reducible assumption) | assumption); obtain ⟨ad206, e206, hx206_0⟩ := Kd.at_string HR201_1.out (ji43) p206 q206; obtain rfl : ad204 = ad206 := (by injection e206); replace hx206_0 := (HB.out.cell (World.block_lt_of_cell? w _ hx206_0)).trans hx206_0; replace p206 := eq_true p206; replace q206 := eq_true q206))
                                                have H := HL46.out
                                                clear HL46
                                                by_cases c49 : ((Op.bytesLess ((rdOf ByteArray.empty ((rd_T145 l0_0 x16_1).f1) (ji43)).toList) ((rdOf ByteArray.empty ((rd_T145 l0_0 x16_1).f1) x63_4).toList)) = true)
                                                · rw [if_pos c49] at H
                                                  have c49b0 : (Op.bytesLess ((rdOf ByteArray.empty ((rd_T145 l0_0 x16_1).f1) (ji43)).toList) ((rdOf ByteArray.empty ((rd_T145 l0_0 x16_1).f1) x63_4).toList)) = true := c49
                                                  clear c49
                                                  (first | rw [c49b0] | (simp only [i64_w, i32_w]; rw [c49b0]) | simp only [c49b2, Bool.not_false, Bool.not_true] | skip)
                                                  have H' := Aside0.mk H
                                                  clear H
                                                  go_wp2
                                                  go_roundg k4
                                                  case measure => have := HK1.out; have := HK2.out; have := HJ21.out; have := HK4.out; omega
                                                  case rel => exact ⟨(wrap64 (x63_4 + 1)), (by first | rfl | (simp; done) | (simp [*]; done)), H', ⟨by have := HK1.out; have := HK2.out; have := HJ21.out; have := HK4.out; omega⟩, ⟨by (with_reducible repeat (first | refine blk_drewN ?_ _ | refine blk_drew ?_ | refine blk_alloc ?_ _)); exact BK200.out⟩, ⟨by (with_reducible repeat (first | refine blk_drewN ?_ _ | refine blk_drew ?_ | refine blk_alloc ?_ _)); exact BK202.out⟩, ⟨by repeat (first | (with_reducible first | exact HB.out | apply below_alloc | apply pw_below_drewN | apply below_drew1 | refine below_set ?_ GE200.out | refine below_set ?_ GE202.out) | exact HB.out)⟩⟩
                                                · rw [if_neg c49] at H
                                                  have c49b0 : (Op.bytesLess ((rdOf ByteArray.empty ((rd_T145 l0_0 x16_1).f1) (ji43)).toList) ((rdOf ByteArray.empty ((rd_T145 l0_0 x16_1).f1) x63_4).toList)) = false := by simpa using c49
                                                  clear c49
                                                  (first | rw [c49b0] | (simp only [i64_w, i32_w]; rw [c49b0]) | simp only [c49b2, Bool.not_false, Bool.not_true] | skip)
                                                  obtain rfl := Option.some.inj H
                                                  go_wp2
                                                  go_ret
                                                  exact ⟨by first | rfl | (simp [errW_none, errW_some] <;> rfl) | (simp only [← hji43]; first | rfl | (simp [errW_none, errW_some] <;> rfl)) | (simp [*, errW_none, errW_some] <;> rfl), by repeat (first | (with_reducible first | exact HB.out | apply below_alloc | apply pw_below_drewN | apply below_drew1 | refine below_set ?_ GE200.out | refine below_set ?_ GE202.out) | exact HB.out)⟩
                                              · rw [if_neg c45] at H
                                                exact absurd H (by simp)
                                            · rw [if_neg c44] at H
                                              exact absurd H (by simp)
                                          · rw [if_neg c42] at H
                                            have c42b0 : decide (0 < x63_4) = false := decide_eq_false c42
                                            clear c42
                                            have H' := Aside0.mk H
                                            clear H
                                            have p204 : 0 ≤ (x63_4 : Int) := of_decide_eq_true (by first | (with_reducible assumption) | assumption)
                                            have q204 : x63_4 < (((rd_T145 l0_0 x16_1).f1).length : Int) := of_decide_eq_true (by first | (with_reducible assumption) | assumption)
                                            obtain ⟨ad204, e204, hx204_0⟩ := Kd.at_string HR201_1.out x63_4 p204 q204
                                            cases e204
                                            replace hx204_0 := (HB.out.cell (World.block_lt_of_cell? w _ hx204_0)).trans hx204_0
                                            replace p204 := eq_true p204
                                            replace q204 := eq_true q204
                                            go_wp2_with (first | ((with_reducible refine gate_callee (f := 120) rfl ?_); refine goesL_ (some 69) rfl rfl Tryd.func120 (by kernel_rfl) rfl #[.string (rdOf ByteArray.empty ((rd_T145 l0_0 x16_1).f1) x63_4)] rfl (by (try simp only [List.map_toArray, List.map_cons, List.map_nil]); first | done | rfl | (simp only [List.length_drop, List.length_take]; rfl)) ?_; (with_reducible refine (impl_goodName.calls (rdOf ByteArray.empty ((rd_T145 l0_0 x16_1).f1) x63_4) true _ ?side1 A40.out).mono ?_); (case side1 => (first | exact HG.out | exact GRes.below HG.out (by repeat (first | (with_reducible first | exact HB.out | apply below_alloc | apply pw_below_drewN | apply below_drew1 | refine below_set ?_ GE200.out | refine below_set ?_ GE202.out) | exact HB.out)) | (repeat (first | exact HG.out | apply GRes.drewN | apply GRes.drew | apply GRes.alloc)))); rintro e w' ⟨rfl, ⟨nd, rfl⟩⟩; refine ⟨_, rfl, ?_⟩))
                                            go_roundg k4
                                            case measure => have := HK1.out; have := HK2.out; have := HJ21.out; have := HK4.out; omega
                                            case rel => exact ⟨(wrap64 (x63_4 + 1)), (by first | rfl | (simp; done) | (simp [*]; done)), H', ⟨by have := HK1.out; have := HK2.out; have := HJ21.out; have := HK4.out; omega⟩, ⟨by (with_reducible repeat (first | refine blk_drewN ?_ _ | refine blk_drew ?_ | refine blk_alloc ?_ _)); exact BK200.out⟩, ⟨by (with_reducible repeat (first | refine blk_drewN ?_ _ | refine blk_drew ?_ | refine blk_alloc ?_ _)); exact BK202.out⟩, ⟨by repeat (first | (with_reducible first | exact HB.out | apply below_alloc | apply pw_below_drewN | apply below_drew1 | refine below_set ?_ GE200.out | refine below_set ?_ GE202.out) | exact HB.out)⟩⟩
                                        · replace c41 := Bool.eq_false_iff.mpr c41
                                          subst c41
                                          have H1 : (some false) = some r := by rw [if_neg (show ¬ (false = true) by decide)] at H; exact H
                                          clear H
                                          have H := H1
                                          clear H1
                                          obtain rfl := Option.some.inj H
                                          have p204 : 0 ≤ (x63_4 : Int) := of_decide_eq_true (by first | (with_reducible assumption) | assumption)
                                          have q204 : x63_4 < (((rd_T145 l0_0 x16_1).f1).length : Int) := of_decide_eq_true (by first | (with_reducible assumption) | assumption)
                                          obtain ⟨ad204, e204, hx204_0⟩ := Kd.at_string HR201_1.out x63_4 p204 q204
                                          cases e204
                                          replace hx204_0 := (HB.out.cell (World.block_lt_of_cell? w _ hx204_0)).trans hx204_0
                                          replace p204 := eq_true p204
                                          replace q204 := eq_true q204
                                          go_wp2_with (first | ((with_reducible refine gate_callee (f := 120) rfl ?_); refine goesL_ (some 69) rfl rfl Tryd.func120 (by kernel_rfl) rfl #[.string (rdOf ByteArray.empty ((rd_T145 l0_0 x16_1).f1) x63_4)] rfl (by (try simp only [List.map_toArray, List.map_cons, List.map_nil]); first | done | rfl | (simp only [List.length_drop, List.length_take]; rfl)) ?_; (with_reducible refine (impl_goodName.calls (rdOf ByteArray.empty ((rd_T145 l0_0 x16_1).f1) x63_4) false _ ?side1 A40.out).mono ?_); (case side1 => (first | exact HG.out | exact GRes.below HG.out (by repeat (first | (with_reducible first | exact HB.out | apply below_alloc | apply pw_below_drewN | apply below_drew1 | refine below_set ?_ GE200.out | refine below_set ?_ GE202.out) | exact HB.out)) | (repeat (first | exact HG.out | apply GRes.drewN | apply GRes.drew | apply GRes.alloc)))); rintro e w' ⟨rfl, ⟨nd, rfl⟩⟩; refine ⟨_, rfl, ?_⟩))
                                          go_ret
                                          exact ⟨by first | rfl | (simp [errW_none, errW_some] <;> rfl) | (simp [*, errW_none, errW_some] <;> rfl), by repeat (first | (with_reducible first | exact HB.out | apply below_alloc | apply pw_below_drewN | apply below_drew1 | refine below_set ?_ GE200.out | refine below_set ?_ GE202.out) | exact HB.out)⟩
                                      · rw [if_neg c39] at H
                                        exact absurd H (by simp)
                                    · rw [if_neg c38] at H
                                      exact absurd H (by simp)
                                  · rw [if_neg c37] at H
                                    have c37b0 : decide (x63_4 < (((rd_T145 l0_0 x16_1).f1).length : Int)) = false := decide_eq_false c37
                                    clear c37
                                    have H' := Aside0.mk H
                                    clear H
                                    go_wp2
                                    go_roundg k4
                                    case measure => have := HK1.out; have := HK2.out; have := HJ21.out; have := HK4.out; omega
                                    case rel => exact ⟨(wrap64 (x16_1 + 1)), (by first | rfl | (simp; done) | (simp [*]; done)), H', ⟨by have := HK1.out; have := HK2.out; have := HJ21.out; have := HK4.out; omega⟩, ⟨by (with_reducible repeat (first | refine blk_drewN ?_ _ | refine blk_drew ?_ | refine blk_alloc ?_ _)); exact BK200.out⟩, ⟨by repeat (first | (with_reducible first | exact HB.out | apply below_alloc | apply pw_below_drewN | apply below_drew1 | refine below_set ?_ GE200.out | refine below_set ?_ GE202.out) | exact HB.out)⟩⟩
                            · rw [if_neg c34] at H
                              have c34b0 : ((((rd_T145 l0_0 x16_1).f1).length : Int) == (((rd_T145 l0_0 x16_1).f2).length : Int)) = false := beq_eq_false_iff_ne.mpr c34
                              have c34b1 : ((((rd_T145 l0_0 x16_1).f1).length : Int) != (((rd_T145 l0_0 x16_1).f2).length : Int)) = true := bne_iff_ne.mpr c34
                              have c34b2 : (((rd_T145 l0_0 x16_1).f1).length == ((rd_T145 l0_0 x16_1).f2).length) = false := by first | simpa using c34 | (simp at c34 ⊢; omega)
                              obtain rfl := Option.some.inj H
                              have hnb50 := NB202_200.out
                              have hnc50 := NB200_202.out
                              obtain ⟨hcz51_0, hcz51_1, hcz51_2, hfz51_0, hfz51_1, hfz51_2⟩ := bkA3 BK202.out
                              go_wp2
                              go_ret
                              exact ⟨by first | rfl | (simp [errW_none, errW_some] <;> rfl) | (simp [*, errW_none, errW_some] <;> rfl), by repeat (first | (with_reducible first | exact HB.out | apply below_alloc | apply pw_below_drewN | apply below_drew1 | refine below_set ?_ GE200.out | refine below_set ?_ GE202.out) | exact HB.out)⟩
                          · rw [if_neg c33] at H
                            have c33b0 : (((rd_T145 l0_0 x16_1).f0) == 3) = false := beq_eq_false_iff_ne.mpr c33
                            have c33b1 : (((rd_T145 l0_0 x16_1).f0) != 3) = true := bne_iff_ne.mpr c33
                            by_cases c52 : ((rd_T145 l0_0 x16_1).f0) = 4
                            · rw [if_pos c52] at H
                              have c52b0 : (((rd_T145 l0_0 x16_1).f0) == 4) = true := beq_iff_eq.mpr c52
                              have c52b1 : (((rd_T145 l0_0 x16_1).f0) != 4) = false := bne_eq_false_iff_eq.mpr c52
                              clear c52
                              by_cases c53 : (((rd_T145 l0_0 x16_1).f1).length : Int) > 0
                              · rw [if_pos c53] at H
                                have c53b0 : decide (0 < (((rd_T145 l0_0 x16_1).f1).length : Int)) = true := decide_eq_true c53
                                have c53b1 : decide (0 < ((rd_T145 l0_0 x16_1).f1).length) = true := decide_eq_true (by omega)
                                clear c53
                                obtain rfl := Option.some.inj H
                                have hnb54 := NB202_200.out
                                have hnc54 := NB200_202.out
                                obtain ⟨hcz55_0, hcz55_1, hcz55_2, hfz55_0, hfz55_1, hfz55_2⟩ := bkA3 BK202.out
                                go_wp2
                                go_ret
                                exact ⟨by first | rfl | (simp [errW_none, errW_some] <;> rfl) | (simp [*, errW_none, errW_some] <;> rfl), by repeat (first | (with_reducible first | exact HB.out | apply below_alloc | apply pw_below_drewN | apply below_drew1 | refine below_set ?_ GE200.out | refine below_set ?_ GE202.out) | exact HB.out)⟩
                              · rw [if_neg c53] at H
                                have c53b0 : decide (0 < (((rd_T145 l0_0 x16_1).f1).length : Int)) = false := decide_eq_false c53
                                have c53b1 : decide (0 < ((rd_T145 l0_0 x16_1).f1).length) = false := decide_eq_false (by omega)
                                clear c53
                                by_cases c56 : (((rd_T145 l0_0 x16_1).f2).length : Int) = 2
                                · rw [if_pos c56] at H
                                  have c56b0 : ((((rd_T145 l0_0 x16_1).f2).length : Int) == 2) = true := beq_iff_eq.mpr c56
                                  have c56b1 : ((((rd_T145 l0_0 x16_1).f2).length : Int) != 2) = false := bne_eq_false_iff_eq.mpr c56
                                  clear c56
                                  have H' := Aside0.mk H
                                  clear H
                                  have hnb57 := NB202_200.out
                                  have hnc57 := NB200_202.out
                                  obtain ⟨hcz58_0, hcz58_1, hcz58_2, hfz58_0, hfz58_1, hfz58_2⟩ := bkA3 BK202.out
                                  go_wp2
                                  go_roundg kj21
                                  case measure => have := HK1.out; have := HK2.out; have := HJ21.out; omega
                                  case rel => exact ⟨(wrap64 (x16_1 + 1)), (by first | rfl | (simp; done) | (simp [*]; done)), H', ⟨by have := HK1.out; have := HK2.out; have := HJ21.out; omega⟩, ⟨by (with_reducible repeat (first | refine blk_drewN ?_ _ | refine blk_drew ?_ | refine blk_alloc ?_ _)); exact BK200.out⟩, ⟨by repeat (first | (with_reducible first | exact HB.out | apply below_alloc | apply pw_below_drewN | apply below_drew1 | refine below_set ?_ GE200.out | refine below_set ?_ GE202.out) | exact HB.out)⟩⟩
                                · rw [if_neg c56] at H
                                  have c56b0 : ((((rd_T145 l0_0 x16_1).f2).length : Int) == 2) = false := beq_eq_false_iff_ne.mpr c56
                                  have c56b1 : ((((rd_T145 l0_0 x16_1).f2).length : Int) != 2) = true := bne_iff_ne.mpr c56
                                  obtain rfl := Option.some.inj H
                                  have hnb59 := NB202_200.out
                                  have hnc59 := NB200_202.out
                                  obtain ⟨hcz60_0, hcz60_1, hcz60_2, hfz60_0, hfz60_1, hfz60_2⟩ := bkA3 BK202.out
                                  go_wp2
                                  go_ret
                                  exact ⟨by first | rfl | (simp [errW_none, errW_some] <;> rfl) | (simp [*, errW_none, errW_some] <;> rfl), by repeat (first | (with_reducible first | exact HB.out | apply below_alloc | apply pw_below_drewN | apply below_drew1 | refine below_set ?_ GE200.out | refine below_set ?_ GE202.out) | exact HB.out)⟩
                            · rw [if_neg c52] at H
                              have c52b0 : (((rd_T145 l0_0 x16_1).f0) == 4) = false := beq_eq_false_iff_ne.mpr c52
                              have c52b1 : (((rd_T145 l0_0 x16_1).f0) != 4) = true := bne_iff_ne.mpr c52
                              obtain rfl := Option.some.inj H
                              go_wp2
                              go_ret
                              exact ⟨by first | rfl | (simp [errW_none, errW_some] <;> rfl) | (simp [*, errW_none, errW_some] <;> rfl), by repeat (first | (with_reducible first | exact HB.out | apply below_alloc | apply pw_below_drewN | apply below_drew1 | refine below_set ?_ GE200.out | refine below_set ?_ GE202.out) | exact HB.out)⟩
            · rw [if_neg c9] at H
              exact absurd H (by simp)
          · rw [if_neg c8] at H
            exact absurd H (by simp)
        · rw [if_neg c7] at H
          have c7b0 : decide (x16_1 < (l0_0.length : Int)) = false := decide_eq_false c7
          clear c7
          obtain rfl := Option.some.inj H
          go_wp2
          go_ret
          exact ⟨by first | rfl | (simp [errW_none, errW_some] <;> rfl) | (simp [*, errW_none, errW_some] <;> rfl), by repeat (first | (with_reducible first | exact HB.out | apply below_alloc | apply pw_below_drewN | apply below_drew1 | refine below_set ?_ GE200.out) | exact HB.out)⟩
end Go.Proofs.YtnbohlcibgfjaaaDoor.Gp
end
