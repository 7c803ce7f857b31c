-- Written by gp.py, a program of this session, out of the translation; Lean checks it.
import Derived.Test.YtiicaoiijhodkaaDoorGp0
import Derived.Test.YtiicaoiijhodkaaDoorGp3
namespace Go.Proofs.YtiicaoiijhodkaaDoor.Gp
open Go.RowKit Go.Proofs.YtiicaoiijhodkaaDoorW.PrintWords Go.Proofs.YtiicaoiijhodkaaDoorW.PrintLast Go.Proofs.YtiicaoiijhodkaaDoorW.PrintMore
attribute [local go_sem] max2_int min2_int max_two min_two max_three min_three max_four min_four   -- for this text's walks alone
set_option linter.unusedVariables false
set_option linter.unusedSimpArgs false

/-! ### impl_ValidGraph: function 15 -/
mutual
def impl_ValidGraph.l0 : Nat → List (S68) → Int → Int → List (S68) → Option (Bool)
  | 0, _, _, _, _ => none
  | k + 1, x14, x15, x16, x196000 => if x16 < x15 then (if 0 ≤ x16 then (if x16 < (x14.length : Int) then (impl_ValidGraph.l1 k x14 x15 x16 ((rd_T68 x14 x16).f2) (((rd_T68 x14 x16).f2).length : Int) 0 x196000 ((rd_T68 x14 x16).f0) ((rd_T68 x14 x16).f1) ((rd_T68 x14 x16).f2)) else (none)) else (none)) else (some true)
def impl_ValidGraph.l1 : Nat → List (S68) → Int → Int → List Int → Int → Int → List (S68) → Int → List ByteArray → List Int → Option (Bool)
  | 0, _, _, _, _, _, _, _, _, _, _ => none
  | k + 1, x14, x15, x16, x21, x22, x23, x196000, x198000, x198001, x198002 => if x23 < x22 then (if 0 ≤ x23 then (if x23 < (x21.length : Int) then (if (rd x21 x23) < 0 then (some false) else (if (rd x21 x23) ≥ (x196000.length : Int) then (some false) else (impl_ValidGraph.l1 k x14 x15 x16 x21 x22 (wrap64 (x23 + 1)) x196000 x198000 x198001 x198002))) else (none)) else (none)) else (if x198000 = 0 then (impl_ValidGraph.j2 k x14 x15 x16 x198000 (x198000 == 0) x196000 x198000 x198001 x198002) else (if x198000 = 1 then (impl_ValidGraph.j2 k x14 x15 x16 x198000 (x198000 == 1) x196000 x198000 x198001 x198002) else (impl_ValidGraph.j2 k x14 x15 x16 x198000 (x198000 == 2) x196000 x198000 x198001 x198002)))
def impl_ValidGraph.j2 : Nat → List (S68) → Int → Int → Int → Bool → List (S68) → Int → List ByteArray → List Int → Option (Bool)
  | 0, _, _, _, _, _, _, _, _, _ => none
  | k + 1, x14, x15, x16, x38, x39, x196000, x198000, x198001, x198002 => if x39 = true then (if (wrap64 ((x198001.length : Int) + (x198002.length : Int))) > 0 then (some false) else (impl_ValidGraph.l0 k x14 x15 (wrap64 (x16 + 1)) x196000)) else (if x38 = 3 then (if (x198001.length : Int) = (x198002.length : Int) then (impl_ValidGraph.l2 k x14 x15 x16 x198001 (x198001.length : Int) 0 x196000 x198000 x198001 x198002) else (some false)) else (if x38 = 4 then (if (x198001.length : Int) > 0 then (some false) else (if (x198002.length : Int) = 2 then (impl_ValidGraph.l0 k x14 x15 (wrap64 (x16 + 1)) x196000) else (some false))) else (some false)))
def impl_ValidGraph.l2 : Nat → List (S68) → Int → Int → List ByteArray → Int → Int → List (S68) → Int → List ByteArray → List Int → Option (Bool)
  | 0, _, _, _, _, _, _, _, _, _, _ => none
  | k + 1, x14, x15, x16, x61, x62, x63, x196000, x198000, x198001, x198002 => if x63 < x62 then (if 0 ≤ x63 then (if x63 < (x61.length : Int) then ((impl_goodName.f (rdOf ByteArray.empty x61 x63)).bind fun t200 => (if t200 = true then (if x63 > 0 then (if 0 ≤ (wrap64 (x63 - 1)) then (if (wrap64 (x63 - 1)) < (x198001.length : Int) then (if ((Op.bytesLess ((rdOf ByteArray.empty x198001 (wrap64 (x63 - 1))).toList) ((rdOf ByteArray.empty x61 x63).toList)) = true) then (impl_ValidGraph.l2 k x14 x15 x16 x61 x62 (wrap64 (x63 + 1)) x196000 x198000 x198001 x198002) else (some false)) else (none)) else (none)) else (impl_ValidGraph.l2 k x14 x15 x16 x61 x62 (wrap64 (x63 + 1)) x196000 x198000 x198001 x198002)) else (some false))) else (none)) else (none)) else (impl_ValidGraph.l0 k x14 x15 (wrap64 (x16 + 1)) x196000)
end
def impl_ValidGraph.f (k : Nat) (l0_0 : List (S68)) : Option (Bool) := if (l0_0.length : Int) > 4000 then (some false) else (impl_ValidGraph.l0 k l0_0 (l0_0.length : Int) 0 l0_0)
theorem impl_ValidGraph.mono_l : ∀ k, (∀ y0 y1 y2 y3, LeO (impl_ValidGraph.l0 k y0 y1 y2 y3) (impl_ValidGraph.l0 (k + 1) y0 y1 y2 y3)) ∧ (∀ y0 y1 y2 y3 y4 y5 y6 y7 y8 y9, LeO (impl_ValidGraph.l1 k y0 y1 y2 y3 y4 y5 y6 y7 y8 y9) (impl_ValidGraph.l1 (k + 1) y0 y1 y2 y3 y4 y5 y6 y7 y8 y9)) ∧ (∀ y0 y1 y2 y3 y4 y5 y6 y7 y8, LeO (impl_ValidGraph.j2 k y0 y1 y2 y3 y4 y5 y6 y7 y8) (impl_ValidGraph.j2 (k + 1) y0 y1 y2 y3 y4 y5 y6 y7 y8)) ∧ (∀ y0 y1 y2 y3 y4 y5 y6 y7 y8 y9, LeO (impl_ValidGraph.l2 k y0 y1 y2 y3 y4 y5 y6 y7 y8 y9) (impl_ValidGraph.l2 (k + 1) y0 y1 y2 y3 y4 y5 y6 y7 y8 y9))
  | 0 => ⟨fun _ _ _ _ r h => by simp [impl_ValidGraph.l0] at h, fun _ _ _ _ _ _ _ _ _ _ r h => by simp [impl_ValidGraph.l1] at h, fun _ _ _ _ _ _ _ _ _ r h => by simp [impl_ValidGraph.j2] at h, fun _ _ _ _ _ _ _ _ _ _ r h => by simp [impl_ValidGraph.l2] at h⟩
  | k + 1 => by
    obtain ⟨ih0, ih1, ih2, ih3⟩ := impl_ValidGraph.mono_l k
    refine ⟨?_, ?_, ?_, ?_⟩
    · intro y0 y1 y2 y3
      unfold impl_ValidGraph.l0
      repeat' first
      | (with_reducible exact ih0 _ _ _ _)
      | (with_reducible exact ih1 _ _ _ _ _ _ _ _ _ _)
      | (with_reducible exact ih2 _ _ _ _ _ _ _ _ _)
      | (with_reducible exact ih3 _ _ _ _ _ _ _ _ _ _)
      | (with_reducible exact LeO.refl _)
      | (with_reducible exact LeO.none _)
      | (with_reducible refine LeO.ite ?_ ?_)
      | (with_reducible refine LeO.bind ?_ (fun _ => ?_))
      | exact ih0 _ _ _ _
      | exact ih1 _ _ _ _ _ _ _ _ _ _
      | exact ih2 _ _ _ _ _ _ _ _ _
      | exact ih3 _ _ _ _ _ _ _ _ _ _
      | exact LeO.none _
      | refine LeO.ite ?_ ?_
      | refine LeO.bind ?_ (fun _ => ?_)
    · intro y0 y1 y2 y3 y4 y5 y6 y7 y8 y9
      unfold impl_ValidGraph.l1
      repeat' first
      | (with_reducible exact ih0 _ _ _ _)
      | (with_reducible exact ih1 _ _ _ _ _ _ _ _ _ _)
      | (with_reducible exact ih2 _ _ _ _ _ _ _ _ _)
      | (with_reducible exact ih3 _ _ _ _ _ _ _ _ _ _)
      | (with_reducible exact LeO.refl _)
      | (with_reducible exact LeO.none _)
      | (with_reducible refine LeO.ite ?_ ?_)
      | (with_reducible refine LeO.bind ?_ (fun _ => ?_))
      | exact ih0 _ _ _ _
      | exact ih1 _ _ _ _ _ _ _ _ _ _
      | exact ih2 _ _ _ _ _ _ _ _ _
      | exact ih3 _ _ _ _ _ _ _ _ _ _
      | exact LeO.none _
      | refine LeO.ite ?_ ?_
      | refine LeO.bind ?_ (fun _ => ?_)
    · intro y0 y1 y2 y3 y4 y5 y6 y7 y8
      unfold impl_ValidGraph.j2
      repeat' first
      | (with_reducible exact ih0 _ _ _ _)
      | (with_reducible exact ih1 _ _ _ _ _ _ _ _ _ _)
      | (with_reducible exact ih2 _ _ _ _ _ _ _ _ _)
      | (with_reducible exact ih3 _ _ _ _ _ _ _ _ _ _)
      | (with_reducible exact LeO.refl _)
      | (with_reducible exact LeO.none _)
      | (with_reducible refine LeO.ite ?_ ?_)
      | (with_reducible refine LeO.bind ?_ (fun _ => ?_))
      | exact ih0 _ _ _ _
      | exact ih1 _ _ _ _ _ _ _ _ _ _
      | exact ih2 _ _ _ _ _ _ _ _ _
      | exact ih3 _ _ _ _ _ _ _ _ _ _
      | exact LeO.none _
      | refine LeO.ite ?_ ?_
      | refine LeO.bind ?_ (fun _ => ?_)
    · intro y0 y1 y2 y3 y4 y5 y6 y7 y8 y9
      unfold impl_ValidGraph.l2
      repeat' first
      | (with_reducible exact ih0 _ _ _ _)
      | (with_reducible exact ih1 _ _ _ _ _ _ _ _ _ _)
      | (with_reducible exact ih2 _ _ _ _ _ _ _ _ _)
      | (with_reducible exact ih3 _ _ _ _ _ _ _ _ _ _)
      | (with_reducible exact LeO.refl _)
      | (with_reducible exact LeO.none _)
      | (with_reducible refine LeO.ite ?_ ?_)
      | (with_reducible refine LeO.bind ?_ (fun _ => ?_))
      | exact ih0 _ _ _ _
      | exact ih1 _ _ _ _ _ _ _ _ _ _
      | exact ih2 _ _ _ _ _ _ _ _ _
      | exact ih3 _ _ _ _ _ _ _ _ _ _
      | exact LeO.none _
      | refine LeO.ite ?_ ?_
      | refine LeO.bind ?_ (fun _ => ?_)
theorem impl_ValidGraph.mono : ∀ a0 k, LeO (impl_ValidGraph.f k a0) (impl_ValidGraph.f (k + 1) a0) := by
  intro a0 k
  obtain ⟨ih0, ih1, ih2, ih3⟩ := impl_ValidGraph.mono_l k
  unfold impl_ValidGraph.f
  repeat' first
      | (with_reducible exact ih0 _ _ _ _)
      | (with_reducible exact ih1 _ _ _ _ _ _ _ _ _ _)
      | (with_reducible exact ih2 _ _ _ _ _ _ _ _ _)
      | (with_reducible exact ih3 _ _ _ _ _ _ _ _ _ _)
      | (with_reducible exact LeO.refl _)
      | (with_reducible exact LeO.none _)
      | (with_reducible refine LeO.ite ?_ ?_)
      | (with_reducible refine LeO.bind ?_ (fun _ => ?_))
      | exact ih0 _ _ _ _
      | exact ih1 _ _ _ _ _ _ _ _ _ _
      | exact ih2 _ _ _ _ _ _ _ _ _
      | exact ih3 _ _ _ _ _ _ _ _ _ _
      | exact LeO.none _
      | refine LeO.ite ?_ ?_
      | refine LeO.bind ?_ (fun _ => ?_)
set_option maxHeartbeats 8000000 in
set_option maxRecDepth 100000 in
theorem impl_ValidGraph.calls (k : Nat) (A0_0 : Option Addr) (c0_0 : Nat) (l0_0 : List (S68)) (r : Bool) (w : World) (hG : GRes w) (hr0_0 : Kd.C k68 w A0_0 l0_0.length l0_0) (hc0_0 : l0_0.length ≤ c0_0) (h : impl_ValidGraph.f k l0_0 = some r) :
    Calls Tryd.prog 15 #[.agg #[.slice A0_0 l0_0.length c0_0]] w fun e w' => e = .returned (.bool r) ∧ Below w.heap.size w w' := by
  have hu36 := Tryd.underlying36
  have hu68 := Tryd.underlying68
  have HG := Aside0.mk hG
  clear hG
  have HR0_0 := Aside0.mk hr0_0
  have HC0_0 := Aside0.mk hc0_0
  clear hr0_0 hc0_0
  have HB := Aside0.mk (Below.refl w.heap.size w)
  have H : (if (l0_0.length : Int) > 4000 then (some false) else (impl_ValidGraph.l0 k l0_0 (l0_0.length : Int) 0 l0_0)) = some r := h
  clear h
  by_cases c2 : (l0_0.length : Int) > 4000
  · rw [if_pos c2] at H
    have c2b0 : decide (4000 < (l0_0.length : Int)) = true := decide_eq_true c2
    have c2b1 : decide (4000 < l0_0.length) = true := decide_eq_true (by omega)
    clear c2
    obtain rfl := Option.some.inj H
    go_enter Tryd.func15, Tryd.ntmps15
    go_wp2_with (first | ((with_reducible refine gate_dst (N := 1) rfl ?_); (try (refine gate_guard (by rfl) ?_; dsimp only)); refine box_event ?hg (N := 1) ?hd (cs := #[.slice A0_0 l0_0.length c0_0]) (t := 36) ?hr ?_; (case hd => rfl); (case hg => rfl); (case hr => first | (go_simp; done) | (go_simp; rfl)); intro gb195 hg w3 hbox hb; have n0_ := Aside0.mk (below_step (by repeat (first | (with_reducible first | exact HB.out | apply below_alloc | apply pw_below_drewN | apply below_drew1) | exact HB.out)) hb); have n1_ := Aside0.mk (hbox); have n2_ := Aside0.mk ((by rw [hg]; exact (below_size (by repeat (first | (with_reducible first | exact HB.out | apply below_alloc | apply pw_below_drewN | apply below_drew1) | exact HB.out))) : w.heap.size ≤ gb195)); have n3_ := Aside0.mk ((by rw [hg]; exact (below_size (by repeat (first | (with_reducible first | exact HB.out | apply below_alloc | apply pw_below_drewN | apply below_drew1) | exact HB.out))) : w.heap.size ≤ gb195)); clear HB; have HB := n0_; have BK195 := n1_; have GW195 := n2_; have GE195 := n3_; clear n0_ n1_ n2_ n3_; clear hb hbox hg; have hcz4_0 : w3.cell? ⟨gb195, 0, none⟩ = some (.slice A0_0 l0_0.length c0_0) := (blk_cell BK195.out 0).trans rfl; have hfz4_0 := blk_frozen BK195.out 0))
    go_ret
    exact ⟨by first | rfl | (simp [errW_none, errW_some] <;> rfl) | (simp [*, errW_none, errW_some] <;> rfl), by repeat (first | (with_reducible first | exact HB.out | apply below_alloc | apply pw_below_drewN | apply below_drew1 | refine below_set ?_ GE195.out) | exact HB.out)⟩
  · rw [if_neg c2] at H
    have c2b0 : decide (4000 < (l0_0.length : Int)) = false := decide_eq_false c2
    have c2b1 : decide (4000 < l0_0.length) = false := decide_eq_false (by omega)
    clear c2
    have H' := Aside0.mk H
    clear H
    go_enter Tryd.func15, Tryd.ntmps15
    go_wp2_with (first | ((with_reducible refine gate_dst (N := 1) rfl ?_); (try (refine gate_guard (by rfl) ?_; dsimp only)); refine box_event ?hg (N := 1) ?hd (cs := #[.slice A0_0 l0_0.length c0_0]) (t := 36) ?hr ?_; (case hd => rfl); (case hg => rfl); (case hr => first | (go_simp; done) | (go_simp; rfl)); intro gb195 hg w5 hbox hb; have n0_ := Aside0.mk (below_step (by repeat (first | (with_reducible first | exact HB.out | apply below_alloc | apply pw_below_drewN | apply below_drew1) | exact HB.out)) hb); have n1_ := Aside0.mk (hbox); have n2_ := Aside0.mk ((by rw [hg]; exact (below_size (by repeat (first | (with_reducible first | exact HB.out | apply below_alloc | apply pw_below_drewN | apply below_drew1) | exact HB.out))) : w.heap.size ≤ gb195)); have n3_ := Aside0.mk ((by rw [hg]; exact (below_size (by repeat (first | (with_reducible first | exact HB.out | apply below_alloc | apply pw_below_drewN | apply below_drew1) | exact HB.out))) : w.heap.size ≤ gb195)); clear HB; have HB := n0_; have BK195 := n1_; have GW195 := n2_; have GE195 := n3_; clear n0_ n1_ n2_ n3_; clear hb hbox hg; have hcz6_0 : w5.cell? ⟨gb195, 0, none⟩ = some (.slice A0_0 l0_0.length c0_0) := (blk_cell BK195.out 0).trans rfl; have hfz6_0 := blk_frozen BK195.out 0))
    go_loopg [16] k (fun kq v16 w' => ∃ (x16_1 : Int), v16 = .int .i64 x16_1 ∧ Aside0 (impl_ValidGraph.l0 kq l0_0 (l0_0.length : Int) x16_1 l0_0 = some r) ∧ Aside0 (kq ≤ k) ∧ Aside0 (w'.heap[gb195]? = some (.cells #[(.slice A0_0 l0_0.length c0_0)] 36 (0, 0))) ∧ Aside0 (Below w.heap.size w w'))
    case atStart => exact ⟨(0), (by first | rfl | (simp; done) | (simp [*]; done)), H', ⟨Nat.le_refl _⟩, ⟨by (with_reducible repeat (first | refine blk_drewN ?_ _ | refine blk_drew ?_ | refine blk_alloc ?_ _)); exact BK195.out⟩, ⟨by repeat (first | (with_reducible first | exact HB.out | apply below_alloc | apply pw_below_drewN | apply below_drew1 | refine below_set ?_ GE195.out) | exact HB.out)⟩⟩
    case round =>
      clear H'
      try clear c1
      try clear c2
      try clear c2b0
      try clear c2b1
      try clear p2
      try clear hcz4_0
      try clear hcz6_0
      try clear hfz4_0
      try clear hfz6_0
      obtain ⟨x16_1, rfl, HA, HK1, BK195, HB⟩ := hrel
      cases gk with
      | zero => exact absurd HA.out (by simp [impl_ValidGraph.l0])
      | succ k1 =>
        have H := HA.out
        clear HA
        simp only [impl_ValidGraph.l0] at H
        by_cases c7 : x16_1 < (l0_0.length : Int)
        · rw [if_pos c7] at H
          have c7b0 : decide (x16_1 < (l0_0.length : Int)) = true := decide_eq_true c7
          clear c7
          by_cases c8 : 0 ≤ x16_1
          · rw [if_pos c8] at H
            have c8b0 : decide (0 ≤ x16_1) = true := decide_eq_true c8
            clear c8
            by_cases c9 : x16_1 < (l0_0.length : Int)
            · rw [if_pos c9] at H
              have c9b0 : decide (x16_1 < (l0_0.length : Int)) = true := decide_eq_true c9
              clear c9
              have H' := Aside0.mk H
              clear H
              have p196 : 0 ≤ (x16_1 : Int) := of_decide_eq_true (by first | (with_reducible assumption) | assumption)
              have q196 : x16_1 < (l0_0.length : Int) := of_decide_eq_true (by first | (with_reducible assumption) | assumption)
              obtain ⟨ad196, A196_1, c196_1, A196_2, c196_2, e196, hx196_0, hx196_1, hx196_2, hl196_1, hi196_1, hl196_2, hi196_2⟩ := at_T68 HR0_0.out x16_1 p196 q196
              cases e196
              replace hx196_0 := (HB.out.cell (World.block_lt_of_cell? w _ hx196_0)).trans hx196_0
              replace hx196_1 := (HB.out.cell (World.block_lt_of_cell? w _ hx196_1)).trans hx196_1
              replace hx196_2 := (HB.out.cell (World.block_lt_of_cell? w _ hx196_2)).trans hx196_2
              have HR196_1 := Aside0.mk hi196_1
              have HC196_1 := Aside0.mk hl196_1
              clear hi196_1 hl196_1
              have HR196_2 := Aside0.mk hi196_2
              have HC196_2 := Aside0.mk hl196_2
              clear hi196_2 hl196_2
              replace p196 := eq_true p196
              replace q196 := eq_true q196
              go_wp2_with (first | ((with_reducible refine gate_dst (N := 4) rfl ?_); (try (refine gate_guard (by rfl) ?_; dsimp only)); refine box_event ?hg (N := 4) ?hd (cs := #[.int .i64 0, .slice none 0 0, .slice none 0 0]) (t := 68) ?hr ?_; (case hd => rfl); (case hg => rfl); (case hr => first | (go_simp; done) | (go_simp; rfl)); intro gb197 hg w10 hbox hb; have n0_ := Aside0.mk (blk_below (g := gb195) (o := .cells #[.slice (some ad196) l0_0.length c0_0] 36 (0, 0)) (by (with_reducible repeat (first | refine blk_drewN ?_ _ | refine blk_drew ?_ | refine blk_alloc ?_ _)); exact BK195.out) hb); have n1_ := Aside0.mk (below_step (by repeat (first | (with_reducible first | exact HB.out | apply below_alloc | apply pw_below_drewN | apply below_drew1 | refine below_set ?_ GE195.out) | exact HB.out)) hb); have n2_ := Aside0.mk (hbox); have n3_ := Aside0.mk ((by rw [hg]; exact (below_size (by repeat (first | (with_reducible first | exact HB.out | apply below_alloc | apply pw_below_drewN | apply below_drew1 | refine below_set ?_ GE195.out) | exact HB.out))) : w.heap.size ≤ gb197)); have n4_ := Aside0.mk ((by rw [hg]; exact (below_size (by repeat (first | (with_reducible first | exact HB.out | apply below_alloc | apply pw_below_drewN | apply below_drew1 | refine below_set ?_ GE195.out) | exact HB.out))) : w.heap.size ≤ gb197)); have n5_ := Aside0.mk ((by rw [hg]; exact Nat.ne_of_lt (blk_lt (g := gb195) (o := .cells #[.slice (some ad196) l0_0.length c0_0] 36 (0, 0)) (by (with_reducible repeat (first | refine blk_drewN ?_ _ | refine blk_drew ?_ | refine blk_alloc ?_ _)); exact BK195.out)) : gb195 ≠ gb197)); have n6_ := Aside0.mk ((by rw [hg]; exact Nat.ne_of_gt (blk_lt (g := gb195) (o := .cells #[.slice (some ad196) l0_0.length c0_0] 36 (0, 0)) (by (with_reducible repeat (first | refine blk_drewN ?_ _ | refine blk_drew ?_ | refine blk_alloc ?_ _)); exact BK195.out)) : gb197 ≠ gb195)); clear BK195; clear HB; have BK195 := n0_; have HB := n1_; have BK197 := n2_; have GW197 := n3_; have GE197 := n4_; have NB195_197 := n5_; have NB197_195 := n6_; clear n0_ n1_ n2_ n3_ n4_ n5_ n6_; clear hb hbox hg; have hnb11 := NB197_195.out; have hnc11 := NB195_197.out; have hcz12_0 : w10.cell? ⟨gb197, 0, none⟩ = some (.int .i64 0) := (blk_cell BK197.out 0).trans rfl; have hcz12_1 : w10.cell? ⟨gb197, 1, none⟩ = some (.slice none 0 0) := (blk_cell BK197.out 1).trans rfl; have hcz12_2 : w10.cell? ⟨gb197, 2, none⟩ = some (.slice none 0 0) := (blk_cell BK197.out 2).trans rfl; have hfz12_0 := blk_frozen BK197.out 0; have hfz12_1 := blk_frozen BK197.out 1; have hfz12_2 := blk_frozen BK197.out 2))
              go_loopg [23] k1 (fun kq v23 w' => ∃ (x23_2 : Int), v23 = .int .i64 x23_2 ∧ Aside0 (impl_ValidGraph.l1 kq l0_0 (l0_0.length : Int) x16_1 ((rd_T68 l0_0 x16_1).f2) (((rd_T68 l0_0 x16_1).f2).length : Int) x23_2 l0_0 ((rd_T68 l0_0 x16_1).f0) ((rd_T68 l0_0 x16_1).f1) ((rd_T68 l0_0 x16_1).f2) = some r) ∧ Aside0 (kq ≤ k1) ∧ Aside0 (w'.heap[gb195]? = some (.cells #[(.slice (some ad196) l0_0.length c0_0)] 36 (0, 0))) ∧ Aside0 (w'.heap[gb197]? = some (.cells #[.int .i64 ((rd_T68 l0_0 x16_1).f0), (.slice A196_1 ((rd_T68 l0_0 x16_1).f1).length c196_1), (.slice A196_2 ((rd_T68 l0_0 x16_1).f2).length c196_2)] 68 (0, 0))) ∧ Aside0 (Below w.heap.size w w'))
              case atStart => exact ⟨(0), (by first | rfl | (simp; done) | (simp [*]; done)), H', ⟨Nat.le_refl _⟩, ⟨by (with_reducible repeat (first | refine blk_drewN ?_ _ | refine blk_drew ?_ | refine blk_alloc ?_ _)); refine blk_far ?_ NB195_197.out _; (with_reducible repeat (first | refine blk_drewN ?_ _ | refine blk_drew ?_ | refine blk_alloc ?_ _)); refine blk_far ?_ NB195_197.out _; (with_reducible repeat (first | refine blk_drewN ?_ _ | refine blk_drew ?_ | refine blk_alloc ?_ _)); refine blk_far ?_ NB195_197.out _; (with_reducible repeat (first | refine blk_drewN ?_ _ | refine blk_drew ?_ | refine blk_alloc ?_ _)); exact BK195.out⟩, ⟨by (with_reducible repeat (first | refine blk_drewN ?_ _ | refine blk_drew ?_ | refine blk_alloc ?_ _)); refine blk_put (cs := #[.int .i64 ((rd_T68 l0_0 x16_1).f0), .slice A196_1 ((rd_T68 l0_0 x16_1).f1).length c196_1, .slice none 0 0]) ?_ 2 _ rfl; (with_reducible repeat (first | refine blk_drewN ?_ _ | refine blk_drew ?_ | refine blk_alloc ?_ _)); refine blk_put (cs := #[.int .i64 ((rd_T68 l0_0 x16_1).f0), .slice none 0 0, .slice none 0 0]) ?_ 1 _ rfl; (with_reducible repeat (first | refine blk_drewN ?_ _ | refine blk_drew ?_ | refine blk_alloc ?_ _)); refine blk_put (cs := #[.int .i64 0, .slice none 0 0, .slice none 0 0]) ?_ 0 _ rfl; (with_reducible repeat (first | refine blk_drewN ?_ _ | refine blk_drew ?_ | refine blk_alloc ?_ _)); exact BK197.out⟩, ⟨by repeat (first | (with_reducible first | exact HB.out | apply below_alloc | apply pw_below_drewN | apply below_drew1 | refine below_set ?_ GE195.out | refine below_set ?_ GE197.out) | exact HB.out)⟩⟩
              case round =>
                clear H'
                try clear c1
                try clear p1
                try clear q1
                try clear hx1
                try clear c2
                try clear c2b0
                try clear c2b1
                try clear p2
                try clear c7
                try clear c7b0
                try clear c8
                try clear c8b0
                try clear c9
                try clear c9b0
                try clear c11
                try clear hcz12_0
                try clear hcz12_1
                try clear hcz12_2
                try clear hcz4_0
                try clear hcz6_0
                try clear hfz12_0
                try clear hfz12_1
                try clear hfz12_2
                try clear hfz4_0
                try clear hfz6_0
                try clear hx196_0
                try clear hx196_1
                try clear hx196_2
                try clear p196
                try clear p2
                try clear q196
                obtain ⟨x23_2, rfl, HA, HK2, BK195, BK197, HB⟩ := hrel
                cases gk with
                | zero => exact absurd HA.out (by simp [impl_ValidGraph.l1])
                | succ k2 =>
                  have H := HA.out
                  clear HA
                  simp only [impl_ValidGraph.l1] at H
                  by_cases c13 : x23_2 < (((rd_T68 l0_0 x16_1).f2).length : Int)
                  · rw [if_pos c13] at H
                    have c13b0 : decide (x23_2 < (((rd_T68 l0_0 x16_1).f2).length : Int)) = true := decide_eq_true c13
                    clear c13
                    by_cases c14 : 0 ≤ x23_2
                    · rw [if_pos c14] at H
                      have c14b0 : decide (0 ≤ x23_2) = true := decide_eq_true c14
                      clear c14
                      by_cases c15 : x23_2 < (((rd_T68 l0_0 x16_1).f2).length : Int)
                      · rw [if_pos c15] at H
                        have c15b0 : decide (x23_2 < (((rd_T68 l0_0 x16_1).f2).length : Int)) = true := decide_eq_true c15
                        clear c15
                        by_cases c16 : (rd ((rd_T68 l0_0 x16_1).f2) x23_2) < 0
                        · rw [if_pos c16] at H
                          have c16b0 : decide ((rd ((rd_T68 l0_0 x16_1).f2) x23_2) < 0) = true := decide_eq_true c16
                          clear c16
                          obtain rfl := Option.some.inj H
                          have p198 : 0 ≤ (x23_2 : Int) := of_decide_eq_true (by first | (with_reducible assumption) | assumption)
                          have q198 : x23_2 < (((rd_T68 l0_0 x16_1).f2).length : Int) := of_decide_eq_true (by first | (with_reducible assumption) | assumption)
                          obtain ⟨ad198, e198, hx198_0⟩ := Kd.at_int HR196_2.out x23_2 p198 q198
                          cases e198
                          replace hx198_0 := (HB.out.cell (World.block_lt_of_cell? w _ hx198_0)).trans hx198_0
                          replace p198 := eq_true p198
                          replace q198 := eq_true q198
                          go_wp2
                          go_ret
                          exact ⟨by first | rfl | (simp [errW_none, errW_some] <;> rfl) | (simp [*, errW_none, errW_some] <;> rfl), by repeat (first | (with_reducible first | exact HB.out | apply below_alloc | apply pw_below_drewN | apply below_drew1 | refine below_set ?_ GE195.out | refine below_set ?_ GE197.out) | exact HB.out)⟩
                        · rw [if_neg c16] at H
                          have c16b0 : decide ((rd ((rd_T68 l0_0 x16_1).f2) x23_2) < 0) = false := decide_eq_false c16
                          clear c16
                          by_cases c17 : (rd ((rd_T68 l0_0 x16_1).f2) x23_2) ≥ (l0_0.length : Int)
                          · rw [if_pos c17] at H
                            have c17b0 : decide ((l0_0.length : Int) ≤ (rd ((rd_T68 l0_0 x16_1).f2) x23_2)) = true := decide_eq_true c17
                            clear c17
                            obtain rfl := Option.some.inj H
                            have p198 : 0 ≤ (x23_2 : Int) := of_decide_eq_true (by first | (with_reducible assumption) | assumption)
                            have q198 : x23_2 < (((rd_T68 l0_0 x16_1).f2).length : Int) := of_decide_eq_true (by first | (with_reducible assumption) | assumption)
                            obtain ⟨ad198, e198, hx198_0⟩ := Kd.at_int HR196_2.out x23_2 p198 q198
                            cases e198
                            replace hx198_0 := (HB.out.cell (World.block_lt_of_cell? w _ hx198_0)).trans hx198_0
                            replace p198 := eq_true p198
                            replace q198 := eq_true q198
                            have hnb18 := NB195_197.out
                            have hnc18 := NB197_195.out
                            have hcz19_0 : wr.cell? ⟨gb195, 0, none⟩ = some (.slice (some ad196) l0_0.length c0_0) := (blk_cell BK195.out 0).trans rfl
                            have hfz19_0 := blk_frozen BK195.out 0
                            go_wp2
                            go_ret
                            exact ⟨by first | rfl | (simp [errW_none, errW_some] <;> rfl) | (simp [*, errW_none, errW_some] <;> rfl), by repeat (first | (with_reducible first | exact HB.out | apply below_alloc | apply pw_below_drewN | apply below_drew1 | refine below_set ?_ GE195.out | refine below_set ?_ GE197.out) | exact HB.out)⟩
                          · rw [if_neg c17] at H
                            have c17b0 : decide ((l0_0.length : Int) ≤ (rd ((rd_T68 l0_0 x16_1).f2) x23_2)) = false := decide_eq_false c17
                            clear c17
                            have H' := Aside0.mk H
                            clear H
                            have p198 : 0 ≤ (x23_2 : Int) := of_decide_eq_true (by first | (with_reducible assumption) | assumption)
                            have q198 : x23_2 < (((rd_T68 l0_0 x16_1).f2).length : Int) := of_decide_eq_true (by first | (with_reducible assumption) | assumption)
                            obtain ⟨ad198, e198, hx198_0⟩ := Kd.at_int HR196_2.out x23_2 p198 q198
                            cases e198
                            replace hx198_0 := (HB.out.cell (World.block_lt_of_cell? w _ hx198_0)).trans hx198_0
                            replace p198 := eq_true p198
                            replace q198 := eq_true q198
                            have hnb20 := NB195_197.out
                            have hnc20 := NB197_195.out
                            have hcz21_0 : wr.cell? ⟨gb195, 0, none⟩ = some (.slice (some ad196) l0_0.length c0_0) := (blk_cell BK195.out 0).trans rfl
                            have hfz21_0 := blk_frozen BK195.out 0
                            go_wp2
                            go_roundg k2
                            case measure => have := HK1.out; have := HK2.out; omega
                            case rel => exact ⟨(wrap64 (x23_2 + 1)), (by first | rfl | (simp; done) | (simp [*]; done)), H', ⟨by have := HK1.out; have := HK2.out; omega⟩, ⟨by (with_reducible repeat (first | refine blk_drewN ?_ _ | refine blk_drew ?_ | refine blk_alloc ?_ _)); exact BK195.out⟩, ⟨by (with_reducible repeat (first | refine blk_drewN ?_ _ | refine blk_drew ?_ | refine blk_alloc ?_ _)); exact BK197.out⟩, ⟨by repeat (first | (with_reducible first | exact HB.out | apply below_alloc | apply pw_below_drewN | apply below_drew1 | refine below_set ?_ GE195.out | refine below_set ?_ GE197.out) | exact HB.out)⟩⟩
                      · rw [if_neg c15] at H
                        exact absurd H (by simp)
                    · rw [if_neg c14] at H
                      exact absurd H (by simp)
                  · rw [if_neg c13] at H
                    have c13b0 : decide (x23_2 < (((rd_T68 l0_0 x16_1).f2).length : Int)) = false := decide_eq_false c13
                    clear c13
                    have HC22 := Aside0.mk H
                    clear H
                    have hnb23 := NB197_195.out
                    have hnc23 := NB195_197.out
                    have hcz24_0 : wr.cell? ⟨gb197, 0, none⟩ = some (.int .i64 ((rd_T68 l0_0 x16_1).f0)) := (blk_cell BK197.out 0).trans rfl
                    have hcz24_1 : wr.cell? ⟨gb197, 1, none⟩ = some (.slice A196_1 ((rd_T68 l0_0 x16_1).f1).length c196_1) := (blk_cell BK197.out 1).trans rfl
                    have hcz24_2 : wr.cell? ⟨gb197, 2, none⟩ = some (.slice A196_2 ((rd_T68 l0_0 x16_1).f2).length c196_2) := (blk_cell BK197.out 2).trans rfl
                    have hfz24_0 := blk_frozen BK197.out 0
                    have hfz24_1 := blk_frozen BK197.out 1
                    have hfz24_2 := blk_frozen BK197.out 2
                    go_upto_if 39 with (fail)
                    go_cut [39] (fun v39 wc => ∃ (kq : Nat) (x39_21 : Bool), v39 = .bool x39_21 ∧ Aside0 (impl_ValidGraph.j2 kq l0_0 (l0_0.length : Int) x16_1 ((rd_T68 l0_0 x16_1).f0) x39_21 l0_0 ((rd_T68 l0_0 x16_1).f0) ((rd_T68 l0_0 x16_1).f1) ((rd_T68 l0_0 x16_1).f2) = some r) ∧ Aside0 (kq ≤ k2) ∧ Aside0 (wc.heap[gb195]? = some (.cells #[(.slice (some ad196) l0_0.length c0_0)] 36 (0, 0))) ∧ Aside0 (wc.heap[gb197]? = some (.cells #[.int .i64 ((rd_T68 l0_0 x16_1).f0), (.slice A196_1 ((rd_T68 l0_0 x16_1).f1).length c196_1), (.slice A196_2 ((rd_T68 l0_0 x16_1).f2).length c196_2)] 68 (0, 0))) ∧ Aside0 (Below w.heap.size w wc))
                    case first =>
                      have H := HC22.out
                      clear HC22
                      by_cases c25 : ((rd_T68 l0_0 x16_1).f0) = 0
                      · rw [if_pos c25] at H
                        have c25b0 : (((rd_T68 l0_0 x16_1).f0) == 0) = true := beq_iff_eq.mpr c25
                        have c25b1 : (((rd_T68 l0_0 x16_1).f0) != 0) = false := bne_eq_false_iff_eq.mpr c25
                        clear c25
                        (first | rw [c25b0] | (simp only [i64_w, i32_w]; rw [c25b0]) | skip)
                        have H' := Aside0.mk H
                        clear H
                        go_wp2
                        go_meet
                        case rel => exact ⟨_, ((((rd_T68 l0_0 x16_1).f0) == 0)), (by first | rfl | (simp; done) | (simp [*]; done)), H', ⟨by have := HK1.out; have := HK2.out; first | omega | exact Nat.le_refl _⟩, ⟨by (with_reducible repeat (first | refine blk_drewN ?_ _ | refine blk_drew ?_ | refine blk_alloc ?_ _)); exact BK195.out⟩, ⟨by (with_reducible repeat (first | refine blk_drewN ?_ _ | refine blk_drew ?_ | refine blk_alloc ?_ _)); exact BK197.out⟩, ⟨by repeat (first | (with_reducible first | exact HB.out | apply below_alloc | apply pw_below_drewN | apply below_drew1 | refine below_set ?_ GE195.out | refine below_set ?_ GE197.out) | exact HB.out)⟩⟩
                      · rw [if_neg c25] at H
                        have c25b0 : (((rd_T68 l0_0 x16_1).f0) == 0) = false := beq_eq_false_iff_ne.mpr c25
                        have c25b1 : (((rd_T68 l0_0 x16_1).f0) != 0) = true := bne_iff_ne.mpr c25
                        (first | rw [c25b0] | (simp only [i64_w, i32_w]; rw [c25b0]) | skip)
                        by_cases c26 : ((rd_T68 l0_0 x16_1).f0) = 1
                        · rw [if_pos c26] at H
                          have c26b0 : (((rd_T68 l0_0 x16_1).f0) == 1) = true := beq_iff_eq.mpr c26
                          have c26b1 : (((rd_T68 l0_0 x16_1).f0) != 1) = false := bne_eq_false_iff_eq.mpr c26
                          clear c26
                          have H' := Aside0.mk H
                          clear H
                          go_wp2
                          go_meet
                          case rel => exact ⟨_, ((((rd_T68 l0_0 x16_1).f0) == 1)), (by first | rfl | (simp; done) | (simp [*]; done)), H', ⟨by have := HK1.out; have := HK2.out; first | omega | exact Nat.le_refl _⟩, ⟨by (with_reducible repeat (first | refine blk_drewN ?_ _ | refine blk_drew ?_ | refine blk_alloc ?_ _)); exact BK195.out⟩, ⟨by (with_reducible repeat (first | refine blk_drewN ?_ _ | refine blk_drew ?_ | refine blk_alloc ?_ _)); exact BK197.out⟩, ⟨by repeat (first | (with_reducible first | exact HB.out | apply below_alloc | apply pw_below_drewN | apply below_drew1 | refine below_set ?_ GE195.out | refine below_set ?_ GE197.out) | exact HB.out)⟩⟩
                        · rw [if_neg c26] at H
                          have c26b0 : (((rd_T68 l0_0 x16_1).f0) == 1) = false := beq_eq_false_iff_ne.mpr c26
                          have c26b1 : (((rd_T68 l0_0 x16_1).f0) != 1) = true := bne_iff_ne.mpr c26
                          have H' := Aside0.mk H
                          clear H
                          go_wp2
                          go_meet
                          case rel => exact ⟨_, ((((rd_T68 l0_0 x16_1).f0) == 2)), (by first | rfl | (simp; done) | (simp [*]; done)), H', ⟨by have := HK1.out; have := HK2.out; first | omega | exact Nat.le_refl _⟩, ⟨by (with_reducible repeat (first | refine blk_drewN ?_ _ | refine blk_drew ?_ | refine blk_alloc ?_ _)); exact BK195.out⟩, ⟨by (with_reducible repeat (first | refine blk_drewN ?_ _ | refine blk_drew ?_ | refine blk_alloc ?_ _)); exact BK197.out⟩, ⟨by repeat (first | (with_reducible first | exact HB.out | apply below_alloc | apply pw_below_drewN | apply below_drew1 | refine below_set ?_ GE195.out | refine below_set ?_ GE197.out) | exact HB.out)⟩⟩
                    case rest =>
                      clear HC22
                      try clear c1
                      try clear p1
                      try clear q1
                      try clear hx1
                      try clear c2
                      try clear c2b0
                      try clear c2b1
                      try clear p2
                      try clear p6
                      try clear c7
                      try clear c7b0
                      try clear c8
                      try clear c8b0
                      try clear c9
                      try clear c9b0
                      try clear c11
                      try clear c13
                      try clear c13b0
                      try clear c14
                      try clear c14b0
                      try clear c15
                      try clear c15b0
                      try clear c16
                      try clear c16b0
                      try clear c17
                      try clear c17b0
                      try clear c18
                      try clear c19
                      try clear p19
                      try clear q19
                      try clear hx19
                      try clear c20
                      try clear c23
                      try clear c25
                      try clear c25b0
                      try clear c25b1
                      try clear c26
                      try clear c26b0
                      try clear c26b1
                      try clear hcz12_0
                      try clear hcz12_1
                      try clear hcz12_2
                      try clear hcz19_0
                      try clear hcz21_0
                      try clear hcz24_0
                      try clear hcz24_1
                      try clear hcz24_2
                      try clear hcz4_0
                      try clear hcz6_0
                      try clear hfz12_0
                      try clear hfz12_1
                      try clear hfz12_2
                      try clear hfz19_0
                      try clear hfz21_0
                      try clear hfz24_0
                      try clear hfz24_1
                      try clear hfz24_2
                      try clear hfz4_0
                      try clear hfz6_0
                      try clear hx196_0
                      try clear hx196_1
                      try clear hx196_2
                      try clear hx198_0
                      try clear p1
                      try clear p196
                      try clear p198
                      try clear p2
                      try clear q1
                      try clear q196
                      try clear q198
                      obtain ⟨kq, x39_21, rfl, HA, HJ21, BK195, BK197, HB⟩ := hcut
                      cases kq with
                      | zero => exact absurd HA.out (by simp [impl_ValidGraph.j2])
                      | succ kj21 =>
                        have H := HA.out
                        clear HA
                        simp only [impl_ValidGraph.j2] at H
                        by_cases c27 : x39_21 = true
                        · subst c27
                          have H1 : (if (wrap64 ((((rd_T68 l0_0 x16_1).f1).length : Int) + (((rd_T68 l0_0 x16_1).f2).length : Int))) > 0 then (some false) else (impl_ValidGraph.l0 kj21 l0_0 (l0_0.length : Int) (wrap64 (x16_1 + 1)) l0_0)) = some r := by rw [if_pos rfl] at H; exact H
                          clear H
                          have H := H1
                          clear H1
                          by_cases c28 : (wrap64 ((((rd_T68 l0_0 x16_1).f1).length : Int) + (((rd_T68 l0_0 x16_1).f2).length : Int))) > 0
                          · rw [if_pos c28] at H
                            have c28b0 : decide (0 < (wrap64 ((((rd_T68 l0_0 x16_1).f1).length : Int) + (((rd_T68 l0_0 x16_1).f2).length : Int)))) = true := decide_eq_true c28
                            clear c28
                            obtain rfl := Option.some.inj H
                            have hnb29 := NB197_195.out
                            have hnc29 := NB195_197.out
                            have hcz30_0 : wc.cell? ⟨gb197, 0, none⟩ = some (.int .i64 ((rd_T68 l0_0 x16_1).f0)) := (blk_cell BK197.out 0).trans rfl
                            have hcz30_1 : wc.cell? ⟨gb197, 1, none⟩ = some (.slice A196_1 ((rd_T68 l0_0 x16_1).f1).length c196_1) := (blk_cell BK197.out 1).trans rfl
                            have hcz30_2 : wc.cell? ⟨gb197, 2, none⟩ = some (.slice A196_2 ((rd_T68 l0_0 x16_1).f2).length c196_2) := (blk_cell BK197.out 2).trans rfl
                            have hfz30_0 := blk_frozen BK197.out 0
                            have hfz30_1 := blk_frozen BK197.out 1
                            have hfz30_2 := blk_frozen BK197.out 2
                            go_wp2
                            go_ret
                            exact ⟨by first | rfl | (simp [errW_none, errW_some] <;> rfl) | (simp [*, errW_none, errW_some] <;> rfl), by repeat (first | (with_reducible first | exact HB.out | apply below_alloc | apply pw_below_drewN | apply below_drew1 | refine below_set ?_ GE195.out | refine below_set ?_ GE197.out) | exact HB.out)⟩
                          · rw [if_neg c28] at H
                            have c28b0 : decide (0 < (wrap64 ((((rd_T68 l0_0 x16_1).f1).length : Int) + (((rd_T68 l0_0 x16_1).f2).length : Int)))) = false := decide_eq_false c28
                            clear c28
                            have H' := Aside0.mk H
                            clear H
                            have hnb31 := NB197_195.out
                            have hnc31 := NB195_197.out
                            have hcz32_0 : wc.cell? ⟨gb197, 0, none⟩ = some (.int .i64 ((rd_T68 l0_0 x16_1).f0)) := (blk_cell BK197.out 0).trans rfl
                            have hcz32_1 : wc.cell? ⟨gb197, 1, none⟩ = some (.slice A196_1 ((rd_T68 l0_0 x16_1).f1).length c196_1) := (blk_cell BK197.out 1).trans rfl
                            have hcz32_2 : wc.cell? ⟨gb197, 2, none⟩ = some (.slice A196_2 ((rd_T68 l0_0 x16_1).f2).length c196_2) := (blk_cell BK197.out 2).trans rfl
                            have hfz32_0 := blk_frozen BK197.out 0
                            have hfz32_1 := blk_frozen BK197.out 1
                            have hfz32_2 := blk_frozen BK197.out 2
                            go_wp2
                            go_roundg kj21
                            case measure => have := HK1.out; have := HK2.out; have := HJ21.out; omega
                            case rel => exact ⟨(wrap64 (x16_1 + 1)), (by first | rfl | (simp; done) | (simp [*]; done)), H', ⟨by have := HK1.out; have := HK2.out; have := HJ21.out; omega⟩, ⟨by (with_reducible repeat (first | refine blk_drewN ?_ _ | refine blk_drew ?_ | refine blk_alloc ?_ _)); exact BK195.out⟩, ⟨by repeat (first | (with_reducible first | exact HB.out | apply below_alloc | apply pw_below_drewN | apply below_drew1 | refine below_set ?_ GE195.out | refine below_set ?_ GE197.out) | exact HB.out)⟩⟩
                        · replace c27 := Bool.eq_false_iff.mpr c27
                          subst c27
                          have H1 : (if ((rd_T68 l0_0 x16_1).f0) = 3 then (if (((rd_T68 l0_0 x16_1).f1).length : Int) = (((rd_T68 l0_0 x16_1).f2).length : Int) then (impl_ValidGraph.l2 kj21 l0_0 (l0_0.length : Int) x16_1 ((rd_T68 l0_0 x16_1).f1) (((rd_T68 l0_0 x16_1).f1).length : Int) 0 l0_0 ((rd_T68 l0_0 x16_1).f0) ((rd_T68 l0_0 x16_1).f1) ((rd_T68 l0_0 x16_1).f2)) else (some false)) else (if ((rd_T68 l0_0 x16_1).f0) = 4 then (if (((rd_T68 l0_0 x16_1).f1).length : Int) > 0 then (some false) else (if (((rd_T68 l0_0 x16_1).f2).length : Int) = 2 then (impl_ValidGraph.l0 kj21 l0_0 (l0_0.length : Int) (wrap64 (x16_1 + 1)) l0_0) else (some false))) else (some false))) = some r := by rw [if_neg (show ¬ (false = true) by decide)] at H; exact H
                          clear H
                          have H := H1
                          clear H1
                          by_cases c33 : ((rd_T68 l0_0 x16_1).f0) = 3
                          · rw [if_pos c33] at H
                            have c33b0 : (((rd_T68 l0_0 x16_1).f0) == 3) = true := beq_iff_eq.mpr c33
                            have c33b1 : (((rd_T68 l0_0 x16_1).f0) != 3) = false := bne_eq_false_iff_eq.mpr c33
                            clear c33
                            by_cases c34 : (((rd_T68 l0_0 x16_1).f1).length : Int) = (((rd_T68 l0_0 x16_1).f2).length : Int)
                            · rw [if_pos c34] at H
                              have c34b0 : ((((rd_T68 l0_0 x16_1).f1).length : Int) == (((rd_T68 l0_0 x16_1).f2).length : Int)) = true := beq_iff_eq.mpr c34
                              have c34b1 : ((((rd_T68 l0_0 x16_1).f1).length : Int) != (((rd_T68 l0_0 x16_1).f2).length : Int)) = false := bne_eq_false_iff_eq.mpr c34
                              have c34b2 : (((rd_T68 l0_0 x16_1).f1).length == ((rd_T68 l0_0 x16_1).f2).length) = true := by first | simpa using c34 | (simp at c34 ⊢; omega)
                              clear c34
                              have H' := Aside0.mk H
                              clear H
                              have hnb35 := NB197_195.out
                              have hnc35 := NB195_197.out
                              have hcz36_0 : wc.cell? ⟨gb197, 0, none⟩ = some (.int .i64 ((rd_T68 l0_0 x16_1).f0)) := (blk_cell BK197.out 0).trans rfl
                              have hcz36_1 : wc.cell? ⟨gb197, 1, none⟩ = some (.slice A196_1 ((rd_T68 l0_0 x16_1).f1).length c196_1) := (blk_cell BK197.out 1).trans rfl
                              have hcz36_2 : wc.cell? ⟨gb197, 2, none⟩ = some (.slice A196_2 ((rd_T68 l0_0 x16_1).f2).length c196_2) := (blk_cell BK197.out 2).trans rfl
                              have hfz36_0 := blk_frozen BK197.out 0
                              have hfz36_1 := blk_frozen BK197.out 1
                              have hfz36_2 := blk_frozen BK197.out 2
                              go_wp2
                              go_loopg [63] kj21 (fun kq v63 w' => ∃ (x63_4 : Int), v63 = .int .i64 x63_4 ∧ Aside0 (impl_ValidGraph.l2 kq l0_0 (l0_0.length : Int) x16_1 ((rd_T68 l0_0 x16_1).f1) (((rd_T68 l0_0 x16_1).f1).length : Int) x63_4 l0_0 ((rd_T68 l0_0 x16_1).f0) ((rd_T68 l0_0 x16_1).f1) ((rd_T68 l0_0 x16_1).f2) = some r) ∧ Aside0 (kq ≤ kj21) ∧ Aside0 (w'.heap[gb195]? = some (.cells #[(.slice (some ad196) l0_0.length c0_0)] 36 (0, 0))) ∧ Aside0 (w'.heap[gb197]? = some (.cells #[.int .i64 ((rd_T68 l0_0 x16_1).f0), (.slice A196_1 ((rd_T68 l0_0 x16_1).f1).length c196_1), (.slice A196_2 ((rd_T68 l0_0 x16_1).f2).length c196_2)] 68 (0, 0))) ∧ Aside0 (Below w.heap.size w w'))
                              case atStart => exact ⟨(0), (by first | rfl | (simp; done) | (simp [*]; done)), H', ⟨Nat.le_refl _⟩, ⟨by (with_reducible repeat (first | refine blk_drewN ?_ _ | refine blk_drew ?_ | refine blk_alloc ?_ _)); exact BK195.out⟩, ⟨by (with_reducible repeat (first | refine blk_drewN ?_ _ | refine blk_drew ?_ | refine blk_alloc ?_ _)); exact BK197.out⟩, ⟨by repeat (first | (with_reducible first | exact HB.out | apply below_alloc | apply pw_below_drewN | apply below_drew1 | refine below_set ?_ GE195.out | refine below_set ?_ GE197.out) | exact HB.out)⟩⟩
                              case round =>
                                clear H'
                                try clear c1
                                try clear p1
                                try clear q1
                                try clear hx1
                                try clear c2
                                try clear c2b0
                                try clear c2b1
                                try clear p2
                                try clear c3
                                try clear p6
                                try clear c7
                                try clear c7b0
                                try clear c8
                                try clear c8b0
                                try clear c9
                                try clear c9b0
                                try clear c11
                                try clear c13
                                try clear c13b0
                                try clear c14
                                try clear c14b0
                                try clear c15
                                try clear c15b0
                                try clear c16
                                try clear c16b0
                                try clear c17
                                try clear c17b0
                                try clear c18
                                try clear c19
                                try clear p19
                                try clear q19
                                try clear hx19
                                try clear c20
                                try clear c23
                                try clear c25
                                try clear c25b0
                                try clear c25b1
                                try clear c26
                                try clear c26b0
                                try clear c26b1
                                try clear c27
                                try clear c28
                                try clear c28b0
                                try clear c29
                                try clear c31
                                try clear c33
                                try clear c33b0
                                try clear c33b1
                                try clear c34
                                try clear c34b0
                                try clear c34b1
                                try clear c34b2
                                try clear c35
                                try clear hcz12_0
                                try clear hcz12_1
                                try clear hcz12_2
                                try clear hcz19_0
                                try clear hcz21_0
                                try clear hcz24_0
                                try clear hcz24_1
                                try clear hcz24_2
                                try clear hcz30_0
                                try clear hcz30_1
                                try clear hcz30_2
                                try clear hcz32_0
                                try clear hcz32_1
                                try clear hcz32_2
                                try clear hcz36_0
                                try clear hcz36_1
                                try clear hcz36_2
                                try clear hcz4_0
                                try clear hcz6_0
                                try clear hfz12_0
                                try clear hfz12_1
                                try clear hfz12_2
                                try clear hfz19_0
                                try clear hfz21_0
                                try clear hfz24_0
                                try clear hfz24_1
                                try clear hfz24_2
                                try clear hfz30_0
                                try clear hfz30_1
                                try clear hfz30_2
                                try clear hfz32_0
                                try clear hfz32_1
                                try clear hfz32_2
                                try clear hfz36_0
                                try clear hfz36_1
                                try clear hfz36_2
                                try clear hfz4_0
                                try clear hfz6_0
                                try clear hx196_0
                                try clear hx196_1
                                try clear hx196_2
                                try clear hx198_0
                                try clear p1
                                try clear p19
                                try clear p196
                                try clear p198
                                try clear p2
                                try clear p6
                                try clear q1
                                try clear q19
                                try clear q196
                                try clear q198
                                obtain ⟨x63_4, rfl, HA, HK4, BK195, BK197, HB⟩ := hrel
                                cases gk with
                                | zero => exact absurd HA.out (by simp [impl_ValidGraph.l2])
                                | succ k4 =>
                                  have H := HA.out
                                  clear HA
                                  simp only [impl_ValidGraph.l2] at H
                                  by_cases c37 : x63_4 < (((rd_T68 l0_0 x16_1).f1).length : Int)
                                  · rw [if_pos c37] at H
                                    have c37b0 : decide (x63_4 < (((rd_T68 l0_0 x16_1).f1).length : Int)) = true := decide_eq_true c37
                                    clear c37
                                    by_cases c38 : 0 ≤ x63_4
                                    · rw [if_pos c38] at H
                                      have c38b0 : decide (0 ≤ x63_4) = true := decide_eq_true c38
                                      clear c38
                                      by_cases c39 : x63_4 < (((rd_T68 l0_0 x16_1).f1).length : Int)
                                      · rw [if_pos c39] at H
                                        have c39b0 : decide (x63_4 < (((rd_T68 l0_0 x16_1).f1).length : Int)) = true := decide_eq_true c39
                                        clear c39
                                        replace H := Option.bind_eq_some_iff.mp H
                                        obtain ⟨t200, A400, H⟩ := H
                                        replace H : (if t200 = true then (if x63_4 > 0 then (if 0 ≤ (wrap64 (x63_4 - 1)) then (if (wrap64 (x63_4 - 1)) < (((rd_T68 l0_0 x16_1).f1).length : Int) then (if ((Op.bytesLess ((rdOf ByteArray.empty ((rd_T68 l0_0 x16_1).f1) (wrap64 (x63_4 - 1))).toList) ((rdOf ByteArray.empty ((rd_T68 l0_0 x16_1).f1) x63_4).toList)) = true) then (impl_ValidGraph.l2 k4 l0_0 (l0_0.length : Int) x16_1 ((rd_T68 l0_0 x16_1).f1) (((rd_T68 l0_0 x16_1).f1).length : Int) (wrap64 (x63_4 + 1)) l0_0 ((rd_T68 l0_0 x16_1).f0) ((rd_T68 l0_0 x16_1).f1) ((rd_T68 l0_0 x16_1).f2)) else (some false)) else (none)) else (none)) else (impl_ValidGraph.l2 k4 l0_0 (l0_0.length : Int) x16_1 ((rd_T68 l0_0 x16_1).f1) (((rd_T68 l0_0 x16_1).f1).length : Int) (wrap64 (x63_4 + 1)) l0_0 ((rd_T68 l0_0 x16_1).f0) ((rd_T68 l0_0 x16_1).f1) ((rd_T68 l0_0 x16_1).f2))) else (some false)) = some r := H
                                        have A40 := Aside0.mk A400
                                        clear A400
                                        by_cases c41 : t200 = true
                                        · subst c41
                                          have H1 : (if x63_4 > 0 then (if 0 ≤ (wrap64 (x63_4 - 1)) then (if (wrap64 (x63_4 - 1)) < (((rd_T68 l0_0 x16_1).f1).length : Int) then (if ((Op.bytesLess ((rdOf ByteArray.empty ((rd_T68 l0_0 x16_1).f1) (wrap64 (x63_4 - 1))).toList) ((rdOf ByteArray.empty ((rd_T68 l0_0 x16_1).f1) x63_4).toList)) = true) then (impl_ValidGraph.l2 k4 l0_0 (l0_0.length : Int) x16_1 ((rd_T68 l0_0 x16_1).f1) (((rd_T68 l0_0 x16_1).f1).length : Int) (wrap64 (x63_4 + 1)) l0_0 ((rd_T68 l0_0 x16_1).f0) ((rd_T68 l0_0 x16_1).f1) ((rd_T68 l0_0 x16_1).f2)) else (some false)) else (none)) else (none)) else (impl_ValidGraph.l2 k4 l0_0 (l0_0.length : Int) x16_1 ((rd_T68 l0_0 x16_1).f1) (((rd_T68 l0_0 x16_1).f1).length : Int) (wrap64 (x63_4 + 1)) l0_0 ((rd_T68 l0_0 x16_1).f0) ((rd_T68 l0_0 x16_1).f1) ((rd_T68 l0_0 x16_1).f2))) = some r := by rw [if_pos rfl] at H; exact H
                                          clear H
                                          have H := H1
                                          clear H1
                                          by_cases c42 : x63_4 > 0
                                          · rw [if_pos c42] at H
                                            have c42b0 : decide (0 < x63_4) = true := decide_eq_true c42
                                            clear c42
                                            obtain ⟨ji43, hji43⟩ : ∃ j_ : Int, (wrap64 (x63_4 - 1)) = j_ := ⟨_, rfl⟩
                                            replace H : (if 0 ≤ (ji43) then (if (ji43) < (((rd_T68 l0_0 x16_1).f1).length : Int) then (if ((Op.bytesLess ((rdOf ByteArray.empty ((rd_T68 l0_0 x16_1).f1) (ji43)).toList) ((rdOf ByteArray.empty ((rd_T68 l0_0 x16_1).f1) x63_4).toList)) = true) then (impl_ValidGraph.l2 k4 l0_0 (l0_0.length : Int) x16_1 ((rd_T68 l0_0 x16_1).f1) (((rd_T68 l0_0 x16_1).f1).length : Int) (wrap64 (x63_4 + 1)) l0_0 ((rd_T68 l0_0 x16_1).f0) ((rd_T68 l0_0 x16_1).f1) ((rd_T68 l0_0 x16_1).f2)) else (some false)) else (none)) else (none)) = some r := by first | (rw [hji43] at H; exact H) | (simp only [hji43] at H ⊢; exact H)
                                            (try rw [hji43] at A40)
                                            have hji43w : (IntKind.i64.wrap (x63_4 - 1)) = ji43 := (i64_w _).trans hji43
                                            by_cases c44 : 0 ≤ (ji43)
                                            · rw [if_pos c44] at H
                                              have c44b0 : decide (0 ≤ (ji43)) = true := decide_eq_true c44
                                              clear c44
                                              by_cases c45 : (ji43) < (((rd_T68 l0_0 x16_1).f1).length : Int)
                                              · rw [if_pos c45] at H
                                                have c45b0 : decide ((ji43) < (((rd_T68 l0_0 x16_1).f1).length : Int)) = true := decide_eq_true c45
                                                clear c45
                                                by_cases c46 : ((Op.bytesLess ((rdOf ByteArray.empty ((rd_T68 l0_0 x16_1).f1) (ji43)).toList) ((rdOf ByteArray.empty ((rd_T68 l0_0 x16_1).f1) x63_4).toList)) = true)
                                                · rw [if_pos c46] at H
                                                  have c46b0 : (Op.bytesLess ((rdOf ByteArray.empty ((rd_T68 l0_0 x16_1).f1) (ji43)).toList) ((rdOf ByteArray.empty ((rd_T68 l0_0 x16_1).f1) x63_4).toList)) = true := c46
                                                  clear c46
                                                  have H' := Aside0.mk H
                                                  clear H
                                                  have p199 : 0 ≤ (x63_4 : Int) := of_decide_eq_true (by first | (with_reducible assumption) | assumption)
                                                  have q199 : x63_4 < (((rd_T68 l0_0 x16_1).f1).length : Int) := of_decide_eq_true (by first | (with_reducible assumption) | assumption)
                                                  obtain ⟨ad199, e199, hx199_0⟩ := Kd.at_string HR196_1.out x63_4 p199 q199
                                                  cases e199
                                                  replace hx199_0 := (HB.out.cell (World.block_lt_of_cell? w _ hx199_0)).trans hx199_0
                                                  replace p199 := eq_true p199
                                                  replace q199 := eq_true q199
                                                  go_wp2_with (first | ((with_reducible refine gate_callee (f := 30) rfl ?_); refine goesL_ (some 69) rfl rfl Tryd.func30 (by kernel_rfl) rfl #[.string (rdOf ByteArray.empty ((rd_T68 l0_0 x16_1).f1) x63_4)] rfl (by (try simp only [List.map_toArray, List.map_cons, List.map_nil]); first | done | rfl | (simp only [List.length_drop, List.length_take]; rfl)) ?_; (with_reducible refine (impl_goodName.calls (rdOf ByteArray.empty ((rd_T68 l0_0 x16_1).f1) x63_4) true _ ?side1 A40.out).mono ?_); (case side1 => (first | exact HG.out | exact GRes.below HG.out (by repeat (first | (with_reducible first | exact HB.out | apply below_alloc | apply pw_below_drewN | apply below_drew1 | refine below_set ?_ GE195.out | refine below_set ?_ GE197.out) | exact HB.out)) | (repeat (first | exact HG.out | apply GRes.drewN | apply GRes.drew | apply GRes.alloc)))); rintro e w' ⟨rfl, ⟨nd, rfl⟩⟩; refine ⟨_, rfl, ?_⟩; have hnb47 := NB197_195.out; have hnc47 := NB195_197.out; have hcz48_0 : wr.cell? ⟨gb197, 0, none⟩ = some (.int .i64 ((rd_T68 l0_0 x16_1).f0)) := (blk_cell BK197.out 0).trans rfl; have hcz48_1 : wr.cell? ⟨gb197, 1, none⟩ = some (.slice (some ad199) ((rd_T68 l0_0 x16_1).f1).length c196_1) := (blk_cell BK197.out 1).trans rfl; have hcz48_2 : wr.cell? ⟨gb197, 2, none⟩ = some (.slice A196_2 ((rd_T68 l0_0 x16_1).f2).length c196_2) := (blk_cell BK197.out 2).trans rfl; have hfz48_0 := blk_frozen BK197.out 0; have hfz48_1 := blk_frozen BK197.out 1; have hfz48_2 := blk_frozen BK197.out 2; have p201 : 0 ≤ ((ji43) : Int) := of_decide_eq_true (by first | (with_reducible assumption) | assumption); have q201 : (ji43) < (((rd_T68 l0_0 x16_1).f1).length : Int) := of_decide_eq_true (by first | (with_reducible assumption) | assumption); obtain ⟨ad201, e201, hx201_0⟩ := Kd.at_string HR196_1.out (ji43) p201 q201; obtain rfl : ad199 = ad201 := (by injection e201); replace hx201_0 := (HB.out.cell (World.block_lt_of_cell? w _ hx201_0)).trans hx201_0; replace p201 := eq_true p201; replace q201 := eq_true q201))
                                                  go_roundg k4
                                                  case measure => have := HK1.out; have := HK2.out; have := HJ21.out; have := HK4.out; omega
                                                  case rel => exact ⟨(wrap64 (x63_4 + 1)), (by first | rfl | (simp; done) | (simp [*]; done)), H', ⟨by have := HK1.out; have := HK2.out; have := HJ21.out; have := HK4.out; omega⟩, ⟨by (with_reducible repeat (first | refine blk_drewN ?_ _ | refine blk_drew ?_ | refine blk_alloc ?_ _)); exact BK195.out⟩, ⟨by (with_reducible repeat (first | refine blk_drewN ?_ _ | refine blk_drew ?_ | refine blk_alloc ?_ _)); exact BK197.out⟩, ⟨by repeat (first | (with_reducible first | exact HB.out | apply below_alloc | apply pw_below_drewN | apply below_drew1 | refine below_set ?_ GE195.out | refine below_set ?_ GE197.out) | exact HB.out)⟩⟩
                                                · rw [if_neg c46] at H
                                                  have c46b0 : (Op.bytesLess ((rdOf ByteArray.empty ((rd_T68 l0_0 x16_1).f1) (ji43)).toList) ((rdOf ByteArray.empty ((rd_T68 l0_0 x16_1).f1) x63_4).toList)) = false := by simpa using c46
                                                  clear c46
                                                  obtain rfl := Option.some.inj H
                                                  have p199 : 0 ≤ (x63_4 : Int) := of_decide_eq_true (by first | (with_reducible assumption) | assumption)
                                                  have q199 : x63_4 < (((rd_T68 l0_0 x16_1).f1).length : Int) := of_decide_eq_true (by first | (with_reducible assumption) | assumption)
                                                  obtain ⟨ad199, e199, hx199_0⟩ := Kd.at_string HR196_1.out x63_4 p199 q199
                                                  cases e199
                                                  replace hx199_0 := (HB.out.cell (World.block_lt_of_cell? w _ hx199_0)).trans hx199_0
                                                  replace p199 := eq_true p199
                                                  replace q199 := eq_true q199
                                                  go_wp2_with (first | ((with_reducible refine gate_callee (f := 30) rfl ?_); refine goesL_ (some 69) rfl rfl Tryd.func30 (by kernel_rfl) rfl #[.string (rdOf ByteArray.empty ((rd_T68 l0_0 x16_1).f1) x63_4)] rfl (by (try simp only [List.map_toArray, List.map_cons, List.map_nil]); first | done | rfl | (simp only [List.length_drop, List.length_take]; rfl)) ?_; (with_reducible refine (impl_goodName.calls (rdOf ByteArray.empty ((rd_T68 l0_0 x16_1).f1) x63_4) true _ ?side1 A40.out).mono ?_); (case side1 => (first | exact HG.out | exact GRes.below HG.out (by repeat (first | (with_reducible first | exact HB.out | apply below_alloc | apply pw_below_drewN | apply below_drew1 | refine below_set ?_ GE195.out | refine below_set ?_ GE197.out) | exact HB.out)) | (repeat (first | exact HG.out | apply GRes.drewN | apply GRes.drew | apply GRes.alloc)))); rintro e w' ⟨rfl, ⟨nd, rfl⟩⟩; refine ⟨_, rfl, ?_⟩; have hnb49 := NB197_195.out; have hnc49 := NB195_197.out; have hcz50_0 : wr.cell? ⟨gb197, 0, none⟩ = some (.int .i64 ((rd_T68 l0_0 x16_1).f0)) := (blk_cell BK197.out 0).trans rfl; have hcz50_1 : wr.cell? ⟨gb197, 1, none⟩ = some (.slice (some ad199) ((rd_T68 l0_0 x16_1).f1).length c196_1) := (blk_cell BK197.out 1).trans rfl; have hcz50_2 : wr.cell? ⟨gb197, 2, none⟩ = some (.slice A196_2 ((rd_T68 l0_0 x16_1).f2).length c196_2) := (blk_cell BK197.out 2).trans rfl; have hfz50_0 := blk_frozen BK197.out 0; have hfz50_1 := blk_frozen BK197.out 1; have hfz50_2 := blk_frozen BK197.out 2; have p201 : 0 ≤ ((ji43) : Int) := of_decide_eq_true (by first | (with_reducible assumption) | assumption); have q201 : (ji43) < (((rd_T68 l0_0 x16_1).f1).length : Int) := of_decide_eq_true (by first | (with_reducible assumption) | assumption); obtain ⟨ad201, e201, hx201_0⟩ := Kd.at_string HR196_1.out (ji43) p201 q201; obtain rfl : ad199 = ad201 := (by injection e201); replace hx201_0 := (HB.out.cell (World.block_lt_of_cell? w _ hx201_0)).trans hx201_0; replace p201 := eq_true p201; replace q201 := eq_true q201))
                                                  go_ret
                                                  exact ⟨by first | rfl | (simp [errW_none, errW_some] <;> rfl) | (simp only [← hji43]; first | rfl | (simp [errW_none, errW_some] <;> rfl)) | (simp [*, errW_none, errW_some] <;> rfl), by repeat (first | (with_reducible first | exact HB.out | apply below_alloc | apply pw_below_drewN | apply below_drew1 | refine below_set ?_ GE195.out | refine below_set ?_ GE197.out) | exact HB.out)⟩
                                              · rw [if_neg c45] at H
                                                exact absurd H (by simp)
                                            · rw [if_neg c44] at H
                                              exact absurd H (by simp)
                                          · rw [if_neg c42] at H
                                            have c42b0 : decide (0 < x63_4) = false := decide_eq_false c42
                                            clear c42
                                            have H' := Aside0.mk H
                                            clear H
                                            have p199 : 0 ≤ (x63_4 : Int) := of_decide_eq_true (by first | (with_reducible assumption) | assumption)
                                            have q199 : x63_4 < (((rd_T68 l0_0 x16_1).f1).length : Int) := of_decide_eq_true (by first | (with_reducible assumption) | assumption)
                                            obtain ⟨ad199, e199, hx199_0⟩ := Kd.at_string HR196_1.out x63_4 p199 q199
                                            cases e199
                                            replace hx199_0 := (HB.out.cell (World.block_lt_of_cell? w _ hx199_0)).trans hx199_0
                                            replace p199 := eq_true p199
                                            replace q199 := eq_true q199
                                            go_wp2_with (first | ((with_reducible refine gate_callee (f := 30) rfl ?_); refine goesL_ (some 69) rfl rfl Tryd.func30 (by kernel_rfl) rfl #[.string (rdOf ByteArray.empty ((rd_T68 l0_0 x16_1).f1) x63_4)] rfl (by (try simp only [List.map_toArray, List.map_cons, List.map_nil]); first | done | rfl | (simp only [List.length_drop, List.length_take]; rfl)) ?_; (with_reducible refine (impl_goodName.calls (rdOf ByteArray.empty ((rd_T68 l0_0 x16_1).f1) x63_4) true _ ?side1 A40.out).mono ?_); (case side1 => (first | exact HG.out | exact GRes.below HG.out (by repeat (first | (with_reducible first | exact HB.out | apply below_alloc | apply pw_below_drewN | apply below_drew1 | refine below_set ?_ GE195.out | refine below_set ?_ GE197.out) | exact HB.out)) | (repeat (first | exact HG.out | apply GRes.drewN | apply GRes.drew | apply GRes.alloc)))); rintro e w' ⟨rfl, ⟨nd, rfl⟩⟩; refine ⟨_, rfl, ?_⟩))
                                            go_roundg k4
                                            case measure => have := HK1.out; have := HK2.out; have := HJ21.out; have := HK4.out; omega
                                            case rel => exact ⟨(wrap64 (x63_4 + 1)), (by first | rfl | (simp; done) | (simp [*]; done)), H', ⟨by have := HK1.out; have := HK2.out; have := HJ21.out; have := HK4.out; omega⟩, ⟨by (with_reducible repeat (first | refine blk_drewN ?_ _ | refine blk_drew ?_ | refine blk_alloc ?_ _)); exact BK195.out⟩, ⟨by (with_reducible repeat (first | refine blk_drewN ?_ _ | refine blk_drew ?_ | refine blk_alloc ?_ _)); exact BK197.out⟩, ⟨by repeat (first | (with_reducible first | exact HB.out | apply below_alloc | apply pw_below_drewN | apply below_drew1 | refine below_set ?_ GE195.out | refine below_set ?_ GE197.out) | exact HB.out)⟩⟩
                                        · replace c41 := Bool.eq_false_iff.mpr c41
                                          subst c41
                                          have H1 : (some false) = some r := by rw [if_neg (show ¬ (false = true) by decide)] at H; exact H
                                          clear H
                                          have H := H1
                                          clear H1
                                          obtain rfl := Option.some.inj H
                                          have p199 : 0 ≤ (x63_4 : Int) := of_decide_eq_true (by first | (with_reducible assumption) | assumption)
                                          have q199 : x63_4 < (((rd_T68 l0_0 x16_1).f1).length : Int) := of_decide_eq_true (by first | (with_reducible assumption) | assumption)
                                          obtain ⟨ad199, e199, hx199_0⟩ := Kd.at_string HR196_1.out x63_4 p199 q199
                                          cases e199
                                          replace hx199_0 := (HB.out.cell (World.block_lt_of_cell? w _ hx199_0)).trans hx199_0
                                          replace p199 := eq_true p199
                                          replace q199 := eq_true q199
                                          go_wp2_with (first | ((with_reducible refine gate_callee (f := 30) rfl ?_); refine goesL_ (some 69) rfl rfl Tryd.func30 (by kernel_rfl) rfl #[.string (rdOf ByteArray.empty ((rd_T68 l0_0 x16_1).f1) x63_4)] rfl (by (try simp only [List.map_toArray, List.map_cons, List.map_nil]); first | done | rfl | (simp only [List.length_drop, List.length_take]; rfl)) ?_; (with_reducible refine (impl_goodName.calls (rdOf ByteArray.empty ((rd_T68 l0_0 x16_1).f1) x63_4) false _ ?side1 A40.out).mono ?_); (case side1 => (first | exact HG.out | exact GRes.below HG.out (by repeat (first | (with_reducible first | exact HB.out | apply below_alloc | apply pw_below_drewN | apply below_drew1 | refine below_set ?_ GE195.out | refine below_set ?_ GE197.out) | exact HB.out)) | (repeat (first | exact HG.out | apply GRes.drewN | apply GRes.drew | apply GRes.alloc)))); rintro e w' ⟨rfl, ⟨nd, rfl⟩⟩; refine ⟨_, rfl, ?_⟩))
                                          go_ret
                                          exact ⟨by first | rfl | (simp [errW_none, errW_some] <;> rfl) | (simp [*, errW_none, errW_some] <;> rfl), by repeat (first | (with_reducible first | exact HB.out | apply below_alloc | apply pw_below_drewN | apply below_drew1 | refine below_set ?_ GE195.out | refine below_set ?_ GE197.out) | exact HB.out)⟩
                                      · rw [if_neg c39] at H
                                        exact absurd H (by simp)
                                    · rw [if_neg c38] at H
                                      exact absurd H (by simp)
                                  · rw [if_neg c37] at H
                                    have c37b0 : decide (x63_4 < (((rd_T68 l0_0 x16_1).f1).length : Int)) = false := decide_eq_false c37
                                    clear c37
                                    have H' := Aside0.mk H
                                    clear H
                                    go_wp2
                                    go_roundg k4
                                    case measure => have := HK1.out; have := HK2.out; have := HJ21.out; have := HK4.out; omega
                                    case rel => exact ⟨(wrap64 (x16_1 + 1)), (by first | rfl | (simp; done) | (simp [*]; done)), H', ⟨by have := HK1.out; have := HK2.out; have := HJ21.out; have := HK4.out; omega⟩, ⟨by (with_reducible repeat (first | refine blk_drewN ?_ _ | refine blk_drew ?_ | refine blk_alloc ?_ _)); exact BK195.out⟩, ⟨by repeat (first | (with_reducible first | exact HB.out | apply below_alloc | apply pw_below_drewN | apply below_drew1 | refine below_set ?_ GE195.out | refine below_set ?_ GE197.out) | exact HB.out)⟩⟩
                            · rw [if_neg c34] at H
                              have c34b0 : ((((rd_T68 l0_0 x16_1).f1).length : Int) == (((rd_T68 l0_0 x16_1).f2).length : Int)) = false := beq_eq_false_iff_ne.mpr c34
                              have c34b1 : ((((rd_T68 l0_0 x16_1).f1).length : Int) != (((rd_T68 l0_0 x16_1).f2).length : Int)) = true := bne_iff_ne.mpr c34
                              have c34b2 : (((rd_T68 l0_0 x16_1).f1).length == ((rd_T68 l0_0 x16_1).f2).length) = false := by first | simpa using c34 | (simp at c34 ⊢; omega)
                              obtain rfl := Option.some.inj H
                              have hnb51 := NB197_195.out
                              have hnc51 := NB195_197.out
                              have hcz52_0 : wc.cell? ⟨gb197, 0, none⟩ = some (.int .i64 ((rd_T68 l0_0 x16_1).f0)) := (blk_cell BK197.out 0).trans rfl
                              have hcz52_1 : wc.cell? ⟨gb197, 1, none⟩ = some (.slice A196_1 ((rd_T68 l0_0 x16_1).f1).length c196_1) := (blk_cell BK197.out 1).trans rfl
                              have hcz52_2 : wc.cell? ⟨gb197, 2, none⟩ = some (.slice A196_2 ((rd_T68 l0_0 x16_1).f2).length c196_2) := (blk_cell BK197.out 2).trans rfl
                              have hfz52_0 := blk_frozen BK197.out 0
                              have hfz52_1 := blk_frozen BK197.out 1
                              have hfz52_2 := blk_frozen BK197.out 2
                              go_wp2
                              go_ret
                              exact ⟨by first | rfl | (simp [errW_none, errW_some] <;> rfl) | (simp [*, errW_none, errW_some] <;> rfl), by repeat (first | (with_reducible first | exact HB.out | apply below_alloc | apply pw_below_drewN | apply below_drew1 | refine below_set ?_ GE195.out | refine below_set ?_ GE197.out) | exact HB.out)⟩
                          · rw [if_neg c33] at H
                            have c33b0 : (((rd_T68 l0_0 x16_1).f0) == 3) = false := beq_eq_false_iff_ne.mpr c33
                            have c33b1 : (((rd_T68 l0_0 x16_1).f0) != 3) = true := bne_iff_ne.mpr c33
                            by_cases c53 : ((rd_T68 l0_0 x16_1).f0) = 4
                            · rw [if_pos c53] at H
                              have c53b0 : (((rd_T68 l0_0 x16_1).f0) == 4) = true := beq_iff_eq.mpr c53
                              have c53b1 : (((rd_T68 l0_0 x16_1).f0) != 4) = false := bne_eq_false_iff_eq.mpr c53
                              clear c53
                              by_cases c54 : (((rd_T68 l0_0 x16_1).f1).length : Int) > 0
                              · rw [if_pos c54] at H
                                have c54b0 : decide (0 < (((rd_T68 l0_0 x16_1).f1).length : Int)) = true := decide_eq_true c54
                                have c54b1 : decide (0 < ((rd_T68 l0_0 x16_1).f1).length) = true := decide_eq_true (by omega)
                                clear c54
                                obtain rfl := Option.some.inj H
                                have hnb55 := NB197_195.out
                                have hnc55 := NB195_197.out
                                have hcz56_0 : wc.cell? ⟨gb197, 0, none⟩ = some (.int .i64 ((rd_T68 l0_0 x16_1).f0)) := (blk_cell BK197.out 0).trans rfl
                                have hcz56_1 : wc.cell? ⟨gb197, 1, none⟩ = some (.slice A196_1 ((rd_T68 l0_0 x16_1).f1).length c196_1) := (blk_cell BK197.out 1).trans rfl
                                have hcz56_2 : wc.cell? ⟨gb197, 2, none⟩ = some (.slice A196_2 ((rd_T68 l0_0 x16_1).f2).length c196_2) := (blk_cell BK197.out 2).trans rfl
                                have hfz56_0 := blk_frozen BK197.out 0
                                have hfz56_1 := blk_frozen BK197.out 1
                                have hfz56_2 := blk_frozen BK197.out 2
                                go_wp2
                                go_ret
                                exact ⟨by first | rfl | (simp [errW_none, errW_some] <;> rfl) | (simp [*, errW_none, errW_some] <;> rfl), by repeat (first | (with_reducible first | exact HB.out | apply below_alloc | apply pw_below_drewN | apply below_drew1 | refine below_set ?_ GE195.out | refine below_set ?_ GE197.out) | exact HB.out)⟩
                              · rw [if_neg c54] at H
                                have c54b0 : decide (0 < (((rd_T68 l0_0 x16_1).f1).length : Int)) = false := decide_eq_false c54
                                have c54b1 : decide (0 < ((rd_T68 l0_0 x16_1).f1).length) = false := decide_eq_false (by omega)
                                clear c54
                                by_cases c57 : (((rd_T68 l0_0 x16_1).f2).length : Int) = 2
                                · rw [if_pos c57] at H
                                  have c57b0 : ((((rd_T68 l0_0 x16_1).f2).length : Int) == 2) = true := beq_iff_eq.mpr c57
                                  have c57b1 : ((((rd_T68 l0_0 x16_1).f2).length : Int) != 2) = false := bne_eq_false_iff_eq.mpr c57
                                  clear c57
                                  have H' := Aside0.mk H
                                  clear H
                                  have hnb58 := NB197_195.out
                                  have hnc58 := NB195_197.out
                                  have hcz59_0 : wc.cell? ⟨gb197, 0, none⟩ = some (.int .i64 ((rd_T68 l0_0 x16_1).f0)) := (blk_cell BK197.out 0).trans rfl
                                  have hcz59_1 : wc.cell? ⟨gb197, 1, none⟩ = some (.slice A196_1 ((rd_T68 l0_0 x16_1).f1).length c196_1) := (blk_cell BK197.out 1).trans rfl
                                  have hcz59_2 : wc.cell? ⟨gb197, 2, none⟩ = some (.slice A196_2 ((rd_T68 l0_0 x16_1).f2).length c196_2) := (blk_cell BK197.out 2).trans rfl
                                  have hfz59_0 := blk_frozen BK197.out 0
                                  have hfz59_1 := blk_frozen BK197.out 1
                                  have hfz59_2 := blk_frozen BK197.out 2
                                  go_wp2
                                  go_roundg kj21
                                  case measure => have := HK1.out; have := HK2.out; have := HJ21.out; omega
                                  case rel => exact ⟨(wrap64 (x16_1 + 1)), (by first | rfl | (simp; done) | (simp [*]; done)), H', ⟨by have := HK1.out; have := HK2.out; have := HJ21.out; omega⟩, ⟨by (with_reducible repeat (first | refine blk_drewN ?_ _ | refine blk_drew ?_ | refine blk_alloc ?_ _)); exact BK195.out⟩, ⟨by repeat (first | (with_reducible first | exact HB.out | apply below_alloc | apply pw_below_drewN | apply below_drew1 | refine below_set ?_ GE195.out | refine below_set ?_ GE197.out) | exact HB.out)⟩⟩
                                · rw [if_neg c57] at H
                                  have c57b0 : ((((rd_T68 l0_0 x16_1).f2).length : Int) == 2) = false := beq_eq_false_iff_ne.mpr c57
                                  have c57b1 : ((((rd_T68 l0_0 x16_1).f2).length : Int) != 2) = true := bne_iff_ne.mpr c57
                                  obtain rfl := Option.some.inj H
                                  have hnb60 := NB197_195.out
                                  have hnc60 := NB195_197.out
                                  have hcz61_0 : wc.cell? ⟨gb197, 0, none⟩ = some (.int .i64 ((rd_T68 l0_0 x16_1).f0)) := (blk_cell BK197.out 0).trans rfl
                                  have hcz61_1 : wc.cell? ⟨gb197, 1, none⟩ = some (.slice A196_1 ((rd_T68 l0_0 x16_1).f1).length c196_1) := (blk_cell BK197.out 1).trans rfl
                                  have hcz61_2 : wc.cell? ⟨gb197, 2, none⟩ = some (.slice A196_2 ((rd_T68 l0_0 x16_1).f2).length c196_2) := (blk_cell BK197.out 2).trans rfl
                                  have hfz61_0 := blk_frozen BK197.out 0
                                  have hfz61_1 := blk_frozen BK197.out 1
                                  have hfz61_2 := blk_frozen BK197.out 2
                                  go_wp2
                                  go_ret
                                  exact ⟨by first | rfl | (simp [errW_none, errW_some] <;> rfl) | (simp [*, errW_none, errW_some] <;> rfl), by repeat (first | (with_reducible first | exact HB.out | apply below_alloc | apply pw_below_drewN | apply below_drew1 | refine below_set ?_ GE195.out | refine below_set ?_ GE197.out) | exact HB.out)⟩
                            · rw [if_neg c53] at H
                              have c53b0 : (((rd_T68 l0_0 x16_1).f0) == 4) = false := beq_eq_false_iff_ne.mpr c53
                              have c53b1 : (((rd_T68 l0_0 x16_1).f0) != 4) = true := bne_iff_ne.mpr c53
                              obtain rfl := Option.some.inj H
                              go_wp2
                              go_ret
                              exact ⟨by first | rfl | (simp [errW_none, errW_some] <;> rfl) | (simp [*, errW_none, errW_some] <;> rfl), by repeat (first | (with_reducible first | exact HB.out | apply below_alloc | apply pw_below_drewN | apply below_drew1 | refine below_set ?_ GE195.out | refine below_set ?_ GE197.out) | exact HB.out)⟩
            · rw [if_neg c9] at H
              exact absurd H (by simp)
          · rw [if_neg c8] at H
            exact absurd H (by simp)
        · rw [if_neg c7] at H
          have c7b0 : decide (x16_1 < (l0_0.length : Int)) = false := decide_eq_false c7
          clear c7
          obtain rfl := Option.some.inj H
          go_wp2
          go_ret
          exact ⟨by first | rfl | (simp [errW_none, errW_some] <;> rfl) | (simp [*, errW_none, errW_some] <;> rfl), by repeat (first | (with_reducible first | exact HB.out | apply below_alloc | apply pw_below_drewN | apply below_drew1 | refine below_set ?_ GE195.out) | exact HB.out)⟩

end Go.Proofs.YtiicaoiijhodkaaDoor.Gp
