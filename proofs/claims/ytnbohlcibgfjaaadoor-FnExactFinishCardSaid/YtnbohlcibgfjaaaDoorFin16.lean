/- A part of the proof of RowFnExactFinish: each text's theorems that it needs, packed by shake.py, a program of this work; Lean checks them. -/
import Derived.Test.YtnbohlcibgfjaaaDoorFin3
import Derived.Test.YtnbohlcibgfjaaaDoorFin9
import Derived.Test.YtnbohlcibgfjaaaDoorFin11
import Derived.Test.YtnbohlcibgfjaaaDoorFin13
import Derived.Test.YtnbohlcibgfjaaaDoorFin14
import Derived.Test.YtnbohlcibgfjaaaDoorFin15
section
namespace Go.Proofs.YtnbohlcibgfjaaaDoor.Gp
open Go.RowKit Go.Proofs.YtnbohlcibgfjaaaDoorW.PrintWords Go.Proofs.YtnbohlcibgfjaaaDoorW.PrintLast Go.Proofs.YtnbohlcibgfjaaaDoorW.PrintMore
set_option linter.unusedVariables false
set_option linter.unusedSimpArgs false
def spec_Finish.j0 : Nat → Int → Int → ByteArray → List (S29) → Bool → List (S32) → Int → ByteArray → Option ((List (S32)) × Int)
 | 0, _, _, _, _, _, _, _, _ => none
 | k + 1, x2, x3, x4, x5, x38, x329000, x330000, x330001 => if x38 = true then (some (([] : List (S32)), 9)) else ((spec_l4Mine.f k x329000 x330000 x330001 x2 x3).bind fun bt335 => (if bt335.2.2.2.2.2.2.2.2.2 = true then (if bt335.2.2.1 = true then (if bt335.2.2.2.1.toList = x4.toList then ((spec_l4Put.f k x329000 x330000 x330001 true x4 x5 x3 bt335.2.2.2.2.2.2.1 0 0).bind fun t348 => (some (t348, 0))) else ((spec_l4Put.f k x329000 x330000 x330001 true x4 x5 x3 x3 0 0).bind fun t351 => (some (t351, 0)))) else ((spec_l4Put.f k x329000 x330000 x330001 true x4 x5 x3 x3 0 0).bind fun t354 => (some (t354, 0)))) else ((spec_l4Copy.f k x329000).bind fun t357 => (some (t357, 1)))))
def spec_Finish.f (k : Nat) (l0_0 : List (S32)) (a1_0 : Int) (a1_1 : ByteArray) (a2 : Int) (a3 : Int) (a4 : ByteArray) (l5 : List (S29)) : Option ((List (S32)) × Int) := (spec_ValidTable.f k l0_0).bind fun t331 => (if t331 = true then ((spec_l4KeyOk.f k a1_0 a1_1).bind fun t332 => (if t332 = true then ((spec_l4WorkerOk.f a2).bind fun t333 => (if t333 = true then (if a3 < 1 then (spec_Finish.j0 k a2 a3 a4 l5 true l0_0 a1_0 a1_1) else ((spec_l4DepsOk.f k l5).bind fun t334 => (spec_Finish.j0 k a2 a3 a4 l5 (!t334) l0_0 a1_0 a1_1))) else (spec_Finish.j0 k a2 a3 a4 l5 true l0_0 a1_0 a1_1))) else (spec_Finish.j0 k a2 a3 a4 l5 true l0_0 a1_0 a1_1))) else (spec_Finish.j0 k a2 a3 a4 l5 true l0_0 a1_0 a1_1))
set_option maxHeartbeats 8000000 in
set_option maxRecDepth 100000 in
theorem spec_Finish.calls (k : Nat) (A0_0 : Option Addr) (c0_0 : Nat) (l0_0 : List (S32)) (a1_0 : Int) (a1_1 : ByteArray) (a2 : Int) (a3 : Int) (a4 : ByteArray) (A5 : Option Addr) (c5 : Nat) (l5 : List (S29)) (r1 : List (S32)) (r2 : Int) (w : World) (hr0_0 : Kd.C k32 w A0_0 l0_0.length l0_0) (hc0_0 : l0_0.length ≤ c0_0) (hr5 : Kd.C k29 w A5 l5.length l5) (hc5 : l5.length ≤ c5) (h : spec_Finish.f k l0_0 a1_0 a1_1 a2 a3 a4 l5 = some (r1, r2)) :
 Calls Tryd.prog 35 #[.agg #[.slice A0_0 l0_0.length c0_0], .agg #[.int .i64 a1_0, .string a1_1], .int .i64 a2, .int .i64 a3, .string a4, .slice A5 l5.length c5] w fun e w' => ∃ v0_ : Value, e = .returned (.tuple #[.agg #[v0_], .int .i64 r2]) ∧ Kd.S k32 32 w' w.heap.size (fun _ => True) v0_ r1 ∧ Below w.heap.size w w' := by
 have hu36 := Tryd.underlying36
 have hu29 := Tryd.underlying29
 have hu32 := Tryd.underlying32
 have HR0_0 := Aside0.mk hr0_0
 have HC0_0 := Aside0.mk hc0_0
 clear hr0_0 hc0_0
 have HR5 := Aside0.mk hr5
 have HC5 := Aside0.mk hc5
 clear hr5 hc5
 have HB := Aside0.mk (Below.refl w.heap.size w)
 have H : ((spec_ValidTable.f k l0_0).bind fun t331 => (if t331 = true then ((spec_l4KeyOk.f k a1_0 a1_1).bind fun t332 => (if t332 = true then ((spec_l4WorkerOk.f a2).bind fun t333 => (if t333 = true then (if a3 < 1 then (spec_Finish.j0 k a2 a3 a4 l5 true l0_0 a1_0 a1_1) else ((spec_l4DepsOk.f k l5).bind fun t334 => (spec_Finish.j0 k a2 a3 a4 l5 (!t334) l0_0 a1_0 a1_1))) else (spec_Finish.j0 k a2 a3 a4 l5 true l0_0 a1_0 a1_1))) else (spec_Finish.j0 k a2 a3 a4 l5 true l0_0 a1_0 a1_1))) else (spec_Finish.j0 k a2 a3 a4 l5 true l0_0 a1_0 a1_1))) = some (r1, r2) := h
 clear h
 have HC7 := Aside0.mk H
 clear H
 go_enter Tryd.func35, Tryd.ntmps35
 go_upto_region 1 with (first | ((with_reducible refine gate_dst (N := 6) rfl ?_); refine box_event ?hg (N := 6) ?hd (cs := #[.slice A0_0 l0_0.length c0_0]) (t := 36) ?hr ?_; (case hd => rfl); (case hg => rfl); (case hr => first | (go_simp; done) | (go_simp; rfl)); intro gb328 hg w8 hbox hb; have n0_ := Aside0.mk (below_step (by repeat (first | (with_reducible first | exact HB.out | apply below_alloc | apply pw_below_drewN | apply below_drew1) | exact HB.out)) hb); have n1_ := Aside0.mk (hbox); have n2_ := Aside0.mk ((by rw [hg]; exact (below_size (by repeat (first | (with_reducible first | exact HB.out | apply below_alloc | apply pw_below_drewN | apply below_drew1) | exact HB.out))) : w.heap.size ≤ gb328)); have n3_ := Aside0.mk ((by rw [hg]; exact (below_size (by repeat (first | (with_reducible first | exact HB.out | apply below_alloc | apply pw_below_drewN | apply below_drew1) | exact HB.out))) : w.heap.size ≤ gb328)); clear HB; have HB := n0_; have BK328 := n1_; have GW328 := n2_; have GE328 := n3_; clear n0_ n1_ n2_ n3_; clear hb hbox hg) | ((with_reducible refine gate_dst (N := 7) rfl ?_); refine box_event ?hg (N := 7) ?hd (cs := #[.int .i64 a1_0, .string a1_1]) (t := 29) ?hr ?_; (case hd => rfl); (case hg => rfl); (case hr => first | (go_simp; done) | (go_simp; rfl)); intro gb329 hg w9 hbox hb; have n0_ := Aside0.mk (blk_below (g := gb328) (o := .cells #[.slice A0_0 l0_0.length c0_0] 36 (0, 0)) (by (with_reducible repeat (first | refine blk_drewN ?_ _ | refine blk_drew ?_ | refine blk_alloc ?_ _)); exact BK328.out) hb); have n1_ := Aside0.mk (below_step (by repeat (first | (with_reducible first | exact HB.out | apply below_alloc | apply pw_below_drewN | apply below_drew1 | refine below_set ?_ GE328.out) | exact HB.out)) hb); have n2_ := Aside0.mk (hbox); have n3_ := Aside0.mk ((by rw [hg]; exact (below_size (by repeat (first | (with_reducible first | exact HB.out | apply below_alloc | apply pw_below_drewN | apply below_drew1 | refine below_set ?_ GE328.out) | exact HB.out))) : w.heap.size ≤ gb329)); have n4_ := Aside0.mk ((by rw [hg]; exact (below_size (by repeat (first | (with_reducible first | exact HB.out | apply below_alloc | apply pw_below_drewN | apply below_drew1 | refine below_set ?_ GE328.out) | exact HB.out))) : w.heap.size ≤ gb329)); have n5_ := Aside0.mk ((by rw [hg]; exact Nat.ne_of_lt (blk_lt (g := gb328) (o := .cells #[.slice A0_0 l0_0.length c0_0] 36 (0, 0)) (by (with_reducible repeat (first | refine blk_drewN ?_ _ | refine blk_drew ?_ | refine blk_alloc ?_ _)); exact BK328.out)) : gb328 ≠ gb329)); have n6_ := Aside0.mk ((by rw [hg]; exact Nat.ne_of_gt (blk_lt (g := gb328) (o := .cells #[.slice A0_0 l0_0.length c0_0] 36 (0, 0)) (by (with_reducible repeat (first | refine blk_drewN ?_ _ | refine blk_drew ?_ | refine blk_alloc ?_ _)); exact BK328.out)) : gb329 ≠ gb328)); clear BK328; clear HB; have BK328 := n0_; have HB := n1_; have BK329 := n2_; have GW329 := n3_; have GE329 := n4_; have NB328_329 := n5_; have NB329_328 := n6_; clear n0_ n1_ n2_ n3_ n4_ n5_ n6_; clear hb hbox hg) | ((with_reducible refine gate_dst (N := 12) rfl ?_); refine box_event ?hg (N := 12) ?hd (cs := #[.slice none 0 0]) (t := 36) ?hr ?_; (case hd => rfl); (case hg => rfl); (case hr => first | (go_simp; done) | (go_simp; rfl)); intro gb330 hg w10 hbox hb; have n0_ := Aside0.mk (blk_below (g := gb328) (o := .cells #[.slice A0_0 l0_0.length c0_0] 36 (0, 0)) (by (with_reducible repeat (first | refine blk_drewN ?_ _ | refine blk_drew ?_ | refine blk_alloc ?_ _)); exact BK328.out) hb); have n1_ := Aside0.mk (blk_below (g := gb329) (o := .cells #[.int .i64 a1_0, .string a1_1] 29 (0, 0)) (by (with_reducible repeat (first | refine blk_drewN ?_ _ | refine blk_drew ?_ | refine blk_alloc ?_ _)); exact BK329.out) hb); have n2_ := Aside0.mk (below_step (by repeat (first | (with_reducible first | exact HB.out | apply below_alloc | apply pw_below_drewN | apply below_drew1 | refine below_set ?_ GE328.out | refine below_set ?_ GE329.out) | exact HB.out)) hb); have n3_ := Aside0.mk (hbox); have n4_ := Aside0.mk ((by rw [hg]; exact (below_size (by repeat (first | (with_reducible first | exact HB.out | apply below_alloc | apply pw_below_drewN | apply below_drew1 | refine below_set ?_ GE328.out | refine below_set ?_ GE329.out) | exact HB.out))) : w.heap.size ≤ gb330)); have n5_ := Aside0.mk ((by rw [hg]; exact (below_size (by repeat (first | (with_reducible first | exact HB.out | apply below_alloc | apply pw_below_drewN | apply below_drew1 | refine below_set ?_ GE328.out | refine below_set ?_ GE329.out) | exact HB.out))) : w.heap.size ≤ gb330)); have n6_ := Aside0.mk ((by rw [hg]; exact Nat.ne_of_lt (blk_lt (g := gb328) (o := .cells #[.slice A0_0 l0_0.length c0_0] 36 (0, 0)) (by (with_reducible repeat (first | refine blk_drewN ?_ _ | refine blk_drew ?_ | refine blk_alloc ?_ _)); exact BK328.out)) : gb328 ≠ gb330)); have n7_ := Aside0.mk ((by rw [hg]; exact Nat.ne_of_gt (blk_lt (g := gb328) (o := .cells #[.slice A0_0 l0_0.length c0_0] 36 (0, 0)) (by (with_reducible repeat (first | refine blk_drewN ?_ _ | refine blk_drew ?_ | refine blk_alloc ?_ _)); exact BK328.out)) : gb330 ≠ gb328)); have n8_ := Aside0.mk ((by rw [hg]; exact Nat.ne_of_lt (blk_lt (g := gb329) (o := .cells #[.int .i64 a1_0, .string a1_1] 29 (0, 0)) (by (with_reducible repeat (first | refine blk_drewN ?_ _ | refine blk_drew ?_ | refine blk_alloc ?_ _)); exact BK329.out)) : gb329 ≠ gb330)); have n9_ := Aside0.mk ((by rw [hg]; exact Nat.ne_of_gt (blk_lt (g := gb329) (o := .cells #[.int .i64 a1_0, .string a1_1] 29 (0, 0)) (by (with_reducible repeat (first | refine blk_drewN ?_ _ | refine blk_drew ?_ | refine blk_alloc ?_ _)); exact BK329.out)) : gb330 ≠ gb329)); clear BK328; clear BK329; clear HB; have BK328 := n0_; have BK329 := n1_; have HB := n2_; have BK330 := n3_; have GW330 := n4_; have GE330 := n5_; have NB328_330 := n6_; have NB330_328 := n7_; have NB329_330 := n8_; have NB330_329 := n9_; clear n0_ n1_ n2_ n3_ n4_ n5_ n6_ n7_ n8_ n9_; clear hb hbox hg))
 (try simp only [Act.put, List.setIfInBounds_toArray, List.set_cons_zero, List.set_cons_succ])
 go_cut [38] (fun v38 wc => ∃ (kq : Nat) (x38_6 : Bool), v38 = .bool x38_6 ∧ Aside0 (spec_Finish.j0 kq a2 a3 a4 l5 x38_6 l0_0 a1_0 a1_1 = some (r1, r2)) ∧ Aside0 (kq ≤ k) ∧ Aside0 (wc.heap[gb328]? = some (.cells #[(.slice A0_0 l0_0.length c0_0)] 36 (0, 0))) ∧ Aside0 (wc.heap[gb329]? = some (.cells #[.int .i64 a1_0, .string a1_1] 29 (0, 0))) ∧ Aside0 (wc.heap[gb330]? = some (.cells #[(.slice none 0 0)] 36 (0, 0))) ∧ Aside0 (Below w.heap.size w wc))
 case first =>
  have H := HC7.out
  clear HC7
  replace H := Option.bind_eq_some_iff.mp H
  obtain ⟨t331, A110, H⟩ := H
  replace H : (if t331 = true then ((spec_l4KeyOk.f k a1_0 a1_1).bind fun t332 => (if t332 = true then ((spec_l4WorkerOk.f a2).bind fun t333 => (if t333 = true then (if a3 < 1 then (spec_Finish.j0 k a2 a3 a4 l5 true l0_0 a1_0 a1_1) else ((spec_l4DepsOk.f k l5).bind fun t334 => (spec_Finish.j0 k a2 a3 a4 l5 (!t334) l0_0 a1_0 a1_1))) else (spec_Finish.j0 k a2 a3 a4 l5 true l0_0 a1_0 a1_1))) else (spec_Finish.j0 k a2 a3 a4 l5 true l0_0 a1_0 a1_1))) else (spec_Finish.j0 k a2 a3 a4 l5 true l0_0 a1_0 a1_1)) = some (r1, r2) := H
  have A11 := Aside0.mk A110
  clear A110
  by_cases c12 : t331 = true
  ·
   subst c12
   have H1 : ((spec_l4KeyOk.f k a1_0 a1_1).bind fun t332 => (if t332 = true then ((spec_l4WorkerOk.f a2).bind fun t333 => (if t333 = true then (if a3 < 1 then (spec_Finish.j0 k a2 a3 a4 l5 true l0_0 a1_0 a1_1) else ((spec_l4DepsOk.f k l5).bind fun t334 => (spec_Finish.j0 k a2 a3 a4 l5 (!t334) l0_0 a1_0 a1_1))) else (spec_Finish.j0 k a2 a3 a4 l5 true l0_0 a1_0 a1_1))) else (spec_Finish.j0 k a2 a3 a4 l5 true l0_0 a1_0 a1_1))) = some (r1, r2) := by rw [if_pos rfl] at H; exact H
   clear H
   have H := H1
   clear H1
   replace H := Option.bind_eq_some_iff.mp H
   obtain ⟨t332, A130, H⟩ := H
   replace H : (if t332 = true then ((spec_l4WorkerOk.f a2).bind fun t333 => (if t333 = true then (if a3 < 1 then (spec_Finish.j0 k a2 a3 a4 l5 true l0_0 a1_0 a1_1) else ((spec_l4DepsOk.f k l5).bind fun t334 => (spec_Finish.j0 k a2 a3 a4 l5 (!t334) l0_0 a1_0 a1_1))) else (spec_Finish.j0 k a2 a3 a4 l5 true l0_0 a1_0 a1_1))) else (spec_Finish.j0 k a2 a3 a4 l5 true l0_0 a1_0 a1_1)) = some (r1, r2) := H
   have A13 := Aside0.mk A130
   clear A130
   by_cases c14 : t332 = true
   ·
    subst c14
    have H1 : ((spec_l4WorkerOk.f a2).bind fun t333 => (if t333 = true then (if a3 < 1 then (spec_Finish.j0 k a2 a3 a4 l5 true l0_0 a1_0 a1_1) else ((spec_l4DepsOk.f k l5).bind fun t334 => (spec_Finish.j0 k a2 a3 a4 l5 (!t334) l0_0 a1_0 a1_1))) else (spec_Finish.j0 k a2 a3 a4 l5 true l0_0 a1_0 a1_1))) = some (r1, r2) := by rw [if_pos rfl] at H; exact H
    clear H
    have H := H1
    clear H1
    replace H := Option.bind_eq_some_iff.mp H
    obtain ⟨t333, A150, H⟩ := H
    replace H : (if t333 = true then (if a3 < 1 then (spec_Finish.j0 k a2 a3 a4 l5 true l0_0 a1_0 a1_1) else ((spec_l4DepsOk.f k l5).bind fun t334 => (spec_Finish.j0 k a2 a3 a4 l5 (!t334) l0_0 a1_0 a1_1))) else (spec_Finish.j0 k a2 a3 a4 l5 true l0_0 a1_0 a1_1)) = some (r1, r2) := H
    have A15 := Aside0.mk A150
    clear A150
    by_cases c16 : t333 = true
    ·
     subst c16
     have H1 : (if a3 < 1 then (spec_Finish.j0 k a2 a3 a4 l5 true l0_0 a1_0 a1_1) else ((spec_l4DepsOk.f k l5).bind fun t334 => (spec_Finish.j0 k a2 a3 a4 l5 (!t334) l0_0 a1_0 a1_1))) = some (r1, r2) := by rw [if_pos rfl] at H; exact H
     clear H
     have H := H1
     clear H1
     by_cases c17 : a3 < 1
     ·
      rw [if_pos c17] at H
      have c17b0 : decide (a3 < 1) = true := decide_eq_true c17
      clear c17
      (first | rw [c17b0] | (simp only [i64_w, i32_w]; rw [c17b0]) | simp only [c17b2, Bool.not_false, Bool.not_true] | skip)
      have H' := Aside0.mk H
      clear H
      have hnb18 := NB328_329.out
      have hnc18 := NB329_328.out
      have hnb19 := NB328_330.out
      have hnc19 := NB330_328.out
      obtain ⟨hcz20_0, hfz20_0⟩ := bkA1 BK328.out
      go_wp2_with (first | ((with_reducible refine gate_callee (f := 43) rfl ?_); refine goesL_ (some 18) rfl rfl Tryd.func43 (by kernel_rfl) rfl #[.agg #[.slice A0_0 l0_0.length c0_0]] rfl (by (try simp only [List.map_toArray, List.map_cons, List.map_nil]); first | done | rfl | (simp only [List.length_drop, List.length_take]; rfl)) ?_; (with_reducible refine (spec_ValidTable.calls k _ _ l0_0 true _ ?side1 ?side2 A11.out).mono ?_); (case side1 => repeat (first | exact (Kd.C_below HR0_0.out HB.out) | (with_reducible refine Kd.C_alloc ?_ _) | (with_reducible refine Kd.C_drewN ?_ _) | (with_reducible refine Kd.C_drew ?_))); (case side2 => exact HC0_0.out); rintro e w21 ⟨rfl, hb⟩; refine ⟨_, rfl, ?_⟩; have hb1_ := fromQ HB.out hb; have hb0_ := below_step hb1_ hb; replace BK328 := kB BK328 hb0_; replace BK329 := kB BK329 hb0_; replace BK330 := kB BK330 hb0_; replace HB := kH HB hb0_; clear hb1_ hb0_; (try clear hb); (try clear hb2); (try clear hk); (try clear hi); have hnb22 := NB329_330.out; have hnc22 := NB330_329.out; obtain ⟨hcz23_0, hcz23_1, hfz23_0, hfz23_1⟩ := bkA2 BK329.out) | (go_at_call 66; (with_reducible refine (spec_l4KeyOk.calls k a1_0 a1_1 true _ A13.out).mono ?_); rintro e w24 ⟨rfl, hb⟩; have hb1_ := fromQ HB.out hb; have hb0_ := below_step hb1_ hb; replace BK328 := kB BK328 hb0_; replace BK329 := kB BK329 hb0_; replace BK330 := kB BK330 hb0_; replace HB := kH HB hb0_; clear hb1_ hb0_; (try clear hb); (try clear hb2); (try clear hk); (try clear hi)) | (go_at_call 67; (with_reducible refine (spec_l4WorkerOk.calls a2 true _ A15.out).mono ?_); rintro e w' ⟨rfl, ⟨nd, rfl⟩⟩))
      go_meet
      case rel => exact ⟨_, (true), (by first | rfl | (simp; done) | (simp [*]; done)), H', ⟨by first | omega | exact Nat.le_refl _⟩, ⟨by (with_reducible repeat (first | refine blk_drewN ?_ _ | refine blk_drew ?_ | refine blk_alloc ?_ _)); exact BK328.out⟩, ⟨by (with_reducible repeat (first | refine blk_drewN ?_ _ | refine blk_drew ?_ | refine blk_alloc ?_ _)); exact BK329.out⟩, ⟨by (with_reducible repeat (first | refine blk_drewN ?_ _ | refine blk_drew ?_ | refine blk_alloc ?_ _)); exact BK330.out⟩, ⟨by repeat (first | (with_reducible first | exact HB.out | apply below_alloc | apply pw_below_drewN | apply below_drew1 | refine below_set ?_ GE328.out | refine below_set ?_ GE329.out | refine below_set ?_ GE330.out) | exact HB.out)⟩⟩
     rw [if_neg c17] at H
     have c17b0 : decide (a3 < 1) = false := decide_eq_false c17
     clear c17
     (first | rw [c17b0] | (simp only [i64_w, i32_w]; rw [c17b0]) | simp only [c17b2, Bool.not_false, Bool.not_true] | skip)
     replace H := Option.bind_eq_some_iff.mp H
     obtain ⟨t334, A250, H⟩ := H
     replace H : (spec_Finish.j0 k a2 a3 a4 l5 (!t334) l0_0 a1_0 a1_1) = some (r1, r2) := H
     have A25 := Aside0.mk A250
     clear A250
     have H' := Aside0.mk H
     clear H
     have hnb26 := NB328_329.out
     have hnc26 := NB329_328.out
     have hnb27 := NB328_330.out
     have hnc27 := NB330_328.out
     obtain ⟨hcz28_0, hfz28_0⟩ := bkA1 BK328.out
     go_wp2_with (first | ((with_reducible refine gate_callee (f := 43) rfl ?_); refine goesL_ (some 18) rfl rfl Tryd.func43 (by kernel_rfl) rfl #[.agg #[.slice A0_0 l0_0.length c0_0]] rfl (by (try simp only [List.map_toArray, List.map_cons, List.map_nil]); first | done | rfl | (simp only [List.length_drop, List.length_take]; rfl)) ?_; (with_reducible refine (spec_ValidTable.calls k _ _ l0_0 true _ ?side1 ?side2 A11.out).mono ?_); (case side1 => repeat (first | exact (Kd.C_below HR0_0.out HB.out) | (with_reducible refine Kd.C_alloc ?_ _) | (with_reducible refine Kd.C_drewN ?_ _) | (with_reducible refine Kd.C_drew ?_))); (case side2 => exact HC0_0.out); rintro e w29 ⟨rfl, hb⟩; refine ⟨_, rfl, ?_⟩; have hb1_ := fromQ HB.out hb; have hb0_ := below_step hb1_ hb; replace BK328 := kB BK328 hb0_; replace BK329 := kB BK329 hb0_; replace BK330 := kB BK330 hb0_; replace HB := kH HB hb0_; clear hb1_ hb0_; (try clear hb); (try clear hb2); (try clear hk); (try clear hi); have hnb30 := NB329_330.out; have hnc30 := NB330_329.out; obtain ⟨hcz31_0, hcz31_1, hfz31_0, hfz31_1⟩ := bkA2 BK329.out) | (go_at_call 66; (with_reducible refine (spec_l4KeyOk.calls k a1_0 a1_1 true _ A13.out).mono ?_); rintro e w32 ⟨rfl, hb⟩; have hb1_ := fromQ HB.out hb; have hb0_ := below_step hb1_ hb; replace BK328 := kB BK328 hb0_; replace BK329 := kB BK329 hb0_; replace BK330 := kB BK330 hb0_; replace HB := kH HB hb0_; clear hb1_ hb0_; (try clear hb); (try clear hb2); (try clear hk); (try clear hi)) | (go_at_call 67; (with_reducible refine (spec_l4WorkerOk.calls a2 true _ A15.out).mono ?_); rintro e w' ⟨rfl, ⟨nd, rfl⟩⟩) | (go_at_call 85; (with_reducible refine (spec_l4DepsOk.calls k _ _ l5 t334 _ ?side1 ?side2 A25.out).mono ?_); (case side1 => repeat (first | exact (Kd.C_below HR5.out (by repeat (first | (with_reducible first | exact HB.out | apply below_alloc | apply pw_below_drewN | apply below_drew1 | refine below_set ?_ GE328.out | refine below_set ?_ GE329.out | refine below_set ?_ GE330.out) | exact HB.out))) | (with_reducible refine Kd.C_alloc ?_ _) | (with_reducible refine Kd.C_drewN ?_ _) | (with_reducible refine Kd.C_drew ?_))); (case side2 => exact HC5.out); rintro e w33 ⟨rfl, hb⟩; have hb1_ := fromQ HB.out hb; have hb0_ := below_step hb1_ hb; replace BK328 := kB BK328 hb0_; replace BK329 := kB BK329 hb0_; replace BK330 := kB BK330 hb0_; replace HB := kH HB hb0_; clear hb1_ hb0_; (try clear hb); (try clear hb2); (try clear hk); (try clear hi)))
     go_meet
     case rel => exact ⟨_, (!t334), (by first | rfl | (simp; done) | (simp [*]; done)), H', ⟨by first | omega | exact Nat.le_refl _⟩, ⟨by (with_reducible repeat (first | refine blk_drewN ?_ _ | refine blk_drew ?_ | refine blk_alloc ?_ _)); exact BK328.out⟩, ⟨by (with_reducible repeat (first | refine blk_drewN ?_ _ | refine blk_drew ?_ | refine blk_alloc ?_ _)); exact BK329.out⟩, ⟨by (with_reducible repeat (first | refine blk_drewN ?_ _ | refine blk_drew ?_ | refine blk_alloc ?_ _)); exact BK330.out⟩, ⟨by repeat (first | (with_reducible first | exact HB.out | apply below_alloc | apply pw_below_drewN | apply below_drew1 | refine below_set ?_ GE328.out | refine below_set ?_ GE329.out | refine below_set ?_ GE330.out) | exact HB.out)⟩⟩
    replace c16 := Bool.eq_false_iff.mpr c16
    subst c16
    have H1 : (spec_Finish.j0 k a2 a3 a4 l5 true l0_0 a1_0 a1_1) = some (r1, r2) := by rw [if_neg (show ¬ (false = true) by decide)] at H; exact H
    clear H
    have H := H1
    clear H1
    have H' := Aside0.mk H
    clear H
    have hnb34 := NB328_329.out
    have hnc34 := NB329_328.out
    have hnb35 := NB328_330.out
    have hnc35 := NB330_328.out
    obtain ⟨hcz36_0, hfz36_0⟩ := bkA1 BK328.out
    go_wp2_with (first | ((with_reducible refine gate_callee (f := 43) rfl ?_); refine goesL_ (some 18) rfl rfl Tryd.func43 (by kernel_rfl) rfl #[.agg #[.slice A0_0 l0_0.length c0_0]] rfl (by (try simp only [List.map_toArray, List.map_cons, List.map_nil]); first | done | rfl | (simp only [List.length_drop, List.length_take]; rfl)) ?_; (with_reducible refine (spec_ValidTable.calls k _ _ l0_0 true _ ?side1 ?side2 A11.out).mono ?_); (case side1 => repeat (first | exact (Kd.C_below HR0_0.out HB.out) | (with_reducible refine Kd.C_alloc ?_ _) | (with_reducible refine Kd.C_drewN ?_ _) | (with_reducible refine Kd.C_drew ?_))); (case side2 => exact HC0_0.out); rintro e w37 ⟨rfl, hb⟩; refine ⟨_, rfl, ?_⟩; have hb1_ := fromQ HB.out hb; have hb0_ := below_step hb1_ hb; replace BK328 := kB BK328 hb0_; replace BK329 := kB BK329 hb0_; replace BK330 := kB BK330 hb0_; replace HB := kH HB hb0_; clear hb1_ hb0_; (try clear hb); (try clear hb2); (try clear hk); (try clear hi); have hnb38 := NB329_330.out; have hnc38 := NB330_329.out; obtain ⟨hcz39_0, hcz39_1, hfz39_0, hfz39_1⟩ := bkA2 BK329.out) | (go_at_call 66; (with_reducible refine (spec_l4KeyOk.calls k a1_0 a1_1 true _ A13.out).mono ?_); rintro e w40 ⟨rfl, hb⟩; have hb1_ := fromQ HB.out hb; have hb0_ := below_step hb1_ hb; replace BK328 := kB BK328 hb0_; replace BK329 := kB BK329 hb0_; replace BK330 := kB BK330 hb0_; replace HB := kH HB hb0_; clear hb1_ hb0_; (try clear hb); (try clear hb2); (try clear hk); (try clear hi)) | (go_at_call 67; (with_reducible refine (spec_l4WorkerOk.calls a2 false _ A15.out).mono ?_); rintro e w' ⟨rfl, ⟨nd, rfl⟩⟩))
    go_meet
    case rel => exact ⟨_, (true), (by first | rfl | (simp; done) | (simp [*]; done)), H', ⟨by first | omega | exact Nat.le_refl _⟩, ⟨by (with_reducible repeat (first | refine blk_drewN ?_ _ | refine blk_drew ?_ | refine blk_alloc ?_ _)); exact BK328.out⟩, ⟨by (with_reducible repeat (first | refine blk_drewN ?_ _ | refine blk_drew ?_ | refine blk_alloc ?_ _)); exact BK329.out⟩, ⟨by (with_reducible repeat (first | refine blk_drewN ?_ _ | refine blk_drew ?_ | refine blk_alloc ?_ _)); exact BK330.out⟩, ⟨by repeat (first | (with_reducible first | exact HB.out | apply below_alloc | apply pw_below_drewN | apply below_drew1 | refine below_set ?_ GE328.out | refine below_set ?_ GE329.out | refine below_set ?_ GE330.out) | exact HB.out)⟩⟩
   replace c14 := Bool.eq_false_iff.mpr c14
   subst c14
   have H1 : (spec_Finish.j0 k a2 a3 a4 l5 true l0_0 a1_0 a1_1) = some (r1, r2) := by rw [if_neg (show ¬ (false = true) by decide)] at H; exact H
   clear H
   have H := H1
   clear H1
   have H' := Aside0.mk H
   clear H
   have hnb41 := NB328_329.out
   have hnc41 := NB329_328.out
   have hnb42 := NB328_330.out
   have hnc42 := NB330_328.out
   obtain ⟨hcz43_0, hfz43_0⟩ := bkA1 BK328.out
   go_wp2_with (first | ((with_reducible refine gate_callee (f := 43) rfl ?_); refine goesL_ (some 18) rfl rfl Tryd.func43 (by kernel_rfl) rfl #[.agg #[.slice A0_0 l0_0.length c0_0]] rfl (by (try simp only [List.map_toArray, List.map_cons, List.map_nil]); first | done | rfl | (simp only [List.length_drop, List.length_take]; rfl)) ?_; (with_reducible refine (spec_ValidTable.calls k _ _ l0_0 true _ ?side1 ?side2 A11.out).mono ?_); (case side1 => repeat (first | exact (Kd.C_below HR0_0.out HB.out) | (with_reducible refine Kd.C_alloc ?_ _) | (with_reducible refine Kd.C_drewN ?_ _) | (with_reducible refine Kd.C_drew ?_))); (case side2 => exact HC0_0.out); rintro e w44 ⟨rfl, hb⟩; refine ⟨_, rfl, ?_⟩; have hb1_ := fromQ HB.out hb; have hb0_ := below_step hb1_ hb; replace BK328 := kB BK328 hb0_; replace BK329 := kB BK329 hb0_; replace BK330 := kB BK330 hb0_; replace HB := kH HB hb0_; clear hb1_ hb0_; (try clear hb); (try clear hb2); (try clear hk); (try clear hi); have hnb45 := NB329_330.out; have hnc45 := NB330_329.out; obtain ⟨hcz46_0, hcz46_1, hfz46_0, hfz46_1⟩ := bkA2 BK329.out) | (go_at_call 66; (with_reducible refine (spec_l4KeyOk.calls k a1_0 a1_1 false _ A13.out).mono ?_); rintro e w47 ⟨rfl, hb⟩; have hb1_ := fromQ HB.out hb; have hb0_ := below_step hb1_ hb; replace BK328 := kB BK328 hb0_; replace BK329 := kB BK329 hb0_; replace BK330 := kB BK330 hb0_; replace HB := kH HB hb0_; clear hb1_ hb0_; (try clear hb); (try clear hb2); (try clear hk); (try clear hi)))
   go_meet
   case rel => exact ⟨_, (true), (by first | rfl | (simp; done) | (simp [*]; done)), H', ⟨by first | omega | exact Nat.le_refl _⟩, ⟨by (with_reducible repeat (first | refine blk_drewN ?_ _ | refine blk_drew ?_ | refine blk_alloc ?_ _)); exact BK328.out⟩, ⟨by (with_reducible repeat (first | refine blk_drewN ?_ _ | refine blk_drew ?_ | refine blk_alloc ?_ _)); exact BK329.out⟩, ⟨by (with_reducible repeat (first | refine blk_drewN ?_ _ | refine blk_drew ?_ | refine blk_alloc ?_ _)); exact BK330.out⟩, ⟨by repeat (first | (with_reducible first | exact HB.out | apply below_alloc | apply pw_below_drewN | apply below_drew1 | refine below_set ?_ GE328.out | refine below_set ?_ GE329.out | refine below_set ?_ GE330.out) | exact HB.out)⟩⟩
  replace c12 := Bool.eq_false_iff.mpr c12
  subst c12
  have H1 : (spec_Finish.j0 k a2 a3 a4 l5 true l0_0 a1_0 a1_1) = some (r1, r2) := by rw [if_neg (show ¬ (false = true) by decide)] at H; exact H
  clear H
  have H := H1
  clear H1
  have H' := Aside0.mk H
  clear H
  have hnb48 := NB328_329.out
  have hnc48 := NB329_328.out
  have hnb49 := NB328_330.out
  have hnc49 := NB330_328.out
  obtain ⟨hcz50_0, hfz50_0⟩ := bkA1 BK328.out
  go_wp2_with (first | ((with_reducible refine gate_callee (f := 43) rfl ?_); refine goesL_ (some 18) rfl rfl Tryd.func43 (by kernel_rfl) rfl #[.agg #[.slice A0_0 l0_0.length c0_0]] rfl (by (try simp only [List.map_toArray, List.map_cons, List.map_nil]); first | done | rfl | (simp only [List.length_drop, List.length_take]; rfl)) ?_; (with_reducible refine (spec_ValidTable.calls k _ _ l0_0 false _ ?side1 ?side2 A11.out).mono ?_); (case side1 => repeat (first | exact (Kd.C_below HR0_0.out HB.out) | (with_reducible refine Kd.C_alloc ?_ _) | (with_reducible refine Kd.C_drewN ?_ _) | (with_reducible refine Kd.C_drew ?_))); (case side2 => exact HC0_0.out); rintro e w51 ⟨rfl, hb⟩; refine ⟨_, rfl, ?_⟩; have hb1_ := fromQ HB.out hb; have hb0_ := below_step hb1_ hb; replace BK328 := kB BK328 hb0_; replace BK329 := kB BK329 hb0_; replace BK330 := kB BK330 hb0_; replace HB := kH HB hb0_; clear hb1_ hb0_; (try clear hb); (try clear hb2); (try clear hk); (try clear hi)))
  go_meet
  case rel => exact ⟨_, (true), (by first | rfl | (simp; done) | (simp [*]; done)), H', ⟨by first | omega | exact Nat.le_refl _⟩, ⟨by (with_reducible repeat (first | refine blk_drewN ?_ _ | refine blk_drew ?_ | refine blk_alloc ?_ _)); exact BK328.out⟩, ⟨by (with_reducible repeat (first | refine blk_drewN ?_ _ | refine blk_drew ?_ | refine blk_alloc ?_ _)); exact BK329.out⟩, ⟨by (with_reducible repeat (first | refine blk_drewN ?_ _ | refine blk_drew ?_ | refine blk_alloc ?_ _)); exact BK330.out⟩, ⟨by repeat (first | (with_reducible first | exact HB.out | apply below_alloc | apply pw_below_drewN | apply below_drew1 | refine below_set ?_ GE328.out | refine below_set ?_ GE329.out | refine below_set ?_ GE330.out) | exact HB.out)⟩⟩
 case rest =>
  clear HC7
  try clear c1
  try clear c2
  try clear p2
  try clear c3
  try clear c4
  try clear c5
  try clear c12
  try clear c14
  try clear c16
  try clear c17
  try clear c17b0
  try clear c17b2
  try clear c18
  try clear c19
  try clear c22
  try clear c26
  try clear c27
  try clear c30
  try clear c34
  try clear c35
  try clear c38
  try clear c41
  try clear c42
  try clear c43
  try clear c45
  try clear c48
  try clear c49
  try clear hcz20_0
  try clear hcz23_0
  try clear hcz23_1
  try clear hcz28_0
  try clear hcz31_0
  try clear hcz31_1
  try clear hcz36_0
  try clear hcz39_0
  try clear hcz39_1
  try clear hcz43_0
  try clear hcz46_0
  try clear hcz46_1
  try clear hcz50_0
  try clear hfz20_0
  try clear hfz23_0
  try clear hfz23_1
  try clear hfz28_0
  try clear hfz31_0
  try clear hfz31_1
  try clear hfz36_0
  try clear hfz39_0
  try clear hfz39_1
  try clear hfz43_0
  try clear hfz46_0
  try clear hfz46_1
  try clear hfz50_0
  obtain ⟨kq, x38_6, rfl, HA, HJ6, BK328, BK329, BK330, HB⟩ := hcut
  cases kq with
  | zero => exact absurd HA.out (by simp [spec_Finish.j0])
  | succ kj6 =>
   have H := HA.out
   clear HA
   simp only [spec_Finish.j0] at H
   by_cases c52 : x38_6 = true
   ·
    subst c52
    have H1 : (some (([] : List (S32)), 9)) = some (r1, r2) := by rw [if_pos rfl] at H; exact H
    clear H
    have H := H1
    clear H1
    simp only [Option.some.injEq, Prod.mk.injEq] at H
    obtain ⟨rfl, rfl⟩ := H
    have hnb53 := NB330_328.out
    have hnc53 := NB328_330.out
    have hnb54 := NB330_329.out
    have hnc54 := NB329_330.out
    obtain ⟨hcz55_0, hfz55_0⟩ := bkA1 BK330.out
    go_wp2
    refine bodyPost_ret (results_ct rfl _ _ gb330 36 #[.slice none 0 0] (0, 0) _ rfl (by (with_reducible repeat (first | refine blk_drewN ?_ _ | refine blk_drew ?_ | refine blk_alloc ?_ _)); refine blk_put (cs := #[.slice none 0 0]) ?_ 0 _ rfl; (with_reducible repeat (first | refine blk_drewN ?_ _ | refine blk_drew ?_ | refine blk_alloc ?_ _)); exact BK330.out) Tryd.underlying36 rfl (by kernel_rfl)) rfl ?_
    exact ⟨_, by first | rfl | (simp [errW_none, errW_some] <;> rfl) | (simp [*, errW_none, errW_some] <;> rfl), by first | exact Kd.S_nil _ _ _ _ _ | exact Kd.N_nil _ _ _ _ _ | exact Kd.V_nil _ _ _ _ _ | exact Kd.Q_nil _ _ _ _ _ | exact Kd.R_nil _ _ _ _ _, by repeat (first | (with_reducible first | exact HB.out | apply below_alloc | apply pw_below_drewN | apply below_drew1 | refine below_set ?_ GE328.out | refine below_set ?_ GE329.out | refine below_set ?_ GE330.out) | exact HB.out)⟩
   replace c52 := Bool.eq_false_iff.mpr c52
   subst c52
   have H1 : ((spec_l4Mine.f kj6 l0_0 a1_0 a1_1 a2 a3).bind fun bt335 => (if bt335.2.2.2.2.2.2.2.2.2 = true then (if bt335.2.2.1 = true then (if bt335.2.2.2.1.toList = a4.toList then ((spec_l4Put.f kj6 l0_0 a1_0 a1_1 true a4 l5 a3 bt335.2.2.2.2.2.2.1 0 0).bind fun t348 => (some (t348, 0))) else ((spec_l4Put.f kj6 l0_0 a1_0 a1_1 true a4 l5 a3 a3 0 0).bind fun t351 => (some (t351, 0)))) else ((spec_l4Put.f kj6 l0_0 a1_0 a1_1 true a4 l5 a3 a3 0 0).bind fun t354 => (some (t354, 0)))) else ((spec_l4Copy.f kj6 l0_0).bind fun t357 => (some (t357, 1))))) = some (r1, r2) := by rw [if_neg (show ¬ (false = true) by decide)] at H; exact H
   clear H
   have H := H1
   clear H1
   replace H := Option.bind_eq_some_iff.mp H
   obtain ⟨⟨t335, t336, t337, t338, t339, t342, t343, t344, t345, t346⟩, A560, H⟩ := H
   replace H : (if t346 = true then (if t337 = true then (if t338.toList = a4.toList then ((spec_l4Put.f kj6 l0_0 a1_0 a1_1 true a4 l5 a3 t343 0 0).bind fun t348 => (some (t348, 0))) else ((spec_l4Put.f kj6 l0_0 a1_0 a1_1 true a4 l5 a3 a3 0 0).bind fun t351 => (some (t351, 0)))) else ((spec_l4Put.f kj6 l0_0 a1_0 a1_1 true a4 l5 a3 a3 0 0).bind fun t354 => (some (t354, 0)))) else ((spec_l4Copy.f kj6 l0_0).bind fun t357 => (some (t357, 1)))) = some (r1, r2) := H
   have A56 := Aside0.mk A560
   clear A560
   have HL57 := Aside0.mk H
   clear H
   have hnb58 := NB328_329.out
   have hnc58 := NB329_328.out
   have hnb59 := NB328_330.out
   have hnc59 := NB330_328.out
   obtain ⟨hcz60_0, hfz60_0⟩ := bkA1 BK328.out
   have hnb61 := NB329_330.out
   have hnc61 := NB330_329.out
   obtain ⟨hcz62_0, hcz62_1, hfz62_0, hfz62_1⟩ := bkA2 BK329.out
   go_upto_if 49 with (first | ((with_reducible refine gate_callee (f := 80) rfl ?_); refine goesL_ (some 45) rfl rfl Tryd.func80 (by kernel_rfl) rfl #[.agg #[.slice A0_0 l0_0.length c0_0], .agg #[.int .i64 a1_0, .string a1_1], .int .i64 a2, .int .i64 a3] rfl (by (try simp only [List.map_toArray, List.map_cons, List.map_nil]); first | done | rfl | (simp only [List.length_drop, List.length_take]; rfl)) ?_; (with_reducible refine (spec_l4Mine.calls kj6 _ _ l0_0 a1_0 a1_1 a2 a3 t335 t336 t337 t338 t339 t342 t343 t344 t345 t346 _ ?side1 ?side2 A56.out).mono ?_); (case side1 => repeat (first | exact (Kd.C_below HR0_0.out HB.out) | (with_reducible refine Kd.C_alloc ?_ _) | (with_reducible refine Kd.C_drewN ?_ _) | (with_reducible refine Kd.C_drew ?_))); (case side2 => exact HC0_0.out); rintro e w63 ⟨v340, rfl, ho0, hb⟩; refine ⟨_, rfl, ?_⟩; have hb1_ := fromQ HB.out hb; have hb0_ := below_step hb1_ hb; have hW_ := below_step HB.out hb1_; have n0_ := Aside0.mk (Kd.R_lower (Kd.R_newB ho0 (g := gb329) (o := .cells #[.int .i64 a1_0, .string a1_1] 29 (0, 0)) (blk_below BK329.out hb1_)) (below_size hW_)); replace BK328 := kB BK328 hb0_; replace BK329 := kB BK329 hb0_; replace BK330 := kB BK330 hb0_; replace HB := kH HB hb0_; have HO341 := n0_; clear hb1_ hb0_ hW_ n0_; (try clear hb); (try clear hb2); (try clear hk); (try clear hi); (try clear ho0)) | ((with_reducible refine gate_dst (N := 14) rfl ?_); refine box_event ?hg (N := 14) ?hd (cs := #[.int .i64 0, .string (⟨#[]⟩ : ByteArray), .bool false, .string (⟨#[]⟩ : ByteArray), .slice none 0 0, .int .i64 0, .int .i64 0, .int .i64 0, .int .i64 0]) (t := 32) ?hr ?_; (case hd => rfl); (case hg => rfl); (case hr => first | (go_simp; done) | (go_simp; rfl)); intro gb347 hg w64 hbox hb; have hb1_ := fromQ HB.out hb; have hb0_ := below_step hb1_ hb; have hW_ := below_step HB.out hb1_; have n5_ := Aside0.mk (hbox); have n6_ := szle hg hW_; have n7_ := szle hg hW_; have n8_ := nelt hg BK328 hb1_; have n9_ := negt hg BK328 hb1_; have n10_ := nelt hg BK329 hb1_; have n11_ := negt hg BK329 hb1_; have n12_ := nelt hg BK330 hb1_; have n13_ := negt hg BK330 hb1_; replace HO341 := kR HO341 hb0_; replace BK328 := kB BK328 hb0_; replace BK329 := kB BK329 hb0_; replace BK330 := kB BK330 hb0_; replace HB := kH HB hb0_; have BK347 := n5_; have GW347 := n6_; have GE347 := n7_; have NB328_347 := n8_; have NB347_328 := n9_; have NB329_347 := n10_; have NB347_329 := n11_; have NB330_347 := n12_; have NB347_330 := n13_; clear hb1_ hb0_ hW_ n5_ n6_ n7_ n8_ n9_ n10_ n11_ n12_ n13_; clear hb hbox hg; have hnb65 := NB347_328.out; have hnc65 := NB328_347.out; have hnb66 := NB347_329.out; have hnc66 := NB329_347.out; have hnb67 := NB347_330.out; have hnc67 := NB330_347.out; obtain ⟨hcz68_0, hcz68_1, hcz68_2, hcz68_3, hcz68_4, hcz68_5, hcz68_6, hcz68_7, hcz68_8, hfz68_0, hfz68_1, hfz68_2, hfz68_3, hfz68_4, hfz68_5, hfz68_6, hfz68_7, hfz68_8⟩ := bkA9 BK347.out; obtain ⟨Ao69, co69, eo69⟩ := Kd.R_slice HO341.out; subst eo69))
   have H := HL57.out
   clear HL57
   by_cases c70 : t346 = true
   ·
    subst c70
    have H1 : (if t337 = true then (if t338.toList = a4.toList then ((spec_l4Put.f kj6 l0_0 a1_0 a1_1 true a4 l5 a3 t343 0 0).bind fun t348 => (some (t348, 0))) else ((spec_l4Put.f kj6 l0_0 a1_0 a1_1 true a4 l5 a3 a3 0 0).bind fun t351 => (some (t351, 0)))) else ((spec_l4Put.f kj6 l0_0 a1_0 a1_1 true a4 l5 a3 a3 0 0).bind fun t354 => (some (t354, 0)))) = some (r1, r2) := by rw [if_pos rfl] at H; exact H
    clear H
    have H := H1
    clear H1
    by_cases c71 : t337 = true
    ·
     subst c71
     have H1 : (if t338.toList = a4.toList then ((spec_l4Put.f kj6 l0_0 a1_0 a1_1 true a4 l5 a3 t343 0 0).bind fun t348 => (some (t348, 0))) else ((spec_l4Put.f kj6 l0_0 a1_0 a1_1 true a4 l5 a3 a3 0 0).bind fun t351 => (some (t351, 0)))) = some (r1, r2) := by rw [if_pos rfl] at H; exact H
     clear H
     have H := H1
     clear H1
     by_cases c72 : t338.toList = a4.toList
     ·
      rw [if_pos c72] at H
      have c72b0 : (t338.toList == a4.toList) = true := beq_iff_eq.mpr c72
      have c72b1 : (t338.toList != a4.toList) = false := bne_eq_false_iff_eq.mpr c72
      clear c72
      replace H := Option.bind_eq_some_iff.mp H
      obtain ⟨t348, A730, H⟩ := H
      replace H : (some (t348, 0)) = some (r1, r2) := H
      have A73 := Aside0.mk A730
      clear A730
      simp only [Option.some.injEq, Prod.mk.injEq] at H
      obtain ⟨rfl, rfl⟩ := H
      have hnb74 := NB347_328.out
      have hnc74 := NB328_347.out
      have hnb75 := NB347_329.out
      have hnc75 := NB329_347.out
      have hnb76 := NB347_330.out
      have hnc76 := NB330_347.out
      obtain ⟨hcz77_0, hcz77_1, hcz77_2, hcz77_3, hcz77_4, hcz77_5, hcz77_6, hcz77_7, hcz77_8, hfz77_0, hfz77_1, hfz77_2, hfz77_3, hfz77_4, hfz77_5, hfz77_6, hfz77_7, hfz77_8⟩ := bkA9 BK347.out
      have hnb78 := NB328_329.out
      have hnc78 := NB329_328.out
      have hnb79 := NB328_330.out
      have hnc79 := NB330_328.out
      obtain ⟨hcz80_0, hfz80_0⟩ := bkA1 BK328.out
      have hnb81 := NB329_330.out
      have hnc81 := NB330_329.out
      obtain ⟨hcz82_0, hcz82_1, hfz82_0, hfz82_1⟩ := bkA2 BK329.out
      go_wp2_with (first | ((with_reducible refine gate_callee (f := 82) rfl ?_); refine goesL_ (some 70) rfl rfl Tryd.func82 (by kernel_rfl) rfl #[.agg #[.slice A0_0 l0_0.length c0_0], .agg #[.int .i64 a1_0, .string a1_1, .bool true, .string a4, .slice A5 l5.length c5, .int .i64 a3, .int .i64 t343, .int .i64 0, .int .i64 0]] rfl (by (try simp only [List.map_toArray, List.map_cons, List.map_nil]); first | done | rfl | (simp only [List.length_drop, List.length_take]; rfl)) ?_; (with_reducible refine (spec_l4Put.calls kj6 _ _ l0_0 a1_0 a1_1 true a4 _ _ l5 a3 t343 0 0 t348 _ ?side1 ?side2 ?side3 ?side4 A73.out).mono ?_); (case side1 => exact Kd.C_below HR0_0.out (by repeat (first | (with_reducible first | exact HB.out | apply below_alloc | apply pw_below_drewN | apply below_drew1 | refine below_set ?_ GE328.out | refine below_set ?_ GE329.out | refine below_set ?_ GE330.out | refine below_set ?_ GE347.out) | exact HB.out))); (case side2 => exact HC0_0.out); (case side3 => exact Kd.C_below HR5.out (by repeat (first | (with_reducible first | exact HB.out | apply below_alloc | apply pw_below_drewN | apply below_drew1 | refine below_set ?_ GE328.out | refine below_set ?_ GE329.out | refine below_set ?_ GE330.out | refine below_set ?_ GE347.out) | exact HB.out))); (case side4 => exact HC5.out); rintro e w83 ⟨v349, rfl, ho0, hb⟩; refine ⟨_, rfl, ?_⟩; have n0_ := Aside0.mk (Kd.R_below (by (with_reducible repeat (first | apply Kd.R_alloc | apply Kd.R_drewN | apply Kd.R_drew)); exact (Kd.R_mono (R_far9 (g := gb347) (Kd.R_types HO341.out BK347.out (by decide)) (fun _ hk => hk.2)) (fun _ h_ => h_.1))) hb); have n1_ := Aside0.mk (Kd.S_lower (Kd.S_newB (Kd.S_newB (Kd.S_new' ho0 (Kd.R_lt (by (with_reducible repeat (first | apply Kd.R_alloc | apply Kd.R_drewN | apply Kd.R_drew)); exact (Kd.R_mono (R_far9 (g := gb347) (Kd.R_types HO341.out BK347.out (by decide)) (fun _ hk => hk.2)) (fun _ h_ => h_.1))))) (g := gb329) (o := .cells #[.int .i64 a1_0, .string a1_1] 29 (0, 0)) (by (with_reducible repeat (first | refine blk_drewN ?_ _ | refine blk_drew ?_ | refine blk_alloc ?_ _)); refine blk_far9 ?_ NB329_347.out; (with_reducible repeat (first | refine blk_drewN ?_ _ | refine blk_drew ?_ | refine blk_alloc ?_ _)); exact BK329.out)) (g := gb347) (o := .cells #[.int .i64 t335, .string t336, .bool true, .string t338, .slice Ao69 t339.length co69, .int .i64 t342, .int .i64 t343, .int .i64 t344, .int .i64 t345] 32 (0, 0)) (by (with_reducible repeat (first | refine blk_drewN ?_ _ | refine blk_drew ?_ | refine blk_alloc ?_ _)); apply blk_stores9; (with_reducible repeat (first | refine blk_drewN ?_ _ | refine blk_drew ?_ | refine blk_alloc ?_ _)); exact BK347.out)) (below_size (by repeat (first | (with_reducible first | exact HB.out | apply below_alloc | apply pw_below_drewN | apply below_drew1 | refine below_set ?_ GE328.out | refine below_set ?_ GE329.out | refine below_set ?_ GE330.out | refine below_set ?_ GE347.out) | exact HB.out)))); have n2_ := Aside0.mk (blk_below (g := gb328) (o := .cells #[.slice A0_0 l0_0.length c0_0] 36 (0, 0)) (by (with_reducible repeat (first | refine blk_drewN ?_ _ | refine blk_drew ?_ | refine blk_alloc ?_ _)); refine blk_far9 ?_ NB328_347.out; (with_reducible repeat (first | refine blk_drewN ?_ _ | refine blk_drew ?_ | refine blk_alloc ?_ _)); exact BK328.out) hb); have n3_ := Aside0.mk (blk_below (g := gb329) (o := .cells #[.int .i64 a1_0, .string a1_1] 29 (0, 0)) (by (with_reducible repeat (first | refine blk_drewN ?_ _ | refine blk_drew ?_ | refine blk_alloc ?_ _)); refine blk_far9 ?_ NB329_347.out; (with_reducible repeat (first | refine blk_drewN ?_ _ | refine blk_drew ?_ | refine blk_alloc ?_ _)); exact BK329.out) hb); have n4_ := Aside0.mk (blk_below (g := gb330) (o := .cells #[.slice none 0 0] 36 (0, 0)) (by (with_reducible repeat (first | refine blk_drewN ?_ _ | refine blk_drew ?_ | refine blk_alloc ?_ _)); refine blk_far9 ?_ NB330_347.out; (with_reducible repeat (first | refine blk_drewN ?_ _ | refine blk_drew ?_ | refine blk_alloc ?_ _)); exact BK330.out) hb); have n5_ := Aside0.mk (blk_below (g := gb347) (o := .cells #[.int .i64 t335, .string t336, .bool true, .string t338, .slice Ao69 t339.length co69, .int .i64 t342, .int .i64 t343, .int .i64 t344, .int .i64 t345] 32 (0, 0)) (by (with_reducible repeat (first | refine blk_drewN ?_ _ | refine blk_drew ?_ | refine blk_alloc ?_ _)); apply blk_stores9; (with_reducible repeat (first | refine blk_drewN ?_ _ | refine blk_drew ?_ | refine blk_alloc ?_ _)); exact BK347.out) hb); have n6_ := Aside0.mk (below_step (by repeat (first | (with_reducible first | exact HB.out | apply below_alloc | apply pw_below_drewN | apply below_drew1 | refine below_set ?_ GE328.out | refine below_set ?_ GE329.out | refine below_set ?_ GE330.out | refine below_set ?_ GE347.out) | exact HB.out)) hb); clear HO341; clear BK328; clear BK329; clear BK330; clear BK347; clear HB; have HO341 := n0_; have HO350 := n1_; have BK328 := n2_; have BK329 := n3_; have BK330 := n4_; have BK347 := n5_; have HB := n6_; clear n0_ n1_ n2_ n3_ n4_ n5_ n6_; (try clear hb); (try clear hb2); (try clear hk); (try clear hi); (try clear ho0); obtain ⟨Ao84, co84, eo84⟩ := Kd.S_slice HO350.out; subst eo84; obtain ⟨hcz85_0, hfz85_0⟩ := bkA1 BK330.out))
      refine bodyPost_ret (results_ct rfl _ _ gb330 36 #[.slice Ao84 t348.length co84] (0, 0) _ rfl (by (with_reducible repeat (first | refine blk_drewN ?_ _ | refine blk_drew ?_ | refine blk_alloc ?_ _)); refine blk_put (cs := #[.slice none 0 0]) ?_ 0 _ rfl; (with_reducible repeat (first | refine blk_drewN ?_ _ | refine blk_drew ?_ | refine blk_alloc ?_ _)); exact BK330.out) Tryd.underlying36 rfl (by kernel_rfl)) rfl ?_
      exact ⟨_, by first | rfl | (simp [errW_none, errW_some] <;> rfl) | (simp [*, errW_none, errW_some] <;> rfl), by (with_reducible repeat (first | apply Kd.S_alloc | apply Kd.S_drewN | apply Kd.S_drew)); exact Kd.S_mono (Kd.S_far (p := ⟨gb330, 0, none⟩) (Kd.S_types HO350.out BK330.out (by decide)) (fun _ hk => hk.2) (.slice Ao84 t348.length co84)) (fun _ hk => trivial), by repeat (first | (with_reducible first | exact HB.out | apply below_alloc | apply pw_below_drewN | apply below_drew1 | refine below_set ?_ GE328.out | refine below_set ?_ GE329.out | refine below_set ?_ GE330.out | refine below_set ?_ GE347.out) | exact HB.out)⟩
     rw [if_neg c72] at H
     have c72b0 : (t338.toList == a4.toList) = false := beq_eq_false_iff_ne.mpr c72
     have c72b1 : (t338.toList != a4.toList) = true := bne_iff_ne.mpr c72
     replace H := Option.bind_eq_some_iff.mp H
     obtain ⟨t351, A860, H⟩ := H
     replace H : (some (t351, 0)) = some (r1, r2) := H
     have A86 := Aside0.mk A860
     clear A860
     simp only [Option.some.injEq, Prod.mk.injEq] at H
     obtain ⟨rfl, rfl⟩ := H
     have hnb87 := NB347_328.out
     have hnc87 := NB328_347.out
     have hnb88 := NB347_329.out
     have hnc88 := NB329_347.out
     have hnb89 := NB347_330.out
     have hnc89 := NB330_347.out
     obtain ⟨hcz90_0, hcz90_1, hcz90_2, hcz90_3, hcz90_4, hcz90_5, hcz90_6, hcz90_7, hcz90_8, hfz90_0, hfz90_1, hfz90_2, hfz90_3, hfz90_4, hfz90_5, hfz90_6, hfz90_7, hfz90_8⟩ := bkA9 BK347.out
     have hnb91 := NB328_329.out
     have hnc91 := NB329_328.out
     have hnb92 := NB328_330.out
     have hnc92 := NB330_328.out
     obtain ⟨hcz93_0, hfz93_0⟩ := bkA1 BK328.out
     have hnb94 := NB329_330.out
     have hnc94 := NB330_329.out
     obtain ⟨hcz95_0, hcz95_1, hfz95_0, hfz95_1⟩ := bkA2 BK329.out
     go_wp2_with (first | ((with_reducible refine gate_callee (f := 82) rfl ?_); refine goesL_ (some 70) rfl rfl Tryd.func82 (by kernel_rfl) rfl #[.agg #[.slice A0_0 l0_0.length c0_0], .agg #[.int .i64 a1_0, .string a1_1, .bool true, .string a4, .slice A5 l5.length c5, .int .i64 a3, .int .i64 a3, .int .i64 0, .int .i64 0]] rfl (by (try simp only [List.map_toArray, List.map_cons, List.map_nil]); first | done | rfl | (simp only [List.length_drop, List.length_take]; rfl)) ?_; (with_reducible refine (spec_l4Put.calls kj6 _ _ l0_0 a1_0 a1_1 true a4 _ _ l5 a3 a3 0 0 t351 _ ?side1 ?side2 ?side3 ?side4 A86.out).mono ?_); (case side1 => exact Kd.C_below HR0_0.out (by repeat (first | (with_reducible first | exact HB.out | apply below_alloc | apply pw_below_drewN | apply below_drew1 | refine below_set ?_ GE328.out | refine below_set ?_ GE329.out | refine below_set ?_ GE330.out | refine below_set ?_ GE347.out) | exact HB.out))); (case side2 => exact HC0_0.out); (case side3 => exact Kd.C_below HR5.out (by repeat (first | (with_reducible first | exact HB.out | apply below_alloc | apply pw_below_drewN | apply below_drew1 | refine below_set ?_ GE328.out | refine below_set ?_ GE329.out | refine below_set ?_ GE330.out | refine below_set ?_ GE347.out) | exact HB.out))); (case side4 => exact HC5.out); rintro e w96 ⟨v352, rfl, ho0, hb⟩; refine ⟨_, rfl, ?_⟩; have n0_ := Aside0.mk (Kd.R_below (by (with_reducible repeat (first | apply Kd.R_alloc | apply Kd.R_drewN | apply Kd.R_drew)); exact (Kd.R_mono (R_far9 (g := gb347) (Kd.R_types HO341.out BK347.out (by decide)) (fun _ hk => hk.2)) (fun _ h_ => h_.1))) hb); have n1_ := Aside0.mk (Kd.S_lower (Kd.S_newB (Kd.S_newB (Kd.S_new' ho0 (Kd.R_lt (by (with_reducible repeat (first | apply Kd.R_alloc | apply Kd.R_drewN | apply Kd.R_drew)); exact (Kd.R_mono (R_far9 (g := gb347) (Kd.R_types HO341.out BK347.out (by decide)) (fun _ hk => hk.2)) (fun _ h_ => h_.1))))) (g := gb329) (o := .cells #[.int .i64 a1_0, .string a1_1] 29 (0, 0)) (by (with_reducible repeat (first | refine blk_drewN ?_ _ | refine blk_drew ?_ | refine blk_alloc ?_ _)); refine blk_far9 ?_ NB329_347.out; (with_reducible repeat (first | refine blk_drewN ?_ _ | refine blk_drew ?_ | refine blk_alloc ?_ _)); exact BK329.out)) (g := gb347) (o := .cells #[.int .i64 t335, .string t336, .bool true, .string t338, .slice Ao69 t339.length co69, .int .i64 t342, .int .i64 t343, .int .i64 t344, .int .i64 t345] 32 (0, 0)) (by (with_reducible repeat (first | refine blk_drewN ?_ _ | refine blk_drew ?_ | refine blk_alloc ?_ _)); apply blk_stores9; (with_reducible repeat (first | refine blk_drewN ?_ _ | refine blk_drew ?_ | refine blk_alloc ?_ _)); exact BK347.out)) (below_size (by repeat (first | (with_reducible first | exact HB.out | apply below_alloc | apply pw_below_drewN | apply below_drew1 | refine below_set ?_ GE328.out | refine below_set ?_ GE329.out | refine below_set ?_ GE330.out | refine below_set ?_ GE347.out) | exact HB.out)))); have n2_ := Aside0.mk (blk_below (g := gb328) (o := .cells #[.slice A0_0 l0_0.length c0_0] 36 (0, 0)) (by (with_reducible repeat (first | refine blk_drewN ?_ _ | refine blk_drew ?_ | refine blk_alloc ?_ _)); refine blk_far9 ?_ NB328_347.out; (with_reducible repeat (first | refine blk_drewN ?_ _ | refine blk_drew ?_ | refine blk_alloc ?_ _)); exact BK328.out) hb); have n3_ := Aside0.mk (blk_below (g := gb329) (o := .cells #[.int .i64 a1_0, .string a1_1] 29 (0, 0)) (by (with_reducible repeat (first | refine blk_drewN ?_ _ | refine blk_drew ?_ | refine blk_alloc ?_ _)); refine blk_far9 ?_ NB329_347.out; (with_reducible repeat (first | refine blk_drewN ?_ _ | refine blk_drew ?_ | refine blk_alloc ?_ _)); exact BK329.out) hb); have n4_ := Aside0.mk (blk_below (g := gb330) (o := .cells #[.slice none 0 0] 36 (0, 0)) (by (with_reducible repeat (first | refine blk_drewN ?_ _ | refine blk_drew ?_ | refine blk_alloc ?_ _)); refine blk_far9 ?_ NB330_347.out; (with_reducible repeat (first | refine blk_drewN ?_ _ | refine blk_drew ?_ | refine blk_alloc ?_ _)); exact BK330.out) hb); have n5_ := Aside0.mk (blk_below (g := gb347) (o := .cells #[.int .i64 t335, .string t336, .bool true, .string t338, .slice Ao69 t339.length co69, .int .i64 t342, .int .i64 t343, .int .i64 t344, .int .i64 t345] 32 (0, 0)) (by (with_reducible repeat (first | refine blk_drewN ?_ _ | refine blk_drew ?_ | refine blk_alloc ?_ _)); apply blk_stores9; (with_reducible repeat (first | refine blk_drewN ?_ _ | refine blk_drew ?_ | refine blk_alloc ?_ _)); exact BK347.out) hb); have n6_ := Aside0.mk (below_step (by repeat (first | (with_reducible first | exact HB.out | apply below_alloc | apply pw_below_drewN | apply below_drew1 | refine below_set ?_ GE328.out | refine below_set ?_ GE329.out | refine below_set ?_ GE330.out | refine below_set ?_ GE347.out) | exact HB.out)) hb); clear HO341; clear BK328; clear BK329; clear BK330; clear BK347; clear HB; have HO341 := n0_; have HO353 := n1_; have BK328 := n2_; have BK329 := n3_; have BK330 := n4_; have BK347 := n5_; have HB := n6_; clear n0_ n1_ n2_ n3_ n4_ n5_ n6_; (try clear hb); (try clear hb2); (try clear hk); (try clear hi); (try clear ho0); obtain ⟨Ao97, co97, eo97⟩ := Kd.S_slice HO353.out; subst eo97; obtain ⟨hcz98_0, hfz98_0⟩ := bkA1 BK330.out))
     refine bodyPost_ret (results_ct rfl _ _ gb330 36 #[.slice Ao97 t351.length co97] (0, 0) _ rfl (by (with_reducible repeat (first | refine blk_drewN ?_ _ | refine blk_drew ?_ | refine blk_alloc ?_ _)); refine blk_put (cs := #[.slice none 0 0]) ?_ 0 _ rfl; (with_reducible repeat (first | refine blk_drewN ?_ _ | refine blk_drew ?_ | refine blk_alloc ?_ _)); exact BK330.out) Tryd.underlying36 rfl (by kernel_rfl)) rfl ?_
     exact ⟨_, by first | rfl | (simp [errW_none, errW_some] <;> rfl) | (simp [*, errW_none, errW_some] <;> rfl), by (with_reducible repeat (first | apply Kd.S_alloc | apply Kd.S_drewN | apply Kd.S_drew)); exact Kd.S_mono (Kd.S_far (p := ⟨gb330, 0, none⟩) (Kd.S_types HO353.out BK330.out (by decide)) (fun _ hk => hk.2) (.slice Ao97 t351.length co97)) (fun _ hk => trivial), by repeat (first | (with_reducible first | exact HB.out | apply below_alloc | apply pw_below_drewN | apply below_drew1 | refine below_set ?_ GE328.out | refine below_set ?_ GE329.out | refine below_set ?_ GE330.out | refine below_set ?_ GE347.out) | exact HB.out)⟩
    replace c71 := Bool.eq_false_iff.mpr c71
    subst c71
    have H1 : ((spec_l4Put.f kj6 l0_0 a1_0 a1_1 true a4 l5 a3 a3 0 0).bind fun t354 => (some (t354, 0))) = some (r1, r2) := by rw [if_neg (show ¬ (false = true) by decide)] at H; exact H
    clear H
    have H := H1
    clear H1
    replace H := Option.bind_eq_some_iff.mp H
    obtain ⟨t354, A990, H⟩ := H
    replace H : (some (t354, 0)) = some (r1, r2) := H
    have A99 := Aside0.mk A990
    clear A990
    simp only [Option.some.injEq, Prod.mk.injEq] at H
    obtain ⟨rfl, rfl⟩ := H
    have hnb100 := NB347_328.out
    have hnc100 := NB328_347.out
    have hnb101 := NB347_329.out
    have hnc101 := NB329_347.out
    have hnb102 := NB347_330.out
    have hnc102 := NB330_347.out
    obtain ⟨hcz103_0, hcz103_1, hcz103_2, hcz103_3, hcz103_4, hcz103_5, hcz103_6, hcz103_7, hcz103_8, hfz103_0, hfz103_1, hfz103_2, hfz103_3, hfz103_4, hfz103_5, hfz103_6, hfz103_7, hfz103_8⟩ := bkA9 BK347.out
    have hnb104 := NB328_329.out
    have hnc104 := NB329_328.out
    have hnb105 := NB328_330.out
    have hnc105 := NB330_328.out
    obtain ⟨hcz106_0, hfz106_0⟩ := bkA1 BK328.out
    have hnb107 := NB329_330.out
    have hnc107 := NB330_329.out
    obtain ⟨hcz108_0, hcz108_1, hfz108_0, hfz108_1⟩ := bkA2 BK329.out
    go_wp2_with (first | ((with_reducible refine gate_callee (f := 82) rfl ?_); refine goesL_ (some 70) rfl rfl Tryd.func82 (by kernel_rfl) rfl #[.agg #[.slice A0_0 l0_0.length c0_0], .agg #[.int .i64 a1_0, .string a1_1, .bool true, .string a4, .slice A5 l5.length c5, .int .i64 a3, .int .i64 a3, .int .i64 0, .int .i64 0]] rfl (by (try simp only [List.map_toArray, List.map_cons, List.map_nil]); first | done | rfl | (simp only [List.length_drop, List.length_take]; rfl)) ?_; (with_reducible refine (spec_l4Put.calls kj6 _ _ l0_0 a1_0 a1_1 true a4 _ _ l5 a3 a3 0 0 t354 _ ?side1 ?side2 ?side3 ?side4 A99.out).mono ?_); (case side1 => exact Kd.C_below HR0_0.out (by repeat (first | (with_reducible first | exact HB.out | apply below_alloc | apply pw_below_drewN | apply below_drew1 | refine below_set ?_ GE328.out | refine below_set ?_ GE329.out | refine below_set ?_ GE330.out | refine below_set ?_ GE347.out) | exact HB.out))); (case side2 => exact HC0_0.out); (case side3 => exact Kd.C_below HR5.out (by repeat (first | (with_reducible first | exact HB.out | apply below_alloc | apply pw_below_drewN | apply below_drew1 | refine below_set ?_ GE328.out | refine below_set ?_ GE329.out | refine below_set ?_ GE330.out | refine below_set ?_ GE347.out) | exact HB.out))); (case side4 => exact HC5.out); rintro e w109 ⟨v355, rfl, ho0, hb⟩; refine ⟨_, rfl, ?_⟩; have n0_ := Aside0.mk (Kd.R_below (by (with_reducible repeat (first | apply Kd.R_alloc | apply Kd.R_drewN | apply Kd.R_drew)); exact (Kd.R_mono (R_far9 (g := gb347) (Kd.R_types HO341.out BK347.out (by decide)) (fun _ hk => hk.2)) (fun _ h_ => h_.1))) hb); have n1_ := Aside0.mk (Kd.S_lower (Kd.S_newB (Kd.S_newB (Kd.S_new' ho0 (Kd.R_lt (by (with_reducible repeat (first | apply Kd.R_alloc | apply Kd.R_drewN | apply Kd.R_drew)); exact (Kd.R_mono (R_far9 (g := gb347) (Kd.R_types HO341.out BK347.out (by decide)) (fun _ hk => hk.2)) (fun _ h_ => h_.1))))) (g := gb329) (o := .cells #[.int .i64 a1_0, .string a1_1] 29 (0, 0)) (by (with_reducible repeat (first | refine blk_drewN ?_ _ | refine blk_drew ?_ | refine blk_alloc ?_ _)); refine blk_far9 ?_ NB329_347.out; (with_reducible repeat (first | refine blk_drewN ?_ _ | refine blk_drew ?_ | refine blk_alloc ?_ _)); exact BK329.out)) (g := gb347) (o := .cells #[.int .i64 t335, .string t336, .bool false, .string t338, .slice Ao69 t339.length co69, .int .i64 t342, .int .i64 t343, .int .i64 t344, .int .i64 t345] 32 (0, 0)) (by (with_reducible repeat (first | refine blk_drewN ?_ _ | refine blk_drew ?_ | refine blk_alloc ?_ _)); apply blk_stores9; (with_reducible repeat (first | refine blk_drewN ?_ _ | refine blk_drew ?_ | refine blk_alloc ?_ _)); exact BK347.out)) (below_size (by repeat (first | (with_reducible first | exact HB.out | apply below_alloc | apply pw_below_drewN | apply below_drew1 | refine below_set ?_ GE328.out | refine below_set ?_ GE329.out | refine below_set ?_ GE330.out | refine below_set ?_ GE347.out) | exact HB.out)))); have n2_ := Aside0.mk (blk_below (g := gb328) (o := .cells #[.slice A0_0 l0_0.length c0_0] 36 (0, 0)) (by (with_reducible repeat (first | refine blk_drewN ?_ _ | refine blk_drew ?_ | refine blk_alloc ?_ _)); refine blk_far9 ?_ NB328_347.out; (with_reducible repeat (first | refine blk_drewN ?_ _ | refine blk_drew ?_ | refine blk_alloc ?_ _)); exact BK328.out) hb); have n3_ := Aside0.mk (blk_below (g := gb329) (o := .cells #[.int .i64 a1_0, .string a1_1] 29 (0, 0)) (by (with_reducible repeat (first | refine blk_drewN ?_ _ | refine blk_drew ?_ | refine blk_alloc ?_ _)); refine blk_far9 ?_ NB329_347.out; (with_reducible repeat (first | refine blk_drewN ?_ _ | refine blk_drew ?_ | refine blk_alloc ?_ _)); exact BK329.out) hb); have n4_ := Aside0.mk (blk_below (g := gb330) (o := .cells #[.slice none 0 0] 36 (0, 0)) (by (with_reducible repeat (first | refine blk_drewN ?_ _ | refine blk_drew ?_ | refine blk_alloc ?_ _)); refine blk_far9 ?_ NB330_347.out; (with_reducible repeat (first | refine blk_drewN ?_ _ | refine blk_drew ?_ | refine blk_alloc ?_ _)); exact BK330.out) hb); have n5_ := Aside0.mk (blk_below (g := gb347) (o := .cells #[.int .i64 t335, .string t336, .bool false, .string t338, .slice Ao69 t339.length co69, .int .i64 t342, .int .i64 t343, .int .i64 t344, .int .i64 t345] 32 (0, 0)) (by (with_reducible repeat (first | refine blk_drewN ?_ _ | refine blk_drew ?_ | refine blk_alloc ?_ _)); apply blk_stores9; (with_reducible repeat (first | refine blk_drewN ?_ _ | refine blk_drew ?_ | refine blk_alloc ?_ _)); exact BK347.out) hb); have n6_ := Aside0.mk (below_step (by repeat (first | (with_reducible first | exact HB.out | apply below_alloc | apply pw_below_drewN | apply below_drew1 | refine below_set ?_ GE328.out | refine below_set ?_ GE329.out | refine below_set ?_ GE330.out | refine below_set ?_ GE347.out) | exact HB.out)) hb); clear HO341; clear BK328; clear BK329; clear BK330; clear BK347; clear HB; have HO341 := n0_; have HO356 := n1_; have BK328 := n2_; have BK329 := n3_; have BK330 := n4_; have BK347 := n5_; have HB := n6_; clear n0_ n1_ n2_ n3_ n4_ n5_ n6_; (try clear hb); (try clear hb2); (try clear hk); (try clear hi); (try clear ho0); obtain ⟨Ao110, co110, eo110⟩ := Kd.S_slice HO356.out; subst eo110; obtain ⟨hcz111_0, hfz111_0⟩ := bkA1 BK330.out))
    refine bodyPost_ret (results_ct rfl _ _ gb330 36 #[.slice Ao110 t354.length co110] (0, 0) _ rfl (by (with_reducible repeat (first | refine blk_drewN ?_ _ | refine blk_drew ?_ | refine blk_alloc ?_ _)); refine blk_put (cs := #[.slice none 0 0]) ?_ 0 _ rfl; (with_reducible repeat (first | refine blk_drewN ?_ _ | refine blk_drew ?_ | refine blk_alloc ?_ _)); exact BK330.out) Tryd.underlying36 rfl (by kernel_rfl)) rfl ?_
    exact ⟨_, by first | rfl | (simp [errW_none, errW_some] <;> rfl) | (simp [*, errW_none, errW_some] <;> rfl), by (with_reducible repeat (first | apply Kd.S_alloc | apply Kd.S_drewN | apply Kd.S_drew)); exact Kd.S_mono (Kd.S_far (p := ⟨gb330, 0, none⟩) (Kd.S_types HO356.out BK330.out (by decide)) (fun _ hk => hk.2) (.slice Ao110 t354.length co110)) (fun _ hk => trivial), by repeat (first | (with_reducible first | exact HB.out | apply below_alloc | apply pw_below_drewN | apply below_drew1 | refine below_set ?_ GE328.out | refine below_set ?_ GE329.out | refine below_set ?_ GE330.out | refine below_set ?_ GE347.out) | exact HB.out)⟩
   replace c70 := Bool.eq_false_iff.mpr c70
   subst c70
   have H1 : ((spec_l4Copy.f kj6 l0_0).bind fun t357 => (some (t357, 1))) = some (r1, r2) := by rw [if_neg (show ¬ (false = true) by decide)] at H; exact H
   clear H
   have H := H1
   clear H1
   replace H := Option.bind_eq_some_iff.mp H
   obtain ⟨t357, A1120, H⟩ := H
   replace H : (some (t357, 1)) = some (r1, r2) := H
   have A112 := Aside0.mk A1120
   clear A1120
   simp only [Option.some.injEq, Prod.mk.injEq] at H
   obtain ⟨rfl, rfl⟩ := H
   have hnb113 := NB328_329.out
   have hnc113 := NB329_328.out
   have hnb114 := NB328_330.out
   have hnc114 := NB330_328.out
   have hnb115 := NB328_347.out
   have hnc115 := NB347_328.out
   obtain ⟨hcz116_0, hfz116_0⟩ := bkA1 BK328.out
   go_wp2_with (first | ((with_reducible refine gate_callee (f := 81) rfl ?_); refine goesL_ (some 51) rfl rfl Tryd.func81 (by kernel_rfl) rfl #[.agg #[.slice A0_0 l0_0.length c0_0]] rfl (by (try simp only [List.map_toArray, List.map_cons, List.map_nil]); first | done | rfl | (simp only [List.length_drop, List.length_take]; rfl)) ?_; (with_reducible refine (spec_l4Copy.calls kj6 _ _ l0_0 t357 _ ?side1 ?side2 A112.out).mono ?_); (case side1 => exact Kd.C_below HR0_0.out (by repeat (first | (with_reducible first | exact HB.out | apply below_alloc | apply pw_below_drewN | apply below_drew1 | refine below_set ?_ GE328.out | refine below_set ?_ GE329.out | refine below_set ?_ GE330.out | refine below_set ?_ GE347.out) | exact HB.out))); (case side2 => exact HC0_0.out); rintro e w117 ⟨v358, rfl, ho0, hb⟩; refine ⟨_, rfl, ?_⟩; have n0_ := Aside0.mk (Kd.R_below (by (with_reducible repeat (first | apply Kd.R_alloc | apply Kd.R_drewN | apply Kd.R_drew)); exact (Kd.R_mono (R_far9 (g := gb347) (Kd.R_types HO341.out BK347.out (by decide)) (fun _ hk => hk.2)) (fun _ h_ => h_.1))) hb); have n1_ := Aside0.mk (Kd.S_lower (Kd.S_newB (Kd.S_newB (Kd.S_new' ho0 (Kd.R_lt (by (with_reducible repeat (first | apply Kd.R_alloc | apply Kd.R_drewN | apply Kd.R_drew)); exact (Kd.R_mono (R_far9 (g := gb347) (Kd.R_types HO341.out BK347.out (by decide)) (fun _ hk => hk.2)) (fun _ h_ => h_.1))))) (g := gb329) (o := .cells #[.int .i64 a1_0, .string a1_1] 29 (0, 0)) (by (with_reducible repeat (first | refine blk_drewN ?_ _ | refine blk_drew ?_ | refine blk_alloc ?_ _)); refine blk_far9 ?_ NB329_347.out; (with_reducible repeat (first | refine blk_drewN ?_ _ | refine blk_drew ?_ | refine blk_alloc ?_ _)); exact BK329.out)) (g := gb347) (o := .cells #[.int .i64 t335, .string t336, .bool t337, .string t338, .slice Ao69 t339.length co69, .int .i64 t342, .int .i64 t343, .int .i64 t344, .int .i64 t345] 32 (0, 0)) (by (with_reducible repeat (first | refine blk_drewN ?_ _ | refine blk_drew ?_ | refine blk_alloc ?_ _)); apply blk_stores9; (with_reducible repeat (first | refine blk_drewN ?_ _ | refine blk_drew ?_ | refine blk_alloc ?_ _)); exact BK347.out)) (below_size (by repeat (first | (with_reducible first | exact HB.out | apply below_alloc | apply pw_below_drewN | apply below_drew1 | refine below_set ?_ GE328.out | refine below_set ?_ GE329.out | refine below_set ?_ GE330.out | refine below_set ?_ GE347.out) | exact HB.out)))); have n2_ := Aside0.mk (blk_below (g := gb328) (o := .cells #[.slice A0_0 l0_0.length c0_0] 36 (0, 0)) (by (with_reducible repeat (first | refine blk_drewN ?_ _ | refine blk_drew ?_ | refine blk_alloc ?_ _)); refine blk_far9 ?_ NB328_347.out; (with_reducible repeat (first | refine blk_drewN ?_ _ | refine blk_drew ?_ | refine blk_alloc ?_ _)); exact BK328.out) hb); have n3_ := Aside0.mk (blk_below (g := gb329) (o := .cells #[.int .i64 a1_0, .string a1_1] 29 (0, 0)) (by (with_reducible repeat (first | refine blk_drewN ?_ _ | refine blk_drew ?_ | refine blk_alloc ?_ _)); refine blk_far9 ?_ NB329_347.out; (with_reducible repeat (first | refine blk_drewN ?_ _ | refine blk_drew ?_ | refine blk_alloc ?_ _)); exact BK329.out) hb); have n4_ := Aside0.mk (blk_below (g := gb330) (o := .cells #[.slice none 0 0] 36 (0, 0)) (by (with_reducible repeat (first | refine blk_drewN ?_ _ | refine blk_drew ?_ | refine blk_alloc ?_ _)); refine blk_far9 ?_ NB330_347.out; (with_reducible repeat (first | refine blk_drewN ?_ _ | refine blk_drew ?_ | refine blk_alloc ?_ _)); exact BK330.out) hb); have n5_ := Aside0.mk (blk_below (g := gb347) (o := .cells #[.int .i64 t335, .string t336, .bool t337, .string t338, .slice Ao69 t339.length co69, .int .i64 t342, .int .i64 t343, .int .i64 t344, .int .i64 t345] 32 (0, 0)) (by (with_reducible repeat (first | refine blk_drewN ?_ _ | refine blk_drew ?_ | refine blk_alloc ?_ _)); apply blk_stores9; (with_reducible repeat (first | refine blk_drewN ?_ _ | refine blk_drew ?_ | refine blk_alloc ?_ _)); exact BK347.out) hb); have n6_ := Aside0.mk (below_step (by repeat (first | (with_reducible first | exact HB.out | apply below_alloc | apply pw_below_drewN | apply below_drew1 | refine below_set ?_ GE328.out | refine below_set ?_ GE329.out | refine below_set ?_ GE330.out | refine below_set ?_ GE347.out) | exact HB.out)) hb); clear HO341; clear BK328; clear BK329; clear BK330; clear BK347; clear HB; have HO341 := n0_; have HO359 := n1_; have BK328 := n2_; have BK329 := n3_; have BK330 := n4_; have BK347 := n5_; have HB := n6_; clear n0_ n1_ n2_ n3_ n4_ n5_ n6_; (try clear hb); (try clear hb2); (try clear hk); (try clear hi); (try clear ho0); obtain ⟨Ao118, co118, eo118⟩ := Kd.S_slice HO359.out; subst eo118; have hnb119 := NB330_329.out; have hnc119 := NB329_330.out; have hnb120 := NB330_347.out; have hnc120 := NB347_330.out; obtain ⟨hcz121_0, hfz121_0⟩ := bkA1 BK330.out))
   refine bodyPost_ret (results_ct rfl _ _ gb330 36 #[.slice Ao118 t357.length co118] (0, 0) _ rfl (by (with_reducible repeat (first | refine blk_drewN ?_ _ | refine blk_drew ?_ | refine blk_alloc ?_ _)); refine blk_put (cs := #[.slice none 0 0]) ?_ 0 _ rfl; (with_reducible repeat (first | refine blk_drewN ?_ _ | refine blk_drew ?_ | refine blk_alloc ?_ _)); exact BK330.out) Tryd.underlying36 rfl (by kernel_rfl)) rfl ?_
   exact ⟨_, by first | rfl | (simp [errW_none, errW_some] <;> rfl) | (simp [*, errW_none, errW_some] <;> rfl), by (with_reducible repeat (first | apply Kd.S_alloc | apply Kd.S_drewN | apply Kd.S_drew)); exact Kd.S_mono (Kd.S_far (p := ⟨gb330, 0, none⟩) (Kd.S_types HO359.out BK330.out (by decide)) (fun _ hk => hk.2) (.slice Ao118 t357.length co118)) (fun _ hk => trivial), by repeat (first | (with_reducible first | exact HB.out | apply below_alloc | apply pw_below_drewN | apply below_drew1 | refine below_set ?_ GE328.out | refine below_set ?_ GE329.out | refine below_set ?_ GE330.out | refine below_set ?_ GE347.out) | exact HB.out)⟩
def impl_wordByte.f (a0 : Int) : Option (Bool) := if a0 ≥ 97 then (if a0 ≤ 122 then (some true) else (if a0 ≥ 48 then (if a0 ≤ 57 then (some true) else (some (a0 == 95))) else (some (a0 == 95)))) else (if a0 ≥ 48 then (if a0 ≤ 57 then (some true) else (some (a0 == 95))) else (some (a0 == 95)))
set_option maxHeartbeats 8000000 in
set_option maxRecDepth 100000 in
theorem impl_wordByte.calls (a0 : Int) (r : Bool) (w : World) (h : impl_wordByte.f a0 = some r) :
 Calls Tryd.prog 155 #[.int .u8 a0] w fun e w' => e = .returned (.bool r) ∧ Drawn0 w w' := by
 have H : (if a0 ≥ 97 then (if a0 ≤ 122 then (some true) else (if a0 ≥ 48 then (if a0 ≤ 57 then (some true) else (some (a0 == 95))) else (some (a0 == 95)))) else (if a0 ≥ 48 then (if a0 ≤ 57 then (some true) else (some (a0 == 95))) else (some (a0 == 95)))) = some r := h
 clear h
 by_cases c2 : a0 ≥ 97
 ·
  rw [if_pos c2] at H
  have c2b0 : decide (97 ≤ a0) = true := decide_eq_true c2
  clear c2
  by_cases c3 : a0 ≤ 122
  ·
   rw [if_pos c3] at H
   have c3b0 : decide (a0 ≤ 122) = true := decide_eq_true c3
   clear c3
   obtain rfl := Option.some.inj H
   go_enter Tryd.func155, Tryd.ntmps155
   go_wp2
   go_ret
   exact ⟨by first | rfl | (simp; done) | (simp [*]; done), by repeat (first | exact Drawn0.refl _ | apply Drawn0.step)⟩
  rw [if_neg c3] at H
  have c3b0 : decide (a0 ≤ 122) = false := decide_eq_false c3
  clear c3
  by_cases c4 : a0 ≥ 48
  ·
   rw [if_pos c4] at H
   have c4b0 : decide (48 ≤ a0) = true := decide_eq_true c4
   clear c4
   by_cases c5 : a0 ≤ 57
   ·
    rw [if_pos c5] at H
    have c5b0 : decide (a0 ≤ 57) = true := decide_eq_true c5
    clear c5
    obtain rfl := Option.some.inj H
    go_enter Tryd.func155, Tryd.ntmps155
    go_wp2
    go_ret
    exact ⟨by first | rfl | (simp; done) | (simp [*]; done), by repeat (first | exact Drawn0.refl _ | apply Drawn0.step)⟩
   rw [if_neg c5] at H
   have c5b0 : decide (a0 ≤ 57) = false := decide_eq_false c5
   clear c5
   obtain rfl := Option.some.inj H
   go_enter Tryd.func155, Tryd.ntmps155
   go_wp2
   go_ret
   exact ⟨by first | rfl | (simp; done) | (simp [*]; done), by repeat (first | exact Drawn0.refl _ | apply Drawn0.step)⟩
  rw [if_neg c4] at H
  have c4b0 : decide (48 ≤ a0) = false := decide_eq_false c4
  clear c4
  obtain rfl := Option.some.inj H
  go_enter Tryd.func155, Tryd.ntmps155
  go_wp2
  go_ret
  exact ⟨by first | rfl | (simp; done) | (simp [*]; done), by repeat (first | exact Drawn0.refl _ | apply Drawn0.step)⟩
 rw [if_neg c2] at H
 have c2b0 : decide (97 ≤ a0) = false := decide_eq_false c2
 clear c2
 by_cases c6 : a0 ≥ 48
 ·
  rw [if_pos c6] at H
  have c6b0 : decide (48 ≤ a0) = true := decide_eq_true c6
  clear c6
  by_cases c7 : a0 ≤ 57
  ·
   rw [if_pos c7] at H
   have c7b0 : decide (a0 ≤ 57) = true := decide_eq_true c7
   clear c7
   obtain rfl := Option.some.inj H
   go_enter Tryd.func155, Tryd.ntmps155
   go_wp2
   go_ret
   exact ⟨by first | rfl | (simp; done) | (simp [*]; done), by repeat (first | exact Drawn0.refl _ | apply Drawn0.step)⟩
  rw [if_neg c7] at H
  have c7b0 : decide (a0 ≤ 57) = false := decide_eq_false c7
  clear c7
  obtain rfl := Option.some.inj H
  go_enter Tryd.func155, Tryd.ntmps155
  go_wp2
  go_ret
  exact ⟨by first | rfl | (simp; done) | (simp [*]; done), by repeat (first | exact Drawn0.refl _ | apply Drawn0.step)⟩
 rw [if_neg c6] at H
 have c6b0 : decide (48 ≤ a0) = false := decide_eq_false c6
 clear c6
 obtain rfl := Option.some.inj H
 go_enter Tryd.func155, Tryd.ntmps155
 go_wp2
 go_ret
 exact ⟨by first | rfl | (simp; done) | (simp [*]; done), by repeat (first | exact Drawn0.refl _ | apply Drawn0.step)⟩
end Go.Proofs.YtnbohlcibgfjaaaDoor.Gp
end
