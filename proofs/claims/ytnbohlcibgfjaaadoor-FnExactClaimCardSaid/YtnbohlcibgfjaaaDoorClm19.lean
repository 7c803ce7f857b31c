/- A part of the proof of RowFnExactClaim: each text's theorems that it needs, packed by shake.py, a program of this work; Lean checks them. -/
import Derived.Test.YtnbohlcibgfjaaaDoorClm3
import Derived.Test.YtnbohlcibgfjaaaDoorClm16
import Derived.Test.YtnbohlcibgfjaaaDoorClm18
section
namespace Go.Proofs.YtnbohlcibgfjaaaDoor.Gp
open Go.RowKit Go.Proofs.YtnbohlcibgfjaaaDoorW.PrintWords Go.Proofs.YtnbohlcibgfjaaaDoorW.PrintLast Go.Proofs.YtnbohlcibgfjaaaDoorW.PrintMore
set_option linter.unusedVariables false
set_option linter.unusedSimpArgs false
def impl_ValidTable.l0 : Nat → List (S32) → Int → Int → List (S32) → Option (Bool)
 | 0, _, _, _, _ => none
 | k + 1, x10, x11, x12, x339000 => if x12 < x11 then (if 0 ≤ x12 then (if x12 < (x10.length : Int) then ((impl_Slot_valid.f k ((rd_T32 x10 x12).f0.f0) ((rd_T32 x10 x12).f0.f1) ((rd_T32 x10 x12).f1) ((rd_T32 x10 x12).f2) ((rd_T32 x10 x12).f3) ((rd_T32 x10 x12).f4) ((rd_T32 x10 x12).f5) ((rd_T32 x10 x12).f6) ((rd_T32 x10 x12).f7)).bind fun t341 => (if t341 = true then (if x12 > 0 then (if 0 ≤ (wrap64 (x12 - 1)) then (if (wrap64 (x12 - 1)) < (x339000.length : Int) then ((impl_compareKeys.f k ((rd_T32 x339000 (wrap64 (x12 - 1))).f0.f0) ((rd_T32 x339000 (wrap64 (x12 - 1))).f0.f1) ((rd_T32 x10 x12).f0.f0) ((rd_T32 x10 x12).f0.f1)).bind fun t343 => (if t343 ≥ 0 then (some false) else (impl_ValidTable.l0 k x10 x11 (wrap64 (x12 + 1)) x339000))) else (none)) else (none)) else (impl_ValidTable.l0 k x10 x11 (wrap64 (x12 + 1)) x339000)) else (some false))) else (none)) else (none)) else (some true)
def impl_ValidTable.f (k : Nat) (l0_0 : List (S32)) : Option (Bool) := if (l0_0.length : Int) > 4096 then (some false) else (impl_ValidTable.l0 k l0_0 (l0_0.length : Int) 0 l0_0)
def impl_ValidTable.T6 : Bool × List (List Nat × List Nat) := (true, [([], []), ([0], [0]), ([1], [1]), ([2, 1], [2]), ([3], [3]), ([4, 3], [3, 4]), ([5, 3, 3], [3, 5]), ([6], [6]), ([7, 6], [6, 7]), ([6], [6]), ([9, 6], [6, 9]), ([8, 10, 6], [6, 8, 10]), ([11, 6], [6, 11]), ([12, 6], [6, 12]), ([6], [6]), ([14, 6], [6, 14]), ([13, 15, 6, 6], [6, 13, 15]), ([16, 6], [6, 16]), ([6, 17, 3], [3, 6, 17]), ([3, 18], [3, 18])])
def impl_ValidTable.B6 : List Nat := [0, 1, 3, 7, 15, 31, 63, 127, 255, 127, 639, 2047, 4095, 8191, 127, 16511, 65535, 131071, 262143, 524287]
theorem impl_ValidTable.tab6 : rtab .any (opsOf Tryd.f44 6) = impl_ValidTable.T6 := by kernel_rfl
theorem impl_ValidTable.bits6 : waitsOk impl_ValidTable.T6.2 impl_ValidTable.B6 = true := by kernel_rfl
set_option maxHeartbeats 8000000 in
set_option maxRecDepth 100000 in
theorem impl_ValidTable.calls (k : Nat) (A0_0 : Option Addr) (c0_0 : Nat) (l0_0 : List (S32)) (r : Bool) (w : World) (hG : GRes w) (hr0_0 : Kd.C k32 w A0_0 l0_0.length l0_0) (hc0_0 : l0_0.length ≤ c0_0) (h : impl_ValidTable.f k l0_0 = some r) :
 Calls Tryd.prog 44 #[.agg #[.slice A0_0 l0_0.length c0_0]] w fun e w' => e = .returned (.bool r) ∧ Below w.heap.size w w' := by
 have hu36 := Tryd.underlying36
 have hu32 := Tryd.underlying32
 have hu29 := Tryd.underlying29
 have HG := Aside0.mk hG
 clear hG
 have HR0_0 := Aside0.mk hr0_0
 have HC0_0 := Aside0.mk hc0_0
 clear hr0_0 hc0_0
 have HB := Aside0.mk (Below.refl w.heap.size w)
 have H : (if (l0_0.length : Int) > 4096 then (some false) else (impl_ValidTable.l0 k l0_0 (l0_0.length : Int) 0 l0_0)) = some r := h
 clear h
 have HL2 := Aside0.mk H
 clear H
 go_enter Tryd.func44, Tryd.ntmps44
 go_upto_if 8 with (first | ((with_reducible refine gate_dst (N := 1) rfl ?_); refine box_event ?hg (N := 1) ?hd (cs := #[.slice A0_0 l0_0.length c0_0]) (t := 36) ?hr ?_; (case hd => rfl); (case hg => rfl); (case hr => first | (go_simp; done) | (go_simp; rfl)); intro gb338 hg w3 hbox hb; have hb1_ := fromQ HB.out hb; have hb0_ := below_step hb1_ hb; have hW_ := below_step HB.out hb1_; have n1_ := Aside0.mk (hbox); have n2_ := szle hg hW_; have n3_ := szle hg hW_; replace HB := kH HB hb0_; have BK338 := n1_; have GW338 := n2_; have GE338 := n3_; clear hb1_ hb0_ hW_ n1_ n2_ n3_; clear hb hbox hg; obtain ⟨hcz4_0, hfz4_0⟩ := bkA1 BK338.out))
 have H := HL2.out
 clear HL2
 by_cases c5 : (l0_0.length : Int) > 4096
 ·
  rw [if_pos c5] at H
  have c5b0 : decide (4096 < (l0_0.length : Int)) = true := decide_eq_true c5
  have c5b1 : decide (4096 < l0_0.length) = true := decide_eq_true (by omega)
  clear c5
  (first | rw [c5b0] | (simp only [i64_w, i32_w]; rw [c5b0]) | simp only [c5b2, Bool.not_false, Bool.not_true] | skip)
  obtain rfl := Option.some.inj H
  go_wp2
  go_ret
  exact ⟨by first | rfl | (simp [errW_none, errW_some] <;> rfl) | (simp [*, errW_none, errW_some] <;> rfl), by repeat (first | (with_reducible first | exact HB.out | apply below_alloc | apply pw_below_drewN | apply below_drew1 | refine below_set ?_ GE338.out) | exact HB.out)⟩
 rw [if_neg c5] at H
 have c5b0 : decide (4096 < (l0_0.length : Int)) = false := decide_eq_false c5
 have c5b1 : decide (4096 < l0_0.length) = false := decide_eq_false (by omega)
 clear c5
 (first | rw [c5b0] | (simp only [i64_w, i32_w]; rw [c5b0]) | simp only [c5b2, Bool.not_false, Bool.not_true] | skip)
 have H' := Aside0.mk H
 clear H
 obtain ⟨hcz6_0, hfz6_0⟩ := bkA1 BK338.out
 go_wp2
 go_loopg [12] k (fun kq v12 w' => ∃ (x12_1 : Int), v12 = .int .i64 x12_1 ∧ Aside0 (impl_ValidTable.l0 kq l0_0 (l0_0.length : Int) x12_1 l0_0 = some r) ∧ Aside0 (kq ≤ k) ∧ Aside0 (w'.heap[gb338]? = some (.cells #[(.slice A0_0 l0_0.length c0_0)] 36 (0, 0))) ∧ Aside0 (Below w.heap.size w w'))
 case atStart => exact ⟨(0), (by first | rfl | (simp; done) | (simp [*]; done)), H', ⟨Nat.le_refl _⟩, ⟨by (with_reducible repeat (first | refine blk_drewN ?_ _ | refine blk_drew ?_ | refine blk_alloc ?_ _)); exact BK338.out⟩, ⟨by repeat (first | (with_reducible first | exact HB.out | apply below_alloc | apply pw_below_drewN | apply below_drew1 | refine below_set ?_ GE338.out) | exact HB.out)⟩⟩
 case round =>
  clear H'
  try clear p2
  try clear c4
  try clear c5
  try clear c5b0
  try clear c5b1
  try clear c5b2
  try clear hcz4_0
  try clear hcz6_0
  try clear hfz4_0
  try clear hfz6_0
  obtain ⟨x12_1, rfl, HA, HK1, BK338, HB⟩ := hrel
  cases gk with
  | zero => exact absurd HA.out (by simp [impl_ValidTable.l0])
  | succ k1 =>
   have H := HA.out
   clear HA
   simp only [impl_ValidTable.l0] at H
   by_cases c7 : x12_1 < (l0_0.length : Int)
   ·
    rw [if_pos c7] at H
    have c7b0 : decide (x12_1 < (l0_0.length : Int)) = true := decide_eq_true c7
    clear c7
    by_cases c8 : 0 ≤ x12_1
    ·
     rw [if_pos c8] at H
     have c8b0 : decide (0 ≤ x12_1) = true := decide_eq_true c8
     clear c8
     by_cases c9 : x12_1 < (l0_0.length : Int)
     ·
      rw [if_pos c9] at H
      have c9b0 : decide (x12_1 < (l0_0.length : Int)) = true := decide_eq_true c9
      clear c9
      replace H := Option.bind_eq_some_iff.mp H
      obtain ⟨t341, A100, H⟩ := H
      replace H : (if t341 = true then (if x12_1 > 0 then (if 0 ≤ (wrap64 (x12_1 - 1)) then (if (wrap64 (x12_1 - 1)) < (l0_0.length : Int) then ((impl_compareKeys.f k1 ((rd_T32 l0_0 (wrap64 (x12_1 - 1))).f0.f0) ((rd_T32 l0_0 (wrap64 (x12_1 - 1))).f0.f1) ((rd_T32 l0_0 x12_1).f0.f0) ((rd_T32 l0_0 x12_1).f0.f1)).bind fun t343 => (if t343 ≥ 0 then (some false) else (impl_ValidTable.l0 k1 l0_0 (l0_0.length : Int) (wrap64 (x12_1 + 1)) l0_0))) else (none)) else (none)) else (impl_ValidTable.l0 k1 l0_0 (l0_0.length : Int) (wrap64 (x12_1 + 1)) l0_0)) else (some false)) = some r := H
      have A10 := Aside0.mk A100
      clear A100
      by_cases c11 : t341 = true
      ·
       subst c11
       have H1 : (if x12_1 > 0 then (if 0 ≤ (wrap64 (x12_1 - 1)) then (if (wrap64 (x12_1 - 1)) < (l0_0.length : Int) then ((impl_compareKeys.f k1 ((rd_T32 l0_0 (wrap64 (x12_1 - 1))).f0.f0) ((rd_T32 l0_0 (wrap64 (x12_1 - 1))).f0.f1) ((rd_T32 l0_0 x12_1).f0.f0) ((rd_T32 l0_0 x12_1).f0.f1)).bind fun t343 => (if t343 ≥ 0 then (some false) else (impl_ValidTable.l0 k1 l0_0 (l0_0.length : Int) (wrap64 (x12_1 + 1)) l0_0))) else (none)) else (none)) else (impl_ValidTable.l0 k1 l0_0 (l0_0.length : Int) (wrap64 (x12_1 + 1)) l0_0)) = some r := by rw [if_pos rfl] at H; exact H
       clear H
       have H := H1
       clear H1
       by_cases c12 : x12_1 > 0
       ·
        rw [if_pos c12] at H
        have c12b0 : decide (0 < x12_1) = true := decide_eq_true c12
        clear c12
        obtain ⟨ji13, hji13⟩ : ∃ j_ : Int, (wrap64 (x12_1 - 1)) = j_ := ⟨_, rfl⟩
        replace H : (if 0 ≤ (ji13) then (if (ji13) < (l0_0.length : Int) then ((impl_compareKeys.f k1 ((rd_T32 l0_0 (ji13)).f0.f0) ((rd_T32 l0_0 (ji13)).f0.f1) ((rd_T32 l0_0 x12_1).f0.f0) ((rd_T32 l0_0 x12_1).f0.f1)).bind fun t343 => (if t343 ≥ 0 then (some false) else (impl_ValidTable.l0 k1 l0_0 (l0_0.length : Int) (wrap64 (x12_1 + 1)) l0_0))) else (none)) else (none)) = some r := by first | (rw [hji13] at H; exact H) | (simp only [hji13] at H ⊢; exact H)
        (try rw [hji13] at A10)
        have hji13w : (IntKind.i64.wrap (x12_1 - 1)) = ji13 := (i64_w _).trans hji13
        by_cases c14 : 0 ≤ (ji13)
        ·
         rw [if_pos c14] at H
         have c14b0 : decide (0 ≤ (ji13)) = true := decide_eq_true c14
         clear c14
         by_cases c15 : (ji13) < (l0_0.length : Int)
         ·
          rw [if_pos c15] at H
          have c15b0 : decide ((ji13) < (l0_0.length : Int)) = true := decide_eq_true c15
          clear c15
          replace H := Option.bind_eq_some_iff.mp H
          obtain ⟨t343, A160, H⟩ := H
          replace H : (if t343 ≥ 0 then (some false) else (impl_ValidTable.l0 k1 l0_0 (l0_0.length : Int) (wrap64 (x12_1 + 1)) l0_0)) = some r := H
          have A16 := Aside0.mk A160
          clear A160
          have HL17 := Aside0.mk H
          clear H
          have p339 : 0 ≤ (x12_1 : Int) := of_decide_eq_true (by first | (with_reducible assumption) | assumption)
          have q339 : x12_1 < (l0_0.length : Int) := of_decide_eq_true (by first | (with_reducible assumption) | assumption)
          obtain ⟨ad339, A339_4, c339_4, e339, hx339_0, hx339_1, hx339_2, hx339_3, hx339_4, hx339_5, hx339_6, hx339_7, hx339_8, hl339_4, hi339_4⟩ := at_T32 HR0_0.out x12_1 p339 q339
          cases e339
          replace hx339_0 := bcl HB hx339_0
          replace hx339_1 := bcl HB hx339_1
          replace hx339_2 := bcl HB hx339_2
          replace hx339_3 := bcl HB hx339_3
          replace hx339_4 := bcl HB hx339_4
          replace hx339_5 := bcl HB hx339_5
          replace hx339_6 := bcl HB hx339_6
          replace hx339_7 := bcl HB hx339_7
          replace hx339_8 := bcl HB hx339_8
          have HR339_4 := Aside0.mk hi339_4
          have HC339_4 := Aside0.mk hl339_4
          clear hi339_4 hl339_4
          replace p339 := eq_true p339
          replace q339 := eq_true q339
          try go_wp2_with (first | ((with_reducible refine gate_dst (N := 4) rfl ?_); refine box_event ?hg (N := 4) ?hd (cs := #[.int .i64 0, .string (⟨#[]⟩ : ByteArray), .bool false, .string (⟨#[]⟩ : ByteArray), .slice none 0 0, .int .i64 0, .int .i64 0, .int .i64 0, .int .i64 0]) (t := 32) ?hr ?_; (case hd => rfl); (case hg => rfl); (case hr => first | (go_simp; done) | (go_simp; rfl)); intro gb340 hg w18 hbox hb; have hb1_ := fromQ HB.out hb; have hb0_ := below_step hb1_ hb; have hW_ := below_step HB.out hb1_; have n2_ := Aside0.mk (hbox); have n3_ := szle hg hW_; have n4_ := szle hg hW_; have n5_ := nelt hg BK338 hb1_; have n6_ := negt hg BK338 hb1_; replace BK338 := kB BK338 hb0_; replace HB := kH HB hb0_; have BK340 := n2_; have GW340 := n3_; have GE340 := n4_; have NB338_340 := n5_; have NB340_338 := n6_; clear hb1_ hb0_ hW_ n2_ n3_ n4_ n5_ n6_; clear hb hbox hg; have hnb19 := NB340_338.out; have hnc19 := NB338_340.out; obtain ⟨hcz20_0, hcz20_1, hcz20_2, hcz20_3, hcz20_4, hcz20_5, hcz20_6, hcz20_7, hcz20_8, hfz20_0, hfz20_1, hfz20_2, hfz20_3, hfz20_4, hfz20_5, hfz20_6, hfz20_7, hfz20_8⟩ := bkA9 BK340.out))
          obtain ⟨w21, hS_⟩ : ∃ w_ : World, w_ = (((((((((w18.setCell ⟨gb340, 0, none⟩ (.int .i64 ((rd_T32 l0_0 x12_1).f0.f0))).setCell ⟨gb340, 1, none⟩ (.string ((rd_T32 l0_0 x12_1).f0.f1))).setCell ⟨gb340, 2, none⟩ (.bool ((rd_T32 l0_0 x12_1).f1))).setCell ⟨gb340, 3, none⟩ (.string ((rd_T32 l0_0 x12_1).f2))).setCell ⟨gb340, 4, none⟩ (.slice A339_4 ((rd_T32 l0_0 x12_1).f3).length c339_4)).setCell ⟨gb340, 5, none⟩ (.int .i64 ((rd_T32 l0_0 x12_1).f4))).setCell ⟨gb340, 6, none⟩ (.int .i64 ((rd_T32 l0_0 x12_1).f5))).setCell ⟨gb340, 7, none⟩ (.int .i64 ((rd_T32 l0_0 x12_1).f6))).setCell ⟨gb340, 8, none⟩ (.int .i64 ((rd_T32 l0_0 x12_1).f7))) := ⟨_, rfl⟩
          have n0_ : Aside0 (w21.heap[gb338]? = some (.cells #[.slice (some ad339) l0_0.length c0_0] 36 (0, 0))) := ⟨by rw [hS_]; exact blk_far9 BK338.out NB338_340.out⟩
          have n1_ : Aside0 (w21.heap[gb340]? = some (.cells #[.int .i64 ((rd_T32 l0_0 x12_1).f0.f0), .string ((rd_T32 l0_0 x12_1).f0.f1), .bool ((rd_T32 l0_0 x12_1).f1), .string ((rd_T32 l0_0 x12_1).f2), .slice A339_4 ((rd_T32 l0_0 x12_1).f3).length c339_4, .int .i64 ((rd_T32 l0_0 x12_1).f4), .int .i64 ((rd_T32 l0_0 x12_1).f5), .int .i64 ((rd_T32 l0_0 x12_1).f6), .int .i64 ((rd_T32 l0_0 x12_1).f7)] 32 (0, 0))) := ⟨by rw [hS_]; exact blk_stores9 BK340.out⟩
          have n2_ : Aside0 (Below w.heap.size w w21) := ⟨by rw [hS_]; repeat (first | (with_reducible first | exact HB.out | apply below_alloc | apply pw_below_drewN | apply below_drew1 | refine below_set ?_ GE338.out | refine below_set ?_ GE340.out) | exact HB.out)⟩
          (try clear BK338)
          (try clear BK340)
          (try clear HB)
          rw [← hS_]
          clear hS_
          have BK338 := n0_
          have BK340 := n1_
          have HB := n2_
          clear n0_ n1_ n2_
          have n0_ := Aside0.mk (blk_drew BK338.out)
          have n1_ := Aside0.mk (blk_drew BK340.out)
          have n2_ := Aside0.mk (below_drew1 HB.out)
          clear BK338
          clear BK340
          clear HB
          have BK338 := n0_
          have BK340 := n1_
          have HB := n2_
          clear n0_ n1_ n2_
          have p342 : 0 ≤ ((ji13) : Int) := of_decide_eq_true (by first | (with_reducible assumption) | assumption)
          have q342 : (ji13) < (l0_0.length : Int) := of_decide_eq_true (by first | (with_reducible assumption) | assumption)
          obtain ⟨ad342, A342_4, c342_4, e342, hx342_0, hx342_1, hx342_2, hx342_3, hx342_4, hx342_5, hx342_6, hx342_7, hx342_8, hl342_4, hi342_4⟩ := at_T32 HR0_0.out (ji13) p342 q342
          have hw342_8 := hx342_8
          have hw342_7 := hx342_7
          have hw342_6 := hx342_6
          have hw342_5 := hx342_5
          have hw342_4 := hx342_4
          have hw342_3 := hx342_3
          have hw342_2 := hx342_2
          have hw342_1 := hx342_1
          have hw342_0 := hx342_0
          obtain rfl : ad339 = ad342 := (by injection e342)
          replace hx342_0 := bcl HB hx342_0
          replace hx342_1 := bcl HB hx342_1
          replace hx342_2 := bcl HB hx342_2
          replace hx342_3 := bcl HB hx342_3
          replace hx342_4 := bcl HB hx342_4
          replace hx342_5 := bcl HB hx342_5
          replace hx342_6 := bcl HB hx342_6
          replace hx342_7 := bcl HB hx342_7
          replace hx342_8 := bcl HB hx342_8
          have HR342_4 := Aside0.mk hi342_4
          have HC342_4 := Aside0.mk hl342_4
          clear hi342_4 hl342_4
          replace p342 := eq_true p342
          replace q342 := eq_true q342
          refine start_ (n := 20) (S := fun w' => w'.cell? ⟨gb340, 0, none⟩ = some (.int .i64 ((rd_T32 l0_0 x12_1).f0.f0)) ∧ w'.cell? ⟨gb340, 1, none⟩ = some (.string ((rd_T32 l0_0 x12_1).f0.f1)) ∧ w'.cell? ⟨gb340, 2, none⟩ = some (.bool ((rd_T32 l0_0 x12_1).f1)) ∧ w'.cell? ⟨gb340, 3, none⟩ = some (.string ((rd_T32 l0_0 x12_1).f2)) ∧ w'.cell? ⟨gb340, 4, none⟩ = some (.slice A339_4 ((rd_T32 l0_0 x12_1).f3).length c339_4) ∧ w'.cell? ⟨gb340, 5, none⟩ = some (.int .i64 ((rd_T32 l0_0 x12_1).f4)) ∧ w'.cell? ⟨gb340, 6, none⟩ = some (.int .i64 ((rd_T32 l0_0 x12_1).f5)) ∧ w'.cell? ⟨gb340, 7, none⟩ = some (.int .i64 ((rd_T32 l0_0 x12_1).f6)) ∧ w'.cell? ⟨gb340, 8, none⟩ = some (.int .i64 ((rd_T32 l0_0 x12_1).f7)) ∧ w'.cell? ⟨gb338, 0, none⟩ = some (.slice (some ad339) l0_0.length c0_0) ∧ w'.cell? (ad339.add (((ji13)).toNat * 9)) = some (.int .i64 ((rd_T32 l0_0 (ji13)).f0.f0)) ∧ w'.cell? ⟨(ad339.add (((ji13)).toNat * 9)).block, (ad339.add (((ji13)).toNat * 9)).off + 1, none⟩ = some (.string ((rd_T32 l0_0 (ji13)).f0.f1)) ∧ w'.cell? ⟨(ad339.add (((ji13)).toNat * 9)).block, (ad339.add (((ji13)).toNat * 9)).off + 2, none⟩ = some (.bool ((rd_T32 l0_0 (ji13)).f1)) ∧ w'.cell? ⟨(ad339.add (((ji13)).toNat * 9)).block, (ad339.add (((ji13)).toNat * 9)).off + 3, none⟩ = some (.string ((rd_T32 l0_0 (ji13)).f2)) ∧ w'.cell? ⟨(ad339.add (((ji13)).toNat * 9)).block, (ad339.add (((ji13)).toNat * 9)).off + 4, none⟩ = some (.slice A342_4 ((rd_T32 l0_0 (ji13)).f3).length c342_4) ∧ w'.cell? ⟨(ad339.add (((ji13)).toNat * 9)).block, (ad339.add (((ji13)).toNat * 9)).off + 5, none⟩ = some (.int .i64 ((rd_T32 l0_0 (ji13)).f4)) ∧ w'.cell? ⟨(ad339.add (((ji13)).toNat * 9)).block, (ad339.add (((ji13)).toNat * 9)).off + 6, none⟩ = some (.int .i64 ((rd_T32 l0_0 (ji13)).f5)) ∧ w'.cell? ⟨(ad339.add (((ji13)).toNat * 9)).block, (ad339.add (((ji13)).toNat * 9)).off + 7, none⟩ = some (.int .i64 ((rd_T32 l0_0 (ji13)).f6)) ∧ w'.cell? ⟨(ad339.add (((ji13)).toNat * 9)).block, (ad339.add (((ji13)).toNat * 9)).off + 8, none⟩ = some (.int .i64 ((rd_T32 l0_0 (ji13)).f7))) (ds := []) #[false, false, false, false, false, false, false, false, false, false, false, false, false, false, false, false, false, false, false, false] (by kernel_rfl) rfl rfl ⟨(blk_cell BK340.out 0).trans rfl, (blk_cell BK340.out 1).trans rfl, (blk_cell BK340.out 2).trans rfl, (blk_cell BK340.out 3).trans rfl, (blk_cell BK340.out 4).trans rfl, (blk_cell BK340.out 5).trans rfl, (blk_cell BK340.out 6).trans rfl, (blk_cell BK340.out 7).trans rfl, (blk_cell BK340.out 8).trans rfl, (blk_cell BK338.out 0).trans rfl, ((HB.out.cell (World.block_lt_of_cell? w _ hw342_0)).trans hw342_0), ((HB.out.cell (World.block_lt_of_cell? w _ hw342_1)).trans hw342_1), ((HB.out.cell (World.block_lt_of_cell? w _ hw342_2)).trans hw342_2), ((HB.out.cell (World.block_lt_of_cell? w _ hw342_3)).trans hw342_3), ((HB.out.cell (World.block_lt_of_cell? w _ hw342_4)).trans hw342_4), ((HB.out.cell (World.block_lt_of_cell? w _ hw342_5)).trans hw342_5), ((HB.out.cell (World.block_lt_of_cell? w _ hw342_6)).trans hw342_6), ((HB.out.cell (World.block_lt_of_cell? w _ hw342_7)).trans hw342_7), ((HB.out.cell (World.block_lt_of_cell? w _ hw342_8)).trans hw342_8)⟩ (fun hHeld => ?_); refine with_tabW impl_ValidTable.tab6 impl_ValidTable.bits6 (fun HT_ HW_ => ?_)
          generalize w21.drew = w22 at BK338 BK340 HB HR342_4 hx342_0 hx342_1 hx342_2 hx342_3 hx342_4 hx342_5 hx342_6 hx342_7 hx342_8 hHeld ⊢
          refine takeY (i := 0) (N := some 17) (v := ?_) (a' := ?_) #[true, false, false, false, false, false, false, false, false, false, false, false, false, false, false, false, false, false, false, false] rfl rfl (take_ofW HT_.out HW_.out (by kernel_rfl)) ⟨by rfl, ?_⟩ hHeld ?_ ?_
          rotate_left
          · rintro w' ⟨s0, s1, s2, s3, s4, s5, s6, s7, s8, s9, s10, s11, s12, s13, s14, s15, s16, s17, s18⟩
            go_simp
            with_reducible rfl
          rotate_left
          · simp only [Act.put, sA_, i64_w, i32_w]
            rfl
          refine one_ (i := 1) (N := some 18) #[true, true, false, false, false, false, false, false, false, false, false, false, false, false, false, false, false, false, false, false] rfl rfl (one_of HT_.out (by kernel_rfl)) (by decide) (fun K hK => ?_)
          refine goes_ Tryd.func96 (by kernel_rfl) rfl #[.agg #[.int .i64 ((rd_T32 l0_0 x12_1).f0.f0), .string ((rd_T32 l0_0 x12_1).f0.f1), .bool ((rd_T32 l0_0 x12_1).f1), .string ((rd_T32 l0_0 x12_1).f2), .slice A339_4 ((rd_T32 l0_0 x12_1).f3).length c339_4, .int .i64 ((rd_T32 l0_0 x12_1).f4), .int .i64 ((rd_T32 l0_0 x12_1).f5), .int .i64 ((rd_T32 l0_0 x12_1).f6), .int .i64 ((rd_T32 l0_0 x12_1).f7)]] (by rfl) rfl rfl (by (try simp only [List.map_toArray, List.map_cons, List.map_nil]); first | done | rfl | (simp only [List.length_drop, List.length_take]; rfl)) ?_
          with_reducible refine (impl_Slot_valid.calls k1 ((rd_T32 l0_0 x12_1).f0.f0) ((rd_T32 l0_0 x12_1).f0.f1) ((rd_T32 l0_0 x12_1).f1) ((rd_T32 l0_0 x12_1).f2) _ _ ((rd_T32 l0_0 x12_1).f3) ((rd_T32 l0_0 x12_1).f4) ((rd_T32 l0_0 x12_1).f5) ((rd_T32 l0_0 x12_1).f6) ((rd_T32 l0_0 x12_1).f7) true _ ?side1 ?side2 ?side3 A10.out).mono ?_
          (case side1 => (first | (with_reducible exact HG.out) | exact GRes.below HG.out (by repeat (first | (with_reducible first | exact HB.out | apply below_alloc | apply pw_below_drewN | apply below_drew1 | refine below_set ?_ GE338.out | refine below_set ?_ GE340.out) | exact HB.out)) | (repeat (first | exact HG.out | apply GRes.drewN | apply GRes.drew | apply GRes.alloc))))
          (case side2 => repeat (first | exact (Kd.C_below HR339_4.out HB.out) | (with_reducible refine Kd.C_alloc ?_ _) | (with_reducible refine Kd.C_drewN ?_ _) | (with_reducible refine Kd.C_drew ?_)))
          (case side3 => exact HC339_4.out)
          rintro e w23 ⟨rfl, hb⟩
          refine ⟨_, rfl, ?_⟩
          have hb1_ := fromQ HB.out hb
          have hb0_ := below_step hb1_ hb
          replace BK338 := kB BK338 hb0_
          replace BK340 := kB BK340 hb0_
          replace HB := kH HB hb0_
          clear hb1_ hb0_
          (try clear hb)
          (try clear hb2)
          (try clear hk)
          (try clear hi)
          refine hK.out _ _ ⟨(blk_cell BK340.out 0).trans rfl, (blk_cell BK340.out 1).trans rfl, (blk_cell BK340.out 2).trans rfl, (blk_cell BK340.out 3).trans rfl, (blk_cell BK340.out 4).trans rfl, (blk_cell BK340.out 5).trans rfl, (blk_cell BK340.out 6).trans rfl, (blk_cell BK340.out 7).trans rfl, (blk_cell BK340.out 8).trans rfl, (blk_cell BK338.out 0).trans rfl, ((HB.out.cell (World.block_lt_of_cell? w _ hw342_0)).trans hw342_0), ((HB.out.cell (World.block_lt_of_cell? w _ hw342_1)).trans hw342_1), ((HB.out.cell (World.block_lt_of_cell? w _ hw342_2)).trans hw342_2), ((HB.out.cell (World.block_lt_of_cell? w _ hw342_3)).trans hw342_3), ((HB.out.cell (World.block_lt_of_cell? w _ hw342_4)).trans hw342_4), ((HB.out.cell (World.block_lt_of_cell? w _ hw342_5)).trans hw342_5), ((HB.out.cell (World.block_lt_of_cell? w _ hw342_6)).trans hw342_6), ((HB.out.cell (World.block_lt_of_cell? w _ hw342_7)).trans hw342_7), ((HB.out.cell (World.block_lt_of_cell? w _ hw342_8)).trans hw342_8)⟩ (fun hHeld => ?_)
          clear hK K
          refine norm_ (a' := ?_) ?_ ?_
          rotate_left
          · show Act.put _ (some 18) _ = _
            simp only [Act.put, sA_, i64_w, i32_w]
            rfl
          refine pureY (i := 2) (N := some 19) (v := ?_) (a' := ?_) #[true, true, true, false, false, false, false, false, false, false, false, false, false, false, false, false, false, false, false, false] rfl rfl (any_of HT_.out (by kernel_rfl)) ⟨by rfl, ?_⟩ ?_ ?_
          rotate_left
          · intro w'
            go_simp
            with_reducible rfl
          rotate_left
          · simp only [Act.put, sA_, i64_w, i32_w]
            rfl
          refine pureY (i := 3) (N := some 20) (v := ?_) (a' := ?_) #[true, true, true, true, false, false, false, false, false, false, false, false, false, false, false, false, false, false, false, false] rfl rfl (any_of HT_.out (by kernel_rfl)) ⟨by rfl, ?_⟩ ?_ ?_
          rotate_left
          · intro w'
            go_simp
            with_reducible rfl
          rotate_left
          · simp only [Act.put, sA_, i64_w, i32_w]
            rfl
          refine pureY (i := 4) (N := some 21) (v := ?_) (a' := ?_) #[true, true, true, true, true, false, false, false, false, false, false, false, false, false, false, false, false, false, false, false] rfl rfl (any_of HT_.out (by kernel_rfl)) ⟨by rfl, ?_⟩ ?_ ?_
          rotate_left
          · intro w'
            go_simp
            with_reducible rfl
          rotate_left
          · simp only [Act.put, sA_, i64_w, i32_w]
            rfl
          refine pureY (i := 5) (N := some 22) (v := ?_) (a' := ?_) #[true, true, true, true, true, true, false, false, false, false, false, false, false, false, false, false, false, false, false, false] rfl rfl (any_of HT_.out (by kernel_rfl)) ⟨by rfl, ?_⟩ ?_ ?_
          rotate_left
          · intro w'
            go_simp
            with_reducible rfl
          rotate_left
          · simp only [Act.put, sA_, i64_w, i32_w]
            rfl
          refine pureY (i := 6) (N := some 23) (v := ?_) (a' := ?_) #[true, true, true, true, true, true, true, false, false, false, false, false, false, false, false, false, false, false, false, false] rfl rfl (any_of HT_.out (by kernel_rfl)) ⟨by rfl, ?_⟩ ?_ ?_
          rotate_left
          · intro w'
            go_simp
            with_reducible rfl
          rotate_left
          · simp only [Act.put, sA_, i64_w, i32_w]
            rfl
          refine pureY (i := 7) (N := some 24) (v := ?_) (a' := ?_) #[true, true, true, true, true, true, true, true, false, false, false, false, false, false, false, false, false, false, false, false] rfl rfl (any_of HT_.out (by kernel_rfl)) ⟨by rfl, ?_⟩ ?_ ?_
          rotate_left
          · intro w'
            go_simp
            with_reducible rfl
          rotate_left
          · simp only [Act.put, sA_, i64_w, i32_w]
            rfl
          refine pureY (i := 9) (N := some 26) (v := ?_) (a' := ?_) #[true, true, true, true, true, true, true, true, false, true, false, false, false, false, false, false, false, false, false, false] rfl rfl (any_of HT_.out (by kernel_rfl)) ⟨by rfl, ?_⟩ ?_ ?_
          rotate_left
          · intro w'
            go_simp
            with_reducible rfl
          rotate_left
          · simp only [Act.put, sA_, i64_w, i32_w]
            rfl
          refine pureY (i := 10) (N := some 27) (v := ?_) (a' := ?_) #[true, true, true, true, true, true, true, true, false, true, true, false, false, false, false, false, false, false, false, false] rfl rfl (any_of HT_.out (by kernel_rfl)) ⟨by rfl, ?_⟩ ?_ ?_
          rotate_left
          · intro w'
            go_simp
            with_reducible rfl
          rotate_left
          · simp only [Act.put, sA_, i64_w, i32_w]
            rfl
          refine pureY (i := 14) (N := some 31) (v := ?_) (a' := ?_) #[true, true, true, true, true, true, true, true, false, true, true, false, false, false, true, false, false, false, false, false] rfl rfl (any_of HT_.out (by kernel_rfl)) ⟨by rfl, ?_⟩ ?_ ?_
          rotate_left
          · intro w'
            go_simp
            with_reducible rfl
          rotate_left
          · simp only [Act.put, sA_, i64_w, i32_w]
            rfl
          refine takeY (i := 8) (N := some 25) (v := ?_) (a' := ?_) #[true, true, true, true, true, true, true, true, true, true, true, false, false, false, true, false, false, false, false, false] rfl rfl (take_ofW HT_.out HW_.out (by kernel_rfl)) ⟨by rfl, ?_⟩ hHeld ?_ ?_
          rotate_left
          · rintro w' ⟨s0, s1, s2, s3, s4, s5, s6, s7, s8, s9, s10, s11, s12, s13, s14, s15, s16, s17, s18⟩
            go_simp
            with_reducible rfl
          rotate_left
          · simp only [Act.put, sA_, i64_w, i32_w]
            rfl
          refine pureY (i := 11) (N := some 28) (v := ?_) (a' := ?_) #[true, true, true, true, true, true, true, true, true, true, true, true, false, false, true, false, false, false, false, false] rfl rfl (any_of HT_.out (by kernel_rfl)) ⟨by rfl, ?_⟩ ?_ ?_
          rotate_left
          · intro w'
            go_simp
            with_reducible rfl
          rotate_left
          · simp only [Act.put, sA_, i64_w, i32_w]
            rfl
          refine pureY (i := 12) (N := some 29) (v := ?_) (a' := ?_) #[true, true, true, true, true, true, true, true, true, true, true, true, true, false, true, false, false, false, false, false] rfl rfl (any_of HT_.out (by kernel_rfl)) ⟨by rfl, ?_⟩ ?_ ?_
          rotate_left
          · intro w'
            go_simp
            with_reducible rfl
          rotate_left
          · simp only [Act.put, sA_, i64_w, i32_w]
            rfl
          refine takeY (i := 13) (N := some 30) (v := ?_) (a' := ?_) #[true, true, true, true, true, true, true, true, true, true, true, true, true, true, true, false, false, false, false, false] rfl rfl (take_ofW HT_.out HW_.out (by kernel_rfl)) ⟨by rfl, ?_⟩ hHeld ?_ ?_
          rotate_left
          · rintro w' ⟨s0, s1, s2, s3, s4, s5, s6, s7, s8, s9, s10, s11, s12, s13, s14, s15, s16, s17, s18⟩
            go_simp
            with_reducible rfl
          rotate_left
          · simp only [Act.put, sA_, i64_w, i32_w]
            rfl
          refine takeY (i := 15) (N := some 32) (v := ?_) (a' := ?_) #[true, true, true, true, true, true, true, true, true, true, true, true, true, true, true, true, false, false, false, false] rfl rfl (take_ofW HT_.out HW_.out (by kernel_rfl)) ⟨by rfl, ?_⟩ hHeld ?_ ?_
          rotate_left
          · rintro w' ⟨s0, s1, s2, s3, s4, s5, s6, s7, s8, s9, s10, s11, s12, s13, s14, s15, s16, s17, s18⟩
            go_simp
            with_reducible rfl
          rotate_left
          · simp only [Act.put, sA_, i64_w, i32_w]
            rfl
          refine one_ (i := 16) (N := some 33) #[true, true, true, true, true, true, true, true, true, true, true, true, true, true, true, true, true, false, false, false] rfl rfl (one_of HT_.out (by kernel_rfl)) (by decide) (fun K hK => ?_)
          refine goes_ Tryd.func97 (by kernel_rfl) rfl #[.agg #[.int .i64 ((rd_T32 l0_0 (ji13)).f0.f0), .string ((rd_T32 l0_0 (ji13)).f0.f1)], .agg #[.int .i64 ((rd_T32 l0_0 x12_1).f0.f0), .string ((rd_T32 l0_0 x12_1).f0.f1)]] (by rfl) rfl rfl (by (try simp only [List.map_toArray, List.map_cons, List.map_nil]); first | done | (simp only [hji13]; rfl) | rfl | (simp only [List.length_drop, List.length_take]; rfl)) ?_
          with_reducible refine (impl_compareKeys.calls k1 ((rd_T32 l0_0 (ji13)).f0.f0) ((rd_T32 l0_0 (ji13)).f0.f1) ((rd_T32 l0_0 x12_1).f0.f0) ((rd_T32 l0_0 x12_1).f0.f1) t343 _ A16.out).mono ?_
          rintro e w24 ⟨rfl, hb⟩
          refine ⟨_, rfl, ?_⟩
          have hb1_ := fromQ HB.out hb
          have hb0_ := below_step hb1_ hb
          replace BK338 := kB BK338 hb0_
          replace BK340 := kB BK340 hb0_
          replace HB := kH HB hb0_
          clear hb1_ hb0_
          (try clear hb)
          (try clear hb2)
          (try clear hk)
          (try clear hi)
          refine hK.out _ _ ⟨(blk_cell BK340.out 0).trans rfl, (blk_cell BK340.out 1).trans rfl, (blk_cell BK340.out 2).trans rfl, (blk_cell BK340.out 3).trans rfl, (blk_cell BK340.out 4).trans rfl, (blk_cell BK340.out 5).trans rfl, (blk_cell BK340.out 6).trans rfl, (blk_cell BK340.out 7).trans rfl, (blk_cell BK340.out 8).trans rfl, (blk_cell BK338.out 0).trans rfl, ((HB.out.cell (World.block_lt_of_cell? w _ hw342_0)).trans hw342_0), ((HB.out.cell (World.block_lt_of_cell? w _ hw342_1)).trans hw342_1), ((HB.out.cell (World.block_lt_of_cell? w _ hw342_2)).trans hw342_2), ((HB.out.cell (World.block_lt_of_cell? w _ hw342_3)).trans hw342_3), ((HB.out.cell (World.block_lt_of_cell? w _ hw342_4)).trans hw342_4), ((HB.out.cell (World.block_lt_of_cell? w _ hw342_5)).trans hw342_5), ((HB.out.cell (World.block_lt_of_cell? w _ hw342_6)).trans hw342_6), ((HB.out.cell (World.block_lt_of_cell? w _ hw342_7)).trans hw342_7), ((HB.out.cell (World.block_lt_of_cell? w _ hw342_8)).trans hw342_8)⟩ (fun hHeld => ?_)
          clear hK K
          refine norm_ (a' := ?_) ?_ ?_
          rotate_left
          · show Act.put _ (some 33) _ = _
            simp only [Act.put, sA_, i64_w, i32_w]
            rfl
          refine pureY (i := 17) (N := some 34) (v := ?_) (a' := ?_) #[true, true, true, true, true, true, true, true, true, true, true, true, true, true, true, true, true, true, false, false] rfl rfl (any_of HT_.out (by kernel_rfl)) ⟨by rfl, ?_⟩ ?_ ?_
          rotate_left
          · intro w'
            go_simp
            with_reducible rfl
          rotate_left
          · simp only [Act.put, sA_, i64_w, i32_w]
            rfl
          refine pureY (i := 18) (N := some 35) (v := ?_) (a' := ?_) #[true, true, true, true, true, true, true, true, true, true, true, true, true, true, true, true, true, true, true, false] rfl rfl (any_of HT_.out (by kernel_rfl)) ⟨by rfl, ?_⟩ ?_ ?_
          rotate_left
          · intro w'
            go_simp
            with_reducible rfl
          rotate_left
          · simp only [Act.put, sA_, i64_w, i32_w]
            rfl
          refine pureY (i := 19) (N := some 36) (v := ?_) (a' := ?_) #[true, true, true, true, true, true, true, true, true, true, true, true, true, true, true, true, true, true, true, true] rfl rfl (any_of HT_.out (by kernel_rfl)) ⟨by rfl, ?_⟩ ?_ ?_
          rotate_left
          · intro w'
            go_simp
            with_reducible rfl
          rotate_left
          · simp only [Act.put, sA_, i64_w, i32_w]
            rfl
          refine done_ (done_of HT_.out (by kernel_rfl)) ?_
          go_upto_if 36 with (fail)
          have H := HL17.out
          clear HL17
          by_cases c25 : t343 ≥ 0
          · rw [if_pos c25] at H
            have c25b0 : decide (0 ≤ t343) = true := decide_eq_true c25
            clear c25
            (first | rw [c25b0] | (simp only [i64_w, i32_w]; rw [c25b0]) | simp only [c25b2, Bool.not_false, Bool.not_true] | skip)
            obtain rfl := Option.some.inj H
            go_wp2
            go_ret
            exact ⟨by first | rfl | (simp [errW_none, errW_some] <;> rfl) | (simp only [← hji13]; first | rfl | (simp [errW_none, errW_some] <;> rfl)) | (simp [*, errW_none, errW_some] <;> rfl), by repeat (first | (with_reducible first | exact HB.out | apply below_alloc | apply pw_below_drewN | apply below_drew1 | refine below_set ?_ GE338.out | refine below_set ?_ GE340.out) | exact HB.out)⟩
          rw [if_neg c25] at H
          have c25b0 : decide (0 ≤ t343) = false := decide_eq_false c25
          clear c25
          (first | rw [c25b0] | (simp only [i64_w, i32_w]; rw [c25b0]) | simp only [c25b2, Bool.not_false, Bool.not_true] | skip)
          have H' := Aside0.mk H
          clear H
          go_wp2
          go_roundg k1
          case measure => have := HK1.out; omega
          case rel => exact ⟨(wrap64 (x12_1 + 1)), (by first | rfl | (simp; done) | (simp [*]; done)), H', ⟨by have := HK1.out; omega⟩, ⟨by (with_reducible repeat (first | refine blk_drewN ?_ _ | refine blk_drew ?_ | refine blk_alloc ?_ _)); exact BK338.out⟩, ⟨by repeat (first | (with_reducible first | exact HB.out | apply below_alloc | apply pw_below_drewN | apply below_drew1 | refine below_set ?_ GE338.out | refine below_set ?_ GE340.out) | exact HB.out)⟩⟩
         rw [if_neg c15] at H
         exact absurd H (by simp)
        rw [if_neg c14] at H
        exact absurd H (by simp)
       rw [if_neg c12] at H
       have c12b0 : decide (0 < x12_1) = false := decide_eq_false c12
       clear c12
       have H' := Aside0.mk H
       clear H
       have p339 : 0 ≤ (x12_1 : Int) := of_decide_eq_true (by first | (with_reducible assumption) | assumption)
       have q339 : x12_1 < (l0_0.length : Int) := of_decide_eq_true (by first | (with_reducible assumption) | assumption)
       obtain ⟨ad339, A339_4, c339_4, e339, hx339_0, hx339_1, hx339_2, hx339_3, hx339_4, hx339_5, hx339_6, hx339_7, hx339_8, hl339_4, hi339_4⟩ := at_T32 HR0_0.out x12_1 p339 q339
       cases e339
       replace hx339_0 := bcl HB hx339_0
       replace hx339_1 := bcl HB hx339_1
       replace hx339_2 := bcl HB hx339_2
       replace hx339_3 := bcl HB hx339_3
       replace hx339_4 := bcl HB hx339_4
       replace hx339_5 := bcl HB hx339_5
       replace hx339_6 := bcl HB hx339_6
       replace hx339_7 := bcl HB hx339_7
       replace hx339_8 := bcl HB hx339_8
       have HR339_4 := Aside0.mk hi339_4
       have HC339_4 := Aside0.mk hl339_4
       clear hi339_4 hl339_4
       replace p339 := eq_true p339
       replace q339 := eq_true q339
       try go_wp2_with (first | ((with_reducible refine gate_dst (N := 4) rfl ?_); refine box_event ?hg (N := 4) ?hd (cs := #[.int .i64 0, .string (⟨#[]⟩ : ByteArray), .bool false, .string (⟨#[]⟩ : ByteArray), .slice none 0 0, .int .i64 0, .int .i64 0, .int .i64 0, .int .i64 0]) (t := 32) ?hr ?_; (case hd => rfl); (case hg => rfl); (case hr => first | (go_simp; done) | (go_simp; rfl)); intro gb340 hg w26 hbox hb; have hb1_ := fromQ HB.out hb; have hb0_ := below_step hb1_ hb; have hW_ := below_step HB.out hb1_; have n2_ := Aside0.mk (hbox); have n3_ := szle hg hW_; have n4_ := szle hg hW_; have n5_ := nelt hg BK338 hb1_; have n6_ := negt hg BK338 hb1_; replace BK338 := kB BK338 hb0_; replace HB := kH HB hb0_; have BK340 := n2_; have GW340 := n3_; have GE340 := n4_; have NB338_340 := n5_; have NB340_338 := n6_; clear hb1_ hb0_ hW_ n2_ n3_ n4_ n5_ n6_; clear hb hbox hg; have hnb27 := NB340_338.out; have hnc27 := NB338_340.out; obtain ⟨hcz28_0, hcz28_1, hcz28_2, hcz28_3, hcz28_4, hcz28_5, hcz28_6, hcz28_7, hcz28_8, hfz28_0, hfz28_1, hfz28_2, hfz28_3, hfz28_4, hfz28_5, hfz28_6, hfz28_7, hfz28_8⟩ := bkA9 BK340.out))
       obtain ⟨w29, hS_⟩ : ∃ w_ : World, w_ = (((((((((w26.setCell ⟨gb340, 0, none⟩ (.int .i64 ((rd_T32 l0_0 x12_1).f0.f0))).setCell ⟨gb340, 1, none⟩ (.string ((rd_T32 l0_0 x12_1).f0.f1))).setCell ⟨gb340, 2, none⟩ (.bool ((rd_T32 l0_0 x12_1).f1))).setCell ⟨gb340, 3, none⟩ (.string ((rd_T32 l0_0 x12_1).f2))).setCell ⟨gb340, 4, none⟩ (.slice A339_4 ((rd_T32 l0_0 x12_1).f3).length c339_4)).setCell ⟨gb340, 5, none⟩ (.int .i64 ((rd_T32 l0_0 x12_1).f4))).setCell ⟨gb340, 6, none⟩ (.int .i64 ((rd_T32 l0_0 x12_1).f5))).setCell ⟨gb340, 7, none⟩ (.int .i64 ((rd_T32 l0_0 x12_1).f6))).setCell ⟨gb340, 8, none⟩ (.int .i64 ((rd_T32 l0_0 x12_1).f7))) := ⟨_, rfl⟩
       have n0_ : Aside0 (w29.heap[gb338]? = some (.cells #[.slice (some ad339) l0_0.length c0_0] 36 (0, 0))) := ⟨by rw [hS_]; exact blk_far9 BK338.out NB338_340.out⟩
       have n1_ : Aside0 (w29.heap[gb340]? = some (.cells #[.int .i64 ((rd_T32 l0_0 x12_1).f0.f0), .string ((rd_T32 l0_0 x12_1).f0.f1), .bool ((rd_T32 l0_0 x12_1).f1), .string ((rd_T32 l0_0 x12_1).f2), .slice A339_4 ((rd_T32 l0_0 x12_1).f3).length c339_4, .int .i64 ((rd_T32 l0_0 x12_1).f4), .int .i64 ((rd_T32 l0_0 x12_1).f5), .int .i64 ((rd_T32 l0_0 x12_1).f6), .int .i64 ((rd_T32 l0_0 x12_1).f7)] 32 (0, 0))) := ⟨by rw [hS_]; exact blk_stores9 BK340.out⟩
       have n2_ : Aside0 (Below w.heap.size w w29) := ⟨by rw [hS_]; repeat (first | (with_reducible first | exact HB.out | apply below_alloc | apply pw_below_drewN | apply below_drew1 | refine below_set ?_ GE338.out | refine below_set ?_ GE340.out) | exact HB.out)⟩
       (try clear BK338)
       (try clear BK340)
       (try clear HB)
       rw [← hS_]
       clear hS_
       have BK338 := n0_
       have BK340 := n1_
       have HB := n2_
       clear n0_ n1_ n2_
       have n0_ := Aside0.mk (blk_drew BK338.out)
       have n1_ := Aside0.mk (blk_drew BK340.out)
       have n2_ := Aside0.mk (below_drew1 HB.out)
       clear BK338
       clear BK340
       clear HB
       have BK338 := n0_
       have BK340 := n1_
       have HB := n2_
       clear n0_ n1_ n2_
       refine start_ (n := 20) (S := fun w' => w'.cell? ⟨gb340, 0, none⟩ = some (.int .i64 ((rd_T32 l0_0 x12_1).f0.f0)) ∧ w'.cell? ⟨gb340, 1, none⟩ = some (.string ((rd_T32 l0_0 x12_1).f0.f1)) ∧ w'.cell? ⟨gb340, 2, none⟩ = some (.bool ((rd_T32 l0_0 x12_1).f1)) ∧ w'.cell? ⟨gb340, 3, none⟩ = some (.string ((rd_T32 l0_0 x12_1).f2)) ∧ w'.cell? ⟨gb340, 4, none⟩ = some (.slice A339_4 ((rd_T32 l0_0 x12_1).f3).length c339_4) ∧ w'.cell? ⟨gb340, 5, none⟩ = some (.int .i64 ((rd_T32 l0_0 x12_1).f4)) ∧ w'.cell? ⟨gb340, 6, none⟩ = some (.int .i64 ((rd_T32 l0_0 x12_1).f5)) ∧ w'.cell? ⟨gb340, 7, none⟩ = some (.int .i64 ((rd_T32 l0_0 x12_1).f6)) ∧ w'.cell? ⟨gb340, 8, none⟩ = some (.int .i64 ((rd_T32 l0_0 x12_1).f7))) (ds := []) #[false, false, false, false, false, false, false, false, false, false, false, false, false, false, false, false, false, false, false, false] (by kernel_rfl) rfl rfl ⟨(blk_cell BK340.out 0).trans rfl, (blk_cell BK340.out 1).trans rfl, (blk_cell BK340.out 2).trans rfl, (blk_cell BK340.out 3).trans rfl, (blk_cell BK340.out 4).trans rfl, (blk_cell BK340.out 5).trans rfl, (blk_cell BK340.out 6).trans rfl, (blk_cell BK340.out 7).trans rfl, (blk_cell BK340.out 8).trans rfl⟩ (fun hHeld => ?_); refine with_tabW impl_ValidTable.tab6 impl_ValidTable.bits6 (fun HT_ HW_ => ?_)
       generalize w29.drew = w30 at BK338 BK340 HB hHeld ⊢
       refine takeY (i := 0) (N := some 17) (v := ?_) (a' := ?_) #[true, false, false, false, false, false, false, false, false, false, false, false, false, false, false, false, false, false, false, false] rfl rfl (take_ofW HT_.out HW_.out (by kernel_rfl)) ⟨by rfl, ?_⟩ hHeld ?_ ?_
       rotate_left
       · rintro w' ⟨s0, s1, s2, s3, s4, s5, s6, s7, s8⟩
         go_simp
         with_reducible rfl
       rotate_left
       · simp only [Act.put, sA_, i64_w, i32_w]
         rfl
       refine one_ (i := 1) (N := some 18) #[true, true, false, false, false, false, false, false, false, false, false, false, false, false, false, false, false, false, false, false] rfl rfl (one_of HT_.out (by kernel_rfl)) (by decide) (fun K hK => ?_)
       refine goes_ Tryd.func96 (by kernel_rfl) rfl #[.agg #[.int .i64 ((rd_T32 l0_0 x12_1).f0.f0), .string ((rd_T32 l0_0 x12_1).f0.f1), .bool ((rd_T32 l0_0 x12_1).f1), .string ((rd_T32 l0_0 x12_1).f2), .slice A339_4 ((rd_T32 l0_0 x12_1).f3).length c339_4, .int .i64 ((rd_T32 l0_0 x12_1).f4), .int .i64 ((rd_T32 l0_0 x12_1).f5), .int .i64 ((rd_T32 l0_0 x12_1).f6), .int .i64 ((rd_T32 l0_0 x12_1).f7)]] (by rfl) rfl rfl (by (try simp only [List.map_toArray, List.map_cons, List.map_nil]); first | done | rfl | (simp only [List.length_drop, List.length_take]; rfl)) ?_
       with_reducible refine (impl_Slot_valid.calls k1 ((rd_T32 l0_0 x12_1).f0.f0) ((rd_T32 l0_0 x12_1).f0.f1) ((rd_T32 l0_0 x12_1).f1) ((rd_T32 l0_0 x12_1).f2) _ _ ((rd_T32 l0_0 x12_1).f3) ((rd_T32 l0_0 x12_1).f4) ((rd_T32 l0_0 x12_1).f5) ((rd_T32 l0_0 x12_1).f6) ((rd_T32 l0_0 x12_1).f7) true _ ?side1 ?side2 ?side3 A10.out).mono ?_
       (case side1 => (first | (with_reducible exact HG.out) | exact GRes.below HG.out (by repeat (first | (with_reducible first | exact HB.out | apply below_alloc | apply pw_below_drewN | apply below_drew1 | refine below_set ?_ GE338.out | refine below_set ?_ GE340.out) | exact HB.out)) | (repeat (first | exact HG.out | apply GRes.drewN | apply GRes.drew | apply GRes.alloc))))
       (case side2 => repeat (first | exact (Kd.C_below HR339_4.out HB.out) | (with_reducible refine Kd.C_alloc ?_ _) | (with_reducible refine Kd.C_drewN ?_ _) | (with_reducible refine Kd.C_drew ?_)))
       (case side3 => exact HC339_4.out)
       rintro e w31 ⟨rfl, hb⟩
       refine ⟨_, rfl, ?_⟩
       have hb1_ := fromQ HB.out hb
       have hb0_ := below_step hb1_ hb
       replace BK338 := kB BK338 hb0_
       replace BK340 := kB BK340 hb0_
       replace HB := kH HB hb0_
       clear hb1_ hb0_
       (try clear hb)
       (try clear hb2)
       (try clear hk)
       (try clear hi)
       refine hK.out _ _ ⟨(blk_cell BK340.out 0).trans rfl, (blk_cell BK340.out 1).trans rfl, (blk_cell BK340.out 2).trans rfl, (blk_cell BK340.out 3).trans rfl, (blk_cell BK340.out 4).trans rfl, (blk_cell BK340.out 5).trans rfl, (blk_cell BK340.out 6).trans rfl, (blk_cell BK340.out 7).trans rfl, (blk_cell BK340.out 8).trans rfl⟩ (fun hHeld => ?_)
       clear hK K
       refine norm_ (a' := ?_) ?_ ?_
       rotate_left
       · show Act.put _ (some 18) _ = _
         simp only [Act.put, sA_, i64_w, i32_w]
         rfl
       refine pureY (i := 2) (N := some 19) (v := ?_) (a' := ?_) #[true, true, true, false, false, false, false, false, false, false, false, false, false, false, false, false, false, false, false, false] rfl rfl (any_of HT_.out (by kernel_rfl)) ⟨by rfl, ?_⟩ ?_ ?_
       rotate_left
       · intro w'
         go_simp
         with_reducible rfl
       rotate_left
       · simp only [Act.put, sA_, i64_w, i32_w]
         rfl
       refine pureY (i := 3) (N := some 20) (v := ?_) (a' := ?_) #[true, true, true, true, false, false, false, false, false, false, false, false, false, false, false, false, false, false, false, false] rfl rfl (any_of HT_.out (by kernel_rfl)) ⟨by rfl, ?_⟩ ?_ ?_
       rotate_left
       · intro w'
         go_simp
         with_reducible rfl
       rotate_left
       · simp only [Act.put, sA_, i64_w, i32_w]
         rfl
       refine pureY (i := 4) (N := some 21) (v := ?_) (a' := ?_) #[true, true, true, true, true, false, false, false, false, false, false, false, false, false, false, false, false, false, false, false] rfl rfl (any_of HT_.out (by kernel_rfl)) ⟨by rfl, ?_⟩ ?_ ?_
       rotate_left
       · intro w'
         go_simp
         with_reducible rfl
       rotate_left
       · simp only [Act.put, sA_, i64_w, i32_w]
         rfl
       refine pureY (i := 5) (N := some 22) (v := ?_) (a' := ?_) #[true, true, true, true, true, true, false, false, false, false, false, false, false, false, false, false, false, false, false, false] rfl rfl (any_of HT_.out (by kernel_rfl)) ⟨by rfl, ?_⟩ ?_ ?_
       rotate_left
       · intro w'
         go_simp
         with_reducible rfl
       rotate_left
       · simp only [Act.put, sA_, i64_w, i32_w]
         rfl
       refine pureY (i := 6) (N := some 23) (v := ?_) (a' := ?_) #[true, true, true, true, true, true, true, false, false, false, false, false, false, false, false, false, false, false, false, false] rfl rfl (any_of HT_.out (by kernel_rfl)) ⟨by rfl, ?_⟩ ?_ ?_
       rotate_left
       · intro w'
         go_simp
         with_reducible rfl
       rotate_left
       · simp only [Act.put, sA_, i64_w, i32_w]
         rfl
       refine pureN (i := 7) (N := some 24) (a' := ?_) #[true, true, true, true, true, true, true, true, false, false, false, false, false, false, false, false, false, false, false, false] rfl rfl (any_of HT_.out (by kernel_rfl)) ?_ ?_
       rotate_left
       · simp only [Act.put, sA_, i64_w, i32_w]
         rfl
       refine pureN (i := 8) (N := some 25) (a' := ?_) #[true, true, true, true, true, true, true, true, true, false, false, false, false, false, false, false, false, false, false, false] rfl rfl (any_of HT_.out (by kernel_rfl)) ?_ ?_
       rotate_left
       · simp only [Act.put, sA_, i64_w, i32_w]
         rfl
       refine pureN (i := 9) (N := some 26) (a' := ?_) #[true, true, true, true, true, true, true, true, true, true, false, false, false, false, false, false, false, false, false, false] rfl rfl (any_of HT_.out (by kernel_rfl)) ?_ ?_
       rotate_left
       · simp only [Act.put, sA_, i64_w, i32_w]
         rfl
       refine pureN (i := 10) (N := some 27) (a' := ?_) #[true, true, true, true, true, true, true, true, true, true, true, false, false, false, false, false, false, false, false, false] rfl rfl (any_of HT_.out (by kernel_rfl)) ?_ ?_
       rotate_left
       · simp only [Act.put, sA_, i64_w, i32_w]
         rfl
       refine pureN (i := 11) (N := some 28) (a' := ?_) #[true, true, true, true, true, true, true, true, true, true, true, true, false, false, false, false, false, false, false, false] rfl rfl (any_of HT_.out (by kernel_rfl)) ?_ ?_
       rotate_left
       · simp only [Act.put, sA_, i64_w, i32_w]
         rfl
       refine pureN (i := 12) (N := some 29) (a' := ?_) #[true, true, true, true, true, true, true, true, true, true, true, true, true, false, false, false, false, false, false, false] rfl rfl (any_of HT_.out (by kernel_rfl)) ?_ ?_
       rotate_left
       · simp only [Act.put, sA_, i64_w, i32_w]
         rfl
       refine pureN (i := 13) (N := some 30) (a' := ?_) #[true, true, true, true, true, true, true, true, true, true, true, true, true, true, false, false, false, false, false, false] rfl rfl (any_of HT_.out (by kernel_rfl)) ?_ ?_
       rotate_left
       · simp only [Act.put, sA_, i64_w, i32_w]
         rfl
       refine pureN (i := 14) (N := some 31) (a' := ?_) #[true, true, true, true, true, true, true, true, true, true, true, true, true, true, true, false, false, false, false, false] rfl rfl (any_of HT_.out (by kernel_rfl)) ?_ ?_
       rotate_left
       · simp only [Act.put, sA_, i64_w, i32_w]
         rfl
       refine pureN (i := 15) (N := some 32) (a' := ?_) #[true, true, true, true, true, true, true, true, true, true, true, true, true, true, true, true, false, false, false, false] rfl rfl (any_of HT_.out (by kernel_rfl)) ?_ ?_
       rotate_left
       · simp only [Act.put, sA_, i64_w, i32_w]
         rfl
       refine pureN (i := 16) (N := some 33) (a' := ?_) #[true, true, true, true, true, true, true, true, true, true, true, true, true, true, true, true, true, false, false, false] rfl rfl (any_of HT_.out (by kernel_rfl)) ?_ ?_
       rotate_left
       · simp only [Act.put, sA_, i64_w, i32_w]
         rfl
       refine pureN (i := 17) (N := some 34) (a' := ?_) #[true, true, true, true, true, true, true, true, true, true, true, true, true, true, true, true, true, true, false, false] rfl rfl (any_of HT_.out (by kernel_rfl)) ?_ ?_
       rotate_left
       · simp only [Act.put, sA_, i64_w, i32_w]
         rfl
       refine pureY (i := 18) (N := some 35) (v := ?_) (a' := ?_) #[true, true, true, true, true, true, true, true, true, true, true, true, true, true, true, true, true, true, true, false] rfl rfl (any_of HT_.out (by kernel_rfl)) ⟨by rfl, ?_⟩ ?_ ?_
       rotate_left
       · intro w'
         go_simp
         with_reducible rfl
       rotate_left
       · simp only [Act.put, sA_, i64_w, i32_w]
         rfl
       refine pureY (i := 19) (N := some 36) (v := ?_) (a' := ?_) #[true, true, true, true, true, true, true, true, true, true, true, true, true, true, true, true, true, true, true, true] rfl rfl (any_of HT_.out (by kernel_rfl)) ⟨by rfl, ?_⟩ ?_ ?_
       rotate_left
       · intro w'
         go_simp
         with_reducible rfl
       rotate_left
       · simp only [Act.put, sA_, i64_w, i32_w]
         rfl
       refine done_ (done_of HT_.out (by kernel_rfl)) ?_
       try go_wp2
       go_roundg k1
       case measure => have := HK1.out; omega
       case rel => exact ⟨(wrap64 (x12_1 + 1)), (by first | rfl | (simp; done) | (simp [*]; done)), H', ⟨by have := HK1.out; omega⟩, ⟨by (with_reducible repeat (first | refine blk_drewN ?_ _ | refine blk_drew ?_ | refine blk_alloc ?_ _)); exact BK338.out⟩, ⟨by repeat (first | (with_reducible first | exact HB.out | apply below_alloc | apply pw_below_drewN | apply below_drew1 | refine below_set ?_ GE338.out | refine below_set ?_ GE340.out) | exact HB.out)⟩⟩
      replace c11 := Bool.eq_false_iff.mpr c11
      subst c11
      have H1 : (some false) = some r := by rw [if_neg (show ¬ (false = true) by decide)] at H; exact H
      clear H
      have H := H1
      clear H1
      obtain rfl := Option.some.inj H
      have p339 : 0 ≤ (x12_1 : Int) := of_decide_eq_true (by first | (with_reducible assumption) | assumption)
      have q339 : x12_1 < (l0_0.length : Int) := of_decide_eq_true (by first | (with_reducible assumption) | assumption)
      obtain ⟨ad339, A339_4, c339_4, e339, hx339_0, hx339_1, hx339_2, hx339_3, hx339_4, hx339_5, hx339_6, hx339_7, hx339_8, hl339_4, hi339_4⟩ := at_T32 HR0_0.out x12_1 p339 q339
      cases e339
      replace hx339_0 := bcl HB hx339_0
      replace hx339_1 := bcl HB hx339_1
      replace hx339_2 := bcl HB hx339_2
      replace hx339_3 := bcl HB hx339_3
      replace hx339_4 := bcl HB hx339_4
      replace hx339_5 := bcl HB hx339_5
      replace hx339_6 := bcl HB hx339_6
      replace hx339_7 := bcl HB hx339_7
      replace hx339_8 := bcl HB hx339_8
      have HR339_4 := Aside0.mk hi339_4
      have HC339_4 := Aside0.mk hl339_4
      clear hi339_4 hl339_4
      replace p339 := eq_true p339
      replace q339 := eq_true q339
      try go_wp2_with (first | ((with_reducible refine gate_dst (N := 4) rfl ?_); refine box_event ?hg (N := 4) ?hd (cs := #[.int .i64 0, .string (⟨#[]⟩ : ByteArray), .bool false, .string (⟨#[]⟩ : ByteArray), .slice none 0 0, .int .i64 0, .int .i64 0, .int .i64 0, .int .i64 0]) (t := 32) ?hr ?_; (case hd => rfl); (case hg => rfl); (case hr => first | (go_simp; done) | (go_simp; rfl)); intro gb340 hg w32 hbox hb; have hb1_ := fromQ HB.out hb; have hb0_ := below_step hb1_ hb; have hW_ := below_step HB.out hb1_; have n2_ := Aside0.mk (hbox); have n3_ := szle hg hW_; have n4_ := szle hg hW_; have n5_ := nelt hg BK338 hb1_; have n6_ := negt hg BK338 hb1_; replace BK338 := kB BK338 hb0_; replace HB := kH HB hb0_; have BK340 := n2_; have GW340 := n3_; have GE340 := n4_; have NB338_340 := n5_; have NB340_338 := n6_; clear hb1_ hb0_ hW_ n2_ n3_ n4_ n5_ n6_; clear hb hbox hg; have hnb33 := NB340_338.out; have hnc33 := NB338_340.out; obtain ⟨hcz34_0, hcz34_1, hcz34_2, hcz34_3, hcz34_4, hcz34_5, hcz34_6, hcz34_7, hcz34_8, hfz34_0, hfz34_1, hfz34_2, hfz34_3, hfz34_4, hfz34_5, hfz34_6, hfz34_7, hfz34_8⟩ := bkA9 BK340.out))
      obtain ⟨w35, hS_⟩ : ∃ w_ : World, w_ = (((((((((w32.setCell ⟨gb340, 0, none⟩ (.int .i64 ((rd_T32 l0_0 x12_1).f0.f0))).setCell ⟨gb340, 1, none⟩ (.string ((rd_T32 l0_0 x12_1).f0.f1))).setCell ⟨gb340, 2, none⟩ (.bool ((rd_T32 l0_0 x12_1).f1))).setCell ⟨gb340, 3, none⟩ (.string ((rd_T32 l0_0 x12_1).f2))).setCell ⟨gb340, 4, none⟩ (.slice A339_4 ((rd_T32 l0_0 x12_1).f3).length c339_4)).setCell ⟨gb340, 5, none⟩ (.int .i64 ((rd_T32 l0_0 x12_1).f4))).setCell ⟨gb340, 6, none⟩ (.int .i64 ((rd_T32 l0_0 x12_1).f5))).setCell ⟨gb340, 7, none⟩ (.int .i64 ((rd_T32 l0_0 x12_1).f6))).setCell ⟨gb340, 8, none⟩ (.int .i64 ((rd_T32 l0_0 x12_1).f7))) := ⟨_, rfl⟩
      have n0_ : Aside0 (w35.heap[gb338]? = some (.cells #[.slice (some ad339) l0_0.length c0_0] 36 (0, 0))) := ⟨by rw [hS_]; exact blk_far9 BK338.out NB338_340.out⟩
      have n1_ : Aside0 (w35.heap[gb340]? = some (.cells #[.int .i64 ((rd_T32 l0_0 x12_1).f0.f0), .string ((rd_T32 l0_0 x12_1).f0.f1), .bool ((rd_T32 l0_0 x12_1).f1), .string ((rd_T32 l0_0 x12_1).f2), .slice A339_4 ((rd_T32 l0_0 x12_1).f3).length c339_4, .int .i64 ((rd_T32 l0_0 x12_1).f4), .int .i64 ((rd_T32 l0_0 x12_1).f5), .int .i64 ((rd_T32 l0_0 x12_1).f6), .int .i64 ((rd_T32 l0_0 x12_1).f7)] 32 (0, 0))) := ⟨by rw [hS_]; exact blk_stores9 BK340.out⟩
      have n2_ : Aside0 (Below w.heap.size w w35) := ⟨by rw [hS_]; repeat (first | (with_reducible first | exact HB.out | apply below_alloc | apply pw_below_drewN | apply below_drew1 | refine below_set ?_ GE338.out | refine below_set ?_ GE340.out) | exact HB.out)⟩
      (try clear BK338)
      (try clear BK340)
      (try clear HB)
      rw [← hS_]
      clear hS_
      have BK338 := n0_
      have BK340 := n1_
      have HB := n2_
      clear n0_ n1_ n2_
      have n0_ := Aside0.mk (blk_drew BK338.out)
      have n1_ := Aside0.mk (blk_drew BK340.out)
      have n2_ := Aside0.mk (below_drew1 HB.out)
      clear BK338
      clear BK340
      clear HB
      have BK338 := n0_
      have BK340 := n1_
      have HB := n2_
      clear n0_ n1_ n2_
      refine start_ (n := 20) (S := fun w' => w'.cell? ⟨gb340, 0, none⟩ = some (.int .i64 ((rd_T32 l0_0 x12_1).f0.f0)) ∧ w'.cell? ⟨gb340, 1, none⟩ = some (.string ((rd_T32 l0_0 x12_1).f0.f1)) ∧ w'.cell? ⟨gb340, 2, none⟩ = some (.bool ((rd_T32 l0_0 x12_1).f1)) ∧ w'.cell? ⟨gb340, 3, none⟩ = some (.string ((rd_T32 l0_0 x12_1).f2)) ∧ w'.cell? ⟨gb340, 4, none⟩ = some (.slice A339_4 ((rd_T32 l0_0 x12_1).f3).length c339_4) ∧ w'.cell? ⟨gb340, 5, none⟩ = some (.int .i64 ((rd_T32 l0_0 x12_1).f4)) ∧ w'.cell? ⟨gb340, 6, none⟩ = some (.int .i64 ((rd_T32 l0_0 x12_1).f5)) ∧ w'.cell? ⟨gb340, 7, none⟩ = some (.int .i64 ((rd_T32 l0_0 x12_1).f6)) ∧ w'.cell? ⟨gb340, 8, none⟩ = some (.int .i64 ((rd_T32 l0_0 x12_1).f7))) (ds := []) #[false, false, false, false, false, false, false, false, false, false, false, false, false, false, false, false, false, false, false, false] (by kernel_rfl) rfl rfl ⟨(blk_cell BK340.out 0).trans rfl, (blk_cell BK340.out 1).trans rfl, (blk_cell BK340.out 2).trans rfl, (blk_cell BK340.out 3).trans rfl, (blk_cell BK340.out 4).trans rfl, (blk_cell BK340.out 5).trans rfl, (blk_cell BK340.out 6).trans rfl, (blk_cell BK340.out 7).trans rfl, (blk_cell BK340.out 8).trans rfl⟩ (fun hHeld => ?_); refine with_tabW impl_ValidTable.tab6 impl_ValidTable.bits6 (fun HT_ HW_ => ?_)
      generalize w35.drew = w36 at BK338 BK340 HB hHeld ⊢
      refine takeY (i := 0) (N := some 17) (v := ?_) (a' := ?_) #[true, false, false, false, false, false, false, false, false, false, false, false, false, false, false, false, false, false, false, false] rfl rfl (take_ofW HT_.out HW_.out (by kernel_rfl)) ⟨by rfl, ?_⟩ hHeld ?_ ?_
      rotate_left
      · rintro w' ⟨s0, s1, s2, s3, s4, s5, s6, s7, s8⟩
        go_simp
        with_reducible rfl
      rotate_left
      · simp only [Act.put, sA_, i64_w, i32_w]
        rfl
      refine one_ (i := 1) (N := some 18) #[true, true, false, false, false, false, false, false, false, false, false, false, false, false, false, false, false, false, false, false] rfl rfl (one_of HT_.out (by kernel_rfl)) (by decide) (fun K hK => ?_)
      refine goes_ Tryd.func96 (by kernel_rfl) rfl #[.agg #[.int .i64 ((rd_T32 l0_0 x12_1).f0.f0), .string ((rd_T32 l0_0 x12_1).f0.f1), .bool ((rd_T32 l0_0 x12_1).f1), .string ((rd_T32 l0_0 x12_1).f2), .slice A339_4 ((rd_T32 l0_0 x12_1).f3).length c339_4, .int .i64 ((rd_T32 l0_0 x12_1).f4), .int .i64 ((rd_T32 l0_0 x12_1).f5), .int .i64 ((rd_T32 l0_0 x12_1).f6), .int .i64 ((rd_T32 l0_0 x12_1).f7)]] (by rfl) rfl rfl (by (try simp only [List.map_toArray, List.map_cons, List.map_nil]); first | done | rfl | (simp only [List.length_drop, List.length_take]; rfl)) ?_
      with_reducible refine (impl_Slot_valid.calls k1 ((rd_T32 l0_0 x12_1).f0.f0) ((rd_T32 l0_0 x12_1).f0.f1) ((rd_T32 l0_0 x12_1).f1) ((rd_T32 l0_0 x12_1).f2) _ _ ((rd_T32 l0_0 x12_1).f3) ((rd_T32 l0_0 x12_1).f4) ((rd_T32 l0_0 x12_1).f5) ((rd_T32 l0_0 x12_1).f6) ((rd_T32 l0_0 x12_1).f7) false _ ?side1 ?side2 ?side3 A10.out).mono ?_
      (case side1 => (first | (with_reducible exact HG.out) | exact GRes.below HG.out (by repeat (first | (with_reducible first | exact HB.out | apply below_alloc | apply pw_below_drewN | apply below_drew1 | refine below_set ?_ GE338.out | refine below_set ?_ GE340.out) | exact HB.out)) | (repeat (first | exact HG.out | apply GRes.drewN | apply GRes.drew | apply GRes.alloc))))
      (case side2 => repeat (first | exact (Kd.C_below HR339_4.out HB.out) | (with_reducible refine Kd.C_alloc ?_ _) | (with_reducible refine Kd.C_drewN ?_ _) | (with_reducible refine Kd.C_drew ?_)))
      (case side3 => exact HC339_4.out)
      rintro e w37 ⟨rfl, hb⟩
      refine ⟨_, rfl, ?_⟩
      have hb1_ := fromQ HB.out hb
      have hb0_ := below_step hb1_ hb
      replace BK338 := kB BK338 hb0_
      replace BK340 := kB BK340 hb0_
      replace HB := kH HB hb0_
      clear hb1_ hb0_
      (try clear hb)
      (try clear hb2)
      (try clear hk)
      (try clear hi)
      refine hK.out _ _ ⟨(blk_cell BK340.out 0).trans rfl, (blk_cell BK340.out 1).trans rfl, (blk_cell BK340.out 2).trans rfl, (blk_cell BK340.out 3).trans rfl, (blk_cell BK340.out 4).trans rfl, (blk_cell BK340.out 5).trans rfl, (blk_cell BK340.out 6).trans rfl, (blk_cell BK340.out 7).trans rfl, (blk_cell BK340.out 8).trans rfl⟩ (fun hHeld => ?_)
      clear hK K
      refine norm_ (a' := ?_) ?_ ?_
      rotate_left
      · show Act.put _ (some 18) _ = _
        simp only [Act.put, sA_, i64_w, i32_w]
        rfl
      refine pureY (i := 2) (N := some 19) (v := ?_) (a' := ?_) #[true, true, true, false, false, false, false, false, false, false, false, false, false, false, false, false, false, false, false, false] rfl rfl (any_of HT_.out (by kernel_rfl)) ⟨by rfl, ?_⟩ ?_ ?_
      rotate_left
      · intro w'
        go_simp
        with_reducible rfl
      rotate_left
      · simp only [Act.put, sA_, i64_w, i32_w]
        rfl
      refine pureY (i := 3) (N := some 20) (v := ?_) (a' := ?_) #[true, true, true, true, false, false, false, false, false, false, false, false, false, false, false, false, false, false, false, false] rfl rfl (any_of HT_.out (by kernel_rfl)) ⟨by rfl, ?_⟩ ?_ ?_
      rotate_left
      · intro w'
        go_simp
        with_reducible rfl
      rotate_left
      · simp only [Act.put, sA_, i64_w, i32_w]
        rfl
      refine pureN (i := 4) (N := some 21) (a' := ?_) #[true, true, true, true, true, false, false, false, false, false, false, false, false, false, false, false, false, false, false, false] rfl rfl (any_of HT_.out (by kernel_rfl)) ?_ ?_
      rotate_left
      · simp only [Act.put, sA_, i64_w, i32_w]
        rfl
      refine pureN (i := 5) (N := some 22) (a' := ?_) #[true, true, true, true, true, true, false, false, false, false, false, false, false, false, false, false, false, false, false, false] rfl rfl (any_of HT_.out (by kernel_rfl)) ?_ ?_
      rotate_left
      · simp only [Act.put, sA_, i64_w, i32_w]
        rfl
      refine pureN (i := 6) (N := some 23) (a' := ?_) #[true, true, true, true, true, true, true, false, false, false, false, false, false, false, false, false, false, false, false, false] rfl rfl (any_of HT_.out (by kernel_rfl)) ?_ ?_
      rotate_left
      · simp only [Act.put, sA_, i64_w, i32_w]
        rfl
      refine pureN (i := 7) (N := some 24) (a' := ?_) #[true, true, true, true, true, true, true, true, false, false, false, false, false, false, false, false, false, false, false, false] rfl rfl (any_of HT_.out (by kernel_rfl)) ?_ ?_
      rotate_left
      · simp only [Act.put, sA_, i64_w, i32_w]
        rfl
      refine pureN (i := 8) (N := some 25) (a' := ?_) #[true, true, true, true, true, true, true, true, true, false, false, false, false, false, false, false, false, false, false, false] rfl rfl (any_of HT_.out (by kernel_rfl)) ?_ ?_
      rotate_left
      · simp only [Act.put, sA_, i64_w, i32_w]
        rfl
      refine pureN (i := 9) (N := some 26) (a' := ?_) #[true, true, true, true, true, true, true, true, true, true, false, false, false, false, false, false, false, false, false, false] rfl rfl (any_of HT_.out (by kernel_rfl)) ?_ ?_
      rotate_left
      · simp only [Act.put, sA_, i64_w, i32_w]
        rfl
      refine pureN (i := 10) (N := some 27) (a' := ?_) #[true, true, true, true, true, true, true, true, true, true, true, false, false, false, false, false, false, false, false, false] rfl rfl (any_of HT_.out (by kernel_rfl)) ?_ ?_
      rotate_left
      · simp only [Act.put, sA_, i64_w, i32_w]
        rfl
      refine pureN (i := 11) (N := some 28) (a' := ?_) #[true, true, true, true, true, true, true, true, true, true, true, true, false, false, false, false, false, false, false, false] rfl rfl (any_of HT_.out (by kernel_rfl)) ?_ ?_
      rotate_left
      · simp only [Act.put, sA_, i64_w, i32_w]
        rfl
      refine pureN (i := 12) (N := some 29) (a' := ?_) #[true, true, true, true, true, true, true, true, true, true, true, true, true, false, false, false, false, false, false, false] rfl rfl (any_of HT_.out (by kernel_rfl)) ?_ ?_
      rotate_left
      · simp only [Act.put, sA_, i64_w, i32_w]
        rfl
      refine pureN (i := 13) (N := some 30) (a' := ?_) #[true, true, true, true, true, true, true, true, true, true, true, true, true, true, false, false, false, false, false, false] rfl rfl (any_of HT_.out (by kernel_rfl)) ?_ ?_
      rotate_left
      · simp only [Act.put, sA_, i64_w, i32_w]
        rfl
      refine pureN (i := 14) (N := some 31) (a' := ?_) #[true, true, true, true, true, true, true, true, true, true, true, true, true, true, true, false, false, false, false, false] rfl rfl (any_of HT_.out (by kernel_rfl)) ?_ ?_
      rotate_left
      · simp only [Act.put, sA_, i64_w, i32_w]
        rfl
      refine pureN (i := 15) (N := some 32) (a' := ?_) #[true, true, true, true, true, true, true, true, true, true, true, true, true, true, true, true, false, false, false, false] rfl rfl (any_of HT_.out (by kernel_rfl)) ?_ ?_
      rotate_left
      · simp only [Act.put, sA_, i64_w, i32_w]
        rfl
      refine pureN (i := 16) (N := some 33) (a' := ?_) #[true, true, true, true, true, true, true, true, true, true, true, true, true, true, true, true, true, false, false, false] rfl rfl (any_of HT_.out (by kernel_rfl)) ?_ ?_
      rotate_left
      · simp only [Act.put, sA_, i64_w, i32_w]
        rfl
      refine pureN (i := 17) (N := some 34) (a' := ?_) #[true, true, true, true, true, true, true, true, true, true, true, true, true, true, true, true, true, true, false, false] rfl rfl (any_of HT_.out (by kernel_rfl)) ?_ ?_
      rotate_left
      · simp only [Act.put, sA_, i64_w, i32_w]
        rfl
      refine pureN (i := 18) (N := some 35) (a' := ?_) #[true, true, true, true, true, true, true, true, true, true, true, true, true, true, true, true, true, true, true, false] rfl rfl (any_of HT_.out (by kernel_rfl)) ?_ ?_
      rotate_left
      · simp only [Act.put, sA_, i64_w, i32_w]
        rfl
      refine pureY (i := 19) (N := some 36) (v := ?_) (a' := ?_) #[true, true, true, true, true, true, true, true, true, true, true, true, true, true, true, true, true, true, true, true] rfl rfl (any_of HT_.out (by kernel_rfl)) ⟨by rfl, ?_⟩ ?_ ?_
      rotate_left
      · intro w'
        go_simp
        with_reducible rfl
      rotate_left
      · simp only [Act.put, sA_, i64_w, i32_w]
        rfl
      refine done_ (done_of HT_.out (by kernel_rfl)) ?_
      try go_wp2
      go_ret
      exact ⟨by first | rfl | (simp [errW_none, errW_some] <;> rfl) | (simp [*, errW_none, errW_some] <;> rfl), by repeat (first | (with_reducible first | exact HB.out | apply below_alloc | apply pw_below_drewN | apply below_drew1 | refine below_set ?_ GE338.out | refine below_set ?_ GE340.out) | exact HB.out)⟩
     rw [if_neg c9] at H
     exact absurd H (by simp)
    rw [if_neg c8] at H
    exact absurd H (by simp)
   rw [if_neg c7] at H
   have c7b0 : decide (x12_1 < (l0_0.length : Int)) = false := decide_eq_false c7
   clear c7
   obtain rfl := Option.some.inj H
   go_wp2
   go_ret
   exact ⟨by first | rfl | (simp [errW_none, errW_some] <;> rfl) | (simp [*, errW_none, errW_some] <;> rfl), by repeat (first | (with_reducible first | exact HB.out | apply below_alloc | apply pw_below_drewN | apply below_drew1 | refine below_set ?_ GE338.out) | exact HB.out)⟩
end Go.Proofs.YtnbohlcibgfjaaaDoor.Gp
end
