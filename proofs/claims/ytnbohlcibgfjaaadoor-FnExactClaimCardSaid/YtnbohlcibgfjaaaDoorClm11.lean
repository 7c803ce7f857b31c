/- A part of the proof of RowFnExactClaim: each text's theorems that it needs, packed by shake.py, a program of this work; Lean checks them. -/
import Derived.Test.YtnbohlcibgfjaaaDoorClm3
import Derived.Test.YtnbohlcibgfjaaaDoorClm10
section
namespace Go.Proofs.YtnbohlcibgfjaaaDoor.Gp
open Go.RowKit Go.Proofs.YtnbohlcibgfjaaaDoorW.PrintWords Go.Proofs.YtnbohlcibgfjaaaDoorW.PrintLast Go.Proofs.YtnbohlcibgfjaaaDoorW.PrintMore
set_option linter.unusedVariables false
set_option linter.unusedSimpArgs false
def spec_ValidTable.l0 : Nat → Int → List (S32) → Option (Bool)
 | 0, _, _ => none
 | k + 1, x3, x204000 => if x3 < (x204000.length : Int) then (if 0 ≤ x3 then ((spec_l4SlotOk.f k ((rd_T32 x204000 x3).f0.f0) ((rd_T32 x204000 x3).f0.f1) ((rd_T32 x204000 x3).f1) ((rd_T32 x204000 x3).f2) ((rd_T32 x204000 x3).f3) ((rd_T32 x204000 x3).f4) ((rd_T32 x204000 x3).f5) ((rd_T32 x204000 x3).f6) ((rd_T32 x204000 x3).f7)).bind fun t205 => (if t205 = true then (if x3 > 0 then (if 0 ≤ (wrap64 (x3 - 1)) then (if (wrap64 (x3 - 1)) < (x204000.length : Int) then ((spec_l4KeyLess.f k ((rd_T32 x204000 (wrap64 (x3 - 1))).f0.f0) ((rd_T32 x204000 (wrap64 (x3 - 1))).f0.f1) ((rd_T32 x204000 x3).f0.f0) ((rd_T32 x204000 x3).f0.f1)).bind fun t208 => (if t208 = true then (spec_ValidTable.l0 k (wrap64 (x3 + 1)) x204000) else (some false))) else (none)) else (none)) else (spec_ValidTable.l0 k (wrap64 (x3 + 1)) x204000)) else (some false))) else (none)) else (some true)
def spec_ValidTable.f (k : Nat) (l0_0 : List (S32)) : Option (Bool) := if (l0_0.length : Int) > 4096 then (some false) else (spec_ValidTable.l0 k 0 l0_0)
def spec_ValidTable.T8 : Bool × List (List Nat × List Nat) := (true, [([], []), ([0], [0]), ([1], [1]), ([2], [2]), ([3, 2], [2, 3]), ([2], [2]), ([5, 2], [2, 5]), ([4, 6, 2], [2, 4, 6]), ([7, 2], [2, 7]), ([8, 2], [2, 8]), ([2], [2]), ([10, 2], [2, 10]), ([2], [2]), ([11, 12, 2], [2, 11, 12]), ([13, 2], [2, 13]), ([14, 2], [2, 14]), ([9, 15, 2, 2], [2, 9, 15]), ([16, 2], [2, 16]), ([2, 17], [2, 17])])
def spec_ValidTable.B8 : List Nat := [0, 1, 3, 7, 15, 7, 39, 127, 255, 511, 7, 1031, 7, 7175, 15367, 31751, 65535, 131071, 262143]
theorem spec_ValidTable.tab8 : rtab .any (opsOf Tryd.f43 8) = spec_ValidTable.T8 := by kernel_rfl
theorem spec_ValidTable.bits8 : waitsOk spec_ValidTable.T8.2 spec_ValidTable.B8 = true := by kernel_rfl
set_option maxHeartbeats 8000000 in
set_option maxRecDepth 100000 in
theorem spec_ValidTable.calls (k : Nat) (A0_0 : Option Addr) (c0_0 : Nat) (l0_0 : List (S32)) (r : Bool) (w : World) (hr0_0 : Kd.C k32 w A0_0 l0_0.length l0_0) (hc0_0 : l0_0.length ≤ c0_0) (h : spec_ValidTable.f k l0_0 = some r) :
 Calls Tryd.prog 43 #[.agg #[.slice A0_0 l0_0.length c0_0]] w fun e w' => e = .returned (.bool r) ∧ Below w.heap.size w w' := by
 have hu36 := Tryd.underlying36
 have hu32 := Tryd.underlying32
 have hu29 := Tryd.underlying29
 have HR0_0 := Aside0.mk hr0_0
 have HC0_0 := Aside0.mk hc0_0
 clear hr0_0 hc0_0
 have HB := Aside0.mk (Below.refl w.heap.size w)
 have H : (if (l0_0.length : Int) > 4096 then (some false) else (spec_ValidTable.l0 k 0 l0_0)) = some r := h
 clear h
 have HL2 := Aside0.mk H
 clear H
 go_enter Tryd.func43, Tryd.ntmps43
 go_upto_if 7 with (first | ((with_reducible refine gate_dst (N := 1) rfl ?_); refine box_event ?hg (N := 1) ?hd (cs := #[.slice A0_0 l0_0.length c0_0]) (t := 36) ?hr ?_; (case hd => rfl); (case hg => rfl); (case hr => first | (go_simp; done) | (go_simp; rfl)); intro gb203 hg w3 hbox hb; have hb1_ := fromQ HB.out hb; have hb0_ := below_step hb1_ hb; have hW_ := below_step HB.out hb1_; have n1_ := Aside0.mk (hbox); have n2_ := szle hg hW_; have n3_ := szle hg hW_; replace HB := kH HB hb0_; have BK203 := n1_; have GW203 := n2_; have GE203 := n3_; clear hb1_ hb0_ hW_ n1_ n2_ n3_; clear hb hbox hg; obtain ⟨hcz4_0, hfz4_0⟩ := bkA1 BK203.out))
 have H := HL2.out
 clear HL2
 by_cases c5 : (l0_0.length : Int) > 4096
 ·
  rw [if_pos c5] at H
  have c5b0 : decide (4096 < (l0_0.length : Int)) = true := decide_eq_true c5
  have c5b1 : decide (4096 < l0_0.length) = true := decide_eq_true (by omega)
  clear c5
  (first | rw [c5b0] | (simp only [i64_w, i32_w]; rw [c5b0]) | simp only [c5b2, Bool.not_false, Bool.not_true] | skip)
  obtain rfl := Option.some.inj H
  go_wp2
  go_ret
  exact ⟨by first | rfl | (simp [errW_none, errW_some] <;> rfl) | (simp [*, errW_none, errW_some] <;> rfl), by repeat (first | (with_reducible first | exact HB.out | apply below_alloc | apply pw_below_drewN | apply below_drew1 | refine below_set ?_ GE203.out) | exact HB.out)⟩
 rw [if_neg c5] at H
 have c5b0 : decide (4096 < (l0_0.length : Int)) = false := decide_eq_false c5
 have c5b1 : decide (4096 < l0_0.length) = false := decide_eq_false (by omega)
 clear c5
 (first | rw [c5b0] | (simp only [i64_w, i32_w]; rw [c5b0]) | simp only [c5b2, Bool.not_false, Bool.not_true] | skip)
 have H' := Aside0.mk H
 clear H
 go_wp2
 go_loopg [3] k (fun kq v3 w' => ∃ (x3_1 : Int), v3 = .int .i64 x3_1 ∧ Aside0 (spec_ValidTable.l0 kq x3_1 l0_0 = some r) ∧ Aside0 (kq ≤ k) ∧ Aside0 (w'.heap[gb203]? = some (.cells #[(.slice A0_0 l0_0.length c0_0)] 36 (0, 0))) ∧ Aside0 (Below w.heap.size w w'))
 case atStart => exact ⟨(0), (by first | rfl | (simp; done) | (simp [*]; done)), H', ⟨Nat.le_refl _⟩, ⟨by (with_reducible repeat (first | refine blk_drewN ?_ _ | refine blk_drew ?_ | refine blk_alloc ?_ _)); exact BK203.out⟩, ⟨by repeat (first | (with_reducible first | exact HB.out | apply below_alloc | apply pw_below_drewN | apply below_drew1 | refine below_set ?_ GE203.out) | exact HB.out)⟩⟩
 case round =>
  clear H'
  try clear p2
  try clear c4
  try clear c5
  try clear c5b0
  try clear c5b1
  try clear c5b2
  try clear hcz4_0
  try clear hfz4_0
  obtain ⟨x3_1, rfl, HA, HK1, BK203, HB⟩ := hrel
  cases gk with
  | zero => exact absurd HA.out (by simp [spec_ValidTable.l0])
  | succ k1 =>
   have H := HA.out
   clear HA
   simp only [spec_ValidTable.l0] at H
   by_cases c6 : x3_1 < (l0_0.length : Int)
   ·
    rw [if_pos c6] at H
    have c6b0 : decide (x3_1 < (l0_0.length : Int)) = true := decide_eq_true c6
    clear c6
    by_cases c7 : 0 ≤ x3_1
    ·
     rw [if_pos c7] at H
     have c7b0 : decide (0 ≤ x3_1) = true := decide_eq_true c7
     clear c7
     replace H := Option.bind_eq_some_iff.mp H
     obtain ⟨t205, A80, H⟩ := H
     replace H : (if t205 = true then (if x3_1 > 0 then (if 0 ≤ (wrap64 (x3_1 - 1)) then (if (wrap64 (x3_1 - 1)) < (l0_0.length : Int) then ((spec_l4KeyLess.f k1 ((rd_T32 l0_0 (wrap64 (x3_1 - 1))).f0.f0) ((rd_T32 l0_0 (wrap64 (x3_1 - 1))).f0.f1) ((rd_T32 l0_0 x3_1).f0.f0) ((rd_T32 l0_0 x3_1).f0.f1)).bind fun t208 => (if t208 = true then (spec_ValidTable.l0 k1 (wrap64 (x3_1 + 1)) l0_0) else (some false))) else (none)) else (none)) else (spec_ValidTable.l0 k1 (wrap64 (x3_1 + 1)) l0_0)) else (some false)) = some r := H
     have A8 := Aside0.mk A80
     clear A80
     have HL9 := Aside0.mk H
     clear H
     obtain ⟨hcz10_0, hfz10_0⟩ := bkA1 BK203.out
     have p204 : 0 ≤ (x3_1 : Int) := of_decide_eq_true (by first | (with_reducible assumption) | assumption)
     have q204 : x3_1 < (l0_0.length : Int) := of_decide_eq_true (by first | (with_reducible assumption) | assumption)
     obtain ⟨ad204, A204_4, c204_4, e204, hx204_0, hx204_1, hx204_2, hx204_3, hx204_4, hx204_5, hx204_6, hx204_7, hx204_8, hl204_4, hi204_4⟩ := at_T32 HR0_0.out x3_1 p204 q204
     cases e204
     replace hx204_0 := bcl HB hx204_0
     replace hx204_1 := bcl HB hx204_1
     replace hx204_2 := bcl HB hx204_2
     replace hx204_3 := bcl HB hx204_3
     replace hx204_4 := bcl HB hx204_4
     replace hx204_5 := bcl HB hx204_5
     replace hx204_6 := bcl HB hx204_6
     replace hx204_7 := bcl HB hx204_7
     replace hx204_8 := bcl HB hx204_8
     have HR204_4 := Aside0.mk hi204_4
     have HC204_4 := Aside0.mk hl204_4
     clear hi204_4 hl204_4
     replace p204 := eq_true p204
     replace q204 := eq_true q204
     go_upto_if 21 with (first | ((with_reducible refine gate_callee (f := 94) rfl ?_); refine goesL_ (some 20) rfl rfl Tryd.func94 (by kernel_rfl) rfl #[.agg #[.int .i64 ((rd_T32 l0_0 x3_1).f0.f0), .string ((rd_T32 l0_0 x3_1).f0.f1), .bool ((rd_T32 l0_0 x3_1).f1), .string ((rd_T32 l0_0 x3_1).f2), .slice A204_4 ((rd_T32 l0_0 x3_1).f3).length c204_4, .int .i64 ((rd_T32 l0_0 x3_1).f4), .int .i64 ((rd_T32 l0_0 x3_1).f5), .int .i64 ((rd_T32 l0_0 x3_1).f6), .int .i64 ((rd_T32 l0_0 x3_1).f7)]] rfl (by (try simp only [List.map_toArray, List.map_cons, List.map_nil]); first | done | rfl | (simp only [List.length_drop, List.length_take]; rfl)) ?_; (with_reducible refine (spec_l4SlotOk.calls k1 ((rd_T32 l0_0 x3_1).f0.f0) ((rd_T32 l0_0 x3_1).f0.f1) ((rd_T32 l0_0 x3_1).f1) ((rd_T32 l0_0 x3_1).f2) _ _ ((rd_T32 l0_0 x3_1).f3) ((rd_T32 l0_0 x3_1).f4) ((rd_T32 l0_0 x3_1).f5) ((rd_T32 l0_0 x3_1).f6) ((rd_T32 l0_0 x3_1).f7) t205 _ ?side1 ?side2 A8.out).mono ?_); (case side1 => repeat (first | exact (Kd.C_below HR204_4.out HB.out) | (with_reducible refine Kd.C_alloc ?_ _) | (with_reducible refine Kd.C_drewN ?_ _) | (with_reducible refine Kd.C_drew ?_))); (case side2 => exact HC204_4.out); rintro e w11 ⟨rfl, hb⟩; refine ⟨_, rfl, ?_⟩; have hb1_ := fromQ HB.out hb; have hb0_ := below_step hb1_ hb; replace BK203 := kB BK203 hb0_; replace HB := kH HB hb0_; clear hb1_ hb0_; (try clear hb); (try clear hb2); (try clear hk); (try clear hi)))
     have H := HL9.out
     clear HL9
     by_cases c12 : t205 = true
     ·
      subst c12
      have H1 : (if x3_1 > 0 then (if 0 ≤ (wrap64 (x3_1 - 1)) then (if (wrap64 (x3_1 - 1)) < (l0_0.length : Int) then ((spec_l4KeyLess.f k1 ((rd_T32 l0_0 (wrap64 (x3_1 - 1))).f0.f0) ((rd_T32 l0_0 (wrap64 (x3_1 - 1))).f0.f1) ((rd_T32 l0_0 x3_1).f0.f0) ((rd_T32 l0_0 x3_1).f0.f1)).bind fun t208 => (if t208 = true then (spec_ValidTable.l0 k1 (wrap64 (x3_1 + 1)) l0_0) else (some false))) else (none)) else (none)) else (spec_ValidTable.l0 k1 (wrap64 (x3_1 + 1)) l0_0)) = some r := by rw [if_pos rfl] at H; exact H
      clear H
      have H := H1
      clear H1
      by_cases c13 : x3_1 > 0
      ·
       rw [if_pos c13] at H
       have c13b0 : decide (0 < x3_1) = true := decide_eq_true c13
       clear c13
       obtain ⟨ji14, hji14⟩ : ∃ j_ : Int, (wrap64 (x3_1 - 1)) = j_ := ⟨_, rfl⟩
       replace H : (if 0 ≤ (ji14) then (if (ji14) < (l0_0.length : Int) then ((spec_l4KeyLess.f k1 ((rd_T32 l0_0 (ji14)).f0.f0) ((rd_T32 l0_0 (ji14)).f0.f1) ((rd_T32 l0_0 x3_1).f0.f0) ((rd_T32 l0_0 x3_1).f0.f1)).bind fun t208 => (if t208 = true then (spec_ValidTable.l0 k1 (wrap64 (x3_1 + 1)) l0_0) else (some false))) else (none)) else (none)) = some r := by first | (rw [hji14] at H; exact H) | (simp only [hji14] at H ⊢; exact H)
       have hji14w : (IntKind.i64.wrap (x3_1 - 1)) = ji14 := (i64_w _).trans hji14
       by_cases c15 : 0 ≤ (ji14)
       ·
        rw [if_pos c15] at H
        have c15b0 : decide (0 ≤ (ji14)) = true := decide_eq_true c15
        clear c15
        by_cases c16 : (ji14) < (l0_0.length : Int)
        ·
         rw [if_pos c16] at H
         have c16b0 : decide ((ji14) < (l0_0.length : Int)) = true := decide_eq_true c16
         clear c16
         replace H := Option.bind_eq_some_iff.mp H
         obtain ⟨t208, A170, H⟩ := H
         replace H : (if t208 = true then (spec_ValidTable.l0 k1 (wrap64 (x3_1 + 1)) l0_0) else (some false)) = some r := H
         have A17 := Aside0.mk A170
         clear A170
         have HL18 := Aside0.mk H
         clear H
         try go_wp2
         have n0_ := Aside0.mk (blk_drew BK203.out)
         have n1_ := Aside0.mk (below_drew1 HB.out)
         clear BK203
         clear HB
         have BK203 := n0_
         have HB := n1_
         clear n0_ n1_
         have p206 : 0 ≤ ((ji14) : Int) := of_decide_eq_true (by first | (with_reducible assumption) | assumption)
         have q206 : (ji14) < (l0_0.length : Int) := of_decide_eq_true (by first | (with_reducible assumption) | assumption)
         obtain ⟨ad206, A206_4, c206_4, e206, hx206_0, hx206_1, hx206_2, hx206_3, hx206_4, hx206_5, hx206_6, hx206_7, hx206_8, hl206_4, hi206_4⟩ := at_T32 HR0_0.out (ji14) p206 q206
         have hw206_8 := hx206_8
         have hw206_7 := hx206_7
         have hw206_6 := hx206_6
         have hw206_5 := hx206_5
         have hw206_4 := hx206_4
         have hw206_3 := hx206_3
         have hw206_2 := hx206_2
         have hw206_1 := hx206_1
         have hw206_0 := hx206_0
         obtain rfl : ad204 = ad206 := (by injection e206)
         replace hx206_0 := bcl HB hx206_0
         replace hx206_1 := bcl HB hx206_1
         replace hx206_2 := bcl HB hx206_2
         replace hx206_3 := bcl HB hx206_3
         replace hx206_4 := bcl HB hx206_4
         replace hx206_5 := bcl HB hx206_5
         replace hx206_6 := bcl HB hx206_6
         replace hx206_7 := bcl HB hx206_7
         replace hx206_8 := bcl HB hx206_8
         have HR206_4 := Aside0.mk hi206_4
         have HC206_4 := Aside0.mk hl206_4
         clear hi206_4 hl206_4
         replace p206 := eq_true p206
         replace q206 := eq_true q206
         have p207 : 0 ≤ (x3_1 : Int) := of_decide_eq_true (by first | (with_reducible assumption) | assumption)
         have q207 : x3_1 < (l0_0.length : Int) := of_decide_eq_true (by first | (with_reducible assumption) | assumption)
         obtain ⟨ad207, A207_4, c207_4, e207, hx207_0, hx207_1, hx207_2, hx207_3, hx207_4, hx207_5, hx207_6, hx207_7, hx207_8, hl207_4, hi207_4⟩ := at_T32 HR0_0.out x3_1 p207 q207
         have hw207_8 := hx207_8
         have hw207_7 := hx207_7
         have hw207_6 := hx207_6
         have hw207_5 := hx207_5
         have hw207_4 := hx207_4
         have hw207_3 := hx207_3
         have hw207_2 := hx207_2
         have hw207_1 := hx207_1
         have hw207_0 := hx207_0
         obtain rfl : ad204 = ad207 := (by injection e207)
         replace hx207_0 := bcl HB hx207_0
         replace hx207_1 := bcl HB hx207_1
         replace hx207_2 := bcl HB hx207_2
         replace hx207_3 := bcl HB hx207_3
         replace hx207_4 := bcl HB hx207_4
         replace hx207_5 := bcl HB hx207_5
         replace hx207_6 := bcl HB hx207_6
         replace hx207_7 := bcl HB hx207_7
         replace hx207_8 := bcl HB hx207_8
         have HR207_4 := Aside0.mk hi207_4
         have HC207_4 := Aside0.mk hl207_4
         clear hi207_4 hl207_4
         replace p207 := eq_true p207
         replace q207 := eq_true q207
         refine start_ (n := 19) (S := fun w' => w'.cell? ⟨gb203, 0, none⟩ = some (.slice (some ad204) l0_0.length c0_0) ∧ w'.cell? (ad204.add (((ji14)).toNat * 9)) = some (.int .i64 ((rd_T32 l0_0 (ji14)).f0.f0)) ∧ w'.cell? ⟨(ad204.add (((ji14)).toNat * 9)).block, (ad204.add (((ji14)).toNat * 9)).off + 1, none⟩ = some (.string ((rd_T32 l0_0 (ji14)).f0.f1)) ∧ w'.cell? ⟨(ad204.add (((ji14)).toNat * 9)).block, (ad204.add (((ji14)).toNat * 9)).off + 2, none⟩ = some (.bool ((rd_T32 l0_0 (ji14)).f1)) ∧ w'.cell? ⟨(ad204.add (((ji14)).toNat * 9)).block, (ad204.add (((ji14)).toNat * 9)).off + 3, none⟩ = some (.string ((rd_T32 l0_0 (ji14)).f2)) ∧ w'.cell? ⟨(ad204.add (((ji14)).toNat * 9)).block, (ad204.add (((ji14)).toNat * 9)).off + 4, none⟩ = some (.slice A206_4 ((rd_T32 l0_0 (ji14)).f3).length c206_4) ∧ w'.cell? ⟨(ad204.add (((ji14)).toNat * 9)).block, (ad204.add (((ji14)).toNat * 9)).off + 5, none⟩ = some (.int .i64 ((rd_T32 l0_0 (ji14)).f4)) ∧ w'.cell? ⟨(ad204.add (((ji14)).toNat * 9)).block, (ad204.add (((ji14)).toNat * 9)).off + 6, none⟩ = some (.int .i64 ((rd_T32 l0_0 (ji14)).f5)) ∧ w'.cell? ⟨(ad204.add (((ji14)).toNat * 9)).block, (ad204.add (((ji14)).toNat * 9)).off + 7, none⟩ = some (.int .i64 ((rd_T32 l0_0 (ji14)).f6)) ∧ w'.cell? ⟨(ad204.add (((ji14)).toNat * 9)).block, (ad204.add (((ji14)).toNat * 9)).off + 8, none⟩ = some (.int .i64 ((rd_T32 l0_0 (ji14)).f7)) ∧ w'.cell? (ad204.add ((x3_1).toNat * 9)) = some (.int .i64 ((rd_T32 l0_0 x3_1).f0.f0)) ∧ w'.cell? ⟨(ad204.add ((x3_1).toNat * 9)).block, (ad204.add ((x3_1).toNat * 9)).off + 1, none⟩ = some (.string ((rd_T32 l0_0 x3_1).f0.f1)) ∧ w'.cell? ⟨(ad204.add ((x3_1).toNat * 9)).block, (ad204.add ((x3_1).toNat * 9)).off + 2, none⟩ = some (.bool ((rd_T32 l0_0 x3_1).f1)) ∧ w'.cell? ⟨(ad204.add ((x3_1).toNat * 9)).block, (ad204.add ((x3_1).toNat * 9)).off + 3, none⟩ = some (.string ((rd_T32 l0_0 x3_1).f2)) ∧ w'.cell? ⟨(ad204.add ((x3_1).toNat * 9)).block, (ad204.add ((x3_1).toNat * 9)).off + 4, none⟩ = some (.slice A207_4 ((rd_T32 l0_0 x3_1).f3).length c207_4) ∧ w'.cell? ⟨(ad204.add ((x3_1).toNat * 9)).block, (ad204.add ((x3_1).toNat * 9)).off + 5, none⟩ = some (.int .i64 ((rd_T32 l0_0 x3_1).f4)) ∧ w'.cell? ⟨(ad204.add ((x3_1).toNat * 9)).block, (ad204.add ((x3_1).toNat * 9)).off + 6, none⟩ = some (.int .i64 ((rd_T32 l0_0 x3_1).f5)) ∧ w'.cell? ⟨(ad204.add ((x3_1).toNat * 9)).block, (ad204.add ((x3_1).toNat * 9)).off + 7, none⟩ = some (.int .i64 ((rd_T32 l0_0 x3_1).f6)) ∧ w'.cell? ⟨(ad204.add ((x3_1).toNat * 9)).block, (ad204.add ((x3_1).toNat * 9)).off + 8, none⟩ = some (.int .i64 ((rd_T32 l0_0 x3_1).f7))) (ds := []) #[false, false, false, false, false, false, false, false, false, false, false, false, false, false, false, false, false, false, false] (by kernel_rfl) rfl rfl ⟨(blk_cell BK203.out 0).trans rfl, ((HB.out.cell (World.block_lt_of_cell? w _ hw206_0)).trans hw206_0), ((HB.out.cell (World.block_lt_of_cell? w _ hw206_1)).trans hw206_1), ((HB.out.cell (World.block_lt_of_cell? w _ hw206_2)).trans hw206_2), ((HB.out.cell (World.block_lt_of_cell? w _ hw206_3)).trans hw206_3), ((HB.out.cell (World.block_lt_of_cell? w _ hw206_4)).trans hw206_4), ((HB.out.cell (World.block_lt_of_cell? w _ hw206_5)).trans hw206_5), ((HB.out.cell (World.block_lt_of_cell? w _ hw206_6)).trans hw206_6), ((HB.out.cell (World.block_lt_of_cell? w _ hw206_7)).trans hw206_7), ((HB.out.cell (World.block_lt_of_cell? w _ hw206_8)).trans hw206_8), ((HB.out.cell (World.block_lt_of_cell? w _ hw207_0)).trans hw207_0), ((HB.out.cell (World.block_lt_of_cell? w _ hw207_1)).trans hw207_1), ((HB.out.cell (World.block_lt_of_cell? w _ hw207_2)).trans hw207_2), ((HB.out.cell (World.block_lt_of_cell? w _ hw207_3)).trans hw207_3), ((HB.out.cell (World.block_lt_of_cell? w _ hw207_4)).trans hw207_4), ((HB.out.cell (World.block_lt_of_cell? w _ hw207_5)).trans hw207_5), ((HB.out.cell (World.block_lt_of_cell? w _ hw207_6)).trans hw207_6), ((HB.out.cell (World.block_lt_of_cell? w _ hw207_7)).trans hw207_7), ((HB.out.cell (World.block_lt_of_cell? w _ hw207_8)).trans hw207_8)⟩ (fun hHeld => ?_); refine with_tabW spec_ValidTable.tab8 spec_ValidTable.bits8 (fun HT_ HW_ => ?_)
         generalize w11.drew = w19 at BK203 HB HR206_4 HR207_4 hx206_0 hx206_1 hx206_2 hx206_3 hx206_4 hx206_5 hx206_6 hx206_7 hx206_8 hx207_0 hx207_1 hx207_2 hx207_3 hx207_4 hx207_5 hx207_6 hx207_7 hx207_8 hHeld ⊢
         refine pureY (i := 0) (N := some 22) (v := ?_) (a' := ?_) #[true, false, false, false, false, false, false, false, false, false, false, false, false, false, false, false, false, false, false] rfl rfl (any_of HT_.out (by kernel_rfl)) ⟨by rfl, ?_⟩ ?_ ?_
         rotate_left
         · intro w'
           go_simp
           with_reducible rfl
         rotate_left
         · simp only [Act.put, sA_, i64_w, i32_w]
           rfl
         refine pureY (i := 1) (N := some 23) (v := ?_) (a' := ?_) #[true, true, false, false, false, false, false, false, false, false, false, false, false, false, false, false, false, false, false] rfl rfl (any_of HT_.out (by kernel_rfl)) ⟨by rfl, ?_⟩ ?_ ?_
         rotate_left
         · intro w'
           go_simp
           with_reducible rfl
         rotate_left
         · simp only [Act.put, sA_, i64_w, i32_w]
           rfl
         refine pureY (i := 2) (N := some 24) (v := ?_) (a' := ?_) #[true, true, true, false, false, false, false, false, false, false, false, false, false, false, false, false, false, false, false] rfl rfl (any_of HT_.out (by kernel_rfl)) ⟨by rfl, ?_⟩ ?_ ?_
         rotate_left
         · intro w'
           go_simp
           with_reducible rfl
         rotate_left
         · simp only [Act.put, sA_, i64_w, i32_w]
           rfl
         refine pureY (i := 3) (N := some 25) (v := ?_) (a' := ?_) #[true, true, true, true, false, false, false, false, false, false, false, false, false, false, false, false, false, false, false] rfl rfl (any_of HT_.out (by kernel_rfl)) ⟨by rfl, ?_⟩ ?_ ?_
         rotate_left
         · intro w'
           go_simp
           with_reducible rfl
         rotate_left
         · simp only [Act.put, sA_, i64_w, i32_w]
           rfl
         refine pureY (i := 5) (N := some 27) (v := ?_) (a' := ?_) #[true, true, true, true, false, true, false, false, false, false, false, false, false, false, false, false, false, false, false] rfl rfl (any_of HT_.out (by kernel_rfl)) ⟨by rfl, ?_⟩ ?_ ?_
         rotate_left
         · intro w'
           go_simp
           with_reducible rfl
         rotate_left
         · simp only [Act.put, sA_, i64_w, i32_w]
           rfl
         refine pureY (i := 6) (N := some 28) (v := ?_) (a' := ?_) #[true, true, true, true, false, true, true, false, false, false, false, false, false, false, false, false, false, false, false] rfl rfl (any_of HT_.out (by kernel_rfl)) ⟨by rfl, ?_⟩ ?_ ?_
         rotate_left
         · intro w'
           go_simp
           with_reducible rfl
         rotate_left
         · simp only [Act.put, sA_, i64_w, i32_w]
           rfl
         refine pureY (i := 10) (N := some 32) (v := ?_) (a' := ?_) #[true, true, true, true, false, true, true, false, false, false, true, false, false, false, false, false, false, false, false] rfl rfl (any_of HT_.out (by kernel_rfl)) ⟨by rfl, ?_⟩ ?_ ?_
         rotate_left
         · intro w'
           go_simp
           with_reducible rfl
         rotate_left
         · simp only [Act.put, sA_, i64_w, i32_w]
           rfl
         refine pureY (i := 12) (N := some 34) (v := ?_) (a' := ?_) #[true, true, true, true, false, true, true, false, false, false, true, false, true, false, false, false, false, false, false] rfl rfl (any_of HT_.out (by kernel_rfl)) ⟨by rfl, ?_⟩ ?_ ?_
         rotate_left
         · intro w'
           go_simp
           with_reducible rfl
         rotate_left
         · simp only [Act.put, sA_, i64_w, i32_w]
           rfl
         refine takeY (i := 4) (N := some 26) (v := ?_) (a' := ?_) #[true, true, true, true, true, true, true, false, false, false, true, false, true, false, false, false, false, false, false] rfl rfl (take_ofW HT_.out HW_.out (by kernel_rfl)) ⟨by rfl, ?_⟩ hHeld ?_ ?_
         rotate_left
         · rintro w' ⟨s0, s1, s2, s3, s4, s5, s6, s7, s8, s9, s10, s11, s12, s13, s14, s15, s16, s17, s18⟩
           go_simp
           with_reducible rfl
         rotate_left
         · simp only [Act.put, sA_, i64_w, i32_w]
           rfl
         refine pureY (i := 7) (N := some 29) (v := ?_) (a' := ?_) #[true, true, true, true, true, true, true, true, false, false, true, false, true, false, false, false, false, false, false] rfl rfl (any_of HT_.out (by kernel_rfl)) ⟨by rfl, ?_⟩ ?_ ?_
         rotate_left
         · intro w'
           go_simp
           with_reducible rfl
         rotate_left
         · simp only [Act.put, sA_, i64_w, i32_w]
           rfl
         refine pureY (i := 8) (N := some 30) (v := ?_) (a' := ?_) #[true, true, true, true, true, true, true, true, true, false, true, false, true, false, false, false, false, false, false] rfl rfl (any_of HT_.out (by kernel_rfl)) ⟨by rfl, ?_⟩ ?_ ?_
         rotate_left
         · intro w'
           go_simp
           with_reducible rfl
         rotate_left
         · simp only [Act.put, sA_, i64_w, i32_w]
           rfl
         refine takeY (i := 9) (N := some 31) (v := ?_) (a' := ?_) #[true, true, true, true, true, true, true, true, true, true, true, false, true, false, false, false, false, false, false] rfl rfl (take_ofW HT_.out HW_.out (by kernel_rfl)) ⟨by rfl, ?_⟩ hHeld ?_ ?_
         rotate_left
         · rintro w' ⟨s0, s1, s2, s3, s4, s5, s6, s7, s8, s9, s10, s11, s12, s13, s14, s15, s16, s17, s18⟩
           go_simp
           with_reducible rfl
         rotate_left
         · simp only [Act.put, sA_, i64_w, i32_w]
           rfl
         refine takeY (i := 11) (N := some 33) (v := ?_) (a' := ?_) #[true, true, true, true, true, true, true, true, true, true, true, true, true, false, false, false, false, false, false] rfl rfl (take_ofW HT_.out HW_.out (by kernel_rfl)) ⟨by rfl, ?_⟩ hHeld ?_ ?_
         rotate_left
         · rintro w' ⟨s0, s1, s2, s3, s4, s5, s6, s7, s8, s9, s10, s11, s12, s13, s14, s15, s16, s17, s18⟩
           go_simp
           with_reducible rfl
         rotate_left
         · simp only [Act.put, sA_, i64_w, i32_w]
           rfl
         refine pureY (i := 13) (N := some 35) (v := ?_) (a' := ?_) #[true, true, true, true, true, true, true, true, true, true, true, true, true, true, false, false, false, false, false] rfl rfl (any_of HT_.out (by kernel_rfl)) ⟨by rfl, ?_⟩ ?_ ?_
         rotate_left
         · intro w'
           go_simp
           with_reducible rfl
         rotate_left
         · simp only [Act.put, sA_, i64_w, i32_w]
           rfl
         refine pureY (i := 14) (N := some 36) (v := ?_) (a' := ?_) #[true, true, true, true, true, true, true, true, true, true, true, true, true, true, true, false, false, false, false] rfl rfl (any_of HT_.out (by kernel_rfl)) ⟨by rfl, ?_⟩ ?_ ?_
         rotate_left
         · intro w'
           go_simp
           with_reducible rfl
         rotate_left
         · simp only [Act.put, sA_, i64_w, i32_w]
           rfl
         refine takeY (i := 15) (N := some 37) (v := ?_) (a' := ?_) #[true, true, true, true, true, true, true, true, true, true, true, true, true, true, true, true, false, false, false] rfl rfl (take_ofW HT_.out HW_.out (by kernel_rfl)) ⟨by rfl, ?_⟩ hHeld ?_ ?_
         rotate_left
         · rintro w' ⟨s0, s1, s2, s3, s4, s5, s6, s7, s8, s9, s10, s11, s12, s13, s14, s15, s16, s17, s18⟩
           go_simp
           with_reducible rfl
         rotate_left
         · simp only [Act.put, sA_, i64_w, i32_w]
           rfl
         refine one_ (i := 16) (N := some 38) #[true, true, true, true, true, true, true, true, true, true, true, true, true, true, true, true, true, false, false] rfl rfl (one_of HT_.out (by kernel_rfl)) (by decide) (fun K hK => ?_)
         refine goes_ Tryd.func95 (by kernel_rfl) rfl #[.agg #[.int .i64 ((rd_T32 l0_0 (ji14)).f0.f0), .string ((rd_T32 l0_0 (ji14)).f0.f1)], .agg #[.int .i64 ((rd_T32 l0_0 x3_1).f0.f0), .string ((rd_T32 l0_0 x3_1).f0.f1)]] (by rfl) rfl rfl (by (try simp only [List.map_toArray, List.map_cons, List.map_nil]); first | done | (simp only [hji14]; rfl) | rfl | (simp only [List.length_drop, List.length_take]; rfl)) ?_
         with_reducible refine (spec_l4KeyLess.calls k1 ((rd_T32 l0_0 (ji14)).f0.f0) ((rd_T32 l0_0 (ji14)).f0.f1) ((rd_T32 l0_0 x3_1).f0.f0) ((rd_T32 l0_0 x3_1).f0.f1) t208 _ A17.out).mono ?_
         rintro e w20 ⟨rfl, hb⟩
         refine ⟨_, rfl, ?_⟩
         have hb1_ := fromQ HB.out hb
         have hb0_ := below_step hb1_ hb
         replace BK203 := kB BK203 hb0_
         replace HB := kH HB hb0_
         clear hb1_ hb0_
         (try clear hb)
         (try clear hb2)
         (try clear hk)
         (try clear hi)
         refine hK.out _ _ ⟨(blk_cell BK203.out 0).trans rfl, ((HB.out.cell (World.block_lt_of_cell? w _ hw206_0)).trans hw206_0), ((HB.out.cell (World.block_lt_of_cell? w _ hw206_1)).trans hw206_1), ((HB.out.cell (World.block_lt_of_cell? w _ hw206_2)).trans hw206_2), ((HB.out.cell (World.block_lt_of_cell? w _ hw206_3)).trans hw206_3), ((HB.out.cell (World.block_lt_of_cell? w _ hw206_4)).trans hw206_4), ((HB.out.cell (World.block_lt_of_cell? w _ hw206_5)).trans hw206_5), ((HB.out.cell (World.block_lt_of_cell? w _ hw206_6)).trans hw206_6), ((HB.out.cell (World.block_lt_of_cell? w _ hw206_7)).trans hw206_7), ((HB.out.cell (World.block_lt_of_cell? w _ hw206_8)).trans hw206_8), ((HB.out.cell (World.block_lt_of_cell? w _ hw207_0)).trans hw207_0), ((HB.out.cell (World.block_lt_of_cell? w _ hw207_1)).trans hw207_1), ((HB.out.cell (World.block_lt_of_cell? w _ hw207_2)).trans hw207_2), ((HB.out.cell (World.block_lt_of_cell? w _ hw207_3)).trans hw207_3), ((HB.out.cell (World.block_lt_of_cell? w _ hw207_4)).trans hw207_4), ((HB.out.cell (World.block_lt_of_cell? w _ hw207_5)).trans hw207_5), ((HB.out.cell (World.block_lt_of_cell? w _ hw207_6)).trans hw207_6), ((HB.out.cell (World.block_lt_of_cell? w _ hw207_7)).trans hw207_7), ((HB.out.cell (World.block_lt_of_cell? w _ hw207_8)).trans hw207_8)⟩ (fun hHeld => ?_)
         clear hK K
         refine norm_ (a' := ?_) ?_ ?_
         rotate_left
         · show Act.put _ (some 38) _ = _
           simp only [Act.put, sA_, i64_w, i32_w]
           rfl
         refine pureY (i := 17) (N := some 39) (v := ?_) (a' := ?_) #[true, true, true, true, true, true, true, true, true, true, true, true, true, true, true, true, true, true, false] rfl rfl (any_of HT_.out (by kernel_rfl)) ⟨by rfl, ?_⟩ ?_ ?_
         rotate_left
         · intro w'
           go_simp
           with_reducible rfl
         rotate_left
         · simp only [Act.put, sA_, i64_w, i32_w]
           rfl
         refine pureY (i := 18) (N := some 40) (v := ?_) (a' := ?_) #[true, true, true, true, true, true, true, true, true, true, true, true, true, true, true, true, true, true, true] rfl rfl (any_of HT_.out (by kernel_rfl)) ⟨by rfl, ?_⟩ ?_ ?_
         rotate_left
         · intro w'
           go_simp
           with_reducible rfl
         rotate_left
         · simp only [Act.put, sA_, i64_w, i32_w]
           rfl
         refine done_ (done_of HT_.out (by kernel_rfl)) ?_
         go_upto_if 40 with (fail)
         have H := HL18.out
         clear HL18
         by_cases c21 : t208 = true
         · subst c21
           have H1 : (spec_ValidTable.l0 k1 (wrap64 (x3_1 + 1)) l0_0) = some r := by rw [if_pos rfl] at H; exact H
           clear H
           have H := H1
           clear H1
           have H' := Aside0.mk H
           clear H
           go_wp2
           go_roundg k1
           case measure => have := HK1.out; omega
           case rel => exact ⟨(wrap64 (x3_1 + 1)), (by first | rfl | (simp; done) | (simp [*]; done)), H', ⟨by have := HK1.out; omega⟩, ⟨by (with_reducible repeat (first | refine blk_drewN ?_ _ | refine blk_drew ?_ | refine blk_alloc ?_ _)); exact BK203.out⟩, ⟨by repeat (first | (with_reducible first | exact HB.out | apply below_alloc | apply pw_below_drewN | apply below_drew1 | refine below_set ?_ GE203.out) | exact HB.out)⟩⟩
         replace c21 := Bool.eq_false_iff.mpr c21
         subst c21
         have H1 : (some false) = some r := by rw [if_neg (show ¬ (false = true) by decide)] at H; exact H
         clear H
         have H := H1
         clear H1
         obtain rfl := Option.some.inj H
         go_wp2
         go_ret
         exact ⟨by first | rfl | (simp [errW_none, errW_some] <;> rfl) | (simp only [← hji14]; first | rfl | (simp [errW_none, errW_some] <;> rfl)) | (simp [*, errW_none, errW_some] <;> rfl), by repeat (first | (with_reducible first | exact HB.out | apply below_alloc | apply pw_below_drewN | apply below_drew1 | refine below_set ?_ GE203.out) | exact HB.out)⟩
        rw [if_neg c16] at H
        exact absurd H (by simp)
       rw [if_neg c15] at H
       exact absurd H (by simp)
      rw [if_neg c13] at H
      have c13b0 : decide (0 < x3_1) = false := decide_eq_false c13
      clear c13
      have H' := Aside0.mk H
      clear H
      try go_wp2
      have n0_ := Aside0.mk (blk_drew BK203.out)
      have n1_ := Aside0.mk (below_drew1 HB.out)
      clear BK203
      clear HB
      have BK203 := n0_
      have HB := n1_
      clear n0_ n1_
      refine start_ (n := 19) (S := fun w' => True) (ds := []) #[false, false, false, false, false, false, false, false, false, false, false, false, false, false, false, false, false, false, false] (by kernel_rfl) rfl rfl trivial (fun hHeld => ?_); refine with_tabW spec_ValidTable.tab8 spec_ValidTable.bits8 (fun HT_ HW_ => ?_)
      generalize w11.drew = w22 at BK203 HB hHeld ⊢
      refine pureY (i := 0) (N := some 22) (v := ?_) (a' := ?_) #[true, false, false, false, false, false, false, false, false, false, false, false, false, false, false, false, false, false, false] rfl rfl (any_of HT_.out (by kernel_rfl)) ⟨by rfl, ?_⟩ ?_ ?_
      rotate_left
      · intro w'
        go_simp
        with_reducible rfl
      rotate_left
      · simp only [Act.put, sA_, i64_w, i32_w]
        rfl
      refine pureY (i := 1) (N := some 23) (v := ?_) (a' := ?_) #[true, true, false, false, false, false, false, false, false, false, false, false, false, false, false, false, false, false, false] rfl rfl (any_of HT_.out (by kernel_rfl)) ⟨by rfl, ?_⟩ ?_ ?_
      rotate_left
      · intro w'
        go_simp
        with_reducible rfl
      rotate_left
      · simp only [Act.put, sA_, i64_w, i32_w]
        rfl
      refine pureY (i := 2) (N := some 24) (v := ?_) (a' := ?_) #[true, true, true, false, false, false, false, false, false, false, false, false, false, false, false, false, false, false, false] rfl rfl (any_of HT_.out (by kernel_rfl)) ⟨by rfl, ?_⟩ ?_ ?_
      rotate_left
      · intro w'
        go_simp
        with_reducible rfl
      rotate_left
      · simp only [Act.put, sA_, i64_w, i32_w]
        rfl
      refine pureN (i := 3) (N := some 25) (a' := ?_) #[true, true, true, true, false, false, false, false, false, false, false, false, false, false, false, false, false, false, false] rfl rfl (any_of HT_.out (by kernel_rfl)) ?_ ?_
      rotate_left
      · simp only [Act.put, sA_, i64_w, i32_w]
        rfl
      refine pureN (i := 4) (N := some 26) (a' := ?_) #[true, true, true, true, true, false, false, false, false, false, false, false, false, false, false, false, false, false, false] rfl rfl (any_of HT_.out (by kernel_rfl)) ?_ ?_
      rotate_left
      · simp only [Act.put, sA_, i64_w, i32_w]
        rfl
      refine pureN (i := 5) (N := some 27) (a' := ?_) #[true, true, true, true, true, true, false, false, false, false, false, false, false, false, false, false, false, false, false] rfl rfl (any_of HT_.out (by kernel_rfl)) ?_ ?_
      rotate_left
      · simp only [Act.put, sA_, i64_w, i32_w]
        rfl
      refine pureN (i := 6) (N := some 28) (a' := ?_) #[true, true, true, true, true, true, true, false, false, false, false, false, false, false, false, false, false, false, false] rfl rfl (any_of HT_.out (by kernel_rfl)) ?_ ?_
      rotate_left
      · simp only [Act.put, sA_, i64_w, i32_w]
        rfl
      refine pureN (i := 7) (N := some 29) (a' := ?_) #[true, true, true, true, true, true, true, true, false, false, false, false, false, false, false, false, false, false, false] rfl rfl (any_of HT_.out (by kernel_rfl)) ?_ ?_
      rotate_left
      · simp only [Act.put, sA_, i64_w, i32_w]
        rfl
      refine pureN (i := 8) (N := some 30) (a' := ?_) #[true, true, true, true, true, true, true, true, true, false, false, false, false, false, false, false, false, false, false] rfl rfl (any_of HT_.out (by kernel_rfl)) ?_ ?_
      rotate_left
      · simp only [Act.put, sA_, i64_w, i32_w]
        rfl
      refine pureN (i := 9) (N := some 31) (a' := ?_) #[true, true, true, true, true, true, true, true, true, true, false, false, false, false, false, false, false, false, false] rfl rfl (any_of HT_.out (by kernel_rfl)) ?_ ?_
      rotate_left
      · simp only [Act.put, sA_, i64_w, i32_w]
        rfl
      refine pureN (i := 10) (N := some 32) (a' := ?_) #[true, true, true, true, true, true, true, true, true, true, true, false, false, false, false, false, false, false, false] rfl rfl (any_of HT_.out (by kernel_rfl)) ?_ ?_
      rotate_left
      · simp only [Act.put, sA_, i64_w, i32_w]
        rfl
      refine pureN (i := 11) (N := some 33) (a' := ?_) #[true, true, true, true, true, true, true, true, true, true, true, true, false, false, false, false, false, false, false] rfl rfl (any_of HT_.out (by kernel_rfl)) ?_ ?_
      rotate_left
      · simp only [Act.put, sA_, i64_w, i32_w]
        rfl
      refine pureN (i := 12) (N := some 34) (a' := ?_) #[true, true, true, true, true, true, true, true, true, true, true, true, true, false, false, false, false, false, false] rfl rfl (any_of HT_.out (by kernel_rfl)) ?_ ?_
      rotate_left
      · simp only [Act.put, sA_, i64_w, i32_w]
        rfl
      refine pureN (i := 13) (N := some 35) (a' := ?_) #[true, true, true, true, true, true, true, true, true, true, true, true, true, true, false, false, false, false, false] rfl rfl (any_of HT_.out (by kernel_rfl)) ?_ ?_
      rotate_left
      · simp only [Act.put, sA_, i64_w, i32_w]
        rfl
      refine pureN (i := 14) (N := some 36) (a' := ?_) #[true, true, true, true, true, true, true, true, true, true, true, true, true, true, true, false, false, false, false] rfl rfl (any_of HT_.out (by kernel_rfl)) ?_ ?_
      rotate_left
      · simp only [Act.put, sA_, i64_w, i32_w]
        rfl
      refine pureN (i := 15) (N := some 37) (a' := ?_) #[true, true, true, true, true, true, true, true, true, true, true, true, true, true, true, true, false, false, false] rfl rfl (any_of HT_.out (by kernel_rfl)) ?_ ?_
      rotate_left
      · simp only [Act.put, sA_, i64_w, i32_w]
        rfl
      refine pureN (i := 16) (N := some 38) (a' := ?_) #[true, true, true, true, true, true, true, true, true, true, true, true, true, true, true, true, true, false, false] rfl rfl (any_of HT_.out (by kernel_rfl)) ?_ ?_
      rotate_left
      · simp only [Act.put, sA_, i64_w, i32_w]
        rfl
      refine pureN (i := 17) (N := some 39) (a' := ?_) #[true, true, true, true, true, true, true, true, true, true, true, true, true, true, true, true, true, true, false] rfl rfl (any_of HT_.out (by kernel_rfl)) ?_ ?_
      rotate_left
      · simp only [Act.put, sA_, i64_w, i32_w]
        rfl
      refine pureY (i := 18) (N := some 40) (v := ?_) (a' := ?_) #[true, true, true, true, true, true, true, true, true, true, true, true, true, true, true, true, true, true, true] rfl rfl (any_of HT_.out (by kernel_rfl)) ⟨by rfl, ?_⟩ ?_ ?_
      rotate_left
      · intro w'
        go_simp
        with_reducible rfl
      rotate_left
      · simp only [Act.put, sA_, i64_w, i32_w]
        rfl
      refine done_ (done_of HT_.out (by kernel_rfl)) ?_
      try go_wp2
      go_roundg k1
      case measure => have := HK1.out; omega
      case rel => exact ⟨(wrap64 (x3_1 + 1)), (by first | rfl | (simp; done) | (simp [*]; done)), H', ⟨by have := HK1.out; omega⟩, ⟨by (with_reducible repeat (first | refine blk_drewN ?_ _ | refine blk_drew ?_ | refine blk_alloc ?_ _)); exact BK203.out⟩, ⟨by repeat (first | (with_reducible first | exact HB.out | apply below_alloc | apply pw_below_drewN | apply below_drew1 | refine below_set ?_ GE203.out) | exact HB.out)⟩⟩
     replace c12 := Bool.eq_false_iff.mpr c12
     subst c12
     have H1 : (some false) = some r := by rw [if_neg (show ¬ (false = true) by decide)] at H; exact H
     clear H
     have H := H1
     clear H1
     obtain rfl := Option.some.inj H
     go_wp2
     go_ret
     exact ⟨by first | rfl | (simp [errW_none, errW_some] <;> rfl) | (simp [*, errW_none, errW_some] <;> rfl), by repeat (first | (with_reducible first | exact HB.out | apply below_alloc | apply pw_below_drewN | apply below_drew1 | refine below_set ?_ GE203.out) | exact HB.out)⟩
    rw [if_neg c7] at H
    exact absurd H (by simp)
   rw [if_neg c6] at H
   have c6b0 : decide (x3_1 < (l0_0.length : Int)) = false := decide_eq_false c6
   clear c6
   obtain rfl := Option.some.inj H
   obtain ⟨hcz23_0, hfz23_0⟩ := bkA1 BK203.out
   go_wp2
   go_ret
   exact ⟨by first | rfl | (simp [errW_none, errW_some] <;> rfl) | (simp [*, errW_none, errW_some] <;> rfl), by repeat (first | (with_reducible first | exact HB.out | apply below_alloc | apply pw_below_drewN | apply below_drew1 | refine below_set ?_ GE203.out) | exact HB.out)⟩
def spec_l4WorkerOk.f (a0 : Int) : Option (Bool) := if a0 ≥ 0 then (some (decide (a0 < 16))) else (some false)
set_option maxHeartbeats 8000000 in
set_option maxRecDepth 100000 in
theorem spec_l4WorkerOk.calls (a0 : Int) (r : Bool) (w : World) (h : spec_l4WorkerOk.f a0 = some r) :
 Calls Tryd.prog 67 #[.int .i64 a0] w fun e w' => e = .returned (.bool r) ∧ Drawn0 w w' := by
 have H : (if a0 ≥ 0 then (some (decide (a0 < 16))) else (some false)) = some r := h
 clear h
 by_cases c2 : a0 ≥ 0
 ·
  rw [if_pos c2] at H
  have c2b0 : decide (0 ≤ a0) = true := decide_eq_true c2
  clear c2
  obtain rfl := Option.some.inj H
  go_enter Tryd.func67, Tryd.ntmps67
  go_wp2
  go_ret
  exact ⟨by first | rfl | (simp; done) | (simp [*]; done), by repeat (first | exact Drawn0.refl _ | apply Drawn0.step)⟩
 rw [if_neg c2] at H
 have c2b0 : decide (0 ≤ a0) = false := decide_eq_false c2
 clear c2
 obtain rfl := Option.some.inj H
 go_enter Tryd.func67, Tryd.ntmps67
 go_wp2
 go_ret
 exact ⟨by first | rfl | (simp; done) | (simp [*]; done), by repeat (first | exact Drawn0.refl _ | apply Drawn0.step)⟩
def spec_l4CopyKeys.l0 : Nat → List (S29) → List (S29) → Int → Option ((List (S29)))
 | 0, _, _, _ => none
 | k + 1, x0, x3, x4 => if x4 < (x0.length : Int) then (if 0 ≤ x4 then (if x3.length < 5864062014805 then (spec_l4CopyKeys.l0 k x0 (x3 ++ [(⟨(rd_T29 x0 x4).f0, (rd_T29 x0 x4).f1⟩ : S29)]) (wrap64 (x4 + 1))) else (none)) else (none)) else (some x3)
def spec_l4CopyKeys.f (k : Nat) (l0 : List (S29)) : Option ((List (S29))) := spec_l4CopyKeys.l0 k l0 (([] : List (S29))) 0
set_option maxHeartbeats 8000000 in
set_option maxRecDepth 100000 in
theorem spec_l4CopyKeys.calls (k : Nat) (A0 : Option Addr) (c0 : Nat) (l0 : List (S29)) (r : List (S29)) (w : World) (hr0 : Kd.C k29 w A0 l0.length l0) (hc0 : l0.length ≤ c0) (h : spec_l4CopyKeys.f k l0 = some r) :
 Calls Tryd.prog 121 #[.slice A0 l0.length c0] w fun e w' => ∃ v0_ : Value, e = .returned (v0_) ∧ Kd.R k29 29 w' w.heap.size (fun _ => True) v0_ r ∧ Below w.heap.size w w' := by
 have hu29 := Tryd.underlying29
 have HR0 := Aside0.mk hr0
 have HC0 := Aside0.mk hc0
 clear hr0 hc0
 have HB := Aside0.mk (Below.refl w.heap.size w)
 have H : (spec_l4CopyKeys.l0 k l0 (([] : List (S29))) 0) = some r := h
 clear h
 obtain ⟨y209, hy209⟩ : ∃ y_ : List (S29), y_ = (([] : List (S29))) := ⟨_, rfl⟩
 replace H : (spec_l4CopyKeys.l0 k l0 y209 0) = some r := by first | (rw [hy209]; with_reducible exact H) | (have H2_ := (Option.bind_some _ _).symm.trans H; rw [hy209]; with_reducible exact H2_) | (have H2_ := (Option.bind_some _ _).symm.trans H; with_reducible exact H2_) | with_reducible exact H | (rw [hy209]; exact H) | exact H
 have Ny209 := Aside0.mk hy209
 clear hy209
 have H' := Aside0.mk H
 clear H
 go_enter Tryd.func121, Tryd.ntmps121
 go_wp2_with (first | ((with_reducible refine gate_dst (N := 5) rfl ?_); refine Kd.R_lit k29 _ 29 ?hg (N := 5) ?hd (xs := ([] : List (S29))) (inner := []) (ok := fun _ => True) (okp := fun _ => True) ?hr ?hp (fun _ hk => hk) trivial (Below.refl _ _) (Nat.le_refl _) (by simp) ?_; (case hd => rfl); (case hg => rfl); (case hr => first | (go_simp; done) | (go_simp; rfl)); (case hp => exact (Reps.none _ _)); intro v210 w2 ho3 hb hg_ hnew_; clear hg_ hnew_; (first | rw [← Ny209.out] at ho3 | (simp only [Int.reduceToNat] at ho3; rw [← Ny209.out] at ho3)); have hb1_ := fromQ HB.out hb; have hb0_ := below_step hb1_ hb; have hW_ := below_step HB.out hb1_; have n0_ := Aside0.mk (Kd.R_lower ho3 (below_size hW_)); replace HB := kH HB hb0_; have HO211 := n0_; clear hb1_ hb0_ hW_ n0_; clear hb ho3))
 go_loopg [3, 4] k (fun kq v3 v4 w' => ∃ (x3_1 : List (S29)) (x4_1 : Int), v4 = .int .i64 x4_1 ∧ Aside0 (spec_l4CopyKeys.l0 kq l0 x3_1 x4_1 = some r) ∧ Aside0 (kq ≤ k) ∧ Aside0 (Kd.R k29 29 w' w.heap.size (fun _ => True) v3 x3_1) ∧ Aside0 (Below w.heap.size w w'))
 case atStart => exact ⟨(y209), (0), (by first | rfl | (simp; done) | (simp [*]; done)), H', ⟨Nat.le_refl _⟩, ⟨by (with_reducible repeat (first | apply Kd.R_alloc | apply Kd.R_drewN | apply Kd.R_drew)); exact HO211.out⟩, ⟨by repeat (first | (with_reducible first | exact HB.out | apply below_alloc | apply pw_below_drewN | apply below_drew1) | exact HB.out)⟩⟩
 case round =>
  clear H'
  try clear c1
  try clear p2
  obtain ⟨x3_1, x4_1, rfl, HA, HK1, HO_3, HB⟩ := hrel
  cases gk with
  | zero => exact absurd HA.out (by simp [spec_l4CopyKeys.l0])
  | succ k1 =>
   have H := HA.out
   clear HA
   simp only [spec_l4CopyKeys.l0] at H
   by_cases c4 : x4_1 < (l0.length : Int)
   ·
    rw [if_pos c4] at H
    have c4b0 : decide (x4_1 < (l0.length : Int)) = true := decide_eq_true c4
    clear c4
    by_cases c5 : 0 ≤ x4_1
    ·
     rw [if_pos c5] at H
     have c5b0 : decide (0 ≤ x4_1) = true := decide_eq_true c5
     clear c5
     by_cases c6 : x3_1.length < 5864062014805
     ·
      rw [if_pos c6] at H
      have LMc6 := Aside0.mk c6
      clear c6
      obtain ⟨y213, hy213⟩ : ∃ y_ : List (S29), y_ = (x3_1 ++ [(⟨(rd_T29 l0 x4_1).f0, (rd_T29 l0 x4_1).f1⟩ : S29)]) := ⟨_, rfl⟩
      replace H : (spec_l4CopyKeys.l0 k1 l0 y213 (wrap64 (x4_1 + 1))) = some r := by first | (rw [hy213]; with_reducible exact H) | (have H2_ := (Option.bind_some _ _).symm.trans H; rw [hy213]; with_reducible exact H2_) | (have H2_ := (Option.bind_some _ _).symm.trans H; with_reducible exact H2_) | with_reducible exact H | (rw [hy213]; exact H) | exact H
      have Ny213 := Aside0.mk hy213
      clear hy213
      have H' := Aside0.mk H
      clear H
      have p212 : 0 ≤ (x4_1 : Int) := of_decide_eq_true (by first | (with_reducible assumption) | assumption)
      have q212 : x4_1 < (l0.length : Int) := of_decide_eq_true (by first | (with_reducible assumption) | assumption)
      obtain ⟨ad212, e212, hx212_0, hx212_1⟩ := at_T29 HR0.out x4_1 p212 q212
      cases e212
      replace hx212_0 := bcl HB hx212_0
      replace hx212_1 := bcl HB hx212_1
      replace p212 := eq_true p212
      replace q212 := eq_true q212
      go_wp2_with (first | ((with_reducible refine gate_builtin (b := .append) (xs := #[.tmp 12, .tmp 17]) rfl ?_); at_builtin; refine Kd.R_append k29 (w0 := w) w.heap.size rfl (.tmp 12) (.tmp 17) 30 29 (.agg #[(.int .i64 0), (.string ⟨#[]⟩)]) 24 rfl Tryd.underlying30 info29 rfl (by decide) (by omega) u3 x3_1 (⟨(rd_T29 l0 x4_1).f0, (rd_T29 l0 x4_1).f1⟩ : S29) [.int .i64 ((rd_T29 l0 x4_1).f0), .string ((rd_T29 l0 x4_1).f1)] (fun _ => True) (fun _ => False) rfl rfl ?aP (fun _ hk => hk.elim) ?aF ?aO ?aB ?aS ?aL ?_; (case aP => exact k29_mkM _ _ _ (⟨(rd_T29 l0 x4_1).f0, (rd_T29 l0 x4_1).f1⟩ : S29)); (case aB => exact (by repeat (first | (with_reducible first | exact HB.out | apply below_alloc | apply pw_below_drewN | apply below_drew1) | exact HB.out))); (case aF => exact (fun _ _ => trivial)); (case aO => exact (by (with_reducible repeat (first | apply Kd.R_alloc | apply Kd.R_drewN | apply Kd.R_drew)); exact HO_3.out)); (case aS => exact (below_size (by repeat (first | (with_reducible first | exact HB.out | apply below_alloc | apply pw_below_drewN | apply below_drew1) | exact HB.out)))); (case aL => have := LMc6.out; omega); intro v214 w7 ho hb hg hat; rw [← Ny213.out] at ho; have n0_ := Aside0.mk (hb); have n1_ := Aside0.mk (ho); clear HB; clear HO_3; have HB := n0_; have HO215 := n1_; clear n0_ n1_; clear ho hb hg hat))
      go_roundg k1
      case measure => have := HK1.out; omega
      case rel => exact ⟨(y213), (wrap64 (x4_1 + 1)), (by first | rfl | (simp; done) | (simp [*]; done)), H', ⟨by have := HK1.out; omega⟩, ⟨by (with_reducible repeat (first | apply Kd.R_alloc | apply Kd.R_drewN | apply Kd.R_drew)); exact HO215.out⟩, ⟨by repeat (first | (with_reducible first | exact HB.out | apply below_alloc | apply pw_below_drewN | apply below_drew1) | exact HB.out)⟩⟩
     rw [if_neg c6] at H
     exact absurd H (by simp)
    rw [if_neg c5] at H
    exact absurd H (by simp)
   rw [if_neg c4] at H
   have c4b0 : decide (x4_1 < (l0.length : Int)) = false := decide_eq_false c4
   clear c4
   obtain rfl := Option.some.inj H
   go_wp2
   go_ret
   exact ⟨_, by first | rfl | (simp [errW_none, errW_some] <;> rfl) | (simp [*, errW_none, errW_some] <;> rfl), by (with_reducible repeat (first | apply Kd.R_alloc | apply Kd.R_drewN | apply Kd.R_drew)); exact HO_3.out, by repeat (first | (with_reducible first | exact HB.out | apply below_alloc | apply pw_below_drewN | apply below_drew1) | exact HB.out)⟩
end Go.Proofs.YtnbohlcibgfjaaaDoor.Gp
end
