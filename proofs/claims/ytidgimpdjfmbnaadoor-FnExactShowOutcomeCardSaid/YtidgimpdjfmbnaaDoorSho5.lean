/- A part of the proof of RowFnExactShowOutcome: each text's theorems that it needs, packed by shake.py, a program of this work; Lean checks them. -/
import Derived.Test.YtidgimpdjfmbnaaDoorSho2
import Derived.Test.YtidgimpdjfmbnaaDoorSho4
section
namespace Go.Proofs.YtidgimpdjfmbnaaDoor.Gp
open Go.RowKit Go.Proofs.YtidgimpdjfmbnaaDoorW.PrintWords Go.Proofs.YtidgimpdjfmbnaaDoorW.PrintLast Go.Proofs.YtidgimpdjfmbnaaDoorW.PrintMore
set_option linter.unusedVariables false
set_option linter.unusedSimpArgs false
mutual
def spec_ShowOutcome.l0 : Nat → List Int → Int → Int → List (S77) → List (S85) → Int → Int → Int → List (S187) → Option (ByteArray)
  | 0, _, _, _, _, _, _, _, _, _ => none
  | k + 1, x3, x4, x130000, x130001, x130002, x130003, x130004, x130005, x130006 => if x4 < (x130001.length : Int) then (if 0 ≤ x4 then ((spec_l2Show.f k ((rd_T77 x130001 x4).f0)).bind fun t135 => (if 7 + t135.size ≤ 9223372036854775807 then (if ((⟨#[97, 110, 115, 119, 101, 114, 32]⟩ : ByteArray) ++ t135).size + 1 ≤ 9223372036854775807 then (if (((⟨#[97, 110, 115, 119, 101, 114, 32]⟩ : ByteArray) ++ t135) ++ (⟨#[32]⟩ : ByteArray)).size + ((rd_T77 x130001 x4).f1).size ≤ 9223372036854775807 then (if ((((⟨#[97, 110, 115, 119, 101, 114, 32]⟩ : ByteArray) ++ t135) ++ (⟨#[32]⟩ : ByteArray)) ++ ((rd_T77 x130001 x4).f1)).size + 1 ≤ 9223372036854775807 then ((spec_l2Show.f k ((rd_T77 x130001 x4).f2)).bind fun t136 => (if (((((⟨#[97, 110, 115, 119, 101, 114, 32]⟩ : ByteArray) ++ t135) ++ (⟨#[32]⟩ : ByteArray)) ++ ((rd_T77 x130001 x4).f1)) ++ (⟨#[32]⟩ : ByteArray)).size + t136.size ≤ 9223372036854775807 then ((spec_l6Put.f k x3 ((((((⟨#[97, 110, 115, 119, 101, 114, 32]⟩ : ByteArray) ++ t135) ++ (⟨#[32]⟩ : ByteArray)) ++ ((rd_T77 x130001 x4).f1)) ++ (⟨#[32]⟩ : ByteArray)) ++ t136)).bind fun t137 => (if (rd_T77 x130001 x4).f3 = true then ((spec_l6Put.f k t137 (⟨#[32, 102, 117, 108, 108]⟩ : ByteArray)).bind fun t140 => (spec_ShowOutcome.j1 k t140 x4 x130000 x130001 x130002 x130003 x130004 x130005 x130006 ((rd_T77 x130001 x4).f0) ((rd_T77 x130001 x4).f1) ((rd_T77 x130001 x4).f2) ((rd_T77 x130001 x4).f3) ((rd_T77 x130001 x4).f4))) else (spec_ShowOutcome.j1 k t137 x4 x130000 x130001 x130002 x130003 x130004 x130005 x130006 ((rd_T77 x130001 x4).f0) ((rd_T77 x130001 x4).f1) ((rd_T77 x130001 x4).f2) ((rd_T77 x130001 x4).f3) ((rd_T77 x130001 x4).f4)))) else (none))) else (none)) else (none)) else (none)) else (none))) else (none)) else (spec_ShowOutcome.l2 k x3 0 x130000 x130001 x130002 x130003 x130004 x130005 x130006)
def spec_ShowOutcome.j1 : Nat → List Int → Int → Int → List (S77) → List (S85) → Int → Int → Int → List (S187) → Int → ByteArray → Int → Bool → List (S81) → Option (ByteArray)
  | 0, _, _, _, _, _, _, _, _, _, _, _, _, _, _ => none
  | k + 1, x3, x4, x130000, x130001, x130002, x130003, x130004, x130005, x130006, x135000, x135001, x135002, x135003, x135004 => spec_ShowOutcome.l1 k x3 x4 0 x130000 x130001 x130002 x130003 x130004 x130005 x130006 x135000 x135001 x135002 x135003 x135004
def spec_ShowOutcome.l1 : Nat → List Int → Int → Int → Int → List (S77) → List (S85) → Int → Int → Int → List (S187) → Int → ByteArray → Int → Bool → List (S81) → Option (ByteArray)
  | 0, _, _, _, _, _, _, _, _, _, _, _, _, _, _, _ => none
  | k + 1, x3, x4, x6, x130000, x130001, x130002, x130003, x130004, x130005, x130006, x135000, x135001, x135002, x135003, x135004 => if x6 < (x135004.length : Int) then (if 0 ≤ x6 then ((spec_l2Show.f k ((rd_T81 x135004 x6).f0)).bind fun t144 => (if 1 + t144.size ≤ 9223372036854775807 then (if ((⟨#[32]⟩ : ByteArray) ++ t144).size + 1 ≤ 9223372036854775807 then ((spec_l2Show.f k ((rd_T81 x135004 x6).f1)).bind fun t146 => (if (((⟨#[32]⟩ : ByteArray) ++ t144) ++ (⟨#[58]⟩ : ByteArray)).size + t146.size ≤ 9223372036854775807 then ((spec_l6Put.f k x3 ((((⟨#[32]⟩ : ByteArray) ++ t144) ++ (⟨#[58]⟩ : ByteArray)) ++ t146)).bind fun t147 => (spec_ShowOutcome.l1 k t147 x4 (wrap64 (x6 + 1)) x130000 x130001 x130002 x130003 x130004 x130005 x130006 x135000 x135001 x135002 x135003 x135004)) else (none))) else (none)) else (none))) else (none)) else ((spec_l6Put.f k x3 (⟨#[10]⟩ : ByteArray)).bind fun t150 => (spec_ShowOutcome.l0 k t150 (wrap64 (x4 + 1)) x130000 x130001 x130002 x130003 x130004 x130005 x130006))
def spec_ShowOutcome.l2 : Nat → List Int → Int → Int → List (S77) → List (S85) → Int → Int → Int → List (S187) → Option (ByteArray)
  | 0, _, _, _, _, _, _, _, _, _ => none
  | k + 1, x3, x7, x130000, x130001, x130002, x130003, x130004, x130005, x130006 => if x7 < (x130002.length : Int) then (if 0 ≤ x7 then ((spec_l6Kind.f ((rd_T85 x130002 x7).f0.f0)).bind fun t155 => (if 4 + t155.size ≤ 9223372036854775807 then (if ((⟨#[114, 97, 110, 32]⟩ : ByteArray) ++ t155).size + 1 ≤ 9223372036854775807 then (if (((⟨#[114, 97, 110, 32]⟩ : ByteArray) ++ t155) ++ (⟨#[32]⟩ : ByteArray)).size + ((rd_T85 x130002 x7).f0.f1).size ≤ 9223372036854775807 then (if ((((⟨#[114, 97, 110, 32]⟩ : ByteArray) ++ t155) ++ (⟨#[32]⟩ : ByteArray)) ++ ((rd_T85 x130002 x7).f0.f1)).size + 1 ≤ 9223372036854775807 then ((spec_l2Show.f k ((rd_T85 x130002 x7).f1)).bind fun t156 => (if (((((⟨#[114, 97, 110, 32]⟩ : ByteArray) ++ t155) ++ (⟨#[32]⟩ : ByteArray)) ++ ((rd_T85 x130002 x7).f0.f1)) ++ (⟨#[32]⟩ : ByteArray)).size + t156.size ≤ 9223372036854775807 then (if ((((((⟨#[114, 97, 110, 32]⟩ : ByteArray) ++ t155) ++ (⟨#[32]⟩ : ByteArray)) ++ ((rd_T85 x130002 x7).f0.f1)) ++ (⟨#[32]⟩ : ByteArray)) ++ t156).size + 1 ≤ 9223372036854775807 then ((spec_l2Show.f k ((rd_T85 x130002 x7).f2)).bind fun t157 => (if (((((((⟨#[114, 97, 110, 32]⟩ : ByteArray) ++ t155) ++ (⟨#[32]⟩ : ByteArray)) ++ ((rd_T85 x130002 x7).f0.f1)) ++ (⟨#[32]⟩ : ByteArray)) ++ t156) ++ (⟨#[32]⟩ : ByteArray)).size + t157.size ≤ 9223372036854775807 then (if ((((((((⟨#[114, 97, 110, 32]⟩ : ByteArray) ++ t155) ++ (⟨#[32]⟩ : ByteArray)) ++ ((rd_T85 x130002 x7).f0.f1)) ++ (⟨#[32]⟩ : ByteArray)) ++ t156) ++ (⟨#[32]⟩ : ByteArray)) ++ t157).size + 1 ≤ 9223372036854775807 then ((spec_l6Put.f k x3 (((((((((⟨#[114, 97, 110, 32]⟩ : ByteArray) ++ t155) ++ (⟨#[32]⟩ : ByteArray)) ++ ((rd_T85 x130002 x7).f0.f1)) ++ (⟨#[32]⟩ : ByteArray)) ++ t156) ++ (⟨#[32]⟩ : ByteArray)) ++ t157) ++ (⟨#[10]⟩ : ByteArray))).bind fun t158 => (spec_ShowOutcome.l2 k t158 (wrap64 (x7 + 1)) x130000 x130001 x130002 x130003 x130004 x130005 x130006)) else (none)) else (none))) else (none)) else (none))) else (none)) else (none)) else (none)) else (none))) else (none)) else ((spec_l2Show.f k x130000).bind fun t161 => (if 4 + t161.size ≤ 9223372036854775807 then (if ((⟨#[101, 110, 100, 32]⟩ : ByteArray) ++ t161).size + 1 ≤ 9223372036854775807 then ((spec_l2Show.f k x130004).bind fun t162 => (if (((⟨#[101, 110, 100, 32]⟩ : ByteArray) ++ t161) ++ (⟨#[32]⟩ : ByteArray)).size + t162.size ≤ 9223372036854775807 then (if ((((⟨#[101, 110, 100, 32]⟩ : ByteArray) ++ t161) ++ (⟨#[32]⟩ : ByteArray)) ++ t162).size + 1 ≤ 9223372036854775807 then ((spec_l2Show.f k x130003).bind fun t163 => (if (((((⟨#[101, 110, 100, 32]⟩ : ByteArray) ++ t161) ++ (⟨#[32]⟩ : ByteArray)) ++ t162) ++ (⟨#[32]⟩ : ByteArray)).size + t163.size ≤ 9223372036854775807 then (if ((((((⟨#[101, 110, 100, 32]⟩ : ByteArray) ++ t161) ++ (⟨#[32]⟩ : ByteArray)) ++ t162) ++ (⟨#[32]⟩ : ByteArray)) ++ t163).size + 1 ≤ 9223372036854775807 then ((spec_l2Show.f k x130005).bind fun t164 => (if (((((((⟨#[101, 110, 100, 32]⟩ : ByteArray) ++ t161) ++ (⟨#[32]⟩ : ByteArray)) ++ t162) ++ (⟨#[32]⟩ : ByteArray)) ++ t163) ++ (⟨#[32]⟩ : ByteArray)).size + t164.size ≤ 9223372036854775807 then (if ((((((((⟨#[101, 110, 100, 32]⟩ : ByteArray) ++ t161) ++ (⟨#[32]⟩ : ByteArray)) ++ t162) ++ (⟨#[32]⟩ : ByteArray)) ++ t163) ++ (⟨#[32]⟩ : ByteArray)) ++ t164).size + 1 ≤ 9223372036854775807 then ((spec_l6Put.f k x3 (((((((((⟨#[101, 110, 100, 32]⟩ : ByteArray) ++ t161) ++ (⟨#[32]⟩ : ByteArray)) ++ t162) ++ (⟨#[32]⟩ : ByteArray)) ++ t163) ++ (⟨#[32]⟩ : ByteArray)) ++ t164) ++ (⟨#[10]⟩ : ByteArray))).bind fun t165 => (some (strOfNums t165))) else (none)) else (none))) else (none)) else (none))) else (none)) else (none))) else (none)) else (none)))
end
def spec_ShowOutcome.f (k : Nat) (a0_0 : Int) (l0_1 : List (S77)) (l0_2 : List (S85)) (a0_3 : Int) (a0_4 : Int) (a0_5 : Int) (l0_6 : List (S187)) : Option (ByteArray) := spec_ShowOutcome.l0 k (([] : List Int)) 0 a0_0 l0_1 l0_2 a0_3 a0_4 a0_5 l0_6
def spec_ShowOutcome.T6 : Bool × List (List Nat × List Nat) := (true, [([], []), ([], []), ([1], [1]), ([2], [2]), ([3], [3]), ([4], [4]), ([], []), ([6], [6]), ([5, 7], [5, 7]), ([8], [8]), ([], []), ([10], [10]), ([11, 3], [11]), ([9, 12], [9, 12]), ([0, 13, 12], [0, 13]), ([14, 14, 0, 1, 2, 3, 4, 5, 6, 7, 8, 9, 10, 11, 12, 13, 14], [0, 14])])
def spec_ShowOutcome.B6 : List Nat := [0, 0, 2, 6, 14, 30, 0, 64, 254, 510, 0, 1024, 3086, 8190, 16383, 32767]
theorem spec_ShowOutcome.tab6 : rtab .any (opsOf Tryd.f10 6) = spec_ShowOutcome.T6 := by kernel_rfl
theorem spec_ShowOutcome.bits6 : waitsOk spec_ShowOutcome.T6.2 spec_ShowOutcome.B6 = true := by kernel_rfl
def spec_ShowOutcome.T12 : Bool × List (List Nat × List Nat) := (true, [([], []), ([], []), ([1], [1]), ([], []), ([2, 3], [2, 3]), ([4], [4]), ([5], [5]), ([6], [6]), ([7], [7]), ([8], [8]), ([], []), ([10], [10]), ([], []), ([11, 12], [11, 12]), ([13], [13]), ([14], [14]), ([15, 7], [15]), ([9, 16], [9, 16]), ([0, 17, 16], [0, 17]), ([18, 18, 0, 1, 2, 3, 4, 5, 6, 7, 8, 9, 10, 11, 12, 13, 14, 15, 16, 17, 18], [0, 18])])
def spec_ShowOutcome.B12 : List Nat := [0, 0, 2, 0, 14, 30, 62, 126, 254, 510, 0, 1024, 0, 7168, 15360, 31744, 64766, 131070, 262143, 524287]
theorem spec_ShowOutcome.tab12 : rtab .any (opsOf Tryd.f10 12) = spec_ShowOutcome.T12 := by kernel_rfl
theorem spec_ShowOutcome.bits12 : waitsOk spec_ShowOutcome.T12.2 spec_ShowOutcome.B12 = true := by kernel_rfl
def spec_ShowOutcome.T18 : Bool × List (List Nat × List Nat) := (true, [([], []), ([], []), ([1], [1]), ([2], [2]), ([3], [3]), ([4], [4]), ([5], [5]), ([], []), ([7], [7]), ([8], [8]), ([6, 9], [6, 9]), ([10], [10]), ([], []), ([12], [12]), ([13, 4], [13]), ([11, 14], [11, 14]), ([15], [15]), ([], []), ([17], [17]), ([18, 14], [18]), ([16, 19], [16, 19]), ([20], [20]), ([0, 21, 19], [0, 21]), ([22, 22, 0, 1, 2, 3, 4, 5, 6, 7, 8, 9, 10, 11, 12, 13, 14, 15, 16, 17, 18, 19, 20, 21, 22], [0, 22])])
def spec_ShowOutcome.B18 : List Nat := [0, 0, 2, 6, 14, 30, 62, 0, 128, 384, 1022, 2046, 0, 4096, 12318, 32766, 65534, 0, 131072, 421918, 1048574, 2097150, 4194303, 8388607]
theorem spec_ShowOutcome.tab18 : rtab .any (opsOf Tryd.f10 18) = spec_ShowOutcome.T18 := by kernel_rfl
theorem spec_ShowOutcome.bits18 : waitsOk spec_ShowOutcome.T18.2 spec_ShowOutcome.B18 = true := by kernel_rfl
def spec_ShowOutcome.T19 : Bool × List (List Nat × List Nat) := (true, [([], []), ([], []), ([1], [1]), ([2], [2]), ([3], [3]), ([4], [4]), ([], []), ([6], [6]), ([7, 3], [7]), ([5, 8], [5, 8]), ([9], [9]), ([], []), ([11], [11]), ([12, 8], [12]), ([10, 13], [10, 13]), ([14], [14]), ([], []), ([16], [16]), ([17, 13], [17]), ([15, 18], [15, 18]), ([19], [19]), ([0, 20, 18], [0, 20]), ([21], [21]), ([22, 21, 0, 1, 2, 3, 4, 5, 6, 7, 8, 9, 10, 11, 12, 13, 14, 15, 16, 17, 18, 19, 20, 21, 22], [22])])
def spec_ShowOutcome.B19 : List Nat := [0, 0, 2, 6, 14, 30, 0, 64, 206, 510, 1022, 0, 2048, 6606, 16382, 32766, 0, 65536, 211406, 524286, 1048574, 2097151, 4194303, 8388607]
theorem spec_ShowOutcome.tab19 : rtab .any (opsOf Tryd.f10 19) = spec_ShowOutcome.T19 := by kernel_rfl
theorem spec_ShowOutcome.bits19 : waitsOk spec_ShowOutcome.T19.2 spec_ShowOutcome.B19 = true := by kernel_rfl
set_option maxHeartbeats 8000000 in
set_option maxRecDepth 100000 in
theorem spec_ShowOutcome.calls (k : Nat) (a0_0 : Int) (A0_1 : Option Addr) (c0_1 : Nat) (l0_1 : List (S77)) (A0_2 : Option Addr) (c0_2 : Nat) (l0_2 : List (S85)) (a0_3 : Int) (a0_4 : Int) (a0_5 : Int) (A0_6 : Option Addr) (c0_6 : Nat) (l0_6 : List (S187)) (r : ByteArray) (w : World) (hr0_1 : Kd.C k77 w A0_1 l0_1.length l0_1) (hc0_1 : l0_1.length ≤ c0_1) (hr0_2 : Kd.C k85 w A0_2 l0_2.length l0_2) (hc0_2 : l0_2.length ≤ c0_2) (hr0_6 : Kd.C k187 w A0_6 l0_6.length l0_6) (hc0_6 : l0_6.length ≤ c0_6) (h : spec_ShowOutcome.f k a0_0 l0_1 l0_2 a0_3 a0_4 a0_5 l0_6 = some r) :
    Calls Tryd.prog 10 #[.agg #[.int .i64 a0_0, .slice A0_1 l0_1.length c0_1, .slice A0_2 l0_2.length c0_2, .int .i64 a0_3, .int .i64 a0_4, .int .i64 a0_5, .slice A0_6 l0_6.length c0_6]] w fun e w' => e = .returned (.string r) ∧ Below w.heap.size w w' := by
  have hu37 := Tryd.underlying37
  have hu77 := Tryd.underlying77
  have hu85 := Tryd.underlying85
  have HR0_1 := Aside0.mk hr0_1
  have HC0_1 := Aside0.mk hc0_1
  clear hr0_1 hc0_1
  have HR0_2 := Aside0.mk hr0_2
  have HC0_2 := Aside0.mk hc0_2
  clear hr0_2 hc0_2
  have HR0_6 := Aside0.mk hr0_6
  have HC0_6 := Aside0.mk hc0_6
  clear hr0_6 hc0_6
  have HB := Aside0.mk (Below.refl w.heap.size w)
  have H : (spec_ShowOutcome.l0 k (([] : List Int)) 0 a0_0 l0_1 l0_2 a0_3 a0_4 a0_5 l0_6) = some r := h
  clear h
  obtain ⟨y130, hy130⟩ : ∃ y_ : List Int, y_ = (([] : List Int)) := ⟨_, rfl⟩
  replace H : (spec_ShowOutcome.l0 k y130 0 a0_0 l0_1 l0_2 a0_3 a0_4 a0_5 l0_6) = some r := by first | (rw [hy130]; with_reducible exact H) | (have H2_ := (Option.bind_some _ _).symm.trans H; rw [hy130]; with_reducible exact H2_) | (have H2_ := (Option.bind_some _ _).symm.trans H; with_reducible exact H2_) | with_reducible exact H | (rw [hy130]; exact H) | exact H
  have Ny130 := Aside0.mk hy130
  clear hy130
  have H' := Aside0.mk H
  clear H
  go_enter Tryd.func10, Tryd.ntmps10
  go_wp2_with (first | ((with_reducible refine gate_dst (N := 1) rfl ?_); refine box_event ?hg (N := 1) ?hd (cs := #[.int .i64 a0_0, .slice A0_1 l0_1.length c0_1, .slice A0_2 l0_2.length c0_2, .int .i64 a0_3, .int .i64 a0_4, .int .i64 a0_5, .slice A0_6 l0_6.length c0_6]) (t := 37) ?hr ?_; (case hd => rfl); (case hg => rfl); (case hr => first | (go_simp; done) | (go_simp; rfl)); intro gb129 hg w2 hbox hb; have hb1_ := fromP HB.out hb (by repeat (first | (with_reducible exact Below.refl _ _) | apply below_alloc | apply pw_below_drewN | apply below_drew1)); have hb0_ := below_step hb1_ hb; have hW_ := below_step HB.out hb1_; have n1_ := Aside0.mk (hbox); have n2_ := Aside0.mk ((by rw [hg]; exact (below_size hW_) : w.heap.size ≤ gb129)); have n3_ := Aside0.mk ((by rw [hg]; exact (below_size hW_) : w.heap.size ≤ gb129)); replace HB := kH HB hb0_; have BK129 := n1_; have GW129 := n2_; have GE129 := n3_; clear hb1_ hb0_ hW_ n1_ n2_ n3_; clear hb hbox hg) | ((with_reducible refine gate_dst (N := 9) rfl ?_); refine Kd.R_lit (Kd.int .u8) _ 5 ?hg (N := 9) ?hd (xs := ([] : List Int)) (inner := []) (ok := fun _ => True) (okp := fun _ => True) ?hr ?hp (fun _ hk => hk) trivial (Below.refl _ _) (Nat.le_refl _) (by simp) ?_; (case hd => rfl); (case hg => rfl); (case hr => first | (go_simp; done) | (go_simp; rfl)); (case hp => exact (Reps.none _ _)); intro v131 w3 ho4 hb hg_ hnew_; clear hg_ hnew_; (first | rw [← Ny130.out] at ho4 | (simp only [Int.reduceToNat] at ho4; rw [← Ny130.out] at ho4)); have hb1_ := fromP HB.out hb (by repeat (first | (with_reducible exact Below.refl _ _) | apply below_alloc | apply pw_below_drewN | apply below_drew1)); have hb0_ := below_step hb1_ hb; have hW_ := below_step HB.out hb1_; have n0_ := Aside0.mk (Kd.R_lower ho4 (below_size hW_)); replace BK129 := kB BK129 hb0_; replace HB := kH HB hb0_; have HO132 := n0_; clear hb1_ hb0_ hW_ n0_; clear hb ho4))
  go_loopg [3, 4] k (fun kq v3 v4 w' => ∃ (x3_1 : List Int) (x4_1 : Int), v4 = .int .i64 x4_1 ∧ Aside0 (spec_ShowOutcome.l0 kq x3_1 x4_1 a0_0 l0_1 l0_2 a0_3 a0_4 a0_5 l0_6 = some r) ∧ Aside0 (kq ≤ k) ∧ Aside0 (Kd.R (Kd.int .u8) 5 w' w.heap.size (fun _ => True) v3 x3_1) ∧ Aside0 (w'.heap[gb129]? = some (.cells #[.int .i64 a0_0, (.slice A0_1 l0_1.length c0_1), (.slice A0_2 l0_2.length c0_2), .int .i64 a0_3, .int .i64 a0_4, .int .i64 a0_5, (.slice A0_6 l0_6.length c0_6)] 37 (0, 0))) ∧ Aside0 (Below w.heap.size w w'))
  case atStart => exact ⟨(y130), (0), (by first | rfl | (simp; done) | (simp [*]; done)), H', ⟨Nat.le_refl _⟩, ⟨by (with_reducible repeat (first | apply Kd.R_alloc | apply Kd.R_drewN | apply Kd.R_drew)); exact HO132.out⟩, ⟨by (with_reducible repeat (first | refine blk_drewN ?_ _ | refine blk_drew ?_ | refine blk_alloc ?_ _)); exact BK129.out⟩, ⟨by repeat (first | (with_reducible first | exact HB.out | apply below_alloc | apply pw_below_drewN | apply below_drew1 | refine below_set ?_ GE129.out) | exact HB.out)⟩⟩
  case round =>
    clear H'
    try clear c1
    try clear p2
    obtain ⟨x3_1, x4_1, rfl, HA, HK1, HO_3, BK129, HB⟩ := hrel
    cases gk with
    | zero => exact absurd HA.out (by simp [spec_ShowOutcome.l0])
    | succ k1 =>
      have H := HA.out
      clear HA
      simp only [spec_ShowOutcome.l0] at H
      by_cases c5 : x4_1 < (l0_1.length : Int)
      · rw [if_pos c5] at H
        have c5b0 : decide (x4_1 < (l0_1.length : Int)) = true := decide_eq_true c5
        clear c5
        by_cases c6 : 0 ≤ x4_1
        · rw [if_pos c6] at H
          have c6b0 : decide (0 ≤ x4_1) = true := decide_eq_true c6
          clear c6
          replace H := Option.bind_eq_some_iff.mp H
          obtain ⟨t135, A70, H⟩ := H
          replace H : (if 7 + t135.size ≤ 9223372036854775807 then (if ((⟨#[97, 110, 115, 119, 101, 114, 32]⟩ : ByteArray) ++ t135).size + 1 ≤ 9223372036854775807 then (if (((⟨#[97, 110, 115, 119, 101, 114, 32]⟩ : ByteArray) ++ t135) ++ (⟨#[32]⟩ : ByteArray)).size + ((rd_T77 l0_1 x4_1).f1).size ≤ 9223372036854775807 then (if ((((⟨#[97, 110, 115, 119, 101, 114, 32]⟩ : ByteArray) ++ t135) ++ (⟨#[32]⟩ : ByteArray)) ++ ((rd_T77 l0_1 x4_1).f1)).size + 1 ≤ 9223372036854775807 then ((spec_l2Show.f k1 ((rd_T77 l0_1 x4_1).f2)).bind fun t136 => (if (((((⟨#[97, 110, 115, 119, 101, 114, 32]⟩ : ByteArray) ++ t135) ++ (⟨#[32]⟩ : ByteArray)) ++ ((rd_T77 l0_1 x4_1).f1)) ++ (⟨#[32]⟩ : ByteArray)).size + t136.size ≤ 9223372036854775807 then ((spec_l6Put.f k1 x3_1 ((((((⟨#[97, 110, 115, 119, 101, 114, 32]⟩ : ByteArray) ++ t135) ++ (⟨#[32]⟩ : ByteArray)) ++ ((rd_T77 l0_1 x4_1).f1)) ++ (⟨#[32]⟩ : ByteArray)) ++ t136)).bind fun t137 => (if (rd_T77 l0_1 x4_1).f3 = true then ((spec_l6Put.f k1 t137 (⟨#[32, 102, 117, 108, 108]⟩ : ByteArray)).bind fun t140 => (spec_ShowOutcome.j1 k1 t140 x4_1 a0_0 l0_1 l0_2 a0_3 a0_4 a0_5 l0_6 ((rd_T77 l0_1 x4_1).f0) ((rd_T77 l0_1 x4_1).f1) ((rd_T77 l0_1 x4_1).f2) ((rd_T77 l0_1 x4_1).f3) ((rd_T77 l0_1 x4_1).f4))) else (spec_ShowOutcome.j1 k1 t137 x4_1 a0_0 l0_1 l0_2 a0_3 a0_4 a0_5 l0_6 ((rd_T77 l0_1 x4_1).f0) ((rd_T77 l0_1 x4_1).f1) ((rd_T77 l0_1 x4_1).f2) ((rd_T77 l0_1 x4_1).f3) ((rd_T77 l0_1 x4_1).f4)))) else (none))) else (none)) else (none)) else (none)) else (none)) = some r := H
          have A7 := Aside0.mk A70
          clear A70
          by_cases c8 : 7 + t135.size ≤ 9223372036854775807
          · rw [if_pos c8] at H
            have c8b0 := eq_true c8
            have c8b1 : decide (7 + t135.size ≤ 9223372036854775807) = true := decide_eq_true c8
            try have c8b2 : (9223372036854775807 < 7 + t135.size) = False := eq_false (Nat.not_lt.2 c8)
            by_cases c9 : ((⟨#[97, 110, 115, 119, 101, 114, 32]⟩ : ByteArray) ++ t135).size + 1 ≤ 9223372036854775807
            · rw [if_pos c9] at H
              have c9b0 := eq_true c9
              have c9b1 : decide (((⟨#[97, 110, 115, 119, 101, 114, 32]⟩ : ByteArray) ++ t135).size + 1 ≤ 9223372036854775807) = true := decide_eq_true c9
              try have c9b2 : (9223372036854775807 < ((⟨#[97, 110, 115, 119, 101, 114, 32]⟩ : ByteArray) ++ t135).size + 1) = False := eq_false (Nat.not_lt.2 c9)
              try have c9b3 : (9223372036854775807 < 7 + t135.size + 1) = False := by have h_ := c9; simp only [ByteArray.size_append] at h_; exact eq_false (Nat.not_lt.2 h_)
              by_cases c10 : (((⟨#[97, 110, 115, 119, 101, 114, 32]⟩ : ByteArray) ++ t135) ++ (⟨#[32]⟩ : ByteArray)).size + ((rd_T77 l0_1 x4_1).f1).size ≤ 9223372036854775807
              · rw [if_pos c10] at H
                have c10b0 := eq_true c10
                have c10b1 : decide ((((⟨#[97, 110, 115, 119, 101, 114, 32]⟩ : ByteArray) ++ t135) ++ (⟨#[32]⟩ : ByteArray)).size + ((rd_T77 l0_1 x4_1).f1).size ≤ 9223372036854775807) = true := decide_eq_true c10
                try have c10b2 : (9223372036854775807 < (((⟨#[97, 110, 115, 119, 101, 114, 32]⟩ : ByteArray) ++ t135) ++ (⟨#[32]⟩ : ByteArray)).size + ((rd_T77 l0_1 x4_1).f1).size) = False := eq_false (Nat.not_lt.2 c10)
                try have c10b3 : (9223372036854775807 < 7 + t135.size + 1 + ((rd_T77 l0_1 x4_1).f1).size) = False := by have h_ := c10; simp only [ByteArray.size_append] at h_; exact eq_false (Nat.not_lt.2 h_)
                by_cases c11 : ((((⟨#[97, 110, 115, 119, 101, 114, 32]⟩ : ByteArray) ++ t135) ++ (⟨#[32]⟩ : ByteArray)) ++ ((rd_T77 l0_1 x4_1).f1)).size + 1 ≤ 9223372036854775807
                · rw [if_pos c11] at H
                  have c11b0 := eq_true c11
                  have c11b1 : decide (((((⟨#[97, 110, 115, 119, 101, 114, 32]⟩ : ByteArray) ++ t135) ++ (⟨#[32]⟩ : ByteArray)) ++ ((rd_T77 l0_1 x4_1).f1)).size + 1 ≤ 9223372036854775807) = true := decide_eq_true c11
                  try have c11b2 : (9223372036854775807 < ((((⟨#[97, 110, 115, 119, 101, 114, 32]⟩ : ByteArray) ++ t135) ++ (⟨#[32]⟩ : ByteArray)) ++ ((rd_T77 l0_1 x4_1).f1)).size + 1) = False := eq_false (Nat.not_lt.2 c11)
                  try have c11b3 : (9223372036854775807 < 7 + t135.size + 1 + ((rd_T77 l0_1 x4_1).f1).size + 1) = False := by have h_ := c11; simp only [ByteArray.size_append] at h_; exact eq_false (Nat.not_lt.2 h_)
                  replace H := Option.bind_eq_some_iff.mp H
                  obtain ⟨t136, A120, H⟩ := H
                  replace H : (if (((((⟨#[97, 110, 115, 119, 101, 114, 32]⟩ : ByteArray) ++ t135) ++ (⟨#[32]⟩ : ByteArray)) ++ ((rd_T77 l0_1 x4_1).f1)) ++ (⟨#[32]⟩ : ByteArray)).size + t136.size ≤ 9223372036854775807 then ((spec_l6Put.f k1 x3_1 ((((((⟨#[97, 110, 115, 119, 101, 114, 32]⟩ : ByteArray) ++ t135) ++ (⟨#[32]⟩ : ByteArray)) ++ ((rd_T77 l0_1 x4_1).f1)) ++ (⟨#[32]⟩ : ByteArray)) ++ t136)).bind fun t137 => (if (rd_T77 l0_1 x4_1).f3 = true then ((spec_l6Put.f k1 t137 (⟨#[32, 102, 117, 108, 108]⟩ : ByteArray)).bind fun t140 => (spec_ShowOutcome.j1 k1 t140 x4_1 a0_0 l0_1 l0_2 a0_3 a0_4 a0_5 l0_6 ((rd_T77 l0_1 x4_1).f0) ((rd_T77 l0_1 x4_1).f1) ((rd_T77 l0_1 x4_1).f2) ((rd_T77 l0_1 x4_1).f3) ((rd_T77 l0_1 x4_1).f4))) else (spec_ShowOutcome.j1 k1 t137 x4_1 a0_0 l0_1 l0_2 a0_3 a0_4 a0_5 l0_6 ((rd_T77 l0_1 x4_1).f0) ((rd_T77 l0_1 x4_1).f1) ((rd_T77 l0_1 x4_1).f2) ((rd_T77 l0_1 x4_1).f3) ((rd_T77 l0_1 x4_1).f4)))) else (none)) = some r := H
                  have A12 := Aside0.mk A120
                  clear A120
                  by_cases c13 : (((((⟨#[97, 110, 115, 119, 101, 114, 32]⟩ : ByteArray) ++ t135) ++ (⟨#[32]⟩ : ByteArray)) ++ ((rd_T77 l0_1 x4_1).f1)) ++ (⟨#[32]⟩ : ByteArray)).size + t136.size ≤ 9223372036854775807
                  · rw [if_pos c13] at H
                    have c13b0 := eq_true c13
                    have c13b1 : decide ((((((⟨#[97, 110, 115, 119, 101, 114, 32]⟩ : ByteArray) ++ t135) ++ (⟨#[32]⟩ : ByteArray)) ++ ((rd_T77 l0_1 x4_1).f1)) ++ (⟨#[32]⟩ : ByteArray)).size + t136.size ≤ 9223372036854775807) = true := decide_eq_true c13
                    try have c13b2 : (9223372036854775807 < (((((⟨#[97, 110, 115, 119, 101, 114, 32]⟩ : ByteArray) ++ t135) ++ (⟨#[32]⟩ : ByteArray)) ++ ((rd_T77 l0_1 x4_1).f1)) ++ (⟨#[32]⟩ : ByteArray)).size + t136.size) = False := eq_false (Nat.not_lt.2 c13)
                    try have c13b3 : (9223372036854775807 < 7 + t135.size + 1 + ((rd_T77 l0_1 x4_1).f1).size + 1 + t136.size) = False := by have h_ := c13; simp only [ByteArray.size_append] at h_; exact eq_false (Nat.not_lt.2 h_)
                    replace H := Option.bind_eq_some_iff.mp H
                    obtain ⟨t137, A140, H⟩ := H
                    replace H : (if (rd_T77 l0_1 x4_1).f3 = true then ((spec_l6Put.f k1 t137 (⟨#[32, 102, 117, 108, 108]⟩ : ByteArray)).bind fun t140 => (spec_ShowOutcome.j1 k1 t140 x4_1 a0_0 l0_1 l0_2 a0_3 a0_4 a0_5 l0_6 ((rd_T77 l0_1 x4_1).f0) ((rd_T77 l0_1 x4_1).f1) ((rd_T77 l0_1 x4_1).f2) ((rd_T77 l0_1 x4_1).f3) ((rd_T77 l0_1 x4_1).f4))) else (spec_ShowOutcome.j1 k1 t137 x4_1 a0_0 l0_1 l0_2 a0_3 a0_4 a0_5 l0_6 ((rd_T77 l0_1 x4_1).f0) ((rd_T77 l0_1 x4_1).f1) ((rd_T77 l0_1 x4_1).f2) ((rd_T77 l0_1 x4_1).f3) ((rd_T77 l0_1 x4_1).f4))) = some r := H
                    have A14 := Aside0.mk A140
                    clear A140
                    have HC15 := Aside0.mk H
                    clear H
                    obtain ⟨hcz16_0, hcz16_1, hcz16_2, hcz16_3, hcz16_4, hcz16_5, hcz16_6, hfz16_0, hfz16_1, hfz16_2, hfz16_3, hfz16_4, hfz16_5, hfz16_6⟩ := bkA7 BK129.out
                    have p133 : 0 ≤ (x4_1 : Int) := of_decide_eq_true (by first | (with_reducible assumption) | assumption)
                    have q133 : x4_1 < (l0_1.length : Int) := of_decide_eq_true (by first | (with_reducible assumption) | assumption)
                    obtain ⟨ad133, A133_4, c133_4, e133, hx133_0, hx133_1, hx133_2, hx133_3, hx133_4, hl133_4, hi133_4⟩ := at_T77 HR0_1.out x4_1 p133 q133
                    cases e133
                    replace hx133_0 := (HB.out.cell (World.block_lt_of_cell? w _ hx133_0)).trans hx133_0
                    replace hx133_1 := (HB.out.cell (World.block_lt_of_cell? w _ hx133_1)).trans hx133_1
                    replace hx133_2 := (HB.out.cell (World.block_lt_of_cell? w _ hx133_2)).trans hx133_2
                    replace hx133_3 := (HB.out.cell (World.block_lt_of_cell? w _ hx133_3)).trans hx133_3
                    replace hx133_4 := (HB.out.cell (World.block_lt_of_cell? w _ hx133_4)).trans hx133_4
                    have HR133_4 := Aside0.mk hi133_4
                    have HC133_4 := Aside0.mk hl133_4
                    clear hi133_4 hl133_4
                    replace p133 := eq_true p133
                    replace q133 := eq_true q133
                    try go_wp2_with (first | ((with_reducible refine gate_dst (N := 5) rfl ?_); refine box_event ?hg (N := 5) ?hd (cs := #[.int .i64 0, .string (⟨#[]⟩ : ByteArray), .int .i64 0, .bool false, .slice none 0 0]) (t := 77) ?hr ?_; (case hd => rfl); (case hg => rfl); (case hr => first | (go_simp; done) | (go_simp; rfl)); intro gb134 hg w17 hbox hb; have hb1_ := fromP HB.out hb (by repeat (first | (with_reducible exact Below.refl _ _) | apply below_alloc | apply pw_below_drewN | apply below_drew1)); have hb0_ := below_step hb1_ hb; have hW_ := below_step HB.out hb1_; have n3_ := Aside0.mk (hbox); have n4_ := Aside0.mk ((by rw [hg]; exact (below_size hW_) : w.heap.size ≤ gb134)); have n5_ := Aside0.mk ((by rw [hg]; exact (below_size hW_) : w.heap.size ≤ gb134)); have n6_ := Aside0.mk ((by rw [hg]; exact Nat.ne_of_lt (blk_lt (blk_below BK129.out hb1_)) : gb129 ≠ gb134)); have n7_ := Aside0.mk ((by rw [hg]; exact Nat.ne_of_gt (blk_lt (blk_below BK129.out hb1_)) : gb134 ≠ gb129)); replace HO_3 := kR HO_3 hb0_; replace BK129 := kB BK129 hb0_; replace HB := kH HB hb0_; have BK134 := n3_; have GW134 := n4_; have GE134 := n5_; have NB129_134 := n6_; have NB134_129 := n7_; clear hb1_ hb0_ hW_ n3_ n4_ n5_ n6_ n7_; clear hb hbox hg; have hnb18 := NB134_129.out; have hnc18 := NB129_134.out; obtain ⟨hcz19_0, hcz19_1, hcz19_2, hcz19_3, hcz19_4, hfz19_0, hfz19_1, hfz19_2, hfz19_3, hfz19_4⟩ := bkA5 BK134.out))
                    have n0_ : Aside0 (Kd.R (Kd.int .u8) 5 (((((w17.setCell ⟨gb134, 0, none⟩ (.int .i64 ((rd_T77 l0_1 x4_1).f0))).setCell ⟨gb134, 1, none⟩ (.string ((rd_T77 l0_1 x4_1).f1))).setCell ⟨gb134, 2, none⟩ (.int .i64 ((rd_T77 l0_1 x4_1).f2))).setCell ⟨gb134, 3, none⟩ (.bool ((rd_T77 l0_1 x4_1).f3))).setCell ⟨gb134, 4, none⟩ (.slice A133_4 ((rd_T77 l0_1 x4_1).f4).length c133_4)) w.heap.size (fun _ => True) u3 x3_1) := ⟨by (with_reducible repeat (first | apply Kd.R_alloc | apply Kd.R_drewN | apply Kd.R_drew)); exact Kd.R_mono (Kd.R_far (p := ⟨gb134, 4, none⟩) (Kd.R_far (p := ⟨gb134, 3, none⟩) (Kd.R_far (p := ⟨gb134, 2, none⟩) (Kd.R_far (p := ⟨gb134, 1, none⟩) (Kd.R_far (p := ⟨gb134, 0, none⟩) (Kd.R_types HO_3.out BK134.out (by decide)) (fun _ hk => hk.2) (.int .i64 ((rd_T77 l0_1 x4_1).f0))) (fun _ hk => hk.2) (.string ((rd_T77 l0_1 x4_1).f1))) (fun _ hk => hk.2) (.int .i64 ((rd_T77 l0_1 x4_1).f2))) (fun _ hk => hk.2) (.bool ((rd_T77 l0_1 x4_1).f3))) (fun _ hk => hk.2) (.slice A133_4 ((rd_T77 l0_1 x4_1).f4).length c133_4)) (fun _ hk => trivial)⟩
                    have n1_ : Aside0 ((((((w17.setCell ⟨gb134, 0, none⟩ (.int .i64 ((rd_T77 l0_1 x4_1).f0))).setCell ⟨gb134, 1, none⟩ (.string ((rd_T77 l0_1 x4_1).f1))).setCell ⟨gb134, 2, none⟩ (.int .i64 ((rd_T77 l0_1 x4_1).f2))).setCell ⟨gb134, 3, none⟩ (.bool ((rd_T77 l0_1 x4_1).f3))).setCell ⟨gb134, 4, none⟩ (.slice A133_4 ((rd_T77 l0_1 x4_1).f4).length c133_4)).heap[gb129]? = some (.cells #[.int .i64 a0_0, .slice (some ad133) l0_1.length c0_1, .slice A0_2 l0_2.length c0_2, .int .i64 a0_3, .int .i64 a0_4, .int .i64 a0_5, .slice A0_6 l0_6.length c0_6] 37 (0, 0))) := ⟨by (with_reducible repeat (first | refine blk_drewN ?_ _ | refine blk_drew ?_ | refine blk_alloc ?_ _)); refine blk_far ?_ NB129_134.out _; (with_reducible repeat (first | refine blk_drewN ?_ _ | refine blk_drew ?_ | refine blk_alloc ?_ _)); refine blk_far ?_ NB129_134.out _; (with_reducible repeat (first | refine blk_drewN ?_ _ | refine blk_drew ?_ | refine blk_alloc ?_ _)); refine blk_far ?_ NB129_134.out _; (with_reducible repeat (first | refine blk_drewN ?_ _ | refine blk_drew ?_ | refine blk_alloc ?_ _)); refine blk_far ?_ NB129_134.out _; (with_reducible repeat (first | refine blk_drewN ?_ _ | refine blk_drew ?_ | refine blk_alloc ?_ _)); refine blk_far ?_ NB129_134.out _; (with_reducible repeat (first | refine blk_drewN ?_ _ | refine blk_drew ?_ | refine blk_alloc ?_ _)); exact BK129.out⟩
                    have n2_ : Aside0 ((((((w17.setCell ⟨gb134, 0, none⟩ (.int .i64 ((rd_T77 l0_1 x4_1).f0))).setCell ⟨gb134, 1, none⟩ (.string ((rd_T77 l0_1 x4_1).f1))).setCell ⟨gb134, 2, none⟩ (.int .i64 ((rd_T77 l0_1 x4_1).f2))).setCell ⟨gb134, 3, none⟩ (.bool ((rd_T77 l0_1 x4_1).f3))).setCell ⟨gb134, 4, none⟩ (.slice A133_4 ((rd_T77 l0_1 x4_1).f4).length c133_4)).heap[gb134]? = some (.cells #[.int .i64 ((rd_T77 l0_1 x4_1).f0), .string ((rd_T77 l0_1 x4_1).f1), .int .i64 ((rd_T77 l0_1 x4_1).f2), .bool ((rd_T77 l0_1 x4_1).f3), .slice A133_4 ((rd_T77 l0_1 x4_1).f4).length c133_4] 77 (0, 0))) := ⟨by (with_reducible repeat (first | refine blk_drewN ?_ _ | refine blk_drew ?_ | refine blk_alloc ?_ _)); refine blk_put (cs := #[.int .i64 ((rd_T77 l0_1 x4_1).f0), .string ((rd_T77 l0_1 x4_1).f1), .int .i64 ((rd_T77 l0_1 x4_1).f2), .bool ((rd_T77 l0_1 x4_1).f3), .slice none 0 0]) ?_ 4 _ rfl; (with_reducible repeat (first | refine blk_drewN ?_ _ | refine blk_drew ?_ | refine blk_alloc ?_ _)); refine blk_put (cs := #[.int .i64 ((rd_T77 l0_1 x4_1).f0), .string ((rd_T77 l0_1 x4_1).f1), .int .i64 ((rd_T77 l0_1 x4_1).f2), .bool false, .slice none 0 0]) ?_ 3 _ rfl; (with_reducible repeat (first | refine blk_drewN ?_ _ | refine blk_drew ?_ | refine blk_alloc ?_ _)); refine blk_put (cs := #[.int .i64 ((rd_T77 l0_1 x4_1).f0), .string ((rd_T77 l0_1 x4_1).f1), .int .i64 0, .bool false, .slice none 0 0]) ?_ 2 _ rfl; (with_reducible repeat (first | refine blk_drewN ?_ _ | refine blk_drew ?_ | refine blk_alloc ?_ _)); refine blk_put (cs := #[.int .i64 ((rd_T77 l0_1 x4_1).f0), .string (⟨#[]⟩ : ByteArray), .int .i64 0, .bool false, .slice none 0 0]) ?_ 1 _ rfl; (with_reducible repeat (first | refine blk_drewN ?_ _ | refine blk_drew ?_ | refine blk_alloc ?_ _)); refine blk_put (cs := #[.int .i64 0, .string (⟨#[]⟩ : ByteArray), .int .i64 0, .bool false, .slice none 0 0]) ?_ 0 _ rfl; (with_reducible repeat (first | refine blk_drewN ?_ _ | refine blk_drew ?_ | refine blk_alloc ?_ _)); exact BK134.out⟩
                    have n3_ : Aside0 (Below w.heap.size w (((((w17.setCell ⟨gb134, 0, none⟩ (.int .i64 ((rd_T77 l0_1 x4_1).f0))).setCell ⟨gb134, 1, none⟩ (.string ((rd_T77 l0_1 x4_1).f1))).setCell ⟨gb134, 2, none⟩ (.int .i64 ((rd_T77 l0_1 x4_1).f2))).setCell ⟨gb134, 3, none⟩ (.bool ((rd_T77 l0_1 x4_1).f3))).setCell ⟨gb134, 4, none⟩ (.slice A133_4 ((rd_T77 l0_1 x4_1).f4).length c133_4))) := ⟨by repeat (first | (with_reducible first | exact HB.out | apply below_alloc | apply pw_below_drewN | apply below_drew1 | refine below_set ?_ GE129.out | refine below_set ?_ GE134.out) | exact HB.out)⟩
                    (try clear HO_3)
                    (try clear BK129)
                    (try clear BK134)
                    (try clear HB)
                    generalize (((((w17.setCell ⟨gb134, 0, none⟩ (.int .i64 ((rd_T77 l0_1 x4_1).f0))).setCell ⟨gb134, 1, none⟩ (.string ((rd_T77 l0_1 x4_1).f1))).setCell ⟨gb134, 2, none⟩ (.int .i64 ((rd_T77 l0_1 x4_1).f2))).setCell ⟨gb134, 3, none⟩ (.bool ((rd_T77 l0_1 x4_1).f3))).setCell ⟨gb134, 4, none⟩ (.slice A133_4 ((rd_T77 l0_1 x4_1).f4).length c133_4)) = w20 at n0_ n1_ n2_ n3_ ⊢
                    have HO_3 := n0_
                    have BK129 := n1_
                    have BK134 := n2_
                    have HB := n3_
                    clear n0_ n1_ n2_ n3_
                    have n0_ := Aside0.mk (Kd.R_drew HO_3.out)
                    have n1_ := Aside0.mk (blk_drew BK129.out)
                    have n2_ := Aside0.mk (blk_drew BK134.out)
                    have n3_ := Aside0.mk (below_drew1 HB.out)
                    clear HO_3
                    clear BK129
                    clear BK134
                    clear HB
                    have HO_3 := n0_
                    have BK129 := n1_
                    have BK134 := n2_
                    have HB := n3_
                    clear n0_ n1_ n2_ n3_
                    refine start_ (n := 16) (S := fun w' => w'.cell? ⟨gb134, 0, none⟩ = some (.int .i64 ((rd_T77 l0_1 x4_1).f0)) ∧ w'.cell? ⟨gb134, 1, none⟩ = some (.string ((rd_T77 l0_1 x4_1).f1)) ∧ w'.cell? ⟨gb134, 2, none⟩ = some (.int .i64 ((rd_T77 l0_1 x4_1).f2)) ∧ w'.cell? ⟨gb134, 3, none⟩ = some (.bool ((rd_T77 l0_1 x4_1).f3)) ∧ w'.cell? ⟨gb134, 4, none⟩ = some (.slice A133_4 ((rd_T77 l0_1 x4_1).f4).length c133_4)) (ds := []) #[false, false, false, false, false, false, false, false, false, false, false, false, false, false, false, false] (by kernel_rfl) rfl rfl ⟨(blk_cell BK134.out 0).trans rfl, (blk_cell BK134.out 1).trans rfl, (blk_cell BK134.out 2).trans rfl, (blk_cell BK134.out 3).trans rfl, (blk_cell BK134.out 4).trans rfl⟩ (fun hHeld => ?_); refine with_tabW spec_ShowOutcome.tab6 spec_ShowOutcome.bits6 (fun HT_ HW_ => ?_)
                    generalize w20.drew = w21 at HO_3 BK129 BK134 HB hHeld ⊢
                    refine pure_ (i := 0) (N := some 22) (v := ?_) (a' := ?_) #[true, false, false, false, false, false, false, false, false, false, false, false, false, false, false, false] rfl rfl (any_of HT_.out (by kernel_rfl)) (fun _ _ _ h => h) (Or.inl ⟨by rfl, ?_⟩) ?_ ?_
                    rotate_left
                    · intro w'
                      go_simp
                      with_reducible rfl
                    rotate_left
                    · simp only [Act.put, sA_, i64_w, i32_w]
                      rfl
                    refine pure_ (i := 1) (N := some 23) (v := ?_) (a' := ?_) #[true, true, false, false, false, false, false, false, false, false, false, false, false, false, false, false] rfl rfl (any_of HT_.out (by kernel_rfl)) (fun _ _ _ h => h) (Or.inl ⟨by rfl, ?_⟩) ?_ ?_
                    rotate_left
                    · intro w'
                      go_simp
                      with_reducible rfl
                    rotate_left
                    · simp only [Act.put, sA_, i64_w, i32_w]
                      rfl
                    refine pure_ (i := 6) (N := some 28) (v := ?_) (a' := ?_) #[true, true, false, false, false, false, true, false, false, false, false, false, false, false, false, false] rfl rfl (any_of HT_.out (by kernel_rfl)) (fun _ _ _ h => h) (Or.inl ⟨by rfl, ?_⟩) ?_ ?_
                    rotate_left
                    · intro w'
                      go_simp
                      with_reducible rfl
                    rotate_left
                    · simp only [Act.put, sA_, i64_w, i32_w]
                      rfl
                    refine pure_ (i := 10) (N := some 32) (v := ?_) (a' := ?_) #[true, true, false, false, false, false, true, false, false, false, true, false, false, false, false, false] rfl rfl (any_of HT_.out (by kernel_rfl)) (fun _ _ _ h => h) (Or.inl ⟨by rfl, ?_⟩) ?_ ?_
                    rotate_left
                    · intro w'
                      go_simp
                      with_reducible rfl
                    rotate_left
                    · simp only [Act.put, sA_, i64_w, i32_w]
                      rfl
                    refine take_ (i := 2) (N := some 24) (v := ?_) (a' := ?_) #[true, true, true, false, false, false, true, false, false, false, true, false, false, false, false, false] rfl rfl (take_ofW HT_.out HW_.out (by kernel_rfl)) (fun _ _ _ h => h) (Or.inl ⟨by rfl, ?_⟩) hHeld ?_ ?_
                    rotate_left
                    · rintro w' ⟨s0, s1, s2, s3, s4⟩
                      go_simp
                      with_reducible rfl
                    rotate_left
                    · simp only [Act.put, sA_, i64_w, i32_w]
                      rfl
                    refine take_ (i := 7) (N := some 29) (v := ?_) (a' := ?_) #[true, true, true, false, false, false, true, true, false, false, true, false, false, false, false, false] rfl rfl (take_ofW HT_.out HW_.out (by kernel_rfl)) (fun _ _ _ h => h) (Or.inl ⟨by rfl, ?_⟩) hHeld ?_ ?_
                    rotate_left
                    · rintro w' ⟨s0, s1, s2, s3, s4⟩
                      go_simp
                      with_reducible rfl
                    rotate_left
                    · simp only [Act.put, sA_, i64_w, i32_w]
                      rfl
                    refine take_ (i := 11) (N := some 33) (v := ?_) (a' := ?_) #[true, true, true, false, false, false, true, true, false, false, true, true, false, false, false, false] rfl rfl (take_ofW HT_.out HW_.out (by kernel_rfl)) (fun _ _ _ h => h) (Or.inl ⟨by rfl, ?_⟩) hHeld ?_ ?_
                    rotate_left
                    · rintro w' ⟨s0, s1, s2, s3, s4⟩
                      go_simp
                      with_reducible rfl
                    rotate_left
                    · simp only [Act.put, sA_, i64_w, i32_w]
                      rfl
                    refine one_ (i := 3) (N := some 25) #[true, true, true, true, false, false, true, true, false, false, true, true, false, false, false, false] rfl rfl (one_of HT_.out (by kernel_rfl)) (by decide) (fun K hK => ?_)
                    refine goes_ Tryd.func41 (by kernel_rfl) rfl #[.int .i64 ((rd_T77 l0_1 x4_1).f0)] (by rfl) rfl rfl (by (try simp only [List.map_toArray, List.map_cons, List.map_nil]); first | done | rfl | (simp only [List.length_drop, List.length_take]; rfl)) ?_
                    with_reducible refine (spec_l2Show.calls k1 ((rd_T77 l0_1 x4_1).f0) t135 _ A7.out).mono ?_
                    rintro e w22 ⟨rfl, hb⟩
                    refine ⟨_, rfl, ?_⟩
                    have hb1_ := fromP HB.out hb (by repeat (first | (with_reducible exact Below.refl _ _) | apply below_alloc | apply pw_below_drewN | apply below_drew1))
                    have hb0_ := below_step hb1_ hb
                    replace HO_3 := kR HO_3 hb0_
                    replace BK129 := kB BK129 hb0_
                    replace BK134 := kB BK134 hb0_
                    replace HB := kH HB hb0_
                    clear hb1_ hb0_
                    (try clear hb)
                    (try clear hb2)
                    (try clear hk)
                    (try clear hi)
                    refine hK.out _ _ ⟨(blk_cell BK134.out 0).trans rfl, (blk_cell BK134.out 1).trans rfl, (blk_cell BK134.out 2).trans rfl, (blk_cell BK134.out 3).trans rfl, (blk_cell BK134.out 4).trans rfl⟩ (fun hHeld => ?_)
                    clear hK K
                    refine norm_ (a' := ?_) ?_ ?_
                    rotate_left
                    · show Act.put _ (some 25) _ = _
                      simp only [Act.put, sA_, i64_w, i32_w]
                      rfl
                    refine pure_ (i := 4) (N := some 26) (v := ?_) (a' := ?_) #[true, true, true, true, true, false, true, true, false, false, true, true, false, false, false, false] rfl rfl (any_of HT_.out (by kernel_rfl)) (fun _ _ _ h => h) (Or.inl ⟨by rfl, ?_⟩) ?_ ?_
                    rotate_left
                    · intro w'
                      go_simp
                      with_reducible rfl
                    rotate_left
                    · simp only [Act.put, sA_, i64_w, i32_w]
                      rfl
                    refine pure_ (i := 5) (N := some 27) (v := ?_) (a' := ?_) #[true, true, true, true, true, true, true, true, false, false, true, true, false, false, false, false] rfl rfl (any_of HT_.out (by kernel_rfl)) (fun _ _ _ h => h) (Or.inl ⟨by rfl, ?_⟩) ?_ ?_
                    rotate_left
                    · intro w'
                      go_simp
                      with_reducible rfl
                    rotate_left
                    · simp only [Act.put, sA_, i64_w, i32_w]
                      rfl
                    refine pure_ (i := 8) (N := some 30) (v := ?_) (a' := ?_) #[true, true, true, true, true, true, true, true, true, false, true, true, false, false, false, false] rfl rfl (any_of HT_.out (by kernel_rfl)) (fun _ _ _ h => h) (Or.inl ⟨by rfl, ?_⟩) ?_ ?_
                    rotate_left
                    · intro w'
                      go_simp
                      with_reducible rfl
                    rotate_left
                    · simp only [Act.put, sA_, i64_w, i32_w]
                      rfl
                    refine pure_ (i := 9) (N := some 31) (v := ?_) (a' := ?_) #[true, true, true, true, true, true, true, true, true, true, true, true, false, false, false, false] rfl rfl (any_of HT_.out (by kernel_rfl)) (fun _ _ _ h => h) (Or.inl ⟨by rfl, ?_⟩) ?_ ?_
                    rotate_left
                    · intro w'
                      go_simp
                      with_reducible rfl
                    rotate_left
                    · simp only [Act.put, sA_, i64_w, i32_w]
                      rfl
                    refine one_ (i := 12) (N := some 34) #[true, true, true, true, true, true, true, true, true, true, true, true, true, false, false, false] rfl rfl (one_of HT_.out (by kernel_rfl)) (by decide) (fun K hK => ?_)
                    refine goes_ Tryd.func41 (by kernel_rfl) rfl #[.int .i64 ((rd_T77 l0_1 x4_1).f2)] (by rfl) rfl rfl (by (try simp only [List.map_toArray, List.map_cons, List.map_nil]); first | done | rfl | (simp only [List.length_drop, List.length_take]; rfl)) ?_
                    with_reducible refine (spec_l2Show.calls k1 ((rd_T77 l0_1 x4_1).f2) t136 _ A12.out).mono ?_
                    rintro e w23 ⟨rfl, hb⟩
                    refine ⟨_, rfl, ?_⟩
                    have hb1_ := fromP HB.out hb (by repeat (first | (with_reducible exact Below.refl _ _) | apply below_alloc | apply pw_below_drewN | apply below_drew1))
                    have hb0_ := below_step hb1_ hb
                    replace HO_3 := kR HO_3 hb0_
                    replace BK129 := kB BK129 hb0_
                    replace BK134 := kB BK134 hb0_
                    replace HB := kH HB hb0_
                    clear hb1_ hb0_
                    (try clear hb)
                    (try clear hb2)
                    (try clear hk)
                    (try clear hi)
                    obtain ⟨Ao24, co24, eo24⟩ := Kd.R_slice HO_3.out
                    (first | subst eo24 | (injection eo24 with f1_ f2_ f3_; have f4_ := f1_.symm; have f5_ := f3_.symm; clear f1_ f2_ f3_; subst f4_; subst f5_))
                    refine hK.out _ _ ⟨(blk_cell BK134.out 0).trans rfl, (blk_cell BK134.out 1).trans rfl, (blk_cell BK134.out 2).trans rfl, (blk_cell BK134.out 3).trans rfl, (blk_cell BK134.out 4).trans rfl⟩ (fun hHeld => ?_)
                    clear hK K
                    refine norm_ (a' := ?_) ?_ ?_
                    rotate_left
                    · show Act.put _ (some 34) _ = _
                      simp only [Act.put, sA_, i64_w, i32_w]
                      rfl
                    refine pure_ (i := 13) (N := some 35) (v := ?_) (a' := ?_) #[true, true, true, true, true, true, true, true, true, true, true, true, true, true, false, false] rfl rfl (any_of HT_.out (by kernel_rfl)) (fun _ _ _ h => h) (Or.inl ⟨by rfl, ?_⟩) ?_ ?_
                    rotate_left
                    · intro w'
                      go_simp
                      with_reducible rfl
                    rotate_left
                    · simp only [Act.put, sA_, i64_w, i32_w]
                      rfl
                    refine one_ (i := 14) (N := some 36) #[true, true, true, true, true, true, true, true, true, true, true, true, true, true, true, false] rfl rfl (one_of HT_.out (by kernel_rfl)) (by decide) (fun K hK => ?_)
                    refine goes_ Tryd.func40 (by kernel_rfl) rfl #[.slice Ao24 x3_1.length co24, .string ((((((⟨#[97, 110, 115, 119, 101, 114, 32]⟩ : ByteArray) ++ t135) ++ (⟨#[32]⟩ : ByteArray)) ++ ((rd_T77 l0_1 x4_1).f1)) ++ (⟨#[32]⟩ : ByteArray)) ++ t136)] (by rfl) rfl rfl (by (try simp only [List.map_toArray, List.map_cons, List.map_nil]); first | done | rfl | (simp only [List.length_drop, List.length_take]; rfl)) ?_
                    with_reducible refine (spec_l6Put.calls k1 (fun k_ => some k_ = (.slice Ao24 x3_1.length co24 : Value).ownBlock) (.slice Ao24 x3_1.length co24) x3_1 ((((((⟨#[97, 110, 115, 119, 101, 114, 32]⟩ : ByteArray) ++ t135) ++ (⟨#[32]⟩ : ByteArray)) ++ ((rd_T77 l0_1 x4_1).f1)) ++ (⟨#[32]⟩ : ByteArray)) ++ t136) t137 w _ ?side1 ?side2 A14.out).mono ?_
                    (case side1 => repeat (first | (with_reducible first | exact HB.out | apply below_alloc | apply pw_below_drewN | apply below_drew1 | refine below_set ?_ GE129.out | refine below_set ?_ GE134.out) | exact HB.out))
                    (case side2 => exact Kd.R_tight rfl HO_3.out)
                    rintro e w25 ⟨v138, rfl, ho0, hb, hkp⟩
                    refine ⟨_, rfl, ?_⟩
                    have n0_ := Aside0.mk (blk_kept (by (with_reducible repeat (first | refine blk_drewN ?_ _ | refine blk_drew ?_ | refine blk_alloc ?_ _)); exact BK129.out) hkp (fun hs_ => (fun e_ => (Kd.R_ne HO_3.out BK129.out (by decide)) e_) hs_))
                    have n1_ := Aside0.mk (blk_kept (by (with_reducible repeat (first | refine blk_drewN ?_ _ | refine blk_drew ?_ | refine blk_alloc ?_ _)); exact BK134.out) hkp (fun hs_ => (fun e_ => (Kd.R_ne HO_3.out BK134.out (by decide)) e_) hs_))
                    have n2_ := Aside0.mk (Kd.R_mono (ok' := fun k_ => True) ho0 (fun k_ hk_ => trivial))
                    have n3_ := Aside0.mk (hb)
                    clear BK129
                    clear BK134
                    clear HB
                    clear HO_3
                    have BK129 := n0_
                    have BK134 := n1_
                    have HO139 := n2_
                    have HB := n3_
                    clear n0_ n1_ n2_ n3_
                    (try clear hb)
                    (try clear hkp)
                    (try clear ho0)
                    refine hK.out _ _ ⟨(blk_cell BK134.out 0).trans rfl, (blk_cell BK134.out 1).trans rfl, (blk_cell BK134.out 2).trans rfl, (blk_cell BK134.out 3).trans rfl, (blk_cell BK134.out 4).trans rfl⟩ (fun hHeld => ?_)
                    clear hK K
                    refine norm_ (a' := ?_) ?_ ?_
                    rotate_left
                    · show Act.put _ (some 36) _ = _
                      simp only [Act.put, sA_, i64_w, i32_w]
                      rfl
                    refine pure_ (i := 15) (N := some 3) (v := ?_) (a' := ?_) #[true, true, true, true, true, true, true, true, true, true, true, true, true, true, true, true] rfl rfl (any_of HT_.out (by kernel_rfl)) (fun _ _ _ h => h) (Or.inl ⟨by rfl, ?_⟩) ?_ ?_
                    rotate_left
                    · intro w'
                      go_simp
                      with_reducible rfl
                    rotate_left
                    · simp only [Act.put, sA_, i64_w, i32_w]
                      rfl
                    refine done_ (done_of HT_.out (by kernel_rfl)) ?_
                    obtain ⟨hcz26_0, hcz26_1, hcz26_2, hcz26_3, hcz26_4, hfz26_0, hfz26_1, hfz26_2, hfz26_3, hfz26_4⟩ := bkA5 BK134.out
                    go_upto_if 38 with (fail)
                    go_cut [3] (fun v3 wc => ∃ (kq : Nat) (x3_14 : List Int), Aside0 (spec_ShowOutcome.j1 kq x3_14 x4_1 a0_0 l0_1 l0_2 a0_3 a0_4 a0_5 l0_6 ((rd_T77 l0_1 x4_1).f0) ((rd_T77 l0_1 x4_1).f1) ((rd_T77 l0_1 x4_1).f2) ((rd_T77 l0_1 x4_1).f3) ((rd_T77 l0_1 x4_1).f4) = some r) ∧ Aside0 (kq ≤ k1) ∧ Aside0 (Kd.R (Kd.int .u8) 5 wc w.heap.size (fun _ => True) v3 x3_14) ∧ Aside0 (wc.heap[gb129]? = some (.cells #[.int .i64 a0_0, (.slice (some ad133) l0_1.length c0_1), (.slice A0_2 l0_2.length c0_2), .int .i64 a0_3, .int .i64 a0_4, .int .i64 a0_5, (.slice A0_6 l0_6.length c0_6)] 37 (0, 0))) ∧ Aside0 (wc.heap[gb134]? = some (.cells #[.int .i64 ((rd_T77 l0_1 x4_1).f0), .string ((rd_T77 l0_1 x4_1).f1), .int .i64 ((rd_T77 l0_1 x4_1).f2), .bool ((rd_T77 l0_1 x4_1).f3), (.slice A133_4 ((rd_T77 l0_1 x4_1).f4).length c133_4)] 77 (0, 0))) ∧ Aside0 (Below w.heap.size w wc))
                    case first =>
                      have H := HC15.out
                      clear HC15
                      obtain ⟨bq27, hbq27⟩ : ∃ b_ : Bool, b_ = ((rd_T77 l0_1 x4_1).f3) := ⟨_, rfl⟩
                      replace H : (if bq27 = true then ((spec_l6Put.f k1 t137 (⟨#[32, 102, 117, 108, 108]⟩ : ByteArray)).bind fun t140 => (spec_ShowOutcome.j1 k1 t140 x4_1 a0_0 l0_1 l0_2 a0_3 a0_4 a0_5 l0_6 ((rd_T77 l0_1 x4_1).f0) ((rd_T77 l0_1 x4_1).f1) ((rd_T77 l0_1 x4_1).f2) bq27 ((rd_T77 l0_1 x4_1).f4))) else (spec_ShowOutcome.j1 k1 t137 x4_1 a0_0 l0_1 l0_2 a0_3 a0_4 a0_5 l0_6 ((rd_T77 l0_1 x4_1).f0) ((rd_T77 l0_1 x4_1).f1) ((rd_T77 l0_1 x4_1).f2) bq27 ((rd_T77 l0_1 x4_1).f4))) = some r := by rw [← hbq27] at H; exact H
                      have Nbq27 := Aside0.mk hbq27
                      clear hbq27
                      (try rw [← Nbq27.out])
                      by_cases c28 : bq27 = true
                      · subst c28
                        have H1 : ((spec_l6Put.f k1 t137 (⟨#[32, 102, 117, 108, 108]⟩ : ByteArray)).bind fun t140 => (spec_ShowOutcome.j1 k1 t140 x4_1 a0_0 l0_1 l0_2 a0_3 a0_4 a0_5 l0_6 ((rd_T77 l0_1 x4_1).f0) ((rd_T77 l0_1 x4_1).f1) ((rd_T77 l0_1 x4_1).f2) true ((rd_T77 l0_1 x4_1).f4))) = some r := by rw [if_pos rfl] at H; exact H
                        clear H
                        have H := H1
                        clear H1
                        replace H := Option.bind_eq_some_iff.mp H
                        obtain ⟨t140, A290, H⟩ := H
                        replace H : (spec_ShowOutcome.j1 k1 t140 x4_1 a0_0 l0_1 l0_2 a0_3 a0_4 a0_5 l0_6 ((rd_T77 l0_1 x4_1).f0) ((rd_T77 l0_1 x4_1).f1) ((rd_T77 l0_1 x4_1).f2) true ((rd_T77 l0_1 x4_1).f4)) = some r := H
                        have A29 := Aside0.mk A290
                        clear A290
                        have H' := Aside0.mk H
                        clear H
                        obtain ⟨Ao30, co30, eo30⟩ := Kd.R_slice HO139.out
                        subst eo30
                        go_wp2_with (first | ((with_reducible refine gate_callee (f := 40) rfl ?_); refine goesL_ (some 40) rfl rfl Tryd.func40 (by kernel_rfl) rfl #[.slice Ao30 t137.length co30, .string (⟨#[32, 102, 117, 108, 108]⟩ : ByteArray)] rfl (by (try simp only [List.map_toArray, List.map_cons, List.map_nil]); first | done | rfl | (simp only [List.length_drop, List.length_take]; rfl)) ?_; (with_reducible refine (spec_l6Put.calls k1 (fun k_ => some k_ = (.slice Ao30 t137.length co30 : Value).ownBlock) (.slice Ao30 t137.length co30) t137 (⟨#[32, 102, 117, 108, 108]⟩ : ByteArray) t140 w _ ?side1 ?side2 A29.out).mono ?_); (case side1 => repeat (first | (with_reducible first | exact HB.out | apply below_alloc | apply pw_below_drewN | apply below_drew1 | refine below_set ?_ GE129.out | refine below_set ?_ GE134.out) | exact HB.out)); (case side2 => exact Kd.R_tight rfl HO139.out); rintro e w31 ⟨v141, rfl, ho0, hb, hkp⟩; refine ⟨_, rfl, ?_⟩; have n0_ := Aside0.mk (blk_kept (by (with_reducible repeat (first | refine blk_drewN ?_ _ | refine blk_drew ?_ | refine blk_alloc ?_ _)); exact BK129.out) hkp (fun hs_ => (fun e_ => (Kd.R_ne HO139.out BK129.out (by decide)) e_) hs_)); have n1_ := Aside0.mk (blk_kept (by (with_reducible repeat (first | refine blk_drewN ?_ _ | refine blk_drew ?_ | refine blk_alloc ?_ _)); exact BK134.out) hkp (fun hs_ => (fun e_ => (Kd.R_ne HO139.out BK134.out (by decide)) e_) hs_)); have n2_ := Aside0.mk (Kd.R_mono (ok' := fun k_ => True) ho0 (fun k_ hk_ => trivial)); have n3_ := Aside0.mk (hb); clear BK129; clear BK134; clear HB; clear HO139; have BK129 := n0_; have BK134 := n1_; have HO142 := n2_; have HB := n3_; clear n0_ n1_ n2_ n3_; (try clear hb); (try clear hkp); (try clear ho0)))
                        go_meet
                        case rel => exact ⟨_, (t140), (by first | exact H' | (rw [← Nbq27.out]; exact H')), ⟨by have := HK1.out; first | omega | exact Nat.le_refl _⟩, ⟨by (with_reducible repeat (first | apply Kd.R_alloc | apply Kd.R_drewN | apply Kd.R_drew)); exact HO142.out⟩, ⟨by (with_reducible repeat (first | refine blk_drewN ?_ _ | refine blk_drew ?_ | refine blk_alloc ?_ _)); exact BK129.out⟩, ⟨by (with_reducible repeat (first | refine blk_drewN ?_ _ | refine blk_drew ?_ | refine blk_alloc ?_ _)); exact BK134.out⟩, ⟨by repeat (first | (with_reducible first | exact HB.out | apply below_alloc | apply pw_below_drewN | apply below_drew1 | refine below_set ?_ GE129.out | refine below_set ?_ GE134.out) | exact HB.out)⟩⟩
                      · replace c28 := Bool.eq_false_iff.mpr c28
                        subst c28
                        have H1 : (spec_ShowOutcome.j1 k1 t137 x4_1 a0_0 l0_1 l0_2 a0_3 a0_4 a0_5 l0_6 ((rd_T77 l0_1 x4_1).f0) ((rd_T77 l0_1 x4_1).f1) ((rd_T77 l0_1 x4_1).f2) false ((rd_T77 l0_1 x4_1).f4)) = some r := by rw [if_neg (show ¬ (false = true) by decide)] at H; exact H
                        clear H
                        have H := H1
                        clear H1
                        have H' := Aside0.mk H
                        clear H
                        go_wp2
                        go_meet
                        case rel => exact ⟨_, (t137), (by first | exact H' | (rw [← Nbq27.out]; exact H')), ⟨by have := HK1.out; first | omega | exact Nat.le_refl _⟩, ⟨by (with_reducible repeat (first | apply Kd.R_alloc | apply Kd.R_drewN | apply Kd.R_drew)); exact HO139.out⟩, ⟨by (with_reducible repeat (first | refine blk_drewN ?_ _ | refine blk_drew ?_ | refine blk_alloc ?_ _)); exact BK129.out⟩, ⟨by (with_reducible repeat (first | refine blk_drewN ?_ _ | refine blk_drew ?_ | refine blk_alloc ?_ _)); exact BK134.out⟩, ⟨by repeat (first | (with_reducible first | exact HB.out | apply below_alloc | apply pw_below_drewN | apply below_drew1 | refine below_set ?_ GE129.out | refine below_set ?_ GE134.out) | exact HB.out)⟩⟩
                    case rest =>
                      clear HC15
                      try clear c1
                      try clear p1
                      try clear q1
                      try clear hx1
                      try clear c2
                      try clear p2
                      try clear q2
                      try clear c4
                      try clear c5
                      try clear c5b0
                      try clear c6
                      try clear c6b0
                      try clear c8
                      try clear c8b0
                      try clear c8b1
                      try clear c8b2
                      try clear c9
                      try clear c9b0
                      try clear c9b1
                      try clear c9b2
                      try clear c10
                      try clear c10b0
                      try clear c10b1
                      try clear c10b2
                      try clear c11
                      try clear c11b0
                      try clear c11b1
                      try clear c11b2
                      try clear c13
                      try clear c13b0
                      try clear c13b1
                      try clear c13b2
                      try clear p13
                      try clear q13
                      try clear hx13
                      try clear c18
                      try clear q27
                      try clear c28
                      try clear hcz16_0
                      try clear hcz16_1
                      try clear hcz16_2
                      try clear hcz16_3
                      try clear hcz16_4
                      try clear hcz16_5
                      try clear hcz16_6
                      try clear hcz19_0
                      try clear hcz19_1
                      try clear hcz19_2
                      try clear hcz19_3
                      try clear hcz19_4
                      try clear hcz26_0
                      try clear hcz26_1
                      try clear hcz26_2
                      try clear hcz26_3
                      try clear hcz26_4
                      try clear hfz16_0
                      try clear hfz16_1
                      try clear hfz16_2
                      try clear hfz16_3
                      try clear hfz16_4
                      try clear hfz16_5
                      try clear hfz16_6
                      try clear hfz19_0
                      try clear hfz19_1
                      try clear hfz19_2
                      try clear hfz19_3
                      try clear hfz19_4
                      try clear hfz26_0
                      try clear hfz26_1
                      try clear hfz26_2
                      try clear hfz26_3
                      try clear hfz26_4
                      try clear hx133_0
                      try clear hx133_1
                      try clear hx133_2
                      try clear hx133_3
                      try clear hx133_4
                      try clear p133
                      try clear p2
                      try clear q133
                      obtain ⟨kq, x3_14, HA, HJ14, HO_3, BK129, BK134, HB⟩ := hcut
                      cases kq with
                      | zero => exact absurd HA.out (by simp [spec_ShowOutcome.j1])
                      | succ kj14 =>
                        have H := HA.out
                        clear HA
                        simp only [spec_ShowOutcome.j1] at H
                        have H' := Aside0.mk H
                        clear H
                        go_wp2
                        go_loopg [3, 6] kj14 (fun kq v3 v6 w' => ∃ (x3_3 : List Int) (x6_3 : Int), v6 = .int .i64 x6_3 ∧ Aside0 (spec_ShowOutcome.l1 kq x3_3 x4_1 x6_3 a0_0 l0_1 l0_2 a0_3 a0_4 a0_5 l0_6 ((rd_T77 l0_1 x4_1).f0) ((rd_T77 l0_1 x4_1).f1) ((rd_T77 l0_1 x4_1).f2) ((rd_T77 l0_1 x4_1).f3) ((rd_T77 l0_1 x4_1).f4) = some r) ∧ Aside0 (kq ≤ kj14) ∧ Aside0 (Kd.R (Kd.int .u8) 5 w' w.heap.size (fun _ => True) v3 x3_3) ∧ Aside0 (w'.heap[gb129]? = some (.cells #[.int .i64 a0_0, (.slice (some ad133) l0_1.length c0_1), (.slice A0_2 l0_2.length c0_2), .int .i64 a0_3, .int .i64 a0_4, .int .i64 a0_5, (.slice A0_6 l0_6.length c0_6)] 37 (0, 0))) ∧ Aside0 (w'.heap[gb134]? = some (.cells #[.int .i64 ((rd_T77 l0_1 x4_1).f0), .string ((rd_T77 l0_1 x4_1).f1), .int .i64 ((rd_T77 l0_1 x4_1).f2), .bool ((rd_T77 l0_1 x4_1).f3), (.slice A133_4 ((rd_T77 l0_1 x4_1).f4).length c133_4)] 77 (0, 0))) ∧ Aside0 (Below w.heap.size w w'))
                        case atStart => exact ⟨(x3_14), (0), (by first | rfl | (simp; done) | (simp [*]; done)), H', ⟨Nat.le_refl _⟩, ⟨by (with_reducible repeat (first | apply Kd.R_alloc | apply Kd.R_drewN | apply Kd.R_drew)); exact HO_3.out⟩, ⟨by (with_reducible repeat (first | refine blk_drewN ?_ _ | refine blk_drew ?_ | refine blk_alloc ?_ _)); exact BK129.out⟩, ⟨by (with_reducible repeat (first | refine blk_drewN ?_ _ | refine blk_drew ?_ | refine blk_alloc ?_ _)); exact BK134.out⟩, ⟨by repeat (first | (with_reducible first | exact HB.out | apply below_alloc | apply pw_below_drewN | apply below_drew1 | refine below_set ?_ GE129.out | refine below_set ?_ GE134.out) | exact HB.out)⟩⟩
                        case round =>
                          clear H'
                          try clear c1
                          try clear p1
                          try clear q1
                          try clear hx1
                          try clear c2
                          try clear p2
                          try clear q2
                          try clear c4
                          try clear c5
                          try clear c5b0
                          try clear c6
                          try clear c6b0
                          try clear c8
                          try clear c8b0
                          try clear c8b1
                          try clear c8b2
                          try clear c9
                          try clear c9b0
                          try clear c9b1
                          try clear c9b2
                          try clear c10
                          try clear c10b0
                          try clear c10b1
                          try clear c10b2
                          try clear c11
                          try clear c11b0
                          try clear c11b1
                          try clear c11b2
                          try clear c13
                          try clear c13b0
                          try clear c13b1
                          try clear c13b2
                          try clear p13
                          try clear q13
                          try clear hx13
                          try clear c18
                          try clear q27
                          try clear c28
                          try clear hcz16_0
                          try clear hcz16_1
                          try clear hcz16_2
                          try clear hcz16_3
                          try clear hcz16_4
                          try clear hcz16_5
                          try clear hcz16_6
                          try clear hcz19_0
                          try clear hcz19_1
                          try clear hcz19_2
                          try clear hcz19_3
                          try clear hcz19_4
                          try clear hcz26_0
                          try clear hcz26_1
                          try clear hcz26_2
                          try clear hcz26_3
                          try clear hcz26_4
                          try clear hfz16_0
                          try clear hfz16_1
                          try clear hfz16_2
                          try clear hfz16_3
                          try clear hfz16_4
                          try clear hfz16_5
                          try clear hfz16_6
                          try clear hfz19_0
                          try clear hfz19_1
                          try clear hfz19_2
                          try clear hfz19_3
                          try clear hfz19_4
                          try clear hfz26_0
                          try clear hfz26_1
                          try clear hfz26_2
                          try clear hfz26_3
                          try clear hfz26_4
                          try clear hx133_0
                          try clear hx133_1
                          try clear hx133_2
                          try clear hx133_3
                          try clear hx133_4
                          try clear p1
                          try clear p13
                          try clear p133
                          try clear p2
                          try clear q1
                          try clear q13
                          try clear q133
                          try clear q2
                          try clear q27
                          obtain ⟨x3_3, x6_3, rfl, HA, HK3, HO_3, BK129, BK134, HB⟩ := hrel
                          cases gk with
                          | zero => exact absurd HA.out (by simp [spec_ShowOutcome.l1])
                          | succ k3 =>
                            have H := HA.out
                            clear HA
                            simp only [spec_ShowOutcome.l1] at H
                            by_cases c32 : x6_3 < (((rd_T77 l0_1 x4_1).f4).length : Int)
                            · rw [if_pos c32] at H
                              have c32b0 : decide (x6_3 < (((rd_T77 l0_1 x4_1).f4).length : Int)) = true := decide_eq_true c32
                              clear c32
                              by_cases c33 : 0 ≤ x6_3
                              · rw [if_pos c33] at H
                                have c33b0 : decide (0 ≤ x6_3) = true := decide_eq_true c33
                                clear c33
                                replace H := Option.bind_eq_some_iff.mp H
                                obtain ⟨t144, A340, H⟩ := H
                                replace H : (if 1 + t144.size ≤ 9223372036854775807 then (if ((⟨#[32]⟩ : ByteArray) ++ t144).size + 1 ≤ 9223372036854775807 then ((spec_l2Show.f k3 ((rd_T81 ((rd_T77 l0_1 x4_1).f4) x6_3).f1)).bind fun t146 => (if (((⟨#[32]⟩ : ByteArray) ++ t144) ++ (⟨#[58]⟩ : ByteArray)).size + t146.size ≤ 9223372036854775807 then ((spec_l6Put.f k3 x3_3 ((((⟨#[32]⟩ : ByteArray) ++ t144) ++ (⟨#[58]⟩ : ByteArray)) ++ t146)).bind fun t147 => (spec_ShowOutcome.l1 k3 t147 x4_1 (wrap64 (x6_3 + 1)) a0_0 l0_1 l0_2 a0_3 a0_4 a0_5 l0_6 ((rd_T77 l0_1 x4_1).f0) ((rd_T77 l0_1 x4_1).f1) ((rd_T77 l0_1 x4_1).f2) ((rd_T77 l0_1 x4_1).f3) ((rd_T77 l0_1 x4_1).f4))) else (none))) else (none)) else (none)) = some r := H
                                have A34 := Aside0.mk A340
                                clear A340
                                by_cases c35 : 1 + t144.size ≤ 9223372036854775807
                                · rw [if_pos c35] at H
                                  have c35b0 := eq_true c35
                                  have c35b1 : decide (1 + t144.size ≤ 9223372036854775807) = true := decide_eq_true c35
                                  try have c35b2 : (9223372036854775807 < 1 + t144.size) = False := eq_false (Nat.not_lt.2 c35)
                                  by_cases c36 : ((⟨#[32]⟩ : ByteArray) ++ t144).size + 1 ≤ 9223372036854775807
                                  · rw [if_pos c36] at H
                                    have c36b0 := eq_true c36
                                    have c36b1 : decide (((⟨#[32]⟩ : ByteArray) ++ t144).size + 1 ≤ 9223372036854775807) = true := decide_eq_true c36
                                    try have c36b2 : (9223372036854775807 < ((⟨#[32]⟩ : ByteArray) ++ t144).size + 1) = False := eq_false (Nat.not_lt.2 c36)
                                    try have c36b3 : (9223372036854775807 < 1 + t144.size + 1) = False := by have h_ := c36; simp only [ByteArray.size_append] at h_; exact eq_false (Nat.not_lt.2 h_)
                                    replace H := Option.bind_eq_some_iff.mp H
                                    obtain ⟨t146, A370, H⟩ := H
                                    replace H : (if (((⟨#[32]⟩ : ByteArray) ++ t144) ++ (⟨#[58]⟩ : ByteArray)).size + t146.size ≤ 9223372036854775807 then ((spec_l6Put.f k3 x3_3 ((((⟨#[32]⟩ : ByteArray) ++ t144) ++ (⟨#[58]⟩ : ByteArray)) ++ t146)).bind fun t147 => (spec_ShowOutcome.l1 k3 t147 x4_1 (wrap64 (x6_3 + 1)) a0_0 l0_1 l0_2 a0_3 a0_4 a0_5 l0_6 ((rd_T77 l0_1 x4_1).f0) ((rd_T77 l0_1 x4_1).f1) ((rd_T77 l0_1 x4_1).f2) ((rd_T77 l0_1 x4_1).f3) ((rd_T77 l0_1 x4_1).f4))) else (none)) = some r := H
                                    have A37 := Aside0.mk A370
                                    clear A370
                                    by_cases c38 : (((⟨#[32]⟩ : ByteArray) ++ t144) ++ (⟨#[58]⟩ : ByteArray)).size + t146.size ≤ 9223372036854775807
                                    · rw [if_pos c38] at H
                                      have c38b0 := eq_true c38
                                      have c38b1 : decide ((((⟨#[32]⟩ : ByteArray) ++ t144) ++ (⟨#[58]⟩ : ByteArray)).size + t146.size ≤ 9223372036854775807) = true := decide_eq_true c38
                                      try have c38b2 : (9223372036854775807 < (((⟨#[32]⟩ : ByteArray) ++ t144) ++ (⟨#[58]⟩ : ByteArray)).size + t146.size) = False := eq_false (Nat.not_lt.2 c38)
                                      try have c38b3 : (9223372036854775807 < 1 + t144.size + 1 + t146.size) = False := by have h_ := c38; simp only [ByteArray.size_append] at h_; exact eq_false (Nat.not_lt.2 h_)
                                      replace H := Option.bind_eq_some_iff.mp H
                                      obtain ⟨t147, A390, H⟩ := H
                                      replace H : (spec_ShowOutcome.l1 k3 t147 x4_1 (wrap64 (x6_3 + 1)) a0_0 l0_1 l0_2 a0_3 a0_4 a0_5 l0_6 ((rd_T77 l0_1 x4_1).f0) ((rd_T77 l0_1 x4_1).f1) ((rd_T77 l0_1 x4_1).f2) ((rd_T77 l0_1 x4_1).f3) ((rd_T77 l0_1 x4_1).f4)) = some r := H
                                      have A39 := Aside0.mk A390
                                      clear A390
                                      have H' := Aside0.mk H
                                      clear H
                                      have hnb40 := NB134_129.out
                                      have hnc40 := NB129_134.out
                                      obtain ⟨hcz41_0, hcz41_1, hcz41_2, hcz41_3, hcz41_4, hfz41_0, hfz41_1, hfz41_2, hfz41_3, hfz41_4⟩ := bkA5 BK134.out
                                      try go_wp2
                                      have n0_ := Aside0.mk (Kd.R_drew HO_3.out)
                                      have n1_ := Aside0.mk (blk_drew BK129.out)
                                      have n2_ := Aside0.mk (blk_drew BK134.out)
                                      have n3_ := Aside0.mk (below_drew1 HB.out)
                                      clear HO_3
                                      clear BK129
                                      clear BK134
                                      clear HB
                                      have HO_3 := n0_
                                      have BK129 := n1_
                                      have BK134 := n2_
                                      have HB := n3_
                                      clear n0_ n1_ n2_ n3_
                                      have p143 : 0 ≤ (x6_3 : Int) := of_decide_eq_true (by first | (with_reducible assumption) | assumption)
                                      have q143 : x6_3 < (((rd_T77 l0_1 x4_1).f4).length : Int) := of_decide_eq_true (by first | (with_reducible assumption) | assumption)
                                      obtain ⟨ad143, e143, hx143_0, hx143_1⟩ := at_T81 HR133_4.out x6_3 p143 q143
                                      have hw143_1 := hx143_1
                                      have hw143_0 := hx143_0
                                      cases e143
                                      replace hx143_0 := (HB.out.cell (World.block_lt_of_cell? w _ hx143_0)).trans hx143_0
                                      replace hx143_1 := (HB.out.cell (World.block_lt_of_cell? w _ hx143_1)).trans hx143_1
                                      replace p143 := eq_true p143
                                      replace q143 := eq_true q143
                                      have p145 : 0 ≤ (x6_3 : Int) := of_decide_eq_true (by first | (with_reducible assumption) | assumption)
                                      have q145 : x6_3 < (((rd_T77 l0_1 x4_1).f4).length : Int) := of_decide_eq_true (by first | (with_reducible assumption) | assumption)
                                      obtain ⟨ad145, e145, hx145_0, hx145_1⟩ := at_T81 HR133_4.out x6_3 p145 q145
                                      have hw145_1 := hx145_1
                                      have hw145_0 := hx145_0
                                      obtain rfl : ad143 = ad145 := (by injection e145)
                                      replace hx145_0 := (HB.out.cell (World.block_lt_of_cell? w _ hx145_0)).trans hx145_0
                                      replace hx145_1 := (HB.out.cell (World.block_lt_of_cell? w _ hx145_1)).trans hx145_1
                                      replace p145 := eq_true p145
                                      replace q145 := eq_true q145
                                      refine start_ (n := 20) (S := fun w' => w'.cell? ⟨gb134, 0, none⟩ = some (.int .i64 ((rd_T77 l0_1 x4_1).f0)) ∧ w'.cell? ⟨gb134, 1, none⟩ = some (.string ((rd_T77 l0_1 x4_1).f1)) ∧ w'.cell? ⟨gb134, 2, none⟩ = some (.int .i64 ((rd_T77 l0_1 x4_1).f2)) ∧ w'.cell? ⟨gb134, 3, none⟩ = some (.bool ((rd_T77 l0_1 x4_1).f3)) ∧ w'.cell? ⟨gb134, 4, none⟩ = some (.slice (some ad143) ((rd_T77 l0_1 x4_1).f4).length c133_4) ∧ w'.cell? (ad143.add ((x6_3).toNat * 2)) = some (.int .i64 ((rd_T81 ((rd_T77 l0_1 x4_1).f4) x6_3).f0)) ∧ w'.cell? ⟨(ad143.add ((x6_3).toNat * 2)).block, (ad143.add ((x6_3).toNat * 2)).off + 1, none⟩ = some (.int .i64 ((rd_T81 ((rd_T77 l0_1 x4_1).f4) x6_3).f1)) ∧ w'.cell? (ad143.add ((x6_3).toNat * 2)) = some (.int .i64 ((rd_T81 ((rd_T77 l0_1 x4_1).f4) x6_3).f0)) ∧ w'.cell? ⟨(ad143.add ((x6_3).toNat * 2)).block, (ad143.add ((x6_3).toNat * 2)).off + 1, none⟩ = some (.int .i64 ((rd_T81 ((rd_T77 l0_1 x4_1).f4) x6_3).f1))) (ds := []) #[false, false, false, false, false, false, false, false, false, false, false, false, false, false, false, false, false, false, false, false] (by kernel_rfl) rfl rfl ⟨(blk_cell BK134.out 0).trans rfl, (blk_cell BK134.out 1).trans rfl, (blk_cell BK134.out 2).trans rfl, (blk_cell BK134.out 3).trans rfl, (blk_cell BK134.out 4).trans rfl, ((HB.out.cell (World.block_lt_of_cell? w _ hw143_0)).trans hw143_0), ((HB.out.cell (World.block_lt_of_cell? w _ hw143_1)).trans hw143_1), ((HB.out.cell (World.block_lt_of_cell? w _ hw145_0)).trans hw145_0), ((HB.out.cell (World.block_lt_of_cell? w _ hw145_1)).trans hw145_1)⟩ (fun hHeld => ?_); refine with_tabW spec_ShowOutcome.tab12 spec_ShowOutcome.bits12 (fun HT_ HW_ => ?_)
                                      generalize wr.drew = w42 at HO_3 BK129 BK134 HB hx143_0 hx143_1 hx145_0 hx145_1 hHeld ⊢
                                      refine pure_ (i := 0) (N := some 48) (v := ?_) (a' := ?_) #[true, false, false, false, false, false, false, false, false, false, false, false, false, false, false, false, false, false, false, false] rfl rfl (any_of HT_.out (by kernel_rfl)) (fun _ _ _ h => h) (Or.inl ⟨by rfl, ?_⟩) ?_ ?_
                                      rotate_left
                                      · intro w'
                                        go_simp
                                        with_reducible rfl
                                      rotate_left
                                      · simp only [Act.put, sA_, i64_w, i32_w]
                                        rfl
                                      refine pure_ (i := 1) (N := some 49) (v := ?_) (a' := ?_) #[true, true, false, false, false, false, false, false, false, false, false, false, false, false, false, false, false, false, false, false] rfl rfl (any_of HT_.out (by kernel_rfl)) (fun _ _ _ h => h) (Or.inl ⟨by rfl, ?_⟩) ?_ ?_
                                      rotate_left
                                      · intro w'
                                        go_simp
                                        with_reducible rfl
                                      rotate_left
                                      · simp only [Act.put, sA_, i64_w, i32_w]
                                        rfl
                                      refine pure_ (i := 3) (N := some 51) (v := ?_) (a' := ?_) #[true, true, false, true, false, false, false, false, false, false, false, false, false, false, false, false, false, false, false, false] rfl rfl (any_of HT_.out (by kernel_rfl)) (fun _ _ _ h => h) (Or.inl ⟨by rfl, ?_⟩) ?_ ?_
                                      rotate_left
                                      · intro w'
                                        go_simp
                                        with_reducible rfl
                                      rotate_left
                                      · simp only [Act.put, sA_, i64_w, i32_w]
                                        rfl
                                      refine pure_ (i := 10) (N := some 58) (v := ?_) (a' := ?_) #[true, true, false, true, false, false, false, false, false, false, true, false, false, false, false, false, false, false, false, false] rfl rfl (any_of HT_.out (by kernel_rfl)) (fun _ _ _ h => h) (Or.inl ⟨by rfl, ?_⟩) ?_ ?_
                                      rotate_left
                                      · intro w'
                                        go_simp
                                        with_reducible rfl
                                      rotate_left
                                      · simp only [Act.put, sA_, i64_w, i32_w]
                                        rfl
                                      refine pure_ (i := 12) (N := some 60) (v := ?_) (a' := ?_) #[true, true, false, true, false, false, false, false, false, false, true, false, true, false, false, false, false, false, false, false] rfl rfl (any_of HT_.out (by kernel_rfl)) (fun _ _ _ h => h) (Or.inl ⟨by rfl, ?_⟩) ?_ ?_
                                      rotate_left
                                      · intro w'
                                        go_simp
                                        with_reducible rfl
                                      rotate_left
                                      · simp only [Act.put, sA_, i64_w, i32_w]
                                        rfl
                                      refine take_ (i := 2) (N := some 50) (v := ?_) (a' := ?_) #[true, true, true, true, false, false, false, false, false, false, true, false, true, false, false, false, false, false, false, false] rfl rfl (take_ofW HT_.out HW_.out (by kernel_rfl)) (fun _ _ _ h => h) (Or.inl ⟨by rfl, ?_⟩) hHeld ?_ ?_
                                      rotate_left
                                      · rintro w' ⟨s0, s1, s2, s3, s4, s5, s6, s7, s8⟩
                                        go_simp
                                        with_reducible rfl
                                      rotate_left
                                      · simp only [Act.put, sA_, i64_w, i32_w]
                                        rfl
                                      refine pure_ (i := 4) (N := some 52) (v := ?_) (a' := ?_) #[true, true, true, true, true, false, false, false, false, false, true, false, true, false, false, false, false, false, false, false] rfl rfl (any_of HT_.out (by kernel_rfl)) (fun _ _ _ h => h) (Or.inl ⟨by rfl, ?_⟩) ?_ ?_
                                      rotate_left
                                      · intro w'
                                        go_simp
                                        with_reducible rfl
                                      rotate_left
                                      · simp only [Act.put, sA_, i64_w, i32_w]
                                        rfl
                                      refine pure_ (i := 5) (N := some 53) (v := ?_) (a' := ?_) #[true, true, true, true, true, true, false, false, false, false, true, false, true, false, false, false, false, false, false, false] rfl rfl (any_of HT_.out (by kernel_rfl)) (fun _ _ _ h => h) (Or.inl ⟨by rfl, ?_⟩) ?_ ?_
                                      rotate_left
                                      · intro w'
                                        go_simp
                                        with_reducible rfl
                                      rotate_left
                                      · simp only [Act.put, sA_, i64_w, i32_w]
                                        rfl
                                      refine take_ (i := 6) (N := some 54) (v := ?_) (a' := ?_) #[true, true, true, true, true, true, true, false, false, false, true, false, true, false, false, false, false, false, false, false] rfl rfl (take_ofW HT_.out HW_.out (by kernel_rfl)) (fun _ _ _ h => h) (Or.inl ⟨by rfl, ?_⟩) hHeld ?_ ?_
                                      rotate_left
                                      · rintro w' ⟨s0, s1, s2, s3, s4, s5, s6, s7, s8⟩
                                        go_simp
                                        with_reducible rfl
                                      rotate_left
                                      · simp only [Act.put, sA_, i64_w, i32_w]
                                        rfl
                                      refine take_ (i := 11) (N := some 59) (v := ?_) (a' := ?_) #[true, true, true, true, true, true, true, false, false, false, true, true, true, false, false, false, false, false, false, false] rfl rfl (take_ofW HT_.out HW_.out (by kernel_rfl)) (fun _ _ _ h => h) (Or.inl ⟨by rfl, ?_⟩) hHeld ?_ ?_
                                      rotate_left
                                      · rintro w' ⟨s0, s1, s2, s3, s4, s5, s6, s7, s8⟩
                                        go_simp
                                        with_reducible rfl
                                      rotate_left
                                      · simp only [Act.put, sA_, i64_w, i32_w]
                                        rfl
                                      refine pure_ (i := 13) (N := some 61) (v := ?_) (a' := ?_) #[true, true, true, true, true, true, true, false, false, false, true, true, true, true, false, false, false, false, false, false] rfl rfl (any_of HT_.out (by kernel_rfl)) (fun _ _ _ h => h) (Or.inl ⟨by rfl, ?_⟩) ?_ ?_
                                      rotate_left
                                      · intro w'
                                        go_simp
                                        with_reducible rfl
                                      rotate_left
                                      · simp only [Act.put, sA_, i64_w, i32_w]
                                        rfl
                                      refine pure_ (i := 14) (N := some 62) (v := ?_) (a' := ?_) #[true, true, true, true, true, true, true, false, false, false, true, true, true, true, true, false, false, false, false, false] rfl rfl (any_of HT_.out (by kernel_rfl)) (fun _ _ _ h => h) (Or.inl ⟨by rfl, ?_⟩) ?_ ?_
                                      rotate_left
                                      · intro w'
                                        go_simp
                                        with_reducible rfl
                                      rotate_left
                                      · simp only [Act.put, sA_, i64_w, i32_w]
                                        rfl
                                      refine take_ (i := 15) (N := some 63) (v := ?_) (a' := ?_) #[true, true, true, true, true, true, true, false, false, false, true, true, true, true, true, true, false, false, false, false] rfl rfl (take_ofW HT_.out HW_.out (by kernel_rfl)) (fun _ _ _ h => h) (Or.inl ⟨by rfl, ?_⟩) hHeld ?_ ?_
                                      rotate_left
                                      · rintro w' ⟨s0, s1, s2, s3, s4, s5, s6, s7, s8⟩
                                        go_simp
                                        with_reducible rfl
                                      rotate_left
                                      · simp only [Act.put, sA_, i64_w, i32_w]
                                        rfl
                                      refine one_ (i := 7) (N := some 55) #[true, true, true, true, true, true, true, true, false, false, true, true, true, true, true, true, false, false, false, false] rfl rfl (one_of HT_.out (by kernel_rfl)) (by decide) (fun K hK => ?_)
                                      refine goes_ Tryd.func41 (by kernel_rfl) rfl #[.int .i64 ((rd_T81 ((rd_T77 l0_1 x4_1).f4) x6_3).f0)] (by rfl) rfl rfl (by (try simp only [List.map_toArray, List.map_cons, List.map_nil]); first | done | rfl | (simp only [List.length_drop, List.length_take]; rfl)) ?_
                                      with_reducible refine (spec_l2Show.calls k3 ((rd_T81 ((rd_T77 l0_1 x4_1).f4) x6_3).f0) t144 _ A34.out).mono ?_
                                      rintro e w43 ⟨rfl, hb⟩
                                      refine ⟨_, rfl, ?_⟩
                                      have hb1_ := fromP HB.out hb (by repeat (first | (with_reducible exact Below.refl _ _) | apply below_alloc | apply pw_below_drewN | apply below_drew1))
                                      have hb0_ := below_step hb1_ hb
                                      replace HO_3 := kR HO_3 hb0_
                                      replace BK129 := kB BK129 hb0_
                                      replace BK134 := kB BK134 hb0_
                                      replace HB := kH HB hb0_
                                      clear hb1_ hb0_
                                      (try clear hb)
                                      (try clear hb2)
                                      (try clear hk)
                                      (try clear hi)
                                      refine hK.out _ _ ⟨(blk_cell BK134.out 0).trans rfl, (blk_cell BK134.out 1).trans rfl, (blk_cell BK134.out 2).trans rfl, (blk_cell BK134.out 3).trans rfl, (blk_cell BK134.out 4).trans rfl, ((HB.out.cell (World.block_lt_of_cell? w _ hw143_0)).trans hw143_0), ((HB.out.cell (World.block_lt_of_cell? w _ hw143_1)).trans hw143_1), ((HB.out.cell (World.block_lt_of_cell? w _ hw145_0)).trans hw145_0), ((HB.out.cell (World.block_lt_of_cell? w _ hw145_1)).trans hw145_1)⟩ (fun hHeld => ?_)
                                      clear hK K
                                      refine norm_ (a' := ?_) ?_ ?_
                                      rotate_left
                                      · show Act.put _ (some 55) _ = _
                                        simp only [Act.put, sA_, i64_w, i32_w]
                                        rfl
                                      refine pure_ (i := 8) (N := some 56) (v := ?_) (a' := ?_) #[true, true, true, true, true, true, true, true, true, false, true, true, true, true, true, true, false, false, false, false] rfl rfl (any_of HT_.out (by kernel_rfl)) (fun _ _ _ h => h) (Or.inl ⟨by rfl, ?_⟩) ?_ ?_
                                      rotate_left
                                      · intro w'
                                        go_simp
                                        with_reducible rfl
                                      rotate_left
                                      · simp only [Act.put, sA_, i64_w, i32_w]
                                        rfl
                                      refine pure_ (i := 9) (N := some 57) (v := ?_) (a' := ?_) #[true, true, true, true, true, true, true, true, true, true, true, true, true, true, true, true, false, false, false, false] rfl rfl (any_of HT_.out (by kernel_rfl)) (fun _ _ _ h => h) (Or.inl ⟨by rfl, ?_⟩) ?_ ?_
                                      rotate_left
                                      · intro w'
                                        go_simp
                                        with_reducible rfl
                                      rotate_left
                                      · simp only [Act.put, sA_, i64_w, i32_w]
                                        rfl
                                      refine one_ (i := 16) (N := some 64) #[true, true, true, true, true, true, true, true, true, true, true, true, true, true, true, true, true, false, false, false] rfl rfl (one_of HT_.out (by kernel_rfl)) (by decide) (fun K hK => ?_)
                                      refine goes_ Tryd.func41 (by kernel_rfl) rfl #[.int .i64 ((rd_T81 ((rd_T77 l0_1 x4_1).f4) x6_3).f1)] (by rfl) rfl rfl (by (try simp only [List.map_toArray, List.map_cons, List.map_nil]); first | done | rfl | (simp only [List.length_drop, List.length_take]; rfl)) ?_
                                      with_reducible refine (spec_l2Show.calls k3 ((rd_T81 ((rd_T77 l0_1 x4_1).f4) x6_3).f1) t146 _ A37.out).mono ?_
                                      rintro e w44 ⟨rfl, hb⟩
                                      refine ⟨_, rfl, ?_⟩
                                      have hb1_ := fromP HB.out hb (by repeat (first | (with_reducible exact Below.refl _ _) | apply below_alloc | apply pw_below_drewN | apply below_drew1))
                                      have hb0_ := below_step hb1_ hb
                                      replace HO_3 := kR HO_3 hb0_
                                      replace BK129 := kB BK129 hb0_
                                      replace BK134 := kB BK134 hb0_
                                      replace HB := kH HB hb0_
                                      clear hb1_ hb0_
                                      (try clear hb)
                                      (try clear hb2)
                                      (try clear hk)
                                      (try clear hi)
                                      obtain ⟨Ao45, co45, eo45⟩ := Kd.R_slice HO_3.out
                                      (first | subst eo45 | (injection eo45 with f1_ f2_ f3_; have f4_ := f1_.symm; have f5_ := f3_.symm; clear f1_ f2_ f3_; subst f4_; subst f5_))
                                      refine hK.out _ _ ⟨(blk_cell BK134.out 0).trans rfl, (blk_cell BK134.out 1).trans rfl, (blk_cell BK134.out 2).trans rfl, (blk_cell BK134.out 3).trans rfl, (blk_cell BK134.out 4).trans rfl, ((HB.out.cell (World.block_lt_of_cell? w _ hw143_0)).trans hw143_0), ((HB.out.cell (World.block_lt_of_cell? w _ hw143_1)).trans hw143_1), ((HB.out.cell (World.block_lt_of_cell? w _ hw145_0)).trans hw145_0), ((HB.out.cell (World.block_lt_of_cell? w _ hw145_1)).trans hw145_1)⟩ (fun hHeld => ?_)
                                      clear hK K
                                      refine norm_ (a' := ?_) ?_ ?_
                                      rotate_left
                                      · show Act.put _ (some 64) _ = _
                                        simp only [Act.put, sA_, i64_w, i32_w]
                                        rfl
                                      refine pure_ (i := 17) (N := some 65) (v := ?_) (a' := ?_) #[true, true, true, true, true, true, true, true, true, true, true, true, true, true, true, true, true, true, false, false] rfl rfl (any_of HT_.out (by kernel_rfl)) (fun _ _ _ h => h) (Or.inl ⟨by rfl, ?_⟩) ?_ ?_
                                      rotate_left
                                      · intro w'
                                        go_simp
                                        with_reducible rfl
                                      rotate_left
                                      · simp only [Act.put, sA_, i64_w, i32_w]
                                        rfl
                                      refine one_ (i := 18) (N := some 66) #[true, true, true, true, true, true, true, true, true, true, true, true, true, true, true, true, true, true, true, false] rfl rfl (one_of HT_.out (by kernel_rfl)) (by decide) (fun K hK => ?_)
                                      refine goes_ Tryd.func40 (by kernel_rfl) rfl #[.slice Ao45 x3_3.length co45, .string ((((⟨#[32]⟩ : ByteArray) ++ t144) ++ (⟨#[58]⟩ : ByteArray)) ++ t146)] (by rfl) rfl rfl (by (try simp only [List.map_toArray, List.map_cons, List.map_nil]); first | done | rfl | (simp only [List.length_drop, List.length_take]; rfl)) ?_
                                      with_reducible refine (spec_l6Put.calls k3 (fun k_ => some k_ = (.slice Ao45 x3_3.length co45 : Value).ownBlock) (.slice Ao45 x3_3.length co45) x3_3 ((((⟨#[32]⟩ : ByteArray) ++ t144) ++ (⟨#[58]⟩ : ByteArray)) ++ t146) t147 w _ ?side1 ?side2 A39.out).mono ?_
                                      (case side1 => repeat (first | (with_reducible first | exact HB.out | apply below_alloc | apply pw_below_drewN | apply below_drew1 | refine below_set ?_ GE129.out | refine below_set ?_ GE134.out) | exact HB.out))
                                      (case side2 => exact Kd.R_tight rfl HO_3.out)
                                      rintro e w46 ⟨v148, rfl, ho0, hb, hkp⟩
                                      refine ⟨_, rfl, ?_⟩
                                      have n0_ := Aside0.mk (blk_kept (by (with_reducible repeat (first | refine blk_drewN ?_ _ | refine blk_drew ?_ | refine blk_alloc ?_ _)); exact BK129.out) hkp (fun hs_ => (fun e_ => (Kd.R_ne HO_3.out BK129.out (by decide)) e_) hs_))
                                      have n1_ := Aside0.mk (blk_kept (by (with_reducible repeat (first | refine blk_drewN ?_ _ | refine blk_drew ?_ | refine blk_alloc ?_ _)); exact BK134.out) hkp (fun hs_ => (fun e_ => (Kd.R_ne HO_3.out BK134.out (by decide)) e_) hs_))
                                      have n2_ := Aside0.mk (Kd.R_mono (ok' := fun k_ => True) ho0 (fun k_ hk_ => trivial))
                                      have n3_ := Aside0.mk (hb)
                                      clear BK129
                                      clear BK134
                                      clear HB
                                      clear HO_3
                                      have BK129 := n0_
                                      have BK134 := n1_
                                      have HO149 := n2_
                                      have HB := n3_
                                      clear n0_ n1_ n2_ n3_
                                      (try clear hb)
                                      (try clear hkp)
                                      (try clear ho0)
                                      refine hK.out _ _ ⟨(blk_cell BK134.out 0).trans rfl, (blk_cell BK134.out 1).trans rfl, (blk_cell BK134.out 2).trans rfl, (blk_cell BK134.out 3).trans rfl, (blk_cell BK134.out 4).trans rfl, ((HB.out.cell (World.block_lt_of_cell? w _ hw143_0)).trans hw143_0), ((HB.out.cell (World.block_lt_of_cell? w _ hw143_1)).trans hw143_1), ((HB.out.cell (World.block_lt_of_cell? w _ hw145_0)).trans hw145_0), ((HB.out.cell (World.block_lt_of_cell? w _ hw145_1)).trans hw145_1)⟩ (fun hHeld => ?_)
                                      clear hK K
                                      refine norm_ (a' := ?_) ?_ ?_
                                      rotate_left
                                      · show Act.put _ (some 66) _ = _
                                        simp only [Act.put, sA_, i64_w, i32_w]
                                        rfl
                                      refine pure_ (i := 19) (N := some 3) (v := ?_) (a' := ?_) #[true, true, true, true, true, true, true, true, true, true, true, true, true, true, true, true, true, true, true, true] rfl rfl (any_of HT_.out (by kernel_rfl)) (fun _ _ _ h => h) (Or.inl ⟨by rfl, ?_⟩) ?_ ?_
                                      rotate_left
                                      · intro w'
                                        go_simp
                                        with_reducible rfl
                                      rotate_left
                                      · simp only [Act.put, sA_, i64_w, i32_w]
                                        rfl
                                      refine done_ (done_of HT_.out (by kernel_rfl)) ?_
                                      try go_wp2
                                      go_roundg k3
                                      case measure => have := HK1.out; have := HJ14.out; have := HK3.out; omega
                                      case rel => exact ⟨(t147), (wrap64 (x6_3 + 1)), (by first | rfl | (simp; done) | (simp [*]; done)), H', ⟨by have := HK1.out; have := HJ14.out; have := HK3.out; omega⟩, ⟨by (with_reducible repeat (first | apply Kd.R_alloc | apply Kd.R_drewN | apply Kd.R_drew)); exact HO149.out⟩, ⟨by (with_reducible repeat (first | refine blk_drewN ?_ _ | refine blk_drew ?_ | refine blk_alloc ?_ _)); exact BK129.out⟩, ⟨by (with_reducible repeat (first | refine blk_drewN ?_ _ | refine blk_drew ?_ | refine blk_alloc ?_ _)); exact BK134.out⟩, ⟨by repeat (first | (with_reducible first | exact HB.out | apply below_alloc | apply pw_below_drewN | apply below_drew1 | refine below_set ?_ GE129.out | refine below_set ?_ GE134.out) | exact HB.out)⟩⟩
                                    · rw [if_neg c38] at H
                                      exact absurd H (by simp)
                                  · rw [if_neg c36] at H
                                    exact absurd H (by simp)
                                · rw [if_neg c35] at H
                                  exact absurd H (by simp)
                              · rw [if_neg c33] at H
                                exact absurd H (by simp)
                            · rw [if_neg c32] at H
                              have c32b0 : decide (x6_3 < (((rd_T77 l0_1 x4_1).f4).length : Int)) = false := decide_eq_false c32
                              clear c32
                              replace H := Option.bind_eq_some_iff.mp H
                              obtain ⟨t150, A470, H⟩ := H
                              replace H : (spec_ShowOutcome.l0 k3 t150 (wrap64 (x4_1 + 1)) a0_0 l0_1 l0_2 a0_3 a0_4 a0_5 l0_6) = some r := H
                              have A47 := Aside0.mk A470
                              clear A470
                              have H' := Aside0.mk H
                              clear H
                              have hnb48 := NB134_129.out
                              have hnc48 := NB129_134.out
                              obtain ⟨hcz49_0, hcz49_1, hcz49_2, hcz49_3, hcz49_4, hfz49_0, hfz49_1, hfz49_2, hfz49_3, hfz49_4⟩ := bkA5 BK134.out
                              obtain ⟨Ao50, co50, eo50⟩ := Kd.R_slice HO_3.out
                              subst eo50
                              go_wp2_with (first | ((with_reducible refine gate_callee (f := 40) rfl ?_); refine goesL_ (some 68) rfl rfl Tryd.func40 (by kernel_rfl) rfl #[.slice Ao50 x3_3.length co50, .string (⟨#[10]⟩ : ByteArray)] rfl (by (try simp only [List.map_toArray, List.map_cons, List.map_nil]); first | done | rfl | (simp only [List.length_drop, List.length_take]; rfl)) ?_; (with_reducible refine (spec_l6Put.calls k3 (fun k_ => some k_ = (.slice Ao50 x3_3.length co50 : Value).ownBlock) (.slice Ao50 x3_3.length co50) x3_3 (⟨#[10]⟩ : ByteArray) t150 w _ ?side1 ?side2 A47.out).mono ?_); (case side1 => repeat (first | (with_reducible first | exact HB.out | apply below_alloc | apply pw_below_drewN | apply below_drew1 | refine below_set ?_ GE129.out | refine below_set ?_ GE134.out) | exact HB.out)); (case side2 => exact Kd.R_tight rfl HO_3.out); rintro e w51 ⟨v151, rfl, ho0, hb, hkp⟩; refine ⟨_, rfl, ?_⟩; have n0_ := Aside0.mk (blk_kept (by (with_reducible repeat (first | refine blk_drewN ?_ _ | refine blk_drew ?_ | refine blk_alloc ?_ _)); exact BK129.out) hkp (fun hs_ => (fun e_ => (Kd.R_ne HO_3.out BK129.out (by decide)) e_) hs_)); have n1_ := Aside0.mk (blk_kept (by (with_reducible repeat (first | refine blk_drewN ?_ _ | refine blk_drew ?_ | refine blk_alloc ?_ _)); exact BK134.out) hkp (fun hs_ => (fun e_ => (Kd.R_ne HO_3.out BK134.out (by decide)) e_) hs_)); have n2_ := Aside0.mk (Kd.R_mono (ok' := fun k_ => True) ho0 (fun k_ hk_ => trivial)); have n3_ := Aside0.mk (hb); clear BK129; clear BK134; clear HB; clear HO_3; have BK129 := n0_; have BK134 := n1_; have HO152 := n2_; have HB := n3_; clear n0_ n1_ n2_ n3_; (try clear hb); (try clear hkp); (try clear ho0)))
                              go_roundg k3
                              case measure => have := HK1.out; have := HJ14.out; have := HK3.out; omega
                              case rel => exact ⟨(t150), (wrap64 (x4_1 + 1)), (by first | rfl | (simp; done) | (simp [*]; done)), H', ⟨by have := HK1.out; have := HJ14.out; have := HK3.out; omega⟩, ⟨by (with_reducible repeat (first | apply Kd.R_alloc | apply Kd.R_drewN | apply Kd.R_drew)); exact HO152.out⟩, ⟨by (with_reducible repeat (first | refine blk_drewN ?_ _ | refine blk_drew ?_ | refine blk_alloc ?_ _)); exact BK129.out⟩, ⟨by repeat (first | (with_reducible first | exact HB.out | apply below_alloc | apply pw_below_drewN | apply below_drew1 | refine below_set ?_ GE129.out | refine below_set ?_ GE134.out) | exact HB.out)⟩⟩
                  · rw [if_neg c13] at H
                    exact absurd H (by simp)
                · rw [if_neg c11] at H
                  exact absurd H (by simp)
              · rw [if_neg c10] at H
                exact absurd H (by simp)
            · rw [if_neg c9] at H
              exact absurd H (by simp)
          · rw [if_neg c8] at H
            exact absurd H (by simp)
        · rw [if_neg c6] at H
          exact absurd H (by simp)
      · rw [if_neg c5] at H
        have c5b0 : decide (x4_1 < (l0_1.length : Int)) = false := decide_eq_false c5
        clear c5
        have H' := Aside0.mk H
        clear H
        obtain ⟨hcz52_0, hcz52_1, hcz52_2, hcz52_3, hcz52_4, hcz52_5, hcz52_6, hfz52_0, hfz52_1, hfz52_2, hfz52_3, hfz52_4, hfz52_5, hfz52_6⟩ := bkA7 BK129.out
        go_wp2
        go_loopg [3, 7] k1 (fun kq v3 v7 w' => ∃ (x3_2 : List Int) (x7_2 : Int), v7 = .int .i64 x7_2 ∧ Aside0 (spec_ShowOutcome.l2 kq x3_2 x7_2 a0_0 l0_1 l0_2 a0_3 a0_4 a0_5 l0_6 = some r) ∧ Aside0 (kq ≤ k1) ∧ Aside0 (Kd.R (Kd.int .u8) 5 w' w.heap.size (fun _ => True) v3 x3_2) ∧ Aside0 (w'.heap[gb129]? = some (.cells #[.int .i64 a0_0, (.slice A0_1 l0_1.length c0_1), (.slice A0_2 l0_2.length c0_2), .int .i64 a0_3, .int .i64 a0_4, .int .i64 a0_5, (.slice A0_6 l0_6.length c0_6)] 37 (0, 0))) ∧ Aside0 (Below w.heap.size w w'))
        case atStart => exact ⟨(x3_1), (0), (by first | rfl | (simp; done) | (simp [*]; done)), H', ⟨Nat.le_refl _⟩, ⟨by (with_reducible repeat (first | apply Kd.R_alloc | apply Kd.R_drewN | apply Kd.R_drew)); exact HO_3.out⟩, ⟨by (with_reducible repeat (first | refine blk_drewN ?_ _ | refine blk_drew ?_ | refine blk_alloc ?_ _)); exact BK129.out⟩, ⟨by repeat (first | (with_reducible first | exact HB.out | apply below_alloc | apply pw_below_drewN | apply below_drew1 | refine below_set ?_ GE129.out) | exact HB.out)⟩⟩
        case round =>
          clear H'
          try clear c1
          try clear p1
          try clear q1
          try clear hx1
          try clear c2
          try clear p2
          try clear q2
          try clear c3
          try clear c4
          try clear c5
          try clear c5b0
          try clear c6
          try clear c6b0
          try clear p6
          try clear c8
          try clear c8b0
          try clear c8b1
          try clear c8b2
          try clear c9
          try clear c9b0
          try clear c9b1
          try clear c9b2
          try clear c10
          try clear c10b0
          try clear c10b1
          try clear c10b2
          try clear c11
          try clear c11b0
          try clear c11b1
          try clear c11b2
          try clear c13
          try clear c13b0
          try clear c13b1
          try clear c13b2
          try clear p13
          try clear q13
          try clear hx13
          try clear p14
          try clear q14
          try clear hx14
          try clear c18
          try clear q27
          try clear c28
          try clear c32
          try clear c32b0
          try clear c33
          try clear c33b0
          try clear c35
          try clear c35b0
          try clear c35b1
          try clear c35b2
          try clear c36
          try clear c36b0
          try clear c36b1
          try clear c36b2
          try clear c38
          try clear c38b0
          try clear c38b1
          try clear c38b2
          try clear c40
          try clear c41
          try clear c48
          try clear hcz16_0
          try clear hcz16_1
          try clear hcz16_2
          try clear hcz16_3
          try clear hcz16_4
          try clear hcz16_5
          try clear hcz16_6
          try clear hcz19_0
          try clear hcz19_1
          try clear hcz19_2
          try clear hcz19_3
          try clear hcz19_4
          try clear hcz26_0
          try clear hcz26_1
          try clear hcz26_2
          try clear hcz26_3
          try clear hcz26_4
          try clear hcz41_0
          try clear hcz41_1
          try clear hcz41_2
          try clear hcz41_3
          try clear hcz41_4
          try clear hcz49_0
          try clear hcz49_1
          try clear hcz49_2
          try clear hcz49_3
          try clear hcz49_4
          try clear hcz52_0
          try clear hcz52_1
          try clear hcz52_2
          try clear hcz52_3
          try clear hcz52_4
          try clear hcz52_5
          try clear hcz52_6
          try clear hfz16_0
          try clear hfz16_1
          try clear hfz16_2
          try clear hfz16_3
          try clear hfz16_4
          try clear hfz16_5
          try clear hfz16_6
          try clear hfz19_0
          try clear hfz19_1
          try clear hfz19_2
          try clear hfz19_3
          try clear hfz19_4
          try clear hfz26_0
          try clear hfz26_1
          try clear hfz26_2
          try clear hfz26_3
          try clear hfz26_4
          try clear hfz41_0
          try clear hfz41_1
          try clear hfz41_2
          try clear hfz41_3
          try clear hfz41_4
          try clear hfz49_0
          try clear hfz49_1
          try clear hfz49_2
          try clear hfz49_3
          try clear hfz49_4
          try clear hfz52_0
          try clear hfz52_1
          try clear hfz52_2
          try clear hfz52_3
          try clear hfz52_4
          try clear hfz52_5
          try clear hfz52_6
          try clear hx133_0
          try clear hx133_1
          try clear hx133_2
          try clear hx133_3
          try clear hx133_4
          try clear hx143_0
          try clear hx143_1
          try clear hx145_0
          try clear hx145_1
          try clear p1
          try clear p13
          try clear p133
          try clear p143
          try clear p145
          try clear p2
          try clear q1
          try clear q13
          try clear q133
          try clear q143
          try clear q145
          try clear q2
          try clear q27
          obtain ⟨x3_2, x7_2, rfl, HA, HK2, HO_3, BK129, HB⟩ := hrel
          cases gk with
          | zero => exact absurd HA.out (by simp [spec_ShowOutcome.l2])
          | succ k2 =>
            have H := HA.out
            clear HA
            simp only [spec_ShowOutcome.l2] at H
            by_cases c53 : x7_2 < (l0_2.length : Int)
            · rw [if_pos c53] at H
              have c53b0 : decide (x7_2 < (l0_2.length : Int)) = true := decide_eq_true c53
              clear c53
              by_cases c54 : 0 ≤ x7_2
              · rw [if_pos c54] at H
                have c54b0 : decide (0 ≤ x7_2) = true := decide_eq_true c54
                clear c54
                replace H := Option.bind_eq_some_iff.mp H
                obtain ⟨t155, A550, H⟩ := H
                replace H : (if 4 + t155.size ≤ 9223372036854775807 then (if ((⟨#[114, 97, 110, 32]⟩ : ByteArray) ++ t155).size + 1 ≤ 9223372036854775807 then (if (((⟨#[114, 97, 110, 32]⟩ : ByteArray) ++ t155) ++ (⟨#[32]⟩ : ByteArray)).size + ((rd_T85 l0_2 x7_2).f0.f1).size ≤ 9223372036854775807 then (if ((((⟨#[114, 97, 110, 32]⟩ : ByteArray) ++ t155) ++ (⟨#[32]⟩ : ByteArray)) ++ ((rd_T85 l0_2 x7_2).f0.f1)).size + 1 ≤ 9223372036854775807 then ((spec_l2Show.f k2 ((rd_T85 l0_2 x7_2).f1)).bind fun t156 => (if (((((⟨#[114, 97, 110, 32]⟩ : ByteArray) ++ t155) ++ (⟨#[32]⟩ : ByteArray)) ++ ((rd_T85 l0_2 x7_2).f0.f1)) ++ (⟨#[32]⟩ : ByteArray)).size + t156.size ≤ 9223372036854775807 then (if ((((((⟨#[114, 97, 110, 32]⟩ : ByteArray) ++ t155) ++ (⟨#[32]⟩ : ByteArray)) ++ ((rd_T85 l0_2 x7_2).f0.f1)) ++ (⟨#[32]⟩ : ByteArray)) ++ t156).size + 1 ≤ 9223372036854775807 then ((spec_l2Show.f k2 ((rd_T85 l0_2 x7_2).f2)).bind fun t157 => (if (((((((⟨#[114, 97, 110, 32]⟩ : ByteArray) ++ t155) ++ (⟨#[32]⟩ : ByteArray)) ++ ((rd_T85 l0_2 x7_2).f0.f1)) ++ (⟨#[32]⟩ : ByteArray)) ++ t156) ++ (⟨#[32]⟩ : ByteArray)).size + t157.size ≤ 9223372036854775807 then (if ((((((((⟨#[114, 97, 110, 32]⟩ : ByteArray) ++ t155) ++ (⟨#[32]⟩ : ByteArray)) ++ ((rd_T85 l0_2 x7_2).f0.f1)) ++ (⟨#[32]⟩ : ByteArray)) ++ t156) ++ (⟨#[32]⟩ : ByteArray)) ++ t157).size + 1 ≤ 9223372036854775807 then ((spec_l6Put.f k2 x3_2 (((((((((⟨#[114, 97, 110, 32]⟩ : ByteArray) ++ t155) ++ (⟨#[32]⟩ : ByteArray)) ++ ((rd_T85 l0_2 x7_2).f0.f1)) ++ (⟨#[32]⟩ : ByteArray)) ++ t156) ++ (⟨#[32]⟩ : ByteArray)) ++ t157) ++ (⟨#[10]⟩ : ByteArray))).bind fun t158 => (spec_ShowOutcome.l2 k2 t158 (wrap64 (x7_2 + 1)) a0_0 l0_1 l0_2 a0_3 a0_4 a0_5 l0_6)) else (none)) else (none))) else (none)) else (none))) else (none)) else (none)) else (none)) else (none)) = some r := H
                have A55 := Aside0.mk A550
                clear A550
                by_cases c56 : 4 + t155.size ≤ 9223372036854775807
                · rw [if_pos c56] at H
                  have c56b0 := eq_true c56
                  have c56b1 : decide (4 + t155.size ≤ 9223372036854775807) = true := decide_eq_true c56
                  try have c56b2 : (9223372036854775807 < 4 + t155.size) = False := eq_false (Nat.not_lt.2 c56)
                  by_cases c57 : ((⟨#[114, 97, 110, 32]⟩ : ByteArray) ++ t155).size + 1 ≤ 9223372036854775807
                  · rw [if_pos c57] at H
                    have c57b0 := eq_true c57
                    have c57b1 : decide (((⟨#[114, 97, 110, 32]⟩ : ByteArray) ++ t155).size + 1 ≤ 9223372036854775807) = true := decide_eq_true c57
                    try have c57b2 : (9223372036854775807 < ((⟨#[114, 97, 110, 32]⟩ : ByteArray) ++ t155).size + 1) = False := eq_false (Nat.not_lt.2 c57)
                    try have c57b3 : (9223372036854775807 < 4 + t155.size + 1) = False := by have h_ := c57; simp only [ByteArray.size_append] at h_; exact eq_false (Nat.not_lt.2 h_)
                    by_cases c58 : (((⟨#[114, 97, 110, 32]⟩ : ByteArray) ++ t155) ++ (⟨#[32]⟩ : ByteArray)).size + ((rd_T85 l0_2 x7_2).f0.f1).size ≤ 9223372036854775807
                    · rw [if_pos c58] at H
                      have c58b0 := eq_true c58
                      have c58b1 : decide ((((⟨#[114, 97, 110, 32]⟩ : ByteArray) ++ t155) ++ (⟨#[32]⟩ : ByteArray)).size + ((rd_T85 l0_2 x7_2).f0.f1).size ≤ 9223372036854775807) = true := decide_eq_true c58
                      try have c58b2 : (9223372036854775807 < (((⟨#[114, 97, 110, 32]⟩ : ByteArray) ++ t155) ++ (⟨#[32]⟩ : ByteArray)).size + ((rd_T85 l0_2 x7_2).f0.f1).size) = False := eq_false (Nat.not_lt.2 c58)
                      try have c58b3 : (9223372036854775807 < 4 + t155.size + 1 + ((rd_T85 l0_2 x7_2).f0.f1).size) = False := by have h_ := c58; simp only [ByteArray.size_append] at h_; exact eq_false (Nat.not_lt.2 h_)
                      by_cases c59 : ((((⟨#[114, 97, 110, 32]⟩ : ByteArray) ++ t155) ++ (⟨#[32]⟩ : ByteArray)) ++ ((rd_T85 l0_2 x7_2).f0.f1)).size + 1 ≤ 9223372036854775807
                      · rw [if_pos c59] at H
                        have c59b0 := eq_true c59
                        have c59b1 : decide (((((⟨#[114, 97, 110, 32]⟩ : ByteArray) ++ t155) ++ (⟨#[32]⟩ : ByteArray)) ++ ((rd_T85 l0_2 x7_2).f0.f1)).size + 1 ≤ 9223372036854775807) = true := decide_eq_true c59
                        try have c59b2 : (9223372036854775807 < ((((⟨#[114, 97, 110, 32]⟩ : ByteArray) ++ t155) ++ (⟨#[32]⟩ : ByteArray)) ++ ((rd_T85 l0_2 x7_2).f0.f1)).size + 1) = False := eq_false (Nat.not_lt.2 c59)
                        try have c59b3 : (9223372036854775807 < 4 + t155.size + 1 + ((rd_T85 l0_2 x7_2).f0.f1).size + 1) = False := by have h_ := c59; simp only [ByteArray.size_append] at h_; exact eq_false (Nat.not_lt.2 h_)
                        replace H := Option.bind_eq_some_iff.mp H
                        obtain ⟨t156, A600, H⟩ := H
                        replace H : (if (((((⟨#[114, 97, 110, 32]⟩ : ByteArray) ++ t155) ++ (⟨#[32]⟩ : ByteArray)) ++ ((rd_T85 l0_2 x7_2).f0.f1)) ++ (⟨#[32]⟩ : ByteArray)).size + t156.size ≤ 9223372036854775807 then (if ((((((⟨#[114, 97, 110, 32]⟩ : ByteArray) ++ t155) ++ (⟨#[32]⟩ : ByteArray)) ++ ((rd_T85 l0_2 x7_2).f0.f1)) ++ (⟨#[32]⟩ : ByteArray)) ++ t156).size + 1 ≤ 9223372036854775807 then ((spec_l2Show.f k2 ((rd_T85 l0_2 x7_2).f2)).bind fun t157 => (if (((((((⟨#[114, 97, 110, 32]⟩ : ByteArray) ++ t155) ++ (⟨#[32]⟩ : ByteArray)) ++ ((rd_T85 l0_2 x7_2).f0.f1)) ++ (⟨#[32]⟩ : ByteArray)) ++ t156) ++ (⟨#[32]⟩ : ByteArray)).size + t157.size ≤ 9223372036854775807 then (if ((((((((⟨#[114, 97, 110, 32]⟩ : ByteArray) ++ t155) ++ (⟨#[32]⟩ : ByteArray)) ++ ((rd_T85 l0_2 x7_2).f0.f1)) ++ (⟨#[32]⟩ : ByteArray)) ++ t156) ++ (⟨#[32]⟩ : ByteArray)) ++ t157).size + 1 ≤ 9223372036854775807 then ((spec_l6Put.f k2 x3_2 (((((((((⟨#[114, 97, 110, 32]⟩ : ByteArray) ++ t155) ++ (⟨#[32]⟩ : ByteArray)) ++ ((rd_T85 l0_2 x7_2).f0.f1)) ++ (⟨#[32]⟩ : ByteArray)) ++ t156) ++ (⟨#[32]⟩ : ByteArray)) ++ t157) ++ (⟨#[10]⟩ : ByteArray))).bind fun t158 => (spec_ShowOutcome.l2 k2 t158 (wrap64 (x7_2 + 1)) a0_0 l0_1 l0_2 a0_3 a0_4 a0_5 l0_6)) else (none)) else (none))) else (none)) else (none)) = some r := H
                        have A60 := Aside0.mk A600
                        clear A600
                        by_cases c61 : (((((⟨#[114, 97, 110, 32]⟩ : ByteArray) ++ t155) ++ (⟨#[32]⟩ : ByteArray)) ++ ((rd_T85 l0_2 x7_2).f0.f1)) ++ (⟨#[32]⟩ : ByteArray)).size + t156.size ≤ 9223372036854775807
                        · rw [if_pos c61] at H
                          have c61b0 := eq_true c61
                          have c61b1 : decide ((((((⟨#[114, 97, 110, 32]⟩ : ByteArray) ++ t155) ++ (⟨#[32]⟩ : ByteArray)) ++ ((rd_T85 l0_2 x7_2).f0.f1)) ++ (⟨#[32]⟩ : ByteArray)).size + t156.size ≤ 9223372036854775807) = true := decide_eq_true c61
                          try have c61b2 : (9223372036854775807 < (((((⟨#[114, 97, 110, 32]⟩ : ByteArray) ++ t155) ++ (⟨#[32]⟩ : ByteArray)) ++ ((rd_T85 l0_2 x7_2).f0.f1)) ++ (⟨#[32]⟩ : ByteArray)).size + t156.size) = False := eq_false (Nat.not_lt.2 c61)
                          try have c61b3 : (9223372036854775807 < 4 + t155.size + 1 + ((rd_T85 l0_2 x7_2).f0.f1).size + 1 + t156.size) = False := by have h_ := c61; simp only [ByteArray.size_append] at h_; exact eq_false (Nat.not_lt.2 h_)
                          by_cases c62 : ((((((⟨#[114, 97, 110, 32]⟩ : ByteArray) ++ t155) ++ (⟨#[32]⟩ : ByteArray)) ++ ((rd_T85 l0_2 x7_2).f0.f1)) ++ (⟨#[32]⟩ : ByteArray)) ++ t156).size + 1 ≤ 9223372036854775807
                          · rw [if_pos c62] at H
                            have c62b0 := eq_true c62
                            have c62b1 : decide (((((((⟨#[114, 97, 110, 32]⟩ : ByteArray) ++ t155) ++ (⟨#[32]⟩ : ByteArray)) ++ ((rd_T85 l0_2 x7_2).f0.f1)) ++ (⟨#[32]⟩ : ByteArray)) ++ t156).size + 1 ≤ 9223372036854775807) = true := decide_eq_true c62
                            try have c62b2 : (9223372036854775807 < ((((((⟨#[114, 97, 110, 32]⟩ : ByteArray) ++ t155) ++ (⟨#[32]⟩ : ByteArray)) ++ ((rd_T85 l0_2 x7_2).f0.f1)) ++ (⟨#[32]⟩ : ByteArray)) ++ t156).size + 1) = False := eq_false (Nat.not_lt.2 c62)
                            try have c62b3 : (9223372036854775807 < 4 + t155.size + 1 + ((rd_T85 l0_2 x7_2).f0.f1).size + 1 + t156.size + 1) = False := by have h_ := c62; simp only [ByteArray.size_append] at h_; exact eq_false (Nat.not_lt.2 h_)
                            replace H := Option.bind_eq_some_iff.mp H
                            obtain ⟨t157, A630, H⟩ := H
                            replace H : (if (((((((⟨#[114, 97, 110, 32]⟩ : ByteArray) ++ t155) ++ (⟨#[32]⟩ : ByteArray)) ++ ((rd_T85 l0_2 x7_2).f0.f1)) ++ (⟨#[32]⟩ : ByteArray)) ++ t156) ++ (⟨#[32]⟩ : ByteArray)).size + t157.size ≤ 9223372036854775807 then (if ((((((((⟨#[114, 97, 110, 32]⟩ : ByteArray) ++ t155) ++ (⟨#[32]⟩ : ByteArray)) ++ ((rd_T85 l0_2 x7_2).f0.f1)) ++ (⟨#[32]⟩ : ByteArray)) ++ t156) ++ (⟨#[32]⟩ : ByteArray)) ++ t157).size + 1 ≤ 9223372036854775807 then ((spec_l6Put.f k2 x3_2 (((((((((⟨#[114, 97, 110, 32]⟩ : ByteArray) ++ t155) ++ (⟨#[32]⟩ : ByteArray)) ++ ((rd_T85 l0_2 x7_2).f0.f1)) ++ (⟨#[32]⟩ : ByteArray)) ++ t156) ++ (⟨#[32]⟩ : ByteArray)) ++ t157) ++ (⟨#[10]⟩ : ByteArray))).bind fun t158 => (spec_ShowOutcome.l2 k2 t158 (wrap64 (x7_2 + 1)) a0_0 l0_1 l0_2 a0_3 a0_4 a0_5 l0_6)) else (none)) else (none)) = some r := H
                            have A63 := Aside0.mk A630
                            clear A630
                            by_cases c64 : (((((((⟨#[114, 97, 110, 32]⟩ : ByteArray) ++ t155) ++ (⟨#[32]⟩ : ByteArray)) ++ ((rd_T85 l0_2 x7_2).f0.f1)) ++ (⟨#[32]⟩ : ByteArray)) ++ t156) ++ (⟨#[32]⟩ : ByteArray)).size + t157.size ≤ 9223372036854775807
                            · rw [if_pos c64] at H
                              have c64b0 := eq_true c64
                              have c64b1 : decide ((((((((⟨#[114, 97, 110, 32]⟩ : ByteArray) ++ t155) ++ (⟨#[32]⟩ : ByteArray)) ++ ((rd_T85 l0_2 x7_2).f0.f1)) ++ (⟨#[32]⟩ : ByteArray)) ++ t156) ++ (⟨#[32]⟩ : ByteArray)).size + t157.size ≤ 9223372036854775807) = true := decide_eq_true c64
                              try have c64b2 : (9223372036854775807 < (((((((⟨#[114, 97, 110, 32]⟩ : ByteArray) ++ t155) ++ (⟨#[32]⟩ : ByteArray)) ++ ((rd_T85 l0_2 x7_2).f0.f1)) ++ (⟨#[32]⟩ : ByteArray)) ++ t156) ++ (⟨#[32]⟩ : ByteArray)).size + t157.size) = False := eq_false (Nat.not_lt.2 c64)
                              try have c64b3 : (9223372036854775807 < 4 + t155.size + 1 + ((rd_T85 l0_2 x7_2).f0.f1).size + 1 + t156.size + 1 + t157.size) = False := by have h_ := c64; simp only [ByteArray.size_append] at h_; exact eq_false (Nat.not_lt.2 h_)
                              by_cases c65 : ((((((((⟨#[114, 97, 110, 32]⟩ : ByteArray) ++ t155) ++ (⟨#[32]⟩ : ByteArray)) ++ ((rd_T85 l0_2 x7_2).f0.f1)) ++ (⟨#[32]⟩ : ByteArray)) ++ t156) ++ (⟨#[32]⟩ : ByteArray)) ++ t157).size + 1 ≤ 9223372036854775807
                              · rw [if_pos c65] at H
                                have c65b0 := eq_true c65
                                have c65b1 : decide (((((((((⟨#[114, 97, 110, 32]⟩ : ByteArray) ++ t155) ++ (⟨#[32]⟩ : ByteArray)) ++ ((rd_T85 l0_2 x7_2).f0.f1)) ++ (⟨#[32]⟩ : ByteArray)) ++ t156) ++ (⟨#[32]⟩ : ByteArray)) ++ t157).size + 1 ≤ 9223372036854775807) = true := decide_eq_true c65
                                try have c65b2 : (9223372036854775807 < ((((((((⟨#[114, 97, 110, 32]⟩ : ByteArray) ++ t155) ++ (⟨#[32]⟩ : ByteArray)) ++ ((rd_T85 l0_2 x7_2).f0.f1)) ++ (⟨#[32]⟩ : ByteArray)) ++ t156) ++ (⟨#[32]⟩ : ByteArray)) ++ t157).size + 1) = False := eq_false (Nat.not_lt.2 c65)
                                try have c65b3 : (9223372036854775807 < 4 + t155.size + 1 + ((rd_T85 l0_2 x7_2).f0.f1).size + 1 + t156.size + 1 + t157.size + 1) = False := by have h_ := c65; simp only [ByteArray.size_append] at h_; exact eq_false (Nat.not_lt.2 h_)
                                replace H := Option.bind_eq_some_iff.mp H
                                obtain ⟨t158, A660, H⟩ := H
                                replace H : (spec_ShowOutcome.l2 k2 t158 (wrap64 (x7_2 + 1)) a0_0 l0_1 l0_2 a0_3 a0_4 a0_5 l0_6) = some r := H
                                have A66 := Aside0.mk A660
                                clear A660
                                have H' := Aside0.mk H
                                clear H
                                obtain ⟨hcz67_0, hcz67_1, hcz67_2, hcz67_3, hcz67_4, hcz67_5, hcz67_6, hfz67_0, hfz67_1, hfz67_2, hfz67_3, hfz67_4, hfz67_5, hfz67_6⟩ := bkA7 BK129.out
                                have p153 : 0 ≤ (x7_2 : Int) := of_decide_eq_true (by first | (with_reducible assumption) | assumption)
                                have q153 : x7_2 < (l0_2.length : Int) := of_decide_eq_true (by first | (with_reducible assumption) | assumption)
                                obtain ⟨ad153, e153, hx153_0, hx153_1, hx153_2, hx153_3⟩ := at_T85 HR0_2.out x7_2 p153 q153
                                cases e153
                                replace hx153_0 := (HB.out.cell (World.block_lt_of_cell? w _ hx153_0)).trans hx153_0
                                replace hx153_1 := (HB.out.cell (World.block_lt_of_cell? w _ hx153_1)).trans hx153_1
                                replace hx153_2 := (HB.out.cell (World.block_lt_of_cell? w _ hx153_2)).trans hx153_2
                                replace hx153_3 := (HB.out.cell (World.block_lt_of_cell? w _ hx153_3)).trans hx153_3
                                replace p153 := eq_true p153
                                replace q153 := eq_true q153
                                try go_wp2_with (first | ((with_reducible refine gate_dst (N := 8) rfl ?_); refine box_event ?hg (N := 8) ?hd (cs := #[.int .i64 0, .string (⟨#[]⟩ : ByteArray), .int .i64 0, .int .i64 0]) (t := 85) ?hr ?_; (case hd => rfl); (case hg => rfl); (case hr => first | (go_simp; done) | (go_simp; rfl)); intro gb154 hg w68 hbox hb; have hb1_ := fromP HB.out hb (by repeat (first | (with_reducible exact Below.refl _ _) | apply below_alloc | apply pw_below_drewN | apply below_drew1)); have hb0_ := below_step hb1_ hb; have hW_ := below_step HB.out hb1_; have n3_ := Aside0.mk (hbox); have n4_ := Aside0.mk ((by rw [hg]; exact (below_size hW_) : w.heap.size ≤ gb154)); have n5_ := Aside0.mk ((by rw [hg]; exact (below_size hW_) : w.heap.size ≤ gb154)); have n6_ := Aside0.mk ((by rw [hg]; exact Nat.ne_of_lt (blk_lt (blk_below BK129.out hb1_)) : gb129 ≠ gb154)); have n7_ := Aside0.mk ((by rw [hg]; exact Nat.ne_of_gt (blk_lt (blk_below BK129.out hb1_)) : gb154 ≠ gb129)); replace HO_3 := kR HO_3 hb0_; replace BK129 := kB BK129 hb0_; replace HB := kH HB hb0_; have BK154 := n3_; have GW154 := n4_; have GE154 := n5_; have NB129_154 := n6_; have NB154_129 := n7_; clear hb1_ hb0_ hW_ n3_ n4_ n5_ n6_ n7_; clear hb hbox hg; have hnb69 := NB154_129.out; have hnc69 := NB129_154.out; obtain ⟨hcz70_0, hcz70_1, hcz70_2, hcz70_3, hfz70_0, hfz70_1, hfz70_2, hfz70_3⟩ := bkA4 BK154.out))
                                have n0_ : Aside0 (Kd.R (Kd.int .u8) 5 ((((w68.setCell ⟨gb154, 0, none⟩ (.int .i64 ((rd_T85 l0_2 x7_2).f0.f0))).setCell ⟨gb154, 1, none⟩ (.string ((rd_T85 l0_2 x7_2).f0.f1))).setCell ⟨gb154, 2, none⟩ (.int .i64 ((rd_T85 l0_2 x7_2).f1))).setCell ⟨gb154, 3, none⟩ (.int .i64 ((rd_T85 l0_2 x7_2).f2))) w.heap.size (fun _ => True) u3 x3_2) := ⟨by (with_reducible repeat (first | apply Kd.R_alloc | apply Kd.R_drewN | apply Kd.R_drew)); exact Kd.R_mono (Kd.R_far (p := ⟨gb154, 3, none⟩) (Kd.R_far (p := ⟨gb154, 2, none⟩) (Kd.R_far (p := ⟨gb154, 1, none⟩) (Kd.R_far (p := ⟨gb154, 0, none⟩) (Kd.R_types HO_3.out BK154.out (by decide)) (fun _ hk => hk.2) (.int .i64 ((rd_T85 l0_2 x7_2).f0.f0))) (fun _ hk => hk.2) (.string ((rd_T85 l0_2 x7_2).f0.f1))) (fun _ hk => hk.2) (.int .i64 ((rd_T85 l0_2 x7_2).f1))) (fun _ hk => hk.2) (.int .i64 ((rd_T85 l0_2 x7_2).f2))) (fun _ hk => trivial)⟩
                                have n1_ : Aside0 (((((w68.setCell ⟨gb154, 0, none⟩ (.int .i64 ((rd_T85 l0_2 x7_2).f0.f0))).setCell ⟨gb154, 1, none⟩ (.string ((rd_T85 l0_2 x7_2).f0.f1))).setCell ⟨gb154, 2, none⟩ (.int .i64 ((rd_T85 l0_2 x7_2).f1))).setCell ⟨gb154, 3, none⟩ (.int .i64 ((rd_T85 l0_2 x7_2).f2))).heap[gb129]? = some (.cells #[.int .i64 a0_0, .slice A0_1 l0_1.length c0_1, .slice (some ad153) l0_2.length c0_2, .int .i64 a0_3, .int .i64 a0_4, .int .i64 a0_5, .slice A0_6 l0_6.length c0_6] 37 (0, 0))) := ⟨by (with_reducible repeat (first | refine blk_drewN ?_ _ | refine blk_drew ?_ | refine blk_alloc ?_ _)); refine blk_far ?_ NB129_154.out _; (with_reducible repeat (first | refine blk_drewN ?_ _ | refine blk_drew ?_ | refine blk_alloc ?_ _)); refine blk_far ?_ NB129_154.out _; (with_reducible repeat (first | refine blk_drewN ?_ _ | refine blk_drew ?_ | refine blk_alloc ?_ _)); refine blk_far ?_ NB129_154.out _; (with_reducible repeat (first | refine blk_drewN ?_ _ | refine blk_drew ?_ | refine blk_alloc ?_ _)); refine blk_far ?_ NB129_154.out _; (with_reducible repeat (first | refine blk_drewN ?_ _ | refine blk_drew ?_ | refine blk_alloc ?_ _)); exact BK129.out⟩
                                have n2_ : Aside0 (((((w68.setCell ⟨gb154, 0, none⟩ (.int .i64 ((rd_T85 l0_2 x7_2).f0.f0))).setCell ⟨gb154, 1, none⟩ (.string ((rd_T85 l0_2 x7_2).f0.f1))).setCell ⟨gb154, 2, none⟩ (.int .i64 ((rd_T85 l0_2 x7_2).f1))).setCell ⟨gb154, 3, none⟩ (.int .i64 ((rd_T85 l0_2 x7_2).f2))).heap[gb154]? = some (.cells #[.int .i64 ((rd_T85 l0_2 x7_2).f0.f0), .string ((rd_T85 l0_2 x7_2).f0.f1), .int .i64 ((rd_T85 l0_2 x7_2).f1), .int .i64 ((rd_T85 l0_2 x7_2).f2)] 85 (0, 0))) := ⟨by (with_reducible repeat (first | refine blk_drewN ?_ _ | refine blk_drew ?_ | refine blk_alloc ?_ _)); refine blk_put (cs := #[.int .i64 ((rd_T85 l0_2 x7_2).f0.f0), .string ((rd_T85 l0_2 x7_2).f0.f1), .int .i64 ((rd_T85 l0_2 x7_2).f1), .int .i64 0]) ?_ 3 _ rfl; (with_reducible repeat (first | refine blk_drewN ?_ _ | refine blk_drew ?_ | refine blk_alloc ?_ _)); refine blk_put (cs := #[.int .i64 ((rd_T85 l0_2 x7_2).f0.f0), .string ((rd_T85 l0_2 x7_2).f0.f1), .int .i64 0, .int .i64 0]) ?_ 2 _ rfl; (with_reducible repeat (first | refine blk_drewN ?_ _ | refine blk_drew ?_ | refine blk_alloc ?_ _)); refine blk_put (cs := #[.int .i64 ((rd_T85 l0_2 x7_2).f0.f0), .string (⟨#[]⟩ : ByteArray), .int .i64 0, .int .i64 0]) ?_ 1 _ rfl; (with_reducible repeat (first | refine blk_drewN ?_ _ | refine blk_drew ?_ | refine blk_alloc ?_ _)); refine blk_put (cs := #[.int .i64 0, .string (⟨#[]⟩ : ByteArray), .int .i64 0, .int .i64 0]) ?_ 0 _ rfl; (with_reducible repeat (first | refine blk_drewN ?_ _ | refine blk_drew ?_ | refine blk_alloc ?_ _)); exact BK154.out⟩
                                have n3_ : Aside0 (Below w.heap.size w ((((w68.setCell ⟨gb154, 0, none⟩ (.int .i64 ((rd_T85 l0_2 x7_2).f0.f0))).setCell ⟨gb154, 1, none⟩ (.string ((rd_T85 l0_2 x7_2).f0.f1))).setCell ⟨gb154, 2, none⟩ (.int .i64 ((rd_T85 l0_2 x7_2).f1))).setCell ⟨gb154, 3, none⟩ (.int .i64 ((rd_T85 l0_2 x7_2).f2)))) := ⟨by repeat (first | (with_reducible first | exact HB.out | apply below_alloc | apply pw_below_drewN | apply below_drew1 | refine below_set ?_ GE129.out | refine below_set ?_ GE154.out) | exact HB.out)⟩
                                (try clear HO_3)
                                (try clear BK129)
                                (try clear BK154)
                                (try clear HB)
                                generalize ((((w68.setCell ⟨gb154, 0, none⟩ (.int .i64 ((rd_T85 l0_2 x7_2).f0.f0))).setCell ⟨gb154, 1, none⟩ (.string ((rd_T85 l0_2 x7_2).f0.f1))).setCell ⟨gb154, 2, none⟩ (.int .i64 ((rd_T85 l0_2 x7_2).f1))).setCell ⟨gb154, 3, none⟩ (.int .i64 ((rd_T85 l0_2 x7_2).f2))) = w71 at n0_ n1_ n2_ n3_ ⊢
                                have HO_3 := n0_
                                have BK129 := n1_
                                have BK154 := n2_
                                have HB := n3_
                                clear n0_ n1_ n2_ n3_
                                have n0_ := Aside0.mk (Kd.R_drew HO_3.out)
                                have n1_ := Aside0.mk (blk_drew BK129.out)
                                have n2_ := Aside0.mk (blk_drew BK154.out)
                                have n3_ := Aside0.mk (below_drew1 HB.out)
                                clear HO_3
                                clear BK129
                                clear BK154
                                clear HB
                                have HO_3 := n0_
                                have BK129 := n1_
                                have BK154 := n2_
                                have HB := n3_
                                clear n0_ n1_ n2_ n3_
                                refine start_ (n := 24) (S := fun w' => w'.cell? ⟨gb154, 0, none⟩ = some (.int .i64 ((rd_T85 l0_2 x7_2).f0.f0)) ∧ w'.cell? ⟨gb154, 1, none⟩ = some (.string ((rd_T85 l0_2 x7_2).f0.f1)) ∧ w'.cell? ⟨gb154, 2, none⟩ = some (.int .i64 ((rd_T85 l0_2 x7_2).f1)) ∧ w'.cell? ⟨gb154, 3, none⟩ = some (.int .i64 ((rd_T85 l0_2 x7_2).f2))) (ds := []) #[false, false, false, false, false, false, false, false, false, false, false, false, false, false, false, false, false, false, false, false, false, false, false, false] (by kernel_rfl) rfl rfl ⟨(blk_cell BK154.out 0).trans rfl, (blk_cell BK154.out 1).trans rfl, (blk_cell BK154.out 2).trans rfl, (blk_cell BK154.out 3).trans rfl⟩ (fun hHeld => ?_); refine with_tabW spec_ShowOutcome.tab18 spec_ShowOutcome.bits18 (fun HT_ HW_ => ?_)
                                generalize w71.drew = w72 at HO_3 BK129 BK154 HB hHeld ⊢
                                refine pure_ (i := 0) (N := some 81) (v := ?_) (a' := ?_) #[true, false, false, false, false, false, false, false, false, false, false, false, false, false, false, false, false, false, false, false, false, false, false, false] rfl rfl (any_of HT_.out (by kernel_rfl)) (fun _ _ _ h => h) (Or.inl ⟨by rfl, ?_⟩) ?_ ?_
                                rotate_left
                                · intro w'
                                  go_simp
                                  with_reducible rfl
                                rotate_left
                                · simp only [Act.put, sA_, i64_w, i32_w]
                                  rfl
                                refine pure_ (i := 1) (N := some 82) (v := ?_) (a' := ?_) #[true, true, false, false, false, false, false, false, false, false, false, false, false, false, false, false, false, false, false, false, false, false, false, false] rfl rfl (any_of HT_.out (by kernel_rfl)) (fun _ _ _ h => h) (Or.inl ⟨by rfl, ?_⟩) ?_ ?_
                                rotate_left
                                · intro w'
                                  go_simp
                                  with_reducible rfl
                                rotate_left
                                · simp only [Act.put, sA_, i64_w, i32_w]
                                  rfl
                                refine pure_ (i := 2) (N := some 83) (v := ?_) (a' := ?_) #[true, true, true, false, false, false, false, false, false, false, false, false, false, false, false, false, false, false, false, false, false, false, false, false] rfl rfl (any_of HT_.out (by kernel_rfl)) (fun _ _ _ h => h) (Or.inl ⟨by rfl, ?_⟩) ?_ ?_
                                rotate_left
                                · intro w'
                                  go_simp
                                  with_reducible rfl
                                rotate_left
                                · simp only [Act.put, sA_, i64_w, i32_w]
                                  rfl
                                refine pure_ (i := 7) (N := some 88) (v := ?_) (a' := ?_) #[true, true, true, false, false, false, false, true, false, false, false, false, false, false, false, false, false, false, false, false, false, false, false, false] rfl rfl (any_of HT_.out (by kernel_rfl)) (fun _ _ _ h => h) (Or.inl ⟨by rfl, ?_⟩) ?_ ?_
                                rotate_left
                                · intro w'
                                  go_simp
                                  with_reducible rfl
                                rotate_left
                                · simp only [Act.put, sA_, i64_w, i32_w]
                                  rfl
                                refine pure_ (i := 8) (N := some 89) (v := ?_) (a' := ?_) #[true, true, true, false, false, false, false, true, true, false, false, false, false, false, false, false, false, false, false, false, false, false, false, false] rfl rfl (any_of HT_.out (by kernel_rfl)) (fun _ _ _ h => h) (Or.inl ⟨by rfl, ?_⟩) ?_ ?_
                                rotate_left
                                · intro w'
                                  go_simp
                                  with_reducible rfl
                                rotate_left
                                · simp only [Act.put, sA_, i64_w, i32_w]
                                  rfl
                                refine pure_ (i := 12) (N := some 93) (v := ?_) (a' := ?_) #[true, true, true, false, false, false, false, true, true, false, false, false, true, false, false, false, false, false, false, false, false, false, false, false] rfl rfl (any_of HT_.out (by kernel_rfl)) (fun _ _ _ h => h) (Or.inl ⟨by rfl, ?_⟩) ?_ ?_
                                rotate_left
                                · intro w'
                                  go_simp
                                  with_reducible rfl
                                rotate_left
                                · simp only [Act.put, sA_, i64_w, i32_w]
                                  rfl
                                refine pure_ (i := 17) (N := some 98) (v := ?_) (a' := ?_) #[true, true, true, false, false, false, false, true, true, false, false, false, true, false, false, false, false, true, false, false, false, false, false, false] rfl rfl (any_of HT_.out (by kernel_rfl)) (fun _ _ _ h => h) (Or.inl ⟨by rfl, ?_⟩) ?_ ?_
                                rotate_left
                                · intro w'
                                  go_simp
                                  with_reducible rfl
                                rotate_left
                                · simp only [Act.put, sA_, i64_w, i32_w]
                                  rfl
                                refine take_ (i := 3) (N := some 84) (v := ?_) (a' := ?_) #[true, true, true, true, false, false, false, true, true, false, false, false, true, false, false, false, false, true, false, false, false, false, false, false] rfl rfl (take_ofW HT_.out HW_.out (by kernel_rfl)) (fun _ _ _ h => h) (Or.inl ⟨by rfl, ?_⟩) hHeld ?_ ?_
                                rotate_left
                                · rintro w' ⟨s0, s1, s2, s3⟩
                                  go_simp
                                  with_reducible rfl
                                rotate_left
                                · simp only [Act.put, sA_, i64_w, i32_w]
                                  rfl
                                refine take_ (i := 9) (N := some 90) (v := ?_) (a' := ?_) #[true, true, true, true, false, false, false, true, true, true, false, false, true, false, false, false, false, true, false, false, false, false, false, false] rfl rfl (take_ofW HT_.out HW_.out (by kernel_rfl)) (fun _ _ _ h => h) (Or.inl ⟨by rfl, ?_⟩) hHeld ?_ ?_
                                rotate_left
                                · rintro w' ⟨s0, s1, s2, s3⟩
                                  go_simp
                                  with_reducible rfl
                                rotate_left
                                · simp only [Act.put, sA_, i64_w, i32_w]
                                  rfl
                                refine take_ (i := 13) (N := some 94) (v := ?_) (a' := ?_) #[true, true, true, true, false, false, false, true, true, true, false, false, true, true, false, false, false, true, false, false, false, false, false, false] rfl rfl (take_ofW HT_.out HW_.out (by kernel_rfl)) (fun _ _ _ h => h) (Or.inl ⟨by rfl, ?_⟩) hHeld ?_ ?_
                                rotate_left
                                · rintro w' ⟨s0, s1, s2, s3⟩
                                  go_simp
                                  with_reducible rfl
                                rotate_left
                                · simp only [Act.put, sA_, i64_w, i32_w]
                                  rfl
                                refine take_ (i := 18) (N := some 99) (v := ?_) (a' := ?_) #[true, true, true, true, false, false, false, true, true, true, false, false, true, true, false, false, false, true, true, false, false, false, false, false] rfl rfl (take_ofW HT_.out HW_.out (by kernel_rfl)) (fun _ _ _ h => h) (Or.inl ⟨by rfl, ?_⟩) hHeld ?_ ?_
                                rotate_left
                                · rintro w' ⟨s0, s1, s2, s3⟩
                                  go_simp
                                  with_reducible rfl
                                rotate_left
                                · simp only [Act.put, sA_, i64_w, i32_w]
                                  rfl
                                refine one_ (i := 4) (N := some 85) #[true, true, true, true, true, false, false, true, true, true, false, false, true, true, false, false, false, true, true, false, false, false, false, false] rfl rfl (one_of HT_.out (by kernel_rfl)) (by decide) (fun K hK => ?_)
                                refine goes_ Tryd.func42 (by kernel_rfl) rfl #[.int .i64 ((rd_T85 l0_2 x7_2).f0.f0)] (by rfl) rfl rfl (by (try simp only [List.map_toArray, List.map_cons, List.map_nil]); first | done | rfl | (simp only [List.length_drop, List.length_take]; rfl)) ?_
                                with_reducible refine (spec_l6Kind.calls ((rd_T85 l0_2 x7_2).f0.f0) t155 _ A55.out).mono ?_
                                rintro e w' ⟨rfl, ⟨nd, rfl⟩⟩
                                refine ⟨_, rfl, ?_⟩
                                refine hK.out _ _ ⟨(blk_cell BK154.out 0).trans rfl, (blk_cell BK154.out 1).trans rfl, (blk_cell BK154.out 2).trans rfl, (blk_cell BK154.out 3).trans rfl⟩ (fun hHeld => ?_)
                                clear hK K
                                refine norm_ (a' := ?_) ?_ ?_
                                rotate_left
                                · show Act.put _ (some 85) _ = _
                                  simp only [Act.put, sA_, i64_w, i32_w]
                                  rfl
                                refine pure_ (i := 5) (N := some 86) (v := ?_) (a' := ?_) #[true, true, true, true, true, true, false, true, true, true, false, false, true, true, false, false, false, true, true, false, false, false, false, false] rfl rfl (any_of HT_.out (by kernel_rfl)) (fun _ _ _ h => h) (Or.inl ⟨by rfl, ?_⟩) ?_ ?_
                                rotate_left
                                · intro w'
                                  go_simp
                                  with_reducible rfl
                                rotate_left
                                · simp only [Act.put, sA_, i64_w, i32_w]
                                  rfl
                                refine pure_ (i := 6) (N := some 87) (v := ?_) (a' := ?_) #[true, true, true, true, true, true, true, true, true, true, false, false, true, true, false, false, false, true, true, false, false, false, false, false] rfl rfl (any_of HT_.out (by kernel_rfl)) (fun _ _ _ h => h) (Or.inl ⟨by rfl, ?_⟩) ?_ ?_
                                rotate_left
                                · intro w'
                                  go_simp
                                  with_reducible rfl
                                rotate_left
                                · simp only [Act.put, sA_, i64_w, i32_w]
                                  rfl
                                refine pure_ (i := 10) (N := some 91) (v := ?_) (a' := ?_) #[true, true, true, true, true, true, true, true, true, true, true, false, true, true, false, false, false, true, true, false, false, false, false, false] rfl rfl (any_of HT_.out (by kernel_rfl)) (fun _ _ _ h => h) (Or.inl ⟨by rfl, ?_⟩) ?_ ?_
                                rotate_left
                                · intro w'
                                  go_simp
                                  with_reducible rfl
                                rotate_left
                                · simp only [Act.put, sA_, i64_w, i32_w]
                                  rfl
                                refine pure_ (i := 11) (N := some 92) (v := ?_) (a' := ?_) #[true, true, true, true, true, true, true, true, true, true, true, true, true, true, false, false, false, true, true, false, false, false, false, false] rfl rfl (any_of HT_.out (by kernel_rfl)) (fun _ _ _ h => h) (Or.inl ⟨by rfl, ?_⟩) ?_ ?_
                                rotate_left
                                · intro w'
                                  go_simp
                                  with_reducible rfl
                                rotate_left
                                · simp only [Act.put, sA_, i64_w, i32_w]
                                  rfl
                                refine one_ (i := 14) (N := some 95) #[true, true, true, true, true, true, true, true, true, true, true, true, true, true, true, false, false, true, true, false, false, false, false, false] rfl rfl (one_of HT_.out (by kernel_rfl)) (by decide) (fun K hK => ?_)
                                refine goes_ Tryd.func41 (by kernel_rfl) rfl #[.int .i64 ((rd_T85 l0_2 x7_2).f1)] (by rfl) rfl rfl (by (try simp only [List.map_toArray, List.map_cons, List.map_nil]); first | done | rfl | (simp only [List.length_drop, List.length_take]; rfl)) ?_
                                with_reducible refine (spec_l2Show.calls k2 ((rd_T85 l0_2 x7_2).f1) t156 _ A60.out).mono ?_
                                rintro e w73 ⟨rfl, hb⟩
                                refine ⟨_, rfl, ?_⟩
                                have hb1_ := fromP HB.out hb (by repeat (first | (with_reducible exact Below.refl _ _) | apply below_alloc | apply pw_below_drewN | apply below_drew1))
                                have hb0_ := below_step hb1_ hb
                                replace HO_3 := kR HO_3 hb0_
                                replace BK129 := kB BK129 hb0_
                                replace BK154 := kB BK154 hb0_
                                replace HB := kH HB hb0_
                                clear hb1_ hb0_
                                (try clear hb)
                                (try clear hb2)
                                (try clear hk)
                                (try clear hi)
                                refine hK.out _ _ ⟨(blk_cell BK154.out 0).trans rfl, (blk_cell BK154.out 1).trans rfl, (blk_cell BK154.out 2).trans rfl, (blk_cell BK154.out 3).trans rfl⟩ (fun hHeld => ?_)
                                clear hK K
                                refine norm_ (a' := ?_) ?_ ?_
                                rotate_left
                                · show Act.put _ (some 95) _ = _
                                  simp only [Act.put, sA_, i64_w, i32_w]
                                  rfl
                                refine pure_ (i := 15) (N := some 96) (v := ?_) (a' := ?_) #[true, true, true, true, true, true, true, true, true, true, true, true, true, true, true, true, false, true, true, false, false, false, false, false] rfl rfl (any_of HT_.out (by kernel_rfl)) (fun _ _ _ h => h) (Or.inl ⟨by rfl, ?_⟩) ?_ ?_
                                rotate_left
                                · intro w'
                                  go_simp
                                  with_reducible rfl
                                rotate_left
                                · simp only [Act.put, sA_, i64_w, i32_w]
                                  rfl
                                refine pure_ (i := 16) (N := some 97) (v := ?_) (a' := ?_) #[true, true, true, true, true, true, true, true, true, true, true, true, true, true, true, true, true, true, true, false, false, false, false, false] rfl rfl (any_of HT_.out (by kernel_rfl)) (fun _ _ _ h => h) (Or.inl ⟨by rfl, ?_⟩) ?_ ?_
                                rotate_left
                                · intro w'
                                  go_simp
                                  with_reducible rfl
                                rotate_left
                                · simp only [Act.put, sA_, i64_w, i32_w]
                                  rfl
                                refine one_ (i := 19) (N := some 100) #[true, true, true, true, true, true, true, true, true, true, true, true, true, true, true, true, true, true, true, true, false, false, false, false] rfl rfl (one_of HT_.out (by kernel_rfl)) (by decide) (fun K hK => ?_)
                                refine goes_ Tryd.func41 (by kernel_rfl) rfl #[.int .i64 ((rd_T85 l0_2 x7_2).f2)] (by rfl) rfl rfl (by (try simp only [List.map_toArray, List.map_cons, List.map_nil]); first | done | rfl | (simp only [List.length_drop, List.length_take]; rfl)) ?_
                                with_reducible refine (spec_l2Show.calls k2 ((rd_T85 l0_2 x7_2).f2) t157 _ A63.out).mono ?_
                                rintro e w74 ⟨rfl, hb⟩
                                refine ⟨_, rfl, ?_⟩
                                have hb1_ := fromP HB.out hb (by repeat (first | (with_reducible exact Below.refl _ _) | apply below_alloc | apply pw_below_drewN | apply below_drew1))
                                have hb0_ := below_step hb1_ hb
                                replace HO_3 := kR HO_3 hb0_
                                replace BK129 := kB BK129 hb0_
                                replace BK154 := kB BK154 hb0_
                                replace HB := kH HB hb0_
                                clear hb1_ hb0_
                                (try clear hb)
                                (try clear hb2)
                                (try clear hk)
                                (try clear hi)
                                obtain ⟨Ao75, co75, eo75⟩ := Kd.R_slice HO_3.out
                                (first | subst eo75 | (injection eo75 with f1_ f2_ f3_; have f4_ := f1_.symm; have f5_ := f3_.symm; clear f1_ f2_ f3_; subst f4_; subst f5_))
                                refine hK.out _ _ ⟨(blk_cell BK154.out 0).trans rfl, (blk_cell BK154.out 1).trans rfl, (blk_cell BK154.out 2).trans rfl, (blk_cell BK154.out 3).trans rfl⟩ (fun hHeld => ?_)
                                clear hK K
                                refine norm_ (a' := ?_) ?_ ?_
                                rotate_left
                                · show Act.put _ (some 100) _ = _
                                  simp only [Act.put, sA_, i64_w, i32_w]
                                  rfl
                                refine pure_ (i := 20) (N := some 101) (v := ?_) (a' := ?_) #[true, true, true, true, true, true, true, true, true, true, true, true, true, true, true, true, true, true, true, true, true, false, false, false] rfl rfl (any_of HT_.out (by kernel_rfl)) (fun _ _ _ h => h) (Or.inl ⟨by rfl, ?_⟩) ?_ ?_
                                rotate_left
                                · intro w'
                                  go_simp
                                  with_reducible rfl
                                rotate_left
                                · simp only [Act.put, sA_, i64_w, i32_w]
                                  rfl
                                refine pure_ (i := 21) (N := some 102) (v := ?_) (a' := ?_) #[true, true, true, true, true, true, true, true, true, true, true, true, true, true, true, true, true, true, true, true, true, true, false, false] rfl rfl (any_of HT_.out (by kernel_rfl)) (fun _ _ _ h => h) (Or.inl ⟨by rfl, ?_⟩) ?_ ?_
                                rotate_left
                                · intro w'
                                  go_simp
                                  with_reducible rfl
                                rotate_left
                                · simp only [Act.put, sA_, i64_w, i32_w]
                                  rfl
                                refine one_ (i := 22) (N := some 103) #[true, true, true, true, true, true, true, true, true, true, true, true, true, true, true, true, true, true, true, true, true, true, true, false] rfl rfl (one_of HT_.out (by kernel_rfl)) (by decide) (fun K hK => ?_)
                                refine goes_ Tryd.func40 (by kernel_rfl) rfl #[.slice Ao75 x3_2.length co75, .string (((((((((⟨#[114, 97, 110, 32]⟩ : ByteArray) ++ t155) ++ (⟨#[32]⟩ : ByteArray)) ++ ((rd_T85 l0_2 x7_2).f0.f1)) ++ (⟨#[32]⟩ : ByteArray)) ++ t156) ++ (⟨#[32]⟩ : ByteArray)) ++ t157) ++ (⟨#[10]⟩ : ByteArray))] (by rfl) rfl rfl (by (try simp only [List.map_toArray, List.map_cons, List.map_nil]); first | done | rfl | (simp only [List.length_drop, List.length_take]; rfl)) ?_
                                with_reducible refine (spec_l6Put.calls k2 (fun k_ => some k_ = (.slice Ao75 x3_2.length co75 : Value).ownBlock) (.slice Ao75 x3_2.length co75) x3_2 (((((((((⟨#[114, 97, 110, 32]⟩ : ByteArray) ++ t155) ++ (⟨#[32]⟩ : ByteArray)) ++ ((rd_T85 l0_2 x7_2).f0.f1)) ++ (⟨#[32]⟩ : ByteArray)) ++ t156) ++ (⟨#[32]⟩ : ByteArray)) ++ t157) ++ (⟨#[10]⟩ : ByteArray)) t158 w _ ?side1 ?side2 A66.out).mono ?_
                                (case side1 => repeat (first | (with_reducible first | exact HB.out | apply below_alloc | apply pw_below_drewN | apply below_drew1 | refine below_set ?_ GE129.out | refine below_set ?_ GE154.out) | exact HB.out))
                                (case side2 => exact Kd.R_tight rfl HO_3.out)
                                rintro e w76 ⟨v159, rfl, ho0, hb, hkp⟩
                                refine ⟨_, rfl, ?_⟩
                                have n0_ := Aside0.mk (blk_kept (by (with_reducible repeat (first | refine blk_drewN ?_ _ | refine blk_drew ?_ | refine blk_alloc ?_ _)); exact BK129.out) hkp (fun hs_ => (fun e_ => (Kd.R_ne HO_3.out BK129.out (by decide)) e_) hs_))
                                have n1_ := Aside0.mk (blk_kept (by (with_reducible repeat (first | refine blk_drewN ?_ _ | refine blk_drew ?_ | refine blk_alloc ?_ _)); exact BK154.out) hkp (fun hs_ => (fun e_ => (Kd.R_ne HO_3.out BK154.out (by decide)) e_) hs_))
                                have n2_ := Aside0.mk (Kd.R_mono (ok' := fun k_ => True) ho0 (fun k_ hk_ => trivial))
                                have n3_ := Aside0.mk (hb)
                                clear BK129
                                clear BK154
                                clear HB
                                clear HO_3
                                have BK129 := n0_
                                have BK154 := n1_
                                have HO160 := n2_
                                have HB := n3_
                                clear n0_ n1_ n2_ n3_
                                (try clear hb)
                                (try clear hkp)
                                (try clear ho0)
                                refine hK.out _ _ ⟨(blk_cell BK154.out 0).trans rfl, (blk_cell BK154.out 1).trans rfl, (blk_cell BK154.out 2).trans rfl, (blk_cell BK154.out 3).trans rfl⟩ (fun hHeld => ?_)
                                clear hK K
                                refine norm_ (a' := ?_) ?_ ?_
                                rotate_left
                                · show Act.put _ (some 103) _ = _
                                  simp only [Act.put, sA_, i64_w, i32_w]
                                  rfl
                                refine pure_ (i := 23) (N := some 3) (v := ?_) (a' := ?_) #[true, true, true, true, true, true, true, true, true, true, true, true, true, true, true, true, true, true, true, true, true, true, true, true] rfl rfl (any_of HT_.out (by kernel_rfl)) (fun _ _ _ h => h) (Or.inl ⟨by rfl, ?_⟩) ?_ ?_
                                rotate_left
                                · intro w'
                                  go_simp
                                  with_reducible rfl
                                rotate_left
                                · simp only [Act.put, sA_, i64_w, i32_w]
                                  rfl
                                refine done_ (done_of HT_.out (by kernel_rfl)) ?_
                                try go_wp2
                                go_roundg k2
                                case measure => have := HK1.out; have := HK2.out; omega
                                case rel => exact ⟨(t158), (wrap64 (x7_2 + 1)), (by first | rfl | (simp; done) | (simp [*]; done)), H', ⟨by have := HK1.out; have := HK2.out; omega⟩, ⟨by (with_reducible repeat (first | apply Kd.R_alloc | apply Kd.R_drewN | apply Kd.R_drew)); exact HO160.out⟩, ⟨by (with_reducible repeat (first | refine blk_drewN ?_ _ | refine blk_drew ?_ | refine blk_alloc ?_ _)); exact BK129.out⟩, ⟨by repeat (first | (with_reducible first | exact HB.out | apply below_alloc | apply pw_below_drewN | apply below_drew1 | refine below_set ?_ GE129.out | refine below_set ?_ GE154.out) | exact HB.out)⟩⟩
                              · rw [if_neg c65] at H
                                exact absurd H (by simp)
                            · rw [if_neg c64] at H
                              exact absurd H (by simp)
                          · rw [if_neg c62] at H
                            exact absurd H (by simp)
                        · rw [if_neg c61] at H
                          exact absurd H (by simp)
                      · rw [if_neg c59] at H
                        exact absurd H (by simp)
                    · rw [if_neg c58] at H
                      exact absurd H (by simp)
                  · rw [if_neg c57] at H
                    exact absurd H (by simp)
                · rw [if_neg c56] at H
                  exact absurd H (by simp)
              · rw [if_neg c54] at H
                exact absurd H (by simp)
            · rw [if_neg c53] at H
              have c53b0 : decide (x7_2 < (l0_2.length : Int)) = false := decide_eq_false c53
              clear c53
              replace H := Option.bind_eq_some_iff.mp H
              obtain ⟨t161, A770, H⟩ := H
              replace H : (if 4 + t161.size ≤ 9223372036854775807 then (if ((⟨#[101, 110, 100, 32]⟩ : ByteArray) ++ t161).size + 1 ≤ 9223372036854775807 then ((spec_l2Show.f k2 a0_4).bind fun t162 => (if (((⟨#[101, 110, 100, 32]⟩ : ByteArray) ++ t161) ++ (⟨#[32]⟩ : ByteArray)).size + t162.size ≤ 9223372036854775807 then (if ((((⟨#[101, 110, 100, 32]⟩ : ByteArray) ++ t161) ++ (⟨#[32]⟩ : ByteArray)) ++ t162).size + 1 ≤ 9223372036854775807 then ((spec_l2Show.f k2 a0_3).bind fun t163 => (if (((((⟨#[101, 110, 100, 32]⟩ : ByteArray) ++ t161) ++ (⟨#[32]⟩ : ByteArray)) ++ t162) ++ (⟨#[32]⟩ : ByteArray)).size + t163.size ≤ 9223372036854775807 then (if ((((((⟨#[101, 110, 100, 32]⟩ : ByteArray) ++ t161) ++ (⟨#[32]⟩ : ByteArray)) ++ t162) ++ (⟨#[32]⟩ : ByteArray)) ++ t163).size + 1 ≤ 9223372036854775807 then ((spec_l2Show.f k2 a0_5).bind fun t164 => (if (((((((⟨#[101, 110, 100, 32]⟩ : ByteArray) ++ t161) ++ (⟨#[32]⟩ : ByteArray)) ++ t162) ++ (⟨#[32]⟩ : ByteArray)) ++ t163) ++ (⟨#[32]⟩ : ByteArray)).size + t164.size ≤ 9223372036854775807 then (if ((((((((⟨#[101, 110, 100, 32]⟩ : ByteArray) ++ t161) ++ (⟨#[32]⟩ : ByteArray)) ++ t162) ++ (⟨#[32]⟩ : ByteArray)) ++ t163) ++ (⟨#[32]⟩ : ByteArray)) ++ t164).size + 1 ≤ 9223372036854775807 then ((spec_l6Put.f k2 x3_2 (((((((((⟨#[101, 110, 100, 32]⟩ : ByteArray) ++ t161) ++ (⟨#[32]⟩ : ByteArray)) ++ t162) ++ (⟨#[32]⟩ : ByteArray)) ++ t163) ++ (⟨#[32]⟩ : ByteArray)) ++ t164) ++ (⟨#[10]⟩ : ByteArray))).bind fun t165 => (some (strOfNums t165))) else (none)) else (none))) else (none)) else (none))) else (none)) else (none))) else (none)) else (none)) = some r := H
              have A77 := Aside0.mk A770
              clear A770
              by_cases c78 : 4 + t161.size ≤ 9223372036854775807
              · rw [if_pos c78] at H
                have c78b0 := eq_true c78
                have c78b1 : decide (4 + t161.size ≤ 9223372036854775807) = true := decide_eq_true c78
                try have c78b2 : (9223372036854775807 < 4 + t161.size) = False := eq_false (Nat.not_lt.2 c78)
                by_cases c79 : ((⟨#[101, 110, 100, 32]⟩ : ByteArray) ++ t161).size + 1 ≤ 9223372036854775807
                · rw [if_pos c79] at H
                  have c79b0 := eq_true c79
                  have c79b1 : decide (((⟨#[101, 110, 100, 32]⟩ : ByteArray) ++ t161).size + 1 ≤ 9223372036854775807) = true := decide_eq_true c79
                  try have c79b2 : (9223372036854775807 < ((⟨#[101, 110, 100, 32]⟩ : ByteArray) ++ t161).size + 1) = False := eq_false (Nat.not_lt.2 c79)
                  try have c79b3 : (9223372036854775807 < 4 + t161.size + 1) = False := by have h_ := c79; simp only [ByteArray.size_append] at h_; exact eq_false (Nat.not_lt.2 h_)
                  replace H := Option.bind_eq_some_iff.mp H
                  obtain ⟨t162, A800, H⟩ := H
                  replace H : (if (((⟨#[101, 110, 100, 32]⟩ : ByteArray) ++ t161) ++ (⟨#[32]⟩ : ByteArray)).size + t162.size ≤ 9223372036854775807 then (if ((((⟨#[101, 110, 100, 32]⟩ : ByteArray) ++ t161) ++ (⟨#[32]⟩ : ByteArray)) ++ t162).size + 1 ≤ 9223372036854775807 then ((spec_l2Show.f k2 a0_3).bind fun t163 => (if (((((⟨#[101, 110, 100, 32]⟩ : ByteArray) ++ t161) ++ (⟨#[32]⟩ : ByteArray)) ++ t162) ++ (⟨#[32]⟩ : ByteArray)).size + t163.size ≤ 9223372036854775807 then (if ((((((⟨#[101, 110, 100, 32]⟩ : ByteArray) ++ t161) ++ (⟨#[32]⟩ : ByteArray)) ++ t162) ++ (⟨#[32]⟩ : ByteArray)) ++ t163).size + 1 ≤ 9223372036854775807 then ((spec_l2Show.f k2 a0_5).bind fun t164 => (if (((((((⟨#[101, 110, 100, 32]⟩ : ByteArray) ++ t161) ++ (⟨#[32]⟩ : ByteArray)) ++ t162) ++ (⟨#[32]⟩ : ByteArray)) ++ t163) ++ (⟨#[32]⟩ : ByteArray)).size + t164.size ≤ 9223372036854775807 then (if ((((((((⟨#[101, 110, 100, 32]⟩ : ByteArray) ++ t161) ++ (⟨#[32]⟩ : ByteArray)) ++ t162) ++ (⟨#[32]⟩ : ByteArray)) ++ t163) ++ (⟨#[32]⟩ : ByteArray)) ++ t164).size + 1 ≤ 9223372036854775807 then ((spec_l6Put.f k2 x3_2 (((((((((⟨#[101, 110, 100, 32]⟩ : ByteArray) ++ t161) ++ (⟨#[32]⟩ : ByteArray)) ++ t162) ++ (⟨#[32]⟩ : ByteArray)) ++ t163) ++ (⟨#[32]⟩ : ByteArray)) ++ t164) ++ (⟨#[10]⟩ : ByteArray))).bind fun t165 => (some (strOfNums t165))) else (none)) else (none))) else (none)) else (none))) else (none)) else (none)) = some r := H
                  have A80 := Aside0.mk A800
                  clear A800
                  by_cases c81 : (((⟨#[101, 110, 100, 32]⟩ : ByteArray) ++ t161) ++ (⟨#[32]⟩ : ByteArray)).size + t162.size ≤ 9223372036854775807
                  · rw [if_pos c81] at H
                    have c81b0 := eq_true c81
                    have c81b1 : decide ((((⟨#[101, 110, 100, 32]⟩ : ByteArray) ++ t161) ++ (⟨#[32]⟩ : ByteArray)).size + t162.size ≤ 9223372036854775807) = true := decide_eq_true c81
                    try have c81b2 : (9223372036854775807 < (((⟨#[101, 110, 100, 32]⟩ : ByteArray) ++ t161) ++ (⟨#[32]⟩ : ByteArray)).size + t162.size) = False := eq_false (Nat.not_lt.2 c81)
                    try have c81b3 : (9223372036854775807 < 4 + t161.size + 1 + t162.size) = False := by have h_ := c81; simp only [ByteArray.size_append] at h_; exact eq_false (Nat.not_lt.2 h_)
                    by_cases c82 : ((((⟨#[101, 110, 100, 32]⟩ : ByteArray) ++ t161) ++ (⟨#[32]⟩ : ByteArray)) ++ t162).size + 1 ≤ 9223372036854775807
                    · rw [if_pos c82] at H
                      have c82b0 := eq_true c82
                      have c82b1 : decide (((((⟨#[101, 110, 100, 32]⟩ : ByteArray) ++ t161) ++ (⟨#[32]⟩ : ByteArray)) ++ t162).size + 1 ≤ 9223372036854775807) = true := decide_eq_true c82
                      try have c82b2 : (9223372036854775807 < ((((⟨#[101, 110, 100, 32]⟩ : ByteArray) ++ t161) ++ (⟨#[32]⟩ : ByteArray)) ++ t162).size + 1) = False := eq_false (Nat.not_lt.2 c82)
                      try have c82b3 : (9223372036854775807 < 4 + t161.size + 1 + t162.size + 1) = False := by have h_ := c82; simp only [ByteArray.size_append] at h_; exact eq_false (Nat.not_lt.2 h_)
                      replace H := Option.bind_eq_some_iff.mp H
                      obtain ⟨t163, A830, H⟩ := H
                      replace H : (if (((((⟨#[101, 110, 100, 32]⟩ : ByteArray) ++ t161) ++ (⟨#[32]⟩ : ByteArray)) ++ t162) ++ (⟨#[32]⟩ : ByteArray)).size + t163.size ≤ 9223372036854775807 then (if ((((((⟨#[101, 110, 100, 32]⟩ : ByteArray) ++ t161) ++ (⟨#[32]⟩ : ByteArray)) ++ t162) ++ (⟨#[32]⟩ : ByteArray)) ++ t163).size + 1 ≤ 9223372036854775807 then ((spec_l2Show.f k2 a0_5).bind fun t164 => (if (((((((⟨#[101, 110, 100, 32]⟩ : ByteArray) ++ t161) ++ (⟨#[32]⟩ : ByteArray)) ++ t162) ++ (⟨#[32]⟩ : ByteArray)) ++ t163) ++ (⟨#[32]⟩ : ByteArray)).size + t164.size ≤ 9223372036854775807 then (if ((((((((⟨#[101, 110, 100, 32]⟩ : ByteArray) ++ t161) ++ (⟨#[32]⟩ : ByteArray)) ++ t162) ++ (⟨#[32]⟩ : ByteArray)) ++ t163) ++ (⟨#[32]⟩ : ByteArray)) ++ t164).size + 1 ≤ 9223372036854775807 then ((spec_l6Put.f k2 x3_2 (((((((((⟨#[101, 110, 100, 32]⟩ : ByteArray) ++ t161) ++ (⟨#[32]⟩ : ByteArray)) ++ t162) ++ (⟨#[32]⟩ : ByteArray)) ++ t163) ++ (⟨#[32]⟩ : ByteArray)) ++ t164) ++ (⟨#[10]⟩ : ByteArray))).bind fun t165 => (some (strOfNums t165))) else (none)) else (none))) else (none)) else (none)) = some r := H
                      have A83 := Aside0.mk A830
                      clear A830
                      by_cases c84 : (((((⟨#[101, 110, 100, 32]⟩ : ByteArray) ++ t161) ++ (⟨#[32]⟩ : ByteArray)) ++ t162) ++ (⟨#[32]⟩ : ByteArray)).size + t163.size ≤ 9223372036854775807
                      · rw [if_pos c84] at H
                        have c84b0 := eq_true c84
                        have c84b1 : decide ((((((⟨#[101, 110, 100, 32]⟩ : ByteArray) ++ t161) ++ (⟨#[32]⟩ : ByteArray)) ++ t162) ++ (⟨#[32]⟩ : ByteArray)).size + t163.size ≤ 9223372036854775807) = true := decide_eq_true c84
                        try have c84b2 : (9223372036854775807 < (((((⟨#[101, 110, 100, 32]⟩ : ByteArray) ++ t161) ++ (⟨#[32]⟩ : ByteArray)) ++ t162) ++ (⟨#[32]⟩ : ByteArray)).size + t163.size) = False := eq_false (Nat.not_lt.2 c84)
                        try have c84b3 : (9223372036854775807 < 4 + t161.size + 1 + t162.size + 1 + t163.size) = False := by have h_ := c84; simp only [ByteArray.size_append] at h_; exact eq_false (Nat.not_lt.2 h_)
                        by_cases c85 : ((((((⟨#[101, 110, 100, 32]⟩ : ByteArray) ++ t161) ++ (⟨#[32]⟩ : ByteArray)) ++ t162) ++ (⟨#[32]⟩ : ByteArray)) ++ t163).size + 1 ≤ 9223372036854775807
                        · rw [if_pos c85] at H
                          have c85b0 := eq_true c85
                          have c85b1 : decide (((((((⟨#[101, 110, 100, 32]⟩ : ByteArray) ++ t161) ++ (⟨#[32]⟩ : ByteArray)) ++ t162) ++ (⟨#[32]⟩ : ByteArray)) ++ t163).size + 1 ≤ 9223372036854775807) = true := decide_eq_true c85
                          try have c85b2 : (9223372036854775807 < ((((((⟨#[101, 110, 100, 32]⟩ : ByteArray) ++ t161) ++ (⟨#[32]⟩ : ByteArray)) ++ t162) ++ (⟨#[32]⟩ : ByteArray)) ++ t163).size + 1) = False := eq_false (Nat.not_lt.2 c85)
                          try have c85b3 : (9223372036854775807 < 4 + t161.size + 1 + t162.size + 1 + t163.size + 1) = False := by have h_ := c85; simp only [ByteArray.size_append] at h_; exact eq_false (Nat.not_lt.2 h_)
                          replace H := Option.bind_eq_some_iff.mp H
                          obtain ⟨t164, A860, H⟩ := H
                          replace H : (if (((((((⟨#[101, 110, 100, 32]⟩ : ByteArray) ++ t161) ++ (⟨#[32]⟩ : ByteArray)) ++ t162) ++ (⟨#[32]⟩ : ByteArray)) ++ t163) ++ (⟨#[32]⟩ : ByteArray)).size + t164.size ≤ 9223372036854775807 then (if ((((((((⟨#[101, 110, 100, 32]⟩ : ByteArray) ++ t161) ++ (⟨#[32]⟩ : ByteArray)) ++ t162) ++ (⟨#[32]⟩ : ByteArray)) ++ t163) ++ (⟨#[32]⟩ : ByteArray)) ++ t164).size + 1 ≤ 9223372036854775807 then ((spec_l6Put.f k2 x3_2 (((((((((⟨#[101, 110, 100, 32]⟩ : ByteArray) ++ t161) ++ (⟨#[32]⟩ : ByteArray)) ++ t162) ++ (⟨#[32]⟩ : ByteArray)) ++ t163) ++ (⟨#[32]⟩ : ByteArray)) ++ t164) ++ (⟨#[10]⟩ : ByteArray))).bind fun t165 => (some (strOfNums t165))) else (none)) else (none)) = some r := H
                          have A86 := Aside0.mk A860
                          clear A860
                          by_cases c87 : (((((((⟨#[101, 110, 100, 32]⟩ : ByteArray) ++ t161) ++ (⟨#[32]⟩ : ByteArray)) ++ t162) ++ (⟨#[32]⟩ : ByteArray)) ++ t163) ++ (⟨#[32]⟩ : ByteArray)).size + t164.size ≤ 9223372036854775807
                          · rw [if_pos c87] at H
                            have c87b0 := eq_true c87
                            have c87b1 : decide ((((((((⟨#[101, 110, 100, 32]⟩ : ByteArray) ++ t161) ++ (⟨#[32]⟩ : ByteArray)) ++ t162) ++ (⟨#[32]⟩ : ByteArray)) ++ t163) ++ (⟨#[32]⟩ : ByteArray)).size + t164.size ≤ 9223372036854775807) = true := decide_eq_true c87
                            try have c87b2 : (9223372036854775807 < (((((((⟨#[101, 110, 100, 32]⟩ : ByteArray) ++ t161) ++ (⟨#[32]⟩ : ByteArray)) ++ t162) ++ (⟨#[32]⟩ : ByteArray)) ++ t163) ++ (⟨#[32]⟩ : ByteArray)).size + t164.size) = False := eq_false (Nat.not_lt.2 c87)
                            try have c87b3 : (9223372036854775807 < 4 + t161.size + 1 + t162.size + 1 + t163.size + 1 + t164.size) = False := by have h_ := c87; simp only [ByteArray.size_append] at h_; exact eq_false (Nat.not_lt.2 h_)
                            by_cases c88 : ((((((((⟨#[101, 110, 100, 32]⟩ : ByteArray) ++ t161) ++ (⟨#[32]⟩ : ByteArray)) ++ t162) ++ (⟨#[32]⟩ : ByteArray)) ++ t163) ++ (⟨#[32]⟩ : ByteArray)) ++ t164).size + 1 ≤ 9223372036854775807
                            · rw [if_pos c88] at H
                              have c88b0 := eq_true c88
                              have c88b1 : decide (((((((((⟨#[101, 110, 100, 32]⟩ : ByteArray) ++ t161) ++ (⟨#[32]⟩ : ByteArray)) ++ t162) ++ (⟨#[32]⟩ : ByteArray)) ++ t163) ++ (⟨#[32]⟩ : ByteArray)) ++ t164).size + 1 ≤ 9223372036854775807) = true := decide_eq_true c88
                              try have c88b2 : (9223372036854775807 < ((((((((⟨#[101, 110, 100, 32]⟩ : ByteArray) ++ t161) ++ (⟨#[32]⟩ : ByteArray)) ++ t162) ++ (⟨#[32]⟩ : ByteArray)) ++ t163) ++ (⟨#[32]⟩ : ByteArray)) ++ t164).size + 1) = False := eq_false (Nat.not_lt.2 c88)
                              try have c88b3 : (9223372036854775807 < 4 + t161.size + 1 + t162.size + 1 + t163.size + 1 + t164.size + 1) = False := by have h_ := c88; simp only [ByteArray.size_append] at h_; exact eq_false (Nat.not_lt.2 h_)
                              replace H := Option.bind_eq_some_iff.mp H
                              obtain ⟨t165, A890, H⟩ := H
                              replace H : (some (strOfNums t165)) = some r := H
                              have A89 := Aside0.mk A890
                              clear A890
                              obtain rfl := Option.some.inj H
                              obtain ⟨hcz90_0, hcz90_1, hcz90_2, hcz90_3, hcz90_4, hcz90_5, hcz90_6, hfz90_0, hfz90_1, hfz90_2, hfz90_3, hfz90_4, hfz90_5, hfz90_6⟩ := bkA7 BK129.out
                              try go_wp2
                              have n0_ := Aside0.mk (Kd.R_drew HO_3.out)
                              have n1_ := Aside0.mk (blk_drew BK129.out)
                              have n2_ := Aside0.mk (below_drew1 HB.out)
                              clear HO_3
                              clear BK129
                              clear HB
                              have HO_3 := n0_
                              have BK129 := n1_
                              have HB := n2_
                              clear n0_ n1_ n2_
                              refine start_ (n := 24) (S := fun w' => w'.cell? ⟨gb129, 0, none⟩ = some (.int .i64 a0_0) ∧ w'.cell? ⟨gb129, 1, none⟩ = some (.slice A0_1 l0_1.length c0_1) ∧ w'.cell? ⟨gb129, 2, none⟩ = some (.slice A0_2 l0_2.length c0_2) ∧ w'.cell? ⟨gb129, 3, none⟩ = some (.int .i64 a0_3) ∧ w'.cell? ⟨gb129, 4, none⟩ = some (.int .i64 a0_4) ∧ w'.cell? ⟨gb129, 5, none⟩ = some (.int .i64 a0_5) ∧ w'.cell? ⟨gb129, 6, none⟩ = some (.slice A0_6 l0_6.length c0_6)) (ds := []) #[false, false, false, false, false, false, false, false, false, false, false, false, false, false, false, false, false, false, false, false, false, false, false, false] (by kernel_rfl) rfl rfl ⟨(blk_cell BK129.out 0).trans rfl, (blk_cell BK129.out 1).trans rfl, (blk_cell BK129.out 2).trans rfl, (blk_cell BK129.out 3).trans rfl, (blk_cell BK129.out 4).trans rfl, (blk_cell BK129.out 5).trans rfl, (blk_cell BK129.out 6).trans rfl⟩ (fun hHeld => ?_); refine with_tabW spec_ShowOutcome.tab19 spec_ShowOutcome.bits19 (fun HT_ HW_ => ?_)
                              generalize wr.drew = w91 at HO_3 BK129 HB hHeld ⊢
                              refine pure_ (i := 0) (N := some 104) (v := ?_) (a' := ?_) #[true, false, false, false, false, false, false, false, false, false, false, false, false, false, false, false, false, false, false, false, false, false, false, false] rfl rfl (any_of HT_.out (by kernel_rfl)) (fun _ _ _ h => h) (Or.inl ⟨by rfl, ?_⟩) ?_ ?_
                              rotate_left
                              · intro w'
                                go_simp
                                with_reducible rfl
                              rotate_left
                              · simp only [Act.put, sA_, i64_w, i32_w]
                                rfl
                              refine pure_ (i := 1) (N := some 105) (v := ?_) (a' := ?_) #[true, true, false, false, false, false, false, false, false, false, false, false, false, false, false, false, false, false, false, false, false, false, false, false] rfl rfl (any_of HT_.out (by kernel_rfl)) (fun _ _ _ h => h) (Or.inl ⟨by rfl, ?_⟩) ?_ ?_
                              rotate_left
                              · intro w'
                                go_simp
                                with_reducible rfl
                              rotate_left
                              · simp only [Act.put, sA_, i64_w, i32_w]
                                rfl
                              refine pure_ (i := 6) (N := some 110) (v := ?_) (a' := ?_) #[true, true, false, false, false, false, true, false, false, false, false, false, false, false, false, false, false, false, false, false, false, false, false, false] rfl rfl (any_of HT_.out (by kernel_rfl)) (fun _ _ _ h => h) (Or.inl ⟨by rfl, ?_⟩) ?_ ?_
                              rotate_left
                              · intro w'
                                go_simp
                                with_reducible rfl
                              rotate_left
                              · simp only [Act.put, sA_, i64_w, i32_w]
                                rfl
                              refine pure_ (i := 11) (N := some 115) (v := ?_) (a' := ?_) #[true, true, false, false, false, false, true, false, false, false, false, true, false, false, false, false, false, false, false, false, false, false, false, false] rfl rfl (any_of HT_.out (by kernel_rfl)) (fun _ _ _ h => h) (Or.inl ⟨by rfl, ?_⟩) ?_ ?_
                              rotate_left
                              · intro w'
                                go_simp
                                with_reducible rfl
                              rotate_left
                              · simp only [Act.put, sA_, i64_w, i32_w]
                                rfl
                              refine pure_ (i := 16) (N := some 120) (v := ?_) (a' := ?_) #[true, true, false, false, false, false, true, false, false, false, false, true, false, false, false, false, true, false, false, false, false, false, false, false] rfl rfl (any_of HT_.out (by kernel_rfl)) (fun _ _ _ h => h) (Or.inl ⟨by rfl, ?_⟩) ?_ ?_
                              rotate_left
                              · intro w'
                                go_simp
                                with_reducible rfl
                              rotate_left
                              · simp only [Act.put, sA_, i64_w, i32_w]
                                rfl
                              refine take_ (i := 2) (N := some 106) (v := ?_) (a' := ?_) #[true, true, true, false, false, false, true, false, false, false, false, true, false, false, false, false, true, false, false, false, false, false, false, false] rfl rfl (take_ofW HT_.out HW_.out (by kernel_rfl)) (fun _ _ _ h => h) (Or.inl ⟨by rfl, ?_⟩) hHeld ?_ ?_
                              rotate_left
                              · rintro w' ⟨s0, s1, s2, s3, s4, s5, s6⟩
                                go_simp
                                with_reducible rfl
                              rotate_left
                              · simp only [Act.put, sA_, i64_w, i32_w]
                                rfl
                              refine take_ (i := 7) (N := some 111) (v := ?_) (a' := ?_) #[true, true, true, false, false, false, true, true, false, false, false, true, false, false, false, false, true, false, false, false, false, false, false, false] rfl rfl (take_ofW HT_.out HW_.out (by kernel_rfl)) (fun _ _ _ h => h) (Or.inl ⟨by rfl, ?_⟩) hHeld ?_ ?_
                              rotate_left
                              · rintro w' ⟨s0, s1, s2, s3, s4, s5, s6⟩
                                go_simp
                                with_reducible rfl
                              rotate_left
                              · simp only [Act.put, sA_, i64_w, i32_w]
                                rfl
                              refine take_ (i := 12) (N := some 116) (v := ?_) (a' := ?_) #[true, true, true, false, false, false, true, true, false, false, false, true, true, false, false, false, true, false, false, false, false, false, false, false] rfl rfl (take_ofW HT_.out HW_.out (by kernel_rfl)) (fun _ _ _ h => h) (Or.inl ⟨by rfl, ?_⟩) hHeld ?_ ?_
                              rotate_left
                              · rintro w' ⟨s0, s1, s2, s3, s4, s5, s6⟩
                                go_simp
                                with_reducible rfl
                              rotate_left
                              · simp only [Act.put, sA_, i64_w, i32_w]
                                rfl
                              refine take_ (i := 17) (N := some 121) (v := ?_) (a' := ?_) #[true, true, true, false, false, false, true, true, false, false, false, true, true, false, false, false, true, true, false, false, false, false, false, false] rfl rfl (take_ofW HT_.out HW_.out (by kernel_rfl)) (fun _ _ _ h => h) (Or.inl ⟨by rfl, ?_⟩) hHeld ?_ ?_
                              rotate_left
                              · rintro w' ⟨s0, s1, s2, s3, s4, s5, s6⟩
                                go_simp
                                with_reducible rfl
                              rotate_left
                              · simp only [Act.put, sA_, i64_w, i32_w]
                                rfl
                              refine one_ (i := 3) (N := some 107) #[true, true, true, true, false, false, true, true, false, false, false, true, true, false, false, false, true, true, false, false, false, false, false, false] rfl rfl (one_of HT_.out (by kernel_rfl)) (by decide) (fun K hK => ?_)
                              refine goes_ Tryd.func41 (by kernel_rfl) rfl #[.int .i64 a0_0] (by rfl) rfl rfl (by (try simp only [List.map_toArray, List.map_cons, List.map_nil]); first | done | rfl | (simp only [List.length_drop, List.length_take]; rfl)) ?_
                              with_reducible refine (spec_l2Show.calls k2 a0_0 t161 _ A77.out).mono ?_
                              rintro e w92 ⟨rfl, hb⟩
                              refine ⟨_, rfl, ?_⟩
                              have hb1_ := fromP HB.out hb (by repeat (first | (with_reducible exact Below.refl _ _) | apply below_alloc | apply pw_below_drewN | apply below_drew1))
                              have hb0_ := below_step hb1_ hb
                              replace HO_3 := kR HO_3 hb0_
                              replace BK129 := kB BK129 hb0_
                              replace HB := kH HB hb0_
                              clear hb1_ hb0_
                              (try clear hb)
                              (try clear hb2)
                              (try clear hk)
                              (try clear hi)
                              refine hK.out _ _ ⟨(blk_cell BK129.out 0).trans rfl, (blk_cell BK129.out 1).trans rfl, (blk_cell BK129.out 2).trans rfl, (blk_cell BK129.out 3).trans rfl, (blk_cell BK129.out 4).trans rfl, (blk_cell BK129.out 5).trans rfl, (blk_cell BK129.out 6).trans rfl⟩ (fun hHeld => ?_)
                              clear hK K
                              refine norm_ (a' := ?_) ?_ ?_
                              rotate_left
                              · show Act.put _ (some 107) _ = _
                                simp only [Act.put, sA_, i64_w, i32_w]
                                rfl
                              refine pure_ (i := 4) (N := some 108) (v := ?_) (a' := ?_) #[true, true, true, true, true, false, true, true, false, false, false, true, true, false, false, false, true, true, false, false, false, false, false, false] rfl rfl (any_of HT_.out (by kernel_rfl)) (fun _ _ _ h => h) (Or.inl ⟨by rfl, ?_⟩) ?_ ?_
                              rotate_left
                              · intro w'
                                go_simp
                                with_reducible rfl
                              rotate_left
                              · simp only [Act.put, sA_, i64_w, i32_w]
                                rfl
                              refine pure_ (i := 5) (N := some 109) (v := ?_) (a' := ?_) #[true, true, true, true, true, true, true, true, false, false, false, true, true, false, false, false, true, true, false, false, false, false, false, false] rfl rfl (any_of HT_.out (by kernel_rfl)) (fun _ _ _ h => h) (Or.inl ⟨by rfl, ?_⟩) ?_ ?_
                              rotate_left
                              · intro w'
                                go_simp
                                with_reducible rfl
                              rotate_left
                              · simp only [Act.put, sA_, i64_w, i32_w]
                                rfl
                              refine one_ (i := 8) (N := some 112) #[true, true, true, true, true, true, true, true, true, false, false, true, true, false, false, false, true, true, false, false, false, false, false, false] rfl rfl (one_of HT_.out (by kernel_rfl)) (by decide) (fun K hK => ?_)
                              refine goes_ Tryd.func41 (by kernel_rfl) rfl #[.int .i64 a0_4] (by rfl) rfl rfl (by (try simp only [List.map_toArray, List.map_cons, List.map_nil]); first | done | rfl | (simp only [List.length_drop, List.length_take]; rfl)) ?_
                              with_reducible refine (spec_l2Show.calls k2 a0_4 t162 _ A80.out).mono ?_
                              rintro e w93 ⟨rfl, hb⟩
                              refine ⟨_, rfl, ?_⟩
                              have hb1_ := fromP HB.out hb (by repeat (first | (with_reducible exact Below.refl _ _) | apply below_alloc | apply pw_below_drewN | apply below_drew1))
                              have hb0_ := below_step hb1_ hb
                              replace HO_3 := kR HO_3 hb0_
                              replace BK129 := kB BK129 hb0_
                              replace HB := kH HB hb0_
                              clear hb1_ hb0_
                              (try clear hb)
                              (try clear hb2)
                              (try clear hk)
                              (try clear hi)
                              refine hK.out _ _ ⟨(blk_cell BK129.out 0).trans rfl, (blk_cell BK129.out 1).trans rfl, (blk_cell BK129.out 2).trans rfl, (blk_cell BK129.out 3).trans rfl, (blk_cell BK129.out 4).trans rfl, (blk_cell BK129.out 5).trans rfl, (blk_cell BK129.out 6).trans rfl⟩ (fun hHeld => ?_)
                              clear hK K
                              refine norm_ (a' := ?_) ?_ ?_
                              rotate_left
                              · show Act.put _ (some 112) _ = _
                                simp only [Act.put, sA_, i64_w, i32_w]
                                rfl
                              refine pure_ (i := 9) (N := some 113) (v := ?_) (a' := ?_) #[true, true, true, true, true, true, true, true, true, true, false, true, true, false, false, false, true, true, false, false, false, false, false, false] rfl rfl (any_of HT_.out (by kernel_rfl)) (fun _ _ _ h => h) (Or.inl ⟨by rfl, ?_⟩) ?_ ?_
                              rotate_left
                              · intro w'
                                go_simp
                                with_reducible rfl
                              rotate_left
                              · simp only [Act.put, sA_, i64_w, i32_w]
                                rfl
                              refine pure_ (i := 10) (N := some 114) (v := ?_) (a' := ?_) #[true, true, true, true, true, true, true, true, true, true, true, true, true, false, false, false, true, true, false, false, false, false, false, false] rfl rfl (any_of HT_.out (by kernel_rfl)) (fun _ _ _ h => h) (Or.inl ⟨by rfl, ?_⟩) ?_ ?_
                              rotate_left
                              · intro w'
                                go_simp
                                with_reducible rfl
                              rotate_left
                              · simp only [Act.put, sA_, i64_w, i32_w]
                                rfl
                              refine one_ (i := 13) (N := some 117) #[true, true, true, true, true, true, true, true, true, true, true, true, true, true, false, false, true, true, false, false, false, false, false, false] rfl rfl (one_of HT_.out (by kernel_rfl)) (by decide) (fun K hK => ?_)
                              refine goes_ Tryd.func41 (by kernel_rfl) rfl #[.int .i64 a0_3] (by rfl) rfl rfl (by (try simp only [List.map_toArray, List.map_cons, List.map_nil]); first | done | rfl | (simp only [List.length_drop, List.length_take]; rfl)) ?_
                              with_reducible refine (spec_l2Show.calls k2 a0_3 t163 _ A83.out).mono ?_
                              rintro e w94 ⟨rfl, hb⟩
                              refine ⟨_, rfl, ?_⟩
                              have hb1_ := fromP HB.out hb (by repeat (first | (with_reducible exact Below.refl _ _) | apply below_alloc | apply pw_below_drewN | apply below_drew1))
                              have hb0_ := below_step hb1_ hb
                              replace HO_3 := kR HO_3 hb0_
                              replace BK129 := kB BK129 hb0_
                              replace HB := kH HB hb0_
                              clear hb1_ hb0_
                              (try clear hb)
                              (try clear hb2)
                              (try clear hk)
                              (try clear hi)
                              refine hK.out _ _ ⟨(blk_cell BK129.out 0).trans rfl, (blk_cell BK129.out 1).trans rfl, (blk_cell BK129.out 2).trans rfl, (blk_cell BK129.out 3).trans rfl, (blk_cell BK129.out 4).trans rfl, (blk_cell BK129.out 5).trans rfl, (blk_cell BK129.out 6).trans rfl⟩ (fun hHeld => ?_)
                              clear hK K
                              refine norm_ (a' := ?_) ?_ ?_
                              rotate_left
                              · show Act.put _ (some 117) _ = _
                                simp only [Act.put, sA_, i64_w, i32_w]
                                rfl
                              refine pure_ (i := 14) (N := some 118) (v := ?_) (a' := ?_) #[true, true, true, true, true, true, true, true, true, true, true, true, true, true, true, false, true, true, false, false, false, false, false, false] rfl rfl (any_of HT_.out (by kernel_rfl)) (fun _ _ _ h => h) (Or.inl ⟨by rfl, ?_⟩) ?_ ?_
                              rotate_left
                              · intro w'
                                go_simp
                                with_reducible rfl
                              rotate_left
                              · simp only [Act.put, sA_, i64_w, i32_w]
                                rfl
                              refine pure_ (i := 15) (N := some 119) (v := ?_) (a' := ?_) #[true, true, true, true, true, true, true, true, true, true, true, true, true, true, true, true, true, true, false, false, false, false, false, false] rfl rfl (any_of HT_.out (by kernel_rfl)) (fun _ _ _ h => h) (Or.inl ⟨by rfl, ?_⟩) ?_ ?_
                              rotate_left
                              · intro w'
                                go_simp
                                with_reducible rfl
                              rotate_left
                              · simp only [Act.put, sA_, i64_w, i32_w]
                                rfl
                              refine one_ (i := 18) (N := some 122) #[true, true, true, true, true, true, true, true, true, true, true, true, true, true, true, true, true, true, true, false, false, false, false, false] rfl rfl (one_of HT_.out (by kernel_rfl)) (by decide) (fun K hK => ?_)
                              refine goes_ Tryd.func41 (by kernel_rfl) rfl #[.int .i64 a0_5] (by rfl) rfl rfl (by (try simp only [List.map_toArray, List.map_cons, List.map_nil]); first | done | rfl | (simp only [List.length_drop, List.length_take]; rfl)) ?_
                              with_reducible refine (spec_l2Show.calls k2 a0_5 t164 _ A86.out).mono ?_
                              rintro e w95 ⟨rfl, hb⟩
                              refine ⟨_, rfl, ?_⟩
                              have hb1_ := fromP HB.out hb (by repeat (first | (with_reducible exact Below.refl _ _) | apply below_alloc | apply pw_below_drewN | apply below_drew1))
                              have hb0_ := below_step hb1_ hb
                              replace HO_3 := kR HO_3 hb0_
                              replace BK129 := kB BK129 hb0_
                              replace HB := kH HB hb0_
                              clear hb1_ hb0_
                              (try clear hb)
                              (try clear hb2)
                              (try clear hk)
                              (try clear hi)
                              obtain ⟨Ao96, co96, eo96⟩ := Kd.R_slice HO_3.out
                              (first | subst eo96 | (injection eo96 with f1_ f2_ f3_; have f4_ := f1_.symm; have f5_ := f3_.symm; clear f1_ f2_ f3_; subst f4_; subst f5_))
                              refine hK.out _ _ ⟨(blk_cell BK129.out 0).trans rfl, (blk_cell BK129.out 1).trans rfl, (blk_cell BK129.out 2).trans rfl, (blk_cell BK129.out 3).trans rfl, (blk_cell BK129.out 4).trans rfl, (blk_cell BK129.out 5).trans rfl, (blk_cell BK129.out 6).trans rfl⟩ (fun hHeld => ?_)
                              clear hK K
                              refine norm_ (a' := ?_) ?_ ?_
                              rotate_left
                              · show Act.put _ (some 122) _ = _
                                simp only [Act.put, sA_, i64_w, i32_w]
                                rfl
                              refine pure_ (i := 19) (N := some 123) (v := ?_) (a' := ?_) #[true, true, true, true, true, true, true, true, true, true, true, true, true, true, true, true, true, true, true, true, false, false, false, false] rfl rfl (any_of HT_.out (by kernel_rfl)) (fun _ _ _ h => h) (Or.inl ⟨by rfl, ?_⟩) ?_ ?_
                              rotate_left
                              · intro w'
                                go_simp
                                with_reducible rfl
                              rotate_left
                              · simp only [Act.put, sA_, i64_w, i32_w]
                                rfl
                              refine pure_ (i := 20) (N := some 124) (v := ?_) (a' := ?_) #[true, true, true, true, true, true, true, true, true, true, true, true, true, true, true, true, true, true, true, true, true, false, false, false] rfl rfl (any_of HT_.out (by kernel_rfl)) (fun _ _ _ h => h) (Or.inl ⟨by rfl, ?_⟩) ?_ ?_
                              rotate_left
                              · intro w'
                                go_simp
                                with_reducible rfl
                              rotate_left
                              · simp only [Act.put, sA_, i64_w, i32_w]
                                rfl
                              refine one_ (i := 21) (N := some 125) #[true, true, true, true, true, true, true, true, true, true, true, true, true, true, true, true, true, true, true, true, true, true, false, false] rfl rfl (one_of HT_.out (by kernel_rfl)) (by decide) (fun K hK => ?_)
                              refine goes_ Tryd.func40 (by kernel_rfl) rfl #[.slice Ao96 x3_2.length co96, .string (((((((((⟨#[101, 110, 100, 32]⟩ : ByteArray) ++ t161) ++ (⟨#[32]⟩ : ByteArray)) ++ t162) ++ (⟨#[32]⟩ : ByteArray)) ++ t163) ++ (⟨#[32]⟩ : ByteArray)) ++ t164) ++ (⟨#[10]⟩ : ByteArray))] (by rfl) rfl rfl (by (try simp only [List.map_toArray, List.map_cons, List.map_nil]); first | done | rfl | (simp only [List.length_drop, List.length_take]; rfl)) ?_
                              with_reducible refine (spec_l6Put.calls k2 (fun k_ => some k_ = (.slice Ao96 x3_2.length co96 : Value).ownBlock) (.slice Ao96 x3_2.length co96) x3_2 (((((((((⟨#[101, 110, 100, 32]⟩ : ByteArray) ++ t161) ++ (⟨#[32]⟩ : ByteArray)) ++ t162) ++ (⟨#[32]⟩ : ByteArray)) ++ t163) ++ (⟨#[32]⟩ : ByteArray)) ++ t164) ++ (⟨#[10]⟩ : ByteArray)) t165 w _ ?side1 ?side2 A89.out).mono ?_
                              (case side1 => repeat (first | (with_reducible first | exact HB.out | apply below_alloc | apply pw_below_drewN | apply below_drew1 | refine below_set ?_ GE129.out) | exact HB.out))
                              (case side2 => exact Kd.R_tight rfl HO_3.out)
                              rintro e w97 ⟨v166, rfl, ho0, hb, hkp⟩
                              refine ⟨_, rfl, ?_⟩
                              have n0_ := Aside0.mk (blk_kept (by (with_reducible repeat (first | refine blk_drewN ?_ _ | refine blk_drew ?_ | refine blk_alloc ?_ _)); exact BK129.out) hkp (fun hs_ => (fun e_ => (Kd.R_ne HO_3.out BK129.out (by decide)) e_) hs_))
                              have n1_ := Aside0.mk (Kd.R_mono (ok' := fun k_ => True) ho0 (fun k_ hk_ => trivial))
                              have n2_ := Aside0.mk (hb)
                              clear BK129
                              clear HB
                              clear HO_3
                              have BK129 := n0_
                              have HO167 := n1_
                              have HB := n2_
                              clear n0_ n1_ n2_
                              (try clear hb)
                              (try clear hkp)
                              (try clear ho0)
                              refine hK.out _ _ ⟨(blk_cell BK129.out 0).trans rfl, (blk_cell BK129.out 1).trans rfl, (blk_cell BK129.out 2).trans rfl, (blk_cell BK129.out 3).trans rfl, (blk_cell BK129.out 4).trans rfl, (blk_cell BK129.out 5).trans rfl, (blk_cell BK129.out 6).trans rfl⟩ (fun hHeld => ?_)
                              clear hK K
                              refine norm_ (a' := ?_) ?_ ?_
                              rotate_left
                              · show Act.put _ (some 125) _ = _
                                simp only [Act.put, sA_, i64_w, i32_w]
                                rfl
                              refine one_ (i := 22) (N := some 126) #[true, true, true, true, true, true, true, true, true, true, true, true, true, true, true, true, true, true, true, true, true, true, true, false] rfl rfl (one_of HT_.out (by kernel_rfl)) (by decide) (fun K hK => ?_)
                              have hcv98 := own_string (P := Tryd.prog) Tryd.underlying61 Tryd.underlying5 Tryd.underlying9 (Kd.own_of_R HO167.out)
                              refine value_ (w1 := ?_) (v := ?_) (by rfl) rfl ?_ ?_
                              rotate_left 2
                              · go_simp
                                constructor
                                · rfl
                                · rfl
                              clear hcv98
                              refine hK.out _ _ ⟨(blk_cell BK129.out 0).trans rfl, (blk_cell BK129.out 1).trans rfl, (blk_cell BK129.out 2).trans rfl, (blk_cell BK129.out 3).trans rfl, (blk_cell BK129.out 4).trans rfl, (blk_cell BK129.out 5).trans rfl, (blk_cell BK129.out 6).trans rfl⟩ (fun hHeld => ?_)
                              clear hK K
                              refine norm_ (a' := ?_) ?_ ?_
                              rotate_left
                              · show Act.put _ (some 126) _ = _
                                simp only [Act.put, sA_, i64_w, i32_w]
                                rfl
                              refine pure_ (i := 23) (N := some 2) (v := ?_) (a' := ?_) #[true, true, true, true, true, true, true, true, true, true, true, true, true, true, true, true, true, true, true, true, true, true, true, true] rfl rfl (any_of HT_.out (by kernel_rfl)) (fun _ _ _ h => h) (Or.inl ⟨by rfl, ?_⟩) ?_ ?_
                              rotate_left
                              · intro w'
                                go_simp
                                with_reducible rfl
                              rotate_left
                              · simp only [Act.put, sA_, i64_w, i32_w]
                                rfl
                              refine done_ (done_of HT_.out (by kernel_rfl)) ?_
                              try go_wp2
                              go_ret
                              exact ⟨by first | rfl | (simp [errW_none, errW_some] <;> rfl) | (simp [*, errW_none, errW_some] <;> rfl), by repeat (first | (with_reducible first | exact HB.out | apply below_alloc | apply pw_below_drewN | apply below_drew1 | refine below_set ?_ GE129.out) | exact HB.out)⟩
                            · rw [if_neg c88] at H
                              exact absurd H (by simp)
                          · rw [if_neg c87] at H
                            exact absurd H (by simp)
                        · rw [if_neg c85] at H
                          exact absurd H (by simp)
                      · rw [if_neg c84] at H
                        exact absurd H (by simp)
                    · rw [if_neg c82] at H
                      exact absurd H (by simp)
                  · rw [if_neg c81] at H
                    exact absurd H (by simp)
                · rw [if_neg c79] at H
                  exact absurd H (by simp)
              · rw [if_neg c78] at H
                exact absurd H (by simp)
end Go.Proofs.YtidgimpdjfmbnaaDoor.Gp
end
