/- A part of the proof of RowFnExactClaim: each text's theorems that it needs, packed by shake.py, a program of this work; Lean checks them. -/
import Derived.Test.YtnbohlcibgfjaaaDoorClm3
import Derived.Test.YtnbohlcibgfjaaaDoorClm10
import Derived.Test.YtnbohlcibgfjaaaDoorClm12
section
namespace Go.Proofs.YtnbohlcibgfjaaaDoor.Gp
open Go.RowKit Go.Proofs.YtnbohlcibgfjaaaDoorW.PrintWords Go.Proofs.YtnbohlcibgfjaaaDoorW.PrintLast Go.Proofs.YtnbohlcibgfjaaaDoorW.PrintMore
set_option linter.unusedVariables false
set_option linter.unusedSimpArgs false
mutual
def spec_l4Put.l0 : Nat → List (S32) → Bool → Int → List (S32) → Int → ByteArray → Bool → ByteArray → List (S29) → Int → Int → Int → Int → Option ((List (S32)))
 | 0, _, _, _, _, _, _, _, _, _, _, _, _, _ => none
 | k + 1, x5, x6, x7, x261000, x262000, x262001, x262002, x262003, x262004, x262005, x262006, x262007, x262008 => if x7 < (x261000.length : Int) then (if 0 ≤ x7 then (if x6 = true then (spec_l4Put.j1 k x5 x6 x7 false x261000 x262000 x262001 x262002 x262003 x262004 x262005 x262006 x262007 x262008 ((rd_T32 x261000 x7).f0.f0) ((rd_T32 x261000 x7).f0.f1) ((rd_T32 x261000 x7).f1) ((rd_T32 x261000 x7).f2) ((rd_T32 x261000 x7).f3) ((rd_T32 x261000 x7).f4) ((rd_T32 x261000 x7).f5) ((rd_T32 x261000 x7).f6) ((rd_T32 x261000 x7).f7)) else ((spec_l4KeyLess.f k ((rd_T32 x261000 x7).f0.f0) ((rd_T32 x261000 x7).f0.f1) x262000 x262001).bind fun t282 => (spec_l4Put.j1 k x5 x6 x7 (!t282) x261000 x262000 x262001 x262002 x262003 x262004 x262005 x262006 x262007 x262008 ((rd_T32 x261000 x7).f0.f0) ((rd_T32 x261000 x7).f0.f1) ((rd_T32 x261000 x7).f1) ((rd_T32 x261000 x7).f2) ((rd_T32 x261000 x7).f3) ((rd_T32 x261000 x7).f4) ((rd_T32 x261000 x7).f5) ((rd_T32 x261000 x7).f6) ((rd_T32 x261000 x7).f7)))) else (none)) else (if x6 = true then (some x5) else ((spec_l4CopySlot.f k x262000 x262001 x262002 x262003 x262004 x262005 x262006 x262007 x262008).bind fun bt266 => (if x5.length < 1353245080339 then (some (x5 ++ [(⟨(⟨bt266.1, bt266.2.1⟩ : S29), bt266.2.2.1, bt266.2.2.2.1, bt266.2.2.2.2.1, bt266.2.2.2.2.2.1, bt266.2.2.2.2.2.2.1, bt266.2.2.2.2.2.2.2.1, bt266.2.2.2.2.2.2.2.2⟩ : S32)])) else (none))))
def spec_l4Put.j1 : Nat → List (S32) → Bool → Int → Bool → List (S32) → Int → ByteArray → Bool → ByteArray → List (S29) → Int → Int → Int → Int → Int → ByteArray → Bool → ByteArray → List (S29) → Int → Int → Int → Int → Option ((List (S32)))
 | 0, _, _, _, _, _, _, _, _, _, _, _, _, _, _, _, _, _, _, _, _, _, _, _ => none
 | k + 1, x5, x6, x7, x31, x261000, x262000, x262001, x262002, x262003, x262004, x262005, x262006, x262007, x262008, x282000, x282001, x282002, x282003, x282004, x282005, x282006, x282007, x282008 => if x31 = true then ((spec_l4CopySlot.f k x262000 x262001 x262002 x262003 x262004 x262005 x262006 x262007 x262008).bind fun bt283 => (if x5.length < 1353245080339 then (spec_l4Put.j2 k (x5 ++ [(⟨(⟨bt283.1, bt283.2.1⟩ : S29), bt283.2.2.1, bt283.2.2.2.1, bt283.2.2.2.2.1, bt283.2.2.2.2.2.1, bt283.2.2.2.2.2.2.1, bt283.2.2.2.2.2.2.2.1, bt283.2.2.2.2.2.2.2.2⟩ : S32)]) true x7 x261000 x262000 x262001 x262002 x262003 x262004 x262005 x262006 x262007 x262008 x282000 x282001 x282002 x282003 x282004 x282005 x282006 x282007 x282008) else (none))) else (spec_l4Put.j2 k x5 x6 x7 x261000 x262000 x262001 x262002 x262003 x262004 x262005 x262006 x262007 x262008 x282000 x282001 x282002 x282003 x282004 x282005 x282006 x282007 x282008)
def spec_l4Put.j2 : Nat → List (S32) → Bool → Int → List (S32) → Int → ByteArray → Bool → ByteArray → List (S29) → Int → Int → Int → Int → Int → ByteArray → Bool → ByteArray → List (S29) → Int → Int → Int → Int → Option ((List (S32)))
 | 0, _, _, _, _, _, _, _, _, _, _, _, _, _, _, _, _, _, _, _, _, _, _ => none
 | k + 1, x5, x6, x7, x261000, x262000, x262001, x262002, x262003, x262004, x262005, x262006, x262007, x262008, x282000, x282001, x282002, x282003, x282004, x282005, x282006, x282007, x282008 => (spec_l4SameKey.f x282000 x282001 x262000 x262001).bind fun t297 => (if t297 = true then (spec_l4Put.l0 k x5 x6 (wrap64 (x7 + 1)) x261000 x262000 x262001 x262002 x262003 x262004 x262005 x262006 x262007 x262008) else ((spec_l4CopySlot.f k x282000 x282001 x282002 x282003 x282004 x282005 x282006 x282007 x282008).bind fun bt298 => (if x5.length < 1353245080339 then (spec_l4Put.l0 k (x5 ++ [(⟨(⟨bt298.1, bt298.2.1⟩ : S29), bt298.2.2.1, bt298.2.2.2.1, bt298.2.2.2.2.1, bt298.2.2.2.2.2.1, bt298.2.2.2.2.2.2.1, bt298.2.2.2.2.2.2.2.1, bt298.2.2.2.2.2.2.2.2⟩ : S32)]) x6 (wrap64 (x7 + 1)) x261000 x262000 x262001 x262002 x262003 x262004 x262005 x262006 x262007 x262008) else (none))))
end
def spec_l4Put.f (k : Nat) (l0_0 : List (S32)) (a1_0 : Int) (a1_1 : ByteArray) (a1_2 : Bool) (a1_3 : ByteArray) (l1_4 : List (S29)) (a1_5 : Int) (a1_6 : Int) (a1_7 : Int) (a1_8 : Int) : Option ((List (S32))) := spec_l4Put.l0 k (([] : List (S32))) false 0 l0_0 a1_0 a1_1 a1_2 a1_3 l1_4 a1_5 a1_6 a1_7 a1_8
set_option maxHeartbeats 8000000 in
set_option maxRecDepth 100000 in
theorem spec_l4Put.calls (k : Nat) (A0_0 : Option Addr) (c0_0 : Nat) (l0_0 : List (S32)) (a1_0 : Int) (a1_1 : ByteArray) (a1_2 : Bool) (a1_3 : ByteArray) (A1_4 : Option Addr) (c1_4 : Nat) (l1_4 : List (S29)) (a1_5 : Int) (a1_6 : Int) (a1_7 : Int) (a1_8 : Int) (r : List (S32)) (w : World) (hr0_0 : Kd.C k32 w A0_0 l0_0.length l0_0) (hc0_0 : l0_0.length ≤ c0_0) (hr1_4 : Kd.C k29 w A1_4 l1_4.length l1_4) (hc1_4 : l1_4.length ≤ c1_4) (h : spec_l4Put.f k l0_0 a1_0 a1_1 a1_2 a1_3 l1_4 a1_5 a1_6 a1_7 a1_8 = some r) :
 Calls Tryd.prog 82 #[.agg #[.slice A0_0 l0_0.length c0_0], .agg #[.int .i64 a1_0, .string a1_1, .bool a1_2, .string a1_3, .slice A1_4 l1_4.length c1_4, .int .i64 a1_5, .int .i64 a1_6, .int .i64 a1_7, .int .i64 a1_8]] w fun e w' => ∃ v0_ : Value, e = .returned (.agg #[v0_]) ∧ Kd.S k32 32 w' w.heap.size (fun _ => True) v0_ r ∧ Below w.heap.size w w' := by
 have hu36 := Tryd.underlying36
 have hu32 := Tryd.underlying32
 have hu29 := Tryd.underlying29
 have HR0_0 := Aside0.mk hr0_0
 have HC0_0 := Aside0.mk hc0_0
 clear hr0_0 hc0_0
 have HR1_4 := Aside0.mk hr1_4
 have HC1_4 := Aside0.mk hc1_4
 clear hr1_4 hc1_4
 have HB := Aside0.mk (Below.refl w.heap.size w)
 have H : (spec_l4Put.l0 k (([] : List (S32))) false 0 l0_0 a1_0 a1_1 a1_2 a1_3 l1_4 a1_5 a1_6 a1_7 a1_8) = some r := h
 clear h
 obtain ⟨y263, hy263⟩ : ∃ y_ : List (S32), y_ = (([] : List (S32))) := ⟨_, rfl⟩
 replace H : (spec_l4Put.l0 k y263 false 0 l0_0 a1_0 a1_1 a1_2 a1_3 l1_4 a1_5 a1_6 a1_7 a1_8) = some r := by first | (rw [hy263]; with_reducible exact H) | (have H2_ := (Option.bind_some _ _).symm.trans H; rw [hy263]; with_reducible exact H2_) | (have H2_ := (Option.bind_some _ _).symm.trans H; with_reducible exact H2_) | with_reducible exact H | (rw [hy263]; exact H) | exact H
 have Ny263 := Aside0.mk hy263
 clear hy263
 have H' := Aside0.mk H
 clear H
 go_enter Tryd.func82, Tryd.ntmps82
 go_wp2_with (first | ((with_reducible refine gate_dst (N := 2) rfl ?_); refine box_event ?hg (N := 2) ?hd (cs := #[.slice A0_0 l0_0.length c0_0]) (t := 36) ?hr ?_; (case hd => rfl); (case hg => rfl); (case hr => first | (go_simp; done) | (go_simp; rfl)); intro gb260 hg w3 hbox hb; have hb1_ := fromQ HB.out hb; have hb0_ := below_step hb1_ hb; have hW_ := below_step HB.out hb1_; have n1_ := Aside0.mk (hbox); have n2_ := szle hg hW_; have n3_ := szle hg hW_; replace HB := kH HB hb0_; have BK260 := n1_; have GW260 := n2_; have GE260 := n3_; clear hb1_ hb0_ hW_ n1_ n2_ n3_; clear hb hbox hg) | ((with_reducible refine gate_dst (N := 3) rfl ?_); refine box_event ?hg (N := 3) ?hd (cs := #[.int .i64 a1_0, .string a1_1, .bool a1_2, .string a1_3, .slice A1_4 l1_4.length c1_4, .int .i64 a1_5, .int .i64 a1_6, .int .i64 a1_7, .int .i64 a1_8]) (t := 32) ?hr ?_; (case hd => rfl); (case hg => rfl); (case hr => first | (go_simp; done) | (go_simp; rfl)); intro gb261 hg w4 hbox hb; have hb1_ := fromQ HB.out hb; have hb0_ := below_step hb1_ hb; have hW_ := below_step HB.out hb1_; have n2_ := Aside0.mk (hbox); have n3_ := szle hg hW_; have n4_ := szle hg hW_; have n5_ := nelt hg BK260 hb1_; have n6_ := negt hg BK260 hb1_; replace BK260 := kB BK260 hb0_; replace HB := kH HB hb0_; have BK261 := n2_; have GW261 := n3_; have GE261 := n4_; have NB260_261 := n5_; have NB261_260 := n6_; clear hb1_ hb0_ hW_ n2_ n3_ n4_ n5_ n6_; clear hb hbox hg) | ((with_reducible refine gate_dst (N := 4) rfl ?_); refine box_event ?hg (N := 4) ?hd (cs := #[.slice none 0 0]) (t := 36) ?hr ?_; (case hd => rfl); (case hg => rfl); (case hr => first | (go_simp; done) | (go_simp; rfl)); intro gb262 hg w5 hbox hb; have hb1_ := fromQ HB.out hb; have hb0_ := below_step hb1_ hb; have hW_ := below_step HB.out hb1_; have n3_ := Aside0.mk (hbox); have n4_ := szle hg hW_; have n5_ := szle hg hW_; have n6_ := nelt hg BK260 hb1_; have n7_ := negt hg BK260 hb1_; have n8_ := nelt hg BK261 hb1_; have n9_ := negt hg BK261 hb1_; replace BK260 := kB BK260 hb0_; replace BK261 := kB BK261 hb0_; replace HB := kH HB hb0_; have BK262 := n3_; have GW262 := n4_; have GE262 := n5_; have NB260_262 := n6_; have NB262_260 := n7_; have NB261_262 := n8_; have NB262_261 := n9_; clear hb1_ hb0_ hW_ n3_ n4_ n5_ n6_ n7_ n8_ n9_; clear hb hbox hg) | ((with_reducible refine gate_dst (N := 9) rfl ?_); refine Kd.S_lit k32 _ 32 ?hg (N := 9) ?hd (xs := ([] : List (S32))) (inner := []) (ok := fun _ => True) (okp := fun _ => True) ?hr ?hp (fun _ hk => hk) trivial (Below.refl _ _) (Nat.le_refl _) (by simp) ?_; (case hd => rfl); (case hg => rfl); (case hr => first | (go_simp; done) | (go_simp; rfl)); (case hp => exact (Reps.none _ _)); intro v264 w6 ho7 hb hg_ hnew_; clear hg_ hnew_; (first | rw [← Ny263.out] at ho7 | (simp only [Int.reduceToNat] at ho7; rw [← Ny263.out] at ho7)); have hb1_ := fromQ HB.out hb; have hb0_ := below_step hb1_ hb; have hW_ := below_step HB.out hb1_; have n0_ := Aside0.mk (Kd.S_lower (Kd.S_newB ho7 (g := gb261) (o := .cells #[.int .i64 a1_0, .string a1_1, .bool a1_2, .string a1_3, .slice A1_4 l1_4.length c1_4, .int .i64 a1_5, .int .i64 a1_6, .int .i64 a1_7, .int .i64 a1_8] 32 (0, 0)) (blk_below BK261.out hb1_)) (below_size hW_)); replace BK260 := kB BK260 hb0_; replace BK261 := kB BK261 hb0_; replace BK262 := kB BK262 hb0_; replace HB := kH HB hb0_; have HO265 := n0_; clear hb1_ hb0_ hW_ n0_; clear hb ho7))
 go_loopg [5, 6, 7] k (fun kq v5 v6 v7 w' => ∃ (x5_1 : List (S32)) (x6_1 : Bool) (x7_1 : Int), v6 = .bool x6_1 ∧ v7 = .int .i64 x7_1 ∧ Aside0 (spec_l4Put.l0 kq x5_1 x6_1 x7_1 l0_0 a1_0 a1_1 a1_2 a1_3 l1_4 a1_5 a1_6 a1_7 a1_8 = some r) ∧ Aside0 (kq ≤ k) ∧ Aside0 (Kd.S k32 32 w' w.heap.size (fun k_ => k_ ≠ gb261) v5 x5_1) ∧ Aside0 (w'.heap[gb260]? = some (.cells #[(.slice A0_0 l0_0.length c0_0)] 36 (0, 0))) ∧ Aside0 (w'.heap[gb261]? = some (.cells #[.int .i64 a1_0, .string a1_1, .bool a1_2, .string a1_3, (.slice A1_4 l1_4.length c1_4), .int .i64 a1_5, .int .i64 a1_6, .int .i64 a1_7, .int .i64 a1_8] 32 (0, 0))) ∧ Aside0 (w'.heap[gb262]? = some (.cells #[(.slice none 0 0)] 36 (0, 0))) ∧ Aside0 (Below w.heap.size w w'))
 case atStart => exact ⟨(y263), (false), (0), (by first | rfl | (simp; done) | (simp [*]; done)), (by first | rfl | (simp; done) | (simp [*]; done)), H', ⟨Nat.le_refl _⟩, ⟨by (with_reducible repeat (first | apply Kd.S_alloc | apply Kd.S_drewN | apply Kd.S_drew)); exact Kd.S_mono HO265.out (fun _ hk => hk.2)⟩, ⟨by (with_reducible repeat (first | refine blk_drewN ?_ _ | refine blk_drew ?_ | refine blk_alloc ?_ _)); exact BK260.out⟩, ⟨by (with_reducible repeat (first | refine blk_drewN ?_ _ | refine blk_drew ?_ | refine blk_alloc ?_ _)); exact BK261.out⟩, ⟨by (with_reducible repeat (first | refine blk_drewN ?_ _ | refine blk_drew ?_ | refine blk_alloc ?_ _)); exact BK262.out⟩, ⟨by repeat (first | (with_reducible first | exact HB.out | apply below_alloc | apply pw_below_drewN | apply below_drew1 | refine below_set ?_ GE260.out | refine below_set ?_ GE261.out | refine below_set ?_ GE262.out) | exact HB.out)⟩⟩
 case round =>
  clear H'
  try clear c1
  try clear p2
  obtain ⟨x5_1, x6_1, x7_1, rfl, rfl, HA, HK1, HO_5, BK260, BK261, BK262, HB⟩ := hrel
  cases gk with
  | zero => exact absurd HA.out (by simp [spec_l4Put.l0])
  | succ k1 =>
   have H := HA.out
   clear HA
   simp only [spec_l4Put.l0] at H
   by_cases c8 : x7_1 < (l0_0.length : Int)
   ·
    rw [if_pos c8] at H
    have c8b0 : decide (x7_1 < (l0_0.length : Int)) = true := decide_eq_true c8
    clear c8
    by_cases c9 : 0 ≤ x7_1
    ·
     rw [if_pos c9] at H
     have c9b0 : decide (0 ≤ x7_1) = true := decide_eq_true c9
     clear c9
     have HC10 := Aside0.mk H
     clear H
     have hnb11 := NB260_261.out
     have hnc11 := NB261_260.out
     have hnb12 := NB260_262.out
     have hnc12 := NB262_260.out
     obtain ⟨hcz13_0, hfz13_0⟩ := bkA1 BK260.out
     have p280 : 0 ≤ (x7_1 : Int) := of_decide_eq_true (by first | (with_reducible assumption) | assumption)
     have q280 : x7_1 < (l0_0.length : Int) := of_decide_eq_true (by first | (with_reducible assumption) | assumption)
     obtain ⟨ad280, A280_4, c280_4, e280, hx280_0, hx280_1, hx280_2, hx280_3, hx280_4, hx280_5, hx280_6, hx280_7, hx280_8, hl280_4, hi280_4⟩ := at_T32 HR0_0.out x7_1 p280 q280
     cases e280
     replace hx280_0 := bcl HB hx280_0
     replace hx280_1 := bcl HB hx280_1
     replace hx280_2 := bcl HB hx280_2
     replace hx280_3 := bcl HB hx280_3
     replace hx280_4 := bcl HB hx280_4
     replace hx280_5 := bcl HB hx280_5
     replace hx280_6 := bcl HB hx280_6
     replace hx280_7 := bcl HB hx280_7
     replace hx280_8 := bcl HB hx280_8
     have HR280_4 := Aside0.mk hi280_4
     have HC280_4 := Aside0.mk hl280_4
     clear hi280_4 hl280_4
     replace p280 := eq_true p280
     replace q280 := eq_true q280
     go_upto_region 7 with (first | ((with_reducible refine gate_dst (N := 8) rfl ?_); refine box_event ?hg (N := 8) ?hd (cs := #[.int .i64 0, .string (⟨#[]⟩ : ByteArray), .bool false, .string (⟨#[]⟩ : ByteArray), .slice none 0 0, .int .i64 0, .int .i64 0, .int .i64 0, .int .i64 0]) (t := 32) ?hr ?_; (case hd => rfl); (case hg => rfl); (case hr => first | (go_simp; done) | (go_simp; rfl)); intro gb281 hg w14 hbox hb; have n0_ := Aside0.mk (Kd.S_below (Kd.S_elderB (by (with_reducible repeat (first | apply Kd.S_alloc | apply Kd.S_drewN | apply Kd.S_drew)); exact HO_5.out) gb281 (Nat.le_of_eq hg.symm)) hb); have n1_ := Aside0.mk (blk_below (g := gb260) (o := .cells #[.slice (some ad280) l0_0.length c0_0] 36 (0, 0)) (by (with_reducible repeat (first | refine blk_drewN ?_ _ | refine blk_drew ?_ | refine blk_alloc ?_ _)); exact BK260.out) hb); have n2_ := Aside0.mk (blk_below (g := gb261) (o := .cells #[.int .i64 a1_0, .string a1_1, .bool a1_2, .string a1_3, .slice A1_4 l1_4.length c1_4, .int .i64 a1_5, .int .i64 a1_6, .int .i64 a1_7, .int .i64 a1_8] 32 (0, 0)) (by (with_reducible repeat (first | refine blk_drewN ?_ _ | refine blk_drew ?_ | refine blk_alloc ?_ _)); exact BK261.out) hb); have n3_ := Aside0.mk (blk_below (g := gb262) (o := .cells #[.slice none 0 0] 36 (0, 0)) (by (with_reducible repeat (first | refine blk_drewN ?_ _ | refine blk_drew ?_ | refine blk_alloc ?_ _)); exact BK262.out) hb); have n4_ := Aside0.mk (below_step (by repeat (first | (with_reducible first | exact HB.out | apply below_alloc | apply pw_below_drewN | apply below_drew1 | refine below_set ?_ GE260.out | refine below_set ?_ GE261.out | refine below_set ?_ GE262.out) | exact HB.out)) hb); have n5_ := Aside0.mk (hbox); have n6_ := Aside0.mk ((by rw [hg]; exact (below_size (by repeat (first | (with_reducible first | exact HB.out | apply below_alloc | apply pw_below_drewN | apply below_drew1 | refine below_set ?_ GE260.out | refine below_set ?_ GE261.out | refine below_set ?_ GE262.out) | exact HB.out))) : w.heap.size ≤ gb281)); have n7_ := Aside0.mk ((by rw [hg]; exact (below_size (by repeat (first | (with_reducible first | exact HB.out | apply below_alloc | apply pw_below_drewN | apply below_drew1 | refine below_set ?_ GE260.out | refine below_set ?_ GE261.out | refine below_set ?_ GE262.out) | exact HB.out))) : w.heap.size ≤ gb281)); have n8_ := Aside0.mk ((by rw [hg]; exact Nat.ne_of_lt (blk_lt (g := gb260) (o := .cells #[.slice (some ad280) l0_0.length c0_0] 36 (0, 0)) (by (with_reducible repeat (first | refine blk_drewN ?_ _ | refine blk_drew ?_ | refine blk_alloc ?_ _)); exact BK260.out)) : gb260 ≠ gb281)); have n9_ := Aside0.mk ((by rw [hg]; exact Nat.ne_of_gt (blk_lt (g := gb260) (o := .cells #[.slice (some ad280) l0_0.length c0_0] 36 (0, 0)) (by (with_reducible repeat (first | refine blk_drewN ?_ _ | refine blk_drew ?_ | refine blk_alloc ?_ _)); exact BK260.out)) : gb281 ≠ gb260)); have n10_ := Aside0.mk ((by rw [hg]; exact Nat.ne_of_lt (blk_lt (g := gb261) (o := .cells #[.int .i64 a1_0, .string a1_1, .bool a1_2, .string a1_3, .slice A1_4 l1_4.length c1_4, .int .i64 a1_5, .int .i64 a1_6, .int .i64 a1_7, .int .i64 a1_8] 32 (0, 0)) (by (with_reducible repeat (first | refine blk_drewN ?_ _ | refine blk_drew ?_ | refine blk_alloc ?_ _)); exact BK261.out)) : gb261 ≠ gb281)); have n11_ := Aside0.mk ((by rw [hg]; exact Nat.ne_of_gt (blk_lt (g := gb261) (o := .cells #[.int .i64 a1_0, .string a1_1, .bool a1_2, .string a1_3, .slice A1_4 l1_4.length c1_4, .int .i64 a1_5, .int .i64 a1_6, .int .i64 a1_7, .int .i64 a1_8] 32 (0, 0)) (by (with_reducible repeat (first | refine blk_drewN ?_ _ | refine blk_drew ?_ | refine blk_alloc ?_ _)); exact BK261.out)) : gb281 ≠ gb261)); have n12_ := Aside0.mk ((by rw [hg]; exact Nat.ne_of_lt (blk_lt (g := gb262) (o := .cells #[.slice none 0 0] 36 (0, 0)) (by (with_reducible repeat (first | refine blk_drewN ?_ _ | refine blk_drew ?_ | refine blk_alloc ?_ _)); exact BK262.out)) : gb262 ≠ gb281)); have n13_ := Aside0.mk ((by rw [hg]; exact Nat.ne_of_gt (blk_lt (g := gb262) (o := .cells #[.slice none 0 0] 36 (0, 0)) (by (with_reducible repeat (first | refine blk_drewN ?_ _ | refine blk_drew ?_ | refine blk_alloc ?_ _)); exact BK262.out)) : gb281 ≠ gb262)); clear HO_5; clear BK260; clear BK261; clear BK262; clear HB; have HO_5 := n0_; have BK260 := n1_; have BK261 := n2_; have BK262 := n3_; have HB := n4_; have BK281 := n5_; have GW281 := n6_; have GE281 := n7_; have NB260_281 := n8_; have NB281_260 := n9_; have NB261_281 := n10_; have NB281_261 := n11_; have NB262_281 := n12_; have NB281_262 := n13_; clear n0_ n1_ n2_ n3_ n4_ n5_ n6_ n7_ n8_ n9_ n10_ n11_ n12_ n13_; clear hb hbox hg; have hnb15 := NB281_260.out; have hnc15 := NB260_281.out; have hnb16 := NB281_261.out; have hnc16 := NB261_281.out; have hnb17 := NB281_262.out; have hnc17 := NB262_281.out; have hcz18_0 : w14.cell? ⟨gb281, 0, none⟩ = some (.int .i64 0) := (blk_cell BK281.out 0).trans rfl; have hcz18_1 : w14.cell? ⟨gb281, 1, none⟩ = some (.string (⟨#[]⟩ : ByteArray)) := (blk_cell BK281.out 1).trans rfl; have hcz18_2 : w14.cell? ⟨gb281, 2, none⟩ = some (.bool false) := (blk_cell BK281.out 2).trans rfl; have hcz18_3 : w14.cell? ⟨gb281, 3, none⟩ = some (.string (⟨#[]⟩ : ByteArray)) := (blk_cell BK281.out 3).trans rfl; have hcz18_4 : w14.cell? ⟨gb281, 4, none⟩ = some (.slice none 0 0) := (blk_cell BK281.out 4).trans rfl; have hcz18_5 : w14.cell? ⟨gb281, 5, none⟩ = some (.int .i64 0) := (blk_cell BK281.out 5).trans rfl; have hcz18_6 : w14.cell? ⟨gb281, 6, none⟩ = some (.int .i64 0) := (blk_cell BK281.out 6).trans rfl; have hcz18_7 : w14.cell? ⟨gb281, 7, none⟩ = some (.int .i64 0) := (blk_cell BK281.out 7).trans rfl; have hcz18_8 : w14.cell? ⟨gb281, 8, none⟩ = some (.int .i64 0) := (blk_cell BK281.out 8).trans rfl; have hfz18_0 := blk_frozen BK281.out 0; have hfz18_1 := blk_frozen BK281.out 1; have hfz18_2 := blk_frozen BK281.out 2; have hfz18_3 := blk_frozen BK281.out 3; have hfz18_4 := blk_frozen BK281.out 4; have hfz18_5 := blk_frozen BK281.out 5; have hfz18_6 := blk_frozen BK281.out 6; have hfz18_7 := blk_frozen BK281.out 7; have hfz18_8 := blk_frozen BK281.out 8))
     (try simp only [Act.put, List.setIfInBounds_toArray, List.set_cons_zero, List.set_cons_succ])
     go_cut [31] (fun v31 wc => ∃ (kq : Nat) (x31_9 : Bool), v31 = .bool x31_9 ∧ Aside0 (spec_l4Put.j1 kq x5_1 x6_1 x7_1 x31_9 l0_0 a1_0 a1_1 a1_2 a1_3 l1_4 a1_5 a1_6 a1_7 a1_8 ((rd_T32 l0_0 x7_1).f0.f0) ((rd_T32 l0_0 x7_1).f0.f1) ((rd_T32 l0_0 x7_1).f1) ((rd_T32 l0_0 x7_1).f2) ((rd_T32 l0_0 x7_1).f3) ((rd_T32 l0_0 x7_1).f4) ((rd_T32 l0_0 x7_1).f5) ((rd_T32 l0_0 x7_1).f6) ((rd_T32 l0_0 x7_1).f7) = some r) ∧ Aside0 (kq ≤ k1) ∧ Aside0 (Kd.S k32 32 wc w.heap.size (fun k_ => k_ ≠ gb261 ∧ k_ ≠ gb281) u5 x5_1) ∧ Aside0 (wc.heap[gb260]? = some (.cells #[(.slice (some ad280) l0_0.length c0_0)] 36 (0, 0))) ∧ Aside0 (wc.heap[gb261]? = some (.cells #[.int .i64 a1_0, .string a1_1, .bool a1_2, .string a1_3, (.slice A1_4 l1_4.length c1_4), .int .i64 a1_5, .int .i64 a1_6, .int .i64 a1_7, .int .i64 a1_8] 32 (0, 0))) ∧ Aside0 (wc.heap[gb262]? = some (.cells #[(.slice none 0 0)] 36 (0, 0))) ∧ Aside0 (wc.heap[gb281]? = some (.cells #[.int .i64 ((rd_T32 l0_0 x7_1).f0.f0), .string ((rd_T32 l0_0 x7_1).f0.f1), .bool ((rd_T32 l0_0 x7_1).f1), .string ((rd_T32 l0_0 x7_1).f2), (.slice A280_4 ((rd_T32 l0_0 x7_1).f3).length c280_4), .int .i64 ((rd_T32 l0_0 x7_1).f4), .int .i64 ((rd_T32 l0_0 x7_1).f5), .int .i64 ((rd_T32 l0_0 x7_1).f6), .int .i64 ((rd_T32 l0_0 x7_1).f7)] 32 (0, 0))) ∧ Aside0 (Below w.heap.size w wc))
     case first =>
      have H := HC10.out
      clear HC10
      by_cases c19 : x6_1 = true
      ·
       subst c19
       have H1 : (spec_l4Put.j1 k1 x5_1 true x7_1 false l0_0 a1_0 a1_1 a1_2 a1_3 l1_4 a1_5 a1_6 a1_7 a1_8 ((rd_T32 l0_0 x7_1).f0.f0) ((rd_T32 l0_0 x7_1).f0.f1) ((rd_T32 l0_0 x7_1).f1) ((rd_T32 l0_0 x7_1).f2) ((rd_T32 l0_0 x7_1).f3) ((rd_T32 l0_0 x7_1).f4) ((rd_T32 l0_0 x7_1).f5) ((rd_T32 l0_0 x7_1).f6) ((rd_T32 l0_0 x7_1).f7)) = some r := by rw [if_pos rfl] at H; exact H
       clear H
       have H := H1
       clear H1
       have H' := Aside0.mk H
       clear H
       go_wp2
       go_meet
       case rel => exact ⟨_, (false), (by first | rfl | (simp; done) | (simp [*]; done)), H', ⟨by have := HK1.out; first | omega | exact Nat.le_refl _⟩, ⟨by (with_reducible repeat (first | apply Kd.S_alloc | apply Kd.S_drewN | apply Kd.S_drew)); exact Kd.S_mono (S_far9 (g := gb281) (Kd.S_mono HO_5.out (fun k_ hk => (⟨hk, hk.2⟩ : _ ∧ k_ ≠ gb281))) (fun _ hk => hk.2)) (fun _ hk => ⟨hk.1.1, hk.1.2⟩)⟩, ⟨by (with_reducible repeat (first | refine blk_drewN ?_ _ | refine blk_drew ?_ | refine blk_alloc ?_ _)); refine blk_far9 ?_ NB260_281.out; (with_reducible repeat (first | refine blk_drewN ?_ _ | refine blk_drew ?_ | refine blk_alloc ?_ _)); exact BK260.out⟩, ⟨by (with_reducible repeat (first | refine blk_drewN ?_ _ | refine blk_drew ?_ | refine blk_alloc ?_ _)); refine blk_far9 ?_ NB261_281.out; (with_reducible repeat (first | refine blk_drewN ?_ _ | refine blk_drew ?_ | refine blk_alloc ?_ _)); exact BK261.out⟩, ⟨by (with_reducible repeat (first | refine blk_drewN ?_ _ | refine blk_drew ?_ | refine blk_alloc ?_ _)); refine blk_far9 ?_ NB262_281.out; (with_reducible repeat (first | refine blk_drewN ?_ _ | refine blk_drew ?_ | refine blk_alloc ?_ _)); exact BK262.out⟩, ⟨by (with_reducible repeat (first | refine blk_drewN ?_ _ | refine blk_drew ?_ | refine blk_alloc ?_ _)); apply blk_stores9; (with_reducible repeat (first | refine blk_drewN ?_ _ | refine blk_drew ?_ | refine blk_alloc ?_ _)); exact BK281.out⟩, ⟨by repeat (first | (with_reducible first | exact HB.out | apply below_alloc | apply pw_below_drewN | apply below_drew1 | refine below_set ?_ GE260.out | refine below_set ?_ GE261.out | refine below_set ?_ GE262.out | refine below_set ?_ GE281.out) | exact HB.out)⟩⟩
      replace c19 := Bool.eq_false_iff.mpr c19
      subst c19
      have H1 : ((spec_l4KeyLess.f k1 ((rd_T32 l0_0 x7_1).f0.f0) ((rd_T32 l0_0 x7_1).f0.f1) a1_0 a1_1).bind fun t282 => (spec_l4Put.j1 k1 x5_1 false x7_1 (!t282) l0_0 a1_0 a1_1 a1_2 a1_3 l1_4 a1_5 a1_6 a1_7 a1_8 ((rd_T32 l0_0 x7_1).f0.f0) ((rd_T32 l0_0 x7_1).f0.f1) ((rd_T32 l0_0 x7_1).f1) ((rd_T32 l0_0 x7_1).f2) ((rd_T32 l0_0 x7_1).f3) ((rd_T32 l0_0 x7_1).f4) ((rd_T32 l0_0 x7_1).f5) ((rd_T32 l0_0 x7_1).f6) ((rd_T32 l0_0 x7_1).f7))) = some r := by rw [if_neg (show ¬ (false = true) by decide)] at H; exact H
      clear H
      have H := H1
      clear H1
      replace H := Option.bind_eq_some_iff.mp H
      obtain ⟨t282, A200, H⟩ := H
      replace H : (spec_l4Put.j1 k1 x5_1 false x7_1 (!t282) l0_0 a1_0 a1_1 a1_2 a1_3 l1_4 a1_5 a1_6 a1_7 a1_8 ((rd_T32 l0_0 x7_1).f0.f0) ((rd_T32 l0_0 x7_1).f0.f1) ((rd_T32 l0_0 x7_1).f1) ((rd_T32 l0_0 x7_1).f2) ((rd_T32 l0_0 x7_1).f3) ((rd_T32 l0_0 x7_1).f4) ((rd_T32 l0_0 x7_1).f5) ((rd_T32 l0_0 x7_1).f6) ((rd_T32 l0_0 x7_1).f7)) = some r := H
      have A20 := Aside0.mk A200
      clear A200
      have H' := Aside0.mk H
      clear H
      have hnb21 := NB281_260.out
      have hnc21 := NB260_281.out
      have hnb22 := NB281_261.out
      have hnc22 := NB261_281.out
      have hnb23 := NB281_262.out
      have hnc23 := NB262_281.out
      obtain ⟨hcz24_0, hcz24_1, hcz24_2, hcz24_3, hcz24_4, hcz24_5, hcz24_6, hcz24_7, hcz24_8, hfz24_0, hfz24_1, hfz24_2, hfz24_3, hfz24_4, hfz24_5, hfz24_6, hfz24_7, hfz24_8⟩ := bkA9 BK281.out
      have hnb25 := NB261_260.out
      have hnc25 := NB260_261.out
      have hnb26 := NB261_262.out
      have hnc26 := NB262_261.out
      obtain ⟨hcz27_0, hcz27_1, hcz27_2, hcz27_3, hcz27_4, hcz27_5, hcz27_6, hcz27_7, hcz27_8, hfz27_0, hfz27_1, hfz27_2, hfz27_3, hfz27_4, hfz27_5, hfz27_6, hfz27_7, hfz27_8⟩ := bkA9 BK261.out
      go_wp2_with (first | (go_at_call 95; (with_reducible refine (spec_l4KeyLess.calls k1 ((rd_T32 l0_0 x7_1).f0.f0) ((rd_T32 l0_0 x7_1).f0.f1) a1_0 a1_1 t282 _ A20.out).mono ?_); rintro e w28 ⟨rfl, hb⟩; have n0_ := Aside0.mk (Kd.S_below (by (with_reducible repeat (first | apply Kd.S_alloc | apply Kd.S_drewN | apply Kd.S_drew)); exact (Kd.S_mono (S_far9 (g := gb281) (Kd.S_mono HO_5.out (fun k_ hk => (⟨hk, hk.2⟩ : _ ∧ k_ ≠ gb281))) (fun _ hk => hk.2)) (fun _ h_ => h_.1))) hb); have n1_ := Aside0.mk (blk_below (g := gb260) (o := .cells #[.slice (some ad280) l0_0.length c0_0] 36 (0, 0)) (by (with_reducible repeat (first | refine blk_drewN ?_ _ | refine blk_drew ?_ | refine blk_alloc ?_ _)); refine blk_far9 ?_ NB260_281.out; (with_reducible repeat (first | refine blk_drewN ?_ _ | refine blk_drew ?_ | refine blk_alloc ?_ _)); exact BK260.out) hb); have n2_ := Aside0.mk (blk_below (g := gb261) (o := .cells #[.int .i64 a1_0, .string a1_1, .bool a1_2, .string a1_3, .slice A1_4 l1_4.length c1_4, .int .i64 a1_5, .int .i64 a1_6, .int .i64 a1_7, .int .i64 a1_8] 32 (0, 0)) (by (with_reducible repeat (first | refine blk_drewN ?_ _ | refine blk_drew ?_ | refine blk_alloc ?_ _)); refine blk_far9 ?_ NB261_281.out; (with_reducible repeat (first | refine blk_drewN ?_ _ | refine blk_drew ?_ | refine blk_alloc ?_ _)); exact BK261.out) hb); have n3_ := Aside0.mk (blk_below (g := gb262) (o := .cells #[.slice none 0 0] 36 (0, 0)) (by (with_reducible repeat (first | refine blk_drewN ?_ _ | refine blk_drew ?_ | refine blk_alloc ?_ _)); refine blk_far9 ?_ NB262_281.out; (with_reducible repeat (first | refine blk_drewN ?_ _ | refine blk_drew ?_ | refine blk_alloc ?_ _)); exact BK262.out) hb); have n4_ := Aside0.mk (blk_below (g := gb281) (o := .cells #[.int .i64 ((rd_T32 l0_0 x7_1).f0.f0), .string ((rd_T32 l0_0 x7_1).f0.f1), .bool ((rd_T32 l0_0 x7_1).f1), .string ((rd_T32 l0_0 x7_1).f2), .slice A280_4 ((rd_T32 l0_0 x7_1).f3).length c280_4, .int .i64 ((rd_T32 l0_0 x7_1).f4), .int .i64 ((rd_T32 l0_0 x7_1).f5), .int .i64 ((rd_T32 l0_0 x7_1).f6), .int .i64 ((rd_T32 l0_0 x7_1).f7)] 32 (0, 0)) (by (with_reducible repeat (first | refine blk_drewN ?_ _ | refine blk_drew ?_ | refine blk_alloc ?_ _)); apply blk_stores9; (with_reducible repeat (first | refine blk_drewN ?_ _ | refine blk_drew ?_ | refine blk_alloc ?_ _)); exact BK281.out) hb); have n5_ := Aside0.mk (below_step (by repeat (first | (with_reducible first | exact HB.out | apply below_alloc | apply pw_below_drewN | apply below_drew1 | refine below_set ?_ GE260.out | refine below_set ?_ GE261.out | refine below_set ?_ GE262.out | refine below_set ?_ GE281.out) | exact HB.out)) hb); clear HO_5; clear BK260; clear BK261; clear BK262; clear BK281; clear HB; have HO_5 := n0_; have BK260 := n1_; have BK261 := n2_; have BK262 := n3_; have BK281 := n4_; have HB := n5_; clear n0_ n1_ n2_ n3_ n4_ n5_; (try clear hb); (try clear hb2); (try clear hk); (try clear hi)))
      go_meet
      case rel => exact ⟨_, (!t282), (by first | rfl | (simp; done) | (simp [*]; done)), H', ⟨by have := HK1.out; first | omega | exact Nat.le_refl _⟩, ⟨by (with_reducible repeat (first | apply Kd.S_alloc | apply Kd.S_drewN | apply Kd.S_drew)); exact HO_5.out⟩, ⟨by (with_reducible repeat (first | refine blk_drewN ?_ _ | refine blk_drew ?_ | refine blk_alloc ?_ _)); exact BK260.out⟩, ⟨by (with_reducible repeat (first | refine blk_drewN ?_ _ | refine blk_drew ?_ | refine blk_alloc ?_ _)); exact BK261.out⟩, ⟨by (with_reducible repeat (first | refine blk_drewN ?_ _ | refine blk_drew ?_ | refine blk_alloc ?_ _)); exact BK262.out⟩, ⟨by (with_reducible repeat (first | refine blk_drewN ?_ _ | refine blk_drew ?_ | refine blk_alloc ?_ _)); exact BK281.out⟩, ⟨by repeat (first | (with_reducible first | exact HB.out | apply below_alloc | apply pw_below_drewN | apply below_drew1 | refine below_set ?_ GE260.out | refine below_set ?_ GE261.out | refine below_set ?_ GE262.out | refine below_set ?_ GE281.out) | exact HB.out)⟩⟩
     case rest =>
      clear HC10
      try clear c1
      try clear c2
      try clear p2
      try clear q2
      try clear hx2
      try clear c8
      try clear c8b0
      try clear c9
      try clear c9b0
      try clear c11
      try clear c12
      try clear c15
      try clear c16
      try clear c17
      try clear c19
      try clear c21
      try clear c22
      try clear c23
      try clear c25
      try clear c26
      try clear c28
      try clear p28
      try clear q28
      try clear hx28
      try clear hcz13_0
      try clear hcz18_0
      try clear hcz18_1
      try clear hcz18_2
      try clear hcz18_3
      try clear hcz18_4
      try clear hcz18_5
      try clear hcz18_6
      try clear hcz18_7
      try clear hcz18_8
      try clear hcz24_0
      try clear hcz24_1
      try clear hcz24_2
      try clear hcz24_3
      try clear hcz24_4
      try clear hcz24_5
      try clear hcz24_6
      try clear hcz24_7
      try clear hcz24_8
      try clear hcz27_0
      try clear hcz27_1
      try clear hcz27_2
      try clear hcz27_3
      try clear hcz27_4
      try clear hcz27_5
      try clear hcz27_6
      try clear hcz27_7
      try clear hcz27_8
      try clear hfz13_0
      try clear hfz18_0
      try clear hfz18_1
      try clear hfz18_2
      try clear hfz18_3
      try clear hfz18_4
      try clear hfz18_5
      try clear hfz18_6
      try clear hfz18_7
      try clear hfz18_8
      try clear hfz24_0
      try clear hfz24_1
      try clear hfz24_2
      try clear hfz24_3
      try clear hfz24_4
      try clear hfz24_5
      try clear hfz24_6
      try clear hfz24_7
      try clear hfz24_8
      try clear hfz27_0
      try clear hfz27_1
      try clear hfz27_2
      try clear hfz27_3
      try clear hfz27_4
      try clear hfz27_5
      try clear hfz27_6
      try clear hfz27_7
      try clear hfz27_8
      try clear hx280_0
      try clear hx280_1
      try clear hx280_2
      try clear hx280_3
      try clear hx280_4
      try clear hx280_5
      try clear hx280_6
      try clear hx280_7
      try clear hx280_8
      try clear p2
      try clear p280
      try clear q280
      obtain ⟨kq, x31_9, rfl, HA, HJ9, HO_5, BK260, BK261, BK262, BK281, HB⟩ := hcut
      cases kq with
      | zero => exact absurd HA.out (by simp [spec_l4Put.j1])
      | succ kj9 =>
       have H := HA.out
       clear HA
       simp only [spec_l4Put.j1] at H
       have HC29 := Aside0.mk H
       clear H
       go_upto_if 31 with (fail)
       go_cut [5, 6] (fun v5 v6 wc => ∃ (kq : Nat) (x5_28 : List (S32)) (x6_28 : Bool), v6 = .bool x6_28 ∧ Aside0 (spec_l4Put.j2 kq x5_28 x6_28 x7_1 l0_0 a1_0 a1_1 a1_2 a1_3 l1_4 a1_5 a1_6 a1_7 a1_8 ((rd_T32 l0_0 x7_1).f0.f0) ((rd_T32 l0_0 x7_1).f0.f1) ((rd_T32 l0_0 x7_1).f1) ((rd_T32 l0_0 x7_1).f2) ((rd_T32 l0_0 x7_1).f3) ((rd_T32 l0_0 x7_1).f4) ((rd_T32 l0_0 x7_1).f5) ((rd_T32 l0_0 x7_1).f6) ((rd_T32 l0_0 x7_1).f7) = some r) ∧ Aside0 (kq ≤ kj9) ∧ Aside0 (Kd.S k32 32 wc w.heap.size (fun k_ => k_ ≠ gb261 ∧ k_ ≠ gb281) v5 x5_28) ∧ Aside0 (wc.heap[gb260]? = some (.cells #[(.slice (some ad280) l0_0.length c0_0)] 36 (0, 0))) ∧ Aside0 (wc.heap[gb261]? = some (.cells #[.int .i64 a1_0, .string a1_1, .bool a1_2, .string a1_3, (.slice A1_4 l1_4.length c1_4), .int .i64 a1_5, .int .i64 a1_6, .int .i64 a1_7, .int .i64 a1_8] 32 (0, 0))) ∧ Aside0 (wc.heap[gb262]? = some (.cells #[(.slice none 0 0)] 36 (0, 0))) ∧ Aside0 (wc.heap[gb281]? = some (.cells #[.int .i64 ((rd_T32 l0_0 x7_1).f0.f0), .string ((rd_T32 l0_0 x7_1).f0.f1), .bool ((rd_T32 l0_0 x7_1).f1), .string ((rd_T32 l0_0 x7_1).f2), (.slice A280_4 ((rd_T32 l0_0 x7_1).f3).length c280_4), .int .i64 ((rd_T32 l0_0 x7_1).f4), .int .i64 ((rd_T32 l0_0 x7_1).f5), .int .i64 ((rd_T32 l0_0 x7_1).f6), .int .i64 ((rd_T32 l0_0 x7_1).f7)] 32 (0, 0))) ∧ Aside0 (Below w.heap.size w wc))
       case first =>
        have H := HC29.out
        clear HC29
        by_cases c30 : x31_9 = true
        ·
         subst c30
         have H1 : ((spec_l4CopySlot.f kj9 a1_0 a1_1 a1_2 a1_3 l1_4 a1_5 a1_6 a1_7 a1_8).bind fun bt283 => (if x5_1.length < 1353245080339 then (spec_l4Put.j2 kj9 (x5_1 ++ [(⟨(⟨bt283.1, bt283.2.1⟩ : S29), bt283.2.2.1, bt283.2.2.2.1, bt283.2.2.2.2.1, bt283.2.2.2.2.2.1, bt283.2.2.2.2.2.2.1, bt283.2.2.2.2.2.2.2.1, bt283.2.2.2.2.2.2.2.2⟩ : S32)]) true x7_1 l0_0 a1_0 a1_1 a1_2 a1_3 l1_4 a1_5 a1_6 a1_7 a1_8 ((rd_T32 l0_0 x7_1).f0.f0) ((rd_T32 l0_0 x7_1).f0.f1) ((rd_T32 l0_0 x7_1).f1) ((rd_T32 l0_0 x7_1).f2) ((rd_T32 l0_0 x7_1).f3) ((rd_T32 l0_0 x7_1).f4) ((rd_T32 l0_0 x7_1).f5) ((rd_T32 l0_0 x7_1).f6) ((rd_T32 l0_0 x7_1).f7)) else (none))) = some r := by rw [if_pos rfl] at H; exact H
         clear H
         have H := H1
         clear H1
         replace H := Option.bind_eq_some_iff.mp H
         obtain ⟨⟨t283, t284, t285, t286, t287, t290, t291, t292, t293⟩, A310, H⟩ := H
         replace H : (if x5_1.length < 1353245080339 then (spec_l4Put.j2 kj9 (x5_1 ++ [(⟨(⟨t283, t284⟩ : S29), t285, t286, t287, t290, t291, t292, t293⟩ : S32)]) true x7_1 l0_0 a1_0 a1_1 a1_2 a1_3 l1_4 a1_5 a1_6 a1_7 a1_8 ((rd_T32 l0_0 x7_1).f0.f0) ((rd_T32 l0_0 x7_1).f0.f1) ((rd_T32 l0_0 x7_1).f1) ((rd_T32 l0_0 x7_1).f2) ((rd_T32 l0_0 x7_1).f3) ((rd_T32 l0_0 x7_1).f4) ((rd_T32 l0_0 x7_1).f5) ((rd_T32 l0_0 x7_1).f6) ((rd_T32 l0_0 x7_1).f7)) else (none)) = some r := H
         have A31 := Aside0.mk A310
         clear A310
         by_cases c32 : x5_1.length < 1353245080339
         ·
          rw [if_pos c32] at H
          have LMc32 := Aside0.mk c32
          clear c32
          obtain ⟨y294, hy294⟩ : ∃ y_ : List (S32), y_ = (x5_1 ++ [(⟨(⟨t283, t284⟩ : S29), t285, t286, t287, t290, t291, t292, t293⟩ : S32)]) := ⟨_, rfl⟩
          replace H : (spec_l4Put.j2 kj9 y294 true x7_1 l0_0 a1_0 a1_1 a1_2 a1_3 l1_4 a1_5 a1_6 a1_7 a1_8 ((rd_T32 l0_0 x7_1).f0.f0) ((rd_T32 l0_0 x7_1).f0.f1) ((rd_T32 l0_0 x7_1).f1) ((rd_T32 l0_0 x7_1).f2) ((rd_T32 l0_0 x7_1).f3) ((rd_T32 l0_0 x7_1).f4) ((rd_T32 l0_0 x7_1).f5) ((rd_T32 l0_0 x7_1).f6) ((rd_T32 l0_0 x7_1).f7)) = some r := by first | (rw [hy294]; with_reducible exact H) | (have H2_ := (Option.bind_some _ _).symm.trans H; rw [hy294]; with_reducible exact H2_) | (have H2_ := (Option.bind_some _ _).symm.trans H; with_reducible exact H2_) | with_reducible exact H | (rw [hy294]; exact H) | exact H
          have Ny294 := Aside0.mk hy294
          clear hy294
          have H' := Aside0.mk H
          clear H
          have hnb33 := NB261_260.out
          have hnc33 := NB260_261.out
          have hnb34 := NB261_262.out
          have hnc34 := NB262_261.out
          have hnb35 := NB261_281.out
          have hnc35 := NB281_261.out
          obtain ⟨hcz36_0, hcz36_1, hcz36_2, hcz36_3, hcz36_4, hcz36_5, hcz36_6, hcz36_7, hcz36_8, hfz36_0, hfz36_1, hfz36_2, hfz36_3, hfz36_4, hfz36_5, hfz36_6, hfz36_7, hfz36_8⟩ := bkA9 BK261.out
          go_wp2_with (first | ((with_reducible refine gate_callee (f := 75) rfl ?_); refine goesL_ (some 34) rfl rfl Tryd.func75 (by kernel_rfl) rfl #[.agg #[.int .i64 a1_0, .string a1_1, .bool a1_2, .string a1_3, .slice A1_4 l1_4.length c1_4, .int .i64 a1_5, .int .i64 a1_6, .int .i64 a1_7, .int .i64 a1_8]] rfl (by (try simp only [List.map_toArray, List.map_cons, List.map_nil]); first | done | rfl | (simp only [List.length_drop, List.length_take]; rfl)) ?_; (with_reducible refine (spec_l4CopySlot.calls kj9 a1_0 a1_1 a1_2 a1_3 _ _ l1_4 a1_5 a1_6 a1_7 a1_8 t283 t284 t285 t286 t287 t290 t291 t292 t293 _ ?side1 ?side2 A31.out).mono ?_); (case side1 => repeat (first | exact (Kd.C_below HR1_4.out HB.out) | (with_reducible refine Kd.C_alloc ?_ _) | (with_reducible refine Kd.C_drewN ?_ _) | (with_reducible refine Kd.C_drew ?_))); (case side2 => exact HC1_4.out); rintro e w37 ⟨v288, rfl, ho0, hb⟩; refine ⟨_, rfl, ?_⟩; have hb1_ := fromQ HB.out hb; have hb0_ := below_step hb1_ hb; have hW_ := below_step HB.out hb1_; have n0_ := Aside0.mk (Kd.S_elder' (Kd.S_below HO_5.out hb1_) (Kd.R_base ho0) hb); have n1_ := Aside0.mk (Kd.R_lower ho0 (below_size hW_)); replace BK260 := kB BK260 hb0_; replace BK261 := kB BK261 hb0_; replace BK262 := kB BK262 hb0_; replace BK281 := kB BK281 hb0_; replace HB := kH HB hb0_; clear HO_5; have HO_5 := n0_; have HO289 := n1_; clear hb1_ hb0_ hW_ n0_ n1_; (try clear hb); (try clear hb2); (try clear hk); (try clear hi); (try clear ho0); obtain ⟨Ao39, co39, eo39⟩ := Kd.R_slice HO289.out; subst eo39) | ((with_reducible refine gate_builtin (b := .append) (xs := #[.tmp 32, .tmp 35]) rfl ?_); at_builtin; refine Kd.S_append k32 (w0 := w) w.heap.size rfl (.tmp 32) (.tmp 35) 34 32 (.agg #[(.int .i64 0), (.string ⟨#[]⟩), (.bool false), (.string ⟨#[]⟩), (.slice none 0 0), (.int .i64 0), (.int .i64 0), (.int .i64 0), (.int .i64 0)]) 104 rfl Tryd.underlying34 info32 rfl (by decide) (by omega) u5 x5_1 (⟨(⟨t283, t284⟩ : S29), t285, t286, t287, t290, t291, t292, t293⟩ : S32) [.int .i64 t283, .string t284, .bool t285, .string t286, .slice Ao39 t287.length co39, .int .i64 t290, .int .i64 t291, .int .i64 t292, .int .i64 t293] (fun k_ => k_ ≠ gb261 ∧ k_ ≠ gb281) (fun k_ => some k_ = (.slice Ao39 t287.length co39 : Value).ownBlock) rfl rfl ?aP (fun k_ hk_ => ((Kd.R_mono (ok' := fun k_ => ((fun k_ => k_ ≠ gb261 ∧ k_ ≠ gb281)) k_ ∧ some k_ ≠ (u5 : Value).ownBlock) (Kd.R_types (Kd.R_types (Kd.R_apart' (HO289.out) (Kd.S_typed HO_5.out) (by decide)) BK261.out (by decide)) BK281.out (by decide)) (fun k_ hk => ⟨⟨hk.1.2, hk.2⟩, hk.1.1.2⟩))).1 k_ hk_.symm) ?aF ?aO ?aB ?aS ?aL ?_; (case aP => exact k32_mkM _ _ _ (⟨(⟨t283, t284⟩ : S29), t285, t286, t287, t290, t291, t292, t293⟩ : S32) (Kd.R_mono (Kd.R_tight rfl (Kd.R_mono (ok' := fun k_ => ((fun k_ => k_ ≠ gb261 ∧ k_ ≠ gb281)) k_ ∧ some k_ ≠ (u5 : Value).ownBlock) (Kd.R_types (Kd.R_types (Kd.R_apart' (HO289.out) (Kd.S_typed HO_5.out) (by decide)) BK261.out (by decide)) BK281.out (by decide)) (fun k_ hk => ⟨⟨hk.1.2, hk.2⟩, hk.1.1.2⟩))) (fun _ h_ => h_))); (case aB => exact (by repeat (first | (with_reducible first | exact HB.out | apply below_alloc | apply pw_below_drewN | apply below_drew1 | refine below_set ?_ GE260.out | refine below_set ?_ GE261.out | refine below_set ?_ GE262.out | refine below_set ?_ GE281.out) | exact HB.out))); (case aF => exact (fun k_ hk => ⟨Kd.freshB (g := gb261) (o := .cells #[.int .i64 a1_0, .string a1_1, .bool a1_2, .string a1_3, .slice A1_4 l1_4.length c1_4, .int .i64 a1_5, .int .i64 a1_6, .int .i64 a1_7, .int .i64 a1_8] 32 (0, 0)) (by (with_reducible repeat (first | refine blk_drewN ?_ _ | refine blk_drew ?_ | refine blk_alloc ?_ _)); exact BK261.out) k_ hk, Kd.freshB (g := gb281) (o := .cells #[.int .i64 ((rd_T32 l0_0 x7_1).f0.f0), .string ((rd_T32 l0_0 x7_1).f0.f1), .bool ((rd_T32 l0_0 x7_1).f1), .string ((rd_T32 l0_0 x7_1).f2), .slice A280_4 ((rd_T32 l0_0 x7_1).f3).length c280_4, .int .i64 ((rd_T32 l0_0 x7_1).f4), .int .i64 ((rd_T32 l0_0 x7_1).f5), .int .i64 ((rd_T32 l0_0 x7_1).f6), .int .i64 ((rd_T32 l0_0 x7_1).f7)] 32 (0, 0)) (by (with_reducible repeat (first | refine blk_drewN ?_ _ | refine blk_drew ?_ | refine blk_alloc ?_ _)); exact BK281.out) k_ hk⟩)); (case aO => exact (by (with_reducible repeat (first | apply Kd.S_alloc | apply Kd.S_drewN | apply Kd.S_drew)); exact Kd.S_mono HO_5.out (fun k_ hk => ⟨⟨hk.1.1, hk.1.2⟩, fun e_ => hk.2 e_⟩))); (case aS => exact (below_size (by repeat (first | (with_reducible first | exact HB.out | apply below_alloc | apply pw_below_drewN | apply below_drew1 | refine below_set ?_ GE260.out | refine below_set ?_ GE261.out | refine below_set ?_ GE262.out | refine below_set ?_ GE281.out) | exact HB.out)))); (case aL => have := LMc32.out; omega); intro v295 w38 ho hb hg hat; rw [← Ny294.out] at ho; have n0_ := Aside0.mk (blk_grown (g := gb260) (o := .cells #[.slice (some ad280) l0_0.length c0_0] 36 (0, 0)) (by (with_reducible repeat (first | refine blk_drewN ?_ _ | refine blk_drew ?_ | refine blk_alloc ?_ _)); exact BK260.out) hg (Kd.S_ne HO_5.out BK260.out (by decide))); have n1_ := Aside0.mk (blk_grown (g := gb261) (o := .cells #[.int .i64 a1_0, .string a1_1, .bool a1_2, .string a1_3, .slice A1_4 l1_4.length c1_4, .int .i64 a1_5, .int .i64 a1_6, .int .i64 a1_7, .int .i64 a1_8] 32 (0, 0)) (by (with_reducible repeat (first | refine blk_drewN ?_ _ | refine blk_drew ?_ | refine blk_alloc ?_ _)); exact BK261.out) hg (Kd.S_away HO_5.out (fun _ hk => hk.1.1))); have n2_ := Aside0.mk (blk_grown (g := gb262) (o := .cells #[.slice none 0 0] 36 (0, 0)) (by (with_reducible repeat (first | refine blk_drewN ?_ _ | refine blk_drew ?_ | refine blk_alloc ?_ _)); exact BK262.out) hg (Kd.S_ne HO_5.out BK262.out (by decide))); have n3_ := Aside0.mk (blk_grown (g := gb281) (o := .cells #[.int .i64 ((rd_T32 l0_0 x7_1).f0.f0), .string ((rd_T32 l0_0 x7_1).f0.f1), .bool ((rd_T32 l0_0 x7_1).f1), .string ((rd_T32 l0_0 x7_1).f2), .slice A280_4 ((rd_T32 l0_0 x7_1).f3).length c280_4, .int .i64 ((rd_T32 l0_0 x7_1).f4), .int .i64 ((rd_T32 l0_0 x7_1).f5), .int .i64 ((rd_T32 l0_0 x7_1).f6), .int .i64 ((rd_T32 l0_0 x7_1).f7)] 32 (0, 0)) (by (with_reducible repeat (first | refine blk_drewN ?_ _ | refine blk_drew ?_ | refine blk_alloc ?_ _)); exact BK281.out) hg (Kd.S_away HO_5.out (fun _ hk => hk.1.2))); have n4_ := Aside0.mk (hb); have n5_ := Aside0.mk (ho); clear BK260; clear BK261; clear BK262; clear BK281; clear HB; clear HO_5; clear HO289; have BK260 := n0_; have BK261 := n1_; have BK262 := n2_; have BK281 := n3_; have HB := n4_; have HO296 := n5_; clear n0_ n1_ n2_ n3_ n4_ n5_; clear ho hb hg hat))
          go_meet
          case rel => exact ⟨_, (y294), (true), (by first | rfl | (simp; done) | (simp [*]; done)), H', ⟨by have := HK1.out; have := HJ9.out; first | omega | exact Nat.le_refl _⟩, ⟨by (with_reducible repeat (first | apply Kd.S_alloc | apply Kd.S_drewN | apply Kd.S_drew)); exact HO296.out⟩, ⟨by (with_reducible repeat (first | refine blk_drewN ?_ _ | refine blk_drew ?_ | refine blk_alloc ?_ _)); exact BK260.out⟩, ⟨by (with_reducible repeat (first | refine blk_drewN ?_ _ | refine blk_drew ?_ | refine blk_alloc ?_ _)); exact BK261.out⟩, ⟨by (with_reducible repeat (first | refine blk_drewN ?_ _ | refine blk_drew ?_ | refine blk_alloc ?_ _)); exact BK262.out⟩, ⟨by (with_reducible repeat (first | refine blk_drewN ?_ _ | refine blk_drew ?_ | refine blk_alloc ?_ _)); exact BK281.out⟩, ⟨by repeat (first | (with_reducible first | exact HB.out | apply below_alloc | apply pw_below_drewN | apply below_drew1 | refine below_set ?_ GE260.out | refine below_set ?_ GE261.out | refine below_set ?_ GE262.out | refine below_set ?_ GE281.out) | exact HB.out)⟩⟩
         rw [if_neg c32] at H
         exact absurd H (by simp)
        replace c30 := Bool.eq_false_iff.mpr c30
        subst c30
        have H1 : (spec_l4Put.j2 kj9 x5_1 x6_1 x7_1 l0_0 a1_0 a1_1 a1_2 a1_3 l1_4 a1_5 a1_6 a1_7 a1_8 ((rd_T32 l0_0 x7_1).f0.f0) ((rd_T32 l0_0 x7_1).f0.f1) ((rd_T32 l0_0 x7_1).f1) ((rd_T32 l0_0 x7_1).f2) ((rd_T32 l0_0 x7_1).f3) ((rd_T32 l0_0 x7_1).f4) ((rd_T32 l0_0 x7_1).f5) ((rd_T32 l0_0 x7_1).f6) ((rd_T32 l0_0 x7_1).f7)) = some r := by rw [if_neg (show ¬ (false = true) by decide)] at H; exact H
        clear H
        have H := H1
        clear H1
        have H' := Aside0.mk H
        clear H
        go_wp2
        go_meet
        case rel => exact ⟨_, (x5_1), (x6_1), (by first | rfl | (simp; done) | (simp [*]; done)), H', ⟨by have := HK1.out; have := HJ9.out; first | omega | exact Nat.le_refl _⟩, ⟨by (with_reducible repeat (first | apply Kd.S_alloc | apply Kd.S_drewN | apply Kd.S_drew)); exact HO_5.out⟩, ⟨by (with_reducible repeat (first | refine blk_drewN ?_ _ | refine blk_drew ?_ | refine blk_alloc ?_ _)); exact BK260.out⟩, ⟨by (with_reducible repeat (first | refine blk_drewN ?_ _ | refine blk_drew ?_ | refine blk_alloc ?_ _)); exact BK261.out⟩, ⟨by (with_reducible repeat (first | refine blk_drewN ?_ _ | refine blk_drew ?_ | refine blk_alloc ?_ _)); exact BK262.out⟩, ⟨by (with_reducible repeat (first | refine blk_drewN ?_ _ | refine blk_drew ?_ | refine blk_alloc ?_ _)); exact BK281.out⟩, ⟨by repeat (first | (with_reducible first | exact HB.out | apply below_alloc | apply pw_below_drewN | apply below_drew1 | refine below_set ?_ GE260.out | refine below_set ?_ GE261.out | refine below_set ?_ GE262.out | refine below_set ?_ GE281.out) | exact HB.out)⟩⟩
       case rest =>
        clear HC29
        try clear c1
        try clear c2
        try clear p2
        try clear q2
        try clear hx2
        try clear c3
        try clear c7
        try clear c8
        try clear c8b0
        try clear c9
        try clear c9b0
        try clear c11
        try clear c12
        try clear c15
        try clear c16
        try clear c17
        try clear c19
        try clear c21
        try clear c22
        try clear c23
        try clear c25
        try clear c26
        try clear c28
        try clear p28
        try clear q28
        try clear hx28
        try clear c30
        try clear c32
        try clear c33
        try clear c34
        try clear c35
        try clear hcz13_0
        try clear hcz18_0
        try clear hcz18_1
        try clear hcz18_2
        try clear hcz18_3
        try clear hcz18_4
        try clear hcz18_5
        try clear hcz18_6
        try clear hcz18_7
        try clear hcz18_8
        try clear hcz24_0
        try clear hcz24_1
        try clear hcz24_2
        try clear hcz24_3
        try clear hcz24_4
        try clear hcz24_5
        try clear hcz24_6
        try clear hcz24_7
        try clear hcz24_8
        try clear hcz27_0
        try clear hcz27_1
        try clear hcz27_2
        try clear hcz27_3
        try clear hcz27_4
        try clear hcz27_5
        try clear hcz27_6
        try clear hcz27_7
        try clear hcz27_8
        try clear hcz36_0
        try clear hcz36_1
        try clear hcz36_2
        try clear hcz36_3
        try clear hcz36_4
        try clear hcz36_5
        try clear hcz36_6
        try clear hcz36_7
        try clear hcz36_8
        try clear hfz13_0
        try clear hfz18_0
        try clear hfz18_1
        try clear hfz18_2
        try clear hfz18_3
        try clear hfz18_4
        try clear hfz18_5
        try clear hfz18_6
        try clear hfz18_7
        try clear hfz18_8
        try clear hfz24_0
        try clear hfz24_1
        try clear hfz24_2
        try clear hfz24_3
        try clear hfz24_4
        try clear hfz24_5
        try clear hfz24_6
        try clear hfz24_7
        try clear hfz24_8
        try clear hfz27_0
        try clear hfz27_1
        try clear hfz27_2
        try clear hfz27_3
        try clear hfz27_4
        try clear hfz27_5
        try clear hfz27_6
        try clear hfz27_7
        try clear hfz27_8
        try clear hfz36_0
        try clear hfz36_1
        try clear hfz36_2
        try clear hfz36_3
        try clear hfz36_4
        try clear hfz36_5
        try clear hfz36_6
        try clear hfz36_7
        try clear hfz36_8
        try clear hx280_0
        try clear hx280_1
        try clear hx280_2
        try clear hx280_3
        try clear hx280_4
        try clear hx280_5
        try clear hx280_6
        try clear hx280_7
        try clear hx280_8
        try clear p2
        try clear p28
        try clear p280
        try clear q2
        try clear q28
        try clear q280
        obtain ⟨kq, x5_28, x6_28, rfl, HA, HJ28, HO_5, BK260, BK261, BK262, BK281, HB⟩ := hcut
        cases kq with
        | zero => exact absurd HA.out (by simp [spec_l4Put.j2])
        | succ kj28 =>
         have H := HA.out
         clear HA
         simp only [spec_l4Put.j2] at H
         replace H := Option.bind_eq_some_iff.mp H
         obtain ⟨t297, A400, H⟩ := H
         replace H : (if t297 = true then (spec_l4Put.l0 kj28 x5_28 x6_28 (wrap64 (x7_1 + 1)) l0_0 a1_0 a1_1 a1_2 a1_3 l1_4 a1_5 a1_6 a1_7 a1_8) else ((spec_l4CopySlot.f kj28 ((rd_T32 l0_0 x7_1).f0.f0) ((rd_T32 l0_0 x7_1).f0.f1) ((rd_T32 l0_0 x7_1).f1) ((rd_T32 l0_0 x7_1).f2) ((rd_T32 l0_0 x7_1).f3) ((rd_T32 l0_0 x7_1).f4) ((rd_T32 l0_0 x7_1).f5) ((rd_T32 l0_0 x7_1).f6) ((rd_T32 l0_0 x7_1).f7)).bind fun bt298 => (if x5_28.length < 1353245080339 then (spec_l4Put.l0 kj28 (x5_28 ++ [(⟨(⟨bt298.1, bt298.2.1⟩ : S29), bt298.2.2.1, bt298.2.2.2.1, bt298.2.2.2.2.1, bt298.2.2.2.2.2.1, bt298.2.2.2.2.2.2.1, bt298.2.2.2.2.2.2.2.1, bt298.2.2.2.2.2.2.2.2⟩ : S32)]) x6_28 (wrap64 (x7_1 + 1)) l0_0 a1_0 a1_1 a1_2 a1_3 l1_4 a1_5 a1_6 a1_7 a1_8) else (none)))) = some r := H
         have A40 := Aside0.mk A400
         clear A400
         have HL41 := Aside0.mk H
         clear H
         have hnb42 := NB281_260.out
         have hnc42 := NB260_281.out
         have hnb43 := NB281_261.out
         have hnc43 := NB261_281.out
         have hnb44 := NB281_262.out
         have hnc44 := NB262_281.out
         obtain ⟨hcz45_0, hcz45_1, hcz45_2, hcz45_3, hcz45_4, hcz45_5, hcz45_6, hcz45_7, hcz45_8, hfz45_0, hfz45_1, hfz45_2, hfz45_3, hfz45_4, hfz45_5, hfz45_6, hfz45_7, hfz45_8⟩ := bkA9 BK281.out
         have hnb46 := NB261_260.out
         have hnc46 := NB260_261.out
         have hnb47 := NB261_262.out
         have hnc47 := NB262_261.out
         obtain ⟨hcz48_0, hcz48_1, hcz48_2, hcz48_3, hcz48_4, hcz48_5, hcz48_6, hcz48_7, hcz48_8, hfz48_0, hfz48_1, hfz48_2, hfz48_3, hfz48_4, hfz48_5, hfz48_6, hfz48_7, hfz48_8⟩ := bkA9 BK261.out
         go_upto_if 42 with (first | ((with_reducible refine gate_callee (f := 113) rfl ?_); refine goesL_ (some 41) rfl rfl Tryd.func113 (by kernel_rfl) rfl #[.agg #[.int .i64 ((rd_T32 l0_0 x7_1).f0.f0), .string ((rd_T32 l0_0 x7_1).f0.f1)], .agg #[.int .i64 a1_0, .string a1_1]] rfl (by (try simp only [List.map_toArray, List.map_cons, List.map_nil]); first | done | rfl | (simp only [List.length_drop, List.length_take]; rfl)) ?_; (with_reducible refine (spec_l4SameKey.calls ((rd_T32 l0_0 x7_1).f0.f0) ((rd_T32 l0_0 x7_1).f0.f1) a1_0 a1_1 t297 _ A40.out).mono ?_); rintro e w49 ⟨rfl, hb⟩; refine ⟨_, rfl, ?_⟩; have hb1_ := fromQ HB.out hb; have hb0_ := below_step hb1_ hb; replace HO_5 := kS HO_5 hb0_; replace BK260 := kB BK260 hb0_; replace BK261 := kB BK261 hb0_; replace BK262 := kB BK262 hb0_; replace BK281 := kB BK281 hb0_; replace HB := kH HB hb0_; clear hb1_ hb0_; (try clear hb); (try clear hb2); (try clear hk); (try clear hi)))
         have H := HL41.out
         clear HL41
         by_cases c50 : t297 = true
         · subst c50
           have H1 : (spec_l4Put.l0 kj28 x5_28 x6_28 (wrap64 (x7_1 + 1)) l0_0 a1_0 a1_1 a1_2 a1_3 l1_4 a1_5 a1_6 a1_7 a1_8) = some r := by rw [if_pos rfl] at H; exact H
           clear H
           have H := H1
           clear H1
           have H' := Aside0.mk H
           clear H
           go_wp2
           go_roundg kj28
           case measure => have := HK1.out; have := HJ9.out; have := HJ28.out; omega
           case rel => exact ⟨(x5_28), (x6_28), (wrap64 (x7_1 + 1)), (by first | rfl | (simp; done) | (simp [*]; done)), (by first | rfl | (simp; done) | (simp [*]; done)), H', ⟨by have := HK1.out; have := HJ9.out; have := HJ28.out; omega⟩, ⟨by (with_reducible repeat (first | apply Kd.S_alloc | apply Kd.S_drewN | apply Kd.S_drew)); exact Kd.S_mono HO_5.out (fun _ hk => hk.1)⟩, ⟨by (with_reducible repeat (first | refine blk_drewN ?_ _ | refine blk_drew ?_ | refine blk_alloc ?_ _)); exact BK260.out⟩, ⟨by (with_reducible repeat (first | refine blk_drewN ?_ _ | refine blk_drew ?_ | refine blk_alloc ?_ _)); exact BK261.out⟩, ⟨by (with_reducible repeat (first | refine blk_drewN ?_ _ | refine blk_drew ?_ | refine blk_alloc ?_ _)); exact BK262.out⟩, ⟨by repeat (first | (with_reducible first | exact HB.out | apply below_alloc | apply pw_below_drewN | apply below_drew1 | refine below_set ?_ GE260.out | refine below_set ?_ GE261.out | refine below_set ?_ GE262.out | refine below_set ?_ GE281.out) | exact HB.out)⟩⟩
         replace c50 := Bool.eq_false_iff.mpr c50
         subst c50
         have H1 : ((spec_l4CopySlot.f kj28 ((rd_T32 l0_0 x7_1).f0.f0) ((rd_T32 l0_0 x7_1).f0.f1) ((rd_T32 l0_0 x7_1).f1) ((rd_T32 l0_0 x7_1).f2) ((rd_T32 l0_0 x7_1).f3) ((rd_T32 l0_0 x7_1).f4) ((rd_T32 l0_0 x7_1).f5) ((rd_T32 l0_0 x7_1).f6) ((rd_T32 l0_0 x7_1).f7)).bind fun bt298 => (if x5_28.length < 1353245080339 then (spec_l4Put.l0 kj28 (x5_28 ++ [(⟨(⟨bt298.1, bt298.2.1⟩ : S29), bt298.2.2.1, bt298.2.2.2.1, bt298.2.2.2.2.1, bt298.2.2.2.2.2.1, bt298.2.2.2.2.2.2.1, bt298.2.2.2.2.2.2.2.1, bt298.2.2.2.2.2.2.2.2⟩ : S32)]) x6_28 (wrap64 (x7_1 + 1)) l0_0 a1_0 a1_1 a1_2 a1_3 l1_4 a1_5 a1_6 a1_7 a1_8) else (none))) = some r := by rw [if_neg (show ¬ (false = true) by decide)] at H; exact H
         clear H
         have H := H1
         clear H1
         replace H := Option.bind_eq_some_iff.mp H
         obtain ⟨⟨t298, t299, t300, t301, t302, t305, t306, t307, t308⟩, A510, H⟩ := H
         replace H : (if x5_28.length < 1353245080339 then (spec_l4Put.l0 kj28 (x5_28 ++ [(⟨(⟨t298, t299⟩ : S29), t300, t301, t302, t305, t306, t307, t308⟩ : S32)]) x6_28 (wrap64 (x7_1 + 1)) l0_0 a1_0 a1_1 a1_2 a1_3 l1_4 a1_5 a1_6 a1_7 a1_8) else (none)) = some r := H
         have A51 := Aside0.mk A510
         clear A510
         by_cases c52 : x5_28.length < 1353245080339
         ·
          rw [if_pos c52] at H
          have LMc52 := Aside0.mk c52
          clear c52
          obtain ⟨y309, hy309⟩ : ∃ y_ : List (S32), y_ = (x5_28 ++ [(⟨(⟨t298, t299⟩ : S29), t300, t301, t302, t305, t306, t307, t308⟩ : S32)]) := ⟨_, rfl⟩
          replace H : (spec_l4Put.l0 kj28 y309 x6_28 (wrap64 (x7_1 + 1)) l0_0 a1_0 a1_1 a1_2 a1_3 l1_4 a1_5 a1_6 a1_7 a1_8) = some r := by first | (rw [hy309]; with_reducible exact H) | (have H2_ := (Option.bind_some _ _).symm.trans H; rw [hy309]; with_reducible exact H2_) | (have H2_ := (Option.bind_some _ _).symm.trans H; with_reducible exact H2_) | with_reducible exact H | (rw [hy309]; exact H) | exact H
          have Ny309 := Aside0.mk hy309
          clear hy309
          have H' := Aside0.mk H
          clear H
          have hnb53 := NB281_260.out
          have hnc53 := NB260_281.out
          have hnb54 := NB281_261.out
          have hnc54 := NB261_281.out
          have hnb55 := NB281_262.out
          have hnc55 := NB262_281.out
          obtain ⟨hcz56_0, hcz56_1, hcz56_2, hcz56_3, hcz56_4, hcz56_5, hcz56_6, hcz56_7, hcz56_8, hfz56_0, hfz56_1, hfz56_2, hfz56_3, hfz56_4, hfz56_5, hfz56_6, hfz56_7, hfz56_8⟩ := bkA9 BK281.out
          go_wp2_with (first | ((with_reducible refine gate_callee (f := 75) rfl ?_); refine goesL_ (some 45) rfl rfl Tryd.func75 (by kernel_rfl) rfl #[.agg #[.int .i64 ((rd_T32 l0_0 x7_1).f0.f0), .string ((rd_T32 l0_0 x7_1).f0.f1), .bool ((rd_T32 l0_0 x7_1).f1), .string ((rd_T32 l0_0 x7_1).f2), .slice A280_4 ((rd_T32 l0_0 x7_1).f3).length c280_4, .int .i64 ((rd_T32 l0_0 x7_1).f4), .int .i64 ((rd_T32 l0_0 x7_1).f5), .int .i64 ((rd_T32 l0_0 x7_1).f6), .int .i64 ((rd_T32 l0_0 x7_1).f7)]] rfl (by (try simp only [List.map_toArray, List.map_cons, List.map_nil]); first | done | rfl | (simp only [List.length_drop, List.length_take]; rfl)) ?_; (with_reducible refine (spec_l4CopySlot.calls kj28 ((rd_T32 l0_0 x7_1).f0.f0) ((rd_T32 l0_0 x7_1).f0.f1) ((rd_T32 l0_0 x7_1).f1) ((rd_T32 l0_0 x7_1).f2) _ _ ((rd_T32 l0_0 x7_1).f3) ((rd_T32 l0_0 x7_1).f4) ((rd_T32 l0_0 x7_1).f5) ((rd_T32 l0_0 x7_1).f6) ((rd_T32 l0_0 x7_1).f7) t298 t299 t300 t301 t302 t305 t306 t307 t308 _ ?side1 ?side2 A51.out).mono ?_); (case side1 => repeat (first | exact (Kd.C_below HR280_4.out HB.out) | (with_reducible refine Kd.C_alloc ?_ _) | (with_reducible refine Kd.C_drewN ?_ _) | (with_reducible refine Kd.C_drew ?_))); (case side2 => exact HC280_4.out); rintro e w57 ⟨v303, rfl, ho0, hb⟩; refine ⟨_, rfl, ?_⟩; have hb1_ := fromQ HB.out hb; have hb0_ := below_step hb1_ hb; have hW_ := below_step HB.out hb1_; have n0_ := Aside0.mk (Kd.S_elder' (Kd.S_below HO_5.out hb1_) (Kd.R_base ho0) hb); have n1_ := Aside0.mk (Kd.R_lower ho0 (below_size hW_)); replace BK260 := kB BK260 hb0_; replace BK261 := kB BK261 hb0_; replace BK262 := kB BK262 hb0_; replace BK281 := kB BK281 hb0_; replace HB := kH HB hb0_; clear HO_5; have HO_5 := n0_; have HO304 := n1_; clear hb1_ hb0_ hW_ n0_ n1_; (try clear hb); (try clear hb2); (try clear hk); (try clear hi); (try clear ho0); obtain ⟨Ao59, co59, eo59⟩ := Kd.R_slice HO304.out; subst eo59) | ((with_reducible refine gate_builtin (b := .append) (xs := #[.tmp 43, .tmp 46]) rfl ?_); at_builtin; refine Kd.S_append k32 (w0 := w) w.heap.size rfl (.tmp 43) (.tmp 46) 34 32 (.agg #[(.int .i64 0), (.string ⟨#[]⟩), (.bool false), (.string ⟨#[]⟩), (.slice none 0 0), (.int .i64 0), (.int .i64 0), (.int .i64 0), (.int .i64 0)]) 104 rfl Tryd.underlying34 info32 rfl (by decide) (by omega) u5 x5_28 (⟨(⟨t298, t299⟩ : S29), t300, t301, t302, t305, t306, t307, t308⟩ : S32) [.int .i64 t298, .string t299, .bool t300, .string t301, .slice Ao59 t302.length co59, .int .i64 t305, .int .i64 t306, .int .i64 t307, .int .i64 t308] (fun k_ => k_ ≠ gb261 ∧ k_ ≠ gb281) (fun k_ => some k_ = (.slice Ao59 t302.length co59 : Value).ownBlock) rfl rfl ?aP (fun k_ hk_ => ((Kd.R_mono (ok' := fun k_ => ((fun k_ => k_ ≠ gb261 ∧ k_ ≠ gb281)) k_ ∧ some k_ ≠ (u5 : Value).ownBlock) (Kd.R_types (Kd.R_types (Kd.R_apart' (HO304.out) (Kd.S_typed HO_5.out) (by decide)) BK261.out (by decide)) BK281.out (by decide)) (fun k_ hk => ⟨⟨hk.1.2, hk.2⟩, hk.1.1.2⟩))).1 k_ hk_.symm) ?aF ?aO ?aB ?aS ?aL ?_; (case aP => exact k32_mkM _ _ _ (⟨(⟨t298, t299⟩ : S29), t300, t301, t302, t305, t306, t307, t308⟩ : S32) (Kd.R_mono (Kd.R_tight rfl (Kd.R_mono (ok' := fun k_ => ((fun k_ => k_ ≠ gb261 ∧ k_ ≠ gb281)) k_ ∧ some k_ ≠ (u5 : Value).ownBlock) (Kd.R_types (Kd.R_types (Kd.R_apart' (HO304.out) (Kd.S_typed HO_5.out) (by decide)) BK261.out (by decide)) BK281.out (by decide)) (fun k_ hk => ⟨⟨hk.1.2, hk.2⟩, hk.1.1.2⟩))) (fun _ h_ => h_))); (case aB => exact (by repeat (first | (with_reducible first | exact HB.out | apply below_alloc | apply pw_below_drewN | apply below_drew1 | refine below_set ?_ GE260.out | refine below_set ?_ GE261.out | refine below_set ?_ GE262.out | refine below_set ?_ GE281.out) | exact HB.out))); (case aF => exact (fun k_ hk => ⟨Kd.freshB (g := gb261) (o := .cells #[.int .i64 a1_0, .string a1_1, .bool a1_2, .string a1_3, .slice A1_4 l1_4.length c1_4, .int .i64 a1_5, .int .i64 a1_6, .int .i64 a1_7, .int .i64 a1_8] 32 (0, 0)) (by (with_reducible repeat (first | refine blk_drewN ?_ _ | refine blk_drew ?_ | refine blk_alloc ?_ _)); exact BK261.out) k_ hk, Kd.freshB (g := gb281) (o := .cells #[.int .i64 ((rd_T32 l0_0 x7_1).f0.f0), .string ((rd_T32 l0_0 x7_1).f0.f1), .bool ((rd_T32 l0_0 x7_1).f1), .string ((rd_T32 l0_0 x7_1).f2), .slice A280_4 ((rd_T32 l0_0 x7_1).f3).length c280_4, .int .i64 ((rd_T32 l0_0 x7_1).f4), .int .i64 ((rd_T32 l0_0 x7_1).f5), .int .i64 ((rd_T32 l0_0 x7_1).f6), .int .i64 ((rd_T32 l0_0 x7_1).f7)] 32 (0, 0)) (by (with_reducible repeat (first | refine blk_drewN ?_ _ | refine blk_drew ?_ | refine blk_alloc ?_ _)); exact BK281.out) k_ hk⟩)); (case aO => exact (by (with_reducible repeat (first | apply Kd.S_alloc | apply Kd.S_drewN | apply Kd.S_drew)); exact Kd.S_mono HO_5.out (fun k_ hk => ⟨⟨hk.1.1, hk.1.2⟩, fun e_ => hk.2 e_⟩))); (case aS => exact (below_size (by repeat (first | (with_reducible first | exact HB.out | apply below_alloc | apply pw_below_drewN | apply below_drew1 | refine below_set ?_ GE260.out | refine below_set ?_ GE261.out | refine below_set ?_ GE262.out | refine below_set ?_ GE281.out) | exact HB.out)))); (case aL => have := LMc52.out; omega); intro v310 w58 ho hb hg hat; rw [← Ny309.out] at ho; have n0_ := Aside0.mk (blk_grown (g := gb260) (o := .cells #[.slice (some ad280) l0_0.length c0_0] 36 (0, 0)) (by (with_reducible repeat (first | refine blk_drewN ?_ _ | refine blk_drew ?_ | refine blk_alloc ?_ _)); exact BK260.out) hg (Kd.S_ne HO_5.out BK260.out (by decide))); have n1_ := Aside0.mk (blk_grown (g := gb261) (o := .cells #[.int .i64 a1_0, .string a1_1, .bool a1_2, .string a1_3, .slice A1_4 l1_4.length c1_4, .int .i64 a1_5, .int .i64 a1_6, .int .i64 a1_7, .int .i64 a1_8] 32 (0, 0)) (by (with_reducible repeat (first | refine blk_drewN ?_ _ | refine blk_drew ?_ | refine blk_alloc ?_ _)); exact BK261.out) hg (Kd.S_away HO_5.out (fun _ hk => hk.1.1))); have n2_ := Aside0.mk (blk_grown (g := gb262) (o := .cells #[.slice none 0 0] 36 (0, 0)) (by (with_reducible repeat (first | refine blk_drewN ?_ _ | refine blk_drew ?_ | refine blk_alloc ?_ _)); exact BK262.out) hg (Kd.S_ne HO_5.out BK262.out (by decide))); have n3_ := Aside0.mk (blk_grown (g := gb281) (o := .cells #[.int .i64 ((rd_T32 l0_0 x7_1).f0.f0), .string ((rd_T32 l0_0 x7_1).f0.f1), .bool ((rd_T32 l0_0 x7_1).f1), .string ((rd_T32 l0_0 x7_1).f2), .slice A280_4 ((rd_T32 l0_0 x7_1).f3).length c280_4, .int .i64 ((rd_T32 l0_0 x7_1).f4), .int .i64 ((rd_T32 l0_0 x7_1).f5), .int .i64 ((rd_T32 l0_0 x7_1).f6), .int .i64 ((rd_T32 l0_0 x7_1).f7)] 32 (0, 0)) (by (with_reducible repeat (first | refine blk_drewN ?_ _ | refine blk_drew ?_ | refine blk_alloc ?_ _)); exact BK281.out) hg (Kd.S_away HO_5.out (fun _ hk => hk.1.2))); have n4_ := Aside0.mk (hb); have n5_ := Aside0.mk (ho); clear BK260; clear BK261; clear BK262; clear BK281; clear HB; clear HO_5; clear HO304; have BK260 := n0_; have BK261 := n1_; have BK262 := n2_; have BK281 := n3_; have HB := n4_; have HO311 := n5_; clear n0_ n1_ n2_ n3_ n4_ n5_; clear ho hb hg hat))
          go_roundg kj28
          case measure => have := HK1.out; have := HJ9.out; have := HJ28.out; omega
          case rel => exact ⟨(y309), (x6_28), (wrap64 (x7_1 + 1)), (by first | rfl | (simp; done) | (simp [*]; done)), (by first | rfl | (simp; done) | (simp [*]; done)), H', ⟨by have := HK1.out; have := HJ9.out; have := HJ28.out; omega⟩, ⟨by (with_reducible repeat (first | apply Kd.S_alloc | apply Kd.S_drewN | apply Kd.S_drew)); exact Kd.S_mono HO311.out (fun _ hk => hk.1)⟩, ⟨by (with_reducible repeat (first | refine blk_drewN ?_ _ | refine blk_drew ?_ | refine blk_alloc ?_ _)); exact BK260.out⟩, ⟨by (with_reducible repeat (first | refine blk_drewN ?_ _ | refine blk_drew ?_ | refine blk_alloc ?_ _)); exact BK261.out⟩, ⟨by (with_reducible repeat (first | refine blk_drewN ?_ _ | refine blk_drew ?_ | refine blk_alloc ?_ _)); exact BK262.out⟩, ⟨by repeat (first | (with_reducible first | exact HB.out | apply below_alloc | apply pw_below_drewN | apply below_drew1 | refine below_set ?_ GE260.out | refine below_set ?_ GE261.out | refine below_set ?_ GE262.out | refine below_set ?_ GE281.out) | exact HB.out)⟩⟩
         rw [if_neg c52] at H
         exact absurd H (by simp)
    rw [if_neg c9] at H
    exact absurd H (by simp)
   rw [if_neg c8] at H
   have c8b0 : decide (x7_1 < (l0_0.length : Int)) = false := decide_eq_false c8
   clear c8
   by_cases c60 : x6_1 = true
   ·
    subst c60
    have H1 : (some x5_1) = some r := by rw [if_pos rfl] at H; exact H
    clear H
    have H := H1
    clear H1
    obtain rfl := Option.some.inj H
    have hnb61 := NB260_261.out
    have hnc61 := NB261_260.out
    have hnb62 := NB260_262.out
    have hnc62 := NB262_260.out
    obtain ⟨hcz63_0, hfz63_0⟩ := bkA1 BK260.out
    obtain ⟨Ao64, co64, eo64⟩ := Kd.S_slice HO_5.out
    subst eo64
    have hnb65 := NB262_261.out
    have hnc65 := NB261_262.out
    obtain ⟨hcz66_0, hfz66_0⟩ := bkA1 BK262.out
    go_wp2
    refine bodyPost_ret (results_cell_row rfl _ _ gb262 36 #[.slice Ao64 x5_1.length co64] (0, 0) _ rfl (by (with_reducible repeat (first | refine blk_drewN ?_ _ | refine blk_drew ?_ | refine blk_alloc ?_ _)); refine blk_put (cs := #[.slice none 0 0]) ?_ 0 _ rfl; (with_reducible repeat (first | refine blk_drewN ?_ _ | refine blk_drew ?_ | refine blk_alloc ?_ _)); exact BK262.out) Tryd.underlying36 rfl (by kernel_rfl)) rfl ?_
    exact ⟨_, by first | rfl | (simp [errW_none, errW_some] <;> rfl) | (simp [*, errW_none, errW_some] <;> rfl), by (with_reducible repeat (first | apply Kd.S_alloc | apply Kd.S_drewN | apply Kd.S_drew)); exact Kd.S_mono (Kd.S_far (p := ⟨gb262, 0, none⟩) (Kd.S_types HO_5.out BK262.out (by decide)) (fun _ hk => hk.2) (.slice Ao64 x5_1.length co64)) (fun _ hk => trivial), by repeat (first | (with_reducible first | exact HB.out | apply below_alloc | apply pw_below_drewN | apply below_drew1 | refine below_set ?_ GE260.out | refine below_set ?_ GE261.out | refine below_set ?_ GE262.out) | exact HB.out)⟩
   replace c60 := Bool.eq_false_iff.mpr c60
   subst c60
   have H1 : ((spec_l4CopySlot.f k1 a1_0 a1_1 a1_2 a1_3 l1_4 a1_5 a1_6 a1_7 a1_8).bind fun bt266 => (if x5_1.length < 1353245080339 then (some (x5_1 ++ [(⟨(⟨bt266.1, bt266.2.1⟩ : S29), bt266.2.2.1, bt266.2.2.2.1, bt266.2.2.2.2.1, bt266.2.2.2.2.2.1, bt266.2.2.2.2.2.2.1, bt266.2.2.2.2.2.2.2.1, bt266.2.2.2.2.2.2.2.2⟩ : S32)])) else (none))) = some r := by rw [if_neg (show ¬ (false = true) by decide)] at H; exact H
   clear H
   have H := H1
   clear H1
   replace H := Option.bind_eq_some_iff.mp H
   obtain ⟨⟨t266, t267, t268, t269, t270, t273, t274, t275, t276⟩, A670, H⟩ := H
   replace H : (if x5_1.length < 1353245080339 then (some (x5_1 ++ [(⟨(⟨t266, t267⟩ : S29), t268, t269, t270, t273, t274, t275, t276⟩ : S32)])) else (none)) = some r := H
   have A67 := Aside0.mk A670
   clear A670
   by_cases c68 : x5_1.length < 1353245080339
   ·
    rw [if_pos c68] at H
    have LMc68 := Aside0.mk c68
    clear c68
    obtain ⟨y277, hy277⟩ : ∃ y_ : List (S32), y_ = (x5_1 ++ [(⟨(⟨t266, t267⟩ : S29), t268, t269, t270, t273, t274, t275, t276⟩ : S32)]) := ⟨_, rfl⟩
    replace H : (some y277) = some r := by first | (rw [hy277]; with_reducible exact H) | (have H2_ := (Option.bind_some _ _).symm.trans H; rw [hy277]; with_reducible exact H2_) | (have H2_ := (Option.bind_some _ _).symm.trans H; with_reducible exact H2_) | with_reducible exact H | (rw [hy277]; exact H) | exact H
    have Ny277 := Aside0.mk hy277
    clear hy277
    obtain rfl := Option.some.inj H
    have hnb69 := NB260_261.out
    have hnc69 := NB261_260.out
    have hnb70 := NB260_262.out
    have hnc70 := NB262_260.out
    obtain ⟨hcz71_0, hfz71_0⟩ := bkA1 BK260.out
    have hnb72 := NB261_262.out
    have hnc72 := NB262_261.out
    obtain ⟨hcz73_0, hcz73_1, hcz73_2, hcz73_3, hcz73_4, hcz73_5, hcz73_6, hcz73_7, hcz73_8, hfz73_0, hfz73_1, hfz73_2, hfz73_3, hfz73_4, hfz73_5, hfz73_6, hfz73_7, hfz73_8⟩ := bkA9 BK261.out
    go_wp2_with (first | ((with_reducible refine gate_callee (f := 75) rfl ?_); refine goesL_ (some 52) rfl rfl Tryd.func75 (by kernel_rfl) rfl #[.agg #[.int .i64 a1_0, .string a1_1, .bool a1_2, .string a1_3, .slice A1_4 l1_4.length c1_4, .int .i64 a1_5, .int .i64 a1_6, .int .i64 a1_7, .int .i64 a1_8]] rfl (by (try simp only [List.map_toArray, List.map_cons, List.map_nil]); first | done | rfl | (simp only [List.length_drop, List.length_take]; rfl)) ?_; (with_reducible refine (spec_l4CopySlot.calls k1 a1_0 a1_1 a1_2 a1_3 _ _ l1_4 a1_5 a1_6 a1_7 a1_8 t266 t267 t268 t269 t270 t273 t274 t275 t276 _ ?side1 ?side2 A67.out).mono ?_); (case side1 => repeat (first | exact (Kd.C_below HR1_4.out HB.out) | (with_reducible refine Kd.C_alloc ?_ _) | (with_reducible refine Kd.C_drewN ?_ _) | (with_reducible refine Kd.C_drew ?_))); (case side2 => exact HC1_4.out); rintro e w74 ⟨v271, rfl, ho0, hb⟩; refine ⟨_, rfl, ?_⟩; have hb1_ := fromQ HB.out hb; have hb0_ := below_step hb1_ hb; have hW_ := below_step HB.out hb1_; have n0_ := Aside0.mk (Kd.S_elder' (Kd.S_below HO_5.out hb1_) (Kd.R_base ho0) hb); have n1_ := Aside0.mk (Kd.R_lower ho0 (below_size hW_)); replace BK260 := kB BK260 hb0_; replace BK261 := kB BK261 hb0_; replace BK262 := kB BK262 hb0_; replace HB := kH HB hb0_; clear HO_5; have HO_5 := n0_; have HO272 := n1_; clear hb1_ hb0_ hW_ n0_ n1_; (try clear hb); (try clear hb2); (try clear hk); (try clear hi); (try clear ho0); obtain ⟨Ao76, co76, eo76⟩ := Kd.R_slice HO272.out; subst eo76) | ((with_reducible refine gate_builtin (b := .append) (xs := #[.tmp 50, .tmp 53]) rfl ?_); at_builtin; refine Kd.S_append k32 (w0 := w) w.heap.size rfl (.tmp 50) (.tmp 53) 34 32 (.agg #[(.int .i64 0), (.string ⟨#[]⟩), (.bool false), (.string ⟨#[]⟩), (.slice none 0 0), (.int .i64 0), (.int .i64 0), (.int .i64 0), (.int .i64 0)]) 104 rfl Tryd.underlying34 info32 rfl (by decide) (by omega) u5 x5_1 (⟨(⟨t266, t267⟩ : S29), t268, t269, t270, t273, t274, t275, t276⟩ : S32) [.int .i64 t266, .string t267, .bool t268, .string t269, .slice Ao76 t270.length co76, .int .i64 t273, .int .i64 t274, .int .i64 t275, .int .i64 t276] (fun k_ => k_ ≠ gb261) (fun k_ => some k_ = (.slice Ao76 t270.length co76 : Value).ownBlock) rfl rfl ?aP (fun k_ hk_ => ((Kd.R_mono (ok' := fun k_ => ((fun k_ => k_ ≠ gb261)) k_ ∧ some k_ ≠ (u5 : Value).ownBlock) (Kd.R_types (Kd.R_apart' (HO272.out) (Kd.S_typed HO_5.out) (by decide)) BK261.out (by decide)) (fun k_ hk => ⟨hk.2, hk.1.2⟩))).1 k_ hk_.symm) ?aF ?aO ?aB ?aS ?aL ?_; (case aP => exact k32_mkM _ _ _ (⟨(⟨t266, t267⟩ : S29), t268, t269, t270, t273, t274, t275, t276⟩ : S32) (Kd.R_mono (Kd.R_tight rfl (Kd.R_mono (ok' := fun k_ => ((fun k_ => k_ ≠ gb261)) k_ ∧ some k_ ≠ (u5 : Value).ownBlock) (Kd.R_types (Kd.R_apart' (HO272.out) (Kd.S_typed HO_5.out) (by decide)) BK261.out (by decide)) (fun k_ hk => ⟨hk.2, hk.1.2⟩))) (fun _ h_ => h_))); (case aB => exact (by repeat (first | (with_reducible first | exact HB.out | apply below_alloc | apply pw_below_drewN | apply below_drew1 | refine below_set ?_ GE260.out | refine below_set ?_ GE261.out | refine below_set ?_ GE262.out) | exact HB.out))); (case aF => exact (fun k_ hk => Kd.freshB (g := gb261) (o := .cells #[.int .i64 a1_0, .string a1_1, .bool a1_2, .string a1_3, .slice A1_4 l1_4.length c1_4, .int .i64 a1_5, .int .i64 a1_6, .int .i64 a1_7, .int .i64 a1_8] 32 (0, 0)) (by (with_reducible repeat (first | refine blk_drewN ?_ _ | refine blk_drew ?_ | refine blk_alloc ?_ _)); exact BK261.out) k_ hk)); (case aO => exact (by (with_reducible repeat (first | apply Kd.S_alloc | apply Kd.S_drewN | apply Kd.S_drew)); exact Kd.S_mono HO_5.out (fun k_ hk => ⟨hk.1, fun e_ => hk.2 e_⟩))); (case aS => exact (below_size (by repeat (first | (with_reducible first | exact HB.out | apply below_alloc | apply pw_below_drewN | apply below_drew1 | refine below_set ?_ GE260.out | refine below_set ?_ GE261.out | refine below_set ?_ GE262.out) | exact HB.out)))); (case aL => have := LMc68.out; omega); intro v278 w75 ho hb hg hat; rw [← Ny277.out] at ho; have n0_ := Aside0.mk (blk_grown (g := gb260) (o := .cells #[.slice A0_0 l0_0.length c0_0] 36 (0, 0)) (by (with_reducible repeat (first | refine blk_drewN ?_ _ | refine blk_drew ?_ | refine blk_alloc ?_ _)); exact BK260.out) hg (Kd.S_ne HO_5.out BK260.out (by decide))); have n1_ := Aside0.mk (blk_grown (g := gb261) (o := .cells #[.int .i64 a1_0, .string a1_1, .bool a1_2, .string a1_3, .slice A1_4 l1_4.length c1_4, .int .i64 a1_5, .int .i64 a1_6, .int .i64 a1_7, .int .i64 a1_8] 32 (0, 0)) (by (with_reducible repeat (first | refine blk_drewN ?_ _ | refine blk_drew ?_ | refine blk_alloc ?_ _)); exact BK261.out) hg (Kd.S_away HO_5.out (fun _ hk => hk.1))); have n2_ := Aside0.mk (blk_grown (g := gb262) (o := .cells #[.slice none 0 0] 36 (0, 0)) (by (with_reducible repeat (first | refine blk_drewN ?_ _ | refine blk_drew ?_ | refine blk_alloc ?_ _)); exact BK262.out) hg (Kd.S_ne HO_5.out BK262.out (by decide))); have n3_ := Aside0.mk (hb); have n4_ := Aside0.mk (ho); clear BK260; clear BK261; clear BK262; clear HB; clear HO_5; clear HO272; have BK260 := n0_; have BK261 := n1_; have BK262 := n2_; have HB := n3_; have HO279 := n4_; clear n0_ n1_ n2_ n3_ n4_; clear ho hb hg hat; obtain ⟨Ao77, co77, eo77⟩ := Kd.S_slice HO279.out; subst eo77; obtain ⟨hcz78_0, hfz78_0⟩ := bkA1 BK262.out))
    refine bodyPost_ret (results_cell_row rfl _ _ gb262 36 #[.slice Ao77 y277.length co77] (0, 0) _ rfl (by (with_reducible repeat (first | refine blk_drewN ?_ _ | refine blk_drew ?_ | refine blk_alloc ?_ _)); refine blk_put (cs := #[.slice none 0 0]) ?_ 0 _ rfl; (with_reducible repeat (first | refine blk_drewN ?_ _ | refine blk_drew ?_ | refine blk_alloc ?_ _)); exact BK262.out) Tryd.underlying36 rfl (by kernel_rfl)) rfl ?_
    exact ⟨_, by first | rfl | (simp [errW_none, errW_some] <;> rfl) | (simp [*, errW_none, errW_some] <;> rfl), by (with_reducible repeat (first | apply Kd.S_alloc | apply Kd.S_drewN | apply Kd.S_drew)); exact Kd.S_mono (Kd.S_far (p := ⟨gb262, 0, none⟩) (Kd.S_types HO279.out BK262.out (by decide)) (fun _ hk => hk.2) (.slice Ao77 y277.length co77)) (fun _ hk => trivial), by repeat (first | (with_reducible first | exact HB.out | apply below_alloc | apply pw_below_drewN | apply below_drew1 | refine below_set ?_ GE260.out | refine below_set ?_ GE261.out | refine below_set ?_ GE262.out) | exact HB.out)⟩
   rw [if_neg c68] at H
   exact absurd H (by simp)
end Go.Proofs.YtnbohlcibgfjaaaDoor.Gp
end
