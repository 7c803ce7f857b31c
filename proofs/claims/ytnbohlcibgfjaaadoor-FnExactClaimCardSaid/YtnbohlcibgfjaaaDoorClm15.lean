/- A part of the proof of RowFnExactClaim: each text's theorems that it needs, packed by shake.py, a program of this work; Lean checks them. -/
import Derived.Test.YtnbohlcibgfjaaaDoorClm3
import Derived.Test.YtnbohlcibgfjaaaDoorClm9
import Derived.Test.YtnbohlcibgfjaaaDoorClm11
import Derived.Test.YtnbohlcibgfjaaaDoorClm14
section
namespace Go.Proofs.YtnbohlcibgfjaaaDoor.Gp
open Go.RowKit Go.Proofs.YtnbohlcibgfjaaaDoorW.PrintWords Go.Proofs.YtnbohlcibgfjaaaDoorW.PrintLast Go.Proofs.YtnbohlcibgfjaaaDoorW.PrintMore
set_option linter.unusedVariables false
set_option linter.unusedSimpArgs false
def spec_Claim.f (k : Nat) (l0_0 : List (S32)) (a1_0 : Int) (a1_1 : ByteArray) (a2 : Int) (a3 : Int) (a4 : Int) : Option ((List (S32)) × Int) := (spec_ValidTable.f k l0_0).bind fun t315 => (if t315 = true then ((spec_l4KeyOk.f k a1_0 a1_1).bind fun t316 => (if t316 = true then ((spec_l4WorkerOk.f a2).bind fun t317 => (if t317 = true then (if a3 < 1 then (some (([] : List (S32)), 9)) else (if a4 < 1 then (some (([] : List (S32)), 9)) else (if a4 > 4096 then (some (([] : List (S32)), 9)) else ((spec_l4Claim.f k l0_0 a1_0 a1_1 a2 a3 a4).bind fun bt318 => (some (bt318.1, bt318.2)))))) else (some (([] : List (S32)), 9)))) else (some (([] : List (S32)), 9)))) else (some (([] : List (S32)), 9)))
set_option maxHeartbeats 8000000 in
set_option maxRecDepth 100000 in
theorem spec_Claim.calls (k : Nat) (A0_0 : Option Addr) (c0_0 : Nat) (l0_0 : List (S32)) (a1_0 : Int) (a1_1 : ByteArray) (a2 : Int) (a3 : Int) (a4 : Int) (r1 : List (S32)) (r2 : Int) (w : World) (hr0_0 : Kd.C k32 w A0_0 l0_0.length l0_0) (hc0_0 : l0_0.length ≤ c0_0) (h : spec_Claim.f k l0_0 a1_0 a1_1 a2 a3 a4 = some (r1, r2)) :
 Calls Tryd.prog 40 #[.agg #[.slice A0_0 l0_0.length c0_0], .agg #[.int .i64 a1_0, .string a1_1], .int .i64 a2, .int .i64 a3, .int .i64 a4] w fun e w' => ∃ v0_ : Value, e = .returned (.tuple #[.agg #[v0_], .int .i64 r2]) ∧ Kd.S k32 32 w' w.heap.size (fun _ => True) v0_ r1 ∧ Below w.heap.size w w' := by
 have hu36 := Tryd.underlying36
 have hu29 := Tryd.underlying29
 have HR0_0 := Aside0.mk hr0_0
 have HC0_0 := Aside0.mk hc0_0
 clear hr0_0 hc0_0
 have HB := Aside0.mk (Below.refl w.heap.size w)
 have H : ((spec_ValidTable.f k l0_0).bind fun t315 => (if t315 = true then ((spec_l4KeyOk.f k a1_0 a1_1).bind fun t316 => (if t316 = true then ((spec_l4WorkerOk.f a2).bind fun t317 => (if t317 = true then (if a3 < 1 then (some (([] : List (S32)), 9)) else (if a4 < 1 then (some (([] : List (S32)), 9)) else (if a4 > 4096 then (some (([] : List (S32)), 9)) else ((spec_l4Claim.f k l0_0 a1_0 a1_1 a2 a3 a4).bind fun bt318 => (some (bt318.1, bt318.2)))))) else (some (([] : List (S32)), 9)))) else (some (([] : List (S32)), 9)))) else (some (([] : List (S32)), 9)))) = some (r1, r2) := h
 clear h
 replace H := Option.bind_eq_some_iff.mp H
 obtain ⟨t315, A60, H⟩ := H
 replace H : (if t315 = true then ((spec_l4KeyOk.f k a1_0 a1_1).bind fun t316 => (if t316 = true then ((spec_l4WorkerOk.f a2).bind fun t317 => (if t317 = true then (if a3 < 1 then (some (([] : List (S32)), 9)) else (if a4 < 1 then (some (([] : List (S32)), 9)) else (if a4 > 4096 then (some (([] : List (S32)), 9)) else ((spec_l4Claim.f k l0_0 a1_0 a1_1 a2 a3 a4).bind fun bt318 => (some (bt318.1, bt318.2)))))) else (some (([] : List (S32)), 9)))) else (some (([] : List (S32)), 9)))) else (some (([] : List (S32)), 9))) = some (r1, r2) := H
 have A6 := Aside0.mk A60
 clear A60
 by_cases c7 : t315 = true
 ·
  subst c7
  have H1 : ((spec_l4KeyOk.f k a1_0 a1_1).bind fun t316 => (if t316 = true then ((spec_l4WorkerOk.f a2).bind fun t317 => (if t317 = true then (if a3 < 1 then (some (([] : List (S32)), 9)) else (if a4 < 1 then (some (([] : List (S32)), 9)) else (if a4 > 4096 then (some (([] : List (S32)), 9)) else ((spec_l4Claim.f k l0_0 a1_0 a1_1 a2 a3 a4).bind fun bt318 => (some (bt318.1, bt318.2)))))) else (some (([] : List (S32)), 9)))) else (some (([] : List (S32)), 9)))) = some (r1, r2) := by rw [if_pos rfl] at H; exact H
  clear H
  have H := H1
  clear H1
  replace H := Option.bind_eq_some_iff.mp H
  obtain ⟨t316, A80, H⟩ := H
  replace H : (if t316 = true then ((spec_l4WorkerOk.f a2).bind fun t317 => (if t317 = true then (if a3 < 1 then (some (([] : List (S32)), 9)) else (if a4 < 1 then (some (([] : List (S32)), 9)) else (if a4 > 4096 then (some (([] : List (S32)), 9)) else ((spec_l4Claim.f k l0_0 a1_0 a1_1 a2 a3 a4).bind fun bt318 => (some (bt318.1, bt318.2)))))) else (some (([] : List (S32)), 9)))) else (some (([] : List (S32)), 9))) = some (r1, r2) := H
  have A8 := Aside0.mk A80
  clear A80
  by_cases c9 : t316 = true
  ·
   subst c9
   have H1 : ((spec_l4WorkerOk.f a2).bind fun t317 => (if t317 = true then (if a3 < 1 then (some (([] : List (S32)), 9)) else (if a4 < 1 then (some (([] : List (S32)), 9)) else (if a4 > 4096 then (some (([] : List (S32)), 9)) else ((spec_l4Claim.f k l0_0 a1_0 a1_1 a2 a3 a4).bind fun bt318 => (some (bt318.1, bt318.2)))))) else (some (([] : List (S32)), 9)))) = some (r1, r2) := by rw [if_pos rfl] at H; exact H
   clear H
   have H := H1
   clear H1
   replace H := Option.bind_eq_some_iff.mp H
   obtain ⟨t317, A100, H⟩ := H
   replace H : (if t317 = true then (if a3 < 1 then (some (([] : List (S32)), 9)) else (if a4 < 1 then (some (([] : List (S32)), 9)) else (if a4 > 4096 then (some (([] : List (S32)), 9)) else ((spec_l4Claim.f k l0_0 a1_0 a1_1 a2 a3 a4).bind fun bt318 => (some (bt318.1, bt318.2)))))) else (some (([] : List (S32)), 9))) = some (r1, r2) := H
   have A10 := Aside0.mk A100
   clear A100
   by_cases c11 : t317 = true
   ·
    subst c11
    have H1 : (if a3 < 1 then (some (([] : List (S32)), 9)) else (if a4 < 1 then (some (([] : List (S32)), 9)) else (if a4 > 4096 then (some (([] : List (S32)), 9)) else ((spec_l4Claim.f k l0_0 a1_0 a1_1 a2 a3 a4).bind fun bt318 => (some (bt318.1, bt318.2)))))) = some (r1, r2) := by rw [if_pos rfl] at H; exact H
    clear H
    have H := H1
    clear H1
    by_cases c12 : a3 < 1
    ·
     rw [if_pos c12] at H
     have c12b0 : decide (a3 < 1) = true := decide_eq_true c12
     clear c12
     simp only [Option.some.injEq, Prod.mk.injEq] at H
     obtain ⟨rfl, rfl⟩ := H
     go_enter Tryd.func40, Tryd.ntmps40
     go_wp2_with (first | ((with_reducible refine gate_dst (N := 5) rfl ?_); refine box_event ?hg (N := 5) ?hd (cs := #[.slice A0_0 l0_0.length c0_0]) (t := 36) ?hr ?_; (case hd => rfl); (case hg => rfl); (case hr => first | (go_simp; done) | (go_simp; rfl)); intro gb312 hg w13 hbox hb; have hb1_ := fromQ HB.out hb; have hb0_ := below_step hb1_ hb; have hW_ := below_step HB.out hb1_; have n1_ := Aside0.mk (hbox); have n2_ := szle hg hW_; have n3_ := szle hg hW_; replace HB := kH HB hb0_; have BK312 := n1_; have GW312 := n2_; have GE312 := n3_; clear hb1_ hb0_ hW_ n1_ n2_ n3_; clear hb hbox hg) | ((with_reducible refine gate_dst (N := 6) rfl ?_); refine box_event ?hg (N := 6) ?hd (cs := #[.int .i64 a1_0, .string a1_1]) (t := 29) ?hr ?_; (case hd => rfl); (case hg => rfl); (case hr => first | (go_simp; done) | (go_simp; rfl)); intro gb313 hg w14 hbox hb; have hb1_ := fromQ HB.out hb; have hb0_ := below_step hb1_ hb; have hW_ := below_step HB.out hb1_; have n2_ := Aside0.mk (hbox); have n3_ := szle hg hW_; have n4_ := szle hg hW_; have n5_ := nelt hg BK312 hb1_; have n6_ := negt hg BK312 hb1_; replace BK312 := kB BK312 hb0_; replace HB := kH HB hb0_; have BK313 := n2_; have GW313 := n3_; have GE313 := n4_; have NB312_313 := n5_; have NB313_312 := n6_; clear hb1_ hb0_ hW_ n2_ n3_ n4_ n5_ n6_; clear hb hbox hg) | ((with_reducible refine gate_dst (N := 10) rfl ?_); refine box_event ?hg (N := 10) ?hd (cs := #[.slice none 0 0]) (t := 36) ?hr ?_; (case hd => rfl); (case hg => rfl); (case hr => first | (go_simp; done) | (go_simp; rfl)); intro gb314 hg w15 hbox hb; have hb1_ := fromQ HB.out hb; have hb0_ := below_step hb1_ hb; have hW_ := below_step HB.out hb1_; have n3_ := Aside0.mk (hbox); have n4_ := szle hg hW_; have n5_ := szle hg hW_; have n6_ := nelt hg BK312 hb1_; have n7_ := negt hg BK312 hb1_; have n8_ := nelt hg BK313 hb1_; have n9_ := negt hg BK313 hb1_; replace BK312 := kB BK312 hb0_; replace BK313 := kB BK313 hb0_; replace HB := kH HB hb0_; have BK314 := n3_; have GW314 := n4_; have GE314 := n5_; have NB312_314 := n6_; have NB314_312 := n7_; have NB313_314 := n8_; have NB314_313 := n9_; clear hb1_ hb0_ hW_ n3_ n4_ n5_ n6_ n7_ n8_ n9_; clear hb hbox hg; have hnb16 := NB312_313.out; have hnc16 := NB313_312.out; have hnb17 := NB312_314.out; have hnc17 := NB314_312.out; obtain ⟨hcz18_0, hfz18_0⟩ := bkA1 BK312.out) | ((with_reducible refine gate_callee (f := 43) rfl ?_); refine goesL_ (some 13) rfl rfl Tryd.func43 (by kernel_rfl) rfl #[.agg #[.slice A0_0 l0_0.length c0_0]] rfl (by (try simp only [List.map_toArray, List.map_cons, List.map_nil]); first | done | rfl | (simp only [List.length_drop, List.length_take]; rfl)) ?_; (with_reducible refine (spec_ValidTable.calls k _ _ l0_0 true _ ?side1 ?side2 A6.out).mono ?_); (case side1 => repeat (first | exact (Kd.C_below HR0_0.out HB.out) | (with_reducible refine Kd.C_alloc ?_ _) | (with_reducible refine Kd.C_drewN ?_ _) | (with_reducible refine Kd.C_drew ?_))); (case side2 => exact HC0_0.out); rintro e w19 ⟨rfl, hb⟩; refine ⟨_, rfl, ?_⟩; have hb1_ := fromQ HB.out hb; have hb0_ := below_step hb1_ hb; replace BK312 := kB BK312 hb0_; replace BK313 := kB BK313 hb0_; replace BK314 := kB BK314 hb0_; replace HB := kH HB hb0_; clear hb1_ hb0_; (try clear hb); (try clear hb2); (try clear hk); (try clear hi); have hnb20 := NB313_314.out; have hnc20 := NB314_313.out; obtain ⟨hcz21_0, hcz21_1, hfz21_0, hfz21_1⟩ := bkA2 BK313.out) | (go_at_call 66; (with_reducible refine (spec_l4KeyOk.calls k a1_0 a1_1 true _ A8.out).mono ?_); rintro e w22 ⟨rfl, hb⟩; have hb1_ := fromQ HB.out hb; have hb0_ := below_step hb1_ hb; replace BK312 := kB BK312 hb0_; replace BK313 := kB BK313 hb0_; replace BK314 := kB BK314 hb0_; replace HB := kH HB hb0_; clear hb1_ hb0_; (try clear hb); (try clear hb2); (try clear hk); (try clear hi)) | (go_at_call 67; (with_reducible refine (spec_l4WorkerOk.calls a2 true _ A10.out).mono ?_); rintro e w' ⟨rfl, ⟨nd, rfl⟩⟩; (try (rw [drewN_self w22]; generalize hq_ : World.drewN w22 _ = w22; have n0_ : Aside0 (w22.heap[gb312]? = some (.cells #[.slice A0_0 l0_0.length c0_0] 36 (0, 0))) := ⟨by rw [← hq_]; exact (by (with_reducible repeat (first | refine blk_drewN ?_ _ | refine blk_drew ?_ | refine blk_alloc ?_ _)); exact BK312.out)⟩; have n1_ : Aside0 (w22.heap[gb313]? = some (.cells #[.int .i64 a1_0, .string a1_1] 29 (0, 0))) := ⟨by rw [← hq_]; exact (by (with_reducible repeat (first | refine blk_drewN ?_ _ | refine blk_drew ?_ | refine blk_alloc ?_ _)); exact BK313.out)⟩; have n2_ : Aside0 (w22.heap[gb314]? = some (.cells #[.slice none 0 0] 36 (0, 0))) := ⟨by rw [← hq_]; exact (by (with_reducible repeat (first | refine blk_drewN ?_ _ | refine blk_drew ?_ | refine blk_alloc ?_ _)); exact BK314.out)⟩; have n3_ : Aside0 (Below w.heap.size w w22) := ⟨by rw [← hq_]; exact (by repeat (first | (with_reducible first | exact HB.out | apply below_alloc | apply pw_below_drewN | apply below_drew1 | refine below_set ?_ GE312.out | refine below_set ?_ GE313.out | refine below_set ?_ GE314.out) | exact HB.out))⟩; clear BK312 BK313 BK314 HB hq_; have BK312 := n0_; have BK313 := n1_; have BK314 := n2_; have HB := n3_; clear n0_ n1_ n2_ n3_)); obtain ⟨hcz23_0, hfz23_0⟩ := bkA1 BK314.out))
     refine bodyPost_ret (results_ct rfl _ _ gb314 36 #[.slice none 0 0] (0, 0) _ rfl (by (with_reducible repeat (first | refine blk_drewN ?_ _ | refine blk_drew ?_ | refine blk_alloc ?_ _)); refine blk_put (cs := #[.slice none 0 0]) ?_ 0 _ rfl; (with_reducible repeat (first | refine blk_drewN ?_ _ | refine blk_drew ?_ | refine blk_alloc ?_ _)); exact BK314.out) Tryd.underlying36 rfl (by kernel_rfl)) rfl ?_
     exact ⟨_, by first | rfl | (simp [errW_none, errW_some] <;> rfl) | (simp [*, errW_none, errW_some] <;> rfl), by first | exact Kd.S_nil _ _ _ _ _ | exact Kd.N_nil _ _ _ _ _ | exact Kd.V_nil _ _ _ _ _ | exact Kd.Q_nil _ _ _ _ _ | exact Kd.R_nil _ _ _ _ _, by repeat (first | (with_reducible first | exact HB.out | apply below_alloc | apply pw_below_drewN | apply below_drew1 | refine below_set ?_ GE312.out | refine below_set ?_ GE313.out | refine below_set ?_ GE314.out) | exact HB.out)⟩
    rw [if_neg c12] at H
    have c12b0 : decide (a3 < 1) = false := decide_eq_false c12
    clear c12
    by_cases c24 : a4 < 1
    ·
     rw [if_pos c24] at H
     have c24b0 : decide (a4 < 1) = true := decide_eq_true c24
     clear c24
     simp only [Option.some.injEq, Prod.mk.injEq] at H
     obtain ⟨rfl, rfl⟩ := H
     go_enter Tryd.func40, Tryd.ntmps40
     go_wp2_with (first | ((with_reducible refine gate_dst (N := 5) rfl ?_); refine box_event ?hg (N := 5) ?hd (cs := #[.slice A0_0 l0_0.length c0_0]) (t := 36) ?hr ?_; (case hd => rfl); (case hg => rfl); (case hr => first | (go_simp; done) | (go_simp; rfl)); intro gb312 hg w25 hbox hb; have hb1_ := fromQ HB.out hb; have hb0_ := below_step hb1_ hb; have hW_ := below_step HB.out hb1_; have n1_ := Aside0.mk (hbox); have n2_ := szle hg hW_; have n3_ := szle hg hW_; replace HB := kH HB hb0_; have BK312 := n1_; have GW312 := n2_; have GE312 := n3_; clear hb1_ hb0_ hW_ n1_ n2_ n3_; clear hb hbox hg) | ((with_reducible refine gate_dst (N := 6) rfl ?_); refine box_event ?hg (N := 6) ?hd (cs := #[.int .i64 a1_0, .string a1_1]) (t := 29) ?hr ?_; (case hd => rfl); (case hg => rfl); (case hr => first | (go_simp; done) | (go_simp; rfl)); intro gb313 hg w26 hbox hb; have hb1_ := fromQ HB.out hb; have hb0_ := below_step hb1_ hb; have hW_ := below_step HB.out hb1_; have n2_ := Aside0.mk (hbox); have n3_ := szle hg hW_; have n4_ := szle hg hW_; have n5_ := nelt hg BK312 hb1_; have n6_ := negt hg BK312 hb1_; replace BK312 := kB BK312 hb0_; replace HB := kH HB hb0_; have BK313 := n2_; have GW313 := n3_; have GE313 := n4_; have NB312_313 := n5_; have NB313_312 := n6_; clear hb1_ hb0_ hW_ n2_ n3_ n4_ n5_ n6_; clear hb hbox hg) | ((with_reducible refine gate_dst (N := 10) rfl ?_); refine box_event ?hg (N := 10) ?hd (cs := #[.slice none 0 0]) (t := 36) ?hr ?_; (case hd => rfl); (case hg => rfl); (case hr => first | (go_simp; done) | (go_simp; rfl)); intro gb314 hg w27 hbox hb; have hb1_ := fromQ HB.out hb; have hb0_ := below_step hb1_ hb; have hW_ := below_step HB.out hb1_; have n3_ := Aside0.mk (hbox); have n4_ := szle hg hW_; have n5_ := szle hg hW_; have n6_ := nelt hg BK312 hb1_; have n7_ := negt hg BK312 hb1_; have n8_ := nelt hg BK313 hb1_; have n9_ := negt hg BK313 hb1_; replace BK312 := kB BK312 hb0_; replace BK313 := kB BK313 hb0_; replace HB := kH HB hb0_; have BK314 := n3_; have GW314 := n4_; have GE314 := n5_; have NB312_314 := n6_; have NB314_312 := n7_; have NB313_314 := n8_; have NB314_313 := n9_; clear hb1_ hb0_ hW_ n3_ n4_ n5_ n6_ n7_ n8_ n9_; clear hb hbox hg; have hnb28 := NB312_313.out; have hnc28 := NB313_312.out; have hnb29 := NB312_314.out; have hnc29 := NB314_312.out; obtain ⟨hcz30_0, hfz30_0⟩ := bkA1 BK312.out) | ((with_reducible refine gate_callee (f := 43) rfl ?_); refine goesL_ (some 13) rfl rfl Tryd.func43 (by kernel_rfl) rfl #[.agg #[.slice A0_0 l0_0.length c0_0]] rfl (by (try simp only [List.map_toArray, List.map_cons, List.map_nil]); first | done | rfl | (simp only [List.length_drop, List.length_take]; rfl)) ?_; (with_reducible refine (spec_ValidTable.calls k _ _ l0_0 true _ ?side1 ?side2 A6.out).mono ?_); (case side1 => repeat (first | exact (Kd.C_below HR0_0.out HB.out) | (with_reducible refine Kd.C_alloc ?_ _) | (with_reducible refine Kd.C_drewN ?_ _) | (with_reducible refine Kd.C_drew ?_))); (case side2 => exact HC0_0.out); rintro e w31 ⟨rfl, hb⟩; refine ⟨_, rfl, ?_⟩; have hb1_ := fromQ HB.out hb; have hb0_ := below_step hb1_ hb; replace BK312 := kB BK312 hb0_; replace BK313 := kB BK313 hb0_; replace BK314 := kB BK314 hb0_; replace HB := kH HB hb0_; clear hb1_ hb0_; (try clear hb); (try clear hb2); (try clear hk); (try clear hi); have hnb32 := NB313_314.out; have hnc32 := NB314_313.out; obtain ⟨hcz33_0, hcz33_1, hfz33_0, hfz33_1⟩ := bkA2 BK313.out) | (go_at_call 66; (with_reducible refine (spec_l4KeyOk.calls k a1_0 a1_1 true _ A8.out).mono ?_); rintro e w34 ⟨rfl, hb⟩; have hb1_ := fromQ HB.out hb; have hb0_ := below_step hb1_ hb; replace BK312 := kB BK312 hb0_; replace BK313 := kB BK313 hb0_; replace BK314 := kB BK314 hb0_; replace HB := kH HB hb0_; clear hb1_ hb0_; (try clear hb); (try clear hb2); (try clear hk); (try clear hi)) | (go_at_call 67; (with_reducible refine (spec_l4WorkerOk.calls a2 true _ A10.out).mono ?_); rintro e w' ⟨rfl, ⟨nd, rfl⟩⟩; (try (rw [drewN_self w34]; generalize hq_ : World.drewN w34 _ = w34; have n0_ : Aside0 (w34.heap[gb312]? = some (.cells #[.slice A0_0 l0_0.length c0_0] 36 (0, 0))) := ⟨by rw [← hq_]; exact (by (with_reducible repeat (first | refine blk_drewN ?_ _ | refine blk_drew ?_ | refine blk_alloc ?_ _)); exact BK312.out)⟩; have n1_ : Aside0 (w34.heap[gb313]? = some (.cells #[.int .i64 a1_0, .string a1_1] 29 (0, 0))) := ⟨by rw [← hq_]; exact (by (with_reducible repeat (first | refine blk_drewN ?_ _ | refine blk_drew ?_ | refine blk_alloc ?_ _)); exact BK313.out)⟩; have n2_ : Aside0 (w34.heap[gb314]? = some (.cells #[.slice none 0 0] 36 (0, 0))) := ⟨by rw [← hq_]; exact (by (with_reducible repeat (first | refine blk_drewN ?_ _ | refine blk_drew ?_ | refine blk_alloc ?_ _)); exact BK314.out)⟩; have n3_ : Aside0 (Below w.heap.size w w34) := ⟨by rw [← hq_]; exact (by repeat (first | (with_reducible first | exact HB.out | apply below_alloc | apply pw_below_drewN | apply below_drew1 | refine below_set ?_ GE312.out | refine below_set ?_ GE313.out | refine below_set ?_ GE314.out) | exact HB.out))⟩; clear BK312 BK313 BK314 HB hq_; have BK312 := n0_; have BK313 := n1_; have BK314 := n2_; have HB := n3_; clear n0_ n1_ n2_ n3_)); obtain ⟨hcz35_0, hfz35_0⟩ := bkA1 BK314.out))
     refine bodyPost_ret (results_ct rfl _ _ gb314 36 #[.slice none 0 0] (0, 0) _ rfl (by (with_reducible repeat (first | refine blk_drewN ?_ _ | refine blk_drew ?_ | refine blk_alloc ?_ _)); refine blk_put (cs := #[.slice none 0 0]) ?_ 0 _ rfl; (with_reducible repeat (first | refine blk_drewN ?_ _ | refine blk_drew ?_ | refine blk_alloc ?_ _)); exact BK314.out) Tryd.underlying36 rfl (by kernel_rfl)) rfl ?_
     exact ⟨_, by first | rfl | (simp [errW_none, errW_some] <;> rfl) | (simp [*, errW_none, errW_some] <;> rfl), by first | exact Kd.S_nil _ _ _ _ _ | exact Kd.N_nil _ _ _ _ _ | exact Kd.V_nil _ _ _ _ _ | exact Kd.Q_nil _ _ _ _ _ | exact Kd.R_nil _ _ _ _ _, by repeat (first | (with_reducible first | exact HB.out | apply below_alloc | apply pw_below_drewN | apply below_drew1 | refine below_set ?_ GE312.out | refine below_set ?_ GE313.out | refine below_set ?_ GE314.out) | exact HB.out)⟩
    rw [if_neg c24] at H
    have c24b0 : decide (a4 < 1) = false := decide_eq_false c24
    clear c24
    have HL36 := Aside0.mk H
    clear H
    go_enter Tryd.func40, Tryd.ntmps40
    go_upto_if 36 with (first | ((with_reducible refine gate_dst (N := 5) rfl ?_); refine box_event ?hg (N := 5) ?hd (cs := #[.slice A0_0 l0_0.length c0_0]) (t := 36) ?hr ?_; (case hd => rfl); (case hg => rfl); (case hr => first | (go_simp; done) | (go_simp; rfl)); intro gb312 hg w37 hbox hb; have hb1_ := fromQ HB.out hb; have hb0_ := below_step hb1_ hb; have hW_ := below_step HB.out hb1_; have n1_ := Aside0.mk (hbox); have n2_ := szle hg hW_; have n3_ := szle hg hW_; replace HB := kH HB hb0_; have BK312 := n1_; have GW312 := n2_; have GE312 := n3_; clear hb1_ hb0_ hW_ n1_ n2_ n3_; clear hb hbox hg) | ((with_reducible refine gate_dst (N := 6) rfl ?_); refine box_event ?hg (N := 6) ?hd (cs := #[.int .i64 a1_0, .string a1_1]) (t := 29) ?hr ?_; (case hd => rfl); (case hg => rfl); (case hr => first | (go_simp; done) | (go_simp; rfl)); intro gb313 hg w38 hbox hb; have hb1_ := fromQ HB.out hb; have hb0_ := below_step hb1_ hb; have hW_ := below_step HB.out hb1_; have n2_ := Aside0.mk (hbox); have n3_ := szle hg hW_; have n4_ := szle hg hW_; have n5_ := nelt hg BK312 hb1_; have n6_ := negt hg BK312 hb1_; replace BK312 := kB BK312 hb0_; replace HB := kH HB hb0_; have BK313 := n2_; have GW313 := n3_; have GE313 := n4_; have NB312_313 := n5_; have NB313_312 := n6_; clear hb1_ hb0_ hW_ n2_ n3_ n4_ n5_ n6_; clear hb hbox hg) | ((with_reducible refine gate_dst (N := 10) rfl ?_); refine box_event ?hg (N := 10) ?hd (cs := #[.slice none 0 0]) (t := 36) ?hr ?_; (case hd => rfl); (case hg => rfl); (case hr => first | (go_simp; done) | (go_simp; rfl)); intro gb314 hg w39 hbox hb; have hb1_ := fromQ HB.out hb; have hb0_ := below_step hb1_ hb; have hW_ := below_step HB.out hb1_; have n3_ := Aside0.mk (hbox); have n4_ := szle hg hW_; have n5_ := szle hg hW_; have n6_ := nelt hg BK312 hb1_; have n7_ := negt hg BK312 hb1_; have n8_ := nelt hg BK313 hb1_; have n9_ := negt hg BK313 hb1_; replace BK312 := kB BK312 hb0_; replace BK313 := kB BK313 hb0_; replace HB := kH HB hb0_; have BK314 := n3_; have GW314 := n4_; have GE314 := n5_; have NB312_314 := n6_; have NB314_312 := n7_; have NB313_314 := n8_; have NB314_313 := n9_; clear hb1_ hb0_ hW_ n3_ n4_ n5_ n6_ n7_ n8_ n9_; clear hb hbox hg; have hnb40 := NB312_313.out; have hnc40 := NB313_312.out; have hnb41 := NB312_314.out; have hnc41 := NB314_312.out; obtain ⟨hcz42_0, hfz42_0⟩ := bkA1 BK312.out) | ((with_reducible refine gate_callee (f := 43) rfl ?_); refine goesL_ (some 13) rfl rfl Tryd.func43 (by kernel_rfl) rfl #[.agg #[.slice A0_0 l0_0.length c0_0]] rfl (by (try simp only [List.map_toArray, List.map_cons, List.map_nil]); first | done | rfl | (simp only [List.length_drop, List.length_take]; rfl)) ?_; (with_reducible refine (spec_ValidTable.calls k _ _ l0_0 true _ ?side1 ?side2 A6.out).mono ?_); (case side1 => repeat (first | exact (Kd.C_below HR0_0.out HB.out) | (with_reducible refine Kd.C_alloc ?_ _) | (with_reducible refine Kd.C_drewN ?_ _) | (with_reducible refine Kd.C_drew ?_))); (case side2 => exact HC0_0.out); rintro e w43 ⟨rfl, hb⟩; refine ⟨_, rfl, ?_⟩; have hb1_ := fromQ HB.out hb; have hb0_ := below_step hb1_ hb; replace BK312 := kB BK312 hb0_; replace BK313 := kB BK313 hb0_; replace BK314 := kB BK314 hb0_; replace HB := kH HB hb0_; clear hb1_ hb0_; (try clear hb); (try clear hb2); (try clear hk); (try clear hi); have hnb44 := NB313_314.out; have hnc44 := NB314_313.out; obtain ⟨hcz45_0, hcz45_1, hfz45_0, hfz45_1⟩ := bkA2 BK313.out) | (go_at_call 66; (with_reducible refine (spec_l4KeyOk.calls k a1_0 a1_1 true _ A8.out).mono ?_); rintro e w46 ⟨rfl, hb⟩; have hb1_ := fromQ HB.out hb; have hb0_ := below_step hb1_ hb; replace BK312 := kB BK312 hb0_; replace BK313 := kB BK313 hb0_; replace BK314 := kB BK314 hb0_; replace HB := kH HB hb0_; clear hb1_ hb0_; (try clear hb); (try clear hb2); (try clear hk); (try clear hi)) | (go_at_call 67; (with_reducible refine (spec_l4WorkerOk.calls a2 true _ A10.out).mono ?_); rintro e w' ⟨rfl, ⟨nd, rfl⟩⟩))
    have H := HL36.out
    clear HL36
    by_cases c47 : a4 > 4096
    ·
     rw [if_pos c47] at H
     have c47b0 : decide (4096 < a4) = true := decide_eq_true c47
     clear c47
     (first | rw [c47b0] | (simp only [i64_w, i32_w]; rw [c47b0]) | simp only [c47b2, Bool.not_false, Bool.not_true] | skip)
     simp only [Option.some.injEq, Prod.mk.injEq] at H
     obtain ⟨rfl, rfl⟩ := H
     have hnb48 := NB314_312.out
     have hnc48 := NB312_314.out
     have hnb49 := NB314_313.out
     have hnc49 := NB313_314.out
     obtain ⟨hcz50_0, hfz50_0⟩ := bkA1 BK314.out
     go_wp2
     refine bodyPost_ret (results_ct rfl _ _ gb314 36 #[.slice none 0 0] (0, 0) _ rfl (by (with_reducible repeat (first | refine blk_drewN ?_ _ | refine blk_drew ?_ | refine blk_alloc ?_ _)); refine blk_put (cs := #[.slice none 0 0]) ?_ 0 _ rfl; (with_reducible repeat (first | refine blk_drewN ?_ _ | refine blk_drew ?_ | refine blk_alloc ?_ _)); exact BK314.out) Tryd.underlying36 rfl (by kernel_rfl)) rfl ?_
     exact ⟨_, by first | rfl | (simp [errW_none, errW_some] <;> rfl) | (simp [*, errW_none, errW_some] <;> rfl), by first | exact Kd.S_nil _ _ _ _ _ | exact Kd.N_nil _ _ _ _ _ | exact Kd.V_nil _ _ _ _ _ | exact Kd.Q_nil _ _ _ _ _ | exact Kd.R_nil _ _ _ _ _, by repeat (first | (with_reducible first | exact HB.out | apply below_alloc | apply pw_below_drewN | apply below_drew1 | refine below_set ?_ GE312.out | refine below_set ?_ GE313.out | refine below_set ?_ GE314.out) | exact HB.out)⟩
    rw [if_neg c47] at H
    have c47b0 : decide (4096 < a4) = false := decide_eq_false c47
    clear c47
    (first | rw [c47b0] | (simp only [i64_w, i32_w]; rw [c47b0]) | simp only [c47b2, Bool.not_false, Bool.not_true] | skip)
    replace H := Option.bind_eq_some_iff.mp H
    obtain ⟨⟨t318, t321⟩, A510, H⟩ := H
    replace H : (some (t318, t321)) = some (r1, r2) := H
    have A51 := Aside0.mk A510
    clear A510
    simp only [Option.some.injEq, Prod.mk.injEq] at H
    obtain ⟨rfl, rfl⟩ := H
    have hnb52 := NB312_313.out
    have hnc52 := NB313_312.out
    have hnb53 := NB312_314.out
    have hnc53 := NB314_312.out
    obtain ⟨hcz54_0, hfz54_0⟩ := bkA1 BK312.out
    have hnb55 := NB313_314.out
    have hnc55 := NB314_313.out
    obtain ⟨hcz56_0, hcz56_1, hfz56_0, hfz56_1⟩ := bkA2 BK313.out
    go_wp2_with (first | ((with_reducible refine gate_callee (f := 91) rfl ?_); refine goesL_ (some 43) rfl rfl Tryd.func91 (by kernel_rfl) rfl #[.agg #[.slice A0_0 l0_0.length c0_0], .agg #[.int .i64 a1_0, .string a1_1], .int .i64 a2, .int .i64 a3, .int .i64 a4] rfl (by (try simp only [List.map_toArray, List.map_cons, List.map_nil]); first | done | rfl | (simp only [List.length_drop, List.length_take]; rfl)) ?_; (with_reducible refine (spec_l4Claim.calls k _ _ l0_0 a1_0 a1_1 a2 a3 a4 t318 t321 _ ?side1 ?side2 A51.out).mono ?_); (case side1 => repeat (first | exact (Kd.C_below HR0_0.out HB.out) | (with_reducible refine Kd.C_alloc ?_ _) | (with_reducible refine Kd.C_drewN ?_ _) | (with_reducible refine Kd.C_drew ?_))); (case side2 => exact HC0_0.out); rintro e w57 ⟨v319, rfl, ho0, hb⟩; refine ⟨_, rfl, ?_⟩; have hb1_ := fromQ HB.out hb; have hb0_ := below_step hb1_ hb; have hW_ := below_step HB.out hb1_; have n0_ := Aside0.mk (Kd.S_lower (Kd.S_newB ho0 (g := gb313) (o := .cells #[.int .i64 a1_0, .string a1_1] 29 (0, 0)) (blk_below BK313.out hb1_)) (below_size hW_)); replace BK312 := kB BK312 hb0_; replace BK313 := kB BK313 hb0_; replace BK314 := kB BK314 hb0_; replace HB := kH HB hb0_; have HO320 := n0_; clear hb1_ hb0_ hW_ n0_; (try clear hb); (try clear hb2); (try clear hk); (try clear hi); (try clear ho0); obtain ⟨Ao58, co58, eo58⟩ := Kd.S_slice HO320.out; subst eo58; obtain ⟨hcz59_0, hfz59_0⟩ := bkA1 BK314.out))
    refine bodyPost_ret (results_ct rfl _ _ gb314 36 #[.slice Ao58 t318.length co58] (0, 0) _ rfl (by (with_reducible repeat (first | refine blk_drewN ?_ _ | refine blk_drew ?_ | refine blk_alloc ?_ _)); refine blk_put (cs := #[.slice none 0 0]) ?_ 0 _ rfl; (with_reducible repeat (first | refine blk_drewN ?_ _ | refine blk_drew ?_ | refine blk_alloc ?_ _)); exact BK314.out) Tryd.underlying36 rfl (by kernel_rfl)) rfl ?_
    exact ⟨_, by first | rfl | (simp [errW_none, errW_some] <;> rfl) | (simp [*, errW_none, errW_some] <;> rfl), by (with_reducible repeat (first | apply Kd.S_alloc | apply Kd.S_drewN | apply Kd.S_drew)); exact Kd.S_mono (Kd.S_far (p := ⟨gb314, 0, none⟩) (Kd.S_types HO320.out BK314.out (by decide)) (fun _ hk => hk.2) (.slice Ao58 t318.length co58)) (fun _ hk => trivial), by repeat (first | (with_reducible first | exact HB.out | apply below_alloc | apply pw_below_drewN | apply below_drew1 | refine below_set ?_ GE312.out | refine below_set ?_ GE313.out | refine below_set ?_ GE314.out) | exact HB.out)⟩
   replace c11 := Bool.eq_false_iff.mpr c11
   subst c11
   have H1 : (some (([] : List (S32)), 9)) = some (r1, r2) := by rw [if_neg (show ¬ (false = true) by decide)] at H; exact H
   clear H
   have H := H1
   clear H1
   simp only [Option.some.injEq, Prod.mk.injEq] at H
   obtain ⟨rfl, rfl⟩ := H
   go_enter Tryd.func40, Tryd.ntmps40
   go_wp2_with (first | ((with_reducible refine gate_dst (N := 5) rfl ?_); refine box_event ?hg (N := 5) ?hd (cs := #[.slice A0_0 l0_0.length c0_0]) (t := 36) ?hr ?_; (case hd => rfl); (case hg => rfl); (case hr => first | (go_simp; done) | (go_simp; rfl)); intro gb312 hg w60 hbox hb; have hb1_ := fromQ HB.out hb; have hb0_ := below_step hb1_ hb; have hW_ := below_step HB.out hb1_; have n1_ := Aside0.mk (hbox); have n2_ := szle hg hW_; have n3_ := szle hg hW_; replace HB := kH HB hb0_; have BK312 := n1_; have GW312 := n2_; have GE312 := n3_; clear hb1_ hb0_ hW_ n1_ n2_ n3_; clear hb hbox hg) | ((with_reducible refine gate_dst (N := 6) rfl ?_); refine box_event ?hg (N := 6) ?hd (cs := #[.int .i64 a1_0, .string a1_1]) (t := 29) ?hr ?_; (case hd => rfl); (case hg => rfl); (case hr => first | (go_simp; done) | (go_simp; rfl)); intro gb313 hg w61 hbox hb; have hb1_ := fromQ HB.out hb; have hb0_ := below_step hb1_ hb; have hW_ := below_step HB.out hb1_; have n2_ := Aside0.mk (hbox); have n3_ := szle hg hW_; have n4_ := szle hg hW_; have n5_ := nelt hg BK312 hb1_; have n6_ := negt hg BK312 hb1_; replace BK312 := kB BK312 hb0_; replace HB := kH HB hb0_; have BK313 := n2_; have GW313 := n3_; have GE313 := n4_; have NB312_313 := n5_; have NB313_312 := n6_; clear hb1_ hb0_ hW_ n2_ n3_ n4_ n5_ n6_; clear hb hbox hg) | ((with_reducible refine gate_dst (N := 10) rfl ?_); refine box_event ?hg (N := 10) ?hd (cs := #[.slice none 0 0]) (t := 36) ?hr ?_; (case hd => rfl); (case hg => rfl); (case hr => first | (go_simp; done) | (go_simp; rfl)); intro gb314 hg w62 hbox hb; have hb1_ := fromQ HB.out hb; have hb0_ := below_step hb1_ hb; have hW_ := below_step HB.out hb1_; have n3_ := Aside0.mk (hbox); have n4_ := szle hg hW_; have n5_ := szle hg hW_; have n6_ := nelt hg BK312 hb1_; have n7_ := negt hg BK312 hb1_; have n8_ := nelt hg BK313 hb1_; have n9_ := negt hg BK313 hb1_; replace BK312 := kB BK312 hb0_; replace BK313 := kB BK313 hb0_; replace HB := kH HB hb0_; have BK314 := n3_; have GW314 := n4_; have GE314 := n5_; have NB312_314 := n6_; have NB314_312 := n7_; have NB313_314 := n8_; have NB314_313 := n9_; clear hb1_ hb0_ hW_ n3_ n4_ n5_ n6_ n7_ n8_ n9_; clear hb hbox hg; have hnb63 := NB312_313.out; have hnc63 := NB313_312.out; have hnb64 := NB312_314.out; have hnc64 := NB314_312.out; obtain ⟨hcz65_0, hfz65_0⟩ := bkA1 BK312.out) | ((with_reducible refine gate_callee (f := 43) rfl ?_); refine goesL_ (some 13) rfl rfl Tryd.func43 (by kernel_rfl) rfl #[.agg #[.slice A0_0 l0_0.length c0_0]] rfl (by (try simp only [List.map_toArray, List.map_cons, List.map_nil]); first | done | rfl | (simp only [List.length_drop, List.length_take]; rfl)) ?_; (with_reducible refine (spec_ValidTable.calls k _ _ l0_0 true _ ?side1 ?side2 A6.out).mono ?_); (case side1 => repeat (first | exact (Kd.C_below HR0_0.out HB.out) | (with_reducible refine Kd.C_alloc ?_ _) | (with_reducible refine Kd.C_drewN ?_ _) | (with_reducible refine Kd.C_drew ?_))); (case side2 => exact HC0_0.out); rintro e w66 ⟨rfl, hb⟩; refine ⟨_, rfl, ?_⟩; have hb1_ := fromQ HB.out hb; have hb0_ := below_step hb1_ hb; replace BK312 := kB BK312 hb0_; replace BK313 := kB BK313 hb0_; replace BK314 := kB BK314 hb0_; replace HB := kH HB hb0_; clear hb1_ hb0_; (try clear hb); (try clear hb2); (try clear hk); (try clear hi); have hnb67 := NB313_314.out; have hnc67 := NB314_313.out; obtain ⟨hcz68_0, hcz68_1, hfz68_0, hfz68_1⟩ := bkA2 BK313.out) | (go_at_call 66; (with_reducible refine (spec_l4KeyOk.calls k a1_0 a1_1 true _ A8.out).mono ?_); rintro e w69 ⟨rfl, hb⟩; have hb1_ := fromQ HB.out hb; have hb0_ := below_step hb1_ hb; replace BK312 := kB BK312 hb0_; replace BK313 := kB BK313 hb0_; replace BK314 := kB BK314 hb0_; replace HB := kH HB hb0_; clear hb1_ hb0_; (try clear hb); (try clear hb2); (try clear hk); (try clear hi)) | (go_at_call 67; (with_reducible refine (spec_l4WorkerOk.calls a2 false _ A10.out).mono ?_); rintro e w' ⟨rfl, ⟨nd, rfl⟩⟩; (try (rw [drewN_self w69]; generalize hq_ : World.drewN w69 _ = w69; have n0_ : Aside0 (w69.heap[gb312]? = some (.cells #[.slice A0_0 l0_0.length c0_0] 36 (0, 0))) := ⟨by rw [← hq_]; exact (by (with_reducible repeat (first | refine blk_drewN ?_ _ | refine blk_drew ?_ | refine blk_alloc ?_ _)); exact BK312.out)⟩; have n1_ : Aside0 (w69.heap[gb313]? = some (.cells #[.int .i64 a1_0, .string a1_1] 29 (0, 0))) := ⟨by rw [← hq_]; exact (by (with_reducible repeat (first | refine blk_drewN ?_ _ | refine blk_drew ?_ | refine blk_alloc ?_ _)); exact BK313.out)⟩; have n2_ : Aside0 (w69.heap[gb314]? = some (.cells #[.slice none 0 0] 36 (0, 0))) := ⟨by rw [← hq_]; exact (by (with_reducible repeat (first | refine blk_drewN ?_ _ | refine blk_drew ?_ | refine blk_alloc ?_ _)); exact BK314.out)⟩; have n3_ : Aside0 (Below w.heap.size w w69) := ⟨by rw [← hq_]; exact (by repeat (first | (with_reducible first | exact HB.out | apply below_alloc | apply pw_below_drewN | apply below_drew1 | refine below_set ?_ GE312.out | refine below_set ?_ GE313.out | refine below_set ?_ GE314.out) | exact HB.out))⟩; clear BK312 BK313 BK314 HB hq_; have BK312 := n0_; have BK313 := n1_; have BK314 := n2_; have HB := n3_; clear n0_ n1_ n2_ n3_)); obtain ⟨hcz70_0, hfz70_0⟩ := bkA1 BK314.out))
   refine bodyPost_ret (results_ct rfl _ _ gb314 36 #[.slice none 0 0] (0, 0) _ rfl (by (with_reducible repeat (first | refine blk_drewN ?_ _ | refine blk_drew ?_ | refine blk_alloc ?_ _)); refine blk_put (cs := #[.slice none 0 0]) ?_ 0 _ rfl; (with_reducible repeat (first | refine blk_drewN ?_ _ | refine blk_drew ?_ | refine blk_alloc ?_ _)); exact BK314.out) Tryd.underlying36 rfl (by kernel_rfl)) rfl ?_
   exact ⟨_, by first | rfl | (simp [errW_none, errW_some] <;> rfl) | (simp [*, errW_none, errW_some] <;> rfl), by first | exact Kd.S_nil _ _ _ _ _ | exact Kd.N_nil _ _ _ _ _ | exact Kd.V_nil _ _ _ _ _ | exact Kd.Q_nil _ _ _ _ _ | exact Kd.R_nil _ _ _ _ _, by repeat (first | (with_reducible first | exact HB.out | apply below_alloc | apply pw_below_drewN | apply below_drew1 | refine below_set ?_ GE312.out | refine below_set ?_ GE313.out | refine below_set ?_ GE314.out) | exact HB.out)⟩
  replace c9 := Bool.eq_false_iff.mpr c9
  subst c9
  have H1 : (some (([] : List (S32)), 9)) = some (r1, r2) := by rw [if_neg (show ¬ (false = true) by decide)] at H; exact H
  clear H
  have H := H1
  clear H1
  simp only [Option.some.injEq, Prod.mk.injEq] at H
  obtain ⟨rfl, rfl⟩ := H
  go_enter Tryd.func40, Tryd.ntmps40
  go_wp2_with (first | ((with_reducible refine gate_dst (N := 5) rfl ?_); refine box_event ?hg (N := 5) ?hd (cs := #[.slice A0_0 l0_0.length c0_0]) (t := 36) ?hr ?_; (case hd => rfl); (case hg => rfl); (case hr => first | (go_simp; done) | (go_simp; rfl)); intro gb312 hg w71 hbox hb; have hb1_ := fromQ HB.out hb; have hb0_ := below_step hb1_ hb; have hW_ := below_step HB.out hb1_; have n1_ := Aside0.mk (hbox); have n2_ := szle hg hW_; have n3_ := szle hg hW_; replace HB := kH HB hb0_; have BK312 := n1_; have GW312 := n2_; have GE312 := n3_; clear hb1_ hb0_ hW_ n1_ n2_ n3_; clear hb hbox hg) | ((with_reducible refine gate_dst (N := 6) rfl ?_); refine box_event ?hg (N := 6) ?hd (cs := #[.int .i64 a1_0, .string a1_1]) (t := 29) ?hr ?_; (case hd => rfl); (case hg => rfl); (case hr => first | (go_simp; done) | (go_simp; rfl)); intro gb313 hg w72 hbox hb; have hb1_ := fromQ HB.out hb; have hb0_ := below_step hb1_ hb; have hW_ := below_step HB.out hb1_; have n2_ := Aside0.mk (hbox); have n3_ := szle hg hW_; have n4_ := szle hg hW_; have n5_ := nelt hg BK312 hb1_; have n6_ := negt hg BK312 hb1_; replace BK312 := kB BK312 hb0_; replace HB := kH HB hb0_; have BK313 := n2_; have GW313 := n3_; have GE313 := n4_; have NB312_313 := n5_; have NB313_312 := n6_; clear hb1_ hb0_ hW_ n2_ n3_ n4_ n5_ n6_; clear hb hbox hg) | ((with_reducible refine gate_dst (N := 10) rfl ?_); refine box_event ?hg (N := 10) ?hd (cs := #[.slice none 0 0]) (t := 36) ?hr ?_; (case hd => rfl); (case hg => rfl); (case hr => first | (go_simp; done) | (go_simp; rfl)); intro gb314 hg w73 hbox hb; have hb1_ := fromQ HB.out hb; have hb0_ := below_step hb1_ hb; have hW_ := below_step HB.out hb1_; have n3_ := Aside0.mk (hbox); have n4_ := szle hg hW_; have n5_ := szle hg hW_; have n6_ := nelt hg BK312 hb1_; have n7_ := negt hg BK312 hb1_; have n8_ := nelt hg BK313 hb1_; have n9_ := negt hg BK313 hb1_; replace BK312 := kB BK312 hb0_; replace BK313 := kB BK313 hb0_; replace HB := kH HB hb0_; have BK314 := n3_; have GW314 := n4_; have GE314 := n5_; have NB312_314 := n6_; have NB314_312 := n7_; have NB313_314 := n8_; have NB314_313 := n9_; clear hb1_ hb0_ hW_ n3_ n4_ n5_ n6_ n7_ n8_ n9_; clear hb hbox hg; have hnb74 := NB312_313.out; have hnc74 := NB313_312.out; have hnb75 := NB312_314.out; have hnc75 := NB314_312.out; obtain ⟨hcz76_0, hfz76_0⟩ := bkA1 BK312.out) | ((with_reducible refine gate_callee (f := 43) rfl ?_); refine goesL_ (some 13) rfl rfl Tryd.func43 (by kernel_rfl) rfl #[.agg #[.slice A0_0 l0_0.length c0_0]] rfl (by (try simp only [List.map_toArray, List.map_cons, List.map_nil]); first | done | rfl | (simp only [List.length_drop, List.length_take]; rfl)) ?_; (with_reducible refine (spec_ValidTable.calls k _ _ l0_0 true _ ?side1 ?side2 A6.out).mono ?_); (case side1 => repeat (first | exact (Kd.C_below HR0_0.out HB.out) | (with_reducible refine Kd.C_alloc ?_ _) | (with_reducible refine Kd.C_drewN ?_ _) | (with_reducible refine Kd.C_drew ?_))); (case side2 => exact HC0_0.out); rintro e w77 ⟨rfl, hb⟩; refine ⟨_, rfl, ?_⟩; have hb1_ := fromQ HB.out hb; have hb0_ := below_step hb1_ hb; replace BK312 := kB BK312 hb0_; replace BK313 := kB BK313 hb0_; replace BK314 := kB BK314 hb0_; replace HB := kH HB hb0_; clear hb1_ hb0_; (try clear hb); (try clear hb2); (try clear hk); (try clear hi); have hnb78 := NB313_314.out; have hnc78 := NB314_313.out; obtain ⟨hcz79_0, hcz79_1, hfz79_0, hfz79_1⟩ := bkA2 BK313.out) | (go_at_call 66; (with_reducible refine (spec_l4KeyOk.calls k a1_0 a1_1 false _ A8.out).mono ?_); rintro e w80 ⟨rfl, hb⟩; have hb1_ := fromQ HB.out hb; have hb0_ := below_step hb1_ hb; replace BK312 := kB BK312 hb0_; replace BK313 := kB BK313 hb0_; replace BK314 := kB BK314 hb0_; replace HB := kH HB hb0_; clear hb1_ hb0_; (try clear hb); (try clear hb2); (try clear hk); (try clear hi); obtain ⟨hcz81_0, hfz81_0⟩ := bkA1 BK314.out))
  refine bodyPost_ret (results_ct rfl _ _ gb314 36 #[.slice none 0 0] (0, 0) _ rfl (by (with_reducible repeat (first | refine blk_drewN ?_ _ | refine blk_drew ?_ | refine blk_alloc ?_ _)); refine blk_put (cs := #[.slice none 0 0]) ?_ 0 _ rfl; (with_reducible repeat (first | refine blk_drewN ?_ _ | refine blk_drew ?_ | refine blk_alloc ?_ _)); exact BK314.out) Tryd.underlying36 rfl (by kernel_rfl)) rfl ?_
  exact ⟨_, by first | rfl | (simp [errW_none, errW_some] <;> rfl) | (simp [*, errW_none, errW_some] <;> rfl), by first | exact Kd.S_nil _ _ _ _ _ | exact Kd.N_nil _ _ _ _ _ | exact Kd.V_nil _ _ _ _ _ | exact Kd.Q_nil _ _ _ _ _ | exact Kd.R_nil _ _ _ _ _, by repeat (first | (with_reducible first | exact HB.out | apply below_alloc | apply pw_below_drewN | apply below_drew1 | refine below_set ?_ GE312.out | refine below_set ?_ GE313.out | refine below_set ?_ GE314.out) | exact HB.out)⟩
 replace c7 := Bool.eq_false_iff.mpr c7
 subst c7
 have H1 : (some (([] : List (S32)), 9)) = some (r1, r2) := by rw [if_neg (show ¬ (false = true) by decide)] at H; exact H
 clear H
 have H := H1
 clear H1
 simp only [Option.some.injEq, Prod.mk.injEq] at H
 obtain ⟨rfl, rfl⟩ := H
 go_enter Tryd.func40, Tryd.ntmps40
 go_wp2_with (first | ((with_reducible refine gate_dst (N := 5) rfl ?_); refine box_event ?hg (N := 5) ?hd (cs := #[.slice A0_0 l0_0.length c0_0]) (t := 36) ?hr ?_; (case hd => rfl); (case hg => rfl); (case hr => first | (go_simp; done) | (go_simp; rfl)); intro gb312 hg w82 hbox hb; have hb1_ := fromQ HB.out hb; have hb0_ := below_step hb1_ hb; have hW_ := below_step HB.out hb1_; have n1_ := Aside0.mk (hbox); have n2_ := szle hg hW_; have n3_ := szle hg hW_; replace HB := kH HB hb0_; have BK312 := n1_; have GW312 := n2_; have GE312 := n3_; clear hb1_ hb0_ hW_ n1_ n2_ n3_; clear hb hbox hg) | ((with_reducible refine gate_dst (N := 6) rfl ?_); refine box_event ?hg (N := 6) ?hd (cs := #[.int .i64 a1_0, .string a1_1]) (t := 29) ?hr ?_; (case hd => rfl); (case hg => rfl); (case hr => first | (go_simp; done) | (go_simp; rfl)); intro gb313 hg w83 hbox hb; have hb1_ := fromQ HB.out hb; have hb0_ := below_step hb1_ hb; have hW_ := below_step HB.out hb1_; have n2_ := Aside0.mk (hbox); have n3_ := szle hg hW_; have n4_ := szle hg hW_; have n5_ := nelt hg BK312 hb1_; have n6_ := negt hg BK312 hb1_; replace BK312 := kB BK312 hb0_; replace HB := kH HB hb0_; have BK313 := n2_; have GW313 := n3_; have GE313 := n4_; have NB312_313 := n5_; have NB313_312 := n6_; clear hb1_ hb0_ hW_ n2_ n3_ n4_ n5_ n6_; clear hb hbox hg) | ((with_reducible refine gate_dst (N := 10) rfl ?_); refine box_event ?hg (N := 10) ?hd (cs := #[.slice none 0 0]) (t := 36) ?hr ?_; (case hd => rfl); (case hg => rfl); (case hr => first | (go_simp; done) | (go_simp; rfl)); intro gb314 hg w84 hbox hb; have hb1_ := fromQ HB.out hb; have hb0_ := below_step hb1_ hb; have hW_ := below_step HB.out hb1_; have n3_ := Aside0.mk (hbox); have n4_ := szle hg hW_; have n5_ := szle hg hW_; have n6_ := nelt hg BK312 hb1_; have n7_ := negt hg BK312 hb1_; have n8_ := nelt hg BK313 hb1_; have n9_ := negt hg BK313 hb1_; replace BK312 := kB BK312 hb0_; replace BK313 := kB BK313 hb0_; replace HB := kH HB hb0_; have BK314 := n3_; have GW314 := n4_; have GE314 := n5_; have NB312_314 := n6_; have NB314_312 := n7_; have NB313_314 := n8_; have NB314_313 := n9_; clear hb1_ hb0_ hW_ n3_ n4_ n5_ n6_ n7_ n8_ n9_; clear hb hbox hg; have hnb85 := NB312_313.out; have hnc85 := NB313_312.out; have hnb86 := NB312_314.out; have hnc86 := NB314_312.out; obtain ⟨hcz87_0, hfz87_0⟩ := bkA1 BK312.out) | ((with_reducible refine gate_callee (f := 43) rfl ?_); refine goesL_ (some 13) rfl rfl Tryd.func43 (by kernel_rfl) rfl #[.agg #[.slice A0_0 l0_0.length c0_0]] rfl (by (try simp only [List.map_toArray, List.map_cons, List.map_nil]); first | done | rfl | (simp only [List.length_drop, List.length_take]; rfl)) ?_; (with_reducible refine (spec_ValidTable.calls k _ _ l0_0 false _ ?side1 ?side2 A6.out).mono ?_); (case side1 => repeat (first | exact (Kd.C_below HR0_0.out HB.out) | (with_reducible refine Kd.C_alloc ?_ _) | (with_reducible refine Kd.C_drewN ?_ _) | (with_reducible refine Kd.C_drew ?_))); (case side2 => exact HC0_0.out); rintro e w88 ⟨rfl, hb⟩; refine ⟨_, rfl, ?_⟩; have hb1_ := fromQ HB.out hb; have hb0_ := below_step hb1_ hb; replace BK312 := kB BK312 hb0_; replace BK313 := kB BK313 hb0_; replace BK314 := kB BK314 hb0_; replace HB := kH HB hb0_; clear hb1_ hb0_; (try clear hb); (try clear hb2); (try clear hk); (try clear hi); have hnb89 := NB314_313.out; have hnc89 := NB313_314.out; obtain ⟨hcz90_0, hfz90_0⟩ := bkA1 BK314.out))
 refine bodyPost_ret (results_ct rfl _ _ gb314 36 #[.slice none 0 0] (0, 0) _ rfl (by (with_reducible repeat (first | refine blk_drewN ?_ _ | refine blk_drew ?_ | refine blk_alloc ?_ _)); refine blk_put (cs := #[.slice none 0 0]) ?_ 0 _ rfl; (with_reducible repeat (first | refine blk_drewN ?_ _ | refine blk_drew ?_ | refine blk_alloc ?_ _)); exact BK314.out) Tryd.underlying36 rfl (by kernel_rfl)) rfl ?_
 exact ⟨_, by first | rfl | (simp [errW_none, errW_some] <;> rfl) | (simp [*, errW_none, errW_some] <;> rfl), by first | exact Kd.S_nil _ _ _ _ _ | exact Kd.N_nil _ _ _ _ _ | exact Kd.V_nil _ _ _ _ _ | exact Kd.Q_nil _ _ _ _ _ | exact Kd.R_nil _ _ _ _ _, by repeat (first | (with_reducible first | exact HB.out | apply below_alloc | apply pw_below_drewN | apply below_drew1 | refine below_set ?_ GE312.out | refine below_set ?_ GE313.out | refine below_set ?_ GE314.out) | exact HB.out)⟩
def impl_wordByte.f (a0 : Int) : Option (Bool) := if a0 ≥ 97 then (if a0 ≤ 122 then (some true) else (if a0 ≥ 48 then (if a0 ≤ 57 then (some true) else (some (a0 == 95))) else (some (a0 == 95)))) else (if a0 ≥ 48 then (if a0 ≤ 57 then (some true) else (some (a0 == 95))) else (some (a0 == 95)))
set_option maxHeartbeats 8000000 in
set_option maxRecDepth 100000 in
theorem impl_wordByte.calls (a0 : Int) (r : Bool) (w : World) (h : impl_wordByte.f a0 = some r) :
 Calls Tryd.prog 155 #[.int .u8 a0] w fun e w' => e = .returned (.bool r) ∧ Drawn0 w w' := by
 have H : (if a0 ≥ 97 then (if a0 ≤ 122 then (some true) else (if a0 ≥ 48 then (if a0 ≤ 57 then (some true) else (some (a0 == 95))) else (some (a0 == 95)))) else (if a0 ≥ 48 then (if a0 ≤ 57 then (some true) else (some (a0 == 95))) else (some (a0 == 95)))) = some r := h
 clear h
 by_cases c2 : a0 ≥ 97
 ·
  rw [if_pos c2] at H
  have c2b0 : decide (97 ≤ a0) = true := decide_eq_true c2
  clear c2
  by_cases c3 : a0 ≤ 122
  ·
   rw [if_pos c3] at H
   have c3b0 : decide (a0 ≤ 122) = true := decide_eq_true c3
   clear c3
   obtain rfl := Option.some.inj H
   go_enter Tryd.func155, Tryd.ntmps155
   go_wp2
   go_ret
   exact ⟨by first | rfl | (simp; done) | (simp [*]; done), by repeat (first | exact Drawn0.refl _ | apply Drawn0.step)⟩
  rw [if_neg c3] at H
  have c3b0 : decide (a0 ≤ 122) = false := decide_eq_false c3
  clear c3
  by_cases c4 : a0 ≥ 48
  ·
   rw [if_pos c4] at H
   have c4b0 : decide (48 ≤ a0) = true := decide_eq_true c4
   clear c4
   by_cases c5 : a0 ≤ 57
   ·
    rw [if_pos c5] at H
    have c5b0 : decide (a0 ≤ 57) = true := decide_eq_true c5
    clear c5
    obtain rfl := Option.some.inj H
    go_enter Tryd.func155, Tryd.ntmps155
    go_wp2
    go_ret
    exact ⟨by first | rfl | (simp; done) | (simp [*]; done), by repeat (first | exact Drawn0.refl _ | apply Drawn0.step)⟩
   rw [if_neg c5] at H
   have c5b0 : decide (a0 ≤ 57) = false := decide_eq_false c5
   clear c5
   obtain rfl := Option.some.inj H
   go_enter Tryd.func155, Tryd.ntmps155
   go_wp2
   go_ret
   exact ⟨by first | rfl | (simp; done) | (simp [*]; done), by repeat (first | exact Drawn0.refl _ | apply Drawn0.step)⟩
  rw [if_neg c4] at H
  have c4b0 : decide (48 ≤ a0) = false := decide_eq_false c4
  clear c4
  obtain rfl := Option.some.inj H
  go_enter Tryd.func155, Tryd.ntmps155
  go_wp2
  go_ret
  exact ⟨by first | rfl | (simp; done) | (simp [*]; done), by repeat (first | exact Drawn0.refl _ | apply Drawn0.step)⟩
 rw [if_neg c2] at H
 have c2b0 : decide (97 ≤ a0) = false := decide_eq_false c2
 clear c2
 by_cases c6 : a0 ≥ 48
 ·
  rw [if_pos c6] at H
  have c6b0 : decide (48 ≤ a0) = true := decide_eq_true c6
  clear c6
  by_cases c7 : a0 ≤ 57
  ·
   rw [if_pos c7] at H
   have c7b0 : decide (a0 ≤ 57) = true := decide_eq_true c7
   clear c7
   obtain rfl := Option.some.inj H
   go_enter Tryd.func155, Tryd.ntmps155
   go_wp2
   go_ret
   exact ⟨by first | rfl | (simp; done) | (simp [*]; done), by repeat (first | exact Drawn0.refl _ | apply Drawn0.step)⟩
  rw [if_neg c7] at H
  have c7b0 : decide (a0 ≤ 57) = false := decide_eq_false c7
  clear c7
  obtain rfl := Option.some.inj H
  go_enter Tryd.func155, Tryd.ntmps155
  go_wp2
  go_ret
  exact ⟨by first | rfl | (simp; done) | (simp [*]; done), by repeat (first | exact Drawn0.refl _ | apply Drawn0.step)⟩
 rw [if_neg c6] at H
 have c6b0 : decide (48 ≤ a0) = false := decide_eq_false c6
 clear c6
 obtain rfl := Option.some.inj H
 go_enter Tryd.func155, Tryd.ntmps155
 go_wp2
 go_ret
 exact ⟨by first | rfl | (simp; done) | (simp [*]; done), by repeat (first | exact Drawn0.refl _ | apply Drawn0.step)⟩
theorem wordByte_wb (b : Int) : impl_wordByte.f b = some (wb b) := by
 unfold impl_wordByte.f wb
 by_cases h1 : b ≥ 97
 ·
  by_cases h2 : b ≤ 122
  · simp [h1, h2]
  by_cases h3 : b ≥ 48
  · by_cases h4 : b ≤ 57 <;> simp [h1, h2, h3, h4]
  simp [h1, h2, h3]
 by_cases h3 : b ≥ 48
 · by_cases h4 : b ≤ 57 <;> simp [h1, h3, h4]
 simp [h1, h3]
def impl_goodName.f (a0 : ByteArray) : Option Bool := some (gnB a0)
theorem gnB_no {s : ByteArray} (h : ¬ (1 ≤ s.size ∧ s.size ≤ 12 ∧ resB s.data.toList = false ∧ 97 ≤ bt s 0 ∧ bt s 0 ≤ 122 ∧ ∀ i : Nat, i < s.size → wb (bt s i) = true)) : gnB s = false := decide_eq_false h
set_option maxHeartbeats 4000000 in
set_option maxRecDepth 100000 in
theorem impl_goodName.calls (a0 : ByteArray) (r : Bool) (w : World) (hG : GRes w) (h : impl_goodName.f a0 = some r) :
 Calls Tryd.prog 120 #[.string a0] w fun e w' => e = .returned (.bool r) ∧ Drawn0 w w' := by
 obtain rfl := Option.some.inj h
 clear h
 by_cases c1 : (a0.size : Int) < 1
 ·
  have e := gnB_no (s := a0) (by omega)
  rw [e]
  clear e
  have c1b0 : decide ((a0.size : Int) < 1) = true := decide_eq_true c1
  have c1b1 : decide (a0.size < 1) = true := decide_eq_true (by omega)
  clear c1 hG
  go_enter Tryd.func120, Tryd.ntmps120
  go_wp2
  go_ret
  exact ⟨rfl, Drawn0.refl _⟩
 by_cases c2 : (a0.size : Int) > 12
 ·
  have e := gnB_no (s := a0) (by omega)
  rw [e]
  clear e
  have c1b0 : decide ((a0.size : Int) < 1) = false := decide_eq_false c1
  have c1b1 : decide (a0.size < 1) = false := decide_eq_false (by omega)
  have c2b0 : decide (12 < (a0.size : Int)) = true := decide_eq_true c2
  have c2b1 : decide (12 < a0.size) = true := decide_eq_true (by omega)
  clear c1 c2 hG
  go_enter Tryd.func120, Tryd.ntmps120
  go_wp2
  go_ret
  exact ⟨rfl, Drawn0.refl _⟩
 obtain ⟨bR, hcell, hown⟩ := hG.out
 have hlk := res_lookup hown a0 (by unfold maxLen; omega)
 have q6 : (0 < a0.size) = True := eq_true (by omega)
 have qi6 : (0 < (a0.size : Int)) = True := eq_true (by omega)
 have hx6 : ∀ h : 0 < a0.size, ((a0[0]'h).toNat : Int) = bt a0 0 := bt_at a0 0
 have Hs1 := Lib.hid (show 1 ≤ a0.size ∧ a0.size ≤ 12 by omega)
 have c1b0 : decide ((a0.size : Int) < 1) = false := decide_eq_false c1
 have c1b1 : decide (a0.size < 1) = false := decide_eq_false (by omega)
 have c2b0 : decide (12 < (a0.size : Int)) = false := decide_eq_false c2
 have c2b1 : decide (12 < a0.size) = false := decide_eq_false (by omega)
 clear c1 c2 hown hG
 cases hr : resB a0.data.toList
 case true =>
  have e := gnB_no (s := a0) (by intro hh; rw [hh.2.2.1] at hr; cases hr)
  rw [e]
  rw [hr, if_pos rfl] at hlk
  clear e hr Hs1
  go_enter Tryd.func120, Tryd.ntmps120
  go_wp2
  go_ret
  exact ⟨rfl, Drawn0.refl _⟩
 rw [hr, if_neg (by simp)] at hlk
 have Hr := Lib.hid hr
 clear hr
 by_cases c3 : bt a0 0 < 97
 ·
  have e := gnB_no (s := a0) (by omega)
  rw [e]
  clear e Hs1 Hr
  have c3b0 : decide (bt a0 0 < 97) = true := decide_eq_true c3
  clear c3
  go_enter Tryd.func120, Tryd.ntmps120
  go_wp2
  go_ret
  exact ⟨rfl, Drawn0.refl _⟩
 by_cases c4 : bt a0 0 > 122
 ·
  have e := gnB_no (s := a0) (by omega)
  rw [e]
  clear e Hs1 Hr
  have c3b0 : decide (bt a0 0 < 97) = false := decide_eq_false c3
  have c4b0 : decide (122 < bt a0 0) = true := decide_eq_true c4
  clear c3 c4
  go_enter Tryd.func120, Tryd.ntmps120
  go_wp2
  go_ret
  exact ⟨rfl, Drawn0.refl _⟩
 have H0 := Lib.hid (show 97 ≤ bt a0 0 ∧ bt a0 0 ≤ 122 by omega)
 have c3b0 : decide (bt a0 0 < 97) = false := decide_eq_false c3
 have c4b0 : decide (122 < bt a0 0) = false := decide_eq_false c4
 clear c3 c4
 go_enter Tryd.func120, Tryd.ntmps120
 go_wp2
 clear hx6 q6 qi6 c1b0 c1b1 c2b0 c2b1 c3b0 c4b0 hlk hcell
 go_loopw [30] (fun i wr => ∃ k : Nat, k ≤ a0.size ∧ i = .int .i64 k ∧ Aside0 (∀ j : Nat, j < k → wb (bt a0 j) = true) ∧ Drawn0 w wr) (fun i _ => a0.size - (intOf i).toNat)
 case atStart => exact ⟨0, Nat.zero_le _, rfl, ⟨fun j hj => by omega⟩, Drawn0.refl _⟩
 case round =>
  obtain ⟨k, hk, rfl, HA, HD⟩ := hrel
  by_cases hlt : k < a0.size
  ·
   have hx : ∀ h : k < a0.size, ((a0[k]'h).toNat : Int) = bt a0 (k : Int) := fun h => by simp [bt, h]
   have ql : decide (k < a0.size) = true := decide_eq_true hlt
   have hs12 := Hs1.out.2
   cases hw : wb (bt a0 k)
   case true =>
    have HW := Lib.hid hw
    clear hw
    go_wp2_with (go_at_call 155; (refine (impl_wordByte.calls _ _ _ ((wordByte_wb _).trans (congrArg some HW.out))).mono ?_); rintro e w' ⟨rfl, ⟨nd, rfl⟩⟩)
    go_roundw
    case rel => exact ⟨k + 1, by omega, by go_num, ⟨fun j hj => by
     rcases Nat.lt_succ_iff_lt_or_eq.1 hj with h | rfl
     · exact HA.out j h
     exact HW.out⟩, HD.step _⟩
    case measure => simp [intOf]; omega
   case false =>
    have e := gnB_no (s := a0) (fun hh => by rw [hh.2.2.2.2.2 k hlt] at hw; cases hw)
    have HW := Lib.hid hw
    clear hw
    have E := Lib.hid e
    clear e
    go_wp2_with (go_at_call 155; (refine (impl_wordByte.calls _ _ _ ((wordByte_wb _).trans (congrArg some HW.out))).mono ?_); rintro e w' ⟨rfl, ⟨nd, rfl⟩⟩)
    go_ret
    exact ⟨by simp [E.out], HD.step _⟩
  obtain rfl : k = a0.size := by omega
  have e : gnB a0 = true := decide_eq_true ⟨Hs1.out.1, Hs1.out.2, Hr.out, H0.out.1, H0.out.2, HA.out⟩
  have E := Lib.hid e
  clear e hlt hk
  go_wp2
  go_ret
  exact ⟨by simp [E.out], HD⟩
def impl_Key_valid.f (a0_0 : Int) (a0_1 : ByteArray) : Option (Bool) := if a0_0 ≥ 1 then (if a0_0 ≤ 3 then ((impl_goodName.f a0_1).bind fun t323 => (some t323)) else (some false)) else (some false)
set_option maxHeartbeats 8000000 in
set_option maxRecDepth 100000 in
theorem impl_Key_valid.calls (a0_0 : Int) (a0_1 : ByteArray) (r : Bool) (w : World) (hG : GRes w) (h : impl_Key_valid.f a0_0 a0_1 = some r) :
 Calls Tryd.prog 70 #[.agg #[.int .i64 a0_0, .string a0_1]] w fun e w' => e = .returned (.bool r) ∧ Below w.heap.size w w' := by
 have hu29 := Tryd.underlying29
 have HG := Aside0.mk hG
 clear hG
 have HB := Aside0.mk (Below.refl w.heap.size w)
 have H : (if a0_0 ≥ 1 then (if a0_0 ≤ 3 then ((impl_goodName.f a0_1).bind fun t323 => (some t323)) else (some false)) else (some false)) = some r := h
 clear h
 by_cases c2 : a0_0 ≥ 1
 ·
  rw [if_pos c2] at H
  have c2b0 : decide (1 ≤ a0_0) = true := decide_eq_true c2
  clear c2
  by_cases c3 : a0_0 ≤ 3
  ·
   rw [if_pos c3] at H
   have c3b0 : decide (a0_0 ≤ 3) = true := decide_eq_true c3
   clear c3
   replace H := Option.bind_eq_some_iff.mp H
   obtain ⟨t323, A40, H⟩ := H
   replace H : (some t323) = some r := H
   have A4 := Aside0.mk A40
   clear A40
   obtain rfl := Option.some.inj H
   go_enter Tryd.func70, Tryd.ntmps70
   go_wp2_with (first | ((with_reducible refine gate_dst (N := 1) rfl ?_); refine box_event ?hg (N := 1) ?hd (cs := #[.int .i64 a0_0, .string a0_1]) (t := 29) ?hr ?_; (case hd => rfl); (case hg => rfl); (case hr => first | (go_simp; done) | (go_simp; rfl)); intro gb322 hg w5 hbox hb; have hb1_ := fromQ HB.out hb; have hb0_ := below_step hb1_ hb; have hW_ := below_step HB.out hb1_; have n1_ := Aside0.mk (hbox); have n2_ := szle hg hW_; have n3_ := szle hg hW_; replace HB := kH HB hb0_; have BK322 := n1_; have GW322 := n2_; have GE322 := n3_; clear hb1_ hb0_ hW_ n1_ n2_ n3_; clear hb hbox hg; obtain ⟨hcz6_0, hcz6_1, hfz6_0, hfz6_1⟩ := bkA2 BK322.out) | (go_at_call 120; (with_reducible refine (impl_goodName.calls a0_1 t323 _ ?side1 A4.out).mono ?_); (case side1 => (first | (with_reducible exact HG.out) | exact GRes.below HG.out (by repeat (first | (with_reducible first | exact HB.out | apply below_alloc | apply pw_below_drewN | apply below_drew1 | refine below_set ?_ GE322.out) | exact HB.out)) | (repeat (first | exact HG.out | apply GRes.drewN | apply GRes.drew | apply GRes.alloc)))); rintro e w' ⟨rfl, ⟨nd, rfl⟩⟩))
   go_ret
   exact ⟨by first | rfl | (simp [errW_none, errW_some] <;> rfl) | (simp [*, errW_none, errW_some] <;> rfl), by repeat (first | (with_reducible first | exact HB.out | apply below_alloc | apply pw_below_drewN | apply below_drew1 | refine below_set ?_ GE322.out) | exact HB.out)⟩
  rw [if_neg c3] at H
  have c3b0 : decide (a0_0 ≤ 3) = false := decide_eq_false c3
  clear c3
  obtain rfl := Option.some.inj H
  go_enter Tryd.func70, Tryd.ntmps70
  go_wp2_with (first | ((with_reducible refine gate_dst (N := 1) rfl ?_); refine box_event ?hg (N := 1) ?hd (cs := #[.int .i64 a0_0, .string a0_1]) (t := 29) ?hr ?_; (case hd => rfl); (case hg => rfl); (case hr => first | (go_simp; done) | (go_simp; rfl)); intro gb322 hg w7 hbox hb; have hb1_ := fromQ HB.out hb; have hb0_ := below_step hb1_ hb; have hW_ := below_step HB.out hb1_; have n1_ := Aside0.mk (hbox); have n2_ := szle hg hW_; have n3_ := szle hg hW_; replace HB := kH HB hb0_; have BK322 := n1_; have GW322 := n2_; have GE322 := n3_; clear hb1_ hb0_ hW_ n1_ n2_ n3_; clear hb hbox hg; obtain ⟨hcz8_0, hcz8_1, hfz8_0, hfz8_1⟩ := bkA2 BK322.out))
  go_ret
  exact ⟨by first | rfl | (simp [errW_none, errW_some] <;> rfl) | (simp [*, errW_none, errW_some] <;> rfl), by repeat (first | (with_reducible first | exact HB.out | apply below_alloc | apply pw_below_drewN | apply below_drew1 | refine below_set ?_ GE322.out) | exact HB.out)⟩
 rw [if_neg c2] at H
 have c2b0 : decide (1 ≤ a0_0) = false := decide_eq_false c2
 clear c2
 obtain rfl := Option.some.inj H
 go_enter Tryd.func70, Tryd.ntmps70
 go_wp2_with (first | ((with_reducible refine gate_dst (N := 1) rfl ?_); refine box_event ?hg (N := 1) ?hd (cs := #[.int .i64 a0_0, .string a0_1]) (t := 29) ?hr ?_; (case hd => rfl); (case hg => rfl); (case hr => first | (go_simp; done) | (go_simp; rfl)); intro gb322 hg w9 hbox hb; have hb1_ := fromQ HB.out hb; have hb0_ := below_step hb1_ hb; have hW_ := below_step HB.out hb1_; have n1_ := Aside0.mk (hbox); have n2_ := szle hg hW_; have n3_ := szle hg hW_; replace HB := kH HB hb0_; have BK322 := n1_; have GW322 := n2_; have GE322 := n3_; clear hb1_ hb0_ hW_ n1_ n2_ n3_; clear hb hbox hg; obtain ⟨hcz10_0, hcz10_1, hfz10_0, hfz10_1⟩ := bkA2 BK322.out))
 go_ret
 exact ⟨by first | rfl | (simp [errW_none, errW_some] <;> rfl) | (simp [*, errW_none, errW_some] <;> rfl), by repeat (first | (with_reducible first | exact HB.out | apply below_alloc | apply pw_below_drewN | apply below_drew1 | refine below_set ?_ GE322.out) | exact HB.out)⟩
def kyB (k : S29) : Bool := decide (1 ≤ k.f0 ∧ k.f0 ≤ 3) && gnB k.f1
theorem keyValid_f (k : S29) : impl_Key_valid.f k.f0 k.f1 = some (kyB k) := by
 unfold impl_Key_valid.f kyB impl_goodName.f
 by_cases h1 : k.f0 ≥ 1
 · by_cases h2 : k.f0 ≤ 3
   · simp [h1, h2]
   simp [h1, h2]
 simp [h1]
theorem rd_mem_ky (l : List S29) {k : Nat} (h : k < l.length) : rd_T29 l k ∈ l := by
 unfold rd_T29
 rw [Int.toNat_natCast, List.getD_eq_getElem?_getD, List.getElem?_eq_getElem h]
 exact List.getElem_mem h
theorem slices_ContainsFunc_impl_Key_impl_Key_130.pred (a0_0 : Int) (a0_1 : ByteArray) (w : World) (hG : GRes w) :
 Calls Tryd.prog 130 #[.agg #[.int .i64 a0_0, .string a0_1]] w fun e w' => e = .returned (.bool (!kyB ⟨a0_0, a0_1⟩)) ∧ Below w.heap.size w w' := by
 have hu := Tryd.underlying29
 have HG := Aside0.mk (hG.alloc (.cells #[.int .i64 a0_0, .string a0_1] 29))
 have HF := Aside0.mk (keyValid_f ⟨a0_0, a0_1⟩)
 clear hG
 go_enter Tryd.func130, Tryd.ntmps130
 go_wp2_with (go_at_call 70; (refine (impl_Key_valid.calls _ _ _ _ (by exact HG.out) HF.out).mono ?_); rintro e w' ⟨rfl, hb⟩)
 go_ret
 exact ⟨rfl, below_then ((Below.refl _ _).alloc (Nat.le_refl _) _) (by simp) hb⟩
def idxKy : List S29 → Nat → Int
 | [], _ => -1
 | x :: r, k => if kyB x = false then k else idxKy r (k + 1)
theorem idxKy_cons (x : S29) (r : List S29) (k : Nat) : idxKy (x :: r) k = if kyB x = false then (k : Int) else idxKy r (k + 1) := rfl
theorem idxKy_any : ∀ (l : List S29) (k : Nat), decide (0 ≤ idxKy l k) = l.any fun x => !kyB x
 | [], _ => rfl
 | x :: r, k => by
  unfold idxKy
  rw [List.any_cons]
  cases h : kyB x
  · simp
  simpa using idxKy_any r (k + 1)
theorem drop_ky (l : List S29) (i : Nat) (hi : i < l.length) : l.drop i = rd_T29 l i :: l.drop (i + 1) := by
 rw [List.drop_eq_getElem_cons hi]
 unfold rd_T29
 rw [Int.toNat_natCast, List.getD_eq_getElem?_getD, List.getElem?_eq_getElem hi]
 rfl
set_option maxHeartbeats 4000000 in
theorem slices_ContainsFunc_impl_Key_impl_Key_130.idx (A0 : Option Addr) (c0 : Nat) (l0 : List S29) (w : World) (hG : GRes w) (hr0 : Kd.C k29 w A0 l0.length l0) :
 Calls Tryd.prog 127 #[.slice A0 l0.length c0, .func (.func 130) #[] #[]] w fun e w' => e = .returned (.int .i64 (idxKy l0 0)) ∧ Below w.heap.size w w' := by
 have hu := Tryd.underlying29
 have HG := Aside0.mk hG
 have HR0 := Aside0.mk hr0
 have hn := hr0.2.1
 clear hr0 hG
 go_enter Tryd.func127, Tryd.ntmps127
 go_wp2
 go_loopw [8] (fun i wr => ∃ k : Nat, k ≤ l0.length ∧ i = .int .i64 k ∧ Aside0 (idxKy (l0.drop k) k = idxKy l0 0) ∧ Aside0 (Below w.heap.size w wr)) (fun i _ => l0.length - (intOf i).toNat)
 case atStart => exact ⟨0, Nat.zero_le _, rfl, ⟨rfl⟩, ⟨Below.refl _ _⟩⟩
 case round =>
  obtain ⟨k, hk, rfl, HV, HB⟩ := hrel
  by_cases hlt : k < l0.length
  ·
   have p102 : 0 ≤ (k : Int) := by omega
   have q102 : (k : Int) < (l0.length : Int) := by omega
   obtain ⟨ad, e102, hx0, hx1⟩ := at_T29 HR0.out k p102 q102
   cases e102
   replace hx0 := bcl HB hx0
   replace hx1 := bcl HB hx1
   rw [Int.toNat_natCast] at hx0 hx1
   have HD := Aside0.mk (drop_ky l0 k hlt)
   obtain ⟨s, hs⟩ : ∃ s, s = rd_T29 l0 k := ⟨_, rfl⟩
   rw [← hs] at hx0 hx1
   have HS := Lib.hid hs
   clear hs
   have ql : decide (k < l0.length) = true := decide_eq_true hlt
   have hv := HV.out
   rw [HD.out, ← HS.out, idxKy_cons] at hv
   have HG1 := Aside0.mk (GRes.below HG.out HB.out)
   cases hc : kyB s
   case false =>
    rw [if_pos hc] at hv
    have HE := Aside0.mk hv
    have HP := Aside0.mk (show (!kyB ⟨s.f0, s.f1⟩) = true by rw [show (⟨s.f0, s.f1⟩ : S29) = s from rfl, hc]; rfl)
    clear hv hc
    go_wp2_with (go_at_call 130; (refine (slices_ContainsFunc_impl_Key_impl_Key_130.pred _ _ _ (by exact HG1.out)).mono ?_); rintro e w' ⟨rfl, hb⟩; rw [HP.out]; have HB1 := Aside0.mk (below_then HB.out HB.out.size hb); clear hb)
    go_ret
    exact ⟨by simp [← HE.out], HB1.out⟩
   case true =>
    rw [hc, if_neg (by simp)] at hv
    have HE := Aside0.mk hv
    have HP := Aside0.mk (show (!kyB ⟨s.f0, s.f1⟩) = false by rw [show (⟨s.f0, s.f1⟩ : S29) = s from rfl, hc]; rfl)
    clear hv hc
    go_wp2_with (go_at_call 130; (refine (slices_ContainsFunc_impl_Key_impl_Key_130.pred _ _ _ (by exact HG1.out)).mono ?_); rintro e w' ⟨rfl, hb⟩; rw [HP.out]; have HB1 := Aside0.mk (below_then HB.out HB.out.size hb); clear hb)
    go_roundw
    case rel => exact ⟨k + 1, by omega, by go_num, HE, HB1⟩
    case measure => simp [intOf]; omega
  obtain rfl : k = l0.length := by omega
  have HE := Aside0.mk (show idxKy l0 0 = -1 by rw [← HV.out, List.drop_length]; rfl)
  have ql : decide (l0.length < l0.length) = false := decide_eq_false hlt
  clear hlt hk
  go_wp2
  go_ret
  exact ⟨by simp [HE.out], HB.out⟩
def slices_ContainsFunc_impl_Key_impl_Key_130.f (l0 : List S29) : Option Bool := some (l0.any fun x => !kyB x)
set_option maxHeartbeats 4000000 in
theorem slices_ContainsFunc_impl_Key_impl_Key_130.calls (A0 : Option Addr) (c0 : Nat) (l0 : List S29) (r : Bool) (w : World) (hG : GRes w) (hr0 : Kd.C k29 w A0 l0.length l0) (hc0 : l0.length ≤ c0) (h : slices_ContainsFunc_impl_Key_impl_Key_130.f l0 = some r) :
 Calls Tryd.prog 86 #[.slice A0 l0.length c0, .func (.func 130) #[] #[]] w fun e w' => e = .returned (.bool r) ∧ Below w.heap.size w w' := by
 obtain rfl := Option.some.inj h
 have HI := Aside0.mk (slices_ContainsFunc_impl_Key_impl_Key_130.idx A0 c0 l0 w hG hr0)
 have hA := idxKy_any l0 0
 obtain ⟨x, hx⟩ : ∃ x, x = idxKy l0 0 := ⟨_, rfl⟩
 rw [← hx] at hA
 have HX := Aside0.mk hx
 clear hx h hG hr0
 have HA := Aside0.mk hA
 clear hA
 go_enter Tryd.func86, Tryd.ntmps86
 go_wp2_with (go_at_call 127; refine HI.out.mono ?_; rintro e w' ⟨rfl, hb⟩; rw [← HX.out])
 go_ret
 exact ⟨by simp [← HA.out], hb⟩
end Go.Proofs.YtnbohlcibgfjaaaDoor.Gp
end
