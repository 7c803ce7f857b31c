/- A part of the proof of RowFnExactFinish: each text's theorems that it needs, packed by shake.py, a program of this work; Lean checks them. -/
import Derived.Test.YtnbohlcibgfjaaaDoorFin3
import Derived.Test.YtnbohlcibgfjaaaDoorFin12
section
namespace Go.Proofs.YtnbohlcibgfjaaaDoor.Gp
open Go.RowKit Go.Proofs.YtnbohlcibgfjaaaDoorW.PrintWords Go.Proofs.YtnbohlcibgfjaaaDoorW.PrintLast Go.Proofs.YtnbohlcibgfjaaaDoorW.PrintMore
set_option linter.unusedVariables false
set_option linter.unusedSimpArgs false
def spec_l4Mine.f (k : Nat) (l0_0 : List (S32)) (a1_0 : Int) (a1_1 : ByteArray) (a2 : Int) (a3 : Int) : Option (Int × ByteArray × Bool × ByteArray × (List (S29)) × Int × Int × Int × Int × Bool) := (spec_l4Find.f k l0_0 a1_0 a1_1).bind fun bt243 => ((spec_l4SameKey.f bt243.1 bt243.2.1 a1_0 a1_1).bind fun t255 => (if t255 = true then (if bt243.2.2.2.2.2.2.2.1 = (wrap64 (a2 + 1)) then (if bt243.2.2.2.2.2.2.2.2 = a3 then (some (bt243.1, bt243.2.1, bt243.2.2.1, bt243.2.2.2.1, bt243.2.2.2.2.1, bt243.2.2.2.2.2.1, bt243.2.2.2.2.2.2.1, bt243.2.2.2.2.2.2.2.1, bt243.2.2.2.2.2.2.2.2, decide (bt243.2.2.2.2.2.1 ≤ a3))) else (some (bt243.1, bt243.2.1, bt243.2.2.1, bt243.2.2.2.1, bt243.2.2.2.2.1, bt243.2.2.2.2.2.1, bt243.2.2.2.2.2.2.1, bt243.2.2.2.2.2.2.2.1, bt243.2.2.2.2.2.2.2.2, false))) else (some (bt243.1, bt243.2.1, bt243.2.2.1, bt243.2.2.2.1, bt243.2.2.2.2.1, bt243.2.2.2.2.2.1, bt243.2.2.2.2.2.2.1, bt243.2.2.2.2.2.2.2.1, bt243.2.2.2.2.2.2.2.2, false))) else (some (bt243.1, bt243.2.1, bt243.2.2.1, bt243.2.2.2.1, bt243.2.2.2.2.1, bt243.2.2.2.2.2.1, bt243.2.2.2.2.2.2.1, bt243.2.2.2.2.2.2.2.1, bt243.2.2.2.2.2.2.2.2, false))))
def spec_l4Mine.T2 : Bool × List (List Nat × List Nat) := (true, [([], []), ([], []), ([1], [1]), ([], []), ([2, 3], [2, 3]), ([4, 4], [4]), ([5], [5]), ([6, 5], [5, 6]), ([5], [5]), ([8, 5], [5, 8]), ([7, 9, 5], [5, 7, 9]), ([5, 10], [5, 10]), ([11, 5], [11]), ([12], [12]), ([13, 12], [12, 13]), ([12], [12]), ([14, 15, 12], [12, 14, 15]), ([12, 16], [12, 16]), ([17, 12], [17]), ([18], [18]), ([19, 18], [18, 19]), ([18], [18]), ([20, 21, 18], [18, 20, 21]), ([18, 22], [18, 22]), ([0, 18, 0], [0]), ([23, 24, 0, 1, 2, 3, 4, 5, 6, 7, 8, 9, 10, 11, 12, 13, 14, 15, 16, 17, 18, 19, 20, 21, 22, 23, 24], [23])])
def spec_l4Mine.B2 : List Nat := [0, 0, 2, 0, 14, 30, 62, 126, 62, 318, 1022, 2046, 4094, 8190, 16382, 8190, 65534, 131070, 262142, 524286, 1048574, 524286, 4194302, 8388606, 524287, 33554431]
theorem spec_l4Mine.tab2 : rtab .any (opsOf Tryd.f80 2) = spec_l4Mine.T2 := by kernel_rfl
theorem spec_l4Mine.bits2 : waitsOk spec_l4Mine.T2.2 spec_l4Mine.B2 = true := by kernel_rfl
set_option maxHeartbeats 8000000 in
set_option maxRecDepth 100000 in
theorem spec_l4Mine.calls (k : Nat) (A0_0 : Option Addr) (c0_0 : Nat) (l0_0 : List (S32)) (a1_0 : Int) (a1_1 : ByteArray) (a2 : Int) (a3 : Int) (r1 : Int) (r2 : ByteArray) (r3 : Bool) (r4 : ByteArray) (r5 : List (S29)) (r6 : Int) (r7 : Int) (r8 : Int) (r9 : Int) (r10 : Bool) (w : World) (hr0_0 : Kd.C k32 w A0_0 l0_0.length l0_0) (hc0_0 : l0_0.length ≤ c0_0) (h : spec_l4Mine.f k l0_0 a1_0 a1_1 a2 a3 = some (r1, r2, r3, r4, r5, r6, r7, r8, r9, r10)) :
 Calls Tryd.prog 80 #[.agg #[.slice A0_0 l0_0.length c0_0], .agg #[.int .i64 a1_0, .string a1_1], .int .i64 a2, .int .i64 a3] w fun e w' => ∃ v4_ : Value, e = .returned (.tuple #[.agg #[.int .i64 r1, .string r2, .bool r3, .string r4, v4_, .int .i64 r6, .int .i64 r7, .int .i64 r8, .int .i64 r9], .bool r10]) ∧ Kd.R k29 29 w' w.heap.size (fun _ => True) v4_ r5 ∧ Below w.heap.size w w' := by
 have hu36 := Tryd.underlying36
 have hu29 := Tryd.underlying29
 have hu32 := Tryd.underlying32
 have HR0_0 := Aside0.mk hr0_0
 have HC0_0 := Aside0.mk hc0_0
 clear hr0_0 hc0_0
 have HB := Aside0.mk (Below.refl w.heap.size w)
 have H : ((spec_l4Find.f k l0_0 a1_0 a1_1).bind fun bt243 => ((spec_l4SameKey.f bt243.1 bt243.2.1 a1_0 a1_1).bind fun t255 => (if t255 = true then (if bt243.2.2.2.2.2.2.2.1 = (wrap64 (a2 + 1)) then (if bt243.2.2.2.2.2.2.2.2 = a3 then (some (bt243.1, bt243.2.1, bt243.2.2.1, bt243.2.2.2.1, bt243.2.2.2.2.1, bt243.2.2.2.2.2.1, bt243.2.2.2.2.2.2.1, bt243.2.2.2.2.2.2.2.1, bt243.2.2.2.2.2.2.2.2, decide (bt243.2.2.2.2.2.1 ≤ a3))) else (some (bt243.1, bt243.2.1, bt243.2.2.1, bt243.2.2.2.1, bt243.2.2.2.2.1, bt243.2.2.2.2.2.1, bt243.2.2.2.2.2.2.1, bt243.2.2.2.2.2.2.2.1, bt243.2.2.2.2.2.2.2.2, false))) else (some (bt243.1, bt243.2.1, bt243.2.2.1, bt243.2.2.2.1, bt243.2.2.2.2.1, bt243.2.2.2.2.2.1, bt243.2.2.2.2.2.2.1, bt243.2.2.2.2.2.2.2.1, bt243.2.2.2.2.2.2.2.2, false))) else (some (bt243.1, bt243.2.1, bt243.2.2.1, bt243.2.2.2.1, bt243.2.2.2.2.1, bt243.2.2.2.2.2.1, bt243.2.2.2.2.2.2.1, bt243.2.2.2.2.2.2.2.1, bt243.2.2.2.2.2.2.2.2, false))))) = some (r1, r2, r3, r4, r5, r6, r7, r8, r9, r10) := h
 clear h
 replace H := Option.bind_eq_some_iff.mp H
 obtain ⟨⟨t243, t244, t245, t246, t247, t250, t251, t252, t253⟩, A50, H⟩ := H
 replace H : ((spec_l4SameKey.f t243 t244 a1_0 a1_1).bind fun t255 => (if t255 = true then (if t252 = (wrap64 (a2 + 1)) then (if t253 = a3 then (some (t243, t244, t245, t246, t247, t250, t251, t252, t253, decide (t250 ≤ a3))) else (some (t243, t244, t245, t246, t247, t250, t251, t252, t253, false))) else (some (t243, t244, t245, t246, t247, t250, t251, t252, t253, false))) else (some (t243, t244, t245, t246, t247, t250, t251, t252, t253, false)))) = some (r1, r2, r3, r4, r5, r6, r7, r8, r9, r10) := H
 have A5 := Aside0.mk A50
 clear A50
 replace H := Option.bind_eq_some_iff.mp H
 obtain ⟨t255, A60, H⟩ := H
 replace H : (if t255 = true then (if t252 = (wrap64 (a2 + 1)) then (if t253 = a3 then (some (t243, t244, t245, t246, t247, t250, t251, t252, t253, decide (t250 ≤ a3))) else (some (t243, t244, t245, t246, t247, t250, t251, t252, t253, false))) else (some (t243, t244, t245, t246, t247, t250, t251, t252, t253, false))) else (some (t243, t244, t245, t246, t247, t250, t251, t252, t253, false))) = some (r1, r2, r3, r4, r5, r6, r7, r8, r9, r10) := H
 have A6 := Aside0.mk A60
 clear A60
 go_enter Tryd.func80, Tryd.ntmps80
 try go_wp2_with (first | ((with_reducible refine gate_dst (N := 4) rfl ?_); refine box_event ?hg (N := 4) ?hd (cs := #[.slice A0_0 l0_0.length c0_0]) (t := 36) ?hr ?_; (case hd => rfl); (case hg => rfl); (case hr => first | (go_simp; done) | (go_simp; rfl)); intro gb240 hg w10 hbox hb; have hb1_ := fromQ HB.out hb; have hb0_ := below_step hb1_ hb; have hW_ := below_step HB.out hb1_; have n1_ := Aside0.mk (hbox); have n2_ := szle hg hW_; have n3_ := szle hg hW_; replace HB := kH HB hb0_; have BK240 := n1_; have GW240 := n2_; have GE240 := n3_; clear hb1_ hb0_ hW_ n1_ n2_ n3_; clear hb hbox hg) | ((with_reducible refine gate_dst (N := 5) rfl ?_); refine box_event ?hg (N := 5) ?hd (cs := #[.int .i64 a1_0, .string a1_1]) (t := 29) ?hr ?_; (case hd => rfl); (case hg => rfl); (case hr => first | (go_simp; done) | (go_simp; rfl)); intro gb241 hg w11 hbox hb; have hb1_ := fromQ HB.out hb; have hb0_ := below_step hb1_ hb; have hW_ := below_step HB.out hb1_; have n2_ := Aside0.mk (hbox); have n3_ := szle hg hW_; have n4_ := szle hg hW_; have n5_ := nelt hg BK240 hb1_; have n6_ := negt hg BK240 hb1_; replace BK240 := kB BK240 hb0_; replace HB := kH HB hb0_; have BK241 := n2_; have GW241 := n3_; have GE241 := n4_; have NB240_241 := n5_; have NB241_240 := n6_; clear hb1_ hb0_ hW_ n2_ n3_ n4_ n5_ n6_; clear hb hbox hg) | ((with_reducible refine gate_dst (N := 8) rfl ?_); refine box_event ?hg (N := 8) ?hd (cs := #[.int .i64 0, .string (⟨#[]⟩ : ByteArray), .bool false, .string (⟨#[]⟩ : ByteArray), .slice none 0 0, .int .i64 0, .int .i64 0, .int .i64 0, .int .i64 0]) (t := 32) ?hr ?_; (case hd => rfl); (case hg => rfl); (case hr => first | (go_simp; done) | (go_simp; rfl)); intro gb242 hg w12 hbox hb; have hb1_ := fromQ HB.out hb; have hb0_ := below_step hb1_ hb; have hW_ := below_step HB.out hb1_; have n3_ := Aside0.mk (hbox); have n4_ := szle hg hW_; have n5_ := szle hg hW_; have n6_ := nelt hg BK240 hb1_; have n7_ := negt hg BK240 hb1_; have n8_ := nelt hg BK241 hb1_; have n9_ := negt hg BK241 hb1_; replace BK240 := kB BK240 hb0_; replace BK241 := kB BK241 hb0_; replace HB := kH HB hb0_; have BK242 := n3_; have GW242 := n4_; have GE242 := n5_; have NB240_242 := n6_; have NB242_240 := n7_; have NB241_242 := n8_; have NB242_241 := n9_; clear hb1_ hb0_ hW_ n3_ n4_ n5_ n6_ n7_ n8_ n9_; clear hb hbox hg; have hnb13 := NB240_241.out; have hnc13 := NB241_240.out; have hnb14 := NB240_242.out; have hnc14 := NB242_240.out; obtain ⟨hcz15_0, hfz15_0⟩ := bkA1 BK240.out; have hnb16 := NB241_242.out; have hnc16 := NB242_241.out; obtain ⟨hcz17_0, hcz17_1, hfz17_0, hfz17_1⟩ := bkA2 BK241.out) | ((with_reducible refine gate_callee (f := 56) rfl ?_); refine goesL_ (some 13) rfl rfl Tryd.func56 (by kernel_rfl) rfl #[.agg #[.slice A0_0 l0_0.length c0_0], .agg #[.int .i64 a1_0, .string a1_1]] rfl (by (try simp only [List.map_toArray, List.map_cons, List.map_nil]); first | done | rfl | (simp only [List.length_drop, List.length_take]; rfl)) ?_; (with_reducible refine (spec_l4Find.calls k _ _ l0_0 a1_0 a1_1 t243 t244 t245 t246 t247 t250 t251 t252 t253 _ ?side1 ?side2 A5.out).mono ?_); (case side1 => repeat (first | exact (Kd.C_below HR0_0.out HB.out) | (with_reducible refine Kd.C_alloc ?_ _) | (with_reducible refine Kd.C_drewN ?_ _) | (with_reducible refine Kd.C_drew ?_))); (case side2 => exact HC0_0.out); rintro e w18 ⟨v248, rfl, ho0, hb⟩; refine ⟨_, rfl, ?_⟩; have hb1_ := fromQ HB.out hb; have hb0_ := below_step hb1_ hb; have hW_ := below_step HB.out hb1_; have n0_ := Aside0.mk (Kd.R_lower (Kd.R_newB ho0 (g := gb241) (o := .cells #[.int .i64 a1_0, .string a1_1] 29 (0, 0)) (blk_below BK241.out hb1_)) (below_size hW_)); replace BK240 := kB BK240 hb0_; replace BK241 := kB BK241 hb0_; replace BK242 := kB BK242 hb0_; replace HB := kH HB hb0_; have HO249 := n0_; clear hb1_ hb0_ hW_ n0_; (try clear hb); (try clear hb2); (try clear hk); (try clear hi); (try clear ho0)) | ((with_reducible refine gate_dst (N := 10) rfl ?_); refine box_event ?hg (N := 10) ?hd (cs := #[.int .i64 0, .string (⟨#[]⟩ : ByteArray), .bool false, .string (⟨#[]⟩ : ByteArray), .slice none 0 0, .int .i64 0, .int .i64 0, .int .i64 0, .int .i64 0]) (t := 32) ?hr ?_; (case hd => rfl); (case hg => rfl); (case hr => first | (go_simp; done) | (go_simp; rfl)); intro gb254 hg w19 hbox hb; have hb1_ := fromQ HB.out hb; have hb0_ := below_step hb1_ hb; have hW_ := below_step HB.out hb1_; have n5_ := Aside0.mk (hbox); have n6_ := szle hg hW_; have n7_ := szle hg hW_; have n8_ := nelt hg BK240 hb1_; have n9_ := negt hg BK240 hb1_; have n10_ := nelt hg BK241 hb1_; have n11_ := negt hg BK241 hb1_; have n12_ := nelt hg BK242 hb1_; have n13_ := negt hg BK242 hb1_; replace HO249 := kR HO249 hb0_; replace BK240 := kB BK240 hb0_; replace BK241 := kB BK241 hb0_; replace BK242 := kB BK242 hb0_; replace HB := kH HB hb0_; have BK254 := n5_; have GW254 := n6_; have GE254 := n7_; have NB240_254 := n8_; have NB254_240 := n9_; have NB241_254 := n10_; have NB254_241 := n11_; have NB242_254 := n12_; have NB254_242 := n13_; clear hb1_ hb0_ hW_ n5_ n6_ n7_ n8_ n9_ n10_ n11_ n12_ n13_; clear hb hbox hg; have hnb20 := NB254_240.out; have hnc20 := NB240_254.out; have hnb21 := NB254_241.out; have hnc21 := NB241_254.out; have hnb22 := NB254_242.out; have hnc22 := NB242_254.out; obtain ⟨hcz23_0, hcz23_1, hcz23_2, hcz23_3, hcz23_4, hcz23_5, hcz23_6, hcz23_7, hcz23_8, hfz23_0, hfz23_1, hfz23_2, hfz23_3, hfz23_4, hfz23_5, hfz23_6, hfz23_7, hfz23_8⟩ := bkA9 BK254.out; obtain ⟨Ao24, co24, eo24⟩ := Kd.R_slice HO249.out; subst eo24))
 obtain ⟨w25, hS_⟩ : ∃ w_ : World, w_ = (((((((((w19.setCell ⟨gb254, 0, none⟩ (.int .i64 t243)).setCell ⟨gb254, 1, none⟩ (.string t244)).setCell ⟨gb254, 2, none⟩ (.bool t245)).setCell ⟨gb254, 3, none⟩ (.string t246)).setCell ⟨gb254, 4, none⟩ (.slice Ao24 t247.length co24)).setCell ⟨gb254, 5, none⟩ (.int .i64 t250)).setCell ⟨gb254, 6, none⟩ (.int .i64 t251)).setCell ⟨gb254, 7, none⟩ (.int .i64 t252)).setCell ⟨gb254, 8, none⟩ (.int .i64 t253)) := ⟨_, rfl⟩
 have n0_ : Aside0 (Kd.R k29 29 w25 w.heap.size (fun k_ => k_ ≠ gb241) (.slice Ao24 t247.length co24) t247) := ⟨by rw [hS_]; exact Kd.R_mono (R_far9 (Kd.R_types HO249.out BK254.out (by decide)) (fun _ hk => hk.2)) (fun _ hk => hk.1.2)⟩
 have n1_ : Aside0 (w25.heap[gb240]? = some (.cells #[.slice A0_0 l0_0.length c0_0] 36 (0, 0))) := ⟨by rw [hS_]; exact blk_far9 BK240.out NB240_254.out⟩
 have n2_ : Aside0 (w25.heap[gb241]? = some (.cells #[.int .i64 a1_0, .string a1_1] 29 (0, 0))) := ⟨by rw [hS_]; exact blk_far9 BK241.out NB241_254.out⟩
 have n3_ : Aside0 (w25.heap[gb242]? = some (.cells #[.int .i64 0, .string (⟨#[]⟩ : ByteArray), .bool false, .string (⟨#[]⟩ : ByteArray), .slice none 0 0, .int .i64 0, .int .i64 0, .int .i64 0, .int .i64 0] 32 (0, 0))) := ⟨by rw [hS_]; exact blk_far9 BK242.out NB242_254.out⟩
 have n4_ : Aside0 (w25.heap[gb254]? = some (.cells #[.int .i64 t243, .string t244, .bool t245, .string t246, .slice Ao24 t247.length co24, .int .i64 t250, .int .i64 t251, .int .i64 t252, .int .i64 t253] 32 (0, 0))) := ⟨by rw [hS_]; exact blk_stores9 BK254.out⟩
 have n5_ : Aside0 (Below w.heap.size w w25) := ⟨by rw [hS_]; repeat (first | (with_reducible first | exact HB.out | apply below_alloc | apply pw_below_drewN | apply below_drew1 | refine below_set ?_ GE240.out | refine below_set ?_ GE241.out | refine below_set ?_ GE242.out | refine below_set ?_ GE254.out) | exact HB.out)⟩
 (try clear HO249)
 (try clear BK240)
 (try clear BK241)
 (try clear BK242)
 (try clear BK254)
 (try clear HB)
 rw [← hS_]
 clear hS_
 have HO249 := n0_
 have BK240 := n1_
 have BK241 := n2_
 have BK242 := n3_
 have BK254 := n4_
 have HB := n5_
 clear n0_ n1_ n2_ n3_ n4_ n5_
 have n0_ := Aside0.mk (Kd.R_drew HO249.out)
 have n1_ := Aside0.mk (blk_drew BK240.out)
 have n2_ := Aside0.mk (blk_drew BK241.out)
 have n3_ := Aside0.mk (blk_drew BK242.out)
 have n4_ := Aside0.mk (blk_drew BK254.out)
 have n5_ := Aside0.mk (below_drew1 HB.out)
 clear HO249
 clear BK240
 clear BK241
 clear BK242
 clear BK254
 clear HB
 have HO249 := n0_
 have BK240 := n1_
 have BK241 := n2_
 have BK242 := n3_
 have BK254 := n4_
 have HB := n5_
 clear n0_ n1_ n2_ n3_ n4_ n5_
 refine start_ (n := 26) (S := fun w' => w'.cell? ⟨gb254, 0, none⟩ = some (.int .i64 t243) ∧ w'.cell? ⟨gb254, 1, none⟩ = some (.string t244) ∧ w'.cell? ⟨gb254, 2, none⟩ = some (.bool t245) ∧ w'.cell? ⟨gb254, 3, none⟩ = some (.string t246) ∧ w'.cell? ⟨gb254, 4, none⟩ = some (.slice Ao24 t247.length co24) ∧ w'.cell? ⟨gb254, 5, none⟩ = some (.int .i64 t250) ∧ w'.cell? ⟨gb254, 6, none⟩ = some (.int .i64 t251) ∧ w'.cell? ⟨gb254, 7, none⟩ = some (.int .i64 t252) ∧ w'.cell? ⟨gb254, 8, none⟩ = some (.int .i64 t253) ∧ w'.cell? ⟨gb241, 0, none⟩ = some (.int .i64 a1_0) ∧ w'.cell? ⟨gb241, 1, none⟩ = some (.string a1_1)) (ds := []) #[false, false, false, false, false, false, false, false, false, false, false, false, false, false, false, false, false, false, false, false, false, false, false, false, false, false] (by kernel_rfl) rfl rfl ⟨(blk_cell BK254.out 0).trans rfl, (blk_cell BK254.out 1).trans rfl, (blk_cell BK254.out 2).trans rfl, (blk_cell BK254.out 3).trans rfl, (blk_cell BK254.out 4).trans rfl, (blk_cell BK254.out 5).trans rfl, (blk_cell BK254.out 6).trans rfl, (blk_cell BK254.out 7).trans rfl, (blk_cell BK254.out 8).trans rfl, (blk_cell BK241.out 0).trans rfl, (blk_cell BK241.out 1).trans rfl⟩ (fun hHeld => ?_); refine with_tabW spec_l4Mine.tab2 spec_l4Mine.bits2 (fun HT_ HW_ => ?_)
 generalize w25.drew = w26 at HO249 BK240 BK241 BK242 BK254 HB hHeld ⊢
 refine pureY (i := 1) (N := some 15) (v := ?_) (a' := ?_) #[false, true, false, false, false, false, false, false, false, false, false, false, false, false, false, false, false, false, false, false, false, false, false, false, false, false] rfl rfl (any_of HT_.out (by kernel_rfl)) ⟨by rfl, ?_⟩ ?_ ?_
 rotate_left
 · intro w'
   go_simp
   with_reducible rfl
 rotate_left
 · simp only [Act.put, sA_, i64_w, i32_w]
   rfl
 refine takeY (i := 0) (N := some 14) (v := ?_) (a' := ?_) #[true, true, false, false, false, false, false, false, false, false, false, false, false, false, false, false, false, false, false, false, false, false, false, false, false, false] rfl rfl (take_ofW HT_.out HW_.out (by kernel_rfl)) ⟨by rfl, ?_⟩ hHeld ?_ ?_
 rotate_left
 · rintro w' ⟨s0, s1, s2, s3, s4, s5, s6, s7, s8, s9, s10⟩
   go_simp
   with_reducible rfl
 rotate_left
 · simp only [Act.put, sA_, i64_w, i32_w]
   rfl
 refine takeY (i := 2) (N := some 16) (v := ?_) (a' := ?_) #[true, true, true, false, false, false, false, false, false, false, false, false, false, false, false, false, false, false, false, false, false, false, false, false, false, false] rfl rfl (take_ofW HT_.out HW_.out (by kernel_rfl)) ⟨by rfl, ?_⟩ hHeld ?_ ?_
 rotate_left
 · rintro w' ⟨s0, s1, s2, s3, s4, s5, s6, s7, s8, s9, s10⟩
   go_simp
   with_reducible rfl
 rotate_left
 · simp only [Act.put, sA_, i64_w, i32_w]
   rfl
 refine takeY (i := 3) (N := some 17) (v := ?_) (a' := ?_) #[true, true, true, true, false, false, false, false, false, false, false, false, false, false, false, false, false, false, false, false, false, false, false, false, false, false] rfl rfl (take_ofW HT_.out HW_.out (by kernel_rfl)) ⟨by rfl, ?_⟩ hHeld ?_ ?_
 rotate_left
 · rintro w' ⟨s0, s1, s2, s3, s4, s5, s6, s7, s8, s9, s10⟩
   go_simp
   with_reducible rfl
 rotate_left
 · simp only [Act.put, sA_, i64_w, i32_w]
   rfl
 refine one_ (i := 4) (N := some 18) #[true, true, true, true, true, false, false, false, false, false, false, false, false, false, false, false, false, false, false, false, false, false, false, false, false, false] rfl rfl (one_of HT_.out (by kernel_rfl)) (by decide) (fun K hK => ?_)
 refine goes_ Tryd.func113 (by kernel_rfl) rfl #[.agg #[.int .i64 t243, .string t244], .agg #[.int .i64 a1_0, .string a1_1]] (by rfl) rfl rfl (by (try simp only [List.map_toArray, List.map_cons, List.map_nil]); first | done | rfl | (simp only [List.length_drop, List.length_take]; rfl)) ?_
 by_cases c7 : t255 = true
 ·
  subst c7
  have H1 : (if t252 = (wrap64 (a2 + 1)) then (if t253 = a3 then (some (t243, t244, t245, t246, t247, t250, t251, t252, t253, decide (t250 ≤ a3))) else (some (t243, t244, t245, t246, t247, t250, t251, t252, t253, false))) else (some (t243, t244, t245, t246, t247, t250, t251, t252, t253, false))) = some (r1, r2, r3, r4, r5, r6, r7, r8, r9, r10) := by rw [if_pos rfl] at H; exact H
  clear H
  have H := H1
  clear H1
  try rw [c7b0]
  with_reducible refine (spec_l4SameKey.calls t243 t244 a1_0 a1_1 true _ A6.out).mono ?_
  rintro e w27 ⟨rfl, hb⟩
  refine ⟨_, rfl, ?_⟩
  have hb1_ := fromQ HB.out hb
  have hb0_ := below_step hb1_ hb
  replace HO249 := kR HO249 hb0_
  replace BK240 := kB BK240 hb0_
  replace BK241 := kB BK241 hb0_
  replace BK242 := kB BK242 hb0_
  replace BK254 := kB BK254 hb0_
  replace HB := kH HB hb0_
  clear hb1_ hb0_
  (try clear hb)
  (try clear hb2)
  (try clear hk)
  (try clear hi)
  refine hK.out _ _ ⟨(blk_cell BK254.out 0).trans rfl, (blk_cell BK254.out 1).trans rfl, (blk_cell BK254.out 2).trans rfl, (blk_cell BK254.out 3).trans rfl, (blk_cell BK254.out 4).trans rfl, (blk_cell BK254.out 5).trans rfl, (blk_cell BK254.out 6).trans rfl, (blk_cell BK254.out 7).trans rfl, (blk_cell BK254.out 8).trans rfl, (blk_cell BK241.out 0).trans rfl, (blk_cell BK241.out 1).trans rfl⟩ (fun hHeld => ?_)
  clear hK K
  refine norm_ (a' := ?_) ?_ ?_
  rotate_left
  · show Act.put _ (some 18) _ = _
    simp only [Act.put, sA_, i64_w, i32_w]
    rfl
  refine pureY (i := 5) (N := some 19) (v := ?_) (a' := ?_) #[true, true, true, true, true, true, false, false, false, false, false, false, false, false, false, false, false, false, false, false, false, false, false, false, false, false] rfl rfl (any_of HT_.out (by kernel_rfl)) ⟨by rfl, ?_⟩ ?_ ?_
  rotate_left
  · intro w'
    go_simp
    with_reducible rfl
  rotate_left
  · simp only [Act.put, sA_, i64_w, i32_w]
    rfl
  refine pureY (i := 6) (N := some 20) (v := ?_) (a' := ?_) #[true, true, true, true, true, true, true, false, false, false, false, false, false, false, false, false, false, false, false, false, false, false, false, false, false, false] rfl rfl (any_of HT_.out (by kernel_rfl)) ⟨by rfl, ?_⟩ ?_ ?_
  rotate_left
  · intro w'
    go_simp
    with_reducible rfl
  rotate_left
  · simp only [Act.put, sA_, i64_w, i32_w]
    rfl
  refine pureY (i := 8) (N := some 22) (v := ?_) (a' := ?_) #[true, true, true, true, true, true, true, false, true, false, false, false, false, false, false, false, false, false, false, false, false, false, false, false, false, false] rfl rfl (any_of HT_.out (by kernel_rfl)) ⟨by rfl, ?_⟩ ?_ ?_
  rotate_left
  · intro w'
    go_simp
    with_reducible rfl
  rotate_left
  · simp only [Act.put, sA_, i64_w, i32_w]
    rfl
  refine pureY (i := 9) (N := some 23) (v := ?_) (a' := ?_) #[true, true, true, true, true, true, true, false, true, true, false, false, false, false, false, false, false, false, false, false, false, false, false, false, false, false] rfl rfl (any_of HT_.out (by kernel_rfl)) ⟨by rfl, ?_⟩ ?_ ?_
  rotate_left
  · intro w'
    go_simp
    with_reducible rfl
  rotate_left
  · simp only [Act.put, sA_, i64_w, i32_w]
    rfl
  refine takeY (i := 7) (N := some 21) (v := ?_) (a' := ?_) #[true, true, true, true, true, true, true, true, true, true, false, false, false, false, false, false, false, false, false, false, false, false, false, false, false, false] rfl rfl (take_ofW HT_.out HW_.out (by kernel_rfl)) ⟨by rfl, ?_⟩ hHeld ?_ ?_
  rotate_left
  · rintro w' ⟨s0, s1, s2, s3, s4, s5, s6, s7, s8, s9, s10⟩
    go_simp
    with_reducible rfl
  rotate_left
  · simp only [Act.put, sA_, i64_w, i32_w]
    rfl
  refine pureY (i := 10) (N := some 24) (v := ?_) (a' := ?_) #[true, true, true, true, true, true, true, true, true, true, true, false, false, false, false, false, false, false, false, false, false, false, false, false, false, false] rfl rfl (any_of HT_.out (by kernel_rfl)) ⟨by rfl, ?_⟩ ?_ ?_
  rotate_left
  · intro w'
    go_simp
    with_reducible rfl
  rotate_left
  · simp only [Act.put, sA_, i64_w, i32_w]
    rfl
  refine pureY (i := 11) (N := some 25) (v := ?_) (a' := ?_) #[true, true, true, true, true, true, true, true, true, true, true, true, false, false, false, false, false, false, false, false, false, false, false, false, false, false] rfl rfl (any_of HT_.out (by kernel_rfl)) ⟨by rfl, ?_⟩ ?_ ?_
  rotate_left
  · intro w'
    go_simp
    with_reducible rfl
  rotate_left
  · simp only [Act.put, sA_, i64_w, i32_w]
    rfl
  refine pureY (i := 12) (N := some 26) (v := ?_) (a' := ?_) #[true, true, true, true, true, true, true, true, true, true, true, true, true, false, false, false, false, false, false, false, false, false, false, false, false, false] rfl rfl (any_of HT_.out (by kernel_rfl)) ⟨by rfl, ?_⟩ ?_ ?_
  rotate_left
  · intro w'
    go_simp
    with_reducible rfl
  rotate_left
  · simp only [Act.put, sA_, i64_w, i32_w]
    rfl
  by_cases c8 : t252 = (wrap64 (a2 + 1))
  ·
   rw [if_pos c8] at H
   have c8b0 : (t252 == (wrap64 (a2 + 1))) = true := beq_iff_eq.mpr c8
   have c8b1 : (t252 != (wrap64 (a2 + 1))) = false := bne_eq_false_iff_eq.mpr c8
   clear c8
   try rw [c8b0]
   refine pureY (i := 13) (N := some 27) (v := ?_) (a' := ?_) #[true, true, true, true, true, true, true, true, true, true, true, true, true, true, false, false, false, false, false, false, false, false, false, false, false, false] rfl rfl (any_of HT_.out (by kernel_rfl)) ⟨by rfl, ?_⟩ ?_ ?_
   rotate_left
   · intro w'
     go_simp
     with_reducible rfl
   rotate_left
   · simp only [Act.put, sA_, i64_w, i32_w]
     rfl
   refine pureY (i := 15) (N := some 29) (v := ?_) (a' := ?_) #[true, true, true, true, true, true, true, true, true, true, true, true, true, true, false, true, false, false, false, false, false, false, false, false, false, false] rfl rfl (any_of HT_.out (by kernel_rfl)) ⟨by rfl, ?_⟩ ?_ ?_
   rotate_left
   · intro w'
     go_simp
     with_reducible rfl
   rotate_left
   · simp only [Act.put, sA_, i64_w, i32_w]
     rfl
   refine takeY (i := 14) (N := some 28) (v := ?_) (a' := ?_) #[true, true, true, true, true, true, true, true, true, true, true, true, true, true, true, true, false, false, false, false, false, false, false, false, false, false] rfl rfl (take_ofW HT_.out HW_.out (by kernel_rfl)) ⟨by rfl, ?_⟩ hHeld ?_ ?_
   rotate_left
   · rintro w' ⟨s0, s1, s2, s3, s4, s5, s6, s7, s8, s9, s10⟩
     go_simp
     with_reducible rfl
   rotate_left
   · simp only [Act.put, sA_, i64_w, i32_w]
     rfl
   refine pureY (i := 16) (N := some 30) (v := ?_) (a' := ?_) #[true, true, true, true, true, true, true, true, true, true, true, true, true, true, true, true, true, false, false, false, false, false, false, false, false, false] rfl rfl (any_of HT_.out (by kernel_rfl)) ⟨by rfl, ?_⟩ ?_ ?_
   rotate_left
   · intro w'
     go_simp
     with_reducible rfl
   rotate_left
   · simp only [Act.put, sA_, i64_w, i32_w]
     rfl
   refine pureY (i := 17) (N := some 31) (v := ?_) (a' := ?_) #[true, true, true, true, true, true, true, true, true, true, true, true, true, true, true, true, true, true, false, false, false, false, false, false, false, false] rfl rfl (any_of HT_.out (by kernel_rfl)) ⟨by rfl, ?_⟩ ?_ ?_
   rotate_left
   · intro w'
     go_simp
     with_reducible rfl
   rotate_left
   · simp only [Act.put, sA_, i64_w, i32_w]
     rfl
   refine pureY (i := 18) (N := some 32) (v := ?_) (a' := ?_) #[true, true, true, true, true, true, true, true, true, true, true, true, true, true, true, true, true, true, true, false, false, false, false, false, false, false] rfl rfl (any_of HT_.out (by kernel_rfl)) ⟨by rfl, ?_⟩ ?_ ?_
   rotate_left
   · intro w'
     go_simp
     with_reducible rfl
   rotate_left
   · simp only [Act.put, sA_, i64_w, i32_w]
     rfl
   by_cases c9 : t253 = a3
   ·
    rw [if_pos c9] at H
    have c9b0 : (t253 == a3) = true := beq_iff_eq.mpr c9
    have c9b1 : (t253 != a3) = false := bne_eq_false_iff_eq.mpr c9
    clear c9
    simp only [Option.some.injEq, Prod.mk.injEq] at H
    obtain ⟨rfl, rfl, rfl, rfl, rfl, rfl, rfl, rfl, rfl, rfl⟩ := H
    try rw [c9b0]
    refine pureY (i := 19) (N := some 33) (v := ?_) (a' := ?_) #[true, true, true, true, true, true, true, true, true, true, true, true, true, true, true, true, true, true, true, true, false, false, false, false, false, false] rfl rfl (any_of HT_.out (by kernel_rfl)) ⟨by rfl, ?_⟩ ?_ ?_
    rotate_left
    · intro w'
      go_simp
      with_reducible rfl
    rotate_left
    · simp only [Act.put, sA_, i64_w, i32_w]
      rfl
    refine pureY (i := 21) (N := some 35) (v := ?_) (a' := ?_) #[true, true, true, true, true, true, true, true, true, true, true, true, true, true, true, true, true, true, true, true, false, true, false, false, false, false] rfl rfl (any_of HT_.out (by kernel_rfl)) ⟨by rfl, ?_⟩ ?_ ?_
    rotate_left
    · intro w'
      go_simp
      with_reducible rfl
    rotate_left
    · simp only [Act.put, sA_, i64_w, i32_w]
      rfl
    refine takeY (i := 20) (N := some 34) (v := ?_) (a' := ?_) #[true, true, true, true, true, true, true, true, true, true, true, true, true, true, true, true, true, true, true, true, true, true, false, false, false, false] rfl rfl (take_ofW HT_.out HW_.out (by kernel_rfl)) ⟨by rfl, ?_⟩ hHeld ?_ ?_
    rotate_left
    · rintro w' ⟨s0, s1, s2, s3, s4, s5, s6, s7, s8, s9, s10⟩
      go_simp
      with_reducible rfl
    rotate_left
    · simp only [Act.put, sA_, i64_w, i32_w]
      rfl
    refine pureY (i := 22) (N := some 36) (v := ?_) (a' := ?_) #[true, true, true, true, true, true, true, true, true, true, true, true, true, true, true, true, true, true, true, true, true, true, true, false, false, false] rfl rfl (any_of HT_.out (by kernel_rfl)) ⟨by rfl, ?_⟩ ?_ ?_
    rotate_left
    · intro w'
      go_simp
      with_reducible rfl
    rotate_left
    · simp only [Act.put, sA_, i64_w, i32_w]
      rfl
    refine pureY (i := 23) (N := some 37) (v := ?_) (a' := ?_) #[true, true, true, true, true, true, true, true, true, true, true, true, true, true, true, true, true, true, true, true, true, true, true, true, false, false] rfl rfl (any_of HT_.out (by kernel_rfl)) ⟨by rfl, ?_⟩ ?_ ?_
    rotate_left
    · intro w'
      go_simp
      with_reducible rfl
    rotate_left
    · simp only [Act.put, sA_, i64_w, i32_w]
      rfl
    refine one_ (i := 24) (N := none) #[true, true, true, true, true, true, true, true, true, true, true, true, true, true, true, true, true, true, true, true, true, true, true, true, true, false] rfl rfl (one_of HT_.out (by kernel_rfl)) (by decide) (fun K hK => ?_)
    have hs28 : w27.cell? ⟨gb242, 0, none⟩ = some (.int .i64 0) := (blk_cell BK242.out 0).trans rfl
    have hfs28 := blk_frozen BK242.out 0
    have hns28_0 := NB240_242.out
    have hns28_1 := NB241_242.out
    have hns28_3 := NB254_242.out
    have hms28_0 := NB242_240.out
    have hms28_1 := NB242_241.out
    have hms28_3 := NB242_254.out
    have hs29 : w27.cell? ⟨gb242, 1, none⟩ = some (.string (⟨#[]⟩ : ByteArray)) := (blk_cell BK242.out 1).trans rfl
    have hfs29 := blk_frozen BK242.out 1
    have hs30 : w27.cell? ⟨gb242, 2, none⟩ = some (.bool false) := (blk_cell BK242.out 2).trans rfl
    have hfs30 := blk_frozen BK242.out 2
    have hs31 : w27.cell? ⟨gb242, 3, none⟩ = some (.string (⟨#[]⟩ : ByteArray)) := (blk_cell BK242.out 3).trans rfl
    have hfs31 := blk_frozen BK242.out 3
    have hs32 : w27.cell? ⟨gb242, 4, none⟩ = some (.slice none 0 0) := (blk_cell BK242.out 4).trans rfl
    have hfs32 := blk_frozen BK242.out 4
    have hs33 : w27.cell? ⟨gb242, 5, none⟩ = some (.int .i64 0) := (blk_cell BK242.out 5).trans rfl
    have hfs33 := blk_frozen BK242.out 5
    have hs34 : w27.cell? ⟨gb242, 6, none⟩ = some (.int .i64 0) := (blk_cell BK242.out 6).trans rfl
    have hfs34 := blk_frozen BK242.out 6
    have hs35 : w27.cell? ⟨gb242, 7, none⟩ = some (.int .i64 0) := (blk_cell BK242.out 7).trans rfl
    have hfs35 := blk_frozen BK242.out 7
    have hs36 : w27.cell? ⟨gb242, 8, none⟩ = some (.int .i64 0) := (blk_cell BK242.out 8).trans rfl
    have hfs36 := blk_frozen BK242.out 8
    refine skip_ (w1 := ?_) (by rfl) rfl ?_ ?_
    rotate_left
    · go_simp
      rfl
    refine hK.out _ _ ⟨(cell_far9 NB254_242.out).trans hHeld.1, (cell_far9 NB254_242.out).trans hHeld.2.1, (cell_far9 NB254_242.out).trans hHeld.2.2.1, (cell_far9 NB254_242.out).trans hHeld.2.2.2.1, (cell_far9 NB254_242.out).trans hHeld.2.2.2.2.1, (cell_far9 NB254_242.out).trans hHeld.2.2.2.2.2.1, (cell_far9 NB254_242.out).trans hHeld.2.2.2.2.2.2.1, (cell_far9 NB254_242.out).trans hHeld.2.2.2.2.2.2.2.1, (cell_far9 NB254_242.out).trans hHeld.2.2.2.2.2.2.2.2.1, (cell_far9 NB241_242.out).trans hHeld.2.2.2.2.2.2.2.2.2.1, (cell_far9 NB241_242.out).trans hHeld.2.2.2.2.2.2.2.2.2.2⟩ (fun hHeld => ?_)
    clear hK K
    refine pureY (i := 25) (N := some 9) (v := ?_) (a' := ?_) #[true, true, true, true, true, true, true, true, true, true, true, true, true, true, true, true, true, true, true, true, true, true, true, true, true, true] rfl rfl (any_of HT_.out (by kernel_rfl)) ⟨by rfl, ?_⟩ ?_ ?_
    rotate_left
    · intro w'
      go_simp
      with_reducible rfl
    rotate_left
    · simp only [Act.put, sA_, i64_w, i32_w]
      rfl
    refine done_ (done_of HT_.out (by kernel_rfl)) ?_
    try go_wp2
    refine bodyPost_ret (results_ct rfl _ _ gb242 32 #[.int .i64 t243, .string t244, .bool t245, .string t246, .slice Ao24 t247.length co24, .int .i64 t250, .int .i64 t251, .int .i64 t252, .int .i64 t253] (0, 0) _ rfl (blk_stores9 BK242.out) Tryd.underlying32 rfl (by kernel_rfl)) rfl ?_
    exact ⟨_, by first | rfl | (simp [errW_none, errW_some] <;> rfl) | (simp [*, errW_none, errW_some] <;> rfl), by (with_reducible repeat (first | apply Kd.R_alloc | apply Kd.R_drewN | apply Kd.R_drew)); exact Kd.R_mono (R_far9 (g := gb242) (Kd.R_types HO249.out BK242.out (by decide)) (fun _ hk => hk.2)) (fun _ hk => trivial), by repeat (first | (with_reducible first | exact HB.out | apply below_alloc | apply pw_below_drewN | apply below_drew1 | refine below_set ?_ GE240.out | refine below_set ?_ GE241.out | refine below_set ?_ GE242.out | refine below_set ?_ GE254.out) | exact HB.out)⟩
   rw [if_neg c9] at H
   have c9b0 : (t253 == a3) = false := beq_eq_false_iff_ne.mpr c9
   have c9b1 : (t253 != a3) = true := bne_iff_ne.mpr c9
   simp only [Option.some.injEq, Prod.mk.injEq] at H
   obtain ⟨rfl, rfl, rfl, rfl, rfl, rfl, rfl, rfl, rfl, rfl⟩ := H
   try rw [c9b0]
   refine pureN (i := 19) (N := some 33) (a' := ?_) #[true, true, true, true, true, true, true, true, true, true, true, true, true, true, true, true, true, true, true, true, false, false, false, false, false, false] rfl rfl (any_of HT_.out (by kernel_rfl)) ?_ ?_
   rotate_left
   · simp only [Act.put, sA_, i64_w, i32_w]
     rfl
   refine pureN (i := 20) (N := some 34) (a' := ?_) #[true, true, true, true, true, true, true, true, true, true, true, true, true, true, true, true, true, true, true, true, true, false, false, false, false, false] rfl rfl (any_of HT_.out (by kernel_rfl)) ?_ ?_
   rotate_left
   · simp only [Act.put, sA_, i64_w, i32_w]
     rfl
   refine pureN (i := 21) (N := some 35) (a' := ?_) #[true, true, true, true, true, true, true, true, true, true, true, true, true, true, true, true, true, true, true, true, true, true, false, false, false, false] rfl rfl (any_of HT_.out (by kernel_rfl)) ?_ ?_
   rotate_left
   · simp only [Act.put, sA_, i64_w, i32_w]
     rfl
   refine pureN (i := 22) (N := some 36) (a' := ?_) #[true, true, true, true, true, true, true, true, true, true, true, true, true, true, true, true, true, true, true, true, true, true, true, false, false, false] rfl rfl (any_of HT_.out (by kernel_rfl)) ?_ ?_
   rotate_left
   · simp only [Act.put, sA_, i64_w, i32_w]
     rfl
   refine pureY (i := 23) (N := some 37) (v := ?_) (a' := ?_) #[true, true, true, true, true, true, true, true, true, true, true, true, true, true, true, true, true, true, true, true, true, true, true, true, false, false] rfl rfl (any_of HT_.out (by kernel_rfl)) ⟨by rfl, ?_⟩ ?_ ?_
   rotate_left
   · intro w'
     go_simp
     with_reducible rfl
   rotate_left
   · simp only [Act.put, sA_, i64_w, i32_w]
     rfl
   refine one_ (i := 24) (N := none) #[true, true, true, true, true, true, true, true, true, true, true, true, true, true, true, true, true, true, true, true, true, true, true, true, true, false] rfl rfl (one_of HT_.out (by kernel_rfl)) (by decide) (fun K hK => ?_)
   have hs55 : w27.cell? ⟨gb242, 0, none⟩ = some (.int .i64 0) := (blk_cell BK242.out 0).trans rfl
   have hfs55 := blk_frozen BK242.out 0
   have hns55_0 := NB240_242.out
   have hns55_1 := NB241_242.out
   have hns55_3 := NB254_242.out
   have hms55_0 := NB242_240.out
   have hms55_1 := NB242_241.out
   have hms55_3 := NB242_254.out
   have hs56 : w27.cell? ⟨gb242, 1, none⟩ = some (.string (⟨#[]⟩ : ByteArray)) := (blk_cell BK242.out 1).trans rfl
   have hfs56 := blk_frozen BK242.out 1
   have hs57 : w27.cell? ⟨gb242, 2, none⟩ = some (.bool false) := (blk_cell BK242.out 2).trans rfl
   have hfs57 := blk_frozen BK242.out 2
   have hs58 : w27.cell? ⟨gb242, 3, none⟩ = some (.string (⟨#[]⟩ : ByteArray)) := (blk_cell BK242.out 3).trans rfl
   have hfs58 := blk_frozen BK242.out 3
   have hs59 : w27.cell? ⟨gb242, 4, none⟩ = some (.slice none 0 0) := (blk_cell BK242.out 4).trans rfl
   have hfs59 := blk_frozen BK242.out 4
   have hs60 : w27.cell? ⟨gb242, 5, none⟩ = some (.int .i64 0) := (blk_cell BK242.out 5).trans rfl
   have hfs60 := blk_frozen BK242.out 5
   have hs61 : w27.cell? ⟨gb242, 6, none⟩ = some (.int .i64 0) := (blk_cell BK242.out 6).trans rfl
   have hfs61 := blk_frozen BK242.out 6
   have hs62 : w27.cell? ⟨gb242, 7, none⟩ = some (.int .i64 0) := (blk_cell BK242.out 7).trans rfl
   have hfs62 := blk_frozen BK242.out 7
   have hs63 : w27.cell? ⟨gb242, 8, none⟩ = some (.int .i64 0) := (blk_cell BK242.out 8).trans rfl
   have hfs63 := blk_frozen BK242.out 8
   refine skip_ (w1 := ?_) (by rfl) rfl ?_ ?_
   rotate_left
   · go_simp
     rfl
   refine hK.out _ _ ⟨(cell_far9 NB254_242.out).trans hHeld.1, (cell_far9 NB254_242.out).trans hHeld.2.1, (cell_far9 NB254_242.out).trans hHeld.2.2.1, (cell_far9 NB254_242.out).trans hHeld.2.2.2.1, (cell_far9 NB254_242.out).trans hHeld.2.2.2.2.1, (cell_far9 NB254_242.out).trans hHeld.2.2.2.2.2.1, (cell_far9 NB254_242.out).trans hHeld.2.2.2.2.2.2.1, (cell_far9 NB254_242.out).trans hHeld.2.2.2.2.2.2.2.1, (cell_far9 NB254_242.out).trans hHeld.2.2.2.2.2.2.2.2.1, (cell_far9 NB241_242.out).trans hHeld.2.2.2.2.2.2.2.2.2.1, (cell_far9 NB241_242.out).trans hHeld.2.2.2.2.2.2.2.2.2.2⟩ (fun hHeld => ?_)
   clear hK K
   refine pureY (i := 25) (N := some 9) (v := ?_) (a' := ?_) #[true, true, true, true, true, true, true, true, true, true, true, true, true, true, true, true, true, true, true, true, true, true, true, true, true, true] rfl rfl (any_of HT_.out (by kernel_rfl)) ⟨by rfl, ?_⟩ ?_ ?_
   rotate_left
   · intro w'
     go_simp
     with_reducible rfl
   rotate_left
   · simp only [Act.put, sA_, i64_w, i32_w]
     rfl
   refine done_ (done_of HT_.out (by kernel_rfl)) ?_
   try go_wp2
   refine bodyPost_ret (results_ct rfl _ _ gb242 32 #[.int .i64 t243, .string t244, .bool t245, .string t246, .slice Ao24 t247.length co24, .int .i64 t250, .int .i64 t251, .int .i64 t252, .int .i64 t253] (0, 0) _ rfl (blk_stores9 BK242.out) Tryd.underlying32 rfl (by kernel_rfl)) rfl ?_
   exact ⟨_, by first | rfl | (simp [errW_none, errW_some] <;> rfl) | (simp [*, errW_none, errW_some] <;> rfl), by (with_reducible repeat (first | apply Kd.R_alloc | apply Kd.R_drewN | apply Kd.R_drew)); exact Kd.R_mono (R_far9 (g := gb242) (Kd.R_types HO249.out BK242.out (by decide)) (fun _ hk => hk.2)) (fun _ hk => trivial), by repeat (first | (with_reducible first | exact HB.out | apply below_alloc | apply pw_below_drewN | apply below_drew1 | refine below_set ?_ GE240.out | refine below_set ?_ GE241.out | refine below_set ?_ GE242.out | refine below_set ?_ GE254.out) | exact HB.out)⟩
  rw [if_neg c8] at H
  have c8b0 : (t252 == (wrap64 (a2 + 1))) = false := beq_eq_false_iff_ne.mpr c8
  have c8b1 : (t252 != (wrap64 (a2 + 1))) = true := bne_iff_ne.mpr c8
  simp only [Option.some.injEq, Prod.mk.injEq] at H
  obtain ⟨rfl, rfl, rfl, rfl, rfl, rfl, rfl, rfl, rfl, rfl⟩ := H
  try rw [c8b0]
  refine pureN (i := 13) (N := some 27) (a' := ?_) #[true, true, true, true, true, true, true, true, true, true, true, true, true, true, false, false, false, false, false, false, false, false, false, false, false, false] rfl rfl (any_of HT_.out (by kernel_rfl)) ?_ ?_
  rotate_left
  · simp only [Act.put, sA_, i64_w, i32_w]
    rfl
  refine pureN (i := 14) (N := some 28) (a' := ?_) #[true, true, true, true, true, true, true, true, true, true, true, true, true, true, true, false, false, false, false, false, false, false, false, false, false, false] rfl rfl (any_of HT_.out (by kernel_rfl)) ?_ ?_
  rotate_left
  · simp only [Act.put, sA_, i64_w, i32_w]
    rfl
  refine pureN (i := 15) (N := some 29) (a' := ?_) #[true, true, true, true, true, true, true, true, true, true, true, true, true, true, true, true, false, false, false, false, false, false, false, false, false, false] rfl rfl (any_of HT_.out (by kernel_rfl)) ?_ ?_
  rotate_left
  · simp only [Act.put, sA_, i64_w, i32_w]
    rfl
  refine pureN (i := 16) (N := some 30) (a' := ?_) #[true, true, true, true, true, true, true, true, true, true, true, true, true, true, true, true, true, false, false, false, false, false, false, false, false, false] rfl rfl (any_of HT_.out (by kernel_rfl)) ?_ ?_
  rotate_left
  · simp only [Act.put, sA_, i64_w, i32_w]
    rfl
  refine pureY (i := 17) (N := some 31) (v := ?_) (a' := ?_) #[true, true, true, true, true, true, true, true, true, true, true, true, true, true, true, true, true, true, false, false, false, false, false, false, false, false] rfl rfl (any_of HT_.out (by kernel_rfl)) ⟨by rfl, ?_⟩ ?_ ?_
  rotate_left
  · intro w'
    go_simp
    with_reducible rfl
  rotate_left
  · simp only [Act.put, sA_, i64_w, i32_w]
    rfl
  refine pureY (i := 18) (N := some 32) (v := ?_) (a' := ?_) #[true, true, true, true, true, true, true, true, true, true, true, true, true, true, true, true, true, true, true, false, false, false, false, false, false, false] rfl rfl (any_of HT_.out (by kernel_rfl)) ⟨by rfl, ?_⟩ ?_ ?_
  rotate_left
  · intro w'
    go_simp
    with_reducible rfl
  rotate_left
  · simp only [Act.put, sA_, i64_w, i32_w]
    rfl
  refine pureN (i := 19) (N := some 33) (a' := ?_) #[true, true, true, true, true, true, true, true, true, true, true, true, true, true, true, true, true, true, true, true, false, false, false, false, false, false] rfl rfl (any_of HT_.out (by kernel_rfl)) ?_ ?_
  rotate_left
  · simp only [Act.put, sA_, i64_w, i32_w]
    rfl
  refine pureN (i := 20) (N := some 34) (a' := ?_) #[true, true, true, true, true, true, true, true, true, true, true, true, true, true, true, true, true, true, true, true, true, false, false, false, false, false] rfl rfl (any_of HT_.out (by kernel_rfl)) ?_ ?_
  rotate_left
  · simp only [Act.put, sA_, i64_w, i32_w]
    rfl
  refine pureN (i := 21) (N := some 35) (a' := ?_) #[true, true, true, true, true, true, true, true, true, true, true, true, true, true, true, true, true, true, true, true, true, true, false, false, false, false] rfl rfl (any_of HT_.out (by kernel_rfl)) ?_ ?_
  rotate_left
  · simp only [Act.put, sA_, i64_w, i32_w]
    rfl
  refine pureN (i := 22) (N := some 36) (a' := ?_) #[true, true, true, true, true, true, true, true, true, true, true, true, true, true, true, true, true, true, true, true, true, true, true, false, false, false] rfl rfl (any_of HT_.out (by kernel_rfl)) ?_ ?_
  rotate_left
  · simp only [Act.put, sA_, i64_w, i32_w]
    rfl
  refine pureY (i := 23) (N := some 37) (v := ?_) (a' := ?_) #[true, true, true, true, true, true, true, true, true, true, true, true, true, true, true, true, true, true, true, true, true, true, true, true, false, false] rfl rfl (any_of HT_.out (by kernel_rfl)) ⟨by rfl, ?_⟩ ?_ ?_
  rotate_left
  · intro w'
    go_simp
    with_reducible rfl
  rotate_left
  · simp only [Act.put, sA_, i64_w, i32_w]
    rfl
  refine one_ (i := 24) (N := none) #[true, true, true, true, true, true, true, true, true, true, true, true, true, true, true, true, true, true, true, true, true, true, true, true, true, false] rfl rfl (one_of HT_.out (by kernel_rfl)) (by decide) (fun K hK => ?_)
  have hs82 : w27.cell? ⟨gb242, 0, none⟩ = some (.int .i64 0) := (blk_cell BK242.out 0).trans rfl
  have hfs82 := blk_frozen BK242.out 0
  have hns82_0 := NB240_242.out
  have hns82_1 := NB241_242.out
  have hns82_3 := NB254_242.out
  have hms82_0 := NB242_240.out
  have hms82_1 := NB242_241.out
  have hms82_3 := NB242_254.out
  have hs83 : w27.cell? ⟨gb242, 1, none⟩ = some (.string (⟨#[]⟩ : ByteArray)) := (blk_cell BK242.out 1).trans rfl
  have hfs83 := blk_frozen BK242.out 1
  have hs84 : w27.cell? ⟨gb242, 2, none⟩ = some (.bool false) := (blk_cell BK242.out 2).trans rfl
  have hfs84 := blk_frozen BK242.out 2
  have hs85 : w27.cell? ⟨gb242, 3, none⟩ = some (.string (⟨#[]⟩ : ByteArray)) := (blk_cell BK242.out 3).trans rfl
  have hfs85 := blk_frozen BK242.out 3
  have hs86 : w27.cell? ⟨gb242, 4, none⟩ = some (.slice none 0 0) := (blk_cell BK242.out 4).trans rfl
  have hfs86 := blk_frozen BK242.out 4
  have hs87 : w27.cell? ⟨gb242, 5, none⟩ = some (.int .i64 0) := (blk_cell BK242.out 5).trans rfl
  have hfs87 := blk_frozen BK242.out 5
  have hs88 : w27.cell? ⟨gb242, 6, none⟩ = some (.int .i64 0) := (blk_cell BK242.out 6).trans rfl
  have hfs88 := blk_frozen BK242.out 6
  have hs89 : w27.cell? ⟨gb242, 7, none⟩ = some (.int .i64 0) := (blk_cell BK242.out 7).trans rfl
  have hfs89 := blk_frozen BK242.out 7
  have hs90 : w27.cell? ⟨gb242, 8, none⟩ = some (.int .i64 0) := (blk_cell BK242.out 8).trans rfl
  have hfs90 := blk_frozen BK242.out 8
  refine skip_ (w1 := ?_) (by rfl) rfl ?_ ?_
  rotate_left
  · go_simp
    rfl
  refine hK.out _ _ ⟨(cell_far9 NB254_242.out).trans hHeld.1, (cell_far9 NB254_242.out).trans hHeld.2.1, (cell_far9 NB254_242.out).trans hHeld.2.2.1, (cell_far9 NB254_242.out).trans hHeld.2.2.2.1, (cell_far9 NB254_242.out).trans hHeld.2.2.2.2.1, (cell_far9 NB254_242.out).trans hHeld.2.2.2.2.2.1, (cell_far9 NB254_242.out).trans hHeld.2.2.2.2.2.2.1, (cell_far9 NB254_242.out).trans hHeld.2.2.2.2.2.2.2.1, (cell_far9 NB254_242.out).trans hHeld.2.2.2.2.2.2.2.2.1, (cell_far9 NB241_242.out).trans hHeld.2.2.2.2.2.2.2.2.2.1, (cell_far9 NB241_242.out).trans hHeld.2.2.2.2.2.2.2.2.2.2⟩ (fun hHeld => ?_)
  clear hK K
  refine pureY (i := 25) (N := some 9) (v := ?_) (a' := ?_) #[true, true, true, true, true, true, true, true, true, true, true, true, true, true, true, true, true, true, true, true, true, true, true, true, true, true] rfl rfl (any_of HT_.out (by kernel_rfl)) ⟨by rfl, ?_⟩ ?_ ?_
  rotate_left
  · intro w'
    go_simp
    with_reducible rfl
  rotate_left
  · simp only [Act.put, sA_, i64_w, i32_w]
    rfl
  refine done_ (done_of HT_.out (by kernel_rfl)) ?_
  try go_wp2
  refine bodyPost_ret (results_ct rfl _ _ gb242 32 #[.int .i64 t243, .string t244, .bool t245, .string t246, .slice Ao24 t247.length co24, .int .i64 t250, .int .i64 t251, .int .i64 t252, .int .i64 t253] (0, 0) _ rfl (blk_stores9 BK242.out) Tryd.underlying32 rfl (by kernel_rfl)) rfl ?_
  exact ⟨_, by first | rfl | (simp [errW_none, errW_some] <;> rfl) | (simp [*, errW_none, errW_some] <;> rfl), by (with_reducible repeat (first | apply Kd.R_alloc | apply Kd.R_drewN | apply Kd.R_drew)); exact Kd.R_mono (R_far9 (g := gb242) (Kd.R_types HO249.out BK242.out (by decide)) (fun _ hk => hk.2)) (fun _ hk => trivial), by repeat (first | (with_reducible first | exact HB.out | apply below_alloc | apply pw_below_drewN | apply below_drew1 | refine below_set ?_ GE240.out | refine below_set ?_ GE241.out | refine below_set ?_ GE242.out | refine below_set ?_ GE254.out) | exact HB.out)⟩
 replace c7 := Bool.eq_false_iff.mpr c7
 subst c7
 have H1 : (some (t243, t244, t245, t246, t247, t250, t251, t252, t253, false)) = some (r1, r2, r3, r4, r5, r6, r7, r8, r9, r10) := by rw [if_neg (show ¬ (false = true) by decide)] at H; exact H
 clear H
 have H := H1
 clear H1
 simp only [Option.some.injEq, Prod.mk.injEq] at H
 obtain ⟨rfl, rfl, rfl, rfl, rfl, rfl, rfl, rfl, rfl, rfl⟩ := H
 try rw [c7b0]
 with_reducible refine (spec_l4SameKey.calls t243 t244 a1_0 a1_1 false _ A6.out).mono ?_
 rintro e w108 ⟨rfl, hb⟩
 refine ⟨_, rfl, ?_⟩
 have hb1_ := fromQ HB.out hb
 have hb0_ := below_step hb1_ hb
 replace HO249 := kR HO249 hb0_
 replace BK240 := kB BK240 hb0_
 replace BK241 := kB BK241 hb0_
 replace BK242 := kB BK242 hb0_
 replace BK254 := kB BK254 hb0_
 replace HB := kH HB hb0_
 clear hb1_ hb0_
 (try clear hb)
 (try clear hb2)
 (try clear hk)
 (try clear hi)
 refine hK.out _ _ ⟨(blk_cell BK254.out 0).trans rfl, (blk_cell BK254.out 1).trans rfl, (blk_cell BK254.out 2).trans rfl, (blk_cell BK254.out 3).trans rfl, (blk_cell BK254.out 4).trans rfl, (blk_cell BK254.out 5).trans rfl, (blk_cell BK254.out 6).trans rfl, (blk_cell BK254.out 7).trans rfl, (blk_cell BK254.out 8).trans rfl, (blk_cell BK241.out 0).trans rfl, (blk_cell BK241.out 1).trans rfl⟩ (fun hHeld => ?_)
 clear hK K
 refine norm_ (a' := ?_) ?_ ?_
 rotate_left
 · show Act.put _ (some 18) _ = _
   simp only [Act.put, sA_, i64_w, i32_w]
   rfl
 refine pureY (i := 5) (N := some 19) (v := ?_) (a' := ?_) #[true, true, true, true, true, true, false, false, false, false, false, false, false, false, false, false, false, false, false, false, false, false, false, false, false, false] rfl rfl (any_of HT_.out (by kernel_rfl)) ⟨by rfl, ?_⟩ ?_ ?_
 rotate_left
 · intro w'
   go_simp
   with_reducible rfl
 rotate_left
 · simp only [Act.put, sA_, i64_w, i32_w]
   rfl
 refine pureN (i := 6) (N := some 20) (a' := ?_) #[true, true, true, true, true, true, true, false, false, false, false, false, false, false, false, false, false, false, false, false, false, false, false, false, false, false] rfl rfl (any_of HT_.out (by kernel_rfl)) ?_ ?_
 rotate_left
 · simp only [Act.put, sA_, i64_w, i32_w]
   rfl
 refine pureN (i := 7) (N := some 21) (a' := ?_) #[true, true, true, true, true, true, true, true, false, false, false, false, false, false, false, false, false, false, false, false, false, false, false, false, false, false] rfl rfl (any_of HT_.out (by kernel_rfl)) ?_ ?_
 rotate_left
 · simp only [Act.put, sA_, i64_w, i32_w]
   rfl
 refine pureN (i := 8) (N := some 22) (a' := ?_) #[true, true, true, true, true, true, true, true, true, false, false, false, false, false, false, false, false, false, false, false, false, false, false, false, false, false] rfl rfl (any_of HT_.out (by kernel_rfl)) ?_ ?_
 rotate_left
 · simp only [Act.put, sA_, i64_w, i32_w]
   rfl
 refine pureN (i := 9) (N := some 23) (a' := ?_) #[true, true, true, true, true, true, true, true, true, true, false, false, false, false, false, false, false, false, false, false, false, false, false, false, false, false] rfl rfl (any_of HT_.out (by kernel_rfl)) ?_ ?_
 rotate_left
 · simp only [Act.put, sA_, i64_w, i32_w]
   rfl
 refine pureN (i := 10) (N := some 24) (a' := ?_) #[true, true, true, true, true, true, true, true, true, true, true, false, false, false, false, false, false, false, false, false, false, false, false, false, false, false] rfl rfl (any_of HT_.out (by kernel_rfl)) ?_ ?_
 rotate_left
 · simp only [Act.put, sA_, i64_w, i32_w]
   rfl
 refine pureY (i := 11) (N := some 25) (v := ?_) (a' := ?_) #[true, true, true, true, true, true, true, true, true, true, true, true, false, false, false, false, false, false, false, false, false, false, false, false, false, false] rfl rfl (any_of HT_.out (by kernel_rfl)) ⟨by rfl, ?_⟩ ?_ ?_
 rotate_left
 · intro w'
   go_simp
   with_reducible rfl
 rotate_left
 · simp only [Act.put, sA_, i64_w, i32_w]
   rfl
 refine pureY (i := 12) (N := some 26) (v := ?_) (a' := ?_) #[true, true, true, true, true, true, true, true, true, true, true, true, true, false, false, false, false, false, false, false, false, false, false, false, false, false] rfl rfl (any_of HT_.out (by kernel_rfl)) ⟨by rfl, ?_⟩ ?_ ?_
 rotate_left
 · intro w'
   go_simp
   with_reducible rfl
 rotate_left
 · simp only [Act.put, sA_, i64_w, i32_w]
   rfl
 refine pureN (i := 13) (N := some 27) (a' := ?_) #[true, true, true, true, true, true, true, true, true, true, true, true, true, true, false, false, false, false, false, false, false, false, false, false, false, false] rfl rfl (any_of HT_.out (by kernel_rfl)) ?_ ?_
 rotate_left
 · simp only [Act.put, sA_, i64_w, i32_w]
   rfl
 refine pureN (i := 14) (N := some 28) (a' := ?_) #[true, true, true, true, true, true, true, true, true, true, true, true, true, true, true, false, false, false, false, false, false, false, false, false, false, false] rfl rfl (any_of HT_.out (by kernel_rfl)) ?_ ?_
 rotate_left
 · simp only [Act.put, sA_, i64_w, i32_w]
   rfl
 refine pureN (i := 15) (N := some 29) (a' := ?_) #[true, true, true, true, true, true, true, true, true, true, true, true, true, true, true, true, false, false, false, false, false, false, false, false, false, false] rfl rfl (any_of HT_.out (by kernel_rfl)) ?_ ?_
 rotate_left
 · simp only [Act.put, sA_, i64_w, i32_w]
   rfl
 refine pureN (i := 16) (N := some 30) (a' := ?_) #[true, true, true, true, true, true, true, true, true, true, true, true, true, true, true, true, true, false, false, false, false, false, false, false, false, false] rfl rfl (any_of HT_.out (by kernel_rfl)) ?_ ?_
 rotate_left
 · simp only [Act.put, sA_, i64_w, i32_w]
   rfl
 refine pureY (i := 17) (N := some 31) (v := ?_) (a' := ?_) #[true, true, true, true, true, true, true, true, true, true, true, true, true, true, true, true, true, true, false, false, false, false, false, false, false, false] rfl rfl (any_of HT_.out (by kernel_rfl)) ⟨by rfl, ?_⟩ ?_ ?_
 rotate_left
 · intro w'
   go_simp
   with_reducible rfl
 rotate_left
 · simp only [Act.put, sA_, i64_w, i32_w]
   rfl
 refine pureY (i := 18) (N := some 32) (v := ?_) (a' := ?_) #[true, true, true, true, true, true, true, true, true, true, true, true, true, true, true, true, true, true, true, false, false, false, false, false, false, false] rfl rfl (any_of HT_.out (by kernel_rfl)) ⟨by rfl, ?_⟩ ?_ ?_
 rotate_left
 · intro w'
   go_simp
   with_reducible rfl
 rotate_left
 · simp only [Act.put, sA_, i64_w, i32_w]
   rfl
 refine pureN (i := 19) (N := some 33) (a' := ?_) #[true, true, true, true, true, true, true, true, true, true, true, true, true, true, true, true, true, true, true, true, false, false, false, false, false, false] rfl rfl (any_of HT_.out (by kernel_rfl)) ?_ ?_
 rotate_left
 · simp only [Act.put, sA_, i64_w, i32_w]
   rfl
 refine pureN (i := 20) (N := some 34) (a' := ?_) #[true, true, true, true, true, true, true, true, true, true, true, true, true, true, true, true, true, true, true, true, true, false, false, false, false, false] rfl rfl (any_of HT_.out (by kernel_rfl)) ?_ ?_
 rotate_left
 · simp only [Act.put, sA_, i64_w, i32_w]
   rfl
 refine pureN (i := 21) (N := some 35) (a' := ?_) #[true, true, true, true, true, true, true, true, true, true, true, true, true, true, true, true, true, true, true, true, true, true, false, false, false, false] rfl rfl (any_of HT_.out (by kernel_rfl)) ?_ ?_
 rotate_left
 · simp only [Act.put, sA_, i64_w, i32_w]
   rfl
 refine pureN (i := 22) (N := some 36) (a' := ?_) #[true, true, true, true, true, true, true, true, true, true, true, true, true, true, true, true, true, true, true, true, true, true, true, false, false, false] rfl rfl (any_of HT_.out (by kernel_rfl)) ?_ ?_
 rotate_left
 · simp only [Act.put, sA_, i64_w, i32_w]
   rfl
 refine pureY (i := 23) (N := some 37) (v := ?_) (a' := ?_) #[true, true, true, true, true, true, true, true, true, true, true, true, true, true, true, true, true, true, true, true, true, true, true, true, false, false] rfl rfl (any_of HT_.out (by kernel_rfl)) ⟨by rfl, ?_⟩ ?_ ?_
 rotate_left
 · intro w'
   go_simp
   with_reducible rfl
 rotate_left
 · simp only [Act.put, sA_, i64_w, i32_w]
   rfl
 refine one_ (i := 24) (N := none) #[true, true, true, true, true, true, true, true, true, true, true, true, true, true, true, true, true, true, true, true, true, true, true, true, true, false] rfl rfl (one_of HT_.out (by kernel_rfl)) (by decide) (fun K hK => ?_)
 have hs109 : w108.cell? ⟨gb242, 0, none⟩ = some (.int .i64 0) := (blk_cell BK242.out 0).trans rfl
 have hfs109 := blk_frozen BK242.out 0
 have hns109_0 := NB240_242.out
 have hns109_1 := NB241_242.out
 have hns109_3 := NB254_242.out
 have hms109_0 := NB242_240.out
 have hms109_1 := NB242_241.out
 have hms109_3 := NB242_254.out
 have hs110 : w108.cell? ⟨gb242, 1, none⟩ = some (.string (⟨#[]⟩ : ByteArray)) := (blk_cell BK242.out 1).trans rfl
 have hfs110 := blk_frozen BK242.out 1
 have hs111 : w108.cell? ⟨gb242, 2, none⟩ = some (.bool false) := (blk_cell BK242.out 2).trans rfl
 have hfs111 := blk_frozen BK242.out 2
 have hs112 : w108.cell? ⟨gb242, 3, none⟩ = some (.string (⟨#[]⟩ : ByteArray)) := (blk_cell BK242.out 3).trans rfl
 have hfs112 := blk_frozen BK242.out 3
 have hs113 : w108.cell? ⟨gb242, 4, none⟩ = some (.slice none 0 0) := (blk_cell BK242.out 4).trans rfl
 have hfs113 := blk_frozen BK242.out 4
 have hs114 : w108.cell? ⟨gb242, 5, none⟩ = some (.int .i64 0) := (blk_cell BK242.out 5).trans rfl
 have hfs114 := blk_frozen BK242.out 5
 have hs115 : w108.cell? ⟨gb242, 6, none⟩ = some (.int .i64 0) := (blk_cell BK242.out 6).trans rfl
 have hfs115 := blk_frozen BK242.out 6
 have hs116 : w108.cell? ⟨gb242, 7, none⟩ = some (.int .i64 0) := (blk_cell BK242.out 7).trans rfl
 have hfs116 := blk_frozen BK242.out 7
 have hs117 : w108.cell? ⟨gb242, 8, none⟩ = some (.int .i64 0) := (blk_cell BK242.out 8).trans rfl
 have hfs117 := blk_frozen BK242.out 8
 refine skip_ (w1 := ?_) (by rfl) rfl ?_ ?_
 rotate_left
 · go_simp
   rfl
 refine hK.out _ _ ⟨(cell_far9 NB254_242.out).trans hHeld.1, (cell_far9 NB254_242.out).trans hHeld.2.1, (cell_far9 NB254_242.out).trans hHeld.2.2.1, (cell_far9 NB254_242.out).trans hHeld.2.2.2.1, (cell_far9 NB254_242.out).trans hHeld.2.2.2.2.1, (cell_far9 NB254_242.out).trans hHeld.2.2.2.2.2.1, (cell_far9 NB254_242.out).trans hHeld.2.2.2.2.2.2.1, (cell_far9 NB254_242.out).trans hHeld.2.2.2.2.2.2.2.1, (cell_far9 NB254_242.out).trans hHeld.2.2.2.2.2.2.2.2.1, (cell_far9 NB241_242.out).trans hHeld.2.2.2.2.2.2.2.2.2.1, (cell_far9 NB241_242.out).trans hHeld.2.2.2.2.2.2.2.2.2.2⟩ (fun hHeld => ?_)
 clear hK K
 refine pureY (i := 25) (N := some 9) (v := ?_) (a' := ?_) #[true, true, true, true, true, true, true, true, true, true, true, true, true, true, true, true, true, true, true, true, true, true, true, true, true, true] rfl rfl (any_of HT_.out (by kernel_rfl)) ⟨by rfl, ?_⟩ ?_ ?_
 rotate_left
 · intro w'
   go_simp
   with_reducible rfl
 rotate_left
 · simp only [Act.put, sA_, i64_w, i32_w]
   rfl
 refine done_ (done_of HT_.out (by kernel_rfl)) ?_
 try go_wp2
 refine bodyPost_ret (results_ct rfl _ _ gb242 32 #[.int .i64 t243, .string t244, .bool t245, .string t246, .slice Ao24 t247.length co24, .int .i64 t250, .int .i64 t251, .int .i64 t252, .int .i64 t253] (0, 0) _ rfl (blk_stores9 BK242.out) Tryd.underlying32 rfl (by kernel_rfl)) rfl ?_
 exact ⟨_, by first | rfl | (simp [errW_none, errW_some] <;> rfl) | (simp [*, errW_none, errW_some] <;> rfl), by (with_reducible repeat (first | apply Kd.R_alloc | apply Kd.R_drewN | apply Kd.R_drew)); exact Kd.R_mono (R_far9 (g := gb242) (Kd.R_types HO249.out BK242.out (by decide)) (fun _ hk => hk.2)) (fun _ hk => trivial), by repeat (first | (with_reducible first | exact HB.out | apply below_alloc | apply pw_below_drewN | apply below_drew1 | refine below_set ?_ GE240.out | refine below_set ?_ GE241.out | refine below_set ?_ GE242.out | refine below_set ?_ GE254.out) | exact HB.out)⟩
end Go.Proofs.YtnbohlcibgfjaaaDoor.Gp
end
