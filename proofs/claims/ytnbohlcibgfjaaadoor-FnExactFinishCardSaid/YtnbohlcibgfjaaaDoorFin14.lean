/- A part of the proof of RowFnExactFinish: each text's theorems that it needs, packed by shake.py, a program of this work; Lean checks them. -/
import Derived.Test.YtnbohlcibgfjaaaDoorFin3
import Derived.Test.YtnbohlcibgfjaaaDoorFin12
section
namespace Go.Proofs.YtnbohlcibgfjaaaDoor.Gp
open Go.RowKit Go.Proofs.YtnbohlcibgfjaaaDoorW.PrintWords Go.Proofs.YtnbohlcibgfjaaaDoorW.PrintLast Go.Proofs.YtnbohlcibgfjaaaDoorW.PrintMore
set_option linter.unusedVariables false
set_option linter.unusedSimpArgs false
def spec_l4Copy.l0 : Nat → List (S32) → Int → List (S32) → Option ((List (S32)))
 | 0, _, _, _ => none
 | k + 1, x3, x4, x257000 => if x4 < (x257000.length : Int) then (if 0 ≤ x4 then ((spec_l4CopySlot.f k ((rd_T32 x257000 x4).f0.f0) ((rd_T32 x257000 x4).f0.f1) ((rd_T32 x257000 x4).f1) ((rd_T32 x257000 x4).f2) ((rd_T32 x257000 x4).f3) ((rd_T32 x257000 x4).f4) ((rd_T32 x257000 x4).f5) ((rd_T32 x257000 x4).f6) ((rd_T32 x257000 x4).f7)).bind fun bt262 => (if x3.length < 1353245080339 then (spec_l4Copy.l0 k (x3 ++ [(⟨(⟨bt262.1, bt262.2.1⟩ : S29), bt262.2.2.1, bt262.2.2.2.1, bt262.2.2.2.2.1, bt262.2.2.2.2.2.1, bt262.2.2.2.2.2.2.1, bt262.2.2.2.2.2.2.2.1, bt262.2.2.2.2.2.2.2.2⟩ : S32)]) (wrap64 (x4 + 1)) x257000) else (none))) else (none)) else (some x3)
def spec_l4Copy.f (k : Nat) (l0_0 : List (S32)) : Option ((List (S32))) := spec_l4Copy.l0 k (([] : List (S32))) 0 l0_0
set_option maxHeartbeats 8000000 in
set_option maxRecDepth 100000 in
theorem spec_l4Copy.calls (k : Nat) (A0_0 : Option Addr) (c0_0 : Nat) (l0_0 : List (S32)) (r : List (S32)) (w : World) (hr0_0 : Kd.C k32 w A0_0 l0_0.length l0_0) (hc0_0 : l0_0.length ≤ c0_0) (h : spec_l4Copy.f k l0_0 = some r) :
 Calls Tryd.prog 81 #[.agg #[.slice A0_0 l0_0.length c0_0]] w fun e w' => ∃ v0_ : Value, e = .returned (.agg #[v0_]) ∧ Kd.S k32 32 w' w.heap.size (fun _ => True) v0_ r ∧ Below w.heap.size w w' := by
 have hu36 := Tryd.underlying36
 have hu32 := Tryd.underlying32
 have HR0_0 := Aside0.mk hr0_0
 have HC0_0 := Aside0.mk hc0_0
 clear hr0_0 hc0_0
 have HB := Aside0.mk (Below.refl w.heap.size w)
 have H : (spec_l4Copy.l0 k (([] : List (S32))) 0 l0_0) = some r := h
 clear h
 obtain ⟨y258, hy258⟩ : ∃ y_ : List (S32), y_ = (([] : List (S32))) := ⟨_, rfl⟩
 replace H : (spec_l4Copy.l0 k y258 0 l0_0) = some r := by first | (rw [hy258]; with_reducible exact H) | (have H2_ := (Option.bind_some _ _).symm.trans H; rw [hy258]; with_reducible exact H2_) | (have H2_ := (Option.bind_some _ _).symm.trans H; with_reducible exact H2_) | with_reducible exact H | (rw [hy258]; exact H) | exact H
 have Ny258 := Aside0.mk hy258
 clear hy258
 have H' := Aside0.mk H
 clear H
 go_enter Tryd.func81, Tryd.ntmps81
 go_wp2_with (first | ((with_reducible refine gate_dst (N := 1) rfl ?_); refine box_event ?hg (N := 1) ?hd (cs := #[.slice A0_0 l0_0.length c0_0]) (t := 36) ?hr ?_; (case hd => rfl); (case hg => rfl); (case hr => first | (go_simp; done) | (go_simp; rfl)); intro gb256 hg w2 hbox hb; have hb1_ := fromQ HB.out hb; have hb0_ := below_step hb1_ hb; have hW_ := below_step HB.out hb1_; have n1_ := Aside0.mk (hbox); have n2_ := szle hg hW_; have n3_ := szle hg hW_; replace HB := kH HB hb0_; have BK256 := n1_; have GW256 := n2_; have GE256 := n3_; clear hb1_ hb0_ hW_ n1_ n2_ n3_; clear hb hbox hg) | ((with_reducible refine gate_dst (N := 2) rfl ?_); refine box_event ?hg (N := 2) ?hd (cs := #[.slice none 0 0]) (t := 36) ?hr ?_; (case hd => rfl); (case hg => rfl); (case hr => first | (go_simp; done) | (go_simp; rfl)); intro gb257 hg w3 hbox hb; have hb1_ := fromQ HB.out hb; have hb0_ := below_step hb1_ hb; have hW_ := below_step HB.out hb1_; have n2_ := Aside0.mk (hbox); have n3_ := szle hg hW_; have n4_ := szle hg hW_; have n5_ := nelt hg BK256 hb1_; have n6_ := negt hg BK256 hb1_; replace BK256 := kB BK256 hb0_; replace HB := kH HB hb0_; have BK257 := n2_; have GW257 := n3_; have GE257 := n4_; have NB256_257 := n5_; have NB257_256 := n6_; clear hb1_ hb0_ hW_ n2_ n3_ n4_ n5_ n6_; clear hb hbox hg) | ((with_reducible refine gate_dst (N := 5) rfl ?_); refine Kd.S_lit k32 _ 32 ?hg (N := 5) ?hd (xs := ([] : List (S32))) (inner := []) (ok := fun _ => True) (okp := fun _ => True) ?hr ?hp (fun _ hk => hk) trivial (Below.refl _ _) (Nat.le_refl _) (by simp) ?_; (case hd => rfl); (case hg => rfl); (case hr => first | (go_simp; done) | (go_simp; rfl)); (case hp => exact (Reps.none _ _)); intro v259 w4 ho5 hb hg_ hnew_; clear hg_ hnew_; (first | rw [← Ny258.out] at ho5 | (simp only [Int.reduceToNat] at ho5; rw [← Ny258.out] at ho5)); have hb1_ := fromQ HB.out hb; have hb0_ := below_step hb1_ hb; have hW_ := below_step HB.out hb1_; have n0_ := Aside0.mk (Kd.S_lower ho5 (below_size hW_)); replace BK256 := kB BK256 hb0_; replace BK257 := kB BK257 hb0_; replace HB := kH HB hb0_; have HO260 := n0_; clear hb1_ hb0_ hW_ n0_; clear hb ho5))
 go_loopg [3, 4] k (fun kq v3 v4 w' => ∃ (x3_1 : List (S32)) (x4_1 : Int), v4 = .int .i64 x4_1 ∧ Aside0 (spec_l4Copy.l0 kq x3_1 x4_1 l0_0 = some r) ∧ Aside0 (kq ≤ k) ∧ Aside0 (Kd.S k32 32 w' w.heap.size (fun _ => True) v3 x3_1) ∧ Aside0 (w'.heap[gb256]? = some (.cells #[(.slice A0_0 l0_0.length c0_0)] 36 (0, 0))) ∧ Aside0 (w'.heap[gb257]? = some (.cells #[(.slice none 0 0)] 36 (0, 0))) ∧ Aside0 (Below w.heap.size w w'))
 case atStart => exact ⟨(y258), (0), (by first | rfl | (simp; done) | (simp [*]; done)), H', ⟨Nat.le_refl _⟩, ⟨by (with_reducible repeat (first | apply Kd.S_alloc | apply Kd.S_drewN | apply Kd.S_drew)); exact HO260.out⟩, ⟨by (with_reducible repeat (first | refine blk_drewN ?_ _ | refine blk_drew ?_ | refine blk_alloc ?_ _)); exact BK256.out⟩, ⟨by (with_reducible repeat (first | refine blk_drewN ?_ _ | refine blk_drew ?_ | refine blk_alloc ?_ _)); exact BK257.out⟩, ⟨by repeat (first | (with_reducible first | exact HB.out | apply below_alloc | apply pw_below_drewN | apply below_drew1 | refine below_set ?_ GE256.out | refine below_set ?_ GE257.out) | exact HB.out)⟩⟩
 case round =>
  clear H'
  try clear p2
  obtain ⟨x3_1, x4_1, rfl, HA, HK1, HO_3, BK256, BK257, HB⟩ := hrel
  cases gk with
  | zero => exact absurd HA.out (by simp [spec_l4Copy.l0])
  | succ k1 =>
   have H := HA.out
   clear HA
   simp only [spec_l4Copy.l0] at H
   by_cases c6 : x4_1 < (l0_0.length : Int)
   ·
    rw [if_pos c6] at H
    have c6b0 : decide (x4_1 < (l0_0.length : Int)) = true := decide_eq_true c6
    clear c6
    by_cases c7 : 0 ≤ x4_1
    ·
     rw [if_pos c7] at H
     have c7b0 : decide (0 ≤ x4_1) = true := decide_eq_true c7
     clear c7
     replace H := Option.bind_eq_some_iff.mp H
     obtain ⟨⟨t262, t263, t264, t265, t266, t269, t270, t271, t272⟩, A80, H⟩ := H
     replace H : (if x3_1.length < 1353245080339 then (spec_l4Copy.l0 k1 (x3_1 ++ [(⟨(⟨t262, t263⟩ : S29), t264, t265, t266, t269, t270, t271, t272⟩ : S32)]) (wrap64 (x4_1 + 1)) l0_0) else (none)) = some r := H
     have A8 := Aside0.mk A80
     clear A80
     by_cases c9 : x3_1.length < 1353245080339
     ·
      rw [if_pos c9] at H
      have LMc9 := Aside0.mk c9
      clear c9
      obtain ⟨y273, hy273⟩ : ∃ y_ : List (S32), y_ = (x3_1 ++ [(⟨(⟨t262, t263⟩ : S29), t264, t265, t266, t269, t270, t271, t272⟩ : S32)]) := ⟨_, rfl⟩
      replace H : (spec_l4Copy.l0 k1 y273 (wrap64 (x4_1 + 1)) l0_0) = some r := by first | (rw [hy273]; with_reducible exact H) | (have H2_ := (Option.bind_some _ _).symm.trans H; rw [hy273]; with_reducible exact H2_) | (have H2_ := (Option.bind_some _ _).symm.trans H; with_reducible exact H2_) | with_reducible exact H | (rw [hy273]; exact H) | exact H
      have Ny273 := Aside0.mk hy273
      clear hy273
      have H' := Aside0.mk H
      clear H
      have hnb10 := NB256_257.out
      have hnc10 := NB257_256.out
      obtain ⟨hcz11_0, hfz11_0⟩ := bkA1 BK256.out
      have p261 : 0 ≤ (x4_1 : Int) := of_decide_eq_true (by first | (with_reducible assumption) | assumption)
      have q261 : x4_1 < (l0_0.length : Int) := of_decide_eq_true (by first | (with_reducible assumption) | assumption)
      obtain ⟨ad261, A261_4, c261_4, e261, hx261_0, hx261_1, hx261_2, hx261_3, hx261_4, hx261_5, hx261_6, hx261_7, hx261_8, hl261_4, hi261_4⟩ := at_T32 HR0_0.out x4_1 p261 q261
      cases e261
      replace hx261_0 := bcl HB hx261_0
      replace hx261_1 := bcl HB hx261_1
      replace hx261_2 := bcl HB hx261_2
      replace hx261_3 := bcl HB hx261_3
      replace hx261_4 := bcl HB hx261_4
      replace hx261_5 := bcl HB hx261_5
      replace hx261_6 := bcl HB hx261_6
      replace hx261_7 := bcl HB hx261_7
      replace hx261_8 := bcl HB hx261_8
      have HR261_4 := Aside0.mk hi261_4
      have HC261_4 := Aside0.mk hl261_4
      clear hi261_4 hl261_4
      replace p261 := eq_true p261
      replace q261 := eq_true q261
      go_wp2_with (first | ((with_reducible refine gate_callee (f := 75) rfl ?_); refine goesL_ (some 19) rfl rfl Tryd.func75 (by kernel_rfl) rfl #[.agg #[.int .i64 ((rd_T32 l0_0 x4_1).f0.f0), .string ((rd_T32 l0_0 x4_1).f0.f1), .bool ((rd_T32 l0_0 x4_1).f1), .string ((rd_T32 l0_0 x4_1).f2), .slice A261_4 ((rd_T32 l0_0 x4_1).f3).length c261_4, .int .i64 ((rd_T32 l0_0 x4_1).f4), .int .i64 ((rd_T32 l0_0 x4_1).f5), .int .i64 ((rd_T32 l0_0 x4_1).f6), .int .i64 ((rd_T32 l0_0 x4_1).f7)]] rfl (by (try simp only [List.map_toArray, List.map_cons, List.map_nil]); first | done | rfl | (simp only [List.length_drop, List.length_take]; rfl)) ?_; (with_reducible refine (spec_l4CopySlot.calls k1 ((rd_T32 l0_0 x4_1).f0.f0) ((rd_T32 l0_0 x4_1).f0.f1) ((rd_T32 l0_0 x4_1).f1) ((rd_T32 l0_0 x4_1).f2) _ _ ((rd_T32 l0_0 x4_1).f3) ((rd_T32 l0_0 x4_1).f4) ((rd_T32 l0_0 x4_1).f5) ((rd_T32 l0_0 x4_1).f6) ((rd_T32 l0_0 x4_1).f7) t262 t263 t264 t265 t266 t269 t270 t271 t272 _ ?side1 ?side2 A8.out).mono ?_); (case side1 => repeat (first | exact (Kd.C_below HR261_4.out HB.out) | (with_reducible refine Kd.C_alloc ?_ _) | (with_reducible refine Kd.C_drewN ?_ _) | (with_reducible refine Kd.C_drew ?_))); (case side2 => exact HC261_4.out); rintro e w12 ⟨v267, rfl, ho0, hb⟩; refine ⟨_, rfl, ?_⟩; have hb1_ := fromQ HB.out hb; have hb0_ := below_step hb1_ hb; have hW_ := below_step HB.out hb1_; have n0_ := Aside0.mk (Kd.S_elder' (Kd.S_below HO_3.out hb1_) (Kd.R_base ho0) hb); have n1_ := Aside0.mk (Kd.R_lower ho0 (below_size hW_)); replace BK256 := kB BK256 hb0_; replace BK257 := kB BK257 hb0_; replace HB := kH HB hb0_; clear HO_3; have HO_3 := n0_; have HO268 := n1_; clear hb1_ hb0_ hW_ n0_ n1_; (try clear hb); (try clear hb2); (try clear hk); (try clear hi); (try clear ho0); obtain ⟨Ao14, co14, eo14⟩ := Kd.R_slice HO268.out; subst eo14) | ((with_reducible refine gate_builtin (b := .append) (xs := #[.tmp 13, .tmp 20]) rfl ?_); at_builtin; refine Kd.S_append k32 (w0 := w) w.heap.size rfl (.tmp 13) (.tmp 20) 34 32 (.agg #[(.int .i64 0), (.string ⟨#[]⟩), (.bool false), (.string ⟨#[]⟩), (.slice none 0 0), (.int .i64 0), (.int .i64 0), (.int .i64 0), (.int .i64 0)]) 104 rfl Tryd.underlying34 info32 rfl (by decide) (by omega) u3 x3_1 (⟨(⟨t262, t263⟩ : S29), t264, t265, t266, t269, t270, t271, t272⟩ : S32) [.int .i64 t262, .string t263, .bool t264, .string t265, .slice Ao14 t266.length co14, .int .i64 t269, .int .i64 t270, .int .i64 t271, .int .i64 t272] (fun _ => True) (fun k_ => some k_ = (.slice Ao14 t266.length co14 : Value).ownBlock) rfl rfl ?aP (fun k_ hk_ => ((Kd.R_mono (ok' := fun k_ => ((fun _ => True)) k_ ∧ some k_ ≠ (u3 : Value).ownBlock) (Kd.R_apart' (HO268.out) (Kd.S_typed HO_3.out) (by decide)) (fun k_ hk => ⟨trivial, hk.2⟩))).1 k_ hk_.symm) ?aF ?aO ?aB ?aS ?aL ?_; (case aP => exact k32_mkM _ _ _ (⟨(⟨t262, t263⟩ : S29), t264, t265, t266, t269, t270, t271, t272⟩ : S32) (Kd.R_mono (Kd.R_tight rfl (Kd.R_mono (ok' := fun k_ => ((fun _ => True)) k_ ∧ some k_ ≠ (u3 : Value).ownBlock) (Kd.R_apart' (HO268.out) (Kd.S_typed HO_3.out) (by decide)) (fun k_ hk => ⟨trivial, hk.2⟩))) (fun _ h_ => h_))); (case aB => exact (by repeat (first | (with_reducible first | exact HB.out | apply below_alloc | apply pw_below_drewN | apply below_drew1 | refine below_set ?_ GE256.out | refine below_set ?_ GE257.out) | exact HB.out))); (case aF => exact (fun _ _ => trivial)); (case aO => exact (by (with_reducible repeat (first | apply Kd.S_alloc | apply Kd.S_drewN | apply Kd.S_drew)); exact Kd.S_mono HO_3.out (fun k_ hk => ⟨trivial, fun e_ => hk.2 e_⟩))); (case aS => exact (below_size (by repeat (first | (with_reducible first | exact HB.out | apply below_alloc | apply pw_below_drewN | apply below_drew1 | refine below_set ?_ GE256.out | refine below_set ?_ GE257.out) | exact HB.out)))); (case aL => have := LMc9.out; omega); intro v274 w13 ho hb hg hat; rw [← Ny273.out] at ho; have n0_ := Aside0.mk (blk_grown (g := gb256) (o := .cells #[.slice (some ad261) l0_0.length c0_0] 36 (0, 0)) (by (with_reducible repeat (first | refine blk_drewN ?_ _ | refine blk_drew ?_ | refine blk_alloc ?_ _)); exact BK256.out) hg (Kd.S_ne HO_3.out BK256.out (by decide))); have n1_ := Aside0.mk (blk_grown (g := gb257) (o := .cells #[.slice none 0 0] 36 (0, 0)) (by (with_reducible repeat (first | refine blk_drewN ?_ _ | refine blk_drew ?_ | refine blk_alloc ?_ _)); exact BK257.out) hg (Kd.S_ne HO_3.out BK257.out (by decide))); have n2_ := Aside0.mk (hb); have n3_ := Aside0.mk (ho); clear BK256; clear BK257; clear HB; clear HO_3; clear HO268; have BK256 := n0_; have BK257 := n1_; have HB := n2_; have HO275 := n3_; clear n0_ n1_ n2_ n3_; clear ho hb hg hat))
      go_roundg k1
      case measure => have := HK1.out; omega
      case rel => exact ⟨(y273), (wrap64 (x4_1 + 1)), (by first | rfl | (simp; done) | (simp [*]; done)), H', ⟨by have := HK1.out; omega⟩, ⟨by (with_reducible repeat (first | apply Kd.S_alloc | apply Kd.S_drewN | apply Kd.S_drew)); exact HO275.out⟩, ⟨by (with_reducible repeat (first | refine blk_drewN ?_ _ | refine blk_drew ?_ | refine blk_alloc ?_ _)); exact BK256.out⟩, ⟨by (with_reducible repeat (first | refine blk_drewN ?_ _ | refine blk_drew ?_ | refine blk_alloc ?_ _)); exact BK257.out⟩, ⟨by repeat (first | (with_reducible first | exact HB.out | apply below_alloc | apply pw_below_drewN | apply below_drew1 | refine below_set ?_ GE256.out | refine below_set ?_ GE257.out) | exact HB.out)⟩⟩
     rw [if_neg c9] at H
     exact absurd H (by simp)
    rw [if_neg c7] at H
    exact absurd H (by simp)
   rw [if_neg c6] at H
   have c6b0 : decide (x4_1 < (l0_0.length : Int)) = false := decide_eq_false c6
   clear c6
   obtain rfl := Option.some.inj H
   have hnb15 := NB256_257.out
   have hnc15 := NB257_256.out
   obtain ⟨hcz16_0, hfz16_0⟩ := bkA1 BK256.out
   obtain ⟨Ao17, co17, eo17⟩ := Kd.S_slice HO_3.out
   subst eo17
   obtain ⟨hcz18_0, hfz18_0⟩ := bkA1 BK257.out
   go_wp2
   refine bodyPost_ret (results_cell_row rfl _ _ gb257 36 #[.slice Ao17 x3_1.length co17] (0, 0) _ rfl (by (with_reducible repeat (first | refine blk_drewN ?_ _ | refine blk_drew ?_ | refine blk_alloc ?_ _)); refine blk_put (cs := #[.slice none 0 0]) ?_ 0 _ rfl; (with_reducible repeat (first | refine blk_drewN ?_ _ | refine blk_drew ?_ | refine blk_alloc ?_ _)); exact BK257.out) Tryd.underlying36 rfl (by kernel_rfl)) rfl ?_
   exact ⟨_, by first | rfl | (simp [errW_none, errW_some] <;> rfl) | (simp [*, errW_none, errW_some] <;> rfl), by (with_reducible repeat (first | apply Kd.S_alloc | apply Kd.S_drewN | apply Kd.S_drew)); exact Kd.S_mono (Kd.S_far (p := ⟨gb257, 0, none⟩) (Kd.S_types HO_3.out BK257.out (by decide)) (fun _ hk => hk.2) (.slice Ao17 x3_1.length co17)) (fun _ hk => trivial), by repeat (first | (with_reducible first | exact HB.out | apply below_alloc | apply pw_below_drewN | apply below_drew1 | refine below_set ?_ GE256.out | refine below_set ?_ GE257.out) | exact HB.out)⟩
end Go.Proofs.YtnbohlcibgfjaaaDoor.Gp
end
